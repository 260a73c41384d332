import PyProof.Rows.All
import Wide.All
import OpenK.AllK
import Wide.FinOn
import HandS.ForMost
import HandS.Evl
import HandS.EndBits
import HandS.Defaults
import HandS.IsInst
import HandS.Style
import HandS.Strs
import HandS.Wide
import HandS.Lambda
import HandS.Nested
import HandS.SetFor
import PyProof.ReprRoads
import PyProof.ReprLen
import KE.KNest
import KE.KNestM
import HandS.List
import HandS.Dict
import HandS.More
import HandS.Exc
import HandS.Head0
import HandS.Head1
import HandS.Head2
import HandS.HeadEnd
import HandS.HeadHook1
import HandS.HeadHook2
import HandS.HeadHook3
import HandS.HeadHook4
import PySem.Challenge.RW_circlesettle_k30_whole_least_papers
set_option linter.all false
/-! M0: the data and what the small functions reckon, in core Lean. -/
namespace Cs
/-- an amount: none is endless -/
abbrev Amt := Option Int
def leA : Amt → Amt → Bool
  | _, none => true
  | none, some _ => false
  | some a, some b => decide (a ≤ b)
def shA : Amt → Int → Amt
  | none, _ => none
  | some a, c => some (if a + c > 0 then a + c else 0)
def leastOf (l : List Amt) : Amt := l.foldl (fun f o => if leA o f = true then o else f) (l.headD none)
def greatestOf (l : List Amt) : Amt := l.foldl (fun f o => if leA f o = true then o else f) (l.headD none)
abbrev Arc := Nat × Int
/-- a flat formula -/
inductive Fm where
  | amt (a : Amt)
  | least (arcs : List Arc)
  | great (arcs : List Arc)
  | when (j : Nat) (b : Int) (k : Nat)
def Fm.isA : Fm → Bool
  | .amt _ => true
  | _ => false
def Fm.isL : Fm → Bool
  | .least _ => true
  | _ => false
def Fm.isG : Fm → Bool
  | .great _ => true
  | _ => false
def Fm.isW : Fm → Bool
  | .when _ _ _ => true
  | _ => false
abbrev gA (x : List Amt) (j : Nat) : Amt := x.getD j none
def arcVals (arcs : List Arc) (x : List Amt) : List Amt := arcs.map fun p => shA (gA x p.1) p.2
def fval (f : Fm) (x : List Amt) : Amt := match f with
  | .amt a => a
  | .when j b k => if leA (some b) (gA x j) = true then gA x k else some 0
  | .least arcs => leastOf (arcVals arcs x)
  | .great arcs => greatestOf (arcVals arcs x)
def fvals (S : List Fm) (x : List Amt) : List Amt := S.map fun f => fval f x
/-! ### well-formed sheets: as the law builds them -/
structure ArcsOk (n : Nat) (arcs : List Arc) : Prop where
  ne : arcs ≠ []
  len : arcs.length ≤ 6
  ok : ∀ p ∈ arcs, p.1 < n ∧ -4 ≤ p.2 ∧ p.2 ≤ 4
def FmOk (n : Nat) : Fm → Prop
  | .amt a => ∀ i, a = some i → 0 ≤ i ∧ i ≤ 11
  | .least arcs => ArcsOk n arcs
  | .great arcs => ArcsOk n arcs
  | .when j b k => j < n ∧ k < n ∧ 1 ≤ b ∧ b ≤ 9
structure Wf (S : List Fm) : Prop where
  pos : 0 < S.length
  len : S.length ≤ 13
  ok : ∀ (i : Nat) (f : Fm), S[i]? = some f → FmOk S.length f
def Plain (S : List Fm) : Prop := ∀ (i : Nat) (f : Fm), S[i]? = some f → f.isW = false
def arcsOf : Fm → List Arc
  | .amt _ => []
  | .least arcs => arcs
  | .great arcs => arcs
  | .when _ _ k => [(k, 0)]
/-! ### conditions -/
abbrev fAt (S : List Fm) (i : Nat) : Fm := S.getD i (.amt none)
def conds (S : List Fm) : List Nat := (List.range S.length).filter fun i => (fAt S i).isW
def opnAt (pl : List Nat) (i : Nat) : Fm → Fm
  | .when _ _ k => if pl.contains i = true then .great [(k, 0)] else .amt (some 0)
  | f => f
def opn (S : List Fm) (pl : List Nat) : List Fm := S.mapIdx (opnAt pl)
def whenMet (x : List Amt) : Fm → Bool
  | .when j b _ => leA (some b) (gA x j)
  | _ => false
/-- the conditions that are fulfilled -/
def fulf (S : List Fm) (x : List Amt) : List Nat := (conds S).filter fun i => whenMet x (fAt S i)
/-! ### choices of "greatest" -/
abbrev Ch := List (Option Nat)
abbrev gC (ch : Ch) (i : Nat) : Option Nat := ch.getD i none
def toldAt (ch : Ch) (i : Nat) : Fm → List Arc
  | .great arcs => [arcs.getD ((gC ch i).getD 0) (0, 0)]
  | f => arcsOf f
def told (S : List Fm) (ch : Ch) : List (List Arc) := S.mapIdx (toldAt ch)
def ChOkAt (o : Option Nat) : Fm → Prop
  | .great arcs => ∃ k, o = some k ∧ k < arcs.length
  | _ => o = none
structure ChOk (S : List Fm) (ch : Ch) : Prop where
  len : ch.length = S.length
  at_ : ∀ (i : Nat) (f : Fm), S[i]? = some f → ChOkAt (gC ch i) f
/-! ### small facts -/
theorem foldl_take {α β : Type} {f : β → α → β} {i : β} {l : List α} {n : Nat} {x : α} (h : l[n]? = some x) : (l.take (n + 1)).foldl f i = f ((l.take n).foldl f i) x := by
  rw [List.take_add_one, h, List.foldl_append]
  rfl
theorem fAt_some {S : List Fm} {i : Nat} {f : Fm} (h : S[i]? = some f) : fAt S i = f := by
  show S.getD i _ = f
  rw [List.getD_eq_getElem?_getD, h]
  rfl
theorem gA_some {x : List Amt} {j : Nat} {a : Amt} (h : x[j]? = some a) : gA x j = a := by
  show x.getD j none = a
  rw [List.getD_eq_getElem?_getD, h]
  rfl
theorem gA_get {x : List Amt} {j : Nat} (h : j < x.length) : x[j]? = some (gA x j) := by
  rw [List.getElem?_eq_getElem h]
  exact congrArg some (gA_some (List.getElem?_eq_getElem h)).symm
theorem gC_some {x : Ch} {j : Nat} {a : Option Nat} (h : x[j]? = some a) : gC x j = a := by
  show x.getD j none = a
  rw [List.getD_eq_getElem?_getD, h]
  rfl
theorem gC_get {x : Ch} {j : Nat} (h : j < x.length) : x[j]? = some (gC x j) := by
  rw [List.getElem?_eq_getElem h]
  exact congrArg some (gC_some (List.getElem?_eq_getElem h)).symm
theorem fAt_get {S : List Fm} {i : Nat} (h : i < S.length) : S[i]? = some (fAt S i) := by
  rw [List.getElem?_eq_getElem h]
  exact congrArg some (fAt_some (List.getElem?_eq_getElem h)).symm
theorem opn_len (S : List Fm) (pl : List Nat) : (opn S pl).length = S.length := List.length_mapIdx
theorem opn_get {S : List Fm} {pl : List Nat} {i : Nat} {f : Fm} (h : S[i]? = some f) : (opn S pl)[i]? = some (opnAt pl i f) := by
  unfold opn
  rw [List.getElem?_mapIdx, h]
  rfl
theorem opn_inv {S : List Fm} {pl : List Nat} {i : Nat} {g : Fm} (h : (opn S pl)[i]? = some g) : ∃ f, S[i]? = some f ∧ g = opnAt pl i f := by
  unfold opn at h
  rw [List.getElem?_mapIdx] at h
  cases e : S[i]? with
  | none =>
    rw [e] at h
    cases h
  | some f =>
    rw [e] at h
    exact ⟨f, rfl, (Option.some.inj h).symm⟩
theorem opn_plain (S : List Fm) (pl : List Nat) : Plain (opn S pl) := by
  intro i g h
  obtain ⟨f, _, rfl⟩ := opn_inv h
  cases f with
  | amt _ => rfl
  | least _ => rfl
  | great _ => rfl
  | when j b k =>
    show (if pl.contains i = true then Fm.great [(k, 0)] else .amt (some 0)).isW = false
    split <;> rfl
theorem opn_wf {S : List Fm} (pl : List Nat) (h : Wf S) : Wf (opn S pl) := by
  refine ⟨by rw [opn_len]; exact h.pos, by rw [opn_len]; exact h.len, fun i g hg => ?_⟩
  rw [opn_len]
  obtain ⟨f, hf, rfl⟩ := opn_inv hg
  have q := h.ok i f hf
  cases f with
  | amt _ => exact q
  | least _ => exact q
  | great _ => exact q
  | when j b k =>
    show FmOk S.length (if pl.contains i = true then Fm.great [(k, 0)] else .amt (some 0))
    split
    · refine ⟨by simp, by simp, fun p hp => ?_⟩
      have e : p = (k, 0) := by simpa using hp
      subst e
      exact ⟨q.2.1, by omega, by omega⟩
    · intro i hi
      have e : (0 : Int) = i := Option.some.inj hi
      subst e
      omega
theorem told_len (S : List Fm) (ch : Ch) : (told S ch).length = S.length := List.length_mapIdx
theorem told_get {S : List Fm} {ch : Ch} {i : Nat} {f : Fm} (h : S[i]? = some f) : (told S ch)[i]? = some (toldAt ch i f) := by
  unfold told
  rw [List.getElem?_mapIdx, h]
  rfl
theorem told_inv {S : List Fm} {ch : Ch} {i : Nat} {g : List Arc} (h : (told S ch)[i]? = some g) : ∃ f, S[i]? = some f ∧ g = toldAt ch i f := by
  unfold told at h
  rw [List.getElem?_mapIdx] at h
  cases e : S[i]? with
  | none =>
    rw [e] at h
    cases h
  | some f =>
    rw [e] at h
    exact ⟨f, rfl, (Option.some.inj h).symm⟩
end Cs
set_option linter.all false
/-! M1: the loops of endless.py as folds. -/
namespace Cs
/-! ### rounds_down -/
def rdArc (i : Nat) (x : List Amt) (p : Arc) : List Amt := if leA (shA (gA x p.1) p.2) (gA x i) = true then x.set i (shA (gA x p.1) p.2) else x
abbrev gG (G : List (List Arc)) (i : Nat) : List Arc := G.getD i []
def rdCell (S : List Fm) (G : List (List Arc)) (nz : List Nat) (x : List Amt) (i : Nat) : List Amt :=
  if nz.contains i = true then x.set i (some 0) else match fAt S i with
    | .amt a => x.set i a
    | _ => (gG G i).foldl (rdArc i) x
def rdRound (S : List Fm) (G : List (List Arc)) (nz : List Nat) (x : List Amt) : List Amt := (List.range S.length).foldl (rdCell S G nz) x
def rdown (S : List Fm) (G : List (List Arc)) (nz : List Nat) : List Amt := (List.range (S.length + 1)).foldl (fun x _ => rdRound S G nz x) (List.replicate S.length none)
theorem rdArc_len (i : Nat) (x : List Amt) (p : Arc) : (rdArc i x p).length = x.length := by
  unfold rdArc
  split
  · exact List.length_set
  · rfl
theorem foldl_len {α β : Type} {f : List β → α → List β} (h : ∀ x a, (f x a).length = x.length) : ∀ (l : List α) (x : List β), (l.foldl f x).length = x.length
  | [], x => rfl
  | a :: l, x => (foldl_len h l (f x a)).trans (h x a)
theorem rdCell_len (S : List Fm) (G : List (List Arc)) (nz : List Nat) (x : List Amt) (i : Nat) : (rdCell S G nz x i).length = x.length := by
  unfold rdCell
  split
  · exact List.length_set
  · split
    · exact List.length_set
    · exact foldl_len (rdArc_len i) _ _
theorem rdRound_len (S : List Fm) (G : List (List Arc)) (nz : List Nat) (x : List Amt) : (rdRound S G nz x).length = x.length := foldl_len (rdCell_len S G nz) _ _
theorem rdown_len (S : List Fm) (G : List (List Arc)) (nz : List Nat) : (rdown S G nz).length = S.length := by
  unfold rdown
  rw [foldl_len (f := fun x _ => rdRound S G nz x) (fun x _ => rdRound_len S G nz x), List.length_replicate]
/-! ### nought_cell -/
def ncStep (cyc : List Arc) (s : Int × Int × Nat) (i : Nat) : Int × Int × Nat :=
  if s.1 + (cyc.getD i (0, 0)).2 > s.2.1 then (s.1 + (cyc.getD i (0, 0)).2, s.1 + (cyc.getD i (0, 0)).2, (cyc.getD ((i + 1) % cyc.length) (0, 0)).1) else (s.1 + (cyc.getD i (0, 0)).2, s.2.1, s.2.2)
def ncRun (cyc : List Arc) (n : Nat) : Int × Int × Nat := (List.range n).foldl (ncStep cyc) (0, 0, (cyc.getD 0 (0, 0)).1)
def nought (cyc : List Arc) : Nat := (ncRun cyc cyc.length).2.2
theorem ncRun_succ (cyc : List Arc) (n : Nat) : ncRun cyc (n + 1) = ncStep cyc (ncRun cyc n) n := by
  unfold ncRun
  rw [List.range_succ, List.foldl_append]
  rfl
theorem range_fold_succ {β : Type} (f : β → Nat → β) (b : β) (n : Nat) : (List.range (n + 1)).foldl f b = f ((List.range n).foldl f b) n := by
  rw [List.range_succ, List.foldl_append]
  rfl
/-! ### circle_below -/
structure CB where
  d : List Int
  st : List (Option Arc)
  last : Option Nat
def cbArc (m : Int) (u : Nat) (s : CB) (p : Arc) : CB :=
  if s.d.getD p.1 0 + (m * p.2 - 1) < s.d.getD u 0 then ⟨s.d.set u (s.d.getD p.1 0 + (m * p.2 - 1)), s.st.set u (some p), some u⟩ else s
def cbCell (G : List (List Arc)) (s : CB) (u : Nat) : CB := (gG G u).foldl (cbArc (G.length : Int) u) s
def cbRound (G : List (List Arc)) (s : CB) : CB := (List.range G.length).foldl (cbCell G) { s with last := none }
/-- so many rounds; none: some round changed nothing -/
def cbLoop (G : List (List Arc)) : Nat → CB → Option CB
  | 0, s => some s
  | k + 1, s => if (cbRound G s).last = none then none else cbLoop G k (cbRound G s)
def cb0 (n : Nat) : CB := ⟨List.replicate n 0, List.replicate n none, none⟩
abbrev gS (st : List (Option Arc)) (u : Nat) : Option Arc := st.getD u none
/-- along the steps -/
def nxt (st : List (Option Arc)) (u : Nat) : Nat := ((gS st u).getD (0, 0)).1
def itN (st : List (Option Arc)) : Nat → Nat → Nat
  | 0, u => u
  | k + 1, u => nxt st (itN st k u)
theorem cbArc_len (m : Int) (u : Nat) (s : CB) (p : Arc) : (cbArc m u s p).d.length = s.d.length ∧ (cbArc m u s p).st.length = s.st.length := by
  unfold cbArc
  split
  · exact ⟨List.length_set, List.length_set⟩
  · exact ⟨rfl, rfl⟩
theorem cbFold_len (m : Int) (u : Nat) : ∀ (l : List Arc) (s : CB), (l.foldl (cbArc m u) s).d.length = s.d.length ∧ (l.foldl (cbArc m u) s).st.length = s.st.length
  | [], s => ⟨rfl, rfl⟩
  | p :: l, s => by
    have h := cbFold_len m u l (cbArc m u s p)
    have h2 := cbArc_len m u s p
    exact ⟨h.1.trans h2.1, h.2.trans h2.2⟩
theorem cbCells_len (G : List (List Arc)) : ∀ (l : List Nat) (s : CB), (l.foldl (cbCell G) s).d.length = s.d.length ∧ (l.foldl (cbCell G) s).st.length = s.st.length
  | [], s => ⟨rfl, rfl⟩
  | u :: l, s => by
    have h := cbCells_len G l (cbCell G s u)
    have h2 := cbFold_len (G.length : Int) u (gG G u) s
    exact ⟨h.1.trans h2.1, h.2.trans h2.2⟩
theorem cbRound_len (G : List (List Arc)) (s : CB) : (cbRound G s).d.length = s.d.length ∧ (cbRound G s).st.length = s.st.length := cbCells_len G _ _
end Cs
namespace Cs
/-! ### what shows_endless asks -/
structure GOk (n : Nat) (G : List (List Arc)) : Prop where
  len : G.length = n
  sz : ∀ (i : Nat) (l : List Arc), G[i]? = some l → l.length ≤ 6
  ok : ∀ (i : Nat) (l : List Arc), G[i]? = some l → ∀ p ∈ l, p.1 < n ∧ -4 ≤ p.2 ∧ p.2 ≤ 4
theorem gG_some {G : List (List Arc)} {i : Nat} {l : List Arc} (h : G[i]? = some l) : gG G i = l := by
  show G.getD i [] = l
  rw [List.getD_eq_getElem?_getD, h]
  rfl
theorem gG_get {G : List (List Arc)} {i : Nat} (h : i < G.length) : G[i]? = some (gG G i) := by
  rw [List.getElem?_eq_getElem h]
  exact congrArg some (gG_some (List.getElem?_eq_getElem h)).symm
theorem arcsOf_ok {n : Nat} {f : Fm} (h : FmOk n f) : (arcsOf f).length ≤ 6 ∧ ∀ p ∈ arcsOf f, p.1 < n ∧ -4 ≤ p.2 ∧ p.2 ≤ 4 := by
  cases f with
  | amt _ => exact ⟨Nat.zero_le _, fun p hp => by cases hp⟩
  | least _ => exact ⟨h.len, h.ok⟩
  | great _ => exact ⟨h.len, h.ok⟩
  | when j b k =>
    refine ⟨by show 1 ≤ 6; omega, fun p hp => ?_⟩
    have e : p = (k, 0) := by simpa [arcsOf] using hp
    subst e
    exact ⟨h.2.1, by omega, by omega⟩
theorem told_gok {S : List Fm} {ch : Ch} (h : Wf S) (hc : ChOk S ch) : GOk S.length (told S ch) := by
  have key : ∀ (i : Nat) (l : List Arc), (told S ch)[i]? = some l → l.length ≤ 6 ∧ ∀ p ∈ l, p.1 < S.length ∧ -4 ≤ p.2 ∧ p.2 ≤ 4 := fun i l hl => by
    obtain ⟨f, hf, rfl⟩ := told_inv hl
    have hok := h.ok i f hf
    have hca := hc.at_ i f hf
    cases f with
    | great arcs =>
      obtain ⟨k, hk, hk2⟩ := hca
      refine ⟨by show 1 ≤ 6; omega, fun p hp => ?_⟩
      have e : p = arcs.getD ((gC ch i).getD 0) (0, 0) := by simpa [toldAt] using hp
      rw [hk] at e
      have e2 : p = arcs[k] := by
        rw [e]
        show arcs.getD k (0, 0) = _
        rw [List.getD_eq_getElem?_getD, List.getElem?_eq_getElem hk2]
        rfl
      rw [e2]
      exact hok.ok _ (List.getElem_mem hk2)
    | amt x => exact arcsOf_ok (f := .amt x) hok
    | least x => exact arcsOf_ok (f := .least x) hok
    | when j b k => exact arcsOf_ok (f := .when j b k) hok
  exact ⟨told_len S ch, fun i l h => (key i l h).1, fun i l h => (key i l h).2⟩
/-- the cells that have a potential -/
def potCells (n : Nat) (pt : List Amt) : List Nat := (List.range n).filter fun i => (gA pt i).isSome
/-- point 26 of the document -/
structure Shows (S : List Fm) (ch : Ch) (pt : List Amt) : Prop where
  len : pt.length = S.length
  amt : ∀ (i : Nat) (u : Int) (a : Amt), gA pt i = some u → i < S.length → fAt S i = .amt a → a = none
  arcs : ∀ (i : Nat) (u : Int), gA pt i = some u → i < S.length → ∀ p ∈ gG (told S ch) i, ∃ q, gA pt p.1 = some q ∧ u - q ≤ ((potCells S.length pt).length : Int) * p.2 - 1
theorem potCells_len (n : Nat) (pt : List Amt) : (potCells n pt).length ≤ n := by
  have h := List.length_filter_le (fun i => (gA pt i).isSome) (List.range n)
  rw [List.length_range] at h
  exact h
theorem mem_potCells {n : Nat} {pt : List Amt} {i : Nat} : i ∈ potCells n pt ↔ i < n ∧ (gA pt i).isSome = true := by
  unfold potCells
  rw [List.mem_filter, List.mem_range]
end Cs
set_option linter.all false
/-! M2: circle_below: either the dues are potentials, or the steps hold a circle of weight < 0. -/
namespace Cs
def gD (d : List Int) (u : Nat) : Int := d.getD u 0
theorem getD_set_eq {α : Type} {l : List α} {i : Nat} {a z : α} (h : i < l.length) : (l.set i a).getD i z = a := by
  rw [List.getD_eq_getElem?_getD, List.getElem?_set_self h]
  rfl
theorem getD_set_ne {α : Type} {l : List α} {i j : Nat} {a z : α} (h : i ≠ j) : (l.set i a).getD j z = l.getD j z := by
  rw [List.getD_eq_getElem?_getD, List.getD_eq_getElem?_getD, List.getElem?_set_ne h]
theorem pigeon : ∀ (n : Nat) (f : Nat → Nat), (∀ i, i ≤ n → f i < n) → ∃ i j, i < j ∧ j ≤ n ∧ f i = f j
  | 0, f, h => absurd (h 0 (Nat.le_refl _)) (Nat.not_lt_zero _)
  | n + 1, f, h => by
    by_cases hex : ∃ i, i ≤ n ∧ f i = f (n + 1)
    · obtain ⟨i, hi, e⟩ := hex
      exact ⟨i, n + 1, by omega, Nat.le_refl _, e⟩
    · have hne : ∀ i, i ≤ n → f i ≠ f (n + 1) := fun i hi e => hex ⟨i, hi, e⟩
      obtain ⟨i, j, h1, h2, h3⟩ := pigeon n (fun i => if f i = n then f (n + 1) else f i) (fun i hi => by
        show (if f i = n then f (n + 1) else f i) < n
        have a := h i (by omega)
        have b := h (n + 1) (Nat.le_refl _)
        have c := hne i hi
        by_cases q : f i = n
        · rw [if_pos q]
          omega
        · rw [if_neg q]
          omega)
      have c1 := hne i (by omega)
      have c2 := hne j h2
      refine ⟨i, j, h1, by omega, ?_⟩
      have h3 : (if f i = n then f (n + 1) else f i) = if f j = n then f (n + 1) else f j := h3
      by_cases q : f i = n
      · rw [if_pos q] at h3
        by_cases q2 : f j = n
        · rw [q, q2]
        · rw [if_neg q2] at h3
          exact absurd h3.symm c2
      · rw [if_neg q] at h3
        by_cases q2 : f j = n
        · rw [if_pos q2] at h3
          exact absurd h3 c1
        · rw [if_neg q2] at h3
          exact h3
theorem exists_min {p : Nat → Prop} : ∀ n, p n → ∃ k, p k ∧ ∀ j, j < k → ¬ p j := by
  intro n
  induction n using Nat.strongRecOn with
  | ind n ih =>
    intro h
    by_cases hex : ∃ j, j < n ∧ p j
    · obtain ⟨j, h1, h2⟩ := hex
      exact ih j h1 h2
    · exact ⟨n, h, fun j h1 h2 => hex ⟨j, h1, h2⟩⟩
/-! the cells es (N of them), the weights N * shift - 1 -/
def cbCellM (N : Nat) (G : List (List Arc)) (s : CB) (u : Nat) : CB := (gG G u).foldl (cbArc (N : Int) u) s
def cbRoundM (N : Nat) (es : List Nat) (G : List (List Arc)) (s : CB) : CB := es.foldl (cbCellM N G) { s with last := none }
section
variable (N : Nat) (es : List Nat) (G : List (List Arc))
/-- the weight of an arc -/
def wG (p : Arc) : Int := (N : Int) * p.2 - 1
structure CBI (s : CB) : Prop where
  ld : s.d.length = G.length
  lst : s.st.length = G.length
  i1 : ∀ u p, gS s.st u = some p → u ∈ es ∧ p ∈ gG G u ∧ gD s.d p.1 + wG N p ≤ gD s.d u
  i2 : ∀ u, gS s.st u = none → gD s.d u = 0
  i3 : ∀ U : Nat → Prop, (∃ u, U u) → (∀ u, U u → ∃ p, gS s.st u = some p ∧ U p.1) → (∀ y, U y → ∃ x p, U x ∧ gS s.st x = some p ∧ p.1 = y) → ∃ x p, U x ∧ gS s.st x = some p ∧ gD s.d p.1 + wG N p < gD s.d x
variable {N es G}
theorem cbArc_eq (s : CB) (u : Nat) (p : Arc) : cbArc (N : Int) u s p = if gD s.d p.1 + wG N p < gD s.d u then ⟨s.d.set u (gD s.d p.1 + wG N p), s.st.set u (some p), some u⟩ else s := rfl
theorem gD_eq {d : List Int} {u : Nat} {a : Int} (h : u < d.length) : gD (d.set u a) u = a := getD_set_eq h
theorem gD_ne {d : List Int} {u x : Nat} {a : Int} (h : u ≠ x) : gD (d.set u a) x = gD d x := getD_set_ne h
theorem gD_le {d : List Int} {u : Nat} {a : Int} (hu : u < d.length) (h : a < gD d u) (x : Nat) : gD (d.set u a) x ≤ gD d x := by
  by_cases e : u = x
  · subst e
    rw [gD_eq hu]
    omega
  · rw [gD_ne e]
    exact Int.le_refl _
theorem cbi_arc {s : CB} {u : Nat} {p : Arc} (I : CBI N es G s) (hes : ∀ u ∈ es, u < G.length) (hu : u ∈ es) (hp : p ∈ gG G u) : CBI N es G (cbArc (N : Int) u s p) := by
  rw [cbArc_eq]
  by_cases hlt : gD s.d p.1 + wG N p < gD s.d u
  case neg =>
    rw [if_neg hlt]
    exact I
  case pos =>
    rw [if_pos hlt]
    have hud : u < s.d.length := by rw [I.ld]; exact hes u hu
    have hus : u < s.st.length := by rw [I.lst]; exact hes u hu
    have sEq : gS (s.st.set u (some p)) u = some p := getD_set_eq hus
    have sNe : ∀ x, u ≠ x → gS (s.st.set u (some p)) x = gS s.st x := fun x h => getD_set_ne h
    refine ⟨by rw [List.length_set]; exact I.ld, by rw [List.length_set]; exact I.lst, fun x q hx => ?_, fun x hx => ?_, fun U hU hc hs => ?_⟩
    · have dle := gD_le hud hlt
      by_cases e : u = x
      · subst e
        rw [sEq] at hx
        have e2 : p = q := Option.some.inj hx
        subst e2
        refine ⟨hu, hp, ?_⟩
        rw [gD_eq hud]
        have := dle p.1
        dsimp only
        omega
      · rw [sNe x e] at hx
        obtain ⟨h1, h2, h3⟩ := I.i1 x q hx
        refine ⟨h1, h2, ?_⟩
        rw [gD_ne e]
        have := dle q.1
        dsimp only
        omega
    · by_cases e : u = x
      · subst e
        rw [sEq] at hx
        cases hx
      · rw [sNe x e] at hx
        rw [gD_ne e]
        exact I.i2 x hx
    · by_cases hUu : U u
      · obtain ⟨x, q, hx, hq, he⟩ := hs u hUu
        refine ⟨x, q, hx, hq, ?_⟩
        rw [he]
        by_cases e : u = x
        · subst e
          rw [sEq] at hq
          have e2 : p = q := Option.some.inj hq
          subst e2
          rw [gD_eq hud]
          rw [he] at hlt ⊢
          omega
        · rw [sNe x e] at hq
          obtain ⟨_, _, h3⟩ := I.i1 x q hq
          rw [gD_eq hud, gD_ne e]
          rw [he] at h3
          omega
      · have hne : ∀ x, U x → u ≠ x := fun x hx e => hUu (by rw [e]; exact hx)
        obtain ⟨x, q, hx, hq, hl⟩ := I.i3 U hU (fun x hx => by
          obtain ⟨q, h1, h2⟩ := hc x hx
          rw [sNe x (hne x hx)] at h1
          exact ⟨q, h1, h2⟩) (fun y hy => by
          obtain ⟨x, q, h1, h2, h3⟩ := hs y hy
          rw [sNe x (hne x h1)] at h2
          exact ⟨x, q, h1, h2, h3⟩)
        refine ⟨x, q, hx, by rw [sNe x (hne x hx)]; exact hq, ?_⟩
        obtain ⟨q2, h1, h2⟩ := hc x hx
        rw [sNe x (hne x hx), hq] at h1
        have e2 : q = q2 := Option.some.inj h1
        subst e2
        rw [gD_ne (hne x hx), gD_ne (hne q.1 h2)]
        exact hl
/-- what a turn does to the dues; who is told last -/
structure CBD (d0 : List Int) (s : CB) : Prop where
  le : ∀ x, gD s.d x ≤ gD d0 x
  lt : ∀ x, s.last = some x → gD s.d x < gD d0 x ∧ x ∈ es
  eq : s.last = none → s.d = d0
theorem cbd_arc {d0 : List Int} {s : CB} {u : Nat} {p : Arc} (I : CBI N es G s) (D : CBD (es := es) d0 s) (hes : ∀ u ∈ es, u < G.length) (hu : u ∈ es) : CBD (es := es) d0 (cbArc (N : Int) u s p) ∧ gD (cbArc (N : Int) u s p).d u ≤ gD s.d p.1 + wG N p ∧ ∀ x, gD (cbArc (N : Int) u s p).d x ≤ gD s.d x := by
  rw [cbArc_eq]
  by_cases hlt : gD s.d p.1 + wG N p < gD s.d u
  case neg =>
    rw [if_neg hlt]
    exact ⟨D, by omega, fun x => Int.le_refl _⟩
  case pos =>
    rw [if_pos hlt]
    have hud : u < s.d.length := by rw [I.ld]; exact hes u hu
    have dle := gD_le hud hlt
    refine ⟨⟨fun x => Int.le_trans (dle x) (D.le x), fun x hx => ?_, fun h => by cases h⟩, Int.le_of_eq (gD_eq hud), dle⟩
    have e : u = x := Option.some.inj hx
    subst e
    have := D.le u
    refine ⟨?_, hu⟩
    rw [gD_eq hud]
    omega
theorem cb_fold {d0 : List Int} {u : Nat} (hes : ∀ u ∈ es, u < G.length) (hu : u ∈ es) : ∀ (l : List Arc) (s : CB), (∀ p ∈ l, p ∈ gG G u) → CBI N es G s → CBD (es := es) d0 s → CBI N es G (l.foldl (cbArc (N : Int) u) s) ∧ CBD (es := es) d0 (l.foldl (cbArc (N : Int) u) s) ∧ (∀ q : Arc, q ∈ l → gD (l.foldl (cbArc (N : Int) u) s).d u ≤ gD d0 q.1 + wG N q) ∧ ∀ x, gD (l.foldl (cbArc (N : Int) u) s).d x ≤ gD s.d x
  | [], s, _, I, D => ⟨I, D, fun q hq => absurd hq (by simp), fun x => Int.le_refl _⟩
  | p :: l, s, hl, I, D => by
    have I1 := cbi_arc I hes hu (hl p List.mem_cons_self)
    obtain ⟨D1, r1, m1⟩ := cbd_arc (p := p) I D hes hu
    obtain ⟨I2, D2, r2, m2⟩ := cb_fold hes hu l (cbArc (N : Int) u s p) (fun q hq => hl q (List.mem_cons_of_mem _ hq)) I1 D1
    refine ⟨I2, D2, fun q hq => ?_, fun x => Int.le_trans (m2 x) (m1 x)⟩
    rcases List.mem_cons.mp hq with e | hq
    · subst e
      have a := m2 u
      have b := D.le q.1
      show gD (l.foldl (cbArc (N : Int) u) (cbArc (N : Int) u s q)).d u ≤ gD d0 q.1 + wG N q
      omega
    · exact r2 q hq
theorem cb_cells {d0 : List Int} (hes : ∀ u ∈ es, u < G.length) : ∀ (l : List Nat) (s : CB), (∀ u ∈ l, u ∈ es) → CBI N es G s → CBD (es := es) d0 s → CBI N es G (l.foldl (cbCellM N G) s) ∧ CBD (es := es) d0 (l.foldl (cbCellM N G) s) ∧ (∀ u ∈ l, ∀ p ∈ gG G u, gD (l.foldl (cbCellM N G) s).d u ≤ gD d0 p.1 + wG N p) ∧ ∀ x, gD (l.foldl (cbCellM N G) s).d x ≤ gD s.d x
  | [], s, _, I, D => ⟨I, D, fun u hu => absurd hu (by simp), fun x => Int.le_refl _⟩
  | u :: l, s, hl, I, D => by
    obtain ⟨I1, D1, r1, m1⟩ := cb_fold (d0 := d0) hes (hl u List.mem_cons_self) (gG G u) s (fun p hp => hp) I D
    obtain ⟨I2, D2, r2, m2⟩ := cb_cells hes l (cbCellM N G s u) (fun q hq => hl q (List.mem_cons_of_mem _ hq)) I1 D1
    refine ⟨I2, D2, fun v hv p hp => ?_, fun x => Int.le_trans (m2 x) (m1 x)⟩
    rcases List.mem_cons.mp hv with e | hv
    · subst e
      exact Int.le_trans (m2 v) (r1 p hp)
    · exact r2 v hv p hp
theorem cb_round {s : CB} (hes : ∀ u ∈ es, u < G.length) (I : CBI N es G s) : CBI N es G (cbRoundM N es G s) ∧ CBD (es := es) s.d (cbRoundM N es G s) ∧ ∀ u ∈ es, ∀ p ∈ gG G u, gD (cbRoundM N es G s).d u ≤ gD s.d p.1 + wG N p := by
  have I0 : CBI N es G { s with last := none } := ⟨I.ld, I.lst, I.i1, I.i2, I.i3⟩
  obtain ⟨I1, D1, r1, _⟩ := cb_cells (d0 := s.d) hes es { s with last := none } (fun u hu => hu) I0 ⟨fun x => Int.le_refl _, (fun x hx => by cases hx), fun _ => rfl⟩
  exact ⟨I1, D1, fun u hu p hp => r1 u hu p hp⟩
def itR (N : Nat) (es : List Nat) (G : List (List Arc)) : Nat → CB → CB
  | 0, s => s
  | k + 1, s => itR N es G k (cbRoundM N es G s)
theorem itR_succ : ∀ (k : Nat) (s : CB), itR N es G (k + 1) s = cbRoundM N es G (itR N es G k s)
  | 0, s => rfl
  | k + 1, s => itR_succ k (cbRoundM N es G s)
theorem itR_inv {s : CB} (hes : ∀ u ∈ es, u < G.length) (I : CBI N es G s) : ∀ k, CBI N es G (itR N es G k s)
  | 0 => I
  | k + 1 => by
    rw [itR_succ]
    exact (cb_round hes (itR_inv hes I k)).1
theorem itR_mono {s : CB} (hes : ∀ u ∈ es, u < G.length) (I : CBI N es G s) {j : Nat} : ∀ k, j ≤ k → ∀ x, gD (itR N es G k s).d x ≤ gD (itR N es G j s).d x
  | 0, h, x => by
    have e : j = 0 := by omega
    subst e
    exact Int.le_refl _
  | k + 1, h, x => by
    by_cases e : j = k + 1
    · subst e
      exact Int.le_refl _
    · rw [itR_succ]
      exact Int.le_trans ((cb_round hes (itR_inv hes I k)).2.1.le x) (itR_mono hes I k (by omega) x)
theorem cb0_inv : CBI N es G (cb0 G.length) := by
  have sn : ∀ u, gS (cb0 G.length).st u = none := fun u => by
    show (List.replicate G.length (none : Option Arc)).getD u none = none
    rw [List.getD_eq_getElem?_getD, List.getElem?_replicate]
    split <;> rfl
  have dn : ∀ u, gD (cb0 G.length).d u = 0 := fun u => by
    show (List.replicate G.length (0 : Int)).getD u 0 = 0
    rw [List.getD_eq_getElem?_getD, List.getElem?_replicate]
    split <;> rfl
  refine ⟨List.length_replicate, List.length_replicate, fun u p h => ?_, fun u _ => dn u, fun U hU hc _ => ?_⟩
  · rw [sn u] at h
    cases h
  · obtain ⟨u, hu⟩ := hU
    obtain ⟨p, hp, _⟩ := hc u hu
    rw [sn u] at hp
    cases hp
/-! ### a circle -/
/-- the sum of the first shifts of a circle -/
def tot (cyc : List Arc) : Nat → Int
  | 0 => 0
  | i + 1 => tot cyc i + (cyc.getD i (0, 0)).2
structure CircN (N : Nat) (G : List (List Arc)) (cyc : List Arc) : Prop where
  pos : 0 < cyc.length
  len : cyc.length ≤ N
  lt : ∀ i, i < cyc.length → (cyc.getD i (0, 0)).1 < G.length
  arc : ∀ i, i < cyc.length → ((cyc.getD ((i + 1) % cyc.length) (0, 0)).1, (cyc.getD i (0, 0)).2) ∈ gG G (cyc.getD i (0, 0)).1
  low : (N : Int) * tot cyc cyc.length < cyc.length
/-- what circle_below gathers: k cells from l on -/
def cycOf (st : List (Option Arc)) (l k : Nat) : List Arc := (List.range k).map fun i => (itN st i l, ((gS st (itN st i l)).getD (0, 0)).2)
theorem cycOf_len {st : List (Option Arc)} {l k : Nat} : (cycOf st l k).length = k := by
  unfold cycOf
  rw [List.length_map, List.length_range]
theorem cycOf_get {st : List (Option Arc)} {l k i : Nat} (h : i < k) : (cycOf st l k)[i]? = some (itN st i l, ((gS st (itN st i l)).getD (0, 0)).2) := by
  unfold cycOf
  rw [List.getElem?_map, List.getElem?_range h]
  rfl
theorem cycOf_getD {st : List (Option Arc)} {l k i : Nat} (h : i < k) : (cycOf st l k).getD i (0, 0) = (itN st i l, ((gS st (itN st i l)).getD (0, 0)).2) := by
  rw [List.getD_eq_getElem?_getD, cycOf_get h]
  rfl
theorem cycOf_succ {st : List (Option Arc)} {l k : Nat} : cycOf st l (k + 1) = cycOf st l k ++ [(itN st k l, ((gS st (itN st k l)).getD (0, 0)).2)] := by
  unfold cycOf
  rw [List.range_succ, List.map_append]
  rfl
theorem itN_add (st : List (Option Arc)) (a : Nat) : ∀ (i j : Nat), itN st (i + j) a = itN st i (itN st j a)
  | 0, j => by
    rw [Nat.zero_add]
    rfl
  | i + 1, j => by
    have e : i + 1 + j = (i + j) + 1 := by omega
    rw [e]
    show nxt st (itN st (i + j) a) = nxt st (itN st i (itN st j a))
    rw [itN_add st a i j]
theorem sum_le (D w T : Nat → Int) (h0 : T 0 = 0) (hs : ∀ i, T (i + 1) = T i + w i) : ∀ k, (∀ i, i < k → D (i + 1) + w i ≤ D i) → T k ≤ D 0 - D k
  | 0, _ => by omega
  | k + 1, h => by
    have a := sum_le D w T h0 hs k fun i hi => h i (by omega)
    have b := h k (by omega)
    have c := hs k
    omega
theorem sum_lt (D w T : Nat → Int) (h0 : T 0 = 0) (hs : ∀ i, T (i + 1) = T i + w i) : ∀ k, (∀ i, i < k → D (i + 1) + w i ≤ D i) → (∃ i, i < k ∧ D (i + 1) + w i < D i) → T k < D 0 - D k
  | 0, _, ⟨i, hi, _⟩ => absurd hi (Nat.not_lt_zero _)
  | k + 1, h, ⟨i, hi, hl⟩ => by
    have c := hs k
    by_cases e : i = k
    · subst e
      have a := sum_le D w T h0 hs i fun j hj => h j (by omega)
      omega
    · have a := sum_lt D w T h0 hs k (fun j hj => h j (by omega)) ⟨i, by omega, hl⟩
      have b := h k (by omega)
      omega
theorem pigeonL (es : List Nat) (f : Nat → Nat) (h : ∀ i, i ≤ es.length → f i ∈ es) : ∃ i j, i < j ∧ j ≤ es.length ∧ f i = f j := by
  have h2 : ∀ i, ∃ k, i ≤ es.length → k < es.length ∧ es[k]? = some (f i) := fun i => by
    by_cases q : i ≤ es.length
    · obtain ⟨k, hk, e⟩ := List.mem_iff_getElem.mp (h i q)
      exact ⟨k, fun _ => ⟨hk, by rw [List.getElem?_eq_getElem hk, e]⟩⟩
    · exact ⟨0, fun z => absurd z q⟩
  obtain ⟨i, j, h3, h4, h5⟩ := pigeon es.length (fun i => Classical.choose (h2 i)) (fun i hi => (Classical.choose_spec (h2 i) hi).1)
  have h5 : Classical.choose (h2 i) = Classical.choose (h2 j) := h5
  have a := (Classical.choose_spec (h2 i) (by omega)).2
  have b := (Classical.choose_spec (h2 j) h4).2
  rw [h5, b] at a
  exact ⟨i, j, h3, h4, (Option.some.inj a).symm⟩
/-- one more round than cells, and still something changed: the steps never end, the circle that they hold lies below -/
theorem cb_chain (hes : ∀ u ∈ es, u < G.length) (hN : es.length = N) {s : CB} (hsR : s = cbRoundM N es G (itR N es G N (cb0 G.length))) {a : Nat} (ea : s.last = some a) :
    s.st.length = G.length ∧ (∀ i, ∃ p, gS s.st (itN s.st i a) = some p ∧ itN s.st i a ∈ es) ∧ ∃ k, 0 < k ∧ k ≤ N ∧ itN s.st k (itN s.st N a) = itN s.st N a ∧ (∀ j, 0 < j → j < k → itN s.st j (itN s.st N a) ≠ itN s.st N a) ∧ CircN N G (cycOf s.st (itN s.st N a) k) ∧ ∀ i, i < k → ((cycOf s.st (itN s.st N a) k).getD i (0, 0)).1 ∈ es := by
  have I0 := cb0_inv (N := N) (es := es) (G := G)
  have IN := itR_inv hes I0 N
  have R := cb_round hes IN
  have Is : CBI N es G s := by
    rw [hsR]
    exact R.1
  rw [← hsR] at R
  obtain ⟨hlt, han⟩ := R.2.1.lt a ea
  -- the dues' low end: no walk of so many steps ends without a step
  have nonone : ∀ j, j ≤ N → (∀ i, i < j → ∃ p, gS s.st (itN s.st i a) = some p) → ∃ p, gS s.st (itN s.st j a) = some p := by
    intro j hj hsome
    cases er : gS s.st (itN s.st j a) with
    | some p => exact ⟨p, rfl⟩
    | none =>
      exfalso
      have key : ∀ i, i ≤ j → gD (itR N es G i (cb0 G.length)).d (itN s.st (j - i) a) ≤ gD s.d (itN s.st (j - i) a) := by
        intro i
        induction i with
        | zero =>
          intro _
          have e0 : gD (itR N es G 0 (cb0 G.length)).d (itN s.st (j - 0) a) = 0 := by
            refine I0.i2 _ ?_
            show (List.replicate G.length (none : Option Arc)).getD _ none = none
            rw [List.getD_eq_getElem?_getD, List.getElem?_replicate]
            split <;> rfl
          have e1 : gD s.d (itN s.st (j - 0) a) = 0 := Is.i2 _ er
          omega
        | succ i ih =>
          intro hi
          have a1 := ih (by omega)
          obtain ⟨p, hp⟩ := hsome (j - (i + 1)) (by omega)
          obtain ⟨b1, b2, b3⟩ := Is.i1 _ p hp
          have en : itN s.st (j - i) a = p.1 := by
            have e : j - i = (j - (i + 1)) + 1 := by omega
            rw [e]
            show ((gS s.st (itN s.st (j - (i + 1)) a)).getD (0, 0)).1 = p.1
            rw [hp]
            rfl
          rw [en] at a1
          have r := (cb_round hes (itR_inv hes I0 i)).2.2 _ b1 p b2
          rw [itR_succ]
          omega
      have k1 := key j (Nat.le_refl _)
      rw [Nat.sub_self] at k1
      have k2 := itR_mono hes I0 N hj a
      have k1 : gD (itR N es G j (cb0 G.length)).d a ≤ gD s.d a := k1
      omega
  have first : ∀ j, j ≤ N → ∃ p, gS s.st (itN s.st j a) = some p := by
    intro j
    induction j using Nat.strongRecOn with
    | ind j ih =>
      intro hj
      exact nonone j hj fun i hi => ih i hi (by omega)
  have lt1 : ∀ j, j ≤ N → itN s.st j a ∈ es := fun j hj => by
    obtain ⟨p, hp⟩ := first j hj
    exact (Is.i1 _ p hp).1
  obtain ⟨x, y, hxy, hy, exy⟩ := pigeonL es (fun i => itN s.st i a) (by rw [hN]; exact lt1)
  rw [hN] at hy
  have exy : itN s.st x a = itN s.st y a := exy
  have back : ∀ m, y ≤ m → itN s.st m a = itN s.st (m - y + x) a := fun m hm => by
    have e1 : m = (m - y) + y := by omega
    have e2 := itN_add s.st a (m - y) y
    rw [← e1] at e2
    rw [e2, ← exy, ← itN_add]
  have all : ∀ i, ∃ p, gS s.st (itN s.st i a) = some p ∧ itN s.st i a ∈ es := by
    intro i
    induction i using Nat.strongRecOn with
    | ind i ih =>
      by_cases q : i ≤ N
      · obtain ⟨p, hp⟩ := first i q
        exact ⟨p, hp, lt1 i q⟩
      · rw [back i (by omega)]
        exact ih _ (by omega)
  refine ⟨Is.lst, all, ?_⟩
  have per : itN s.st (y - x) (itN s.st N a) = itN s.st N a := by
    rw [← itN_add, back (y - x + N) (by omega)]
    have e : y - x + N - y + x = N := by omega
    rw [e]
  obtain ⟨k, ⟨hk0, hk1⟩, hmin⟩ := exists_min (p := fun k => 0 < k ∧ itN s.st k (itN s.st N a) = itN s.st N a) (y - x) ⟨by omega, per⟩
  have hkn : k ≤ N := by
    by_cases q : k ≤ y - x
    · omega
    · exact absurd ⟨by omega, per⟩ (hmin (y - x) (by omega))
  generalize hL : itN s.st N a = L at hk1 hmin ⊢
  have allL : ∀ i, ∃ p, gS s.st (itN s.st i L) = some p ∧ itN s.st i L ∈ es := fun i => by
    rw [← hL, ← itN_add]
    exact all _
  have nx : ∀ i p, gS s.st (itN s.st i L) = some p → itN s.st (i + 1) L = p.1 := fun i p hp => by
    show ((gS s.st (itN s.st i L)).getD (0, 0)).1 = p.1
    rw [hp]
    rfl
  have wrap : ∀ i, i < k → itN s.st ((i + 1) % k) L = itN s.st (i + 1) L := fun i hi => by
    by_cases e : i + 1 = k
    · rw [e, Nat.mod_self, hk1]
      rfl
    · rw [Nat.mod_eq_of_lt (by omega)]
  refine ⟨k, hk0, hkn, hk1, fun j h1 h2 e => hmin j h2 ⟨h1, e⟩, ?_, fun i hi => by
    rw [cycOf_getD hi]
    exact (allL i).elim fun p hp => hp.2⟩
  refine ⟨by rw [cycOf_len]; exact hk0, by rw [cycOf_len]; exact hkn, fun i hi => ?_, fun i hi => ?_, ?_⟩
  · rw [cycOf_len] at hi
    rw [cycOf_getD hi]
    exact hes _ ((allL i).elim fun p hp => hp.2)
  · rw [cycOf_len] at hi ⊢
    rw [cycOf_getD hi, cycOf_getD (Nat.mod_lt _ hk0)]
    obtain ⟨p, hp, _⟩ := allL i
    have e : (itN s.st ((i + 1) % k) L, ((gS s.st (itN s.st i L)).getD (0, 0)).2) = p := by
      rw [wrap i hi, nx i p hp, hp]
      rfl
    show (itN s.st ((i + 1) % k) L, ((gS s.st (itN s.st i L)).getD (0, 0)).2) ∈ gG G (itN s.st i L)
    rw [e]
    exact (Is.i1 _ p hp).2.1
  · rw [cycOf_len]
    -- one step is strict
    obtain ⟨x, p, ⟨i, hi, ex⟩, hp, hlt2⟩ := Is.i3 (fun u => ∃ i, i < k ∧ u = itN s.st i L) ⟨L, 0, hk0, rfl⟩ (fun u ⟨i, hi, e⟩ => by
      obtain ⟨p, hp, _⟩ := allL i
      subst e
      exact ⟨p, hp, (i + 1) % k, Nat.mod_lt _ hk0, by rw [wrap i hi, nx i p hp]⟩) (fun y ⟨i, hi, e⟩ => by
      have hpre : ∃ j, j < k ∧ (j + 1) % k = i := by
        by_cases q : i = 0
        · exact ⟨k - 1, by omega, by rw [show k - 1 + 1 = k by omega, Nat.mod_self, q]⟩
        · exact ⟨i - 1, by omega, by rw [show i - 1 + 1 = i by omega, Nat.mod_eq_of_lt hi]⟩
      obtain ⟨j, hj, ej⟩ := hpre
      obtain ⟨p, hp, _⟩ := allL j
      refine ⟨itN s.st j L, p, ⟨j, hj, rfl⟩, hp, ?_⟩
      rw [e, ← ej, wrap j hj, nx j p hp])
    have hT : ∀ i, tot (cycOf s.st L k) (i + 1) = tot (cycOf s.st L k) i + ((cycOf s.st L k).getD i (0, 0)).2 := fun i => rfl
    have z := sum_lt (fun i => gD s.d (itN s.st i L)) (fun i => (N : Int) * ((cycOf s.st L k).getD i (0, 0)).2 - 1) (fun i => (N : Int) * tot (cycOf s.st L k) i - i) (by simp [tot]) (fun i => by
      rw [hT, Int.mul_add]
      have : ((i + 1 : Nat) : Int) = (i : Int) + 1 := rfl
      omega) k (fun i hi => by
      obtain ⟨p, hp, _⟩ := allL i
      have := (Is.i1 _ p hp).2.2
      rw [cycOf_getD hi, nx i p hp]
      show gD s.d p.1 + ((N : Int) * ((gS s.st (itN s.st i L)).getD (0, 0)).2 - 1) ≤ _
      rw [hp]
      exact this) ⟨i, hi, by
      rw [ex] at hp hlt2
      rw [cycOf_getD hi, nx i p hp]
      show gD s.d p.1 + ((N : Int) * ((gS s.st (itN s.st i L)).getD (0, 0)).2 - 1) < _
      rw [hp]
      exact hlt2⟩
    have z : (N : Int) * tot (cycOf s.st L k) k - k < gD s.d (itN s.st 0 L) - gD s.d (itN s.st k L) := z
    rw [hk1] at z
    have z0 : itN s.st 0 L = L := rfl
    rw [z0] at z
    omega
end
/-! ### the two uses -/
section
variable {G : List (List Arc)}
abbrev Circ (G : List (List Arc)) (cyc : List Arc) : Prop := CircN G.length G cyc
theorem rangeL : ∀ u ∈ List.range G.length, u < G.length := fun u hu => List.mem_range.mp hu
theorem cbRound_eq (s : CB) : cbRound G s = cbRoundM G.length (List.range G.length) G s := rfl
theorem cbLoop_some : ∀ (k : Nat) (s s' : CB), cbLoop G k s = some s' → s' = itR G.length (List.range G.length) G k s ∧ (0 < k → s'.last ≠ none)
  | 0, s, s', h => ⟨(Option.some.inj h).symm, fun h => absurd h (Nat.lt_irrefl _)⟩
  | k + 1, s, s', h => by
    unfold cbLoop at h
    by_cases q : (cbRound G s).last = none
    · rw [if_pos q] at h
      cases h
    · rw [if_neg q] at h
      obtain ⟨h1, h2⟩ := cbLoop_some k (cbRound G s) s' h
      refine ⟨h1, fun _ => ?_⟩
      cases k with
      | zero =>
        have e : s' = cbRound G s := h1
        rw [e]
        exact q
      | succ k => exact h2 (Nat.succ_pos _)
theorem cbLoop_none : ∀ (k : Nat) (s : CB), cbLoop G k s = none → ∃ j, j < k ∧ (cbRound G (itR G.length (List.range G.length) G j s)).last = none
  | 0, s, h => by cases h
  | k + 1, s, h => by
    unfold cbLoop at h
    by_cases q : (cbRound G s).last = none
    · exact ⟨0, Nat.succ_pos _, q⟩
    · rw [if_neg q] at h
      obtain ⟨j, h1, h2⟩ := cbLoop_none k (cbRound G s) h
      exact ⟨j + 1, by omega, h2⟩
/-- no circle found: the dues are potentials -/
theorem cb_none (h : cbLoop G (G.length + 1) (cb0 G.length) = none) : ∃ d : List Int, ∀ u, u < G.length → ∀ p ∈ gG G u, gD d u ≤ gD d p.1 + wG G.length p := by
  obtain ⟨j, _, hj⟩ := cbLoop_none _ _ h
  have I := itR_inv rangeL (cb0_inv (N := G.length) (es := List.range G.length) (G := G)) j
  obtain ⟨I1, D1, r1⟩ := cb_round rangeL I
  refine ⟨(itR G.length (List.range G.length) G j (cb0 G.length)).d, fun u hu p hp => ?_⟩
  have e := D1.eq hj
  have := r1 u (List.mem_range.mpr hu) p hp
  rw [e] at this
  exact this
theorem cb_some (hG : ∀ u, u < G.length → ∀ p ∈ gG G u, p.1 < G.length) {s : CB} (h : cbLoop G (G.length + 1) (cb0 G.length) = some s) :
    s.st.length = G.length ∧ ∃ a, s.last = some a ∧ (∀ i, ∃ p, gS s.st (itN s.st i a) = some p ∧ itN s.st i a < G.length) ∧ ∃ k, 0 < k ∧ k ≤ G.length ∧ itN s.st k (itN s.st G.length a) = itN s.st G.length a ∧ (∀ j, 0 < j → j < k → itN s.st j (itN s.st G.length a) ≠ itN s.st G.length a) ∧ Circ G (cycOf s.st (itN s.st G.length a) k) := by
  obtain ⟨he, hl⟩ := cbLoop_some _ _ _ h
  have hl := hl (Nat.succ_pos _)
  cases ea : s.last with
  | none => exact absurd ea hl
  | some a =>
  obtain ⟨h1, h2, k, h3, h4, h5, h6, h7, _⟩ := cb_chain (N := G.length) (es := List.range G.length) rangeL List.length_range (s := s) (by rw [he, itR_succ]) ea
  exact ⟨h1, a, rfl, fun i => (h2 i).elim fun p hp => ⟨p, hp.1, List.mem_range.mp hp.2⟩, k, h3, h4, h5, h6, h7⟩
/-- so many rounds, no circle below: the dues are potentials -/
theorem cb_feas {N : Nat} {es : List Nat} (hes : ∀ u ∈ es, u < G.length) (hN : es.length = N) (hno : ∀ cyc, CircN N G cyc → (∀ i, i < cyc.length → (cyc.getD i (0, 0)).1 ∈ es) → False) :
    ∀ u ∈ es, ∀ p ∈ gG G u, gD (itR N es G N (cb0 G.length)).d u ≤ gD (itR N es G N (cb0 G.length)).d p.1 + wG N p := by
  have I := itR_inv hes (cb0_inv (N := N) (es := es) (G := G)) N
  obtain ⟨I1, D1, r1⟩ := cb_round hes I
  cases ea : (cbRoundM N es G (itR N es G N (cb0 G.length))).last with
  | none =>
    intro u hu p hp
    have e := D1.eq ea
    have := r1 u hu p hp
    rw [e] at this
    exact this
  | some a =>
    obtain ⟨_, _, k, h3, h4, h5, h6, h7, h8⟩ := cb_chain hes hN rfl ea
    exact (hno _ h7 fun i hi => h8 i (by rw [cycOf_len] at hi; exact hi)).elim
end
end Cs
set_option linter.all false
/-! M3: the order of amounts, the least high point. -/
namespace Cs
theorem leA_none (a : Amt) : leA a none = true := by cases a <;> rfl
theorem leA_ss {i j : Int} : leA (some i) (some j) = true ↔ i ≤ j := ⟨fun h => of_decide_eq_true h, fun h => decide_eq_true h⟩
theorem leA_ns {j : Int} : ¬ leA none (some j) = true := fun h => by cases h
theorem leA_refl (a : Amt) : leA a a = true := by
  cases a with
  | none => rfl
  | some i => exact leA_ss.mpr (Int.le_refl _)
theorem leA_trans : ∀ {a b c : Amt}, leA a b = true → leA b c = true → leA a c = true
  | _, _, none, _, _ => leA_none _
  | _, none, some _, _, h => absurd h leA_ns
  | none, some _, some _, h, _ => absurd h leA_ns
  | some i, some j, some k, h, h2 => leA_ss.mpr (Int.le_trans (leA_ss.mp h) (leA_ss.mp h2))
theorem leA_anti : ∀ {a b : Amt}, leA a b = true → leA b a = true → a = b
  | none, none, _, _ => rfl
  | some _, none, _, h => absurd h leA_ns
  | none, some _, h, _ => absurd h leA_ns
  | some i, some j, h, h2 => congrArg some (Int.le_antisymm (leA_ss.mp h) (leA_ss.mp h2))
theorem leA_total (a b : Amt) : leA a b = true ∨ leA b a = true := by
  cases a with
  | none => exact .inr (leA_none _)
  | some i =>
    cases b with
    | none => exact .inl rfl
    | some j =>
      rcases Int.le_total i j with h | h
      · exact .inl (leA_ss.mpr h)
      · exact .inr (leA_ss.mpr h)
theorem leA_not {a b : Amt} (h : ¬ leA a b = true) : leA b a = true := (leA_total a b).resolve_left h
/-- below a finite amount all is finite -/
theorem leA_fin {a : Amt} {j : Int} (h : leA a (some j) = true) : ∃ i, a = some i ∧ i ≤ j := by
  cases a with
  | none => exact absurd h leA_ns
  | some i => exact ⟨i, rfl, leA_ss.mp h⟩
theorem shA_some {i c : Int} : shA (some i) c = some (if i + c > 0 then i + c else 0) := rfl
theorem shA_mono {a b : Amt} (c : Int) (h : leA a b = true) : leA (shA a c) (shA b c) = true := by
  cases b with
  | none => exact leA_none _
  | some j =>
    obtain ⟨i, rfl, hi⟩ := leA_fin h
    rw [shA_some, shA_some]
    refine leA_ss.mpr ?_
    split <;> split <;> omega
/-- amounts are at least 0 -/
def nn (a : Amt) : Prop := ∀ i, a = some i → 0 ≤ i
theorem shA_nn (a : Amt) (c : Int) : nn (shA a c) := by
  intro i h
  cases a with
  | none => cases h
  | some j =>
    rw [shA_some] at h
    have h := Option.some.inj h
    split at h <;> omega
theorem shA_fin {a : Amt} {c i : Int} (h : shA a c = some i) : ∃ j, a = some j := by
  cases a with
  | none => cases h
  | some j => exact ⟨j, rfl⟩
/-! ### least, greatest -/
theorem least_fold : ∀ (l : List Amt) (f : Amt), leA (l.foldl (fun f o => if leA o f = true then o else f) f) f = true ∧ (∀ o ∈ l, leA (l.foldl (fun f o => if leA o f = true then o else f) f) o = true) ∧ (l.foldl (fun f o => if leA o f = true then o else f) f = f ∨ l.foldl (fun f o => if leA o f = true then o else f) f ∈ l)
  | [], f => ⟨leA_refl f, fun o h => absurd h (by simp), .inl rfl⟩
  | o :: l, f => by
    obtain ⟨h1, h2, h3⟩ := least_fold l (if leA o f = true then o else f)
    simp only [List.foldl_cons]
    generalize hR : l.foldl (fun f o => if leA o f = true then o else f) (if leA o f = true then o else f) = R at h1 h2 h3 ⊢
    by_cases q : leA o f = true
    · rw [if_pos q] at h1 h3
      refine ⟨leA_trans h1 q, fun u hu => ?_, ?_⟩
      · rcases List.mem_cons.mp hu with e | hu
        · rw [e]
          exact h1
        · exact h2 u hu
      · rcases h3 with e | e
        · rw [e]
          exact .inr List.mem_cons_self
        · exact .inr (List.mem_cons_of_mem _ e)
    · rw [if_neg q] at h1 h3
      refine ⟨h1, fun u hu => ?_, ?_⟩
      · rcases List.mem_cons.mp hu with e | hu
        · rw [e]
          exact leA_trans h1 (leA_not q)
        · exact h2 u hu
      · rcases h3 with e | e
        · exact .inl e
        · exact .inr (List.mem_cons_of_mem _ e)
theorem great_fold : ∀ (l : List Amt) (f : Amt), leA f (l.foldl (fun f o => if leA f o = true then o else f) f) = true ∧ (∀ o ∈ l, leA o (l.foldl (fun f o => if leA f o = true then o else f) f) = true) ∧ (l.foldl (fun f o => if leA f o = true then o else f) f = f ∨ l.foldl (fun f o => if leA f o = true then o else f) f ∈ l)
  | [], f => ⟨leA_refl f, fun o h => absurd h (by simp), .inl rfl⟩
  | o :: l, f => by
    obtain ⟨h1, h2, h3⟩ := great_fold l (if leA f o = true then o else f)
    simp only [List.foldl_cons]
    generalize hR : l.foldl (fun f o => if leA f o = true then o else f) (if leA f o = true then o else f) = R at h1 h2 h3 ⊢
    by_cases q : leA f o = true
    · rw [if_pos q] at h1 h3
      refine ⟨leA_trans q h1, fun u hu => ?_, ?_⟩
      · rcases List.mem_cons.mp hu with e | hu
        · rw [e]
          exact h1
        · exact h2 u hu
      · rcases h3 with e | e
        · rw [e]
          exact .inr List.mem_cons_self
        · exact .inr (List.mem_cons_of_mem _ e)
    · rw [if_neg q] at h1 h3
      refine ⟨h1, fun u hu => ?_, ?_⟩
      · rcases List.mem_cons.mp hu with e | hu
        · rw [e]
          exact leA_trans (leA_not q) h1
        · exact h2 u hu
      · rcases h3 with e | e
        · exact .inl e
        · exact .inr (List.mem_cons_of_mem _ e)
theorem headD_mem {α : Type} {l : List α} {z : α} (h : l ≠ []) : l.headD z ∈ l := by
  cases l with
  | nil => exact absurd rfl h
  | cons a r => exact List.mem_cons_self
theorem leastOf_le {l : List Amt} {o : Amt} (h : o ∈ l) : leA (leastOf l) o = true := (least_fold l _).2.1 o h
theorem leastOf_mem {l : List Amt} (h : l ≠ []) : leastOf l ∈ l := by
  rcases (least_fold l (l.headD none)).2.2 with e | e
  · have e : leastOf l = l.headD none := e
    rw [e]
    exact headD_mem h
  · exact e
theorem le_greatestOf {l : List Amt} {o : Amt} (h : o ∈ l) : leA o (greatestOf l) = true := (great_fold l _).2.1 o h
theorem greatestOf_mem {l : List Amt} (h : l ≠ []) : greatestOf l ∈ l := by
  rcases (great_fold l (l.headD none)).2.2 with e | e
  · have e : greatestOf l = l.headD none := e
    rw [e]
    exact headD_mem h
  · exact e
theorem leastOf_one (a : Amt) : leastOf [a] = a := by
  have h := leastOf_mem (l := [a]) (by simp)
  simpa using h
/-! ### points: none beyond the sheet -/
abbrev Pt := Nat → Amt
def sv1 (x : Pt) (arcs : List Arc) : List Amt := arcs.map fun p => shA (x p.1) p.2
/-- a formula's value at a point -/
def vF (f : Fm) (x : Pt) : Amt := match f with
  | .amt a => a
  | .when j b k => if leA (some b) (x j) = true then x k else some 0
  | .least arcs => leastOf (sv1 x arcs)
  | .great arcs => greatestOf (sv1 x arcs)
theorem fval_vF (f : Fm) (x : List Amt) : fval f x = vF f (gA x) := by cases f <;> rfl
def leP (x y : Pt) : Prop := ∀ i, leA (x i) (y i) = true
def nnP (x : Pt) : Prop := ∀ i, nn (x i)
theorem sv1_ne {x : Pt} {arcs : List Arc} (h : arcs ≠ []) : sv1 x arcs ≠ [] := by
  cases arcs with
  | nil => exact absurd rfl h
  | cons a r => exact fun z => by cases z
theorem mem_sv1 {x : Pt} {arcs : List Arc} {a : Amt} (h : a ∈ sv1 x arcs) : ∃ p ∈ arcs, a = shA (x p.1) p.2 := by
  obtain ⟨p, h1, h2⟩ := List.mem_map.mp h
  exact ⟨p, h1, h2.symm⟩
theorem sv1_mem {x : Pt} {arcs : List Arc} {p : Arc} (h : p ∈ arcs) : shA (x p.1) p.2 ∈ sv1 x arcs := List.mem_map.mpr ⟨p, h, rfl⟩
theorem least_sv_le {x : Pt} {arcs : List Arc} {p : Arc} (h : p ∈ arcs) : leA (leastOf (sv1 x arcs)) (shA (x p.1) p.2) = true := leastOf_le (sv1_mem h)
theorem great_sv_le {x : Pt} {arcs : List Arc} {p : Arc} (h : p ∈ arcs) : leA (shA (x p.1) p.2) (greatestOf (sv1 x arcs)) = true := le_greatestOf (sv1_mem h)
theorem least_sv_at {x : Pt} {arcs : List Arc} (h : arcs ≠ []) : ∃ p ∈ arcs, leastOf (sv1 x arcs) = shA (x p.1) p.2 := mem_sv1 (leastOf_mem (sv1_ne h))
theorem great_sv_at {x : Pt} {arcs : List Arc} (h : arcs ≠ []) : ∃ p ∈ arcs, greatestOf (sv1 x arcs) = shA (x p.1) p.2 := mem_sv1 (greatestOf_mem (sv1_ne h))
/-- a formula of a plain sheet -/
structure MF (f : Fm) : Prop where
  w : f.isW = false
  ne : f.isA = false → arcsOf f ≠ []
  nnA : ∀ a, f = .amt a → nn a
theorem vF_mono {f : Fm} {x y : Pt} (h : leP x y) (m : MF f) : leA (vF f x) (vF f y) = true := by
  cases f with
  | amt a => exact leA_refl a
  | least arcs =>
    have hne : arcs ≠ [] := m.ne rfl
    obtain ⟨p, hp, e⟩ := least_sv_at (x := y) hne
    show leA (leastOf (sv1 x arcs)) (leastOf (sv1 y arcs)) = true
    rw [e]
    exact leA_trans (least_sv_le hp) (shA_mono _ (h _))
  | great arcs =>
    have hne : arcs ≠ [] := m.ne rfl
    obtain ⟨p, hp, e⟩ := great_sv_at (x := x) hne
    show leA (greatestOf (sv1 x arcs)) (greatestOf (sv1 y arcs)) = true
    rw [e]
    exact leA_trans (shA_mono _ (h _)) (great_sv_le hp)
  | when j b k => exact absurd m.w (by simp [Fm.isW])
theorem vF_nn {f : Fm} {x : Pt} (m : MF f) : nn (vF f x) := by
  cases f with
  | amt a => exact m.nnA a rfl
  | least arcs =>
    have hne : arcs ≠ [] := m.ne rfl
    obtain ⟨p, hp, e⟩ := least_sv_at (x := x) hne
    show nn (leastOf (sv1 x arcs))
    rw [e]
    exact shA_nn _ _
  | great arcs =>
    have hne : arcs ≠ [] := m.ne rfl
    obtain ⟨p, hp, e⟩ := great_sv_at (x := x) hne
    show nn (greatestOf (sv1 x arcs))
    rw [e]
    exact shA_nn _ _
  | when j b k => exact absurd m.w (by simp [Fm.isW])
/-- a sheet of such formulas -/
def MS (S : List Fm) : Prop := ∀ i, MF (fAt S i)
theorem fAt_ge {S : List Fm} {i : Nat} (h : S.length ≤ i) : fAt S i = .amt none := by
  show S.getD i _ = _
  rw [List.getD_eq_getElem?_getD, List.getElem?_eq_none h]
  rfl
theorem ms_of {S : List Fm} (ok : Wf S) (pl : Plain S) : MS S := fun i => by
  by_cases h : i < S.length
  · have hg := fAt_get h
    have q := ok.ok i _ hg
    refine ⟨pl i _ hg, fun ha => ?_, fun a e => ?_⟩
    · cases hf : fAt S i with
      | amt a =>
        rw [hf] at ha
        cases ha
      | least arcs =>
        rw [hf] at q
        exact q.ne
      | great arcs =>
        rw [hf] at q
        exact q.ne
      | when j b k => exact fun z => by cases z
    · rw [e] at q
      exact fun i hi => (q i hi).1
  · rw [fAt_ge (by omega)]
    refine ⟨rfl, (fun h => by cases h), fun a e i hi => ?_⟩
    have e : none = a := Fm.amt.inj e
    rw [← e] at hi
    cases hi
def High (S : List Fm) (y : Pt) : Prop := ∀ i, leA (vF (fAt S i) y) (y i) = true
open Classical in
/-- the least high point, cell by cell -/
noncomputable def lfp (S : List Fm) : Pt := fun i =>
  if h : ∃ v : Nat, ∃ y, High S y ∧ nnP y ∧ y i = some (v : Int) then some ((Classical.choose (exists_min (p := fun v => ∃ y, High S y ∧ nnP y ∧ y i = some ((v : Nat) : Int)) h.choose h.choose_spec) : Nat) : Int) else none
theorem lfp_cases (S : List Fm) (i : Nat) : (∃ v : Nat, lfp S i = some (v : Int) ∧ (∃ y, High S y ∧ nnP y ∧ y i = some (v : Int)) ∧ ∀ w : Nat, w < v → ¬ ∃ y, High S y ∧ nnP y ∧ y i = some (w : Int)) ∨ (lfp S i = none ∧ ∀ y, High S y → nnP y → y i = none) := by
  by_cases h : ∃ v : Nat, ∃ y, High S y ∧ nnP y ∧ y i = some (v : Int)
  · have z := Classical.choose_spec (exists_min (p := fun v => ∃ y, High S y ∧ nnP y ∧ y i = some ((v : Nat) : Int)) h.choose h.choose_spec)
    refine .inl ⟨_, ?_, z.1, z.2⟩
    unfold lfp
    rw [dif_pos h]
  · refine .inr ⟨by unfold lfp; rw [dif_neg h], fun y hy hn => ?_⟩
    cases e : y i with
    | none => rfl
    | some v =>
      exfalso
      have := hn i v e
      exact h ⟨v.toNat, y, hy, hn, by rw [e, Int.toNat_of_nonneg this]⟩
theorem lfp_le {S : List Fm} {y : Pt} (h : High S y) (hn : nnP y) : leP (lfp S) y := fun i => by
  rcases lfp_cases S i with ⟨v, e, _, hmin⟩ | ⟨e, hall⟩
  · rw [e]
    cases ey : y i with
    | none => rfl
    | some u =>
      have hu := hn i u ey
      refine leA_ss.mpr ?_
      by_cases q : (v : Int) ≤ u
      · exact q
      · exact absurd ⟨y, h, hn, by rw [ey, Int.toNat_of_nonneg hu]⟩ (hmin u.toNat (by omega))
  · rw [e, hall y h hn]
    rfl
theorem lfp_nn (S : List Fm) : nnP (lfp S) := fun i u hu => by
  rcases lfp_cases S i with ⟨v, e, _, _⟩ | ⟨e, _⟩
  · rw [e] at hu
    have := Option.some.inj hu
    omega
  · rw [e] at hu
    cases hu
theorem lfp_high {S : List Fm} (m : MS S) : High S (lfp S) := fun i => by
  rcases lfp_cases S i with ⟨v, e, ⟨y, hy, hn, ey⟩, _⟩ | ⟨e, _⟩
  · rw [e, ← ey]
    exact leA_trans (vF_mono (lfp_le hy hn) (m i)) (hy i)
  · rw [e]
    exact leA_none _
theorem lfp_fix {S : List Fm} (m : MS S) (i : Nat) : vF (fAt S i) (lfp S) = lfp S i := by
  refine leA_anti (lfp_high m i) ?_
  exact lfp_le (y := fun j => vF (fAt S j) (lfp S)) (fun j => vF_mono (lfp_high m) (m j)) (fun j => vF_nn (m j)) i
theorem lfp_ge {S : List Fm} (m : MS S) {i : Nat} (h : S.length ≤ i) : lfp S i = none := by
  rw [← lfp_fix m i, fAt_ge h]
  rfl
/-- a fixed point below all high points -/
theorem lfp_eq {S : List Fm} (m : MS S) {x : Pt} (h1 : High S x) (h2 : nnP x) (h3 : leP x (lfp S)) : x = lfp S := funext fun i => leA_anti (h3 i) (lfp_le h1 h2 i)
noncomputable def lfpL (S : List Fm) : List Amt := (List.range S.length).map (lfp S)
theorem lfpL_len (S : List Fm) : (lfpL S).length = S.length := by
  unfold lfpL
  rw [List.length_map, List.length_range]
theorem gA_lfpL {S : List Fm} (m : MS S) : gA (lfpL S) = lfp S := funext fun i => by
  show (lfpL S).getD i none = _
  unfold lfpL
  rw [List.getD_eq_getElem?_getD, List.getElem?_map]
  by_cases h : i < S.length
  · rw [List.getElem?_range h]
    rfl
  · rw [List.getElem?_eq_none (by rw [List.length_range]; omega), lfp_ge m (by omega)]
    rfl
theorem list_ext_gA {x y : List Amt} (hl : x.length = y.length) (h : ∀ i, i < x.length → gA x i = gA y i) : x = y := by
  refine List.ext_getElem? fun i => ?_
  by_cases q : i < x.length
  · rw [gA_get q, gA_get (by omega), h i q]
  · rw [List.getElem?_eq_none (by omega), List.getElem?_eq_none (by omega)]
theorem eq_lfpL {S : List Fm} (m : MS S) {x : List Amt} (hl : x.length = S.length) (h : ∀ i, i < S.length → gA x i = lfp S i) : x = lfpL S :=
  list_ext_gA (by rw [hl, lfpL_len]) fun i hi => by rw [gA_lfpL m, h i (by omega)]
theorem fvals_get {S : List Fm} {x : List Amt} {i : Nat} (h : i < S.length) : gA (fvals S x) i = vF (fAt S i) (gA x) := by
  rw [← fval_vF]
  exact gA_some (by unfold fvals; rw [List.getElem?_map, fAt_get h]; rfl)
theorem fvals_len (S : List Fm) (x : List Amt) : (fvals S x).length = S.length := List.length_map _
theorem fvals_lfpL {S : List Fm} (m : MS S) : fvals S (lfpL S) = lfpL S := eq_lfpL m (fvals_len _ _) fun i hi => by rw [fvals_get hi, gA_lfpL m, lfp_fix m]
/-! ### choices put in -/
def chF (ch : Ch) (i : Nat) : Fm → Fm
  | .great arcs => .least [arcs.getD ((gC ch i).getD 0) (0, 0)]
  | f => f
def chS (S : List Fm) (ch : Ch) : List Fm := S.mapIdx (chF ch)
theorem chS_len (S : List Fm) (ch : Ch) : (chS S ch).length = S.length := List.length_mapIdx
theorem chS_at (S : List Fm) (ch : Ch) (i : Nat) : fAt (chS S ch) i = chF ch i (fAt S i) := by
  by_cases h : i < S.length
  · refine fAt_some ?_
    unfold chS
    rw [List.getElem?_mapIdx, fAt_get h]
    rfl
  · rw [fAt_ge (by rw [chS_len]; omega), fAt_ge (by omega)]
    rfl
theorem chS_ms {S : List Fm} (m : MS S) (ch : Ch) : MS (chS S ch) := fun i => by
  rw [chS_at]
  have q := m i
  cases h : fAt S i with
  | great arcs => exact ⟨rfl, fun _ => by simp [chF, arcsOf], fun a e => by cases e⟩
  | amt a =>
    rw [h] at q
    exact q
  | least arcs =>
    rw [h] at q
    exact q
  | when j b k =>
    rw [h] at q
    exact q
theorem told_at (S : List Fm) (ch : Ch) {i : Nat} (h : i < S.length) : gG (told S ch) i = arcsOf (fAt (chS S ch) i) := by
  rw [chS_at, gG_some (told_get (ch := ch) (fAt_get h))]
  cases fAt S i <;> rfl
theorem gC_lt {arcs : List Arc} {k : Nat} (h : k < arcs.length) : arcs.getD k (0, 0) ∈ arcs := by
  rw [List.getD_eq_getElem?_getD, List.getElem?_eq_getElem h]
  exact List.getElem_mem h
/-- the chosen values lie below -/
theorem chF_le {S : List Fm} {ch : Ch} (hc : ChOk S ch) (x : Pt) (i : Nat) : leA (vF (fAt (chS S ch) i) x) (vF (fAt S i) x) = true := by
  rw [chS_at]
  by_cases h : i < S.length
  · have q := hc.at_ i _ (fAt_get h)
    cases hf : fAt S i with
    | great arcs =>
      rw [hf] at q
      obtain ⟨k, hk, hk2⟩ := q
      show leA (leastOf [shA (x (arcs.getD ((gC ch i).getD 0) (0, 0)).1) (arcs.getD ((gC ch i).getD 0) (0, 0)).2]) (greatestOf (sv1 x arcs)) = true
      rw [leastOf_one, hk]
      exact great_sv_le (gC_lt hk2)
    | _ => exact leA_refl _
  · rw [fAt_ge (by omega)]
    exact leA_refl _
end Cs
set_option linter.all false
/-! M4: least_with reckons the least high point of the sheet with the choices put in. -/
namespace Cs
/-- no "greatest", no condition -/
def NG (T : List Fm) : Prop := ∀ i, (fAt T i).isG = false ∧ (fAt T i).isW = false
theorem chS_ng {S : List Fm} (m : MS S) (ch : Ch) : NG (chS S ch) := fun i => by
  rw [chS_at]
  have q := (m i).w
  cases h : fAt S i with
  | when j b k =>
    rw [h] at q
    cases q
  | _ => exact ⟨rfl, rfl⟩
/-- the least of the arcs bounds -/
theorem ng_le {T : List Fm} (ng : NG T) {i : Nat} {p : Arc} (x : Pt) (hp : p ∈ arcsOf (fAt T i)) : leA (vF (fAt T i) x) (shA (x p.1) p.2) = true := by
  have q := ng i
  cases h : fAt T i with
  | amt a =>
    rw [h] at hp
    exact absurd hp (by simp [arcsOf])
  | least arcs =>
    rw [h] at hp
    exact least_sv_le hp
  | great arcs =>
    rw [h] at q
    cases q.1
  | when j b k =>
    rw [h] at q
    cases q.2
theorem ng_at {T : List Fm} (ng : NG T) (m : MS T) {i : Nat} (x : Pt) (ha : (fAt T i).isA = false) : ∃ p ∈ arcsOf (fAt T i), vF (fAt T i) x = shA (x p.1) p.2 := by
  have q := ng i
  have m2 := m i
  cases h : fAt T i with
  | amt a =>
    rw [h] at ha
    cases ha
  | least arcs =>
    rw [h] at m2
    exact least_sv_at (m2.ne rfl)
  | great arcs =>
    rw [h] at q
    cases q.1
  | when j b k =>
    rw [h] at q
    cases q.2
/-! ### the nought cell -/
theorem ncRun_spec (cyc : List Arc) : ∀ n, n ≤ cyc.length → (ncRun cyc n).1 = tot cyc n ∧ (∀ i, i ≤ n → tot cyc i ≤ (ncRun cyc n).2.1) ∧ ∃ i, i ≤ n ∧ (ncRun cyc n).2.1 = tot cyc i ∧ (ncRun cyc n).2.2 = (cyc.getD (i % cyc.length) (0, 0)).1
  | 0, _ => by
    refine ⟨rfl, fun i hi => ?_, 0, Nat.le_refl _, rfl, ?_⟩
    · have e : i = 0 := by omega
      subst e
      exact Int.le_refl _
    · rw [Nat.zero_mod]
      rfl
  | n + 1, hn => by
    obtain ⟨h1, h2, i, h3, h4, h5⟩ := ncRun_spec cyc n (by omega)
    rw [ncRun_succ]
    have e1 : tot cyc (n + 1) = tot cyc n + (cyc.getD n (0, 0)).2 := rfl
    unfold ncStep
    by_cases q : (ncRun cyc n).1 + (cyc.getD n (0, 0)).2 > (ncRun cyc n).2.1
    · rw [if_pos q]
      refine ⟨by rw [e1, ← h1], fun j hj => ?_, n + 1, Nat.le_refl _, by rw [e1, ← h1], rfl⟩
      show tot cyc j ≤ (ncRun cyc n).1 + (cyc.getD n (0, 0)).2
      by_cases e : j = n + 1
      · rw [e, e1, ← h1]
        exact Int.le_refl _
      · have := h2 j (by omega)
        omega
    · rw [if_neg q]
      refine ⟨by rw [e1, ← h1], fun j hj => ?_, i, by omega, h4, h5⟩
      show tot cyc j ≤ (ncRun cyc n).2.1
      by_cases e : j = n + 1
      · rw [e, e1, ← h1]
        omega
      · exact h2 j (by omega)
theorem circ_tot {N : Nat} {G : List (List Arc)} {cyc : List Arc} (C : CircN N G cyc) : tot cyc cyc.length ≤ 0 := by
  have h1 := C.low
  have h2 := C.len
  by_cases q : tot cyc cyc.length ≤ 0
  · exact q
  · exfalso
    have h3 : (N : Int) * 1 ≤ (N : Int) * tot cyc cyc.length := Int.mul_le_mul_of_nonneg_left (by omega) (by omega)
    omega
/-- the nought cell's amount is 0 -/
theorem nought_zero {N : Nat} {T : List Fm} {G : List (List Arc)} {cyc : List Arc} (m : MS T) (ng : NG T) (hG : ∀ u, u < G.length → ∀ p ∈ gG G u, p ∈ arcsOf (fAt T u)) (C : CircN N G cyc) : lfp T (nought cyc) = some 0 ∧ ∃ i, i < cyc.length ∧ nought cyc = (cyc.getD i (0, 0)).1 := by
  obtain ⟨_, hmax, mm, hm, hbest, hcell⟩ := ncRun_spec cyc cyc.length (Nat.le_refl _)
  have ht := circ_tot C
  have hpos := C.pos
  rw [hbest] at hmax
  -- what each cell of the circle can do with
  let vl : Nat → Int := fun j => if mm ≤ j then tot cyc mm - tot cyc j else tot cyc mm - tot cyc j - tot cyc cyc.length
  have vl1 : ∀ j, mm ≤ j → vl j = tot cyc mm - tot cyc j := fun j h => if_pos h
  have vl2 : ∀ j, ¬ mm ≤ j → vl j = tot cyc mm - tot cyc j - tot cyc cyc.length := fun j h => if_neg h
  have vl0 : ∀ j, j ≤ cyc.length → 0 ≤ vl j := fun j hj => by
    have a := hmax j hj
    by_cases q : mm ≤ j
    · rw [vl1 j q]
      omega
    · rw [vl2 j q]
      omega
  have t0 : tot cyc 0 = 0 := rfl
  have vstep : ∀ j, j < cyc.length → vl ((j + 1) % cyc.length) + (cyc.getD j (0, 0)).2 ≤ vl j := fun j hj => by
    have ts : tot cyc (j + 1) = tot cyc j + (cyc.getD j (0, 0)).2 := rfl
    by_cases q : j + 1 = cyc.length
    · rw [q, Nat.mod_self]
      rw [q] at ts
      by_cases q1 : mm ≤ 0
      · rw [vl1 0 q1, vl1 j (by omega)]
        have e : mm = 0 := by omega
        subst e
        omega
      · rw [vl2 0 q1]
        by_cases q2 : mm ≤ j
        · rw [vl1 j q2]
          omega
        · rw [vl2 j q2]
          have e : mm = cyc.length := by omega
          rw [e]
          omega
    · rw [Nat.mod_eq_of_lt (by omega)]
      by_cases q2 : mm ≤ j
      · rw [vl1 j q2, vl1 (j + 1) (by omega)]
        omega
      · rw [vl2 j q2]
        by_cases q3 : mm ≤ j + 1
        · rw [vl1 (j + 1) q3]
          have e : mm = j + 1 := by omega
          rw [e]
          omega
        · rw [vl2 (j + 1) q3]
          omega
  let y : Pt := fun c => leastOf (lfp T c :: ((List.range cyc.length).filter fun j => decide ((cyc.getD j (0, 0)).1 = c)).map fun j => some (vl j))
  have y1 : leP y (lfp T) := fun c => leastOf_le List.mem_cons_self
  have y2 : ∀ j, j < cyc.length → leA (y (cyc.getD j (0, 0)).1) (some (vl j)) = true := fun j hj => leastOf_le (List.mem_cons_of_mem _ (List.mem_map.mpr ⟨j, List.mem_filter.mpr ⟨List.mem_range.mpr hj, decide_eq_true rfl⟩, rfl⟩))
  have y3 : ∀ c, y c = lfp T c ∨ ∃ j, j < cyc.length ∧ (cyc.getD j (0, 0)).1 = c ∧ y c = some (vl j) := fun c => by
    have h := leastOf_mem (l := lfp T c :: ((List.range cyc.length).filter fun j => decide ((cyc.getD j (0, 0)).1 = c)).map fun j => some (vl j)) (by simp)
    rcases List.mem_cons.mp h with e | e
    · exact .inl e
    · obtain ⟨j, h1, h2⟩ := List.mem_map.mp e
      obtain ⟨h3, h4⟩ := List.mem_filter.mp h1
      exact .inr ⟨j, List.mem_range.mp h3, of_decide_eq_true h4, h2.symm⟩
  have yh : High T y := fun c => by
    rcases y3 c with e | ⟨j, hj, ec, e⟩
    · rw [e]
      exact leA_trans (vF_mono y1 (m c)) (lfp_high m c)
    · rw [e, ← ec]
      have harc := hG _ (C.lt j hj) _ (C.arc j hj)
      refine leA_trans (ng_le ng y harc) (leA_trans (shA_mono _ (y2 _ (Nat.mod_lt _ hpos))) ?_)
      rw [shA_some]
      have a := vstep j hj
      have b := vl0 j (by omega)
      refine leA_ss.mpr ?_
      split <;> omega
  have yn : nnP y := fun c i hi => by
    rcases y3 c with e | ⟨j, hj, ec, e⟩
    · rw [e] at hi
      exact lfp_nn T c i hi
    · rw [e] at hi
      have := Option.some.inj hi
      have b := vl0 j (by omega)
      omega
  have hlt : mm % cyc.length < cyc.length := Nat.mod_lt _ hpos
  have hv : vl (mm % cyc.length) = 0 := by
    by_cases q : mm = cyc.length
    · have e : mm % cyc.length = 0 := by rw [q, Nat.mod_self]
      rw [e, vl2 0 (by omega), q]
      omega
    · rw [Nat.mod_eq_of_lt (by omega), vl1 mm (Nat.le_refl _)]
      omega
  refine ⟨?_, mm % cyc.length, hlt, hcell⟩
  have z := leA_trans (lfp_le yh yn (cyc.getD (mm % cyc.length) (0, 0)).1) (y2 _ hlt)
  rw [hv] at z
  show lfp T (ncRun cyc cyc.length).2.2 = some 0
  rw [hcell]
  obtain ⟨i, e, hi⟩ := leA_fin z
  have := lfp_nn T _ i e
  rw [e]
  have e0 : i = 0 := by omega
  rw [e0]
/-! ### counting -/
theorem count_le {α : Type} {p q : α → Bool} : ∀ (l : List α), (∀ a ∈ l, p a = true → q a = true) → (l.filter p).length ≤ (l.filter q).length
  | [], _ => Nat.le_refl _
  | a :: l, h => by
    have ih := count_le l fun b hb => h b (List.mem_cons_of_mem _ hb)
    have ha := h a List.mem_cons_self
    rw [List.filter_cons, List.filter_cons]
    cases hp : p a with
    | true =>
      rw [ha hp]
      simp only [if_true, List.length_cons]
      omega
    | false =>
      cases hq : q a with
      | true =>
        simp only [if_true, Bool.false_eq_true, if_false, List.length_cons]
        omega
      | false =>
        simp only [Bool.false_eq_true, if_false]
        exact ih
theorem count_lt {α : Type} {p q : α → Bool} : ∀ (l : List α), (∀ a ∈ l, p a = true → q a = true) → (∃ a ∈ l, q a = true ∧ p a = false) → (l.filter p).length < (l.filter q).length
  | [], _, ⟨a, ha, _⟩ => absurd ha (by simp)
  | b :: l, h, ⟨a, ha, h1, h2⟩ => by
    have hb := h b List.mem_cons_self
    rw [List.filter_cons, List.filter_cons]
    rcases List.mem_cons.mp ha with e | ha
    · subst e
      have il := count_le l fun b hb => h b (List.mem_cons_of_mem _ hb)
      rw [h1, h2]
      simp only [if_true, Bool.false_eq_true, if_false, List.length_cons]
      omega
    · have ih := count_lt l (fun b hb => h b (List.mem_cons_of_mem _ hb)) ⟨a, ha, h1, h2⟩
      cases hp : p b with
      | true =>
        rw [hb hp]
        simp only [if_true, List.length_cons]
        omega
      | false =>
        cases hq : q b with
        | true =>
          simp only [if_true, Bool.false_eq_true, if_false, List.length_cons]
          omega
        | false =>
          simp only [Bool.false_eq_true, if_false]
          exact ih
/-! ### rounds_down -/
theorem gA_set_eq {x : List Amt} {i : Nat} {a : Amt} (h : i < x.length) : gA (x.set i a) i = a := getD_set_eq h
theorem gA_set_ne {x : List Amt} {i j : Nat} {a : Amt} (h : i ≠ j) : gA (x.set i a) j = gA x j := getD_set_ne h
/-- a cell lowered, not below the least point -/
theorem set_low {L : Pt} {x : List Amt} {i : Nat} {a : Amt} (hx : leP L (gA x)) (h1 : leA (L i) a = true) (h2 : leA a (gA x i) = true) (hi : i < x.length) : leP L (gA (x.set i a)) ∧ leP (gA (x.set i a)) (gA x) ∧ gA (x.set i a) i = a := by
  refine ⟨fun j => ?_, fun j => ?_, gA_set_eq hi⟩
  · by_cases e : i = j
    · subst e
      rw [gA_set_eq hi]
      exact h1
    · rw [gA_set_ne e]
      exact hx j
  · by_cases e : i = j
    · subst e
      rw [gA_set_eq hi]
      exact h2
    · rw [gA_set_ne e]
      exact leA_refl _
theorem leP_trans {x y z : Pt} (h : leP x y) (h2 : leP y z) : leP x z := fun i => leA_trans (h i) (h2 i)
theorem leP_refl (x : Pt) : leP x x := fun i => leA_refl _
section
variable {T S : List Fm} {G : List (List Arc)} {nz : List Nat}
theorem rd_arcs (hT : ∀ x : Pt, leP (lfp T) x → ∀ i, ∀ p ∈ arcsOf (fAt T i), leA (lfp T i) (shA (x p.1) p.2) = true) {i : Nat} : ∀ (l : List Arc) (x : List Amt), (∀ p ∈ l, p ∈ arcsOf (fAt T i)) → i < x.length → leP (lfp T) (gA x) →
    leP (lfp T) (gA (l.foldl (rdArc i) x)) ∧ leP (gA (l.foldl (rdArc i) x)) (gA x) ∧ ∀ q ∈ l, leA (gA (l.foldl (rdArc i) x) i) (shA (gA x q.1) q.2) = true
  | [], x, _, _, hx => ⟨hx, leP_refl _, fun q hq => absurd hq (by simp)⟩
  | p :: l, x, hl, hi, hx => by
    have s1 : leP (lfp T) (gA (rdArc i x p)) ∧ leP (gA (rdArc i x p)) (gA x) ∧ leA (gA (rdArc i x p) i) (shA (gA x p.1) p.2) = true := by
      unfold rdArc
      by_cases q : leA (shA (gA x p.1) p.2) (gA x i) = true
      · rw [if_pos q]
        obtain ⟨h1, h2, h3⟩ := set_low hx (hT _ hx i p (hl p List.mem_cons_self)) q hi
        exact ⟨h1, h2, by rw [h3]; exact leA_refl _⟩
      · rw [if_neg q]
        exact ⟨hx, leP_refl _, leA_not q⟩
    obtain ⟨h1, h2, h3⟩ := rd_arcs hT l (rdArc i x p) (fun q hq => hl q (List.mem_cons_of_mem _ hq)) (by rw [rdArc_len]; exact hi) s1.1
    refine ⟨h1, leP_trans h2 s1.2.1, fun q hq => ?_⟩
    rcases List.mem_cons.mp hq with e | hq
    · subst e
      exact leA_trans (h2 i) s1.2.2
    · exact leA_trans (h3 q hq) (shA_mono _ (s1.2.1 _))
/-- what a cell has when its turn is over, by the point x before -/
def Turned (S : List Fm) (G : List (List Arc)) (nz : List Nat) (x : Pt) (a : Amt) (i : Nat) : Prop :=
  (i ∈ nz → leA a (some 0) = true) ∧ (i ∉ nz → ∀ b, fAt S i = .amt b → leA a b = true) ∧ (i ∉ nz → (fAt S i).isA = false → ∀ q ∈ gG G i, leA a (shA (x q.1) q.2) = true)
theorem Turned.mono {x y : Pt} {a b : Amt} {i : Nat} (h : Turned S G nz x a i) (h1 : leA b a = true) (h2 : leP x y) : Turned S G nz y b i :=
  ⟨fun z => leA_trans h1 (h.1 z), fun z c e => leA_trans h1 (h.2.1 z c e), fun z e q hq => leA_trans h1 (leA_trans (h.2.2 z e q hq) (shA_mono _ (h2 _)))⟩
/-- the sheet S, its chosen sheet T, the arcs G, the noughts -/
structure RD (S T : List Fm) (G : List (List Arc)) (nz : List Nat) : Prop where
  ms : MS T
  ng : NG T
  amt : ∀ i b, fAt S i = .amt b → fAt T i = .amt b
  oth : ∀ i, (fAt S i).isA = false → (fAt T i).isA = false
  arcs : ∀ i, i < S.length → gG G i = arcsOf (fAt T i)
  nought : ∀ z ∈ nz, lfp T z = some 0
theorem RD.low (R : RD S T G nz) (x : Pt) (hx : leP (lfp T) x) (i : Nat) (p : Arc) (hp : p ∈ arcsOf (fAt T i)) : leA (lfp T i) (shA (x p.1) p.2) = true := by
  rw [← lfp_fix R.ms i]
  exact leA_trans (ng_le R.ng _ hp) (shA_mono _ (hx _))
theorem rd_cell (R : RD S T G nz) {x : List Amt} {i : Nat} (hi : i < S.length) (hl : x.length = S.length) (hx : leP (lfp T) (gA x)) : leP (lfp T) (gA (rdCell S G nz x i)) ∧ leP (gA (rdCell S G nz x i)) (gA x) ∧ Turned S G nz (gA x) (gA (rdCell S G nz x i) i) i := by
  unfold rdCell
  by_cases hz : nz.contains i = true
  · rw [if_pos hz]
    have hz : i ∈ nz := by simpa using hz
    have e := R.nought i hz
    obtain ⟨h1, h2, h3⟩ := set_low hx (a := some 0) (by rw [e]; exact leA_refl _) (by rw [← e]; exact hx i) (by omega)
    exact ⟨h1, h2, fun _ => by rw [h3]; exact leA_refl _, fun n => absurd hz n, fun n => absurd hz n⟩
  · rw [if_neg hz]
    have hz : i ∉ nz := by simpa using hz
    cases hf : fAt S i with
    | amt b =>
      have e : lfp T i = b := by
        rw [← lfp_fix R.ms i, R.amt i b hf]
        rfl
      obtain ⟨h1, h2, h3⟩ := set_low hx (a := b) (by rw [e]; exact leA_refl _) (by rw [← e]; exact hx i) (by omega)
      refine ⟨h1, h2, fun n => absurd n hz, fun _ c ec => ?_, fun _ q => ?_⟩
      · rw [hf] at ec
        rw [h3, Fm.amt.inj ec]
        exact leA_refl _
      · rw [hf] at q
        cases q
    | _ =>
      obtain ⟨h1, h2, h3⟩ := rd_arcs (R.low) (i := i) (gG G i) x (fun p hp => by rw [← R.arcs i hi]; exact hp) (by omega) hx
      refine ⟨h1, h2, fun n => absurd n hz, fun _ c ec => ?_, fun _ q => h3⟩
      rw [hf] at ec
      cases ec
theorem rd_cells (R : RD S T G nz) : ∀ (l : List Nat) (x : List Amt), (∀ i ∈ l, i < S.length) → x.length = S.length → leP (lfp T) (gA x) →
    leP (lfp T) (gA (l.foldl (rdCell S G nz) x)) ∧ leP (gA (l.foldl (rdCell S G nz) x)) (gA x) ∧ ∀ i ∈ l, Turned S G nz (gA x) (gA (l.foldl (rdCell S G nz) x) i) i
  | [], x, _, _, hx => ⟨hx, leP_refl _, fun q hq => absurd hq (by simp)⟩
  | i :: l, x, hl, hi, hx => by
    obtain ⟨a1, a2, a3⟩ := rd_cell R (hl i List.mem_cons_self) hi hx
    obtain ⟨h1, h2, h3⟩ := rd_cells R l (rdCell S G nz x i) (fun q hq => hl q (List.mem_cons_of_mem _ hq)) (by rw [rdCell_len]; exact hi) a1
    refine ⟨h1, leP_trans h2 a2, fun q hq => ?_⟩
    rcases List.mem_cons.mp hq with e | hq
    · subst e
      exact a3.mono (h2 q) (leP_refl _)
    · exact (h3 q hq).mono (leA_refl _) a2
theorem rd_round (R : RD S T G nz) {x : List Amt} (hl : x.length = S.length) (hx : leP (lfp T) (gA x)) : leP (lfp T) (gA (rdRound S G nz x)) ∧ leP (gA (rdRound S G nz x)) (gA x) ∧ ∀ i, i < S.length → Turned S G nz (gA x) (gA (rdRound S G nz x) i) i := by
  obtain ⟨h1, h2, h3⟩ := rd_cells R (List.range S.length) x (fun i hi => List.mem_range.mp hi) hl hx
  exact ⟨h1, h2, fun i hi => h3 i (List.mem_range.mpr hi)⟩
/-- potentials that tell: along tight arcs the height falls -/
noncomputable def height (n : Nat) (T : List Fm) (d : List Int) (i : Nat) : Int := (n : Int) * (lfp T i).getD 0 - gD d i
noncomputable def rk (n : Nat) (T : List Fm) (d : List Int) (i : Nat) : Nat := ((List.range n).filter fun j => (lfp T j).isSome && decide (height n T d j < height n T d i)).length
theorem rdown_eq (R : RD S T G nz) (hlen : T.length = S.length) {d : List Int} (hd : ∀ u, u < S.length → u ∉ nz → ∀ p ∈ gG G u, gD d u ≤ gD d p.1 + ((S.length : Int) * p.2 - 1)) : rdown S G nz = lfpL T := by
  have rkn : ∀ i, i < S.length → rk S.length T d i < S.length := fun i hi => by
    have h := count_lt (p := fun j => (lfp T j).isSome && decide (height S.length T d j < height S.length T d i)) (q := fun _ => true) (List.range S.length) (fun _ _ _ => rfl) ⟨i, List.mem_range.mpr hi, rfl, by rw [decide_eq_false (Int.lt_irrefl _), Bool.and_false]⟩
    have e : ((List.range S.length).filter fun _ => true).length = S.length := by
      rw [List.filter_eq_self.mpr fun _ _ => rfl, List.length_range]
    rw [e] at h
    exact h
  have rklt : ∀ i j, j < S.length → (lfp T j).isSome = true → height S.length T d j < height S.length T d i → rk S.length T d j < rk S.length T d i := fun i j hj hs hlt => by
    refine count_lt (List.range S.length) (fun a _ ha => ?_) ⟨j, List.mem_range.mpr hj, ?_, ?_⟩
    · obtain ⟨h1, h2⟩ := Bool.and_eq_true_iff.mp ha
      rw [h1, decide_eq_true (Int.lt_trans (of_decide_eq_true h2) hlt)]
      rfl
    · rw [hs, decide_eq_true hlt]
      rfl
    · rw [decide_eq_false (Int.lt_irrefl _), Bool.and_false]
  have key : ∀ k, let X := (List.range k).foldl (fun x _ => rdRound S G nz x) (List.replicate S.length none)
      X.length = S.length ∧ leP (lfp T) (gA X) ∧ ∀ i, i < S.length → (lfp T i).isSome = true → rk S.length T d i < k → gA X i = lfp T i := by
    intro k
    induction k with
    | zero =>
      refine ⟨List.length_replicate, fun i => ?_, fun i _ _ h => absurd h (Nat.not_lt_zero _)⟩
      have e : gA (List.replicate S.length none) i = none := by
        show (List.replicate S.length (none : Amt)).getD i none = none
        rw [List.getD_eq_getElem?_getD, List.getElem?_replicate]
        split <;> rfl
      show leA (lfp T i) (gA (List.replicate S.length none) i) = true
      rw [e]
      exact leA_none _
    | succ k ih =>
      intro X
      have eX : X = rdRound S G nz ((List.range k).foldl (fun x _ => rdRound S G nz x) (List.replicate S.length none)) := range_fold_succ (fun x _ => rdRound S G nz x) _ k
      obtain ⟨i1, i2, i3⟩ := ih
      rw [eX]
      generalize (List.range k).foldl (fun x _ => rdRound S G nz x) (List.replicate S.length none) = Y at i1 i2 i3 ⊢
      obtain ⟨r1, r2, r3⟩ := rd_round R i1 i2
      refine ⟨by rw [rdRound_len]; exact i1, r1, fun i hi hs hr => ?_⟩
      obtain ⟨t1, t2, t3⟩ := r3 i hi
      refine leA_anti ?_ (r1 i)
      by_cases hz : i ∈ nz
      · rw [R.nought i hz]
        exact t1 hz
      · by_cases ha : (fAt S i).isA = true
        · cases hf : fAt S i with
          | amt b =>
            have e : lfp T i = b := by
              rw [← lfp_fix R.ms i, R.amt i b hf]
              rfl
            rw [e]
            exact t2 hz b hf
          | _ =>
            rw [hf] at ha
            cases ha
        · have ha : (fAt S i).isA = false := by simpa using ha
          obtain ⟨p, hp, e⟩ := ng_at R.ng R.ms (lfp T) (R.oth i ha)
          rw [lfp_fix R.ms i] at e
          rw [← R.arcs i hi] at hp
          have t := t3 hz ha p hp
          cases ev : lfp T i with
          | none =>
            rw [ev] at hs
            cases hs
          | some v =>
            rw [ev] at e
            obtain ⟨w, ew⟩ := shA_fin e.symm
            have pn : p.1 < S.length := by
              by_cases q : p.1 < S.length
              · exact q
              · rw [lfp_ge R.ms (by omega)] at ew
                cases ew
            have hh : height S.length T d p.1 < height S.length T d i := by
              unfold height
              rw [ev, ew]
              rw [ew, shA_some] at e
              have e := Option.some.inj e
              have hv : w + p.2 ≤ v := by
                rw [e]
                split <;> omega
              have h1 := hd i hi hz p hp
              have h2 : (S.length : Int) * (w + p.2) ≤ (S.length : Int) * v := Int.mul_le_mul_of_nonneg_left hv (by omega)
              rw [Int.mul_add] at h2
              show (S.length : Int) * w - gD d p.1 < (S.length : Int) * v - gD d i
              omega
            have hk := rklt i p.1 pn (by rw [ew]; rfl) hh
            rw [i3 p.1 pn (by rw [ew]; rfl) (by omega), ← e] at t
            exact t
  obtain ⟨h1, h2, h3⟩ := key (S.length + 1)
  refine eq_lfpL R.ms (by rw [rdown_len, hlen]) fun i hi => ?_
  rw [hlen] at hi
  show gA (rdown S G nz) i = lfp T i
  cases e : lfp T i with
  | none =>
    have z := h2 i
    rw [e] at z
    cases e2 : gA (rdown S G nz) i with
    | none => rfl
    | some v =>
      have e2 : gA ((List.range (S.length + 1)).foldl (fun x _ => rdRound S G nz x) (List.replicate S.length none)) i = some v := e2
      rw [e2] at z
      cases z
  | some v =>
    rw [← e]
    have := rkn i hi
    exact h3 i hi (by rw [e]; rfl) (by omega)
end
/-! ### the open arcs -/
def opA (G : List (List Arc)) (nz : List Nat) : List (List Arc) := (List.range G.length).map fun c => if nz.contains c = true then [] else gG G c
theorem opA_len (G : List (List Arc)) (nz : List Nat) : (opA G nz).length = G.length := by
  unfold opA
  rw [List.length_map, List.length_range]
theorem opA_at {G : List (List Arc)} {nz : List Nat} {c : Nat} (h : c < G.length) : gG (opA G nz) c = if nz.contains c = true then [] else gG G c := by
  refine gG_some ?_
  unfold opA
  rw [List.getElem?_map, List.getElem?_range h]
  rfl
theorem opA_ok {n : Nat} {G : List (List Arc)} {nz : List Nat} (h : GOk n G) : GOk n (opA G nz) := by
  have key : ∀ (i : Nat) (l : List Arc), (opA G nz)[i]? = some l → l = [] ∨ G[i]? = some l := fun i l hl => by
    have hi : i < G.length := by
      have := (List.getElem?_eq_some_iff.mp hl).1
      rw [opA_len] at this
      exact this
    have e := gG_some hl
    rw [opA_at hi] at e
    by_cases q : nz.contains i = true
    · rw [if_pos q] at e
      exact .inl e.symm
    · rw [if_neg q] at e
      rw [← e]
      exact .inr (gG_get hi)
  refine ⟨by rw [opA_len]; exact h.len, fun i l hl => ?_, fun i l hl => ?_⟩
  · rcases key i l hl with e | e
    · rw [e]
      exact Nat.zero_le _
    · exact h.sz i l e
  · rcases key i l hl with e | e
    · rw [e]
      intro p hp
      cases hp
    · exact h.ok i l e
/-- the sheet, its choices: all that least_with needs -/
theorem rd_of {S : List Fm} {ch : Ch} {nz : List Nat} (m : MS S) (hz : ∀ z ∈ nz, lfp (chS S ch) z = some 0) : RD S (chS S ch) (told S ch) nz := by
  refine ⟨chS_ms m ch, chS_ng m ch, fun i b h => ?_, fun i h => ?_, fun i hi => told_at S ch hi, hz⟩
  · rw [chS_at, h]
    rfl
  · rw [chS_at]
    cases hf : fAt S i with
    | amt a =>
      rw [hf] at h
      cases h
    | _ => rfl
/-- no circle: the rounds give the least point -/
theorem lw_end {S : List Fm} {ch : Ch} {nz : List Nat} (m : MS S) (hz : ∀ z ∈ nz, lfp (chS S ch) z = some 0) (h : cbLoop (opA (told S ch) nz) ((opA (told S ch) nz).length + 1) (cb0 (opA (told S ch) nz).length) = none) : rdown S (told S ch) nz = lfpL (chS S ch) := by
  obtain ⟨d, hd⟩ := cb_none h
  have el : (opA (told S ch) nz).length = S.length := by rw [opA_len, told_len]
  refine rdown_eq (rd_of m hz) (chS_len S ch) (d := d) fun u hu hn p hp => ?_
  have h := hd u (by rw [el]; exact hu) p (by
    rw [opA_at (by rw [told_len]; exact hu), if_neg (by simpa using hn)]
    exact hp)
  unfold wG at h
  rw [el] at h
  exact h
/-- a circle: one more nought -/
theorem lw_more {S : List Fm} {ch : Ch} {nz : List Nat} (m : MS S) {cyc : List Arc} (C : Circ (opA (told S ch) nz) cyc) : lfp (chS S ch) (nought cyc) = some 0 ∧ nought cyc ∉ nz ∧ nought cyc < S.length := by
  have el : (opA (told S ch) nz).length = S.length := by rw [opA_len, told_len]
  obtain ⟨h1, i, hi, e⟩ := nought_zero (chS_ms m ch) (chS_ng m ch) (fun u hu p hp => by
    rw [el] at hu
    rw [opA_at (by rw [told_len]; exact hu)] at hp
    rw [← told_at S ch hu]
    by_cases q : nz.contains u = true
    · rw [if_pos q] at hp
      cases hp
    · rw [if_neg q] at hp
      exact hp) C
  have hlt := C.lt i hi
  rw [el] at hlt
  refine ⟨h1, fun hn => ?_, by rw [e]; exact hlt⟩
  have ha := C.arc i hi
  rw [opA_at (by rw [told_len]; exact hlt), if_pos (by rw [← e]; simpa using hn)] at ha
  cases ha
theorem nodup_len : ∀ (n : Nat) (l : List Nat), l.Nodup → (∀ a ∈ l, a < n) → l.length ≤ n := by
  intro n l hn hl
  by_cases q : l.length ≤ n
  · exact q
  · exfalso
    obtain ⟨i, j, h1, h2, h3⟩ := pigeon n (fun i => l.getD i 0) (fun i hi => by
      show l.getD i 0 < n
      rw [List.getD_eq_getElem?_getD, List.getElem?_eq_getElem (by omega)]
      exact hl _ (List.getElem_mem _))
    have h3 : l.getD i 0 = l.getD j 0 := h3
    rw [List.getD_eq_getElem?_getD, List.getD_eq_getElem?_getD, List.getElem?_eq_getElem (by omega), List.getElem?_eq_getElem (by omega)] at h3
    have h3 : l[i] = l[j] := h3
    exact List.pairwise_iff_getElem.mp hn i j (by omega) (by omega) h1 h3
end Cs
set_option linter.all false
/-! M5: better choices give a greater least point; the last one is the sheet's own. -/
namespace Cs
theorem exists_max (f : Nat → Int) : ∀ n, 0 < n → ∃ i, i < n ∧ ∀ j, j < n → f j ≤ f i
  | 0, h => absurd h (Nat.lt_irrefl _)
  | 1, _ => ⟨0, by omega, fun j hj => by
    have e : j = 0 := by omega
    rw [e]
    exact Int.le_refl _⟩
  | n + 2, _ => by
    obtain ⟨i, hi, h⟩ := exists_max f (n + 1) (by omega)
    by_cases q : f i ≤ f (n + 1)
    · refine ⟨n + 1, by omega, fun j hj => ?_⟩
      by_cases e : j = n + 1
      · rw [e]
        exact Int.le_refl _
      · exact Int.le_trans (h j (by omega)) q
    · refine ⟨i, by omega, fun j hj => ?_⟩
      by_cases e : j = n + 1
      · rw [e]
        omega
      · exact h j (by omega)
theorem shA_none {a : Amt} {c : Int} : shA a c = none ↔ a = none := by
  cases a with
  | none => exact ⟨fun _ => rfl, fun _ => rfl⟩
  | some i => exact ⟨(fun h => by cases h), (fun h => by cases h)⟩
theorem leA_none_iff {a : Amt} : leA none a = true ↔ a = none := by
  cases a with
  | none => exact ⟨fun _ => rfl, fun _ => rfl⟩
  | some i => exact ⟨(fun h => by cases h), (fun h => by cases h)⟩
open Classical in
/-- y on U, x elsewhere -/
noncomputable def mix (U : Nat → Prop) (x y : Pt) : Pt := fun i => if U i then y i else x i
theorem mix_in {U : Nat → Prop} {x y : Pt} {i : Nat} (h : U i) : mix U x y i = y i := if_pos h
theorem mix_out {U : Nat → Prop} {x y : Pt} {i : Nat} (h : ¬ U i) : mix U x y i = x i := if_neg h
/-- if y lies below x on U, and U's formulas hold there, the least point lies below y on U -/
theorem mix_low {T : List Fm} (m : MS T) {U : Nat → Prop} {y : Pt} (hn : nnP y) (hU : ∀ i, U i → leA (y i) (lfp T i) = true) (hF : ∀ i, U i → leA (vF (fAt T i) (mix U (lfp T) y)) (y i) = true) : ∀ i, U i → leA (lfp T i) (y i) = true := by
  have hle : leP (mix U (lfp T) y) (lfp T) := fun i => by
    by_cases h : U i
    · rw [mix_in h]
      exact hU i h
    · rw [mix_out h]
      exact leA_refl _
  have hh : High T (mix U (lfp T) y) := fun i => by
    by_cases h : U i
    · rw [mix_in h]
      exact hF i h
    · rw [mix_out h]
      exact leA_trans (vF_mono hle (m i)) (lfp_high m i)
  have hnn : nnP (mix U (lfp T) y) := fun i => by
    by_cases h : U i
    · rw [mix_in h]
      exact hn i
    · rw [mix_out h]
      exact lfp_nn T i
  intro i h
  have z := lfp_le hh hnn i
  rw [mix_in h] at z
  exact z
theorem improve {T1 T2 : List Fm} (m1 : MS T1) (m2 : MS T2) (g1 : NG T1) (g2 : NG T2) (hl : T2.length = T1.length) (h : ∀ i, fAt T2 i = fAt T1 i ∨ ¬ leA (vF (fAt T2 i) (lfp T1)) (lfp T1 i) = true) : leP (lfp T1) (lfp T2) := by
  have up : ∀ i, leA (lfp T1 i) (vF (fAt T2 i) (lfp T1)) = true := fun i => by
    rcases h i with e | e
    · rw [e, lfp_fix m1]
      exact leA_refl _
    · exact leA_not e
  -- what is read at a cell that lies above
  have rd : ∀ i, ¬ leA (lfp T1 i) (lfp T2 i) = true → ∃ p ∈ arcsOf (fAt T2 i), lfp T2 i = shA (lfp T2 p.1) p.2 ∧ leA (vF (fAt T2 i) (lfp T1)) (shA (lfp T1 p.1) p.2) = true := fun i hi => by
    cases ha : (fAt T2 i).isA with
    | false =>
      obtain ⟨p, hp, e⟩ := ng_at g2 m2 (lfp T2) ha
      rw [lfp_fix m2] at e
      exact ⟨p, hp, e, ng_le g2 _ hp⟩
    | true =>
      exfalso
      cases hf : fAt T2 i with
      | amt a =>
        have e2 : lfp T2 i = a := by
          rw [← lfp_fix m2 i, hf]
          rfl
        have u := up i
        rw [hf] at u
        rw [e2] at hi
        exact hi u
      | _ =>
        rw [hf] at ha
        cases ha
  by_cases hinf : ∃ i, lfp T1 i = none ∧ lfp T2 i ≠ none
  · exfalso
    obtain ⟨i0, h1, h2⟩ := hinf
    have z := mix_low m1 (U := fun i => lfp T1 i = none ∧ lfp T2 i ≠ none) (y := lfp T2) (lfp_nn T2) (fun i hi => by rw [hi.1]; exact leA_none _) (fun i hi => by
      have hnot : ¬ leA (lfp T1 i) (lfp T2 i) = true := fun q => by
        rw [hi.1] at q
        exact hi.2 (leA_none_iff.mp q)
      obtain ⟨p, hp, e1, e2⟩ := rd i hnot
      have same : fAt T2 i = fAt T1 i := (h i).resolve_right fun q => q (by rw [hi.1]; exact leA_none _)
      have u := leA_trans (up i) e2
      rw [hi.1] at u
      have hp1 : lfp T1 p.1 = none := shA_none.mp (leA_none_iff.mp u)
      have hp2 : lfp T2 p.1 ≠ none := fun q => hi.2 (by rw [e1, q]; rfl)
      rw [e1]
      rw [same] at hp
      have w := ng_le g1 (mix (fun i => lfp T1 i = none ∧ lfp T2 i ≠ none) (lfp T1) (lfp T2)) hp
      rw [mix_in (U := fun i => lfp T1 i = none ∧ lfp T2 i ≠ none) ⟨hp1, hp2⟩] at w
      exact w) i0 ⟨h1, h2⟩
    rw [h1] at z
    exact h2 (leA_none_iff.mp z)
  · have fin : ∀ i, lfp T1 i = none → lfp T2 i = none := fun i h1 => Classical.byContradiction fun h2 => hinf ⟨i, h1, h2⟩
    intro i0
    refine Classical.byContradiction fun hnot0 => ?_
    have hn0 : i0 < T1.length := by
      refine Classical.byContradiction fun q => hnot0 ?_
      rw [lfp_ge m1 (by omega), lfp_ge m2 (by omega)]
      rfl
    obtain ⟨im, him, hmax⟩ := exists_max (fun i => (lfp T1 i).getD 0 - (lfp T2 i).getD (match lfp T1 i with | some a => a | none => 0)) T1.length (by omega)
    generalize hD : (lfp T1 im).getD 0 - (lfp T2 im).getD (match lfp T1 im with | some a => a | none => 0) = D at hmax
    -- a difference of finite amounts
    have dif : ∀ i a b, lfp T1 i = some a → lfp T2 i = some b → a - b ≤ D := fun i a b ha hb => by
      have hi : i < T1.length := by
        refine Classical.byContradiction fun q => ?_
        rw [lfp_ge m1 (by omega)] at ha
        cases ha
      have z := hmax i hi
      have z : (lfp T1 i).getD 0 - (lfp T2 i).getD (match lfp T1 i with | some a => a | none => 0) ≤ D := z
      rw [ha, hb] at z
      exact z
    obtain ⟨b0, hb0⟩ : ∃ b, lfp T2 i0 = some b := by
      cases e : lfp T2 i0 with
      | none =>
        rw [e] at hnot0
        exact absurd (leA_none _) hnot0
      | some b => exact ⟨b, rfl⟩
    obtain ⟨a0, ha0⟩ : ∃ a, lfp T1 i0 = some a := by
      cases e : lfp T1 i0 with
      | none =>
        rw [fin i0 e] at hb0
        cases hb0
      | some a => exact ⟨a, rfl⟩
    have hD0 : 0 < D := by
      have := dif i0 a0 b0 ha0 hb0
      rw [ha0, hb0] at hnot0
      have q : ¬ a0 ≤ b0 := fun q => hnot0 (leA_ss.mpr q)
      omega
    -- the greatest difference is taken
    obtain ⟨a1, b1, ha1, hb1, hd1⟩ : ∃ a b, lfp T1 im = some a ∧ lfp T2 im = some b ∧ a - b = D := by
      cases e1 : lfp T1 im with
      | none =>
        rw [e1, fin im e1] at hD
        have hD : (0 : Int) - 0 = D := hD
        omega
      | some a =>
        cases e2 : lfp T2 im with
        | none =>
          rw [e1, e2] at hD
          have hD : a - a = D := hD
          omega
        | some b =>
          rw [e1, e2] at hD
          exact ⟨a, b, rfl, rfl, hD⟩
    have z := mix_low m1 (U := fun i => ∃ a b, lfp T1 i = some a ∧ lfp T2 i = some b ∧ a - b = D) (y := lfp T2) (lfp_nn T2) (fun i ⟨a, b, ea, eb, hd⟩ => by
      rw [ea, eb]
      exact leA_ss.mpr (by omega)) (fun i ⟨a, b, ea, eb, hd⟩ => by
      have hb := lfp_nn T2 i b eb
      have hnot : ¬ leA (lfp T1 i) (lfp T2 i) = true := fun q => by
        rw [ea, eb] at q
        have := leA_ss.mp q
        omega
      obtain ⟨p, hp, e1, e2⟩ := rd i hnot
      rw [eb] at e1
      obtain ⟨v, ev⟩ := shA_fin e1.symm
      rw [ev, shA_some] at e1
      have e1 := Option.some.inj e1
      obtain ⟨u, eu⟩ : ∃ u, lfp T1 p.1 = some u := by
        cases e : lfp T1 p.1 with
        | none =>
          rw [fin _ e] at ev
          cases ev
        | some u => exact ⟨u, rfl⟩
      have huv := dif p.1 u v eu ev
      have w := leA_trans (up i) e2
      rw [ea, eu, shA_some] at w
      have w := leA_ss.mp w
      have hau : a ≤ u + p.2 := by
        split at w <;> omega
      have hbv : v + p.2 ≤ b := by
        rw [e1]
        split <;> omega
      have same : fAt T2 i = fAt T1 i := (h i).resolve_right fun q => by
        refine q ?_
        refine leA_trans e2 ?_
        rw [ea, eu, shA_some]
        refine leA_ss.mpr ?_
        split <;> omega
      rw [same] at hp
      have w2 := ng_le g1 (mix (fun i => ∃ a b, lfp T1 i = some a ∧ lfp T2 i = some b ∧ a - b = D) (lfp T1) (lfp T2)) hp
      rw [mix_in (U := fun i => ∃ a b, lfp T1 i = some a ∧ lfp T2 i = some b ∧ a - b = D) ⟨u, v, eu, ev, by omega⟩] at w2
      rw [eb, e1, ← shA_some, ← ev]
      exact w2) im ⟨a1, b1, ha1, hb1, hd1⟩
    rw [ha1, hb1] at z
    have := leA_ss.mp z
    omega
/-! ### settled_least -/
abbrev arcAt (arcs : List Arc) (k : Nat) : Arc := arcs.getD k (0, 0)
/-- the place gives more than the cell has, the most of all -/
def btOk (arcs : List Arc) (x : List Amt) (i k : Nat) : Bool := !leA (shA (gA x (arcAt arcs k).1) (arcAt arcs k).2) (gA x i) && decide (shA (gA x (arcAt arcs k).1) (arcAt arcs k).2 = greatestOf (arcVals arcs x))
def btArcs (arcs : List Arc) (x : List Amt) (i n : Nat) (b : Ch) : Ch := (List.range n).foldl (fun b k => if btOk arcs x i k = true then b.set i (some k) else b) b
def btCell (S : List Fm) (x : List Amt) (b : Ch) (i : Nat) : Ch := match fAt S i with
  | .great arcs => btArcs arcs x i arcs.length b
  | _ => b
def better (S : List Fm) (x : List Amt) (ch : Ch) : Ch := (List.range S.length).foldl (btCell S x) ch
theorem gC_set_eq {x : Ch} {i : Nat} {a : Option Nat} (h : i < x.length) : gC (x.set i a) i = a := getD_set_eq h
theorem gC_set_ne {x : Ch} {i j : Nat} {a : Option Nat} (h : i ≠ j) : gC (x.set i a) j = gC x j := getD_set_ne h
theorem btArcs_succ (arcs : List Arc) (x : List Amt) (i n : Nat) (b : Ch) : btArcs arcs x i (n + 1) b = if btOk arcs x i n = true then (btArcs arcs x i n b).set i (some n) else btArcs arcs x i n b := range_fold_succ (fun (b : Ch) k => if btOk arcs x i k = true then b.set i (some k) else b) b n
theorem btArcs_spec (arcs : List Arc) (x : List Amt) (i : Nat) (b : Ch) (hi : i < b.length) : ∀ n, (btArcs arcs x i n b).length = b.length ∧ (∀ j, j ≠ i → gC (btArcs arcs x i n b) j = gC b j) ∧ ((gC (btArcs arcs x i n b) i = gC b i ∧ ∀ k, k < n → btOk arcs x i k = false) ∨ ∃ k, k < n ∧ gC (btArcs arcs x i n b) i = some k ∧ btOk arcs x i k = true)
  | 0 => ⟨rfl, fun _ _ => rfl, .inl ⟨rfl, fun k h => absurd h (Nat.not_lt_zero _)⟩⟩
  | n + 1 => by
    obtain ⟨h1, h2, h3⟩ := btArcs_spec arcs x i b hi n
    rw [btArcs_succ]
    by_cases q : btOk arcs x i n = true
    · rw [if_pos q]
      refine ⟨by rw [List.length_set, h1], fun j hj => by rw [gC_set_ne (Ne.symm hj), h2 j hj], .inr ⟨n, by omega, gC_set_eq (by omega), q⟩⟩
    · rw [if_neg q]
      have q : btOk arcs x i n = false := by simpa using q
      refine ⟨h1, h2, ?_⟩
      rcases h3 with ⟨e, ha⟩ | ⟨k, hk, e, hb⟩
      · refine .inl ⟨e, fun k hk => ?_⟩
        by_cases ek : k = n
        · rw [ek]
          exact q
        · exact ha k (by omega)
      · exact .inr ⟨k, by omega, e, hb⟩
/-- what stands in a place of better -/
def BtAt (S : List Fm) (x : List Amt) (o o' : Option Nat) (i : Nat) : Prop := match fAt S i with
  | .great arcs => (o' = o ∧ ∀ k, k < arcs.length → btOk arcs x i k = false) ∨ ∃ k, k < arcs.length ∧ o' = some k ∧ btOk arcs x i k = true
  | _ => o' = o
theorem btCell_spec {S : List Fm} {x : List Amt} {b : Ch} {i : Nat} (hi : i < b.length) : (btCell S x b i).length = b.length ∧ (∀ j, j ≠ i → gC (btCell S x b i) j = gC b j) ∧ BtAt S x (gC b i) (gC (btCell S x b i) i) i := by
  unfold btCell BtAt
  cases fAt S i with
  | great arcs => exact btArcs_spec arcs x i b hi arcs.length
  | _ => exact ⟨rfl, fun _ _ => rfl, rfl⟩
theorem better_fold {S : List Fm} {x : List Amt} {b : Ch} (hb : b.length = S.length) : ∀ n, n ≤ S.length → ((List.range n).foldl (btCell S x) b).length = b.length ∧ (∀ j, n ≤ j → gC ((List.range n).foldl (btCell S x) b) j = gC b j) ∧ ∀ i, i < n → BtAt S x (gC b i) (gC ((List.range n).foldl (btCell S x) b) i) i
  | 0, _ => ⟨rfl, fun _ _ => rfl, fun i h => absurd h (Nat.not_lt_zero _)⟩
  | n + 1, hn => by
    obtain ⟨h1, h2, h3⟩ := better_fold (x := x) hb n (by omega)
    rw [range_fold_succ]
    have hlt : n < ((List.range n).foldl (btCell S x) b).length := by omega
    obtain ⟨c1, c2, c3⟩ := btCell_spec (S := S) (x := x) hlt
    refine ⟨by rw [c1, h1], fun j hj => by rw [c2 j (by omega), h2 j (by omega)], fun i hi => ?_⟩
    by_cases e : i = n
    · subst e
      rw [h2 i (Nat.le_refl _)] at c3
      exact c3
    · rw [c2 i e]
      exact h3 i (by omega)
theorem better_len {S : List Fm} {x : List Amt} {b : Ch} (hb : b.length = S.length) : (better S x b).length = b.length := (better_fold hb S.length (Nat.le_refl _)).1
theorem better_at {S : List Fm} {x : List Amt} {b : Ch} (hb : b.length = S.length) {i : Nat} (hi : i < S.length) : BtAt S x (gC b i) (gC (better S x b) i) i := (better_fold hb S.length (Nat.le_refl _)).2.2 i hi
theorem better_ok {S : List Fm} {x : List Amt} {ch : Ch} (hc : ChOk S ch) : ChOk S (better S x ch) := by
  refine ⟨by rw [better_len hc.len, hc.len], fun i f hf => ?_⟩
  have hi : i < S.length := (List.getElem?_eq_some_iff.mp hf).1
  have h := better_at (x := x) hc.len hi
  have q := hc.at_ i f hf
  unfold BtAt at h
  rw [fAt_some hf] at h
  cases f with
  | great arcs =>
    rcases h with ⟨e, _⟩ | ⟨k, hk, e, _⟩
    · rw [e]
      exact q
    · exact ⟨k, e, hk⟩
  | amt a =>
    have h : gC (better S x ch) i = gC ch i := h
    rw [h]
    exact q
  | least a =>
    have h : gC (better S x ch) i = gC ch i := h
    rw [h]
    exact q
  | when a b c =>
    have h : gC (better S x ch) i = gC ch i := h
    rw [h]
    exact q
theorem chS_same {S : List Fm} {ch ch' : Ch} {i : Nat} (h : gC ch' i = gC ch i) : fAt (chS S ch') i = fAt (chS S ch) i := by
  rw [chS_at, chS_at]
  cases fAt S i with
  | great arcs =>
    unfold chF
    rw [h]
  | _ => rfl
/-- a changed place gives more -/
theorem better_more {S : List Fm} {x : List Amt} {ch : Ch} (hc : ChOk S ch) (i : Nat) : fAt (chS S (better S x ch)) i = fAt (chS S ch) i ∨ ¬ leA (vF (fAt (chS S (better S x ch)) i) (gA x)) (gA x i) = true := by
  by_cases hi : i < S.length
  · have h := better_at (x := x) hc.len hi
    unfold BtAt at h
    cases hf : fAt S i with
    | great arcs =>
      rw [hf] at h
      rcases h with ⟨e, _⟩ | ⟨k, hk, e, hb⟩
      · exact .inl (chS_same e)
      · right
        rw [chS_at, hf]
        show ¬ leA (leastOf [shA (gA x (arcs.getD ((gC (better S x ch) i).getD 0) (0, 0)).1) (arcs.getD ((gC (better S x ch) i).getD 0) (0, 0)).2]) (gA x i) = true
        rw [leastOf_one, e]
        have := (Bool.and_eq_true_iff.mp hb).1
        simpa using this
    | amt a =>
      rw [hf] at h
      exact .inl (chS_same h)
    | least a =>
      rw [hf] at h
      exact .inl (chS_same h)
    | when a b c =>
      rw [hf] at h
      exact .inl (chS_same h)
  · left
    rw [fAt_ge (by rw [chS_len]; omega), fAt_ge (by rw [chS_len]; omega)]
/-- the choices whose least point is the sheet's own -/
theorem chS_le {S : List Fm} {ch : Ch} (m : MS S) (hc : ChOk S ch) : leP (lfp (chS S ch)) (lfp S) := lfp_le (fun i => leA_trans (chF_le hc _ i) (lfp_high m i)) (lfp_nn S)
theorem better_end {S : List Fm} {ch : Ch} (m : MS S) (hc : ChOk S ch) (h : better S (lfpL (chS S ch)) ch = ch) : lfp (chS S ch) = lfp S := by
  have mc := chS_ms m ch
  refine lfp_eq m (fun i => ?_) (lfp_nn _) (chS_le m hc)
  by_cases hi : i < S.length
  · have hb := better_at (x := lfpL (chS S ch)) hc.len hi
    rw [h] at hb
    have fx := lfp_fix mc i
    rw [chS_at] at fx
    unfold BtAt at hb
    cases hf : fAt S i with
    | great arcs =>
      rw [hf] at hb fx
      have hne : arcs ≠ [] := by
        have q := m i
        rw [hf] at q
        exact q.ne rfl
      have none' : ∀ k, k < arcs.length → btOk arcs (lfpL (chS S ch)) i k = false := by
        rcases hb with ⟨_, ha⟩ | ⟨k, hk, e, hb⟩
        · exact ha
        · exfalso
          have fx : leastOf [shA (lfp (chS S ch) (arcs.getD ((gC ch i).getD 0) (0, 0)).1) (arcs.getD ((gC ch i).getD 0) (0, 0)).2] = lfp (chS S ch) i := fx
          rw [leastOf_one, e] at fx
          have := (Bool.and_eq_true_iff.mp hb).1
          rw [gA_lfpL mc] at this
          have fx : shA (lfp (chS S ch) (arcAt arcs k).1) (arcAt arcs k).2 = lfp (chS S ch) i := fx
          rw [fx, leA_refl] at this
          cases this
      obtain ⟨p, hp, e⟩ := great_sv_at (x := lfp (chS S ch)) hne
      show leA (greatestOf (sv1 (lfp (chS S ch)) arcs)) (lfp (chS S ch) i) = true
      obtain ⟨k, hk, ek⟩ := List.mem_iff_getElem.mp hp
      have z := none' k hk
      have ea : arcAt arcs k = p := by
        show arcs.getD k (0, 0) = p
        rw [List.getD_eq_getElem?_getD, List.getElem?_eq_getElem hk, ek]
        rfl
      unfold btOk at z
      rw [gA_lfpL mc, ea] at z
      have eg : greatestOf (arcVals arcs (lfpL (chS S ch))) = greatestOf (sv1 (lfp (chS S ch)) arcs) := by
        rw [← gA_lfpL mc]
        rfl
      rw [eg, e, decide_eq_true rfl, Bool.and_true] at z
      rw [e]
      simpa using z
    | _ =>
      rw [hf] at fx
      have fx2 := fx
      show leA (vF _ (lfp (chS S ch))) (lfp (chS S ch) i) = true
      have e : ∀ f : Fm, chF ch i f = f → vF (chF ch i f) (lfp (chS S ch)) = lfp (chS S ch) i → leA (vF f (lfp (chS S ch))) (lfp (chS S ch) i) = true := fun f e1 e2 => by
        rw [e1] at e2
        rw [e2]
        exact leA_refl _
      exact e _ rfl fx2
  · rw [fAt_ge (by omega), lfp_ge mc (by rw [chS_len]; omega)]
    rfl
/-! ### the loop ends -/
def opts : List (Option Nat) := none :: (List.range 6).map some
def allCh : Nat → List Ch
  | 0 => [[]]
  | n + 1 => opts.flatMap fun o => (allCh n).map fun l => o :: l
theorem mem_allCh : ∀ (n : Nat) (l : Ch), l.length = n → (∀ o ∈ l, o ∈ opts) → l ∈ allCh n
  | 0, [], _, _ => List.mem_singleton.mpr rfl
  | n + 1, o :: l, h, ho => List.mem_flatMap.mpr ⟨o, ho o List.mem_cons_self, List.mem_map.mpr ⟨l, mem_allCh n l (by simpa using h) fun u hu => ho u (List.mem_cons_of_mem _ hu), rfl⟩⟩
theorem chOk_mem {S : List Fm} {ch : Ch} (ok : Wf S) (hc : ChOk S ch) : ch ∈ allCh S.length := by
  refine mem_allCh _ _ hc.len fun o ho => ?_
  obtain ⟨i, hi, e⟩ := List.mem_iff_getElem.mp ho
  have hi2 : i < S.length := by rw [← hc.len]; exact hi
  have hg := fAt_get hi2
  have q := hc.at_ i _ hg
  have f := ok.ok i _ hg
  have eo : gC ch i = o := gC_some (by rw [List.getElem?_eq_getElem hi, e])
  rw [eo] at q
  cases hf : fAt S i with
  | great arcs =>
    rw [hf] at q f
    obtain ⟨k, hk, hk2⟩ := q
    have := f.len
    rw [hk]
    exact List.mem_cons_of_mem _ (List.mem_map.mpr ⟨k, List.mem_range.mpr (by omega), rfl⟩)
  | _ =>
    rw [hf] at q
    have q : o = none := q
    rw [q]
    exact List.mem_cons_self
open Classical in
noncomputable def mu (S : List Fm) (ch : Ch) : Nat := ((allCh S.length).filter fun c => decide (¬ leP (lfp (chS S c)) (lfp (chS S ch)))).length
open Classical in
theorem better_mu {S : List Fm} {ch : Ch} (ok : Wf S) (m : MS S) (hc : ChOk S ch) (h : better S (lfpL (chS S ch)) ch ≠ ch) : mu S (better S (lfpL (chS S ch)) ch) < mu S ch := by
  have hb := better_ok (x := lfpL (chS S ch)) hc
  have mc := chS_ms m ch
  have hm := fun i => better_more (x := lfpL (chS S ch)) hc i
  rw [gA_lfpL mc] at hm
  have le := improve mc (chS_ms m _) (chS_ng m ch) (chS_ng m _) (by rw [chS_len, chS_len]) hm
  refine count_lt _ (fun c _ hp => ?_) ⟨better S (lfpL (chS S ch)) ch, chOk_mem ok hb, ?_, ?_⟩
  · have hp := of_decide_eq_true hp
    exact decide_eq_true fun q => hp (leP_trans q le)
  · refine decide_eq_true fun q => ?_
    -- some place is changed, it gives more there
    have hex : ∃ i, i < S.length ∧ gC (better S (lfpL (chS S ch)) ch) i ≠ gC ch i := Classical.byContradiction fun hn => by
      refine h (List.ext_getElem? fun i => ?_)
      have e1 := hb.len
      have e2 := hc.len
      by_cases hi : i < S.length
      · rw [gC_get (by omega), gC_get (by omega), Classical.byContradiction fun z => hn ⟨i, hi, z⟩]
      · rw [List.getElem?_eq_none (by omega), List.getElem?_eq_none (by omega)]
    obtain ⟨i, hi, hne⟩ := hex
    have eq : lfp (chS S (better S (lfpL (chS S ch)) ch)) = lfp (chS S ch) := funext fun j => leA_anti (q j) (le j)
    have hat := better_at (x := lfpL (chS S ch)) hc.len hi
    unfold BtAt at hat
    cases hf : fAt S i with
    | great arcs =>
      rw [hf] at hat
      rcases hat with ⟨e, _⟩ | ⟨k, hk, e, hb2⟩
      · exact hne e
      · have fx := lfp_fix (chS_ms m (better S (lfpL (chS S ch)) ch)) i
        rw [eq, chS_at, hf] at fx
        have fx : leastOf [shA (lfp (chS S ch) (arcs.getD ((gC (better S (lfpL (chS S ch)) ch) i).getD 0) (0, 0)).1) (arcs.getD ((gC (better S (lfpL (chS S ch)) ch) i).getD 0) (0, 0)).2] = lfp (chS S ch) i := fx
        rw [leastOf_one, e] at fx
        have := (Bool.and_eq_true_iff.mp hb2).1
        rw [gA_lfpL mc] at this
        have fx : shA (lfp (chS S ch) (arcAt arcs k).1) (arcAt arcs k).2 = lfp (chS S ch) i := fx
        rw [fx, leA_refl] at this
        cases this
    | _ =>
      rw [hf] at hat
      exact hne hat
  · exact decide_eq_false fun q => q (leP_refl _)
/-- the first choices -/
def ch0 (S : List Fm) : Ch := S.map fun f => if f.isG = true then some 0 else none
theorem ch0_ok {S : List Fm} (m : MS S) : ChOk S (ch0 S) := by
  refine ⟨List.length_map _, fun i f hf => ?_⟩
  have e : gC (ch0 S) i = if f.isG = true then some 0 else none := gC_some (by unfold ch0; rw [List.getElem?_map, hf]; rfl)
  rw [e]
  have q := m i
  rw [fAt_some hf] at q
  cases f with
  | great arcs =>
    have hne : arcs ≠ [] := q.ne rfl
    exact ⟨0, rfl, List.length_pos_iff.mpr hne⟩
  | _ => rfl
end Cs
set_option linter.all false
/-! M6: endless_paper. -/
namespace Cs
/-- the cells without end -/
noncomputable def ends (S : List Fm) : List Nat := (List.range S.length).filter fun i => (lfp S i).isNone
theorem mem_ends {S : List Fm} {i : Nat} : i ∈ ends S ↔ i < S.length ∧ lfp S i = none := by
  unfold ends
  rw [List.mem_filter, List.mem_range, Option.isNone_iff_eq_none]
def ptOf (es : List Nat) (n : Nat) (d : List Int) : List Amt := (List.range n).map fun i => if es.contains i = true then some (gD d i) else none
theorem ptOf_len (es : List Nat) (n : Nat) (d : List Int) : (ptOf es n d).length = n := by
  unfold ptOf
  rw [List.length_map, List.length_range]
theorem ptOf_at {es : List Nat} {n : Nat} {d : List Int} {i : Nat} (h : i < n) : gA (ptOf es n d) i = if es.contains i = true then some (gD d i) else none := by
  refine gA_some ?_
  unfold ptOf
  rw [List.getElem?_map, List.getElem?_range h]
  rfl
theorem ptOf_in {es : List Nat} {n : Nat} {d : List Int} {i : Nat} (h : i < n) (hi : i ∈ es) : gA (ptOf es n d) i = some (gD d i) := by
  rw [ptOf_at h, if_pos (by simpa using hi)]
theorem ptOf_step {es : List Nat} {n N : Nat} {s : CB} {u : Nat} {p : Arc} (hu : u < n) (hi : u ∈ es) (hl : s.d.length = n) :
    (ptOf es n s.d).set u (some (if gD s.d p.1 + wG N p < gD s.d u then gD s.d p.1 + wG N p else gD s.d u)) = ptOf es n (cbArc (N : Int) u s p).d := by
  refine list_ext_gA (by rw [List.length_set, ptOf_len, ptOf_len]) fun j hj => ?_
  rw [List.length_set, ptOf_len] at hj
  rw [cbArc_eq]
  by_cases e : u = j
  · subst e
    rw [gA_set_eq (by rw [ptOf_len]; exact hu), ptOf_in hu hi]
    by_cases q : gD s.d p.1 + wG N p < gD s.d u
    · rw [if_pos q, if_pos q]
      show _ = some (gD (s.d.set u _) u)
      rw [gD_eq (by omega)]
    · rw [if_neg q, if_neg q]
  · rw [gA_set_ne e, ptOf_at hj, ptOf_at hj]
    by_cases q : gD s.d p.1 + wG N p < gD s.d u
    · rw [if_pos q]
      show _ = if es.contains j = true then some (gD (s.d.set u _) j) else none
      rw [gD_ne e]
    · rw [if_neg q]
section
variable {S : List Fm} {ch : Ch}
theorem ends_arc (ok : Wf S) (m : MS S) (hc : ChOk S ch) (he : lfp (chS S ch) = lfp S) {i : Nat} (hi : i ∈ ends S) {p : Arc} (hp : p ∈ gG (told S ch) i) : p.1 ∈ ends S := by
  obtain ⟨h1, h2⟩ := mem_ends.mp hi
  have mc := chS_ms m ch
  have gok := told_gok ok hc
  refine mem_ends.mpr ⟨(gok.ok i _ (gG_get (by rw [told_len]; exact h1)) p hp).1, ?_⟩
  rw [told_at S ch h1] at hp
  have z := ng_le (chS_ng m ch) (lfp (chS S ch)) hp
  rw [lfp_fix mc, he, h2] at z
  exact shA_none.mp (leA_none_iff.mp z)
/-- the potentials that the rounds give -/
noncomputable def ptEnd (S : List Fm) (ch : Ch) : List Int := (itR (ends S).length (ends S) (told S ch) (ends S).length (cb0 S.length)).d
theorem ends_feas (ok : Wf S) (m : MS S) (hc : ChOk S ch) (he : lfp (chS S ch) = lfp S) : ∀ u ∈ ends S, ∀ p ∈ gG (told S ch) u, gD (ptEnd S ch) u ≤ gD (ptEnd S ch) p.1 + wG (ends S).length p := by
  have hes : ∀ u ∈ ends S, u < (told S ch).length := fun u hu => by
    rw [told_len]
    exact (mem_ends.mp hu).1
  have z := cb_feas (G := told S ch) (N := (ends S).length) hes rfl fun cyc C hin => by
    obtain ⟨h1, i, hi, e⟩ := nought_zero (chS_ms m ch) (chS_ng m ch) (fun u hu p hp => by
      rw [told_len] at hu
      rw [← told_at S ch hu]
      exact hp) C
    have := (mem_ends.mp (hin i hi)).2
    rw [he, e, this] at h1
    cases h1
  unfold ptEnd
  rw [told_len] at z
  exact z
theorem pot_ends (d : List Int) : potCells S.length (ptOf (ends S) S.length d) = ends S := by
  unfold potCells
  refine List.filter_congr fun i hi => ?_
  have hi := List.mem_range.mp hi
  rw [ptOf_at hi]
  by_cases h : i ∈ ends S
  · rw [if_pos (by simpa using h)]
    rw [(mem_ends.mp h).2]
    rfl
  · rw [if_neg (by simpa using h)]
    cases e : lfp S i with
    | none => exact absurd (mem_ends.mpr ⟨hi, e⟩) h
    | some v => rfl
theorem pt_some {d : List Int} {i : Nat} {u : Int} (h : gA (ptOf (ends S) S.length d) i = some u) : i ∈ ends S ∧ u = gD d i := by
  by_cases hi : i < S.length
  · rw [ptOf_at hi] at h
    by_cases q : (ends S).contains i = true
    · rw [if_pos q] at h
      exact ⟨by simpa using q, (Option.some.inj h).symm⟩
    · rw [if_neg q] at h
      cases h
  · have e : gA (ptOf (ends S) S.length d) i = none := by
      show (ptOf (ends S) S.length d).getD i none = none
      rw [List.getD_eq_getElem?_getD, List.getElem?_eq_none (by rw [ptOf_len]; omega)]
      rfl
    rw [e] at h
    cases h
theorem shows_end (ok : Wf S) (m : MS S) (hc : ChOk S ch) (he : lfp (chS S ch) = lfp S) : Shows S ch (ptOf (ends S) S.length (ptEnd S ch)) := by
  refine ⟨ptOf_len _ _ _, fun i u a h hi hf => ?_, fun i u h hi p hp => ?_⟩
  · have z := (mem_ends.mp (pt_some h).1).2
    rw [← lfp_fix m i, hf] at z
    exact z
  · obtain ⟨h1, rfl⟩ := pt_some h
    have h2 := ends_arc ok m hc he h1 hp
    refine ⟨_, ptOf_in (mem_ends.mp h2).1 h2, ?_⟩
    rw [pot_ends]
    have := ends_feas ok m hc he i h1 p hp
    unfold wG at this
    omega
theorem pt_isSome (d : List Int) {i : Nat} (hi : i < S.length) : (gA (ptOf (ends S) S.length d) i).isSome = (lfp S i).isNone := by
  rw [ptOf_at hi]
  by_cases h : i ∈ ends S
  · rw [if_pos (by simpa using h), (mem_ends.mp h).2]
    rfl
  · rw [if_neg (by simpa using h)]
    cases e : lfp S i with
    | none => exact absurd (mem_ends.mpr ⟨hi, e⟩) h
    | some v => rfl
end
end Cs
set_option linter.all false
/-! M7: ranks. -/
namespace Cs
def tightB (x : List Amt) (i : Nat) (p : Arc) : Bool := decide (shA (gA x p.1) p.2 = gA x i)
def lesserB (rk : Ch) (i : Nat) (p : Arc) : Bool := match gC rk p.1 with
  | some k => decide (k < (gC rk i).getD 0)
  | none => false
def tightL (S : List Fm) (x : List Amt) (i : Nat) : List Arc := (arcsOf (fAt S i)).filter (tightB x i)
def fallsB (S : List Fm) (x : List Amt) (rk : Ch) (i : Nat) : Bool :=
  if (fAt S i).isA = true then true else if (fAt S i).isG = true then (tightL S x i).any (lesserB rk i) else (tightL S x i).all (lesserB rk i)
structure Ranks (S : List Fm) (x : List Amt) (rk : Ch) : Prop where
  len : rk.length = S.length
  fin : ∀ i, i < S.length → (gA x i).isNone = (gC rk i).isNone
  falls : ∀ i a, i < S.length → gA x i = some a → 0 < a → fallsB S x rk i = true
/-! ### least_ranks -/
def lrInit (S : List Fm) (x : List Amt) (i : Nat) : Bool := decide (gA x i = some 0) || ((gA x i).isSome && (fAt S i).isA)
def lrRk0 (S : List Fm) (x : List Amt) (n : Nat) : Ch := (List.range S.length).map fun i => if i < n ∧ lrInit S x i = true then some 0 else none
def lrW0 (S : List Fm) (x : List Amt) (n : Nat) : List Nat := (List.range n).filter fun i => !lrInit S x i && (gA x i).isSome
def lrFound (S : List Fm) (x : List Amt) (r : Nat) (rk : Ch) (w : List Nat) : List Nat := w.filter fun c => fallsB S x (rk.set c (some r)) c
def lrSet (r : Nat) (rk : Ch) (f : List Nat) : Ch := f.foldl (fun rk c => rk.set c (some r)) rk
def lrStep (S : List Fm) (x : List Amt) (st : Ch × List Nat) (r : Nat) : Ch × List Nat :=
  (lrSet (r + 1) st.1 (lrFound S x (r + 1) st.1 st.2), st.2.filter fun c => !(lrFound S x (r + 1) st.1 st.2).contains c)
def lrRun (S : List Fm) (x : List Amt) (n : Nat) : Ch × List Nat := (List.range n).foldl (lrStep S x) (lrRk0 S x S.length, lrW0 S x S.length)
theorem lrRun_succ (S : List Fm) (x : List Amt) (n : Nat) : lrRun S x (n + 1) = lrStep S x (lrRun S x n) n := range_fold_succ _ _ n
theorem lrSet_len (r : Nat) : ∀ (f : List Nat) (rk : Ch), (lrSet r rk f).length = rk.length
  | [], rk => rfl
  | c :: f, rk => (lrSet_len r f (rk.set c (some r))).trans List.length_set
theorem lrSet_at (r : Nat) : ∀ (f : List Nat) (rk : Ch) (i : Nat), (∀ c ∈ f, c < rk.length) → gC (lrSet r rk f) i = if f.contains i = true then some r else gC rk i
  | [], rk, i, _ => rfl
  | c :: f, rk, i, h => by
    have ih := lrSet_at r f (rk.set c (some r)) i fun d hd => by
      rw [List.length_set]
      exact h d (List.mem_cons_of_mem _ hd)
    show gC (lrSet r (rk.set c (some r)) f) i = _
    rw [ih, List.contains_cons]
    by_cases q : f.contains i = true
    · rw [if_pos q, q, Bool.or_true, if_pos rfl]
    · rw [if_neg q]
      have q : f.contains i = false := by simpa using q
      rw [q, Bool.or_false]
      by_cases e : c = i
      · subst e
        rw [gC_set_eq (h c List.mem_cons_self), if_pos (by simp)]
      · rw [gC_set_ne e, if_neg (by simpa using fun z => e z.symm)]
/-- the state behind n rounds -/
structure LR (S : List Fm) (x : List Amt) (n : Nat) (rk : Ch) (w : List Nat) : Prop where
  len : rk.length = S.length
  nd : w.Nodup
  wt : ∀ c ∈ w, c < S.length ∧ gC rk c = none ∧ (∃ a, gA x c = some a ∧ 0 < a) ∧ (fAt S c).isA = false
  all : ∀ i, i < S.length → (gA x i).isSome = true → i ∈ w ∨ (gC rk i).isSome = true
  fin : ∀ i k, gC rk i = some k → i < S.length ∧ (gA x i).isSome = true ∧ k ≤ n
  falls : ∀ i a k, i < S.length → gA x i = some a → 0 < a → gC rk i = some k → fallsB S x rk i = true
theorem lesser_keep {rk rk' : Ch} {i : Nat} {p : Arc} (h : lesserB rk i p = true) (hi : ∀ k, gC rk i = some k → gC rk' i = some k) (hs : (gC rk i).isSome = true) (hp : ∀ k, gC rk p.1 = some k → gC rk' p.1 = some k) : lesserB rk' i p = true := by
  unfold lesserB at h ⊢
  cases e : gC rk p.1 with
  | none =>
    rw [e] at h
    cases h
  | some k =>
    rw [e] at h
    rw [hp k e]
    cases e2 : gC rk i with
    | none =>
      rw [e2] at hs
      cases hs
    | some j =>
      rw [e2] at h
      rw [hi j e2]
      exact h
theorem falls_keep {S : List Fm} {x : List Amt} {rk rk' : Ch} {i : Nat} (h : fallsB S x rk i = true) (hs : (gC rk i).isSome = true) (hk : ∀ j k, gC rk j = some k → gC rk' j = some k) : fallsB S x rk' i = true := by
  unfold fallsB at h ⊢
  split
  case isTrue => rfl
  case isFalse q =>
    rw [if_neg q] at h
    split
    case isTrue q2 =>
      rw [if_pos q2] at h
      obtain ⟨p, hp, hl⟩ := List.any_eq_true.mp h
      exact List.any_eq_true.mpr ⟨p, hp, lesser_keep hl (hk i) hs (hk p.1)⟩
    case isFalse q2 =>
      rw [if_neg q2] at h
      exact List.all_eq_true.mpr fun p hp => lesser_keep (List.all_eq_true.mp h p hp) (hk i) hs (hk p.1)
theorem gC_lt2 {rk : Ch} {i k : Nat} (h : gC rk i = some k) : i < rk.length := by
  refine Classical.byContradiction fun q => ?_
  have h : rk.getD i none = some k := h
  rw [List.getD_eq_getElem?_getD, List.getElem?_eq_none (by omega)] at h
  cases h
theorem lrRk0_at {S : List Fm} {x : List Amt} {n i : Nat} (h : i < S.length) : gC (lrRk0 S x n) i = if i < n ∧ lrInit S x i = true then some 0 else none := by
  refine gC_some ?_
  unfold lrRk0
  rw [List.getElem?_map, List.getElem?_range h]
  rfl
theorem lrRk0_len (S : List Fm) (x : List Amt) (n : Nat) : (lrRk0 S x n).length = S.length := by
  unfold lrRk0
  rw [List.length_map, List.length_range]
theorem lr_start {S : List Fm} {x : List Amt} (hn : ∀ i, nn (gA x i)) : LR S x 0 (lrRk0 S x S.length) (lrW0 S x S.length) := by
  have at0' : ∀ i k, gC (lrRk0 S x S.length) i = some k → i < S.length ∧ lrInit S x i = true ∧ k = 0 := fun i k h => by
    have hi := gC_lt2 h
    rw [lrRk0_len] at hi
    rw [lrRk0_at hi] at h
    by_cases q : i < S.length ∧ lrInit S x i = true
    · rw [if_pos q] at h
      exact ⟨hi, q.2, (Option.some.inj h).symm⟩
    · rw [if_neg q] at h
      cases h
  refine ⟨lrRk0_len _ _ _, ?_, fun c hc => ?_, fun i hi hs => ?_, fun i k h => ?_, fun i a k hi ha hpos h => ?_⟩
  · exact List.Nodup.sublist (List.filter_sublist) List.nodup_range
  · obtain ⟨h1, h2⟩ := List.mem_filter.mp hc
    have h1 := List.mem_range.mp h1
    obtain ⟨h3, h4⟩ := Bool.and_eq_true_iff.mp h2
    have h3 : lrInit S x c = false := by simpa using h3
    obtain ⟨h5, h6⟩ := Bool.or_eq_false_iff.mp (show (decide (gA x c = some 0) || ((gA x c).isSome && (fAt S c).isA)) = false from h3)
    rw [h4, Bool.true_and] at h6
    refine ⟨h1, by rw [lrRk0_at h1, if_neg (by rw [h3]; simp)], ?_, h6⟩
    cases e : gA x c with
    | none =>
      rw [e] at h4
      cases h4
    | some a =>
      have h0 := hn c a e
      have h7 := of_decide_eq_false h5
      refine ⟨a, rfl, ?_⟩
      by_cases z : a = 0
      · rw [e, z] at h7
        exact absurd rfl h7
      · omega
  · by_cases q : lrInit S x i = true
    · right
      rw [lrRk0_at hi, if_pos ⟨hi, q⟩]
      rfl
    · left
      refine List.mem_filter.mpr ⟨List.mem_range.mpr hi, ?_⟩
      have q : lrInit S x i = false := by simpa using q
      rw [q, hs]
      rfl
  · obtain ⟨h1, h2, h3⟩ := at0' i k h
    refine ⟨h1, ?_, by omega⟩
    rcases Bool.or_eq_true_iff.mp h2 with z | z
    · rw [of_decide_eq_true z]
      rfl
    · exact (Bool.and_eq_true_iff.mp z).1
  · obtain ⟨h1, h2, h3⟩ := at0' i k h
    rcases Bool.or_eq_true_iff.mp h2 with z | z
    · have z := of_decide_eq_true z
      rw [z] at ha
      have := Option.some.inj ha
      omega
    · unfold fallsB
      rw [if_pos (Bool.and_eq_true_iff.mp z).2]
theorem lr_step {S : List Fm} {x : List Amt} {n : Nat} {rk : Ch} {w : List Nat} (I : LR S x n rk w) : LR S x (n + 1) (lrStep S x (rk, w) n).1 (lrStep S x (rk, w) n).2 := by
  show LR S x (n + 1) (lrSet (n + 1) rk (lrFound S x (n + 1) rk w)) (w.filter fun c => !(lrFound S x (n + 1) rk w).contains c)
  have hf : ∀ c, c ∈ lrFound S x (n + 1) rk w ↔ c ∈ w ∧ fallsB S x (rk.set c (some (n + 1))) c = true := fun c => List.mem_filter
  have hfl : ∀ c ∈ lrFound S x (n + 1) rk w, c < rk.length := fun c hc => by
    rw [I.len]
    exact (I.wt c ((hf c).mp hc).1).1
  have hat := fun i => lrSet_at (n + 1) (lrFound S x (n + 1) rk w) rk i hfl
  generalize hF : lrFound S x (n + 1) rk w = F at hf hfl hat ⊢
  have keep : ∀ j k, gC rk j = some k → gC (lrSet (n + 1) rk F) j = some k := fun j k h => by
    rw [hat j]
    by_cases q : F.contains j = true
    · have hj : j ∈ F := by simpa using q
      have := (I.wt j ((hf j).mp hj).1).2.1
      rw [h] at this
      cases this
    · rw [if_neg q]
      exact h
  refine ⟨by rw [lrSet_len]; exact I.len, List.Nodup.sublist List.filter_sublist I.nd, fun c hc => ?_, fun i hi hs => ?_, fun i k h => ?_, fun i a k hi ha hpos h => ?_⟩
  · obtain ⟨h1, h2⟩ := List.mem_filter.mp hc
    obtain ⟨a1, a2, a3, a4⟩ := I.wt c h1
    have h2 : F.contains c = false := by simpa using h2
    refine ⟨a1, ?_, a3, a4⟩
    rw [hat c, if_neg (by rw [h2]; exact Bool.false_ne_true)]
    exact a2
  · by_cases q : F.contains i = true
    · right
      rw [hat i, if_pos q]
      rfl
    · rcases I.all i hi hs with z | z
      · left
        refine List.mem_filter.mpr ⟨z, ?_⟩
        have q : F.contains i = false := by simpa using q
        rw [q]
        rfl
      · right
        rw [hat i, if_neg q]
        exact z
  · rw [hat i] at h
    by_cases q : F.contains i = true
    · rw [if_pos q] at h
      have hi : i ∈ F := by simpa using q
      obtain ⟨a1, a2, ⟨a, a3, _⟩, a4⟩ := I.wt i ((hf i).mp hi).1
      have := Option.some.inj h
      exact ⟨a1, by rw [a3]; rfl, by omega⟩
    · rw [if_neg q] at h
      obtain ⟨a1, a2, a3⟩ := I.fin i k h
      exact ⟨a1, a2, by omega⟩
  · rw [hat i] at h
    by_cases q : F.contains i = true
    · have hi : i ∈ F := by simpa using q
      obtain ⟨h1, h2⟩ := (hf i).mp hi
      obtain ⟨a1, a2, _⟩ := I.wt i h1
      refine falls_keep h2 ?_ fun j k hj => ?_
      · rw [gC_set_eq (by rw [I.len]; exact a1)]
        rfl
      · by_cases e : i = j
        · subst e
          rw [gC_set_eq (by rw [I.len]; exact a1)] at hj
          rw [hat i, if_pos q]
          exact hj
        · rw [gC_set_ne e] at hj
          exact keep j k hj
    · rw [if_neg q] at h
      exact falls_keep (I.falls i a k hi ha hpos h) (by rw [h]; rfl) keep
/-- something is found as long as something waits -/
theorem lr_found {S : List Fm} {n : Nat} {rk : Ch} {w : List Nat} (ok : Wf S) (m : MS S) (I : LR S (lfpL S) n rk w) (hw : w ≠ []) : lrFound S (lfpL S) (n + 1) rk w ≠ [] := by
  intro hnone
  have hno : ∀ c ∈ w, fallsB S (lfpL S) (rk.set c (some (n + 1))) c = false := fun c hc => by
    have q := List.filter_eq_nil_iff.mp hnone c hc
    simpa using q
  have gx : gA (lfpL S) = lfp S := gA_lfpL m
  let y : Pt := fun i => (lfp S i).map fun a => a - 1
  have yw : ∀ i ∈ w, ∃ a, lfp S i = some a ∧ 0 < a ∧ y i = some (a - 1) := fun i hi => by
    obtain ⟨_, _, ⟨a, ha, hp⟩, _⟩ := I.wt i hi
    rw [gx] at ha
    exact ⟨a, ha, hp, by show (lfp S i).map _ = _; rw [ha]; rfl⟩
  -- a tight arc whose target has no lesser rank leads to a waiting cell
  have toW : ∀ c ∈ w, ∀ p ∈ tightL S (lfpL S) c, lesserB (rk.set c (some (n + 1))) c p = false → p.1 ∈ w := fun c hc p hp hl => by
    obtain ⟨h1, h2⟩ := List.mem_filter.mp hp
    obtain ⟨cl, cn, ⟨a, ha, hpos⟩, _⟩ := I.wt c hc
    by_cases e : c = p.1
    · rw [← e]
      exact hc
    · have h2 : shA (gA (lfpL S) p.1) p.2 = gA (lfpL S) c := of_decide_eq_true h2
      rw [ha] at h2
      obtain ⟨v, hv⟩ := shA_fin h2
      have hp1 : p.1 < S.length := by
        refine Classical.byContradiction fun q => ?_
        rw [gx, lfp_ge m (by omega)] at hv
        cases hv
      rcases I.all p.1 hp1 (by rw [hv]; rfl) with z | z
      · exact z
      · exfalso
        unfold lesserB at hl
        rw [gC_set_ne e, gC_set_eq (by rw [I.len]; exact cl)] at hl
        cases ek : gC rk p.1 with
        | none =>
          rw [ek] at z
          cases z
        | some k =>
          rw [ek] at hl
          have h3 := (I.fin p.1 k ek).2.2
          have hl : decide (k < n + 1) = false := hl
          have := of_decide_eq_false hl
          omega
  -- a tight arc to a waiting cell gives one less
  have less : ∀ c ∈ w, ∀ p ∈ tightL S (lfpL S) c, p.1 ∈ w → leA (shA (mix (· ∈ w) (lfp S) y p.1) p.2) (y c) = true := fun c hc p hp hpw => by
    obtain ⟨h1, h2⟩ := List.mem_filter.mp hp
    have h2 : shA (gA (lfpL S) p.1) p.2 = gA (lfpL S) c := of_decide_eq_true h2
    rw [gx] at h2
    obtain ⟨a, ha, hpos, hy⟩ := yw c hc
    obtain ⟨b, hb, hposb, hyb⟩ := yw p.1 hpw
    rw [mix_in (U := (· ∈ w)) hpw, hy, hyb, shA_some]
    rw [ha, hb, shA_some] at h2
    have h2 := Option.some.inj h2
    refine leA_ss.mpr ?_
    split at h2 <;> split <;> omega
  have mle : leP (mix (· ∈ w) (lfp S) y) (lfp S) := fun i => by
    by_cases hi : i ∈ w
    · rw [mix_in (U := (· ∈ w)) hi]
      obtain ⟨a, ha, hpos, hy⟩ := yw i hi
      rw [hy, ha]
      exact leA_ss.mpr (by omega)
    · rw [mix_out (U := (· ∈ w)) hi]
      exact leA_refl _
  have nny : nnP (mix (· ∈ w) (lfp S) y) := fun i => by
    by_cases hi : i ∈ w
    · rw [mix_in (U := (· ∈ w)) hi]
      obtain ⟨a, ha, hpos, hy⟩ := yw i hi
      rw [hy]
      intro u hu
      have := Option.some.inj hu
      omega
    · rw [mix_out (U := (· ∈ w)) hi]
      exact lfp_nn S i
  have high : High S (mix (· ∈ w) (lfp S) y) := fun c => by
    by_cases hc : c ∈ w
    · rw [mix_in (U := (· ∈ w)) hc]
      have hf := hno c hc
      obtain ⟨a, ha, hpos, hy⟩ := yw c hc
      have hA := (I.wt c hc).2.2.2
      unfold fallsB at hf
      rw [if_neg (by rw [hA]; exact Bool.false_ne_true)] at hf
      have fx := lfp_fix m c
      cases hq : fAt S c with
      | amt b =>
        rw [hq] at hA
        cases hA
      | when j b k =>
        have q := (m c).w
        rw [hq] at q
        cases q
      | great arcs =>
        rw [hq] at hf
        have hf : (tightL S (lfpL S) c).any (lesserB (rk.set c (some (n + 1))) c) = false := hf
        rw [hq] at fx
        have hne : arcs ≠ [] := by
          have q := m c
          rw [hq] at q
          exact q.ne rfl
        obtain ⟨p, hp, e⟩ := great_sv_at (x := mix (· ∈ w) (lfp S) y) hne
        show leA (greatestOf (sv1 (mix (· ∈ w) (lfp S) y) arcs)) (y c) = true
        rw [e]
        by_cases ht : tightB (lfpL S) c p = true
        · have hpt : p ∈ tightL S (lfpL S) c := List.mem_filter.mpr ⟨by rw [hq]; exact hp, ht⟩
          refine less c hc p hpt (toW c hc p hpt ?_)
          exact Bool.eq_false_iff.mpr fun z => by
            rw [List.any_eq_true.mpr ⟨p, hpt, z⟩] at hf
            cases hf
        · have ht : ¬ shA (gA (lfpL S) p.1) p.2 = gA (lfpL S) c := fun z => ht (decide_eq_true z)
          rw [gx, ha] at ht
          have hle : leA (shA (lfp S p.1) p.2) (some a) = true := by
            rw [← ha, ← fx]
            exact great_sv_le hp
          refine leA_trans (shA_mono p.2 (mle p.1)) ?_
          obtain ⟨i, ei, hi⟩ := leA_fin hle
          rw [ei] at ht ⊢
          rw [hy]
          refine leA_ss.mpr ?_
          have : i ≠ a := fun z => ht (by rw [z])
          omega
      | least arcs =>
        rw [hq] at hf
        have hf : (tightL S (lfpL S) c).all (lesserB (rk.set c (some (n + 1))) c) = false := hf
        obtain ⟨p, hpt, hl⟩ : ∃ p ∈ tightL S (lfpL S) c, lesserB (rk.set c (some (n + 1))) c p = false := by
          refine Classical.byContradiction fun z => ?_
          have : (tightL S (lfpL S) c).all (lesserB (rk.set c (some (n + 1))) c) = true := List.all_eq_true.mpr fun p hp => by
            refine Classical.byContradiction fun u => z ⟨p, hp, ?_⟩
            simpa using u
          rw [this] at hf
          cases hf
        have hp : p ∈ arcs := by
          have := (List.mem_filter.mp hpt).1
          rw [hq] at this
          exact this
        show leA (leastOf (sv1 (mix (· ∈ w) (lfp S) y) arcs)) (y c) = true
        exact leA_trans (least_sv_le hp) (less c hc p hpt (toW c hc p hpt hl))
    · rw [mix_out (U := (· ∈ w)) hc]
      exact leA_trans (vF_mono mle (m c)) (lfp_high m c)
  obtain ⟨c, hc⟩ := List.exists_mem_of_ne_nil w hw
  have z := lfp_le high nny c
  rw [mix_in (U := (· ∈ w)) hc] at z
  obtain ⟨a, ha, hpos, hy⟩ := yw c hc
  rw [ha, hy] at z
  have := leA_ss.mp z
  omega
theorem lr_run {S : List Fm} (ok : Wf S) (m : MS S) : ∀ n, LR S (lfpL S) n (lrRun S (lfpL S) n).1 (lrRun S (lfpL S) n).2 ∧ ((lrRun S (lfpL S) n).2 = [] ∨ (lrRun S (lfpL S) n).2.length + n ≤ S.length)
  | 0 => by
    have I := lr_start (S := S) (x := lfpL S) fun i => by
      rw [gA_lfpL m]
      exact lfp_nn S i
    refine ⟨I, .inr ?_⟩
    have := nodup_len S.length _ I.nd fun c hc => (I.wt c hc).1
    exact this
  | n + 1 => by
    obtain ⟨I, h⟩ := lr_run ok m n
    rw [lrRun_succ]
    have I2 := lr_step I
    refine ⟨I2, ?_⟩
    by_cases hw : (lrRun S (lfpL S) n).2 = []
    · left
      show ((lrRun S (lfpL S) n).2.filter _) = []
      rw [hw]
      rfl
    · have hl := h.resolve_left hw
      right
      have hf := lr_found ok m I hw
      show ((lrRun S (lfpL S) n).2.filter _).length + (n + 1) ≤ S.length
      obtain ⟨c, hc⟩ := List.exists_mem_of_ne_nil _ hf
      have hcw := (List.mem_filter.mp hc).1
      have z := count_lt (p := fun c => !(lrFound S (lfpL S) (n + 1) (lrRun S (lfpL S) n).1 (lrRun S (lfpL S) n).2).contains c) (q := fun _ => true) (lrRun S (lfpL S) n).2 (fun _ _ _ => rfl) ⟨c, hcw, rfl, by
        have : (lrFound S (lfpL S) (n + 1) (lrRun S (lfpL S) n).1 (lrRun S (lfpL S) n).2).contains c = true := by simpa using hc
        rw [this]
        rfl⟩
      rw [List.filter_eq_self.mpr fun _ _ => rfl] at z
      have z : ((lrRun S (lfpL S) n).2.filter fun c => !(lrFound S (lfpL S) (n + 1) (lrRun S (lfpL S) n).1 (lrRun S (lfpL S) n).2).contains c).length < (lrRun S (lfpL S) n).2.length := z
      omega
/-- the ranks found -/
noncomputable def lrEnd (S : List Fm) : Ch := (lrRun S (lfpL S) S.length).1
theorem lr_ranks {S : List Fm} (ok : Wf S) (m : MS S) : Ranks S (lfpL S) (lrEnd S) := by
  obtain ⟨I, h⟩ := lr_run ok m S.length
  have hw : (lrRun S (lfpL S) S.length).2 = [] := by
    rcases h with e | e
    · exact e
    · exact List.eq_nil_of_length_eq_zero (by omega)
  rw [hw] at I
  refine ⟨I.len, fun i hi => ?_, fun i a hi ha hpos => ?_⟩
  · cases e : gA (lfpL S) i with
    | none =>
      cases e2 : gC (lrEnd S) i with
      | none => rfl
      | some k =>
        have := (I.fin i k e2).2.1
        rw [e] at this
        cases this
    | some a =>
      rcases I.all i hi (by rw [e]; rfl) with z | z
      · cases z
      · have z : (gC (lrEnd S) i).isSome = true := z
        cases e2 : gC (lrEnd S) i with
        | none =>
          rw [e2] at z
          cases z
        | some k => rfl
  · rcases I.all i hi (by rw [ha]; rfl) with z | z
    · cases z
    · obtain ⟨k, hk⟩ := Option.isSome_iff_exists.mp z
      exact I.falls i a k hi ha hpos hk
end Cs
set_option linter.all false
/-! M8: the stages. -/
namespace Cs
noncomputable def stg (S : List Fm) : Nat → List Nat
  | 0 => []
  | k + 1 => fulf S (lfpL (opn S (stg S k)))
noncomputable def xs (S : List Fm) (k : Nat) : List Amt := lfpL (opn S (stg S k))
theorem stg_succ (S : List Fm) (k : Nat) : stg S (k + 1) = fulf S (xs S k) := rfl
theorem xs_len (S : List Fm) (k : Nat) : (xs S k).length = S.length := by
  unfold xs
  rw [lfpL_len, opn_len]
section
variable {S : List Fm}
theorem opn_ms (ok : Wf S) (pl : List Nat) : MS (opn S pl) := ms_of (opn_wf pl ok) (opn_plain S pl)
theorem opn_at (pl : List Nat) (i : Nat) : fAt (opn S pl) i = opnAt pl i (fAt S i) := by
  by_cases h : i < S.length
  · exact fAt_some (opn_get (fAt_get h))
  · rw [fAt_ge (by rw [opn_len]; omega), fAt_ge (by omega)]
    rfl
theorem shA_zero {a : Amt} (h : nn a) : shA a 0 = a := by
  cases a with
  | none => rfl
  | some i =>
    have := h i rfl
    rw [shA_some]
    refine congrArg some ?_
    split <;> omega
theorem greatestOf_one (a : Amt) : greatestOf [a] = a := by
  have h := greatestOf_mem (l := [a]) (by simp)
  simpa using h
/-- more places open, more amounts -/
theorem opn_mono (ok : Wf S) {p q : List Nat} (h : ∀ i, i ∈ p → i ∈ q) : leP (lfp (opn S p)) (lfp (opn S q)) := by
  refine lfp_le (fun i => leA_trans ?_ (lfp_high (opn_ms ok q) i)) (lfp_nn _)
  rw [opn_at, opn_at]
  cases hf : fAt S i with
  | when j b k =>
    show leA (vF (if p.contains i = true then Fm.great [(k, 0)] else .amt (some 0)) _) (vF (if q.contains i = true then Fm.great [(k, 0)] else .amt (some 0)) _) = true
    by_cases hp : p.contains i = true
    · have hq : q.contains i = true := by
        have := h i (by simpa using hp)
        simpa using this
      rw [if_pos hp, if_pos hq]
      exact leA_refl _
    · rw [if_neg hp]
      by_cases hq : q.contains i = true
      · rw [if_pos hq]
        show leA (some 0) (greatestOf [shA (lfp (opn S q) k) 0]) = true
        rw [greatestOf_one]
        cases e : shA (lfp (opn S q) k) 0 with
        | none => rfl
        | some v => exact leA_ss.mpr (shA_nn _ _ v e)
      · rw [if_neg hq]
        exact leA_refl _
  | _ => exact leA_refl _
theorem mem_fulf {x : List Amt} {i : Nat} : i ∈ fulf S x ↔ i < S.length ∧ (fAt S i).isW = true ∧ whenMet x (fAt S i) = true := by
  unfold fulf conds
  rw [List.mem_filter, List.mem_filter, List.mem_range, and_assoc]
theorem fulf_mono {x y : List Amt} (h : leP (gA x) (gA y)) : ∀ i, i ∈ fulf S x → i ∈ fulf S y := fun i hi => by
  obtain ⟨h1, h2, h3⟩ := mem_fulf.mp hi
  refine mem_fulf.mpr ⟨h1, h2, ?_⟩
  cases hf : fAt S i with
  | when j b k =>
    rw [hf] at h3
    exact leA_trans h3 (h j)
  | _ =>
    rw [hf] at h2
    cases h2
theorem xs_mono (ok : Wf S) {j k : Nat} (h : ∀ i, i ∈ stg S j → i ∈ stg S k) : leP (gA (xs S j)) (gA (xs S k)) := by
  unfold xs
  rw [gA_lfpL (opn_ms ok _), gA_lfpL (opn_ms ok _)]
  exact opn_mono ok h
theorem stg_sub (ok : Wf S) : ∀ k i, i ∈ stg S k → i ∈ stg S (k + 1)
  | 0, i, h => by cases h
  | k + 1, i, h => fulf_mono (xs_mono ok (stg_sub ok k)) i h
theorem stg_conds : ∀ k i, i ∈ stg S k → i < S.length ∧ (fAt S i).isW = true
  | 0, i, h => by cases h
  | k + 1, i, h => ⟨(mem_fulf.mp h).1, (mem_fulf.mp h).2.1⟩
theorem mem_conds0 {i : Nat} (h : i ∈ conds S) : i < S.length ∧ (fAt S i).isW = true := by
  unfold conds at h
  rw [List.mem_filter, List.mem_range] at h
  exact h
/-- each stage's places: some of the conditions, in order -/
theorem stg_filter : ∀ k, stg S k = (conds S).filter fun i => (stg S k).contains i
  | 0 => by
    show [] = (conds S).filter fun i => ([] : List Nat).contains i
    rw [List.filter_eq_nil_iff.mpr]
    intro a _
    simp
  | k + 1 => by
    show fulf S (xs S k) = (conds S).filter fun i => (fulf S (xs S k)).contains i
    refine (List.filter_congr fun i hi => ?_)
    have hc := mem_conds0 hi
    by_cases q : whenMet (xs S k) (fAt S i) = true
    · rw [q]
      have : i ∈ fulf S (xs S k) := mem_fulf.mpr ⟨hc.1, hc.2, q⟩
      simpa using this
    · have : i ∉ fulf S (xs S k) := fun z => q (mem_fulf.mp z).2.2
      have q : whenMet (xs S k) (fAt S i) = false := by simpa using q
      rw [q]
      simpa using this
theorem stg_len_lt (ok : Wf S) {k : Nat} (h : stg S (k + 1) ≠ stg S k) : (stg S k).length < (stg S (k + 1)).length := by
  have hsub := stg_sub ok k
  have e1 := stg_filter (S := S) k
  have e2 := stg_filter (S := S) (k + 1)
  generalize stg S (k + 1) = q at h hsub e2 ⊢
  generalize stg S k = p at h hsub e1 ⊢
  rw [e1, e2]
  have hex : ∃ a ∈ conds S, q.contains a = true ∧ p.contains a = false := by
    refine Classical.byContradiction fun hn => h ?_
    rw [e1, e2]
    refine List.filter_congr fun a ha => ?_
    cases hp : p.contains a with
    | true =>
      have : a ∈ q := hsub a (by simpa using hp)
      simpa using this
    | false =>
      cases hq : q.contains a with
      | false => rfl
      | true => exact (hn ⟨a, ha, hq, hp⟩).elim
  have z := count_lt (p := fun i => p.contains i) (q := fun i => q.contains i) (conds S) (fun a _ ha => by
    have : a ∈ q := hsub a (by simpa using ha)
    simpa using this) hex
  exact z
theorem condsLen : (conds S).length ≤ S.length := by
  have := List.length_filter_le (fun i => (fAt S i).isW) (List.range S.length)
  rw [List.length_range] at this
  exact this
theorem stg_len (ok : Wf S) : ∀ k, (∀ j, j < k → stg S (j + 1) ≠ stg S j) → k ≤ (stg S k).length
  | 0, _ => Nat.zero_le _
  | k + 1, h => by
    have a := stg_len ok k fun j hj => h j (by omega)
    have b := stg_len_lt ok (h k (by omega))
    omega
theorem stg_le (k : Nat) : (stg S k).length ≤ S.length := by
  rw [stg_filter k]
  exact Nat.le_trans (List.length_filter_le _ _) condsLen
theorem stg_ends (ok : Wf S) : ∃ m, (stg S (m + 1) = stg S m ∧ ∀ j, j < m → stg S (j + 1) ≠ stg S j) := by
  have hex : ∃ k, stg S (k + 1) = stg S k := by
    refine Classical.byContradiction fun hn => ?_
    have a := stg_len ok (S.length + 1) fun j _ e => hn ⟨j, e⟩
    have b := stg_le (S := S) (S.length + 1)
    omega
  obtain ⟨k, hk⟩ := hex
  obtain ⟨m, h1, h2⟩ := exists_min (p := fun k => stg S (k + 1) = stg S k) k hk
  exact ⟨m, h1, h2⟩
open Classical in
/-- the last stage -/
noncomputable def lastS (S : List Fm) : Nat := if h : ∃ m, (stg S (m + 1) = stg S m ∧ ∀ j, j < m → stg S (j + 1) ≠ stg S j) then Classical.choose h else 0
theorem lastS_spec (ok : Wf S) : stg S (lastS S + 1) = stg S (lastS S) ∧ ∀ j, j < lastS S → stg S (j + 1) ≠ stg S j := by
  have h := stg_ends ok
  unfold lastS
  rw [dif_pos h]
  exact Classical.choose_spec h
theorem lastS_le (ok : Wf S) : lastS S ≤ S.length := Nat.le_trans (stg_len ok _ (lastS_spec ok).2) (stg_le _)
/-- the last amounts solve the sheet -/
theorem last_solves (ok : Wf S) : fvals S (xs S (lastS S)) = xs S (lastS S) := by
  have hl := (lastS_spec ok).1
  generalize lastS S = m at hl ⊢
  have ms := opn_ms ok (stg S m)
  have hx : xs S m = lfpL (opn S (stg S m)) := rfl
  refine list_ext_gA (by rw [fvals_len, xs_len]) fun i hi => ?_
  rw [fvals_len] at hi
  rw [fvals_get hi, hx, gA_lfpL ms]
  have fx := lfp_fix ms i
  rw [opn_at] at fx
  cases hf : fAt S i with
  | when j b k =>
    rw [hf] at fx
    have fx : vF (if (stg S m).contains i = true then Fm.great [(k, 0)] else .amt (some 0)) (lfp (opn S (stg S m))) = lfp (opn S (stg S m)) i := fx
    have hmem : i ∈ stg S m ↔ leA (some b) (lfp (opn S (stg S m)) j) = true := by
      have e : i ∈ stg S m ↔ i ∈ fulf S (xs S m) := by
        rw [← stg_succ, hl]
      rw [e, mem_fulf, hf, hx]
      show i < S.length ∧ true = true ∧ leA (some b) (gA (lfpL (opn S (stg S m))) j) = true ↔ _
      rw [gA_lfpL ms]
      exact ⟨fun z => z.2.2, fun z => ⟨hi, rfl, z⟩⟩
    show (if leA (some b) (lfp (opn S (stg S m)) j) = true then lfp (opn S (stg S m)) k else some 0) = _
    by_cases q : leA (some b) (lfp (opn S (stg S m)) j) = true
    · have hc : (stg S m).contains i = true := by
        have := hmem.mpr q
        simpa using this
      rw [if_pos hc] at fx
      rw [if_pos q, ← fx]
      show _ = greatestOf [shA (lfp (opn S (stg S m)) k) 0]
      rw [greatestOf_one, shA_zero (lfp_nn _ k)]
    · have hc : ¬ (stg S m).contains i = true := fun z => q (hmem.mp (by simpa using z))
      rw [if_neg hc] at fx
      rw [if_neg q, ← fx]
      rfl
  | amt a =>
    rw [hf] at fx
    exact fx
  | least a =>
    rw [hf] at fx
    exact fx
  | great a =>
    rw [hf] at fx
    exact fx
end
end Cs
set_option linter.all false
/-! M9: the law's own reckoning of the least point, from below with a bound. -/
namespace Cs
/-- what the law's bound promises -/
structure Bnd (S : List Fm) (B : Int) : Prop where
  ex : ∃ m s : Int, B = m + s * S.length ∧ 0 ≤ m ∧ m ≤ 11 ∧ 0 ≤ s ∧ s ≤ 4 ∧ (∀ i a, fAt S i = .amt (some a) → a ≤ m) ∧ ∀ i, ∀ p ∈ arcsOf (fAt S i), p.2 ≤ s
theorem Bnd.range {S : List Fm} {B : Int} (h : Bnd S B) (ok : Wf S) : 0 ≤ B ∧ B ≤ 63 := by
  obtain ⟨m, s, e, h1, h2, h3, h4, _, _⟩ := h.ex
  have hl := ok.len
  have a : s * (S.length : Int) ≤ 4 * (S.length : Int) := Int.mul_le_mul_of_nonneg_right h4 (by omega)
  have b : 0 ≤ s * (S.length : Int) := Int.mul_nonneg h3 (by omega)
  omega
/-- finite amounts lie within the bound -/
theorem bnd_ok {S : List Fm} {B : Int} (ok : Wf S) (m : MS S) (h : Bnd S B) : ∀ i v, lfp S i = some v → v ≤ B := by
  obtain ⟨mo, st, e, h1, h2, h3, h4, hA, hC⟩ := h.ex
  have R := lr_ranks ok m
  have hrun := (lr_run ok m S.length).1
  have rkn : ∀ i k, gC (lrEnd S) i = some k → k ≤ S.length := fun i k hk => (hrun.fin i k hk).2.2
  have key : ∀ r i v, lfp S i = some v → gC (lrEnd S) i = some r → v ≤ mo + st * r := by
    intro r
    induction r using Nat.strongRecOn with
    | ind r ih =>
      intro i v hv hr
      have hi : i < S.length := by
        refine Classical.byContradiction fun q => ?_
        rw [lfp_ge m (by omega)] at hv
        cases hv
      have hsr : 0 ≤ st * (r : Int) := Int.mul_nonneg h3 (by omega)
      by_cases hpos : 0 < v
      · have hf := R.falls i v hi (by rw [gA_lfpL m]; exact hv) hpos
        -- a tight arc to a lesser rank is enough
        have one : ∀ p ∈ tightL S (lfpL S) i, lesserB (lrEnd S) i p = true → v ≤ mo + st * r := fun p hp hl => by
          obtain ⟨p1, p2⟩ := List.mem_filter.mp hp
          have p2 : shA (gA (lfpL S) p.1) p.2 = gA (lfpL S) i := of_decide_eq_true p2
          rw [gA_lfpL m, hv] at p2
          obtain ⟨w, hw⟩ := shA_fin p2
          rw [hw, shA_some] at p2
          have p2 := Option.some.inj p2
          unfold lesserB at hl
          rw [hr] at hl
          cases ek : gC (lrEnd S) p.1 with
          | none =>
            rw [ek] at hl
            cases hl
          | some k =>
            rw [ek] at hl
            have hk : k < r := of_decide_eq_true hl
            have a := ih k hk p.1 w hw ek
            have c := hC i p p1
            have d : st * ((k : Int) + 1) ≤ st * (r : Int) := Int.mul_le_mul_of_nonneg_left (by omega) h3
            rw [Int.mul_add] at d
            split at p2 <;> omega
        cases hq : fAt S i with
        | amt a =>
          have ea : a = some v := by
            rw [← lfp_fix m i, hq] at hv
            exact hv
          rw [ea] at hq
          have := hA i v hq
          omega
        | when j b k =>
          have q := (m i).w
          rw [hq] at q
          cases q
        | great arcs =>
          unfold fallsB at hf
          rw [hq] at hf
          have hf : (tightL S (lfpL S) i).any (lesserB (lrEnd S) i) = true := hf
          obtain ⟨p, hp, hl⟩ := List.any_eq_true.mp hf
          exact one p hp hl
        | least arcs =>
          unfold fallsB at hf
          rw [hq] at hf
          have hf : (tightL S (lfpL S) i).all (lesserB (lrEnd S) i) = true := hf
          have hne : arcs ≠ [] := by
            have q := m i
            rw [hq] at q
            exact q.ne rfl
          obtain ⟨p, hp, ep⟩ := least_sv_at (x := lfp S) hne
          have fx := lfp_fix m i
          rw [hq] at fx
          have fx : leastOf (sv1 (lfp S) arcs) = lfp S i := fx
          rw [ep] at fx
          have hpt : p ∈ tightL S (lfpL S) i := List.mem_filter.mpr ⟨by rw [hq]; exact hp, decide_eq_true (by rw [gA_lfpL m]; exact fx)⟩
          exact one p hpt (List.all_eq_true.mp hf p hpt)
      · omega
  intro i v hv
  have hi : i < S.length := by
    refine Classical.byContradiction fun q => ?_
    rw [lfp_ge m (by omega)] at hv
    cases hv
  have hf := R.fin i hi
  rw [gA_lfpL m, hv] at hf
  cases ek : gC (lrEnd S) i with
  | none =>
    rw [ek] at hf
    cases hf
  | some k =>
    have a := key k i v hv ek
    have b := rkn i k ek
    have d : st * (k : Int) ≤ st * (S.length : Int) := Int.mul_le_mul_of_nonneg_left (by omega) h3
    omega
/-! ### the rounds -/
def capA (B : Int) : Amt → Amt
  | none => none
  | some v => if v > B then none else some v
theorem capA_mono {B : Int} {a b : Amt} (h : leA a b = true) : leA (capA B a) (capA B b) = true := by
  cases b with
  | none => exact leA_none _
  | some j =>
    obtain ⟨i, rfl, hi⟩ := leA_fin h
    unfold capA
    by_cases q : j > B
    · simp only [if_pos q]
      exact leA_none _
    · have q2 : ¬ i > B := by omega
      simp only [if_neg q, if_neg q2]
      exact leA_ss.mpr hi
theorem capA_up (B : Int) (a : Amt) : leA a (capA B a) = true := by
  cases a with
  | none => rfl
  | some v =>
    unfold capA
    by_cases q : v > B
    · simp only [if_pos q]
      exact leA_none _
    · simp only [if_neg q]
      exact leA_refl _
theorem capA_fin {B v : Int} {a : Amt} (h : capA B a = some v) : v ≤ B ∧ a = some v := by
  cases a with
  | none => cases h
  | some u =>
    unfold capA at h
    by_cases q : u > B
    · simp only [if_pos q] at h
      cases h
    · simp only [if_neg q] at h
      have e := Option.some.inj h
      exact ⟨by omega, by rw [e]⟩
def nextL (S : List Fm) (B : Int) (x : List Amt) : List Amt := (fvals S x).map (capA B)
def itL (S : List Fm) (B : Int) : Nat → List Amt
  | 0 => List.replicate S.length (some 0)
  | k + 1 => nextL S B (itL S B k)
theorem itL_len (S : List Fm) (B : Int) : ∀ k, (itL S B k).length = S.length
  | 0 => List.length_replicate
  | k + 1 => by
    show ((fvals S (itL S B k)).map (capA B)).length = _
    rw [List.length_map, fvals_len]
theorem nextL_at {S : List Fm} {B : Int} {x : List Amt} {i : Nat} (h : i < S.length) : gA (nextL S B x) i = capA B (vF (fAt S i) (gA x)) := by
  rw [← fvals_get h]
  refine gA_some ?_
  unfold nextL
  rw [List.getElem?_map, gA_get (by rw [fvals_len]; exact h)]
  rfl
theorem gA_ge {x : List Amt} {i : Nat} (h : x.length ≤ i) : gA x i = none := by
  show x.getD i none = none
  rw [List.getD_eq_getElem?_getD, List.getElem?_eq_none h]
  rfl
theorem it0_at {S : List Fm} {B : Int} {i : Nat} (h : i < S.length) : gA (itL S B 0) i = some 0 := by
  show (List.replicate S.length (some (0 : Int))).getD i none = some 0
  rw [List.getD_eq_getElem?_getD, List.getElem?_replicate, if_pos h]
  rfl
section
variable {S : List Fm} {B : Int}
theorem itL_nn (m : MS S) (hB : 0 ≤ B) : ∀ k i v, gA (itL S B k) i = some v → 0 ≤ v ∧ v ≤ B := by
  intro k i v h
  have hi : i < S.length := by
    refine Classical.byContradiction fun q => ?_
    rw [gA_ge (by rw [itL_len]; omega)] at h
    cases h
  cases k with
  | zero =>
    rw [it0_at hi] at h
    have := Option.some.inj h
    omega
  | succ k =>
    have h : gA (nextL S B (itL S B k)) i = some v := h
    rw [nextL_at hi] at h
    obtain ⟨h1, h2⟩ := capA_fin h
    exact ⟨vF_nn (m i) v h2, h1⟩
theorem next_mono (m : MS S) {x y : List Amt} (hx : x.length = S.length) (hy : y.length = S.length) (h : leP (gA x) (gA y)) : leP (gA (nextL S B x)) (gA (nextL S B y)) := fun i => by
  by_cases hi : i < S.length
  · rw [nextL_at hi, nextL_at hi]
    exact capA_mono (vF_mono h (m i))
  · rw [gA_ge (x := nextL S B y) (by unfold nextL; rw [List.length_map, fvals_len]; omega)]
    exact leA_none _
theorem itL_up (m : MS S) (hB : 0 ≤ B) : ∀ k, leP (gA (itL S B k)) (gA (itL S B (k + 1)))
  | 0 => fun i => by
    by_cases hi : i < S.length
    · rw [it0_at hi]
      cases e : gA (itL S B 1) i with
      | none => rfl
      | some v => exact leA_ss.mpr (itL_nn m hB 1 i v e).1
    · rw [gA_ge (x := itL S B 1) (by rw [itL_len]; omega)]
      exact leA_none _
  | k + 1 => next_mono m (itL_len _ _ _) (itL_len _ _ _) (itL_up m hB k)
theorem itL_low (ok : Wf S) (m : MS S) (h : Bnd S B) : ∀ k, leP (gA (itL S B k)) (lfp S)
  | 0 => fun i => by
    by_cases hi : i < S.length
    · rw [it0_at hi]
      cases e : lfp S i with
      | none => rfl
      | some v => exact leA_ss.mpr (lfp_nn S i v e)
    · rw [lfp_ge m (by omega)]
      exact leA_none _
  | k + 1 => fun i => by
    by_cases hi : i < S.length
    · have e : gA (itL S B (k + 1)) i = capA B (vF (fAt S i) (gA (itL S B k))) := nextL_at hi
      rw [e]
      have z := capA_mono (B := B) (vF_mono (itL_low ok m h k) (m i))
      rw [lfp_fix m i] at z
      have w : capA B (lfp S i) = lfp S i := by
        cases e2 : lfp S i with
        | none => rfl
        | some v =>
          have := bnd_ok ok m h i v e2
          unfold capA
          have q : ¬ v > B := by omega
          simp only [if_neg q]
      rw [w] at z
      exact z
    · rw [lfp_ge m (by omega)]
      exact leA_none _
/-- a round that changes nothing: the least point -/
theorem itL_end (ok : Wf S) (m : MS S) (h : Bnd S B) {k : Nat} (he : itL S B (k + 1) = itL S B k) : itL S B k = lfpL S := by
  refine eq_lfpL m (itL_len _ _ _) fun i hi => ?_
  have hB := (h.range ok).1
  have e := lfp_eq m (x := gA (itL S B k)) (fun j => ?_) (fun j v hv => (itL_nn m hB k j v hv).1) (itL_low ok m h k)
  · rw [e]
  · by_cases hj : j < S.length
    · have z : gA (itL S B (k + 1)) j = capA B (vF (fAt S j) (gA (itL S B k))) := nextL_at hj
      rw [he] at z
      rw [z]
      exact capA_up _ _
    · rw [gA_ge (x := itL S B k) (by rw [itL_len]; omega)]
      exact leA_none _
/-! ### they end -/
def sumN (f : Nat → Nat) : Nat → Nat
  | 0 => 0
  | n + 1 => sumN f n + f n
theorem sumN_le {f g : Nat → Nat} : ∀ n, (∀ i, i < n → f i ≤ g i) → sumN f n ≤ sumN g n
  | 0, _ => Nat.le_refl _
  | n + 1, h => by
    have a := sumN_le n fun i hi => h i (by omega)
    have b := h n (by omega)
    show sumN f n + f n ≤ sumN g n + g n
    omega
theorem sumN_lt {f g : Nat → Nat} : ∀ n, (∀ i, i < n → f i ≤ g i) → (∃ i, i < n ∧ f i < g i) → sumN f n < sumN g n
  | 0, _, ⟨i, hi, _⟩ => absurd hi (Nat.not_lt_zero _)
  | n + 1, h, ⟨i, hi, hl⟩ => by
    have b := h n (by omega)
    show sumN f n + f n < sumN g n + g n
    by_cases e : i = n
    · subst e
      have a := sumN_le i fun j hj => h j (by omega)
      omega
    · have a := sumN_lt n (fun j hj => h j (by omega)) ⟨i, by omega, hl⟩
      omega
theorem sumN_bd {f : Nat → Nat} {M : Nat} : ∀ n, (∀ i, i < n → f i ≤ M) → sumN f n ≤ n * M
  | 0, _ => Nat.zero_le _
  | n + 1, h => by
    have a := sumN_bd n fun i hi => h i (by omega)
    have b := h n (by omega)
    show sumN f n + f n ≤ (n + 1) * M
    rw [Nat.add_mul]
    omega
def htA : Amt → Nat
  | none => 64
  | some v => v.toNat
theorem htA_le {a b : Amt} (h : leA a b = true) (ha : ∀ v, a = some v → 0 ≤ v ∧ v ≤ 63) (hb : ∀ v, b = some v → 0 ≤ v ∧ v ≤ 63) : htA a ≤ htA b ∧ (a ≠ b → htA a < htA b) := by
  cases b with
  | none =>
    cases a with
    | none => exact ⟨Nat.le_refl _, fun z => absurd rfl z⟩
    | some v =>
      have := ha v rfl
      show v.toNat ≤ 64 ∧ (_ → v.toNat < 64)
      exact ⟨by omega, fun _ => by omega⟩
  | some j =>
    obtain ⟨i, rfl, hi⟩ := leA_fin h
    have := ha i rfl
    show i.toNat ≤ j.toNat ∧ (_ → i.toNat < j.toNat)
    refine ⟨by omega, fun z => ?_⟩
    have : i ≠ j := fun e => z (by rw [e])
    omega
theorem itL_count (ok : Wf S) (m : MS S) (h : Bnd S B) : ∀ k, (∀ j, j < k → itL S B (j + 1) ≠ itL S B j) → k ≤ sumN (fun i => htA (gA (itL S B k) i)) S.length
  | 0, _ => Nat.zero_le _
  | k + 1, hne => by
    have hB := h.range ok
    have a := itL_count ok m h k fun j hj => hne j (by omega)
    have bd : ∀ k i v, gA (itL S B k) i = some v → 0 ≤ v ∧ v ≤ 63 := fun k i v hv => by
      have := itL_nn m hB.1 k i v hv
      omega
    have b := sumN_lt (f := fun i => htA (gA (itL S B k) i)) (g := fun i => htA (gA (itL S B (k + 1)) i)) S.length (fun i _ => (htA_le (itL_up m hB.1 k i) (bd k i) (bd (k + 1) i)).1) (by
      refine Classical.byContradiction fun hn => hne k (by omega) ?_
      refine list_ext_gA (by rw [itL_len, itL_len]) fun i hi => ?_
      rw [itL_len] at hi
      refine Classical.byContradiction fun z => hn ⟨i, hi, (htA_le (itL_up m hB.1 k i) (bd k i) (bd (k + 1) i)).2 (Ne.symm z)⟩)
    omega
theorem itL_few (ok : Wf S) (m : MS S) (h : Bnd S B) {k : Nat} (hne : ∀ j, j < k → itL S B (j + 1) ≠ itL S B j) : k ≤ 1000 := by
  have a := itL_count ok m h k hne
  have hB := h.range ok
  have b := sumN_bd (f := fun i => htA (gA (itL S B k) i)) (M := 64) S.length fun i _ => by
    cases e : gA (itL S B k) i with
    | none => exact Nat.le_refl _
    | some v =>
      have := itL_nn m hB.1 k i v e
      show v.toNat ≤ 64
      omega
  have c := ok.len
  have d : S.length * 64 ≤ 13 * 64 := Nat.mul_le_mul_right _ c
  omega
end
end Cs
set_option Elab.async false
set_option linter.all false
set_option maxRecDepth 100000
set_option maxHeartbeats 4000000
/-! W0: the text by places, the names of each def, calls by name. -/
namespace Cs
open PySem PySem.Spec PyProof.Rows L2 Evl
def top (i : Nat) : Stmt := PySem.Challenge.pw_circlesettle_k30_whole_least_papers.main.body.getD i (.Pass ⟨0, 0, 0, 0⟩)
abbrev sPAtMost : Stmt := top 1
abbrev sPLeastOf : Stmt := top 2
abbrev sPGreatestOf : Stmt := top 3
abbrev sPShifted : Stmt := top 4
abbrev sPFlatValue : Stmt := top 6
abbrev sPFlatValues : Stmt := top 7
abbrev sPIsFlatSolution : Stmt := top 8
abbrev sPArcsOf : Stmt := top 9
abbrev sPConditionsOf : Stmt := top 11
abbrev sPOpened : Stmt := top 12
abbrev sPToldArcs : Stmt := top 13
abbrev sPCircleBelow : Stmt := top 14
abbrev sPNoughtCell : Stmt := top 15
abbrev sPRoundsDown : Stmt := top 16
abbrev sPLeastWith : Stmt := top 17
abbrev sPSettledLeast : Stmt := top 18
abbrev sPEndlessPaper : Stmt := top 19
abbrev sPAreChoices : Stmt := top 20
abbrev sPShowsEndless : Stmt := top 21
abbrev sPTightArcs : Stmt := top 23
abbrev sPFalls : Stmt := top 24
abbrev sPAreRanks : Stmt := top 25
abbrev sPLeastRanks : Stmt := top 26
abbrev sPFulfilled : Stmt := top 27
abbrev sPStagesFromBelow : Stmt := top 28
abbrev sPFlatLeast : Stmt := top 29
abbrev sPLeastPaper : Stmt := top 30
abbrev sPIsRightStage : Stmt := top 31
abbrev sPAreOpen : Stmt := top 32
abbrev sPIsLeastPaper : Stmt := top 33
abbrev sLPool : Stmt := top 35
abbrev sLStream : Stmt := top 36
abbrev sLPick : Stmt := top 37
abbrev sLAmount : Stmt := top 38
abbrev sLArcs : Stmt := top 39
abbrev sLFlat : Stmt := top 40
abbrev sLAreWholes : Stmt := top 41
abbrev sLAreAmounts : Stmt := top 42
abbrev sLIsLeastForm : Stmt := top 43
abbrev sLConditions : Stmt := top 44
abbrev sLOpened : Stmt := top 45
abbrev sLShifted : Stmt := top 46
abbrev sLAtMost : Stmt := top 47
abbrev sLOneOf : Stmt := top 48
abbrev sLValue : Stmt := top 49
abbrev sLValues : Stmt := top 50
abbrev sLTight : Stmt := top 51
abbrev sLFalls : Stmt := top 52
abbrev sLRightRanks : Stmt := top 53
abbrev sLGains : Stmt := top 54
abbrev sLShowsEndless : Stmt := top 55
abbrev sLLeastStage : Stmt := top 56
abbrev sLLeastPaper : Stmt := top 57
abbrev sLBound : Stmt := top 58
abbrev sLLeast : Stmt := top 59
abbrev sLFulfilled : Stmt := top 60
abbrev sLStages : Stmt := top 61
abbrev sPLaw : Stmt := top 62
abbrev nPAtMost : List Str := ["a", "b"]
abbrev pPAtMost : List Str := ["a", "b"]
theorem scPAtMost : FnScope nPAtMost pPAtMost (defScope sPAtMost) := ⟨rfl, rfl, rfl, by decide +kernel, rfl, by decide +kernel, by decide +kernel⟩
abbrev nPLeastOf : List Str := ["amounts", "found", "one"]
abbrev pPLeastOf : List Str := ["amounts"]
theorem scPLeastOf : FnScope nPLeastOf pPLeastOf (defScope sPLeastOf) := ⟨rfl, rfl, rfl, by decide +kernel, rfl, by decide +kernel, by decide +kernel⟩
abbrev nPGreatestOf : List Str := ["amounts", "found", "one"]
abbrev pPGreatestOf : List Str := ["amounts"]
theorem scPGreatestOf : FnScope nPGreatestOf pPGreatestOf (defScope sPGreatestOf) := ⟨rfl, rfl, rfl, by decide +kernel, rfl, by decide +kernel, by decide +kernel⟩
abbrev nPShifted : List Str := ["a", "c"]
abbrev pPShifted : List Str := ["a", "c"]
theorem scPShifted : FnScope nPShifted pPShifted (defScope sPShifted) := ⟨rfl, rfl, rfl, by decide +kernel, rfl, by decide +kernel, by decide +kernel⟩
abbrev nPFlatValue : List Str := ["formula", "x", "kind", "amounts", "cell", "shift"]
abbrev pPFlatValue : List Str := ["formula", "x"]
theorem scPFlatValue : FnScope nPFlatValue pPFlatValue (defScope sPFlatValue) := ⟨rfl, rfl, rfl, by decide +kernel, rfl, by decide +kernel, by decide +kernel⟩
abbrev nPFlatValues : List Str := ["flat", "x", "formula"]
abbrev pPFlatValues : List Str := ["flat", "x"]
theorem scPFlatValues : FnScope nPFlatValues pPFlatValues (defScope sPFlatValues) := ⟨rfl, rfl, rfl, by decide +kernel, rfl, by decide +kernel, by decide +kernel⟩
abbrev nPIsFlatSolution : List Str := ["flat", "x"]
abbrev pPIsFlatSolution : List Str := ["flat", "x"]
theorem scPIsFlatSolution : FnScope nPIsFlatSolution pPIsFlatSolution (defScope sPIsFlatSolution) := ⟨rfl, rfl, rfl, by decide +kernel, rfl, by decide +kernel, by decide +kernel⟩
abbrev nPArcsOf : List Str := ["flat", "cell", "formula"]
abbrev pPArcsOf : List Str := ["flat", "cell"]
theorem scPArcsOf : FnScope nPArcsOf pPArcsOf (defScope sPArcsOf) := ⟨rfl, rfl, rfl, by decide +kernel, rfl, by decide +kernel, by decide +kernel⟩
abbrev nPConditionsOf : List Str := ["flat", "cell"]
abbrev pPConditionsOf : List Str := ["flat"]
theorem scPConditionsOf : FnScope nPConditionsOf pPConditionsOf (defScope sPConditionsOf) := ⟨rfl, rfl, rfl, by decide +kernel, rfl, by decide +kernel, by decide +kernel⟩
abbrev nPOpened : List Str := ["flat", "places", "found", "cell", "formula"]
abbrev pPOpened : List Str := ["flat", "places"]
theorem scPOpened : FnScope nPOpened pPOpened (defScope sPOpened) := ⟨rfl, rfl, rfl, by decide +kernel, rfl, by decide +kernel, by decide +kernel⟩
abbrev nPToldArcs : List Str := ["plain", "choices", "word", "found", "cell", "arcs"]
abbrev pPToldArcs : List Str := ["plain", "choices", "word"]
theorem scPToldArcs : FnScope nPToldArcs pPToldArcs (defScope sPToldArcs) := ⟨rfl, rfl, rfl, by decide +kernel, rfl, by decide +kernel, by decide +kernel⟩
abbrev nPCircleBelow : List Str := ["arcs", "weight", "many", "dues", "steps", "last", "step", "cell", "target", "shift", "circle"]
abbrev pPCircleBelow : List Str := ["arcs", "weight"]
theorem scPCircleBelow : FnScope nPCircleBelow pPCircleBelow (defScope sPCircleBelow) := ⟨rfl, rfl, rfl, by decide +kernel, rfl, by decide +kernel, by decide +kernel⟩
abbrev nPNoughtCell : List Str := ["circle", "total", "best", "found", "place", "cell", "shift"]
abbrev pPNoughtCell : List Str := ["circle"]
theorem scPNoughtCell : FnScope nPNoughtCell pPNoughtCell (defScope sPNoughtCell) := ⟨rfl, rfl, rfl, by decide +kernel, rfl, by decide +kernel, by decide +kernel⟩
abbrev nPRoundsDown : List Str := ["plain", "arcs", "noughts", "found", "step", "cell", "formula", "target", "shift", "amount"]
abbrev pPRoundsDown : List Str := ["plain", "arcs", "noughts"]
theorem scPRoundsDown : FnScope nPRoundsDown pPRoundsDown (defScope sPRoundsDown) := ⟨rfl, rfl, rfl, by decide +kernel, rfl, by decide +kernel, by decide +kernel⟩
abbrev nPLeastWith : List Str := ["plain", "choices", "many", "arcs", "noughts", "open_arcs", "circle", "cell"]
abbrev pPLeastWith : List Str := ["plain", "choices"]
theorem scPLeastWith : FnScope nPLeastWith pPLeastWith (defScope sPLeastWith) := ⟨rfl, rfl, rfl, by decide +kernel, rfl, by decide +kernel, by decide +kernel⟩
abbrev nPSettledLeast : List Str := ["plain", "choices", "found", "better", "cell", "formula", "place", "target", "shift", "amount"]
abbrev pPSettledLeast : List Str := ["plain"]
theorem scPSettledLeast : FnScope nPSettledLeast pPSettledLeast (defScope sPSettledLeast) := ⟨rfl, rfl, rfl, by decide +kernel, rfl, by decide +kernel, by decide +kernel⟩
abbrev nPEndlessPaper : List Str := ["plain", "found", "choices", "endless", "arcs", "potentials", "step", "cell", "target", "shift"]
abbrev pPEndlessPaper : List Str := ["plain"]
theorem scPEndlessPaper : FnScope nPEndlessPaper pPEndlessPaper (defScope sPEndlessPaper) := ⟨rfl, rfl, rfl, by decide +kernel, rfl, by decide +kernel, by decide +kernel⟩
abbrev nPAreChoices : List Str := ["plain", "choices", "word", "cell", "formula", "choice"]
abbrev pPAreChoices : List Str := ["plain", "choices", "word"]
theorem scPAreChoices : FnScope nPAreChoices pPAreChoices (defScope sPAreChoices) := ⟨rfl, rfl, rfl, by decide +kernel, rfl, by decide +kernel, by decide +kernel⟩
abbrev nPShowsEndless : List Str := ["plain", "choices", "potentials", "arcs", "cells", "cell", "target", "shift"]
abbrev pPShowsEndless : List Str := ["plain", "choices", "potentials"]
theorem scPShowsEndless : FnScope nPShowsEndless pPShowsEndless (defScope sPShowsEndless) := ⟨rfl, rfl, rfl, by decide +kernel, rfl, by decide +kernel, by decide +kernel⟩
abbrev nPTightArcs : List Str := ["plain", "x", "cell", "arc"]
abbrev pPTightArcs : List Str := ["plain", "x", "cell"]
theorem scPTightArcs : FnScope nPTightArcs pPTightArcs (defScope sPTightArcs) := ⟨rfl, rfl, rfl, by decide +kernel, rfl, by decide +kernel, by decide +kernel⟩
abbrev nPFalls : List Str := ["plain", "x", "ranks", "cell", "lesser", "target", "shift"]
abbrev pPFalls : List Str := ["plain", "x", "ranks", "cell"]
theorem scPFalls : FnScope nPFalls pPFalls (defScope sPFalls) := ⟨rfl, rfl, rfl, by decide +kernel, rfl, by decide +kernel, by decide +kernel⟩
abbrev nPAreRanks : List Str := ["plain", "x", "ranks", "cell", "amount"]
abbrev pPAreRanks : List Str := ["plain", "x", "ranks"]
theorem scPAreRanks : FnScope nPAreRanks pPAreRanks (defScope sPAreRanks) := ⟨rfl, rfl, rfl, by decide +kernel, rfl, by decide +kernel, by decide +kernel⟩
abbrev nPLeastRanks : List Str := ["plain", "x", "ranks", "waiting", "cell", "amount", "rank", "found"]
abbrev pPLeastRanks : List Str := ["plain", "x"]
theorem scPLeastRanks : FnScope nPLeastRanks pPLeastRanks (defScope sPLeastRanks) := ⟨rfl, rfl, rfl, by decide +kernel, rfl, by decide +kernel, by decide +kernel⟩
abbrev nPFulfilled : List Str := ["flat", "x", "found", "cell"]
abbrev pPFulfilled : List Str := ["flat", "x"]
theorem scPFulfilled : FnScope nPFulfilled pPFulfilled (defScope sPFulfilled) := ⟨rfl, rfl, rfl, by decide +kernel, rfl, by decide +kernel, by decide +kernel⟩
abbrev nPStagesFromBelow : List Str := ["flat", "places", "stages", "x", "later"]
abbrev pPStagesFromBelow : List Str := ["flat"]
theorem scPStagesFromBelow : FnScope nPStagesFromBelow pPStagesFromBelow (defScope sPStagesFromBelow) := ⟨rfl, rfl, rfl, by decide +kernel, rfl, by decide +kernel, by decide +kernel⟩
abbrev nPFlatLeast : List Str := ["flat"]
abbrev pPFlatLeast : List Str := ["flat"]
theorem scPFlatLeast : FnScope nPFlatLeast pPFlatLeast (defScope sPFlatLeast) := ⟨rfl, rfl, rfl, by decide +kernel, rfl, by decide +kernel, by decide +kernel⟩
abbrev nPLeastPaper : List Str := ["flat", "paper", "places", "x", "plain", "choices", "potentials"]
abbrev pPLeastPaper : List Str := ["flat"]
theorem scPLeastPaper : FnScope nPLeastPaper pPLeastPaper (defScope sPLeastPaper) := ⟨rfl, rfl, rfl, by decide +kernel, rfl, by decide +kernel, by decide +kernel⟩
abbrev nPIsRightStage : List Str := ["plain", "stage", "places", "x", "ranks", "choices", "potentials", "amount", "potential"]
abbrev pPIsRightStage : List Str := ["plain", "stage"]
theorem scPIsRightStage : FnScope nPIsRightStage pPIsRightStage (defScope sPIsRightStage) := ⟨rfl, rfl, rfl, by decide +kernel, rfl, by decide +kernel, by decide +kernel⟩
abbrev nPAreOpen : List Str := ["flat", "places", "before", "cell"]
abbrev pPAreOpen : List Str := ["flat", "places", "before"]
theorem scPAreOpen : FnScope nPAreOpen pPAreOpen (defScope sPAreOpen) := ⟨rfl, rfl, rfl, by decide +kernel, rfl, by decide +kernel, by decide +kernel⟩
abbrev nPIsLeastPaper : List Str := ["flat", "paper", "before", "stage"]
abbrev pPIsLeastPaper : List Str := ["flat", "paper"]
theorem scPIsLeastPaper : FnScope nPIsLeastPaper pPIsLeastPaper (defScope sPIsLeastPaper) := ⟨rfl, rfl, rfl, by decide +kernel, rfl, by decide +kernel, by decide +kernel⟩
abbrev nLPool : List Str := ["_law_script", "_law_pool_here", "_law_state", "_law_k", "_law_cell", "_law_step", "_law_one", "_law_two"]
abbrev pLPool : List Str := ["_law_script"]
theorem scLPool : FnScope nLPool pLPool (defScope sLPool) := ⟨rfl, rfl, rfl, by decide +kernel, rfl, by decide +kernel, by decide +kernel⟩
abbrev nLStream : List Str := ["_law_script"]
abbrev pLStream : List Str := ["_law_script"]
theorem scLStream : FnScope nLStream pLStream (defScope sLStream) := ⟨rfl, rfl, rfl, by decide +kernel, rfl, by decide +kernel, by decide +kernel⟩
abbrev nLPick : List Str := ["_law_pool_here", "_law_many"]
abbrev pLPick : List Str := ["_law_pool_here", "_law_many"]
theorem scLPick : FnScope nLPick pLPick (defScope sLPick) := ⟨rfl, rfl, rfl, by decide +kernel, rfl, by decide +kernel, by decide +kernel⟩
abbrev nLAmount : List Str := ["_law_pool_here", "_law_kind"]
abbrev pLAmount : List Str := ["_law_pool_here"]
theorem scLAmount : FnScope nLAmount pLAmount (defScope sLAmount) := ⟨rfl, rfl, rfl, by decide +kernel, rfl, by decide +kernel, by decide +kernel⟩
abbrev nLArcs : List Str := ["_law_pool_here", "_law_many", "_law_size", "_law_k"]
abbrev pLArcs : List Str := ["_law_pool_here", "_law_many"]
theorem scLArcs : FnScope nLArcs pLArcs (defScope sLArcs) := ⟨rfl, rfl, rfl, by decide +kernel, rfl, by decide +kernel, by decide +kernel⟩
abbrev nLFlat : List Str := ["_law_pool_here", "_law_most", "_law_conditions_here", "_law_many", "_law_flat_here", "_law_k", "_law_kind"]
abbrev pLFlat : List Str := ["_law_pool_here", "_law_most", "_law_conditions_here"]
theorem scLFlat : FnScope nLFlat pLFlat (defScope sLFlat) := ⟨rfl, rfl, rfl, by decide +kernel, rfl, by decide +kernel, by decide +kernel⟩
abbrev nLAreWholes : List Str := ["_law_value_here", "_law_one"]
abbrev pLAreWholes : List Str := ["_law_value_here"]
theorem scLAreWholes : FnScope nLAreWholes pLAreWholes (defScope sLAreWholes) := ⟨rfl, rfl, rfl, by decide +kernel, rfl, by decide +kernel, by decide +kernel⟩
abbrev nLAreAmounts : List Str := ["_law_value_here", "_law_many", "_law_one"]
abbrev pLAreAmounts : List Str := ["_law_value_here", "_law_many"]
theorem scLAreAmounts : FnScope nLAreAmounts pLAreAmounts (defScope sLAreAmounts) := ⟨rfl, rfl, rfl, by decide +kernel, rfl, by decide +kernel, by decide +kernel⟩
abbrev nLIsLeastForm : List Str := ["_law_flat_here", "_law_paper", "_law_stage", "_law_part", "_law_one"]
abbrev pLIsLeastForm : List Str := ["_law_flat_here", "_law_paper"]
theorem scLIsLeastForm : FnScope nLIsLeastForm pLIsLeastForm (defScope sLIsLeastForm) := ⟨rfl, rfl, rfl, by decide +kernel, rfl, by decide +kernel, by decide +kernel⟩
abbrev nLConditions : List Str := ["_law_flat_here", "_law_k"]
abbrev pLConditions : List Str := ["_law_flat_here"]
theorem scLConditions : FnScope nLConditions pLConditions (defScope sLConditions) := ⟨rfl, rfl, rfl, by decide +kernel, rfl, by decide +kernel, by decide +kernel⟩
abbrev nLOpened : List Str := ["_law_flat_here", "_law_places", "_law_found", "_law_k", "_law_formula"]
abbrev pLOpened : List Str := ["_law_flat_here", "_law_places"]
theorem scLOpened : FnScope nLOpened pLOpened (defScope sLOpened) := ⟨rfl, rfl, rfl, by decide +kernel, rfl, by decide +kernel, by decide +kernel⟩
abbrev nLShifted : List Str := ["_law_a", "_law_c"]
abbrev pLShifted : List Str := ["_law_a", "_law_c"]
theorem scLShifted : FnScope nLShifted pLShifted (defScope sLShifted) := ⟨rfl, rfl, rfl, by decide +kernel, rfl, by decide +kernel, by decide +kernel⟩
abbrev nLAtMost : List Str := ["_law_a", "_law_b"]
abbrev pLAtMost : List Str := ["_law_a", "_law_b"]
theorem scLAtMost : FnScope nLAtMost pLAtMost (defScope sLAtMost) := ⟨rfl, rfl, rfl, by decide +kernel, rfl, by decide +kernel, by decide +kernel⟩
abbrev nLOneOf : List Str := ["_law_amounts", "_law_kind", "_law_found", "_law_one"]
abbrev pLOneOf : List Str := ["_law_amounts", "_law_kind"]
theorem scLOneOf : FnScope nLOneOf pLOneOf (defScope sLOneOf) := ⟨rfl, rfl, rfl, by decide +kernel, rfl, by decide +kernel, by decide +kernel⟩
abbrev nLValue : List Str := ["_law_formula", "_law_x", "_law_j", "_law_c"]
abbrev pLValue : List Str := ["_law_formula", "_law_x"]
theorem scLValue : FnScope nLValue pLValue (defScope sLValue) := ⟨rfl, rfl, rfl, by decide +kernel, rfl, by decide +kernel, by decide +kernel⟩
abbrev nLValues : List Str := ["_law_flat_here", "_law_x", "_law_formula"]
abbrev pLValues : List Str := ["_law_flat_here", "_law_x"]
theorem scLValues : FnScope nLValues pLValues (defScope sLValues) := ⟨rfl, rfl, rfl, by decide +kernel, rfl, by decide +kernel, by decide +kernel⟩
abbrev nLTight : List Str := ["_law_plain", "_law_x", "_law_cell", "_law_arc"]
abbrev pLTight : List Str := ["_law_plain", "_law_x", "_law_cell"]
theorem scLTight : FnScope nLTight pLTight (defScope sLTight) := ⟨rfl, rfl, rfl, by decide +kernel, rfl, by decide +kernel, by decide +kernel⟩
abbrev nLFalls : List Str := ["_law_plain", "_law_x", "_law_ranks", "_law_cell", "_law_lesser", "_law_j", "_law_c"]
abbrev pLFalls : List Str := ["_law_plain", "_law_x", "_law_ranks", "_law_cell"]
theorem scLFalls : FnScope nLFalls pLFalls (defScope sLFalls) := ⟨rfl, rfl, rfl, by decide +kernel, rfl, by decide +kernel, by decide +kernel⟩
abbrev nLRightRanks : List Str := ["_law_plain", "_law_x", "_law_ranks", "_law_k"]
abbrev pLRightRanks : List Str := ["_law_plain", "_law_x", "_law_ranks"]
theorem scLRightRanks : FnScope nLRightRanks pLRightRanks (defScope sLRightRanks) := ⟨rfl, rfl, rfl, by decide +kernel, rfl, by decide +kernel, by decide +kernel⟩
abbrev nLGains : List Str := ["_law_arc", "_law_cell", "_law_potentials", "_law_many", "_law_j", "_law_c"]
abbrev pLGains : List Str := ["_law_arc", "_law_cell", "_law_potentials", "_law_many"]
theorem scLGains : FnScope nLGains pLGains (defScope sLGains) := ⟨rfl, rfl, rfl, by decide +kernel, rfl, by decide +kernel, by decide +kernel⟩
abbrev nLShowsEndless : List Str := ["_law_plain", "_law_choices", "_law_potentials", "_law_k", "_law_many", "_law_kind", "_law_part", "_law_one", "_law_arc"]
abbrev pLShowsEndless : List Str := ["_law_plain", "_law_choices", "_law_potentials"]
theorem scLShowsEndless : FnScope nLShowsEndless pLShowsEndless (defScope sLShowsEndless) := ⟨rfl, rfl, rfl, by decide +kernel, rfl, by decide +kernel, by decide +kernel⟩
abbrev nLLeastStage : List Str := ["_law_plain", "_law_stage", "_law_places", "_law_x", "_law_ranks", "_law_choices", "_law_potentials", "_law_one"]
abbrev pLLeastStage : List Str := ["_law_plain", "_law_stage"]
theorem scLLeastStage : FnScope nLLeastStage pLLeastStage (defScope sLLeastStage) := ⟨rfl, rfl, rfl, by decide +kernel, rfl, by decide +kernel, by decide +kernel⟩
abbrev nLLeastPaper : List Str := ["_law_flat_here", "_law_paper", "_law_before", "_law_stage", "_law_places", "_law_k"]
abbrev pLLeastPaper : List Str := ["_law_flat_here", "_law_paper"]
theorem scLLeastPaper : FnScope nLLeastPaper pLLeastPaper (defScope sLLeastPaper) := ⟨rfl, rfl, rfl, by decide +kernel, rfl, by decide +kernel, by decide +kernel⟩
abbrev nLBound : List Str := ["_law_flat_here", "_law_most", "_law_step", "_law_formula", "_law_j", "_law_c"]
abbrev pLBound : List Str := ["_law_flat_here"]
theorem scLBound : FnScope nLBound pLBound (defScope sLBound) := ⟨rfl, rfl, rfl, by decide +kernel, rfl, by decide +kernel, by decide +kernel⟩
abbrev nLLeast : List Str := ["_law_flat_here", "_law_bound_here", "_law_x", "_law_turn", "_law_later", "_law_formula", "_law_one"]
abbrev pLLeast : List Str := ["_law_flat_here"]
theorem scLLeast : FnScope nLLeast pLLeast (defScope sLLeast) := ⟨rfl, rfl, rfl, by decide +kernel, rfl, by decide +kernel, by decide +kernel⟩
abbrev nLFulfilled : List Str := ["_law_flat_here", "_law_x", "_law_k"]
abbrev pLFulfilled : List Str := ["_law_flat_here", "_law_x"]
theorem scLFulfilled : FnScope nLFulfilled pLFulfilled (defScope sLFulfilled) := ⟨rfl, rfl, rfl, by decide +kernel, rfl, by decide +kernel, by decide +kernel⟩
abbrev nLStages : List Str := ["_law_flat_here", "_law_places", "_law_stages_here", "_law_turn", "_law_x", "_law_later"]
abbrev pLStages : List Str := ["_law_flat_here"]
theorem scLStages : FnScope nLStages pLStages (defScope sLStages) := ⟨rfl, rfl, rfl, by decide +kernel, rfl, by decide +kernel, by decide +kernel⟩
abbrev nPLaw : List Str := ["_law_script", "_law_pool_here", "_law_flat_here", "_law_kept", "_law_paper"]
abbrev pPLaw : List Str := ["_law_script"]
theorem scPLaw : FnScope nPLaw pPLaw (defScope sPLaw) := ⟨rfl, rfl, rfl, by decide +kernel, rfl, by decide +kernel, by decide +kernel⟩

/-- the built-in names are still the built-ins -/
structure Bt (mg : Str → Option Value) : Prop where
  b_len : mg "len" = none
  b_max : mg "max" = none
  b_min : mg "min" = none
  b_range : mg "range" = none
  b_enumerate : mg "enumerate" = none
  b_any : mg "any" = none
  b_all : mg "all" = none
  b_list : mg "list" = none
  b_int : mg "int" = none
  b_sorted : mg "sorted" = none
  b_set : mg "set" = none
  b_isinstance : mg "isinstance" = none
  b_repr : mg "repr" = none
  b_bool : mg "bool" = none
  b_tuple : mg "tuple" = none
/-- a def of the text stands under its name -/
def Has (K : PySem.W.Frag) (mg : Str → Option Value) (x : Str) (st : Stmt) : Prop :=
  ∃ (f : Addr) (fd : FuncData), mg x = some (.ref f) ∧ FunD K x x (defArgs st) (defBody st) (defScope st) [] [] f fd
/-- a def that may be called by its name -/
structure Cl (P : Program) (w : World) (K : PySem.W.Frag) (mg : Str → Option Value) (base : Heap) (k : Nat) (x : Str) (sp : Sp) : Prop where
  ex : ∃ (f : Addr) (fd : FuncData) (ps : List Str), FnOk P w K mg base L2.CX0 k f fd ps sp ∧ mg x = some (.ref f) ∧ PySem.W.keepIn K (.ref f) = true ∧ Binds K fd ps []
theorem pe_k {X : Cx} {k : Nat} {x : Str} {sp : Sp} {p pos : Pos} {e : Expr} {es : List Expr} {t : TA} (c : Cl X.prog X.w X.K X.mg X.base k x sp) (hr : Room k X.A) (hg : Gl X x) (ha : PA X (e :: es) t)
    (hdb : (x == ("__debug__" : Str)) = false := by decide) (he : starEach (e :: es) X.env = (false, eval e X.env) :: starEach es X.env := by rfl) (hpl : (backTo pos (starEach es X.env)).any (·.1) = false := by rfl) :
    PE X (.Call (.Name x p) (e :: es) [] pos) (tCall sp [] L2.E0 t) := by
  obtain ⟨f, fd, ps, F, hm, kp, b⟩ := c.ex
  exact pe_call F hr hg hm kp b .nil L2.pass0 ha hdb he hpl
theorem cl_of {P : Program} {w : World} {K : PySem.W.Frag} {mg : Str → Option Value} {base : Heap} {x : Str} {st : Stmt} {N ps : List Str} {k : Nat} {sp : Sp} (h : Has K mg x st) (S : FnScope N ps (defScope st))
    (hb : ∀ (kV doc pm : Value) (an : Option Addr) (cdv ct : Value) (us : List Value), us.length = ps.length → bindArgs (PySem.W.fnOf x x (defArgs st) (defBody st) (defScope st) .none kV doc pm an cdv ct) ⟨us, []⟩ = pure (ps.zip us))
    (len : ∀ vs H Q E, sp vs H Q E → vs.length = ps.length)
    (hbody : ∀ (f : Addr) (cdv : Value) (A : Around) (outer : List Env) (s : Shared) (H : Hp) (vs : List V) (Q : VK) (E : XK), Room k (A.deeper (envOfC x (defScope st) s.heap.objs.size f cdv)) → sp vs H Q E →
      ∃ t, PSs (cxOf L2.CX0 P w K mg base N x (defScope st) f cdv A outer s H E).nox (defBody st) t ∧ t { nx := fun _ H' => Q .non H', rt := Q } (start N vs) H) : Cl P w K mg base (k + 1) x sp := by
  obtain ⟨f, fd, hm, F⟩ := h
  refine ⟨f, fd, ps, F.ok S len (fun cdv A outer s H vs Q E hr hs => ?_), hm, F.kp, F.bindsN hb⟩
  obtain ⟨t, ht, hq⟩ := hbody f cdv A outer s H vs Q E hr hs
  exact ⟨t, ht.nox, hq⟩
theorem Cl.mono {P : Program} {w : World} {K : PySem.W.Frag} {mg : Str → Option Value} {base : Heap} {j k : Nat} {x : Str} {sp : Sp} (c : Cl P w K mg base j x sp) (h : j ≤ k) : Cl P w K mg base k x sp := by
  obtain ⟨f, fd, ps, F, r⟩ := c.ex
  exact ⟨f, fd, ps, F.mono h, r⟩
end Cs
set_option Elab.async false
set_option linter.all false
set_option maxRecDepth 100000
set_option maxHeartbeats 4000000
/-! W1: how the data lie in the heap; small rules. -/
namespace Cs
open PySem PySem.Spec PyProof.Rows L2 Evl
/-! ### amounts as values -/
def av : Amt → V
  | none => .non
  | some i => .int i
theorem av_inj : ∀ {a b : Amt}, av a = av b → a = b
  | none, none, _ => rfl
  | some i, some j, h => by
    have e : i = j := V.int.inj h
    rw [e]
  | none, some _, h => by cases h
  | some _, none, h => by cases h
theorem av_non {a : Amt} : (av a = .non) ↔ a = none := ⟨fun h => av_inj (b := none) h, fun h => by rw [h]; rfl⟩
theorem dec_av {a b : Amt} : decide (av a = av b) = decide (a = b) := by
  by_cases h : a = b
  · rw [h, decide_eq_true rfl, decide_eq_true rfl]
  · rw [decide_eq_false h, decide_eq_false fun e => h (av_inj e)]
/-! ### how the data lie -/
abbrev arcV (p : Arc) : List V := [.int (p.1 : Int), .int p.2]
/-- the list of pairs at l -/
def ArcsAt (H : Hp) (l : Addr) (arcs : List Arc) : Prop := ∃ ads : List Addr, H l = some (.lst (ads.map V.ref)) ∧ Paired (fun a p => H a = some (.tup (arcV p))) ads arcs
def FmAt (H : Hp) (a : Addr) : Fm → Prop
  | .amt x => H a = some (.tup [.str "amount", av x])
  | .least arcs => ∃ l, H a = some (.tup [.str "least", .ref l]) ∧ ArcsAt H l arcs
  | .great arcs => ∃ l, H a = some (.tup [.str "greatest", .ref l]) ∧ ArcsAt H l arcs
  | .when j b k => H a = some (.tup [.str "when", .int (j : Int), .int b, .int (k : Int)])
def SheetAt (H : Hp) (p : Addr) (S : List Fm) : Prop := ∃ ads : List Addr, H p = some (.lst (ads.map V.ref)) ∧ Paired (FmAt H) ads S
/-- a list of lists of pairs -/
def ArcLAt (H : Hp) (p : Addr) (L : List (List Arc)) : Prop := ∃ ads : List Addr, H p = some (.lst (ads.map V.ref)) ∧ Paired (ArcsAt H) ads L
/-- everything but the tables stays -/
abbrev Xn := LamX.ExtN
theorem pm {α β : Type} {F G : α → β → Prop} {l₁ : List α} {l₂ : List β} (h : Paired F l₁ l₂) (f : ∀ a b, F a b → G a b) : Paired G l₁ l₂ := Paired.mapP h f
theorem Xn.lst {H H' : Hp} (e : Xn H H') {a : Addr} {xs : List V} (h : H a = some (.lst xs)) : H' a = some (.lst xs) := e a _ h fun _ z => by cases z
theorem Xn.tup {H H' : Hp} (e : Xn H H') {a : Addr} {xs : List V} (h : H a = some (.tup xs)) : H' a = some (.tup xs) := e a _ h fun _ z => by cases z
theorem ex_xn {H H' : Hp} (e : Ex H H') : Xn H H' := fun a o h _ => e a o h
theorem ArcsAt.xn {H H' : Hp} (e : Xn H H') {l : Addr} {arcs : List Arc} (h : ArcsAt H l arcs) : ArcsAt H' l arcs := by
  obtain ⟨ads, h1, h2⟩ := h
  exact ⟨ads, e.lst h1, pm h2 fun a p h => e.tup h⟩
theorem FmAt.xn {H H' : Hp} (e : Xn H H') {a : Addr} : ∀ {f : Fm}, FmAt H a f → FmAt H' a f
  | .amt _, h => e.tup h
  | .least _, ⟨l, h1, h2⟩ => ⟨l, e.tup h1, h2.xn e⟩
  | .great _, ⟨l, h1, h2⟩ => ⟨l, e.tup h1, h2.xn e⟩
  | .when _ _ _, h => e.tup h
theorem SheetAt.xn {H H' : Hp} (e : Xn H H') {p : Addr} {S : List Fm} (h : SheetAt H p S) : SheetAt H' p S := by
  obtain ⟨ads, h1, h2⟩ := h
  exact ⟨ads, e.lst h1, pm h2 fun a p h => h.xn e⟩
theorem ArcLAt.xn {H H' : Hp} (e : Xn H H') {p : Addr} {L : List (List Arc)} (h : ArcLAt H p L) : ArcLAt H' p L := by
  obtain ⟨ads, h1, h2⟩ := h
  exact ⟨ads, e.lst h1, pm h2 fun a p h => h.xn e⟩
theorem ArcsAt.ex {H H' : Hp} {l : Addr} {arcs : List Arc} (h : ArcsAt H l arcs) (e : Ex H H') : ArcsAt H' l arcs := h.xn (ex_xn e)
theorem FmAt.ex {H H' : Hp} {l : Addr} {f : Fm} (h : FmAt H l f) (e : Ex H H') : FmAt H' l f := h.xn (ex_xn e)
theorem SheetAt.ex {H H' : Hp} {p : Addr} {S : List Fm} (h : SheetAt H p S) (e : Ex H H') : SheetAt H' p S := h.xn (ex_xn e)
theorem ArcLAt.ex {H H' : Hp} {p : Addr} {L : List (List Arc)} (h : ArcLAt H p L) (e : Ex H H') : ArcLAt H' p L := h.xn (ex_xn e)
/-- the i-th of two lists that go together -/
theorem paired_get {α β : Type} {F : α → β → Prop} : ∀ {l₁ : List α} {l₂ : List β} {i : Nat} {b : β}, Paired F l₁ l₂ → l₂[i]? = some b → ∃ a, l₁[i]? = some a ∧ F a b
  | _, _, _, _, .nil, h => by simp at h
  | _, _, 0, _, .cons r _, h => by
    have e := Option.some.inj h
    subst e
    exact ⟨_, rfl, r⟩
  | _, _, i + 1, b, .cons _ t, h => paired_get (i := i) t h
theorem paired_get2 {α β : Type} {F : α → β → Prop} : ∀ {l₁ : List α} {l₂ : List β} {i : Nat} {a : α}, Paired F l₁ l₂ → l₁[i]? = some a → ∃ b, l₂[i]? = some b ∧ F a b
  | _, _, _, _, .nil, h => by simp at h
  | _, _, 0, _, .cons r _, h => by
    have e := Option.some.inj h
    subst e
    exact ⟨_, rfl, r⟩
  | _, _, i + 1, b, .cons _ t, h => paired_get2 (i := i) t h
theorem paired_len {α β : Type} {F : α → β → Prop} {l₁ : List α} {l₂ : List β} (h : Paired F l₁ l₂) : l₁.length = l₂.length := Paired.length h
theorem paired_snoc {α β : Type} {F : α → β → Prop} : ∀ {l₁ : List α} {l₂ : List β} {a : α} {b : β}, Paired F l₁ l₂ → F a b → Paired F (l₁ ++ [a]) (l₂ ++ [b])
  | _, _, _, _, .nil, r => .cons r .nil
  | _, _, _, _, .cons q t, r => .cons q (paired_snoc t r)
theorem getMap {α β : Type} {f : α → β} {l : List α} {i : Nat} {y : β} (h : (l.map f)[i]? = some y) : ∃ x, l[i]? = some x ∧ y = f x := by
  rw [List.getElem?_map] at h
  cases e : l[i]? with
  | none =>
    rw [e] at h
    cases h
  | some x =>
    rw [e] at h
    exact ⟨x, rfl, (Option.some.inj h).symm⟩
theorem mapGet {α β : Type} {f : α → β} {l : List α} {i : Nat} {x : α} (h : l[i]? = some x) : (l.map f)[i]? = some (f x) := by
  rw [List.getElem?_map, h]
  rfl
theorem ArcsAt.len {H : Hp} {l : Addr} {arcs : List Arc} (h : ArcsAt H l arcs) : ∃ xs : List V, H l = some (.lst xs) ∧ xs.length = arcs.length := by
  obtain ⟨ads, h1, h2⟩ := h
  exact ⟨_, h1, by rw [List.length_map, paired_len h2]⟩
theorem SheetAt.len {H : Hp} {l : Addr} {S : List Fm} (h : SheetAt H l S) : ∃ xs : List V, H l = some (.lst xs) ∧ xs.length = S.length := by
  obtain ⟨ads, h1, h2⟩ := h
  exact ⟨_, h1, by rw [List.length_map, paired_len h2]⟩
theorem ArcLAt.len {H : Hp} {l : Addr} {L : List (List Arc)} (h : ArcLAt H l L) : ∃ xs : List V, H l = some (.lst xs) ∧ xs.length = L.length := by
  obtain ⟨ads, h1, h2⟩ := h
  exact ⟨_, h1, by rw [List.length_map, paired_len h2]⟩
/-- the i-th formula -/
theorem SheetAt.get {H : Hp} {p : Addr} {S : List Fm} (h : SheetAt H p S) : ∃ xs : List V, H p = some (.lst xs) ∧ xs.length = S.length ∧ ∀ (i : Nat) (f : Fm), S[i]? = some f → ∃ a, xs[i]? = some (.ref a) ∧ FmAt H a f := by
  obtain ⟨ads, h1, h2⟩ := h
  refine ⟨_, h1, by rw [List.length_map, paired_len h2], fun i f hf => ?_⟩
  obtain ⟨a, ha, hf⟩ := paired_get h2 hf
  exact ⟨a, mapGet ha, hf⟩
theorem ArcLAt.get {H : Hp} {p : Addr} {L : List (List Arc)} (h : ArcLAt H p L) : ∃ xs : List V, H p = some (.lst xs) ∧ xs.length = L.length ∧ ∀ (i : Nat) (f : List Arc), L[i]? = some f → ∃ a, xs[i]? = some (.ref a) ∧ ArcsAt H a f := by
  obtain ⟨ads, h1, h2⟩ := h
  refine ⟨_, h1, by rw [List.length_map, paired_len h2], fun i f hf => ?_⟩
  obtain ⟨a, ha, hf⟩ := paired_get h2 hf
  exact ⟨a, mapGet ha, hf⟩
/-- a formula's first word -/
def Fm.kind : Fm → String
  | .amt _ => "amount"
  | .least _ => "least"
  | .great _ => "greatest"
  | .when _ _ _ => "when"
theorem FmAt.kind {H : Hp} {a : Addr} : ∀ {f : Fm}, FmAt H a f → ∃ r : List V, H a = some (.tup (.str (Str.ofString f.kind) :: r))
  | .amt _, h => ⟨_, h⟩
  | .least _, ⟨_, h, _⟩ => ⟨_, h⟩
  | .great _, ⟨_, h, _⟩ => ⟨_, h⟩
  | .when _ _ _, h => ⟨_, h⟩
theorem at0 {α : Type} {x : α} {r : List α} : atI (x :: r) 0 = some x := atI_nat (j := 0) rfl
theorem at1 {α : Type} {x y : α} {r : List α} : atI (x :: y :: r) 1 = some y := atI_nat (j := 1) rfl
theorem at2 {α : Type} {x y z : α} {r : List α} : atI (x :: y :: z :: r) 2 = some z := atI_nat (j := 2) rfl
theorem at3 {α : Type} {x y z u : α} {r : List α} : atI (x :: y :: z :: u :: r) 3 = some u := atI_nat (j := 3) rfl
theorem at_av {x : List Amt} {j : Nat} (h : j < x.length) : atI (x.map av) (j : Int) = some (av (gA x j)) := atI_nat (mapGet (gA_get h))
/-! ### rules with the written part named: within a comprehension's block too -/
section
variable {X : Cx} {K : PySem.W.Frag}
theorem ix_listK (hK : X.K = K := by rfl) : IxR X (rIxL K) := hK ▸ ix_list
theorem ix_tupK (hK : X.K = K := by rfl) : IxR X (rIxT K) := hK ▸ ix_tup
theorem op_inK (hK : X.K = K := by rfl) : OpR X (compareOp .In) (rIn K false) := hK ▸ op_in_seq
theorem op_notInK (hK : X.K = K := by rfl) : OpR X (compareOp .NotIn) (rIn K true) := hK ▸ op_notIn_seq
theorem pg_tupK {es : List Expr} {k : Nat} {t : TGs} {n : Nat} {pos : Pos} (hc : X.calm = true) (h : PGs X es t)
    (hn : (assignEach es X.env).length = n := by rfl) (hst : (assignEach es X.env).findIdx? (·.1) = none := by rfl) (hK : X.K = K := by rfl) : PG X (.Tuple es k pos) (gTup K n t) := hK ▸ pg_tup hc h hn hst
theorem call_lenK (hK : X.K = K := by rfl) : CallR X (.builtin "len") (fun xs H Q => ∃ p ys, xs = [.ref p] ∧ (SqL K H p ys ∨ SqT K H p ys) ∧ Q (.int ys.length) H) := hK ▸ call_len_seq
theorem call_isiK2 (hK : X.K = K := by rfl) : CallR X (.builtin "isinstance") (rIsi K) := hK ▸ call_isi
end
/-! ### readings -/
theorem rv_isN {x : V} {H : Hp} : RV (fun x y H Q => y = .non ∧ Q (.bl (decide (x = .non))) H) x .non H (.bl (decide (x = .non))) := fun H1 _ _ q => ⟨rfl, q H1 (Ex.refl H1)⟩
theorem rv_notN {x : V} {H : Hp} : RV (fun x y H Q => y = .non ∧ Q (.bl (!decide (x = .non))) H) x .non H (.bl (!decide (x = .non))) := fun H1 _ _ q => ⟨rfl, q H1 (Ex.refl H1)⟩
section
variable {K : PySem.W.Frag} {σ : L2.St} {H : Hp} {ta tb te : TE} {p : Addr} {xs : List V} {v : V} {i j : Int}
theorem ev_isN {a : Amt} (h : Ev ta σ H (av a)) : Ev (tOp (fun x y H Q => y = .non ∧ Q (.bl (decide (x = .non))) H) ta (tC .non)) σ H (.bl a.isNone) :=
  ev_is (ev_op h ev_c rv_isN) (by cases a <;> rfl)
theorem ev_notN {a : Amt} (h : Ev ta σ H (av a)) : Ev (tOp (fun x y H Q => y = .non ∧ Q (.bl (!decide (x = .non))) H) ta (tC .non)) σ H (.bl a.isSome) :=
  ev_is (ev_op h ev_c rv_notN) (by cases a <;> rfl)
theorem ev_isNV (h : Ev ta σ H v) : Ev (tOp (fun x y H Q => y = .non ∧ Q (.bl (decide (x = .non))) H) ta (tC .non)) σ H (.bl (decide (v = .non))) := ev_op h ev_c rv_isN
theorem ev_notNV (h : Ev ta σ H v) : Ev (tOp (fun x y H Q => y = .non ∧ Q (.bl (!decide (x = .non))) H) ta (tC .non)) σ H (.bl (!decide (v = .non))) := ev_op h ev_c rv_notN
theorem ev_le (h : Ev ta σ H (.int i)) (h2 : Ev tb σ H (.int j)) : Ev (tOp (rI0 fun i j => .bl (decide (i ≤ j))) ta tb) σ H (.bl (decide (i ≤ j))) := ev_op h h2 rv_I0
theorem ev_lt (h : Ev ta σ H (.int i)) (h2 : Ev tb σ H (.int j)) : Ev (tOp (rI0 fun i j => .bl (decide (i < j))) ta tb) σ H (.bl (decide (i < j))) := ev_op h h2 rv_I0
theorem ev_gt (h : Ev ta σ H (.int i)) (h2 : Ev tb σ H (.int j)) : Ev (tOp (rI0 fun i j => .bl (decide (j < i))) ta tb) σ H (.bl (decide (j < i))) := ev_op h h2 rv_I0
theorem ev_ge (h : Ev ta σ H (.int i)) (h2 : Ev tb σ H (.int j)) : Ev (tOp (rI0 fun i j => .bl (decide (j ≤ i))) ta tb) σ H (.bl (decide (j ≤ i))) := ev_op h h2 rv_I0
theorem ev_add (h : Ev ta σ H (.int i)) (h2 : Ev tb σ H (.int j)) : Ev (tOp (rI0 fun i j => .int (i + j)) ta tb) σ H (.int (i + j)) := ev_op h h2 rv_I0
theorem ev_sub (h : Ev ta σ H (.int i)) (h2 : Ev tb σ H (.int j)) : Ev (tOp (rI0 fun i j => .int (i - j)) ta tb) σ H (.int (i - j)) := ev_op h h2 rv_I0
theorem ev_mul (h : Ev ta σ H (.int i)) (h2 : Ev tb σ H (.int j)) (hc : CMul i j) : Ev (tOp (rI CMul fun i j => .int (i * j)) ta tb) σ H (.int (i * j)) := ev_op h h2 (rv_I hc)
theorem ev_eq {x y : V} (h : Ev ta σ H x) (h2 : Ev tb σ H y) (hs : scal x y = true) : Ev (tOp rEq ta tb) σ H (.bl (decide (x = y))) := ev_op h h2 (rv_eq hs)
theorem ev_ne {x y : V} (h : Ev ta σ H x) (h2 : Ev tb σ H y) (hs : scal x y = true) : Ev (tOp rNe ta tb) σ H (.bl (!decide (x = y))) := ev_op h h2 (rv_ne hs)
theorem ev_xL (h : Ev ta σ H (.ref p)) (h2 : Ev tb σ H (.int i)) (hp : H p = some (.lst xs)) (hx : atI xs i = some v) : Ev (tOp (rIxL K) ta tb) σ H v := ev_op h h2 (rv_ixL (sq_of hp) hx)
theorem ev_xT (h : Ev ta σ H (.ref p)) (h2 : Ev tb σ H (.int i)) (hp : H p = some (.tup xs)) (hx : atI xs i = some v) : Ev (tOp (rIxT K) ta tb) σ H v := ev_op h h2 (rv_ixT (st_of hp) hx)
/-- x[j] of amounts -/
theorem ev_xA {x : List Amt} {j : Nat} (h : Ev ta σ H (.ref p)) (h2 : Ev tb σ H (.int (j : Int))) (hp : H p = some (.lst (x.map av))) (hj : j < x.length) : Ev (tOp (rIxL K) ta tb) σ H (av (gA x j)) := ev_xL h h2 hp (at_av hj)
/-- the word of a formula compared with a written one -/
theorem ev_kind {f : Fm} {z : String} (h : Ev ta σ H (.ref p)) (hf : FmAt H p f) : Ev (tOp rEq (tOp (rIxT K) ta (tC (.int 0))) (tC (.str (Str.ofString z)))) σ H (.bl (decide (V.str (Str.ofString f.kind) = V.str (Str.ofString z)))) := by
  obtain ⟨r, hr⟩ := hf.kind
  exact ev_eq (ev_xT h ev_c hr at0) ev_c rfl
theorem ev_kindN {f : Fm} {z : String} (h : Ev ta σ H (.ref p)) (hf : FmAt H p f) : Ev (tOp rNe (tOp (rIxT K) ta (tC (.int 0))) (tC (.str (Str.ofString z)))) σ H (.bl (!decide (V.str (Str.ofString f.kind) = V.str (Str.ofString z)))) := by
  obtain ⟨r, hr⟩ := hf.kind
  exact ev_ne (ev_xT h ev_c hr at0) ev_c rfl
end
/-! ### loops -/
section
variable {K : PySem.W.Frag} {σ : L2.St} {H Hb : Hp} {D : Ends} {tu tz : TS} {te : TE} {ta : TA} {g : TG}
/-- for a, b in a list of pairs that stays (from Hb on) -/
theorem s_forA {l : Addr} {arcs : List Arc} {i j : Nat} (h : Ev te σ H (.ref l)) (hb : ArcsAt Hb l arcs) (eb : Xn Hb H) (Pv : Nat → L2.St → Hp → Prop) (h0 : ∀ H1, Ex H H1 → Pv 0 σ H1) (hl : ∀ n σ' H', Pv n σ' H' → Xn Hb H')
    (hs : ∀ n p σ' H', arcs[n]? = some p → Pv n σ' H' → tu { D with nx := Pv (n + 1), ct := Pv (n + 1), bk := D.nx } ((σ'.set i (some (.int (p.1 : Int)))).set j (some (.int p.2))) H') (hd : ∀ σ' H', Pv arcs.length σ' H' → D.nx σ' H') :
    tFor (iList K te) (gTup K 2 (gCons (gName i) (gCons (gName j) gNil))) tu D σ H := by
  obtain ⟨ads, a1, a2⟩ := hb
  have hlen : (ads.map V.ref).length = arcs.length := by rw [List.length_map, paired_len a2]
  refine s_forL h (sq_of (eb.lst a1)) Pv h0 (fun n σ' H' _ q => sq_of ((hl n σ' H' q).lst a1)) (fun n x σ' H' hx q => ?_) fun σ' H' q => hd σ' H' (hlen ▸ q)
  obtain ⟨a, ha, rfl⟩ := getMap hx
  obtain ⟨p, hp, ht⟩ := paired_get2 a2 ha
  exact ⟨a, arcV p, rfl, st_of ((hl n σ' H' q).tup ht), rfl, .int (p.1 : Int), [.int p.2], rfl, .int p.2, [], rfl, rfl, hs n p σ' H' hp q⟩
theorem q_forA {l : Addr} {arcs : List Arc} {i j : Nat} (h : Ev te σ H (.ref l)) (hb : ArcsAt Hb l arcs) (eb : Xn Hb H) (Pv : Nat → L2.St → Hp → Prop) (h0 : ∀ H1, Ex H H1 → Pv 0 σ H1) (hl : ∀ n σ' H', Pv n σ' H' → Xn Hb H')
    (hs : ∀ n p σ' H', arcs[n]? = some p → Pv n σ' H' → tu { D with nx := Pv (n + 1), ct := Pv (n + 1), bk := tz D } ((σ'.set i (some (.int (p.1 : Int)))).set j (some (.int p.2))) H') (hd : ∀ σ' H', Pv arcs.length σ' H' → tz D σ' H') :
    tSeq (tFor (iList K te) (gTup K 2 (gCons (gName i) (gCons (gName j) gNil))) tu) tz D σ H := s_forA (D := { D with nx := tz D }) h hb eb Pv h0 hl hs hd
/-- for n, x in enumerate(a list that stays) -/
theorem s_forE {l : Addr} {xs : List V} (h : EvA ta σ H [.ref l]) (hb : SqL K H l xs) (Pv : Nat → L2.St → Hp → Prop) (h0 : ∀ H1, Ex H H1 → Pv 0 σ H1) (hl : ∀ n σ' H', Pv n σ' H' → SqL K H' l xs)
    (hs : ∀ n x σ' H', xs[n]? = some x → Pv n σ' H' → ∀ T H2, Ex H' H2 → H2 T = some (.tup [.int (n : Int), x]) → g (.ref T) σ' H2 fun σ2 H3 => tu { D with nx := Pv (n + 1), ct := Pv (n + 1), bk := D.nx } σ2 H3) (hd : ∀ σ' H', Pv xs.length σ' H' → D.nx σ' H') :
    tFor (iEnum K ta) g tu D σ H := h H (Ex.refl H) _ fun H1 e1 => by
  refine ⟨l, xs, rfl, ex_l e1 hb, fun i m σ' H' => m = xs.length - i ∧ i ≤ xs.length ∧ Pv i σ' H', ⟨xs.length, by simp, Nat.zero_le _, h0 H1 e1⟩, ?_⟩
  rintro i m σ' H' ⟨rfl, hi, p⟩
  have q := hl i σ' H' p
  by_cases hlt : i < xs.length
  · refine .inr ⟨⟨xs, xs[i], q, by simp [hlt]⟩, Pv (i + 1), fun σ2 H2 p' => ⟨xs.length - (i + 1), by omega, rfl, hlt, p'⟩, fun v H2 y => ?_⟩
    obtain ⟨T, x, rfl, nT, rfl, y⟩ := y
    exact hs i x σ' H' (y xs q) p T _ (Ex.new nT) upd_same
  · have e : i = xs.length := by omega
    subst e
    exact .inl ⟨⟨xs, q, Nat.le_refl _⟩, hd σ' H' p⟩
theorem s_forE2 {l : Addr} {xs : List V} {i j : Nat} (h : EvA ta σ H [.ref l]) (hb : SqL K H l xs) (Pv : Nat → L2.St → Hp → Prop) (h0 : ∀ H1, Ex H H1 → Pv 0 σ H1) (hl : ∀ n σ' H', Pv n σ' H' → SqL K H' l xs)
    (hs : ∀ n x σ' H', xs[n]? = some x → Pv n σ' H' → ∀ H2, Ex H' H2 → tu { D with nx := Pv (n + 1), ct := Pv (n + 1), bk := D.nx } ((σ'.set i (some (.int (n : Int)))).set j (some x)) H2) (hd : ∀ σ' H', Pv xs.length σ' H' → D.nx σ' H') :
    tFor (iEnum K ta) (gTup K 2 (gCons (gName i) (gCons (gName j) gNil))) tu D σ H :=
  s_forE h hb Pv h0 hl (fun n x σ' H' hx p T H2 e2 hT => ⟨T, [.int (n : Int), x], rfl, st_of hT, rfl, _, [x], rfl, x, [], rfl, rfl, hs n x σ' H' hx p H2 e2⟩) hd
theorem q_forE2 {l : Addr} {xs : List V} {i j : Nat} (h : EvA ta σ H [.ref l]) (hb : SqL K H l xs) (Pv : Nat → L2.St → Hp → Prop) (h0 : ∀ H1, Ex H H1 → Pv 0 σ H1) (hl : ∀ n σ' H', Pv n σ' H' → SqL K H' l xs)
    (hs : ∀ n x σ' H', xs[n]? = some x → Pv n σ' H' → ∀ H2, Ex H' H2 → tu { D with nx := Pv (n + 1), ct := Pv (n + 1), bk := tz D } ((σ'.set i (some (.int (n : Int)))).set j (some x)) H2) (hd : ∀ σ' H', Pv xs.length σ' H' → tz D σ' H') :
    tSeq (tFor (iEnum K ta) (gTup K 2 (gCons (gName i) (gCons (gName j) gNil))) tu) tz D σ H := s_forE2 (D := { D with nx := tz D }) h hb Pv h0 hl hs hd
end
/-! ### comprehensions -/
/-- which items are kept, what they give: over the first n of ys -/
def Cp {α : Type} (ys : List α) (p : α → Bool) (F : α → V) (n : Nat) : List V := ((ys.take n).filter p).map F
theorem cp_step {α : Type} {ys : List α} {p : α → Bool} {F : α → V} {n : Nat} {y : α} (h : ys[n]? = some y) : Cp ys p F (n + 1) = if p y = true then Cp ys p F n ++ [F y] else Cp ys p F n := by
  unfold Cp
  rw [List.take_add_one, h, List.filter_append, List.map_append]
  show _ ++ ((([y] : List α).filter p).map F) = _
  rw [List.filter_cons]
  cases hp : p y with
  | true => rfl
  | false =>
    show _ ++ ([] : List V) = _
    rw [List.append_nil]
    rfl
theorem cp_len {α : Type} {ys : List α} {p : α → Bool} {F : α → V} {n : Nat} : (Cp ys p F n).length ≤ ys.length := by
  unfold Cp
  rw [List.length_map]
  exact Nat.le_trans (List.length_filter_le _ _) (by rw [List.length_take]; exact Nat.min_le_right _ _)
theorem cp_all {α : Type} {ys : List α} {p : α → Bool} {F : α → V} : Cp ys p F ys.length = (ys.filter p).map F := by
  unfold Cp
  rw [List.take_of_length_le (Nat.le_refl _)]
theorem filter_true {α : Type} (ys : List α) : ys.filter (fun _ => true) = ys := List.filter_eq_self.mpr fun _ _ => rfl
section
variable {K : PySem.W.Frag} {σ : L2.St} {H : Hp} {tl te : TE} {t : TT} {g : TG} {vs : List Nat} {ta : TA}
theorem cp_turn {α : Type} {ys : List α} {p : α → Bool} {F : α → V} {n : Nat} {y : α} {H' : Hp} {Dl : Addr} {σ2 : L2.St} (hy : ys[n]? = some y) (hz : ys.length ≤ 50000) (q : H Dl = none ∧ Ex H H' ∧ H' Dl = some (.lst (Cp ys p F n)))
    (ht : EvT t σ2 H (p y)) (he : p y = true → Ev te σ2 H (F y)) :
    t σ2 H' fun b H3 => if b = true then te σ2 H3 fun z H4 => ∃ acc, H4 Dl = some (.lst acc) ∧ acc.length < sizeLine ∧ (H Dl = none ∧ Ex H (upd H4 Dl (.lst (acc ++ [z]))) ∧ (upd H4 Dl (.lst (acc ++ [z]))) Dl = some (.lst (Cp ys p F (n + 1)))) else (H Dl = none ∧ Ex H H3 ∧ H3 Dl = some (.lst (Cp ys p F (n + 1)))) := by
  obtain ⟨q1, q2, q3⟩ := q
  refine ht H' q2 _ fun H3 e3 => ?_
  rw [cp_step hy]
  cases hp : p y with
  | true =>
    show te σ2 H3 _
    refine he hp H3 (q2.trans e3) _ fun H4 e4 => ⟨_, e4 Dl _ (e3 Dl _ q3), sz_lt (by have := cp_len (ys := ys) (p := p) (F := F) (n := n); omega), q1, Ex.mut ((q2.trans e3).trans e4) q1, ?_⟩
    rw [if_pos rfl]
    exact upd_same
  | false =>
    show _ ∧ _ ∧ _
    refine ⟨q1, q2.trans e3, ?_⟩
    rw [if_neg Bool.false_ne_true]
    exact e3 Dl _ q3
/-- over a list: the items xs stand for ys; what the target makes of an item -/
theorem el_lc {α : Type} {a : Addr} {xs : List V} {ys : List α} (p : α → Bool) (F : α → V) (h : Ev tl σ H (.ref a)) (hx : SqL K H a xs) (hl : xs.length = ys.length) (hz : ys.length ≤ 50000)
    (hg : ∀ (n : Nat) (x : V) (y : α), xs[n]? = some x → ys[n]? = some y → ∃ σ2, (∀ H1, Ex H H1 → ∀ Q : L2.St → Hp → Prop, Q σ2 H1 → g x (wipe σ vs) H1 Q) ∧ wipe σ2 vs = wipe σ vs ∧ (∀ H1, Ex H H1 → EvT t σ2 H1 (p y)) ∧ (p y = true → ∀ H1, Ex H H1 → Ev te σ2 H1 (F y))) :
    EvL (tLc (iList K tl) g t te vs) σ H ((ys.filter p).map F) := fun H0 e Q q => h H0 e _ fun H1 e1 => ⟨a, rfl, ⟨xs, ex_l (e.trans e1) hx⟩, fun Dl hD => by
  refine lc_list (xs := xs) (fun n H' => H1 Dl = none ∧ Ex H1 H' ∧ H' Dl = some (.lst (Cp ys p F n))) ⟨hD, Ex.new hD, upd_same⟩ (fun i H' _ q' => ex_l ((e.trans e1).trans q'.2.1) hx) (fun n x H' hi q' => ?_) fun H' q' => q Dl H' (fresh_back e1 q'.1) (e1.trans q'.2.1) (by rw [← cp_all, ← hl]; exact q'.2.2)
  have hn : n < ys.length := by
    have := (List.getElem?_eq_some_iff.mp hi).1
    omega
  have hy : ys[n]? = some ys[n] := List.getElem?_eq_getElem hn
  obtain ⟨σ2, g1, g2, g3, g4⟩ := hg n x _ hi hy
  refine g1 H' ((e.trans e1).trans q'.2.1) _ ⟨g2, ?_⟩
  exact cp_turn (H := H1) hy hz q' (g3 H1 (e.trans e1)) fun hp => g4 hp H1 (e.trans e1)⟩
/-- over a list just made -/
theorem el_lcN {α : Type} {xs : List V} {ys : List α} (p : α → Bool) (F : α → V) (h : EvL tl σ H xs) (hl : xs.length = ys.length) (hz : ys.length ≤ 50000)
    (hg : ∀ (n : Nat) (x : V) (y : α), xs[n]? = some x → ys[n]? = some y → ∃ σ2, (∀ H1, Ex H H1 → ∀ Q : L2.St → Hp → Prop, Q σ2 H1 → g x (wipe σ vs) H1 Q) ∧ wipe σ2 vs = wipe σ vs ∧ (∀ H1, Ex H H1 → EvT t σ2 H1 (p y)) ∧ (p y = true → ∀ H1, Ex H H1 → Ev te σ2 H1 (F y))) :
    EvL (tLc (iList K tl) g t te vs) σ H ((ys.filter p).map F) := fun H0 e Q q => h H0 e _ fun a H1 ha e1 hx => ⟨a, rfl, ⟨xs, sq_of hx⟩, fun Dl hD => by
  refine lc_list (xs := xs) (fun n H' => H1 Dl = none ∧ Ex H1 H' ∧ H' Dl = some (.lst (Cp ys p F n))) ⟨hD, Ex.new hD, upd_same⟩ (fun i H' _ q' => sq_of (q'.2.1 a _ hx)) (fun n x H' hi q' => ?_) fun H' q' => q Dl H' (fresh_back e1 q'.1) (e1.trans q'.2.1) (by rw [← cp_all, ← hl]; exact q'.2.2)
  have hn : n < ys.length := by
    have := (List.getElem?_eq_some_iff.mp hi).1
    omega
  have hy : ys[n]? = some ys[n] := List.getElem?_eq_getElem hn
  obtain ⟨σ2, g1, g2, g3, g4⟩ := hg n x _ hi hy
  refine g1 H' ((e.trans e1).trans q'.2.1) _ ⟨g2, ?_⟩
  exact cp_turn (H := H1) hy hz q' (g3 H1 (e.trans e1)) fun hp => g4 hp H1 (e.trans e1)⟩
/-- over range(n) -/
theorem el_lcR {n : Nat} {j : Nat} (p : Nat → Bool) (F : Nat → V) (h : EvA ta σ H [.int (n : Int)]) (hn : n ≤ 50000) (hw : ∀ x, wipe ((wipe σ vs).set j (some x)) vs = wipe σ vs)
    (ht : ∀ (i : Nat) H1, Ex H H1 → i < n → EvT t ((wipe σ vs).set j (some (.int (i : Int)))) H1 (p i)) (he : ∀ (i : Nat) H1, Ex H H1 → i < n → p i = true → Ev te ((wipe σ vs).set j (some (.int (i : Int)))) H1 (F i)) :
    EvL (tLc (iRng1 ta) (gName j) t te vs) σ H (((List.range n).filter p).map F) := fun H0 e Q q => h H0 e _ fun H1 e1 => ⟨(n : Int), rfl, by omega, by omega, fun Dl hD => by
  refine lc_range (lo := 0) (n := (n : Int).toNat) (fun i H' => H1 Dl = none ∧ Ex H1 H' ∧ H' Dl = some (.lst (Cp (List.range n) p F i))) ⟨hD, Ex.new hD, upd_same⟩ (fun i H' hi q' => ?_) fun H' q' => q Dl H' (fresh_back e1 q'.1) (e1.trans q'.2.1) ?_
  · have hi' : i < n := by omega
    have hy : (List.range n)[i]? = some i := List.getElem?_range hi'
    have e0 : (0 : Int) + (i : Int) = (i : Int) := Int.zero_add _
    show wipe ((wipe σ vs).set j (some (.int ((0 : Int) + (i : Int))))) vs = wipe σ vs ∧ t ((wipe σ vs).set j (some (.int ((0 : Int) + (i : Int))))) H' _
    rw [e0]
    exact ⟨hw _, cp_turn (H := H1) hy (by rw [List.length_range]; exact hn) q' (ht i H1 (e.trans e1) hi') fun hp => he i H1 (e.trans e1) hi' hp⟩
  · have z := cp_all (ys := List.range n) (p := p) (F := F)
    rw [List.length_range] at z
    rw [← z]
    exact q'.2.2⟩
/-- the target a pair -/
theorem g_pair {i j : Nat} {a : Addr} {x y : V} {H H1 : Hp} {σ : L2.St} {Q : L2.St → Hp → Prop} (h : H a = some (.tup [x, y])) (e : Ex H H1) (q : Q ((σ.set i (some x)).set j (some y)) H1) : gTup K 2 (gCons (gName i) (gCons (gName j) gNil)) (.ref a) σ H1 Q :=
  ⟨a, [x, y], rfl, st_of (e a _ h), rfl, x, [y], rfl, y, [], rfl, rfl, q⟩
end
end Cs
set_option Elab.async false
set_option linter.all false
set_option maxRecDepth 100000
set_option maxHeartbeats 4000000
/-! A: amounts.py -/
namespace Cs
open PySem PySem.Spec PyProof.Rows L2 Evl
section
variable {K : PySem.W.Frag} {σ : L2.St} {H : Hp} {ta tb te : TE} {p : Addr} {xs : List V} {v : V} {i j : Int}
theorem ev_mx (h : Ev ta σ H (.int i)) (h2 : Ev tb σ H (.int j)) : Ev (tCB (fun xs H Q => ∃ i j, xs = [V.int i, V.int j] ∧ Q (.int (if j > i then j else i)) H) (tCons ta (tCons tb tNil))) σ H (.int (if j > i then j else i)) :=
  ev_cb (ea_cons h (ea_cons h2 ea_nil)) fun H1 _ Q q => ⟨i, j, rfl, q H1 (Ex.refl H1)⟩
theorem ev_mn (h : Ev ta σ H (.int i)) (h2 : Ev tb σ H (.int j)) : Ev (tCB (fun xs H Q => ∃ i j, xs = [V.int i, V.int j] ∧ Q (.int (if j < i then j else i)) H) (tCons ta (tCons tb tNil))) σ H (.int (if j < i then j else i)) :=
  ev_cb (ea_cons h (ea_cons h2 ea_nil)) fun H1 _ Q q => ⟨i, j, rfl, q H1 (Ex.refl H1)⟩
end
variable {P : Program} {w : World} {K : PySem.W.Frag} {mg : Str → Option Value} {base : Heap}
/-! ### at_most -/
def spAtMost : Sp := fun vs H Q _ => ∃ a b : Amt, vs = [av a, av b] ∧ RetV (.bl (leA a b)) H Q
theorem sv_atMost {a b : Amt} {H : Hp} : SpV spAtMost [av a, av b] H (.bl (leA a b)) := fun H1 _ Q q _ => ⟨a, b, rfl, q⟩
theorem ok_atMost (h : Has K mg "at_most" sPAtMost) : Cl P w K mg base 1 "at_most" spAtMost := by
  refine cl_of h scPAtMost (fun _ _ _ _ _ _ us hl => match us, hl with | [_, _], _ => rfl) (fun vs H Q E h => ?_) (fun f cdv A outer s H vs Q E hr h => ?_)
  · obtain ⟨a, b, rfl, _⟩ := h
    rfl
  obtain ⟨a, b, rfl, q⟩ := h
  refine ⟨_, (pss_cons (ps_if (pt_cmpR op_isN (pv 1) pe_non (nomark _)) (pss_one (ps_ret pe_bl)) pss_nil)
      (pss_one (ps_ret (pe_and (pe_cmpR op_notN (pv 0) pe_non (nomark _)) (pe_one (pe_cmpR op_le (pv 0) (pv 1) (nomark _))))))), ?_⟩
  refine q_when (et_test (ev_isN (ev_var rfl))) (fun hb H1 e1 => s_ret ev_c fun H2 e2 => ?_) fun hb H1 e1 => ?_
  · cases b with
    | none => exact q H2 (e1.trans e2)
    | some j => cases hb
  · cases b with
    | none => cases hb
    | some j =>
      refine s_ret (v := .bl (a.isSome && decide (a.getD 0 ≤ j))) (ev_andV (ev_notN (ev_var rfl)) fun ha => ?_) fun H2 e2 => ?_
      · cases a with
        | none => cases ha
        | some i => exact ev_le (ev_var rfl) (ev_var rfl)
      · have e : (a.isSome && decide (a.getD 0 ≤ j)) = leA a (some j) := by cases a <;> rfl
        rw [e]
        exact q H2 (e1.trans e2)
/-! ### least_of, greatest_of -/
def spLeastOf : Sp := fun vs H Q _ => ∃ (p : Addr) (l : List Amt), vs = [.ref p] ∧ H p = some (.lst (l.map av)) ∧ l ≠ [] ∧ RetV (av (leastOf l)) H Q
theorem sv_leastOf {p : Addr} {l : List Amt} {H : Hp} (h : H p = some (.lst (l.map av))) (hn : l ≠ []) : SpV spLeastOf [.ref p] H (av (leastOf l)) := fun H1 e Q q _ => ⟨p, l, rfl, e p _ h, hn, q⟩
def spGreatestOf : Sp := fun vs H Q _ => ∃ (p : Addr) (l : List Amt), vs = [.ref p] ∧ H p = some (.lst (l.map av)) ∧ l ≠ [] ∧ RetV (av (greatestOf l)) H Q
theorem sv_greatestOf {p : Addr} {l : List Amt} {H : Hp} (h : H p = some (.lst (l.map av))) (hn : l ≠ []) : SpV spGreatestOf [.ref p] H (av (greatestOf l)) := fun H1 e Q q _ => ⟨p, l, rfl, e p _ h, hn, q⟩
theorem head_av {l : List Amt} (hn : l ≠ []) : atI (l.map av) 0 = some (av (l.headD none)) := by
  cases l with
  | nil => exact absurd rfl hn
  | cons a r => exact at0
theorem ok_leastOf (h : Has K mg "least_of" sPLeastOf) (cPAtMost : Cl P w K mg base 1 "at_most" spAtMost) : Cl P w K mg base 2 "least_of" spLeastOf := by
  refine cl_of h scPLeastOf (fun _ _ _ _ _ _ us hl => match us, hl with | [_], _ => rfl) (fun vs H Q E h => ?_) (fun f cdv A outer s H vs Q E hr h => ?_)
  · obtain ⟨p, l, rfl, _⟩ := h
    rfl
  obtain ⟨p, l, rfl, hp, hn, q⟩ := h
  refine ⟨_, (pss_cons (ps_set (i := 1) scPLeastOf.nd rfl (Or.inl rfl) (pe_ix (ix_listK (K := K)) (pv 0) pe_int (fun _ _ => rfl)))
      (pss_cons (ps_for PassesOwn.never rfl (pi_list (pv 0)) (pg_name (i := 2) scPLeastOf.nd rfl (Or.inl rfl)) (pss_one (ps_if (pt_val (pe_k cPAtMost (hr.mono (by decide)) (by rfl) (pa_cons (pv 2) (pa_cons (pv 1) pa_nil)))) (pss_one (ps_set (i := 1) scPLeastOf.nd rfl (Or.inl rfl) (pv 2))) pss_nil)))
      (pss_one (ps_ret (pv 1))))), ?_⟩
  refine q_asg (ev_xL (ev_var rfl) ev_c hp (head_av hn)) fun H1 e1 => ?_
  refine q_forLn (ev_var rfl) (sq_of (e1 p _ hp)) (fun n σ' H' => Ex H H' ∧ ∃ y, σ' = [some (.ref p), some (av ((l.take n).foldl (fun f o => if leA o f = true then o else f) (l.headD none))), y]) (fun H2 e2 => ⟨e1.trans e2, _, rfl⟩) (fun n σ' H' _ ⟨e, _⟩ => sq_of (e p _ hp)) (fun n x σ' H' hx => ?_) fun σ' H' => ?_
  · rintro ⟨e, y, rfl⟩
    obtain ⟨o, ho, rfl⟩ := getMap hx
    refine s_when (et_B (ev_call (ea_cons (ev_var rfl) (ea_cons (ev_var rfl) ea_nil)) sv_atMost)) (fun hb H2 e2 => s_asg (ev_var rfl) fun H3 e3 => ⟨(e.trans e2).trans e3, some (av o), ?_⟩) fun hb H2 e2 => ⟨e.trans e2, some (av o), ?_⟩
    · rw [foldl_take ho, if_pos hb]
      rfl
    · rw [foldl_take ho, if_neg (by rw [hb]; exact Bool.false_ne_true)]
      rfl
  · rintro ⟨e, y, rfl⟩
    refine s_ret (ev_var rfl) fun H2 e2 => ?_
    rw [List.length_map, List.take_of_length_le (Nat.le_refl _)]
    exact q H2 (e.trans e2)
theorem ok_greatestOf (h : Has K mg "greatest_of" sPGreatestOf) (cPAtMost : Cl P w K mg base 1 "at_most" spAtMost) : Cl P w K mg base 2 "greatest_of" spGreatestOf := by
  refine cl_of h scPGreatestOf (fun _ _ _ _ _ _ us hl => match us, hl with | [_], _ => rfl) (fun vs H Q E h => ?_) (fun f cdv A outer s H vs Q E hr h => ?_)
  · obtain ⟨p, l, rfl, _⟩ := h
    rfl
  obtain ⟨p, l, rfl, hp, hn, q⟩ := h
  refine ⟨_, (pss_cons (ps_set (i := 1) scPGreatestOf.nd rfl (Or.inl rfl) (pe_ix (ix_listK (K := K)) (pv 0) pe_int (fun _ _ => rfl)))
      (pss_cons (ps_for PassesOwn.never rfl (pi_list (pv 0)) (pg_name (i := 2) scPGreatestOf.nd rfl (Or.inl rfl)) (pss_one (ps_if (pt_val (pe_k cPAtMost (hr.mono (by decide)) (by rfl) (pa_cons (pv 1) (pa_cons (pv 2) pa_nil)))) (pss_one (ps_set (i := 1) scPGreatestOf.nd rfl (Or.inl rfl) (pv 2))) pss_nil)))
      (pss_one (ps_ret (pv 1))))), ?_⟩
  refine q_asg (ev_xL (ev_var rfl) ev_c hp (head_av hn)) fun H1 e1 => ?_
  refine q_forLn (ev_var rfl) (sq_of (e1 p _ hp)) (fun n σ' H' => Ex H H' ∧ ∃ y, σ' = [some (.ref p), some (av ((l.take n).foldl (fun f o => if leA f o = true then o else f) (l.headD none))), y]) (fun H2 e2 => ⟨e1.trans e2, _, rfl⟩) (fun n σ' H' _ ⟨e, _⟩ => sq_of (e p _ hp)) (fun n x σ' H' hx => ?_) fun σ' H' => ?_
  · rintro ⟨e, y, rfl⟩
    obtain ⟨o, ho, rfl⟩ := getMap hx
    refine s_when (et_B (ev_call (ea_cons (ev_var rfl) (ea_cons (ev_var rfl) ea_nil)) sv_atMost)) (fun hb H2 e2 => s_asg (ev_var rfl) fun H3 e3 => ⟨(e.trans e2).trans e3, some (av o), ?_⟩) fun hb H2 e2 => ⟨e.trans e2, some (av o), ?_⟩
    · rw [foldl_take ho, if_pos hb]
      rfl
    · rw [foldl_take ho, if_neg (by rw [hb]; exact Bool.false_ne_true)]
      rfl
  · rintro ⟨e, y, rfl⟩
    refine s_ret (ev_var rfl) fun H2 e2 => ?_
    rw [List.length_map, List.take_of_length_le (Nat.le_refl _)]
    exact q H2 (e.trans e2)
/-! ### shifted -/
def spShifted : Sp := fun vs H Q _ => ∃ (a : Amt) (c : Int), vs = [av a, .int c] ∧ RetV (av (shA a c)) H Q
theorem sv_shifted {a : Amt} {c : Int} {H : Hp} : SpV spShifted [av a, .int c] H (av (shA a c)) := fun H1 _ Q q _ => ⟨a, c, rfl, q⟩
theorem ok_shifted (T : Bt mg) (h : Has K mg "shifted" sPShifted) : Cl P w K mg base 1 "shifted" spShifted := by
  refine cl_of h scPShifted (fun _ _ _ _ _ _ us hl => match us, hl with | [_, _], _ => rfl) (fun vs H Q E h => ?_) (fun f cdv A outer s H vs Q E hr h => ?_)
  · obtain ⟨a, c, rfl, _⟩ := h
    rfl
  obtain ⟨a, c, rfl, q⟩ := h
  refine ⟨_, (pss_cons (ps_if (pt_cmpR op_isN (pv 0) pe_non (nomark _)) (pss_one (ps_ret pe_non)) pss_nil)
      (pss_one (ps_ret (pe_callB (call_max2 rfl) (by rfl) T.b_max (by decide +kernel) (pa_cons pe_int (pa_cons (pe_op op_add (pv 0) (pv 1)) pa_nil)))))), ?_⟩
  refine q_when (et_test (ev_isN (ev_var rfl))) (fun hb H1 e1 => s_ret ev_c fun H2 e2 => ?_) fun hb H1 e1 => ?_
  · cases a with
    | none => exact q H2 (e1.trans e2)
    | some j => cases hb
  · cases a with
    | none => cases hb
    | some j => exact s_ret (ev_mx ev_c (ev_add (ev_var rfl) (ev_var rfl))) fun H2 e2 => q H2 (e1.trans e2)
end Cs
set_option Elab.async false
set_option linter.all false
set_option maxRecDepth 100000
set_option maxHeartbeats 4000000
/-! W2: == of flat lists, in, words of formulas. -/
namespace Cs
open PySem PySem.Spec PyProof.Rows L2 Evl
/-! ### flat lists as data -/
theorem eqv_all {α : Type} [DecidableEq α] {e : α → PyData} (he : ∀ a b, PyData.eqv (e a) (e b) = decide (a = b)) : ∀ xs ys : List α, PyData.eqvAll (xs.map e) (ys.map e) = decide (xs = ys)
  | [], [] => by simp [PyData.eqvAll]
  | [], y :: ys => by simp [PyData.eqvAll]
  | x :: xs, [] => by simp [PyData.eqvAll]
  | x :: xs, y :: ys => by
    have ih := eqv_all he xs ys
    simp only [List.map_cons, PyData.eqvAll, he, ih]
    by_cases h : x = y
    · subst h
      by_cases h2 : xs = ys
      · subst h2
        simp
      · simp [h2]
    · simp [h]
structure Leaf {α : Type} (v : α → V) (e : α → PyData) : Prop where
  dp : ∀ (K : PySem.W.Frag) (H : Hp) (a : α), Dp K H (v a) (e a)
  lay : ∀ a, PyData.canLay0 (e a) = true
  dep : ∀ a, PyData.depth (e a) ≤ 1
theorem Leaf.all {α : Type} {v : α → V} {e : α → PyData} (L : Leaf v e) (K : PySem.W.Frag) (H : Hp) : ∀ xs : List α, DpAll K H (xs.map v) (xs.map e)
  | [] => .nil
  | x :: xs => .cons (L.dp K H x) (L.all K H xs)
theorem Leaf.layAll {α : Type} {v : α → V} {e : α → PyData} (L : Leaf v e) : ∀ xs : List α, PyData.canLayAll0 (xs.map e) = true
  | [] => rfl
  | x :: xs => by
    show (PyData.canLay0 (e x) && PyData.canLayAll0 (xs.map e)) = true
    rw [L.lay, L.layAll xs]
    rfl
theorem Leaf.depAll {α : Type} {v : α → V} {e : α → PyData} (L : Leaf v e) : ∀ xs : List α, PyData.depthAll (xs.map e) ≤ 1
  | [] => by simp [PyData.depthAll]
  | x :: xs => by
    have h1 := L.dep x
    have h2 := L.depAll xs
    simp only [List.map_cons, PyData.depthAll]
    omega
theorem Leaf.shaped {α : Type} {v : α → V} {e : α → PyData} (L : Leaf v e) (xs : List α) : SeqAt.shaped (.list (xs.map e)) = true := by
  unfold SeqAt.shaped
  have h1 : PyData.canLay0 (.list (xs.map e)) = true := L.layAll xs
  have h2 := L.depAll xs
  have h3 : PyData.depth (.list (xs.map e)) ≤ 64 := by
    simp only [PyData.depth]
    omega
  rw [h1, decide_eq_true h3]
  rfl
/-- == of two lists of leaves -/
theorem rv_eqL {α : Type} [DecidableEq α] {v : α → V} {e : α → PyData} (L : Leaf v e) (he : ∀ a b, PyData.eqv (e a) (e b) = decide (a = b)) {K : PySem.W.Frag} {H : Hp} {p q : Addr} {xs ys : List α} (h1 : H p = some (.lst (xs.map v))) (h2 : H q = some (.lst (ys.map v))) :
    RV (rEqD K) (.ref p) (.ref q) H (.bl (decide (xs = ys))) := fun H1 ex Q k =>
  ⟨.list (xs.map e), .list (ys.map e), .lst (sq_of (ex p _ h1)) (L.all K H1 xs), .lst (sq_of (ex q _ h2)) (L.all K H1 ys), L.shaped xs, L.shaped ys, by
    have z : PyData.eqv (.list (xs.map e)) (.list (ys.map e)) = decide (xs = ys) := by
      simp only [PyData.eqv]
      exact eqv_all he xs ys
    rw [z]
    exact k H1 (Ex.refl H1)⟩
theorem rv_neL {α : Type} [DecidableEq α] {v : α → V} {e : α → PyData} (L : Leaf v e) (he : ∀ a b, PyData.eqv (e a) (e b) = decide (a = b)) {K : PySem.W.Frag} {H : Hp} {p q : Addr} {xs ys : List α} (h1 : H p = some (.lst (xs.map v))) (h2 : H q = some (.lst (ys.map v))) :
    RV (rNeD K) (.ref p) (.ref q) H (.bl (!decide (xs = ys))) := fun H1 ex Q k =>
  ⟨.list (xs.map e), .list (ys.map e), .lst (sq_of (ex p _ h1)) (L.all K H1 xs), .lst (sq_of (ex q _ h2)) (L.all K H1 ys), L.shaped xs, L.shaped ys, by
    have z : PyData.eqv (.list (xs.map e)) (.list (ys.map e)) = decide (xs = ys) := by
      simp only [PyData.eqv]
      exact eqv_all he xs ys
    rw [z]
    exact k H1 (Ex.refl H1)⟩
def pdA : Amt → PyData
  | none => .none
  | some i => .int i
theorem leafA : Leaf av pdA := by
  refine ⟨fun K H a => ?_, fun a => ?_, fun a => ?_⟩
  · cases a with
    | none => exact .non
    | some i => exact .int i
  · cases a <;> rfl
  · cases a <;> simp [pdA, PyData.depth]
theorem eqv_A : ∀ a b : Amt, PyData.eqv (pdA a) (pdA b) = decide (a = b)
  | none, none => by simp [pdA, PyData.eqv]
  | none, some _ => by simp [pdA, PyData.eqv]
  | some _, none => by simp [pdA, PyData.eqv]
  | some i, some j => by
    simp only [pdA, PyData.eqv, Option.some.injEq]
    exact Bool.beq_eq_decide_eq i j
abbrev nv (k : Nat) : V := .int (k : Int)
def pdN (k : Nat) : PyData := .int (k : Int)
theorem leafN : Leaf nv pdN := ⟨fun K H a => .int _, fun a => rfl, fun a => by simp [pdN, PyData.depth]⟩
theorem eqv_N (a b : Nat) : PyData.eqv (pdN a) (pdN b) = decide (a = b) := by
  simp only [pdN, PyData.eqv]
  rw [Bool.beq_eq_decide_eq]
  by_cases h : a = b
  · rw [decide_eq_true h, decide_eq_true (by omega)]
  · rw [decide_eq_false h, decide_eq_false (by omega)]
def pdB (b : Bool) : PyData := .bool b
theorem leafB : Leaf V.bl pdB := ⟨fun K H a => .bl _, fun a => rfl, fun a => by simp [pdB, PyData.depth]⟩
theorem eqv_B (a b : Bool) : PyData.eqv (pdB a) (pdB b) = decide (a = b) := by
  simp only [pdB, PyData.eqv]
  exact Bool.beq_eq_decide_eq a b
def cv : Option Nat → V
  | none => .non
  | some k => .int (k : Int)
def pdC : Option Nat → PyData
  | none => .none
  | some k => .int (k : Int)
theorem leafC : Leaf cv pdC := by
  refine ⟨fun K H a => ?_, fun a => ?_, fun a => ?_⟩
  · cases a with
    | none => exact .non
    | some i => exact .int i
  · cases a <;> rfl
  · cases a <;> simp [pdC, PyData.depth]
theorem eqv_C : ∀ a b : Option Nat, PyData.eqv (pdC a) (pdC b) = decide (a = b)
  | none, none => by simp [pdC, PyData.eqv]
  | none, some _ => by simp [pdC, PyData.eqv]
  | some _, none => by simp [pdC, PyData.eqv]
  | some i, some j => by
    have h := eqv_N i j
    simp only [pdN] at h
    simp only [pdC, Option.some.injEq]
    exact h
theorem at_cv {ch : Ch} {j : Nat} (h : j < ch.length) : atI (ch.map cv) (j : Int) = some (cv (gC ch j)) := atI_nat (mapGet (gC_get h))
theorem at_nv {l : List Nat} {j k : Nat} (h : l[j]? = some k) : atI (l.map nv) (j : Int) = some (nv k) := atI_nat (mapGet h)
/-! ### in a list of numbers -/
theorem inV_nv (k : Nat) : ∀ l : List Nat, inV (nv k) (l.map nv) = l.contains k
  | [] => rfl
  | x :: l => by
    have ih := inV_nv k l
    unfold inV at ih ⊢
    rw [List.map_cons, List.any_cons, List.contains_cons, ih]
    have e : eqV (nv x) (nv k) = (k == x) := by
      show ((x : Int) == (k : Int)) = (k == x)
      rw [Bool.beq_eq_decide_eq, Bool.beq_eq_decide_eq]
      by_cases h : k = x
      · rw [decide_eq_true h, decide_eq_true (by omega)]
      · rw [decide_eq_false h, decide_eq_false (by omega)]
    rw [e]
theorem flat_nv : ∀ l : List Nat, (l.map nv).all flatV = true
  | [] => rfl
  | x :: l => by
    rw [List.map_cons, List.all_cons, flat_nv l]
    rfl
section
variable {K : PySem.W.Frag} {σ : L2.St} {H : Hp} {ta tb : TE} {p : Addr}
theorem ev_inN {k : Nat} {l : List Nat} (h : Ev ta σ H (nv k)) (h2 : Ev tb σ H (.ref p)) (hp : H p = some (.lst (l.map nv))) : Ev (tOp (rIn K false) ta tb) σ H (.bl (l.contains k)) :=
  ev_is (ev_op h h2 (rv_isL (sq_of hp) rfl (flat_nv l))) (by rw [inV_nv])
theorem ev_niN {k : Nat} {l : List Nat} (h : Ev ta σ H (nv k)) (h2 : Ev tb σ H (.ref p)) (hp : H p = some (.lst (l.map nv))) : Ev (tOp (rIn K true) ta tb) σ H (.bl (!l.contains k)) :=
  ev_is (ev_op h h2 (rv_niL (sq_of hp) rfl (flat_nv l))) (by rw [inV_nv])
end
/-! ### words of formulas -/
theorem kA (f : Fm) : decide (V.str (Str.ofString f.kind) = V.str (Str.ofString "amount")) = f.isA := by
  cases f
  · exact (show decide (V.str (Str.ofString "amount") = V.str (Str.ofString "amount")) = true by decide +kernel)
  · exact (show decide (V.str (Str.ofString "least") = V.str (Str.ofString "amount")) = false by decide +kernel)
  · exact (show decide (V.str (Str.ofString "greatest") = V.str (Str.ofString "amount")) = false by decide +kernel)
  · exact (show decide (V.str (Str.ofString "when") = V.str (Str.ofString "amount")) = false by decide +kernel)
theorem kL (f : Fm) : decide (V.str (Str.ofString f.kind) = V.str (Str.ofString "least")) = f.isL := by
  cases f
  · exact (show decide (V.str (Str.ofString "amount") = V.str (Str.ofString "least")) = false by decide +kernel)
  · exact (show decide (V.str (Str.ofString "least") = V.str (Str.ofString "least")) = true by decide +kernel)
  · exact (show decide (V.str (Str.ofString "greatest") = V.str (Str.ofString "least")) = false by decide +kernel)
  · exact (show decide (V.str (Str.ofString "when") = V.str (Str.ofString "least")) = false by decide +kernel)
theorem kG (f : Fm) : decide (V.str (Str.ofString f.kind) = V.str (Str.ofString "greatest")) = f.isG := by
  cases f
  · exact (show decide (V.str (Str.ofString "amount") = V.str (Str.ofString "greatest")) = false by decide +kernel)
  · exact (show decide (V.str (Str.ofString "least") = V.str (Str.ofString "greatest")) = false by decide +kernel)
  · exact (show decide (V.str (Str.ofString "greatest") = V.str (Str.ofString "greatest")) = true by decide +kernel)
  · exact (show decide (V.str (Str.ofString "when") = V.str (Str.ofString "greatest")) = false by decide +kernel)
theorem kW (f : Fm) : decide (V.str (Str.ofString f.kind) = V.str (Str.ofString "when")) = f.isW := by
  cases f
  · exact (show decide (V.str (Str.ofString "amount") = V.str (Str.ofString "when")) = false by decide +kernel)
  · exact (show decide (V.str (Str.ofString "least") = V.str (Str.ofString "when")) = false by decide +kernel)
  · exact (show decide (V.str (Str.ofString "greatest") = V.str (Str.ofString "when")) = false by decide +kernel)
  · exact (show decide (V.str (Str.ofString "when") = V.str (Str.ofString "when")) = true by decide +kernel)
section
variable {K : PySem.W.Frag} {σ : L2.St} {H : Hp} {ta tb : TE} {p : Addr} {f : Fm}
theorem ev_k0 (h : Ev ta σ H (.ref p)) (hf : FmAt H p f) : Ev (tOp (rIxT K) ta (tC (.int 0))) σ H (.str (Str.ofString f.kind)) := by
  obtain ⟨r, hr⟩ := hf.kind
  exact ev_xT h ev_c hr at0
theorem ev_wA (h : Ev ta σ H (.str (Str.ofString f.kind))) : Ev (tOp rEq ta (tC (.str (Str.ofString "amount")))) σ H (.bl f.isA) := ev_is (ev_eq h ev_c rfl) (congrArg V.bl (kA f))
theorem ev_wL (h : Ev ta σ H (.str (Str.ofString f.kind))) : Ev (tOp rEq ta (tC (.str (Str.ofString "least")))) σ H (.bl f.isL) := ev_is (ev_eq h ev_c rfl) (congrArg V.bl (kL f))
theorem ev_wG (h : Ev ta σ H (.str (Str.ofString f.kind))) : Ev (tOp rEq ta (tC (.str (Str.ofString "greatest")))) σ H (.bl f.isG) := ev_is (ev_eq h ev_c rfl) (congrArg V.bl (kG f))
theorem ev_wW (h : Ev ta σ H (.str (Str.ofString f.kind))) : Ev (tOp rEq ta (tC (.str (Str.ofString "when")))) σ H (.bl f.isW) := ev_is (ev_eq h ev_c rfl) (congrArg V.bl (kW f))
theorem ev_nA (h : Ev ta σ H (.str (Str.ofString f.kind))) : Ev (tOp rNe ta (tC (.str (Str.ofString "amount")))) σ H (.bl (!f.isA)) := ev_is (ev_ne h ev_c rfl) (by rw [kA])
theorem ev_nG (h : Ev ta σ H (.str (Str.ofString f.kind))) : Ev (tOp rNe ta (tC (.str (Str.ofString "greatest")))) σ H (.bl (!f.isG)) := ev_is (ev_ne h ev_c rfl) (by rw [kG])
theorem ev_nW (h : Ev ta σ H (.str (Str.ofString f.kind))) : Ev (tOp rNe ta (tC (.str (Str.ofString "when")))) σ H (.bl (!f.isW)) := ev_is (ev_ne h ev_c rfl) (by rw [kW])
end
end Cs
set_option Elab.async false
set_option linter.all false
set_option maxRecDepth 100000
set_option maxHeartbeats 4000000
/-! B: flat.py -/
namespace Cs
open PySem PySem.Spec PyProof.Rows L2 Evl
variable {P : Program} {w : World} {K : PySem.W.Frag} {mg : Str → Option Value} {base : Heap}
/-! ### flat_value -/
def spFlatValue : Sp := fun vs H Q _ => ∃ (a p : Addr) (f : Fm) (x : List Amt), vs = [.ref a, .ref p] ∧ FmAt H a f ∧ H p = some (.lst (x.map av)) ∧ FmOk x.length f ∧ RetV (av (fval f x)) H Q
theorem sv_flatValue {a p : Addr} {f : Fm} {x : List Amt} {H : Hp} (hf : FmAt H a f) (hx : H p = some (.lst (x.map av))) (ok : FmOk x.length f) : SpV spFlatValue [.ref a, .ref p] H (av (fval f x)) := fun H1 e Q q _ => ⟨a, p, f, x, rfl, hf.ex e, e p _ hx, ok, q⟩
/-- the comprehension of the arcs' values -/
theorem el_arcs {σ : L2.St} {H : Hp} {tl te : TE} {l : Addr} {arcs : List Arc} {x : List Amt} {i j : Nat} (ha : Ev tl σ H (.ref l)) (hl : ArcsAt H l arcs) (ok : ArcsOk x.length arcs)
    (hw : ∀ u v, wipe (((wipe σ [i, j]).set i (some u)).set j (some v)) [i, j] = wipe σ [i, j])
    (he : ∀ (q : Arc) H1, Ex H H1 → q.1 < x.length → Ev te (((wipe σ [i, j]).set i (some (.int (q.1 : Int)))).set j (some (.int q.2))) H1 (av (shA (gA x q.1) q.2))) :
    EvL (tLc (iList K tl) (gTup K 2 (gCons (gName i) (gCons (gName j) gNil))) tYes te [i, j]) σ H ((arcVals arcs x).map av) := by
  obtain ⟨ads, h1, h2⟩ := hl
  have e : (arcVals arcs x).map av = (arcs.filter (fun _ => true)).map fun q => av (shA (gA x q.1) q.2) := by
    rw [filter_true]
    unfold arcVals
    rw [List.map_map]
    rfl
  rw [e]
  refine el_lc (xs := ads.map V.ref) (ys := arcs) (fun _ => true) _ ha (sq_of h1) (by rw [List.length_map, paired_len h2]) (by have := ok.len; omega) fun n u q hu hq => ?_
  obtain ⟨a, ea, rfl⟩ := getMap hu
  obtain ⟨q', hq', ht⟩ := paired_get2 h2 ea
  have eq : q' = q := Option.some.inj (hq'.symm.trans hq)
  subst eq
  refine ⟨_, fun H1 e1 Q k => g_pair ht e1 k, hw _ _, fun H1 e1 H2 e2 Q k => k H2 (Ex.refl H2), fun _ H1 e1 => he q' H1 e1 (ok.ok q' (List.mem_of_getElem? hq)).1⟩
theorem arcVals_ne {arcs : List Arc} {x : List Amt} (h : arcs ≠ []) : arcVals arcs x ≠ [] := fun e => h (List.map_eq_nil_iff.mp e)
theorem ok_flatValue (T : Bt mg) (h : Has K mg "flat_value" sPFlatValue) (cPAtMost : Cl P w K mg base 1 "at_most" spAtMost) (cPLeastOf : Cl P w K mg base 2 "least_of" spLeastOf) (cPGreatestOf : Cl P w K mg base 2 "greatest_of" spGreatestOf) (cPShifted : Cl P w K mg base 1 "shifted" spShifted) : Cl P w K mg base 3 "flat_value" spFlatValue := by
  refine cl_of h scPFlatValue (fun _ _ _ _ _ _ us hl => match us, hl with | [_, _], _ => rfl) (fun vs H Q E h => ?_) (fun f cdv A outer s H vs Q E hr h => ?_)
  · obtain ⟨a, p, f, x, rfl, _⟩ := h
    rfl
  obtain ⟨a, p, fm, x, rfl, hf, hx, ok, q⟩ := h
  refine ⟨_, (pss_cons (ps_set (i := 2) scPFlatValue.nd rfl (Or.inl rfl) (pe_ix (ix_tupK (K := K)) (pv 0) pe_int (fun _ _ => rfl)))
      (pss_cons (ps_if (pt_cmpR op_eq (pv 2) pe_str (nomark _)) (pss_one (ps_ret (pe_ix (ix_tupK (K := K)) (pv 0) pe_int (fun _ _ => rfl)))) pss_nil)
      (pss_cons (ps_if (pt_cmpR op_eq (pv 2) pe_str (nomark _)) (pss_one (ps_ret (pe_ifExp (pt_val (pe_k cPAtMost (hr.mono (by decide)) (by rfl) (pa_cons (pe_ix (ix_tupK (K := K)) (pv 0) pe_int (fun _ _ => rfl)) (pa_cons (pe_ix (ix_listK (K := K)) (pv 1) (pe_ix (ix_tupK (K := K)) (pv 0) pe_int (fun _ _ => rfl)) (fun _ _ => rfl)) pa_nil)))) (pe_ix (ix_listK (K := K)) (pv 1) (pe_ix (ix_tupK (K := K)) (pv 0) pe_int (fun _ _ => rfl)) (fun _ _ => rfl)) pe_int))) pss_nil)
      (pss_cons (ps_setLc (i := 3) (own := [("cell", 4), ("shift", 5)]) rfl scPFlatValue.nd rfl rfl (sw_true rfl rfl rfl (by decide +kernel)) (pi_list (pe_ix (ix_tupK (K := K)) (pv 0) pe_int (fun _ _ => rfl))) (blkOk_by (own := [("cell", 4), ("shift", 5)]) (N := nPFlatValue) (sc := defScope sPFlatValue) (by decide +kernel)) (fun _ _ _ _ _ => (pg_tupK (K := K) (n := 2) rfl (pgs_cons (pg_name (i := 4) scPFlatValue.nd rfl (Or.inl rfl)) (pgs_cons (pg_name (i := 5) scPFlatValue.nd rfl (Or.inl rfl)) pgs_nil)))) (fun _ _ _ _ _ => pts_nil) (fun _ _ _ _ _ => (pe_k cPShifted (hr.mono (by decide)) (by rfl) (pa_cons (pe_ix (ix_listK (K := K)) (pv 1) (pv 4) (fun _ _ => rfl)) (pa_cons (pv 5) pa_nil)))))
      (pss_cons (ps_if (pt_cmpR op_eq (pv 2) pe_str (nomark _)) (pss_one (ps_ret (pe_k cPLeastOf (hr.mono (by decide)) (by rfl) (pa_cons (pv 3) pa_nil)))) pss_nil)
      (pss_one (ps_ret (pe_k cPGreatestOf (hr.mono (by decide)) (by rfl) (pa_cons (pv 3) pa_nil))))))))), ?_⟩
  refine q_asg (ev_k0 (ev_var rfl) hf) fun H1 e1 => ?_
  have f1 := hf.ex e1
  refine q_when (et_test (ev_wA (ev_var rfl))) (fun hb H2 e2 => ?_) fun hb H2 e2 => ?_
  · cases fm with
    | amt c => exact s_ret (ev_xT (ev_var rfl) ev_c (f1.ex e2) at1) fun H3 e3 => q H3 ((e1.trans e2).trans e3)
    | _ => cases hb
  have e12 := e1.trans e2
  have x2 := e12 p _ hx
  have f2 := hf.ex e12
  refine q_when (et_test (ev_wW (ev_var rfl))) (fun hb2 H3 e3 => ?_) fun hb2 H3 e3 => ?_
  · cases fm with
    | when j b k =>
      have e13 := e12.trans e3
      have x3 := e13 p _ hx
      have f3 := hf.ex e13
      refine s_ret (ev_if (et_B (ev_call (ea_cons (ev_xT (ev_var rfl) ev_c f3 at2) (ea_cons (ev_xA (ev_var rfl) (ev_xT (ev_var rfl) ev_c f3 at1) x3 ok.1) ea_nil)) (sv_atMost (a := some b)))) (fun hc => ?_) fun hc => ?_) fun H4 e4 => q H4 (e13.trans e4)
      · show Ev _ _ _ (av (if leA (some b) (gA x j) = true then gA x k else some 0))
        rw [if_pos hc]
        exact ev_xA (ev_var rfl) (ev_xT (ev_var rfl) ev_c f3 at3) x3 ok.2.1
      · show Ev _ _ _ (av (if leA (some b) (gA x j) = true then gA x k else some 0))
        rw [if_neg (by rw [hc]; exact Bool.false_ne_true)]
        exact ev_c
    | _ => cases hb2
  have e13 := e12.trans e3
  have x3 := e13 p _ hx
  have f3 := hf.ex e13
  cases fm with
  | amt _ => cases hb
  | when _ _ _ => cases hb2
  | least arcs =>
    obtain ⟨l, f4, f5⟩ := f3
    refine q_asgL (el_arcs (ev_xT (ev_var rfl) ev_c f4 at1) f5 ok (fun _ _ => rfl) fun r H4 e4 hr => ev_call (ea_cons (ev_xA (ev_var rfl) (ev_var rfl) (e4 p _ x3) hr) (ea_cons (ev_var rfl) ea_nil)) sv_shifted) fun r H4 hr e4 h4 => ?_
    refine q_when (et_test (ev_wL (f := .least arcs) (ev_var rfl))) (fun _ H5 e5 => ?_) fun hc => by cases hc
    exact s_ret (ev_call (ea_cons (ev_var rfl) ea_nil) (sv_leastOf (e5 r _ h4) (arcVals_ne ok.ne))) fun H6 e6 => q H6 (((e13.trans e4).trans e5).trans e6)
  | great arcs =>
    obtain ⟨l, f4, f5⟩ := f3
    refine q_asgL (el_arcs (ev_xT (ev_var rfl) ev_c f4 at1) f5 ok (fun _ _ => rfl) fun r H4 e4 hr => ev_call (ea_cons (ev_xA (ev_var rfl) (ev_var rfl) (e4 p _ x3) hr) (ea_cons (ev_var rfl) ea_nil)) sv_shifted) fun r H4 hr e4 h4 => ?_
    refine q_when (et_test (ev_wL (f := .great arcs) (ev_var rfl))) (fun hc => by cases hc) fun _ H5 e5 => ?_
    exact s_ret (ev_call (ea_cons (ev_var rfl) ea_nil) (sv_greatestOf (e5 r _ h4) (arcVals_ne ok.ne))) fun H6 e6 => q H6 (((e13.trans e4).trans e5).trans e6)
/-! ### flat_values, is_flat_solution -/
def spFlatValues : Sp := fun vs H Q _ => ∃ (a p : Addr) (S : List Fm) (x : List Amt), vs = [.ref a, .ref p] ∧ SheetAt H a S ∧ H p = some (.lst (x.map av)) ∧ Wf S ∧ x.length = S.length ∧ RetL ((fvals S x).map av) H Q
theorem sv_flatValues {a p : Addr} {S : List Fm} {x : List Amt} {H : Hp} (hf : SheetAt H a S) (hx : H p = some (.lst (x.map av))) (ok : Wf S) (hl : x.length = S.length) : SpL spFlatValues [.ref a, .ref p] H ((fvals S x).map av) := fun H1 e Q q _ => ⟨a, p, S, x, rfl, hf.ex e, e p _ hx, ok, hl, q⟩
/-- a comprehension over a sheet's formulas -/
theorem el_sheet {σ : L2.St} {H : Hp} {tl te : TE} {a : Addr} {S : List Fm} {i : Nat} {F : Fm → V} (ha : Ev tl σ H (.ref a)) (hS : SheetAt H a S) (ok : Wf S)
    (hw : ∀ u, wipe ((wipe σ [i]).set i (some u)) [i] = wipe σ [i])
    (he : ∀ (f : Fm) (c : Addr) H1, Ex H H1 → FmAt H1 c f → FmOk S.length f → Ev te ((wipe σ [i]).set i (some (.ref c))) H1 (F f)) :
    EvL (tLc (iList K tl) (gName i) tYes te [i]) σ H (S.map F) := by
  obtain ⟨ads, h1, h2⟩ := hS
  have e : S.map F = (S.filter (fun _ => true)).map F := by rw [filter_true]
  rw [e]
  refine el_lc (xs := ads.map V.ref) (ys := S) (fun _ => true) _ ha (sq_of h1) (by rw [List.length_map, paired_len h2]) (by have := ok.len; omega) fun n u f hu hf => ?_
  obtain ⟨c, ec, rfl⟩ := getMap hu
  obtain ⟨f', hf', ht⟩ := paired_get2 h2 ec
  have ef : f' = f := Option.some.inj (hf'.symm.trans hf)
  subst ef
  exact ⟨_, fun H1 e1 Q k => k, hw _, fun H1 e1 H2 e2 Q k => k H2 (Ex.refl H2), fun _ H1 e1 => he f' c H1 e1 (ht.ex e1) (ok.ok n f' hf)⟩
theorem ok_flatValues (h : Has K mg "flat_values" sPFlatValues) (cPFlatValue : Cl P w K mg base 3 "flat_value" spFlatValue) : Cl P w K mg base 4 "flat_values" spFlatValues := by
  refine cl_of h scPFlatValues (fun _ _ _ _ _ _ us hl => match us, hl with | [_, _], _ => rfl) (fun vs H Q E h => ?_) (fun f cdv A outer s H vs Q E hr h => ?_)
  · obtain ⟨a, p, S, x, rfl, _⟩ := h
    rfl
  obtain ⟨a, p, S, x, rfl, hS, hx, ok, hl, q⟩ := h
  refine ⟨_, (pss_one (ps_ret (pe_lc (own := [("formula", 2)]) rfl scPFlatValues.nd (pi_list (pv 0)) (blkOk_by (own := [("formula", 2)]) (N := nPFlatValues) (sc := defScope sPFlatValues) (by decide +kernel)) (fun _ _ _ _ _ => (pg_name (i := 2) scPFlatValues.nd rfl (Or.inl rfl))) (fun _ _ _ _ _ => pts_nil) (fun _ _ _ _ _ => (pe_k cPFlatValue (hr.mono (by decide)) (by rfl) (pa_cons (pv 2) (pa_cons (pv 1) pa_nil))))))), ?_⟩
  have e : (fvals S x).map av = S.map fun f => av (fval f x) := by
    unfold fvals
    rw [List.map_map]
    rfl
  rw [e] at q
  exact s_retL (el_sheet (ev_var rfl) hS ok (fun _ => rfl) fun f c H1 e1 hf hok => ev_call (ea_cons (ev_var rfl) (ea_cons (ev_var rfl) ea_nil)) (sv_flatValue hf (e1 p _ hx) (by rw [hl]; exact hok))) q
def spIsFlatSolution : Sp := fun vs H Q _ => ∃ (a p : Addr) (S : List Fm) (x : List Amt), vs = [.ref a, .ref p] ∧ SheetAt H a S ∧ H p = some (.lst (x.map av)) ∧ Wf S ∧ x.length = S.length ∧ RetV (.bl (decide (fvals S x = x))) H Q
theorem sv_isFlatSolution {a p : Addr} {S : List Fm} {x : List Amt} {H : Hp} (hf : SheetAt H a S) (hx : H p = some (.lst (x.map av))) (ok : Wf S) (hl : x.length = S.length) : SpV spIsFlatSolution [.ref a, .ref p] H (.bl (decide (fvals S x = x))) := fun H1 e Q q _ => ⟨a, p, S, x, rfl, hf.ex e, e p _ hx, ok, hl, q⟩
theorem el_listOf {σ : L2.St} {H : Hp} {ta : TE} {p : Addr} {xs : List V} (ha : Ev ta σ H (.ref p)) (h : H p = some (.lst xs)) : EvL (tCB (fun xs H Q => ∃ p ys, xs = [V.ref p] ∧ (SqL K H p ys ∨ SqT K H p ys) ∧ ∀ l, H l = none → Q (.ref l) (upd H l (.lst ys))) (tCons ta tNil)) σ H xs := el_list ha (sq_of h)
theorem ev_lenL {σ : L2.St} {H : Hp} {ta : TE} {p : Addr} {xs : List V} (ha : Ev ta σ H (.ref p)) (h : H p = some (.lst xs)) : Ev (tCB (fun xs H Q => ∃ p ys, xs = [V.ref p] ∧ (SqL K H p ys ∨ SqT K H p ys) ∧ Q (.int ys.length) H) (tCons ta tNil)) σ H (.int (xs.length : Int)) := ev_len ha (sq_of h)
theorem ok_isFlatSolution (T : Bt mg) (h : Has K mg "is_flat_solution" sPIsFlatSolution) (cPFlatValues : Cl P w K mg base 4 "flat_values" spFlatValues) : Cl P w K mg base 5 "is_flat_solution" spIsFlatSolution := by
  refine cl_of h scPIsFlatSolution (fun _ _ _ _ _ _ us hl => match us, hl with | [_, _], _ => rfl) (fun vs H Q E h => ?_) (fun f cdv A outer s H vs Q E hr h => ?_)
  · obtain ⟨a, p, S, x, rfl, _⟩ := h
    rfl
  obtain ⟨a, p, S, x, rfl, hS, hx, ok, hl, q⟩ := h
  refine ⟨_, (pss_one (ps_ret (pe_cmpR (op_eqD hr.units) (pe_k cPFlatValues (hr.mono (by decide)) (by rfl) (pa_cons (pv 0) (pa_cons (pv 1) pa_nil))) (pe_callTy call_list_of (by rfl) T.b_list (by decide +kernel) (pa_cons (pv 1) pa_nil)) (nomark _)))), ?_⟩
  exact s_ret (ev_opLL (el_call (ea_cons (ev_var rfl) (ea_cons (ev_var rfl) ea_nil)) (sv_flatValues hS hx ok hl)) (el_listOf (ev_var rfl) hx) fun u v H1 h1 h2 e1 => rv_eqL leafA eqv_A h1 h2) q
/-! ### arcs_of -/
/-- a new list of a formula's arcs -/
def spArcsOf : Sp := fun vs H Q _ => ∃ (a : Addr) (S : List Fm) (i : Nat) (f : Fm), vs = [.ref a, nv i] ∧ SheetAt H a S ∧ S[i]? = some f ∧ f.isW = false ∧ FmOk S.length f ∧ ∀ l H2, H l = none → Ex H H2 → ArcsAt H2 l (arcsOf f) → Q (.ref l) H2
theorem ok_arcsOf (T : Bt mg) (h : Has K mg "arcs_of" sPArcsOf) : Cl P w K mg base 1 "arcs_of" spArcsOf := by
  refine cl_of h scPArcsOf (fun _ _ _ _ _ _ us hl => match us, hl with | [_, _], _ => rfl) (fun vs H Q E h => ?_) (fun f cdv A outer s H vs Q E hr h => ?_)
  · obtain ⟨a, S, i, f, rfl, _⟩ := h
    rfl
  obtain ⟨a, S, i, fm, rfl, hS, hi, hw, ok, q⟩ := h
  obtain ⟨xs, s1, s2, s3⟩ := hS.get
  obtain ⟨c, hc, hf⟩ := s3 i fm hi
  refine ⟨_, (pss_cons (ps_set (i := 2) scPArcsOf.nd rfl (Or.inl rfl) (pe_ix (ix_listK (K := K)) (pv 0) (pv 1) (fun _ _ => rfl)))
      (pss_cons (ps_if (pt_cmpR op_eq (pe_ix (ix_tupK (K := K)) (pv 2) pe_int (fun _ _ => rfl)) pe_str (nomark _)) (pss_one (ps_ret (pe_lst pa_nil))) pss_nil)
      (pss_cons (ps_if (pt_cmpR op_eq (pe_ix (ix_tupK (K := K)) (pv 2) pe_int (fun _ _ => rfl)) pe_str (nomark _)) (pss_one (ps_ret (pe_lst (pa_cons (pe_tup (pa_cons (pe_ix (ix_tupK (K := K)) (pv 2) pe_int (fun _ _ => rfl)) (pa_cons pe_int pa_nil))) pa_nil)))) pss_nil)
      (pss_one (ps_ret (pe_callTy call_list_of (by rfl) T.b_list (by decide +kernel) (pa_cons (pe_ix (ix_tupK (K := K)) (pv 2) pe_int (fun _ _ => rfl)) pa_nil))))))), ?_⟩
  refine q_asg (ev_xL (ev_var rfl) (ev_var rfl) s1 (atI_nat hc)) fun H1 e1 => ?_
  have f1 := hf.ex e1
  refine q_when (et_test (ev_wA (ev_k0 (ev_var rfl) f1))) (fun hb H2 e2 => ?_) fun hb H2 e2 => ?_
  · refine s_retL (el_lst ea_nil (Nat.zero_le _)) fun l H3 hl e3 h3 => ?_
    cases fm with
    | amt _ => exact q l H3 (fresh_back (e1.trans e2) hl) ((e1.trans e2).trans e3) ⟨[], h3, .nil⟩
    | _ => cases hb
  have f2 := f1.ex e2
  refine q_when (et_test (ev_wW (ev_k0 (ev_var rfl) f2))) (fun hb2 => by rw [hw] at hb2; cases hb2) fun hb2 H3 e3 => ?_
  have e13 := (e1.trans e2).trans e3
  have f3 := hf.ex e13
  cases fm with
  | amt _ => cases hb
  | when _ _ _ => cases hw
  | least arcs =>
    obtain ⟨l, f4, f5⟩ := f3
    obtain ⟨ads, f6, f7⟩ := f5
    exact s_retL (el_listOf (ev_xT (ev_var rfl) ev_c f4 at1) f6) fun r H4 hr e4 h4 => q r H4 (fresh_back e13 hr) (e13.trans e4) ⟨ads, h4, pm f7 fun _ _ z => e4 _ _ z⟩
  | great arcs =>
    obtain ⟨l, f4, f5⟩ := f3
    obtain ⟨ads, f6, f7⟩ := f5
    exact s_retL (el_listOf (ev_xT (ev_var rfl) ev_c f4 at1) f6) fun r H4 hr e4 h4 => q r H4 (fresh_back e13 hr) (e13.trans e4) ⟨ads, h4, pm f7 fun _ _ z => e4 _ _ z⟩
end Cs
set_option Elab.async false
set_option linter.all false
set_option maxRecDepth 100000
set_option maxHeartbeats 4000000
/-! W3: values that are made on the way; a list that grows, all else kept apart from it. -/
namespace Cs
open PySem PySem.Spec PyProof.Rows L2 Evl
/-! ### the heap without what stands at r -/
def hd (H : Hp) (r : Addr) : Hp := fun a => if a = r then none else H a
theorem hd_at {H : Hp} {r a : Addr} (h : a ≠ r) : hd H r a = H a := if_neg h
theorem hd_upd {H : Hp} {r : Addr} {o : HO} : hd (upd H r o) r = hd H r := by
  funext a
  unfold hd
  by_cases h : a = r
  · rw [if_pos h, if_pos h]
  · rw [if_neg h, if_neg h, upd_ne h]
theorem hd_sub {H : Hp} {r : Addr} : Ex (hd H r) H := fun a o h => by
  unfold hd at h
  by_cases e : a = r
  · rw [if_pos e] at h
    cases h
  · rw [if_neg e] at h
    exact h
theorem hd_ex {H H' : Hp} {r : Addr} (e : Ex H H') : Ex (hd H r) (hd H' r) := fun a o h => by
  by_cases q : a = r
  · unfold hd at h
    rw [if_pos q] at h
    cases h
  · rw [hd_at q] at h ⊢
    exact e a o h
theorem hd_of {H H' : Hp} {r : Addr} (n : H r = none) (e : Ex H H') : Ex H (hd H' r) := fun a o h => by
  have q : a ≠ r := fun z => by
    rw [z, n] at h
    cases h
  rw [hd_at q]
  exact e a o h
theorem hd_new {H : Hp} {r p : Addr} {o u : HO} (hr : H r = some u) (hp : H p = none) : hd (upd H p o) r p = some o := by
  have q : p ≠ r := fun z => by
    rw [z, hr] at hp
    cases hp
  rw [hd_at q, upd_same]
theorem hd_ne {H : Hp} {r p : Addr} {u : HO} (hr : H r = some u) (hp : H p = none) : p ≠ r := fun z => by
  rw [z, hr] at hp
  cases hp
/-! ### what an expression makes: Rep tells of the value in the heap behind, but for what stands at r -/
def Mono (R : V → Hp → Prop) : Prop := ∀ v H H', Ex H H' → R v H → R v H'
def EvD (te : TE) (σ : L2.St) (H : Hp) (r : Addr) (R : V → Hp → Prop) : Prop := ∀ H1, Ex H H1 → ∀ Q : VK, (∀ v H2, Ex H1 H2 → R v (hd H2 r) → Q v H2) → te σ H1 Q
section
variable {K : PySem.W.Frag} {σ : L2.St} {H H' : Hp} {ta tb te : TE} {t : TT} {x y v : V} {r : Addr} {u : HO} {D : Ends} {tz : TS} {R R1 R2 : V → Hp → Prop}
theorem EvD.mono (h : EvD te σ H r R) (e : Ex H H') : EvD te σ H' r R := fun H1 a Q q => h H1 (e.trans a) Q q
theorem EvD.imp (h : EvD te σ H r R) (k : ∀ v H2, Ex H H2 → R v (hd H2 r) → R2 v (hd H2 r)) : EvD te σ H r R2 := fun H1 a Q q => h H1 a Q fun v H2 e z => q v H2 e (k v H2 (a.trans e) z)
theorem ed_ev (h : Ev te σ H v) : EvD te σ H r (fun x _ => x = v) := fun H1 e Q q => h H1 e Q fun H2 e2 => q v H2 e2 rfl
theorem ed_evR (h : Ev te σ H v) (m : Mono R) (z : R v (hd H r)) : EvD te σ H r R := fun H1 e Q q => h H1 e Q fun H2 e2 => q v H2 e2 (m v _ _ (hd_ex (e.trans e2)) z)
theorem ed_evL {xs : List V} (hr : H r = some u) (h : EvL te σ H xs) : EvD te σ H r (fun x H' => ∃ p, x = .ref p ∧ H' p = some (.lst xs)) := fun H1 e Q q => h H1 e Q fun p H2 hp e2 h2 => q _ H2 e2 ⟨p, rfl, by rw [hd_at (hd_ne (e r _ hr) hp)]; exact h2⟩
theorem ed_evU {xs : List V} (hr : H r = some u) (h : EvU te σ H xs) : EvD te σ H r (fun x H' => ∃ p, x = .ref p ∧ H' p = some (.tup xs)) := fun H1 e Q q => h H1 e Q fun p H2 hp e2 h2 => q _ H2 e2 ⟨p, rfl, by rw [hd_at (hd_ne (e r _ hr) hp)]; exact h2⟩
theorem ed_ifT (h : EvT t σ H true) (ha : EvD ta σ H r R) : EvD (tIf t ta tb) σ H r R := fun H1 e Q q => h H1 e _ fun H2 e2 => by
  show ta σ H2 Q
  exact ha H2 (e.trans e2) Q fun v H3 e3 z => q v H3 (e2.trans e3) z
theorem ed_ifF (h : EvT t σ H false) (ha : EvD tb σ H r R) : EvD (tIf t ta tb) σ H r R := fun H1 e Q q => h H1 e _ fun H2 e2 => by
  show tb σ H2 Q
  exact ha H2 (e.trans e2) Q fun v H3 e3 z => q v H3 (e2.trans e3) z
theorem ed_tup2 (hr : H r = some u) (h1 : EvD ta σ H r R1) (h2 : EvD tb σ H r R2) (m : Mono R1) (m2 : Mono R2) : EvD (tTup (tCons ta (tCons tb tNil))) σ H r (fun z H' => ∃ p x y, z = .ref p ∧ H' p = some (.tup [x, y]) ∧ R1 x H' ∧ R2 y H') :=
  fun H1 e Q q => h1 H1 e _ fun x H2 e2 r1 => h2 H2 (e.trans e2) _ fun y H3 e3 r2 => ⟨by show 2 ≤ sizeLine; decide, fun p hp => by
    have hr3 := ((e.trans e2).trans e3) r _ hr
    refine q _ _ ((e2.trans e3).trans (Ex.new hp)) ⟨p, x, y, rfl, hd_new hr3 hp, m x _ _ (hd_ex (e3.trans (Ex.new hp))) r1, m2 y _ _ (hd_ex (Ex.new hp)) r2⟩⟩
theorem ed_lst1 (hr : H r = some u) (h1 : EvD ta σ H r R1) (m : Mono R1) : EvD (tLst (tCons ta tNil)) σ H r (fun z H' => ∃ p x, z = .ref p ∧ H' p = some (.lst [x]) ∧ R1 x H') :=
  fun H1 e Q q => h1 H1 e _ fun x H2 e2 r1 => ⟨by show 1 ≤ sizeLine; decide, fun p hp => by
    have hr3 := (e.trans e2) r _ hr
    exact q _ _ (e2.trans (Ex.new hp)) ⟨p, x, rfl, hd_new hr3 hp, m x _ _ (hd_ex (Ex.new hp)) r1⟩⟩
/-- xs.append(e), e made on the way -/
theorem s_appD {l : Addr} {xs : List V} (hl : H l = some (.lst xs)) (ha : Ev ta σ H (.ref l)) (h : EvD te σ H l R) (hz : xs.length < 100000) (k : ∀ v H1, Ex H H1 → R v (hd H1 l) → D.nx σ (upd H1 l (.lst (xs ++ [v])))) :
    tDrop (tBM K "list" rAppend ta (tCons te tNil)) D σ H := ha H (Ex.refl H) _ fun H1 e1 =>
  ⟨Or.inl ⟨rfl, xs, sq_of (e1 l _ hl)⟩, h H1 e1 _ fun v H2 e2 z => ⟨l, xs, v, rfl, rfl, e2 l _ (e1 l _ hl), sz_lt hz, k v H2 (e1.trans e2) z⟩⟩
theorem q_appD {l : Addr} {xs : List V} (hl : H l = some (.lst xs)) (ha : Ev ta σ H (.ref l)) (h : EvD te σ H l R) (hz : xs.length < 100000) (k : ∀ v H1, Ex H H1 → R v (hd H1 l) → tz D σ (upd H1 l (.lst (xs ++ [v])))) :
    tSeq (tDrop (tBM K "list" rAppend ta (tCons te tNil))) tz D σ H := s_appD (D := { D with nx := tz D }) hl ha h hz k
end
theorem refs_inj : ∀ {l l' : List Addr}, l.map V.ref = l'.map V.ref → l = l'
  | [], [], _ => rfl
  | [], _ :: _, h => by cases h
  | _ :: _, [], h => by cases h
  | a :: l, b :: l', h => by
    have h1 : V.ref a = V.ref b := (List.cons.inj h).1
    have h2 : l.map V.ref = l'.map V.ref := (List.cons.inj h).2
    rw [V.ref.inj h1, refs_inj h2]
theorem mono_fm {f : Fm} : Mono fun v H => ∃ c, v = .ref c ∧ FmAt H c f := fun v H H' e ⟨c, h1, h2⟩ => ⟨c, h1, h2.ex e⟩
theorem mono_arcs {f : List Arc} : Mono fun v H => ∃ c, v = .ref c ∧ ArcsAt H c f := fun v H H' e ⟨c, h1, h2⟩ => ⟨c, h1, h2.ex e⟩
theorem mono_eq {x : V} : Mono fun v _ => v = x := fun _ _ _ _ h => h
theorem mono_lst {xs : List V} : Mono fun v H => ∃ p, v = .ref p ∧ H p = some (.lst xs) := fun v H H' e ⟨p, h1, h2⟩ => ⟨p, h1, e p _ h2⟩
theorem mono_tup {xs : List V} : Mono fun v H => ∃ p, v = .ref p ∧ H p = some (.tup xs) := fun v H H' e ⟨p, h1, h2⟩ => ⟨p, h1, e p _ h2⟩
theorem Mono.and {R R2 : V → Hp → Prop} (a : Mono R) (b : Mono R2) : Mono fun v H => R v H ∧ R2 v H := fun v H H' e h => ⟨a v H H' e h.1, b v H H' e h.2⟩
end Cs
set_option Elab.async false
set_option linter.all false
set_option maxRecDepth 100000
set_option maxHeartbeats 4000000
/-! C: endless.py, the smaller functions -/
namespace Cs
open PySem PySem.Spec PyProof.Rows L2 Evl
variable {P : Program} {w : World} {K : PySem.W.Frag} {mg : Str → Option Value} {base : Heap}
/-! ### conditions_of -/
theorem ev_lenS {σ : L2.St} {H : Hp} {ta : TE} {p : Addr} {S : List Fm} (ha : Ev ta σ H (.ref p)) (h : SheetAt H p S) : Ev (tCB (fun xs H Q => ∃ p ys, xs = [V.ref p] ∧ (SqL K H p ys ∨ SqT K H p ys) ∧ Q (.int ys.length) H) (tCons ta tNil)) σ H (.int (S.length : Int)) := by
  obtain ⟨xs, h1, h2⟩ := h.len
  rw [← h2]
  exact ev_lenL ha h1
theorem ev_lenA {σ : L2.St} {H : Hp} {ta : TE} {p : Addr} {S : List Arc} (ha : Ev ta σ H (.ref p)) (h : ArcsAt H p S) : Ev (tCB (fun xs H Q => ∃ p ys, xs = [V.ref p] ∧ (SqL K H p ys ∨ SqT K H p ys) ∧ Q (.int ys.length) H) (tCons ta tNil)) σ H (.int (S.length : Int)) := by
  obtain ⟨xs, h1, h2⟩ := h.len
  rw [← h2]
  exact ev_lenL ha h1
theorem ev_lenG {σ : L2.St} {H : Hp} {ta : TE} {p : Addr} {S : List (List Arc)} (ha : Ev ta σ H (.ref p)) (h : ArcLAt H p S) : Ev (tCB (fun xs H Q => ∃ p ys, xs = [V.ref p] ∧ (SqL K H p ys ∨ SqT K H p ys) ∧ Q (.int ys.length) H) (tCons ta tNil)) σ H (.int (S.length : Int)) := by
  obtain ⟨xs, h1, h2⟩ := h.len
  rw [← h2]
  exact ev_lenL ha h1
theorem ev_lenM {α : Type} {σ : L2.St} {H : Hp} {ta : TE} {p : Addr} {f : α → V} {S : List α} (ha : Ev ta σ H (.ref p)) (h : H p = some (.lst (S.map f))) : Ev (tCB (fun xs H Q => ∃ p ys, xs = [V.ref p] ∧ (SqL K H p ys ∨ SqT K H p ys) ∧ Q (.int ys.length) H) (tCons ta tNil)) σ H (.int (S.length : Int)) := by
  have e : (S.map f).length = S.length := List.length_map f
  rw [← e]
  exact ev_lenL ha h
/-- the formula at a place of a sheet -/
theorem ev_xS {σ : L2.St} {H : Hp} {ta tb : TE} {p : Addr} {S : List Fm} {i : Nat} {f : Fm} (h : Ev ta σ H (.ref p)) (h2 : Ev tb σ H (nv i)) (hS : SheetAt H p S) (hi : S[i]? = some f) : ∃ c, Ev (tOp (rIxL K) ta tb) σ H (.ref c) ∧ FmAt H c f := by
  obtain ⟨xs, s1, s2, s3⟩ := hS.get
  obtain ⟨c, hc, hf⟩ := s3 i f hi
  exact ⟨c, ev_xL h h2 s1 (atI_nat hc), hf⟩
theorem ev_xG {σ : L2.St} {H : Hp} {ta tb : TE} {p : Addr} {G : List (List Arc)} {i : Nat} {f : List Arc} (h : Ev ta σ H (.ref p)) (h2 : Ev tb σ H (nv i)) (hS : ArcLAt H p G) (hi : G[i]? = some f) : ∃ c, Ev (tOp (rIxL K) ta tb) σ H (.ref c) ∧ ArcsAt H c f := by
  obtain ⟨xs, s1, s2, s3⟩ := hS.get
  obtain ⟨c, hc, hf⟩ := s3 i f hi
  exact ⟨c, ev_xL h h2 s1 (atI_nat hc), hf⟩
def spConditionsOf : Sp := fun vs H Q _ => ∃ (a : Addr) (S : List Fm), vs = [.ref a] ∧ SheetAt H a S ∧ S.length ≤ 13 ∧ RetL ((conds S).map nv) H Q
theorem sv_conditionsOf {a : Addr} {S : List Fm} {H : Hp} (h : SheetAt H a S) (hl : S.length ≤ 13) : SpL spConditionsOf [.ref a] H ((conds S).map nv) := fun H1 e Q q _ => ⟨a, S, rfl, h.ex e, hl, q⟩
theorem ok_conditionsOf (T : Bt mg) (h : Has K mg "conditions_of" sPConditionsOf) : Cl P w K mg base 1 "conditions_of" spConditionsOf := by
  refine cl_of h scPConditionsOf (fun _ _ _ _ _ _ us hl => match us, hl with | [_], _ => rfl) (fun vs H Q E h => ?_) (fun f cdv A outer s H vs Q E hr h => ?_)
  · obtain ⟨a, S, rfl, _⟩ := h
    rfl
  obtain ⟨a, S, rfl, hS, hl, q⟩ := h
  refine ⟨_, (pss_one (ps_ret (pe_lc (own := [("cell", 1)]) rfl scPConditionsOf.nd (pi_range1 (by rfl) T.b_range (pa_cons (pe_callB (call_lenK (K := K)) (by rfl) T.b_len PySem.boot_len (pa_cons (pv 0) pa_nil)) pa_nil)) (blkOk_by (own := [("cell", 1)]) (N := nPConditionsOf) (sc := defScope sPConditionsOf) (by decide +kernel)) (fun _ _ _ _ _ => (pg_name (i := 1) scPConditionsOf.nd rfl (Or.inl rfl))) (fun _ _ _ _ _ => (pts_one (pt_cmpR op_eq (pe_ix (ix_tupK (K := K)) (pe_ix (ix_listK (K := K)) (pv 0) (pv 1) (fun _ _ => rfl)) pe_int (fun _ _ => rfl)) pe_str (nomark _)))) (fun _ _ _ _ _ => (pv 1))))), ?_⟩
  refine s_retL (el_lcR (n := S.length) (fun i => (fAt S i).isW) nv (ea_cons (ev_lenS (ev_var rfl) hS) ea_nil) (by omega) (fun _ => rfl) (fun i H1 e1 hi => ?_) fun i H1 e1 hi _ => ev_var rfl) q
  obtain ⟨c, h1, h2⟩ := ev_xS (K := K) (ta := tVar 0) (tb := tVar 1) (σ := (wipe (L2.start nPConditionsOf [V.ref a]) [1]).set 1 (some (nv i))) (ev_var rfl) (ev_var rfl) (hS.ex e1) (fAt_get hi)
  exact et_test (ev_wW (ev_k0 h1 h2))
/-! ### opened -/
def spOpened : Sp := fun vs H Q _ => ∃ (a p : Addr) (S : List Fm) (pl : List Nat), vs = [.ref a, .ref p] ∧ SheetAt H a S ∧ H p = some (.lst (pl.map nv)) ∧ S.length ≤ 13 ∧ ∀ r H2, H r = none → Ex H H2 → SheetAt H2 r (opn S pl) → Q (.ref r) H2
theorem ok_opened (T : Bt mg) (h : Has K mg "opened" sPOpened) : Cl P w K mg base 1 "opened" spOpened := by
  refine cl_of h scPOpened (fun _ _ _ _ _ _ us hl => match us, hl with | [_, _], _ => rfl) (fun vs H Q E h => ?_) (fun f cdv A outer s H vs Q E hr h => ?_)
  · obtain ⟨a, p, S, pl, rfl, _⟩ := h
    rfl
  obtain ⟨a, p, S, pl, rfl, hS, hp, hlen, q⟩ := h
  obtain ⟨xs, s1, s2, s3⟩ := hS.get
  refine ⟨_, (pss_cons (ps_set (i := 2) scPOpened.nd rfl (Or.inl rfl) (pe_lst pa_nil))
      (pss_cons (ps_for PassesOwn.never rfl (pi_enum (by rfl) T.b_enumerate (pa_cons (pv 0) pa_nil)) (pg_tupK (K := K) (n := 2) rfl (pgs_cons (pg_name (i := 3) scPOpened.nd rfl (Or.inl rfl)) (pgs_cons (pg_name (i := 4) scPOpened.nd rfl (Or.inl rfl)) pgs_nil))) (pss_one (ps_if (pt_cmpR op_ne (pe_ix (ix_tupK (K := K)) (pv 4) pe_int (fun _ _ => rfl)) pe_str (nomark _)) (pss_one (ps_expr (pe_bm PySem.F.plainAttrs_list PySem.F.slot_list_append PySem.F.type_list_append mt_append (pv 2) (pa_cons (pe_ifExp (pt_cmpR op_eq (pe_ix (ix_tupK (K := K)) (pv 4) pe_int (fun _ _ => rfl)) pe_str (nomark _)) (pv 4) (pe_tup (pa_cons (pe_ix (ix_tupK (K := K)) (pv 4) pe_int (fun _ _ => rfl)) (pa_cons (pe_callTy call_list_of (by rfl) T.b_list (by decide +kernel) (pa_cons (pe_ix (ix_tupK (K := K)) (pv 4) pe_int (fun _ _ => rfl)) pa_nil)) pa_nil)))) pa_nil)))) (pss_one (ps_if (pt_cmpR (op_inK (K := K)) (pv 3) (pv 1) (by rfl)) (pss_one (ps_expr (pe_bm PySem.F.plainAttrs_list PySem.F.slot_list_append PySem.F.type_list_append mt_append (pv 2) (pa_cons (pe_tup (pa_cons pe_str (pa_cons (pe_lst (pa_cons (pe_tup (pa_cons (pe_ix (ix_tupK (K := K)) (pv 4) pe_int (fun _ _ => rfl)) (pa_cons pe_int pa_nil))) pa_nil)) pa_nil))) pa_nil)))) (pss_one (ps_expr (pe_bm PySem.F.plainAttrs_list PySem.F.slot_list_append PySem.F.type_list_append mt_append (pv 2) (pa_cons (pe_tup (pa_cons pe_str (pa_cons pe_int pa_nil))) pa_nil)))))))))
      (pss_one (ps_ret (pv 2))))), ?_⟩
  refine q_asgL (el_lst ea_nil (Nat.zero_le _)) fun r H1 hr e1 h1 => ?_
  refine q_forE2 (ea_cons (ev_var rfl) ea_nil) (sq_of (e1 a _ s1)) (fun n σ' H' => Ex H H' ∧ (∃ ads : List Addr, H' r = some (.lst (ads.map V.ref)) ∧ Paired (FmAt (hd H' r)) ads ((opn S pl).take n)) ∧ ∃ y z, σ' = [some (.ref a), some (.ref p), some (.ref r), y, z]) (fun H2 e2 => ⟨e1.trans e2, ⟨[], e2 r _ h1, by rw [List.take_zero]; exact .nil⟩, _, _, rfl⟩) (fun n σ' H' q => sq_of (q.1 a _ s1)) (fun n x σ' H' hx Pn H2 e2 => ?_) fun σ' H' Pn => ?_
  · obtain ⟨e, ⟨ads, a1, a2⟩, y, z, rfl⟩ := Pn
    have hn : n < S.length := by
      have := (List.getElem?_eq_some_iff.mp hx).1
      omega
    have hg := fAt_get hn
    obtain ⟨c, hc, hf⟩ := s3 n _ hg
    have ec : x = .ref c := Option.some.inj (hx.symm.trans hc)
    subst ec
    have eo := opn_get (pl := pl) hg
    have eH2 := e.trans e2
    have f2 := hf.ex eH2
    have r2 := e2 r _ a1
    have p2 := eH2 p _ hp
    have fh : FmAt (hd H2 r) c (fAt S n) := hf.ex (hd_of hr eH2)
    have a3 : Paired (FmAt (hd H2 r)) ads ((opn S pl).take n) := pm a2 fun _ _ z => z.ex (hd_ex e2)
    have alen : (ads.map V.ref).length < 100000 := by
      rw [List.length_map, paired_len a3, List.length_take]
      have := opn_len S pl
      omega
    -- behind an append of b, which stands for the n-th formula of the opened sheet
    have app : ∀ v (H3 : Hp), Ex H2 H3 → (∃ b, v = .ref b ∧ FmAt (hd H3 r) b (opnAt pl n (fAt S n))) → (Ex H (upd H3 r (.lst (ads.map V.ref ++ [v]))) ∧ (∃ ads' : List Addr, (upd H3 r (.lst (ads.map V.ref ++ [v]))) r = some (.lst (ads'.map V.ref)) ∧ Paired (FmAt (hd (upd H3 r (.lst (ads.map V.ref ++ [v]))) r)) ads' ((opn S pl).take (n + 1))) ∧ ∃ y z, [some (V.ref a), some (.ref p), some (.ref r), some (.int (n : Int)), some (.ref c)] = [some (V.ref a), some (.ref p), some (.ref r), y, z]) := by
      rintro v H3 e3 ⟨b, rfl, hb⟩
      refine ⟨Ex.mut (eH2.trans e3) hr, ⟨ads ++ [b], ?_, ?_⟩, _, _, rfl⟩
      · rw [upd_same, List.map_append]
        rfl
      · rw [hd_upd, List.take_add_one, eo]
        exact paired_snoc (pm a3 fun _ _ z => z.ex (hd_ex e3)) hb
    refine s_if (et_test (ev_nW (ev_k0 (ev_var rfl) f2))) (fun hw H3 e3 => ?_) fun hw H3 e3 => ?_
    · -- formula if formula[0] == "amount" else (formula[0], list(formula[1]))
      have eN : opnAt pl n (fAt S n) = fAt S n := by
        cases q : fAt S n with
        | when _ _ _ =>
          rw [q] at hw
          cases hw
        | _ => rfl
      have fh3 := fh.ex (hd_ex (r := r) e3)
      have f3 := f2.ex e3
      refine s_appD (e3 r _ r2) (ev_var rfl) (R := fun v H => ∃ b, v = .ref b ∧ FmAt H b (opnAt pl n (fAt S n))) ?_ alen fun v H4 e4 z => app v H4 (e3.trans e4) z
      rw [eN]
      cases hq : fAt S n with
      | amt x =>
        rw [hq] at f3 fh3
        exact ed_ifT (et_test (ev_wA (ev_k0 (ev_var rfl) f3))) (ed_evR (ev_var rfl) mono_fm ⟨c, rfl, fh3⟩)
      | when _ _ _ =>
        rw [hq] at hw
        cases hw
      | least arcs =>
        rw [hq] at f3 fh3
        obtain ⟨l, l1, ads2, l2, l3⟩ := f3
        obtain ⟨l', l1', ads3, l2', l3'⟩ := fh3
        have el : l = l' := by
          have q1 := hd_sub _ _ l1'
          rw [l1] at q1
          cases q1
          rfl
        subst el
        have ea : ads2 = ads3 := by
          have q1 := hd_sub _ _ l2'
          rw [l2] at q1
          have q2 := HO.lst.inj (Option.some.inj q1)
          exact refs_inj q2
        subst ea
        refine ed_ifF (et_test (ev_wA (ev_k0 (f := .least arcs) (ev_var rfl) ⟨l, l1, ads2, l2, l3⟩))) (EvD.imp (ed_tup2 (e3 r _ r2) (ed_ev (ev_k0 (f := .least arcs) (ev_var rfl) ⟨l, l1, ads2, l2, l3⟩)) (ed_evL (e3 r _ r2) (el_listOf (ev_xT (ev_var rfl) ev_c l1 at1) l2)) mono_eq mono_lst) fun v H4 e4 z => ?_)
        obtain ⟨b, x, y, rfl, hb, rfl, b2, rfl, hb2⟩ := z
        exact ⟨b, rfl, b2, hb, ads2, hb2, pm l3' fun _ _ z => hd_ex e4 _ _ z⟩
      | great arcs =>
        rw [hq] at f3 fh3
        obtain ⟨l, l1, ads2, l2, l3⟩ := f3
        obtain ⟨l', l1', ads3, l2', l3'⟩ := fh3
        have el : l = l' := by
          have q1 := hd_sub _ _ l1'
          rw [l1] at q1
          cases q1
          rfl
        subst el
        have ea : ads2 = ads3 := by
          have q1 := hd_sub _ _ l2'
          rw [l2] at q1
          have q2 := HO.lst.inj (Option.some.inj q1)
          exact refs_inj q2
        subst ea
        refine ed_ifF (et_test (ev_wA (ev_k0 (f := .great arcs) (ev_var rfl) ⟨l, l1, ads2, l2, l3⟩))) (EvD.imp (ed_tup2 (e3 r _ r2) (ed_ev (ev_k0 (f := .great arcs) (ev_var rfl) ⟨l, l1, ads2, l2, l3⟩)) (ed_evL (e3 r _ r2) (el_listOf (ev_xT (ev_var rfl) ev_c l1 at1) l2)) mono_eq mono_lst) fun v H4 e4 z => ?_)
        obtain ⟨b, x, y, rfl, hb, rfl, b2, rfl, hb2⟩ := z
        exact ⟨b, rfl, b2, hb, ads2, hb2, pm l3' fun _ _ z => hd_ex e4 _ _ z⟩
    · cases hq : fAt S n with
      | when j b k =>
        rw [hq] at f2
        have f3 := f2.ex e3
        refine s_if (et_test (ev_inN (ev_var rfl) (ev_var rfl) (e3 p _ p2))) (fun hc4 H4 e4 => ?_) fun hc4 H4 e4 => ?_
        · have eO : opnAt pl n (fAt S n) = .great [(k, 0)] := by
            rw [hq]
            exact if_pos hc4
          refine s_appD ((e3.trans e4) r _ r2) (ev_var rfl) (R := fun v H => ∃ b, v = .ref b ∧ FmAt H b (opnAt pl n (fAt S n))) ?_ alen fun v H5 e5 z => app v H5 ((e3.trans e4).trans e5) z
          rw [eO]
          refine EvD.imp (ed_tup2 ((e3.trans e4) r _ r2) (ed_ev ev_c) (ed_lst1 ((e3.trans e4) r _ r2) (ed_evU ((e3.trans e4) r _ r2) (eu_tup (ea_cons (ev_xT (ev_var rfl) ev_c (e4 _ _ f3) at3) (ea_cons ev_c ea_nil)) (by show 2 ≤ 100000; decide))) mono_tup) mono_eq fun v H H' e ⟨p, x, h1, h2, h3⟩ => ⟨p, x, h1, e _ _ h2, mono_tup _ _ _ e h3⟩) fun v H5 e5 z => ?_
          obtain ⟨b, x, y, rfl, hb, rfl, b2, y2, rfl, hb2, b3, rfl, hb3⟩ := z
          exact ⟨b, rfl, b2, hb, [b3], hb2, .cons hb3 .nil⟩
        · have eO : opnAt pl n (fAt S n) = .amt (some 0) := by
            rw [hq]
            exact if_neg (by rw [hc4]; exact Bool.false_ne_true)
          refine s_appD ((e3.trans e4) r _ r2) (ev_var rfl) (R := fun v H => ∃ b, v = .ref b ∧ FmAt H b (opnAt pl n (fAt S n))) ?_ alen fun v H5 e5 z => app v H5 ((e3.trans e4).trans e5) z
          rw [eO]
          exact EvD.imp (ed_evU ((e3.trans e4) r _ r2) (eu_tup (ea_cons ev_c (ea_cons ev_c ea_nil)) (by show 2 ≤ 100000; decide))) fun v H5 e5 z => z
      | _ =>
        rw [hq] at hw
        cases hw
  · obtain ⟨e, ⟨ads, a1, a2⟩, y, z, rfl⟩ := Pn
    refine s_ret (ev_var rfl) fun H2 e2 => q r H2 hr (e.trans e2) ⟨ads, e2 r _ a1, ?_⟩
    rw [s2, ← opn_len S pl, List.take_of_length_le (Nat.le_refl _)] at a2
    exact pm a2 fun _ _ z => z.ex ((hd_sub).trans e2)
end Cs
set_option Elab.async false
set_option linter.all false
set_option maxRecDepth 100000
set_option maxHeartbeats 4000000
/-! D: endless.py: told_arcs, nought_cell, rounds_down, are_choices, shows_endless -/
namespace Cs
open PySem PySem.Spec PyProof.Rows L2 Evl
variable {P : Program} {w : World} {K : PySem.W.Frag} {mg : Str → Option Value} {base : Heap}
theorem tup_hd {H : Hp} {r a : Addr} {xs ys : List V} (hr : H r = some (.lst xs)) (h : H a = some (.tup ys)) : hd H r a = some (.tup ys) := by
  rw [hd_at (ne_of h hr (by intro z; cases z))]
  exact h
theorem arcs_hd {H : Hp} {r l : Addr} {arcs : List Arc} {xs : List V} (hr : H r = some (.lst xs)) (h : ArcsAt H l arcs) (n : l ≠ r) : ArcsAt (hd H r) l arcs := by
  obtain ⟨ads, h1, h2⟩ := h
  exact ⟨ads, by rw [hd_at n]; exact h1, pm h2 fun _ _ z => tup_hd hr z⟩
section
variable {σ : L2.St} {H : Hp} {te : TE} {r : Addr} {D : Ends} {tz : TS} {R : V → Hp → Prop} {i : Nat}
theorem s_asgD (h : EvD te σ H r R) (k : ∀ v H1, Ex H H1 → R v (hd H1 r) → D.nx (σ.set i (some v)) H1) : tAsg te (gName i) D σ H := h H (Ex.refl H) _ fun v H1 e z => k v H1 e z
theorem q_asgD (h : EvD te σ H r R) (k : ∀ v H1, Ex H H1 → R v (hd H1 r) → tz D (σ.set i (some v)) H1) : tSeq (tAsg te (gName i)) tz D σ H := s_asgD (D := { D with nx := tz D }) h k
end
/-- arcs_of, called while a list is filled at r -/
theorem ed_arcsOf {σ : L2.St} {H : Hp} {r : Addr} {xs : List V} {ta : TA} {a : Addr} {S : List Fm} {n : Nat} {f : Fm} (hr : H r = some (.lst xs)) (ha : EvA ta σ H [.ref a, nv n]) (hS : SheetAt H a S) (hn : S[n]? = some f) (hw : f.isW = false) (ok : FmOk S.length f) :
    EvD (tCall spArcsOf [] L2.E0 ta) σ H r (fun v H' => ∃ l, v = .ref l ∧ ArcsAt H' l (arcsOf f)) := fun H1 e Q q => ha H1 e _ fun H2 e2 =>
  ⟨a, S, n, f, rfl, hS.ex (e.trans e2), hn, hw, ok, fun l H3 hl e3 hL => q _ H3 (e2.trans e3) ⟨l, rfl, arcs_hd (((e.trans e2).trans e3) r _ hr) hL (hd_ne ((e.trans e2) r _ hr) hl)⟩⟩
theorem ev_wGv {σ : L2.St} {H : Hp} {ta tb : TE} {f : Fm} (h : Ev ta σ H (.str (Str.ofString f.kind))) (h2 : Ev tb σ H (.str (Str.ofString "greatest"))) : Ev (tOp rEq ta tb) σ H (.bl f.isG) := ev_is (ev_eq h h2 rfl) (congrArg V.bl (kG f))
/-! ### told_arcs -/
def spToldArcs : Sp := fun vs H Q _ => ∃ (a p : Addr) (S : List Fm) (ch : Ch), vs = [.ref a, .ref p, .str (Str.ofString "greatest")] ∧ SheetAt H a S ∧ H p = some (.lst (ch.map cv)) ∧ Wf S ∧ Plain S ∧ ChOk S ch ∧ ∀ r H2, H r = none → Ex H H2 → ArcLAt H2 r (told S ch) → Q (.ref r) H2
theorem ok_toldArcs (T : Bt mg) (h : Has K mg "told_arcs" sPToldArcs) (cPArcsOf : Cl P w K mg base 1 "arcs_of" spArcsOf) : Cl P w K mg base 2 "told_arcs" spToldArcs := by
  refine cl_of h scPToldArcs (fun _ _ _ _ _ _ us hl => match us, hl with | [_, _, _], _ => rfl) (fun vs H Q E h => ?_) (fun f cdv A outer s H vs Q E hr h => ?_)
  · obtain ⟨a, p, S, ch, rfl, _⟩ := h
    rfl
  obtain ⟨a, p, S, ch, rfl, hS, hp, ok, pl, hch, q⟩ := h
  refine ⟨_, (pss_cons (ps_set (i := 3) scPToldArcs.nd rfl (Or.inl rfl) (pe_lst pa_nil))
      (pss_cons (ps_for PassesOwn.never rfl (pi_range1 (by rfl) T.b_range (pa_cons (pe_callB (call_lenK (K := K)) (by rfl) T.b_len PySem.boot_len (pa_cons (pv 0) pa_nil)) pa_nil)) (pg_name (i := 4) scPToldArcs.nd rfl (Or.inl rfl)) (pss_cons (ps_set (i := 5) scPToldArcs.nd rfl (Or.inl rfl) (pe_k cPArcsOf (hr.mono (by decide)) (by rfl) (pa_cons (pv 0) (pa_cons (pv 4) pa_nil))))
      (pss_one (ps_expr (pe_bm PySem.F.plainAttrs_list PySem.F.slot_list_append PySem.F.type_list_append mt_append (pv 3) (pa_cons (pe_ifExp (pt_cmpR op_eq (pe_ix (ix_tupK (K := K)) (pe_ix (ix_listK (K := K)) (pv 0) (pv 4) (fun _ _ => rfl)) pe_int (fun _ _ => rfl)) (pv 2) (nomark _)) (pe_lst (pa_cons (pe_ix (ix_listK (K := K)) (pv 5) (pe_ix (ix_listK (K := K)) (pv 1) (pv 4) (fun _ _ => rfl)) (fun _ _ => rfl)) pa_nil)) (pv 5)) pa_nil))))))
      (pss_one (ps_ret (pv 3))))), ?_⟩
  refine q_asgL (el_lst ea_nil (Nat.zero_le _)) fun r H1 hr e1 h1 => ?_
  refine q_forR1 (n := (S.length : Int)) (ea_cons (ev_lenS (ev_var rfl) (hS.ex e1)) ea_nil) (by have := ok.len; omega) (fun n σ' H' => Ex H H' ∧ (∃ ads : List Addr, H' r = some (.lst (ads.map V.ref)) ∧ Paired (ArcsAt (hd H' r)) ads ((told S ch).take n)) ∧ ∃ y z, σ' = [some (.ref a), some (.ref p), some (.str (Str.ofString "greatest")), some (.ref r), y, z]) (fun H2 e2 => ⟨e1.trans e2, ⟨[], e2 r _ h1, by rw [List.take_zero]; exact .nil⟩, _, _, rfl⟩) (fun n σ' H' hi Pn => ?_) fun σ' H' Pn => ?_
  · obtain ⟨e, ⟨ads, a1, a2⟩, y, z, rfl⟩ := Pn
    have hn : n < S.length := by omega
    have hg := fAt_get hn
    have et := told_get (ch := ch) hg
    have hc := hch.at_ n _ hg
    have okf := ok.ok n _ hg
    have alen : (ads.map V.ref).length < 100000 := by
      rw [List.length_map, paired_len a2, List.length_take]
      have := told_len S ch
      have := ok.len
      omega
    refine q_asgD (ed_arcsOf a1 (ea_cons (ev_var rfl) (ea_cons (ev_var rfl) ea_nil)) (hS.ex e) hg (pl n _ hg) okf) fun v H2 e2 z => ?_
    obtain ⟨l, rfl, hl⟩ := z
    have eH2 := e.trans e2
    have hl2 := hl.ex (hd_sub)
    have a3 : Paired (ArcsAt (hd H2 r)) ads ((told S ch).take n) := pm a2 fun _ _ z => z.ex (hd_ex e2)
    -- behind an append of b
    have app : ∀ v (H3 : Hp), Ex H2 H3 → (∃ b, v = .ref b ∧ ArcsAt (hd H3 r) b (toldAt ch n (fAt S n))) → (Ex H (upd H3 r (.lst (ads.map V.ref ++ [v]))) ∧ (∃ ads' : List Addr, (upd H3 r (.lst (ads.map V.ref ++ [v]))) r = some (.lst (ads'.map V.ref)) ∧ Paired (ArcsAt (hd (upd H3 r (.lst (ads.map V.ref ++ [v]))) r)) ads' ((told S ch).take (n + 1))) ∧ ∃ y z, [some (V.ref a), some (.ref p), some (.str (Str.ofString "greatest")), some (.ref r), some (.int (n : Int)), some (.ref l)] = [some (V.ref a), some (.ref p), some (.str (Str.ofString "greatest")), some (.ref r), y, z]) := by
      rintro v H3 e3 ⟨b, rfl, hb⟩
      refine ⟨Ex.mut (eH2.trans e3) hr, ⟨ads ++ [b], ?_, ?_⟩, _, _, rfl⟩
      · rw [upd_same, List.map_append]
        rfl
      · rw [hd_upd, List.take_add_one, et]
        exact paired_snoc (pm a3 fun _ _ z => z.ex (hd_ex e3)) hb
    obtain ⟨c, hc1, hc2⟩ := ev_xS (K := K) (ta := tVar 0) (tb := tVar 4) (σ := [some (V.ref a), some (.ref p), some (.str (Str.ofString "greatest")), some (.ref r), some (.int (n : Int)), some (.ref l)]) (ev_var rfl) (ev_var rfl) (hS.ex eH2) hg
    refine s_appD (e2 r _ a1) (ev_var rfl) (R := fun v H => ∃ b, v = .ref b ∧ ArcsAt H b (toldAt ch n (fAt S n))) ?_ alen fun v H3 e3 z => app v H3 e3 z
    cases hq : fAt S n with
    | great arcs =>
      rw [hq] at hc hl hl2 hc2 okf
      obtain ⟨k, hk, hk2⟩ := hc
      obtain ⟨ads2, l1, l2⟩ := hl2
      obtain ⟨b, hb, hb2⟩ := paired_get l2 (List.getElem?_eq_getElem hk2)
      have hb3 := tup_hd (e2 r _ a1) hb2
      have hx : Ev (tOp (rIxL K) (tVar 5) (tOp (rIxL K) (tVar 1) (tVar 4))) [some (V.ref a), some (.ref p), some (.str (Str.ofString "greatest")), some (.ref r), some (.int (n : Int)), some (.ref l)] H2 (.ref b) :=
        ev_xL (ev_var rfl) (ev_is (ev_xL (ev_var rfl) (ev_var rfl) (eH2 p _ hp) (at_cv (by rw [hch.len]; exact hn))) (by rw [hk]; rfl)) l1 (atI_nat (mapGet hb))
      refine ed_ifT (et_test (ev_wGv (f := .great arcs) (ev_k0 hc1 hc2) (ev_var rfl))) (EvD.imp (ed_lst1 (e2 r _ a1) (ed_evR hx mono_tup ⟨b, rfl, hb3⟩) mono_tup) fun v H4 e4 z => ?_)
      obtain ⟨b4, x, rfl, h4, b5, rfl, h5⟩ := z
      refine ⟨b4, rfl, [b5], h4, .cons ?_ .nil⟩
      have e1 : arcs.getD ((gC ch n).getD 0) (0, 0) = arcs[k] := by
        rw [hk]
        show arcs.getD k (0, 0) = _
        rw [List.getD_eq_getElem?_getD, List.getElem?_eq_getElem hk2]
        rfl
      rw [e1]
      exact h5
    | amt x =>
      rw [hq] at hc2 hl
      exact ed_ifF (et_test (ev_wGv (f := .amt x) (ev_k0 hc1 hc2) (ev_var rfl))) (ed_evR (ev_var rfl) mono_arcs ⟨l, rfl, hl⟩)
    | least arcs =>
      rw [hq] at hc2 hl
      exact ed_ifF (et_test (ev_wGv (f := .least arcs) (ev_k0 hc1 hc2) (ev_var rfl))) (ed_evR (ev_var rfl) mono_arcs ⟨l, rfl, hl⟩)
    | when j b k =>
      rw [hq] at hc2 hl
      exact ed_ifF (et_test (ev_wGv (f := .when j b k) (ev_k0 hc1 hc2) (ev_var rfl))) (ed_evR (ev_var rfl) mono_arcs ⟨l, rfl, hl⟩)
  · obtain ⟨e, ⟨ads, a1, a2⟩, y, z, rfl⟩ := Pn
    refine s_ret (ev_var rfl) fun H2 e2 => q r H2 hr (e.trans e2) ⟨ads, e2 r _ a1, ?_⟩
    rw [Int.toNat_natCast, ← told_len S ch, List.take_of_length_le (Nat.le_refl _)] at a2
    exact pm a2 fun _ _ z => z.ex ((hd_sub).trans e2)
/-! ### nought_cell -/
theorem q_forE {σ : L2.St} {H : Hp} {D : Ends} {tu tz : TS} {ta : TA} {g : TG} {l : Addr} {xs : List V} (h : EvA ta σ H [.ref l]) (hb : SqL K H l xs) (Pv : Nat → L2.St → Hp → Prop) (h0 : ∀ H1, Ex H H1 → Pv 0 σ H1) (hl : ∀ n σ' H', Pv n σ' H' → SqL K H' l xs)
    (hs : ∀ n x σ' H', xs[n]? = some x → Pv n σ' H' → ∀ T H2, Ex H' H2 → H2 T = some (.tup [.int (n : Int), x]) → g (.ref T) σ' H2 fun σ2 H3 => tu { D with nx := Pv (n + 1), ct := Pv (n + 1), bk := tz D } σ2 H3) (hd : ∀ σ' H', Pv xs.length σ' H' → tz D σ' H') :
    tSeq (tFor (iEnum K ta) g tu) tz D σ H := s_forE (D := { D with nx := tz D }) h hb Pv h0 hl hs hd
def spNoughtCell : Sp := fun vs H Q _ => ∃ (a : Addr) (cyc : List Arc), vs = [.ref a] ∧ ArcsAt H a cyc ∧ cyc ≠ [] ∧ RetV (nv (nought cyc)) H Q
theorem sv_noughtCell {a : Addr} {cyc : List Arc} {H : Hp} (h : ArcsAt H a cyc) (hn : cyc ≠ []) : SpV spNoughtCell [.ref a] H (nv (nought cyc)) := fun H1 e Q q _ => ⟨a, cyc, rfl, h.ex e, hn, q⟩
/-- the first part of the pair at a place -/
theorem ev_xP0 {σ : L2.St} {H : Hp} {ta tb : TE} {p : Addr} {G : List Arc} {i : Nat} {q : Arc} (h : Ev ta σ H (.ref p)) (h2 : Ev tb σ H (nv i)) (hS : ArcsAt H p G) (hi : G[i]? = some q) : Ev (tOp (rIxT K) (tOp (rIxL K) ta tb) (tC (.int 0))) σ H (nv q.1) := by
  obtain ⟨ads, a1, a2⟩ := hS
  obtain ⟨b, hb, hb2⟩ := paired_get a2 hi
  exact ev_xT (ev_xL h h2 a1 (atI_nat (mapGet hb))) ev_c hb2 at0
theorem ok_noughtCell (T : Bt mg) (h : Has K mg "nought_cell" sPNoughtCell) : Cl P w K mg base 1 "nought_cell" spNoughtCell := by
  refine cl_of h scPNoughtCell (fun _ _ _ _ _ _ us hl => match us, hl with | [_], _ => rfl) (fun vs H Q E h => ?_) (fun f cdv A outer s H vs Q E hr h => ?_)
  · obtain ⟨a, cyc, rfl, _⟩ := h
    rfl
  obtain ⟨a, cyc, rfl, hA, hne, q⟩ := h
  have hpos : 0 < cyc.length := List.length_pos_iff.mpr hne
  obtain ⟨ads, a1, a2⟩ := id hA
  have hlen : (ads.map V.ref).length = cyc.length := by rw [List.length_map, paired_len a2]
  have gD : ∀ i, i < cyc.length → cyc[i]? = some (cyc.getD i (0, 0)) := fun i hi => by
    rw [List.getD_eq_getElem?_getD, List.getElem?_eq_getElem hi]
    rfl
  refine ⟨_, (pss_cons (ps_set (i := 1) scPNoughtCell.nd rfl (Or.inl rfl) pe_int)
      (pss_cons (ps_set (i := 2) scPNoughtCell.nd rfl (Or.inl rfl) pe_int)
      (pss_cons (ps_set (i := 3) scPNoughtCell.nd rfl (Or.inl rfl) (pe_ix (ix_tupK (K := K)) (pe_ix (ix_listK (K := K)) (pv 0) pe_int (fun _ _ => rfl)) pe_int (fun _ _ => rfl)))
      (pss_cons (ps_for PassesOwn.never rfl (pi_enum (by rfl) T.b_enumerate (pa_cons (pv 0) pa_nil)) (pg_tupK (K := K) (n := 2) rfl (pgs_cons (pg_name (i := 4) scPNoughtCell.nd rfl (Or.inl rfl)) (pgs_cons (pg_tupK (K := K) (n := 2) rfl (pgs_cons (pg_name (i := 5) scPNoughtCell.nd rfl (Or.inl rfl)) (pgs_cons (pg_name (i := 6) scPNoughtCell.nd rfl (Or.inl rfl)) pgs_nil))) pgs_nil))) (pss_cons (ps_aug (i := 1) scPNoughtCell.nd rfl (Or.inl rfl) (pv 6) ip_add)
      (pss_one (ps_if (pt_cmpR op_gt (pv 1) (pv 2) (nomark _)) (pss_cons (ps_set (i := 2) scPNoughtCell.nd rfl (Or.inl rfl) (pv 1))
      (pss_one (ps_set (i := 3) scPNoughtCell.nd rfl (Or.inl rfl) (pe_ix (ix_tupK (K := K)) (pe_ix (ix_listK (K := K)) (pv 0) (pe_op op_modN (pe_op op_add (pv 4) pe_int) (pe_callB (call_lenK (K := K)) (by rfl) T.b_len PySem.boot_len (pa_cons (pv 0) pa_nil))) (fun _ _ => rfl)) pe_int (fun _ _ => rfl))))) pss_nil))))
      (pss_one (ps_ret (pv 3))))))), ?_⟩
  refine q_asg ev_c fun H1 e1 => q_asg ev_c fun H2 e2 => ?_
  have e12 := e1.trans e2
  refine q_asg (ev_xP0 (i := 0) (ev_var rfl) ev_c (hA.ex e12) (gD 0 hpos)) fun H3 e3 => ?_
  have e13 := e12.trans e3
  refine q_forE (ea_cons (ev_var rfl) ea_nil) (sq_of (e13 a _ a1)) (fun n σ' H' => Ex H H' ∧ ∃ y z u, σ' = [some (.ref a), some (.int (ncRun cyc n).1), some (.int (ncRun cyc n).2.1), some (nv (ncRun cyc n).2.2), y, z, u]) (fun H4 e4 => ⟨e13.trans e4, _, _, _, rfl⟩) (fun n σ' H' q => sq_of (q.1 a _ a1)) (fun n x σ' H' hx Pn Tt H4 e4 hT => ?_) fun σ' H' Pn => ?_
  · obtain ⟨e, y, z, u, rfl⟩ := Pn
    have hn : n < cyc.length := by
      have := (List.getElem?_eq_some_iff.mp hx).1
      omega
    obtain ⟨b, hb, rfl⟩ := getMap hx
    obtain ⟨p, hp, hb2⟩ := paired_get2 a2 hb
    have ep : cyc.getD n (0, 0) = p := Option.some.inj ((gD n hn).symm.trans hp)
    have eH := e.trans e4
    have es := ncRun_succ cyc n
    refine ⟨Tt, _, rfl, st_of hT, rfl, _, _, rfl, _, _, rfl, ⟨b, arcV p, rfl, st_of (eH b _ hb2), rfl, _, _, rfl, _, _, rfl, rfl, rfl, ?_⟩⟩
    refine q_aug (f := fun i j => i + j) (a := (ncRun cyc n).1) rfl (ev_var rfl) fun H5 e5 => ?_
    refine s_when (et_test (ev_gt (ev_var rfl) (ev_var rfl))) (fun hb H6 e6 => ?_) fun hb H6 e6 => ?_
    · have hgt : (ncRun cyc n).1 + (cyc.getD n (0, 0)).2 > (ncRun cyc n).2.1 := by
        rw [ep]
        exact of_decide_eq_true hb
      refine q_asg (ev_var rfl) fun H7 e7 => ?_
      have eH7 := ((eH.trans e5).trans e6).trans e7
      have hm : (n + 1) % cyc.length < cyc.length := Nat.mod_lt _ hpos
      have hmod : Ev (tOp (rI (fun _ j => j ≠ 0) fun i j => V.int (i.fmod j)) (tOp (rI0 fun i j => V.int (i + j)) (tVar 4) (tC (V.int 1))) (tCB (fun xs H Q => ∃ p ys, xs = [V.ref p] ∧ (SqL K H p ys ∨ SqT K H p ys) ∧ Q (V.int ys.length) H) (tCons (tVar 0) tNil))) [some (V.ref a), some (V.int ((ncRun cyc n).1 + p.2)), some (V.int ((ncRun cyc n).1 + p.2)), some (nv (ncRun cyc n).2.2), some (V.int (n : Int)), some (V.int (p.1 : Int)), some (V.int p.2)] H7 (nv ((n + 1) % cyc.length)) :=
        ev_is (ev_op (ev_add (ev_var rfl) ev_c) (ev_lenA (ev_var rfl) (hA.ex eH7)) (rv_I (by omega))) (by
          show V.int (((n : Int) + 1).fmod (cyc.length : Int)) = nv ((n + 1) % cyc.length)
          rw [Int.fmod_eq_emod_of_nonneg _ (by omega)]
          rfl)
      refine s_asg (ev_xP0 (ev_var rfl) hmod (hA.ex eH7) (gD _ hm)) fun H8 e8 => ⟨eH7.trans e8, some (.int (n : Int)), some (.int (p.1 : Int)), some (.int p.2), ?_⟩
      rw [es]
      unfold ncStep
      rw [if_pos hgt, ep]
      rfl
    · have hgt : ¬ (ncRun cyc n).1 + (cyc.getD n (0, 0)).2 > (ncRun cyc n).2.1 := by
        rw [ep]
        exact of_decide_eq_false hb
      refine ⟨(eH.trans e5).trans e6, some (.int (n : Int)), some (.int (p.1 : Int)), some (.int p.2), ?_⟩
      rw [es]
      unfold ncStep
      rw [if_neg hgt, ep]
      rfl
  · obtain ⟨e, y, z, u, rfl⟩ := Pn
    refine s_ret (ev_var rfl) fun H2 e2 => ?_
    rw [hlen]
    exact q H2 (e.trans e2)
end Cs
set_option Elab.async false
set_option linter.all false
set_option maxRecDepth 100000
set_option maxHeartbeats 4000000
/-! E: endless.py: rounds_down, are_choices, shows_endless -/
namespace Cs
open PySem PySem.Spec PyProof.Rows L2 Evl
variable {P : Program} {w : World} {K : PySem.W.Frag} {mg : Str → Option Value} {base : Heap}
/-! ### rounds_down -/
def spRoundsDown : Sp := fun vs H Q _ => ∃ (a g z : Addr) (S : List Fm) (G : List (List Arc)) (nz : List Nat), vs = [.ref a, .ref g, .ref z] ∧ SheetAt H a S ∧ ArcLAt H g G ∧ H z = some (.lst (nz.map nv)) ∧ Wf S ∧ Plain S ∧ GOk S.length G ∧ RetL ((rdown S G nz).map av) H Q
theorem sv_roundsDown {a g z : Addr} {S : List Fm} {G : List (List Arc)} {nz : List Nat} {H : Hp} (hS : SheetAt H a S) (hG : ArcLAt H g G) (hz : H z = some (.lst (nz.map nv))) (ok : Wf S) (pl : Plain S) (gok : GOk S.length G) : SpL spRoundsDown [.ref a, .ref g, .ref z] H ((rdown S G nz).map av) :=
  fun H1 e Q q _ => ⟨a, g, z, S, G, nz, rfl, hS.ex e, hG.ex e, e z _ hz, ok, pl, gok, q⟩
theorem set_av (x : List Amt) (i : Nat) (a : Amt) : (x.map av).set i (av a) = (x.set i a).map av := List.map_set.symm
theorem ok_roundsDown (T : Bt mg) (h : Has K mg "rounds_down" sPRoundsDown) (cPAtMost : Cl P w K mg base 1 "at_most" spAtMost) (cPShifted : Cl P w K mg base 1 "shifted" spShifted) : Cl P w K mg base 2 "rounds_down" spRoundsDown := by
  refine cl_of h scPRoundsDown (fun _ _ _ _ _ _ us hl => match us, hl with | [_, _, _], _ => rfl) (fun vs H Q E h => ?_) (fun f cdv A outer s H vs Q E hr h => ?_)
  · obtain ⟨a, g, z, S, G, nz, rfl, _⟩ := h
    rfl
  obtain ⟨a, g, z, S, G, nz, rfl, hS, hG, hz, ok, pl, gok, q⟩ := h
  obtain ⟨xs, s1, s2, s3⟩ := hS.get
  obtain ⟨gs, g1, g2, g3⟩ := hG.get
  have hlen := ok.len
  refine ⟨_, (pss_cons (ps_setLc (i := 3) (own := [("cell", 5)]) rfl scPRoundsDown.nd rfl rfl (sw_true rfl rfl rfl (by decide +kernel)) (pi_list (pv 0)) (blkOk_by (own := [("cell", 5)]) (N := nPRoundsDown) (sc := defScope sPRoundsDown) (by decide +kernel)) (fun _ _ _ _ _ => (pg_name (i := 5) scPRoundsDown.nd rfl (Or.inl rfl))) (fun _ _ _ _ _ => pts_nil) (fun _ _ _ _ _ => pe_non))
      (pss_cons (ps_for PassesOwn.never rfl (pi_range1 (by rfl) T.b_range (pa_cons (pe_op op_add (pe_callB (call_lenK (K := K)) (by rfl) T.b_len PySem.boot_len (pa_cons (pv 0) pa_nil)) pe_int) pa_nil)) (pg_name (i := 4) scPRoundsDown.nd rfl (Or.inl rfl)) (pss_one (ps_for PassesOwn.never rfl (pi_enum (by rfl) T.b_enumerate (pa_cons (pv 0) pa_nil)) (pg_tupK (K := K) (n := 2) rfl (pgs_cons (pg_name (i := 5) scPRoundsDown.nd rfl (Or.inl rfl)) (pgs_cons (pg_name (i := 6) scPRoundsDown.nd rfl (Or.inl rfl)) pgs_nil))) (pss_one (ps_if (pt_cmpR (op_inK (K := K)) (pv 5) (pv 2) (by rfl)) (pss_one (ps_asg pe_int (pg_sub (pv 3) (pv 5) set_list))) (pss_one (ps_if (pt_cmpR op_eq (pe_ix (ix_tupK (K := K)) (pv 6) pe_int (fun _ _ => rfl)) pe_str (nomark _)) (pss_one (ps_asg (pe_ix (ix_tupK (K := K)) (pv 6) pe_int (fun _ _ => rfl)) (pg_sub (pv 3) (pv 5) set_list))) (pss_one (ps_for PassesOwn.never rfl (pi_list (pe_ix (ix_listK (K := K)) (pv 1) (pv 5) (fun _ _ => rfl))) (pg_tupK (K := K) (n := 2) rfl (pgs_cons (pg_name (i := 7) scPRoundsDown.nd rfl (Or.inl rfl)) (pgs_cons (pg_name (i := 8) scPRoundsDown.nd rfl (Or.inl rfl)) pgs_nil))) (pss_cons (ps_set (i := 9) scPRoundsDown.nd rfl (Or.inl rfl) (pe_k cPShifted (hr.mono (by decide)) (by rfl) (pa_cons (pe_ix (ix_listK (K := K)) (pv 3) (pv 7) (fun _ _ => rfl)) (pa_cons (pv 8) pa_nil))))
      (pss_one (ps_if (pt_val (pe_k cPAtMost (hr.mono (by decide)) (by rfl) (pa_cons (pv 9) (pa_cons (pe_ix (ix_listK (K := K)) (pv 3) (pv 5) (fun _ _ => rfl)) pa_nil)))) (pss_one (ps_asg (pv 9) (pg_sub (pv 3) (pv 5) set_list))) pss_nil))))))))))))
      (pss_one (ps_ret (pv 3))))), ?_⟩
  refine q_asgL (el_sheet (F := fun _ => V.non) (ev_var rfl) hS ok (fun _ => rfl) fun f c H1 e1 hf hok => ev_c) fun r H1 hr e1 h1 => ?_
  have h1' : H1 r = some (.lst ((List.replicate S.length (none : Amt)).map av)) := by
    rw [h1, List.map_replicate]
    have e : S.map (fun _ => V.non) = List.replicate S.length (av none) := by
      rw [List.map_const']
      rfl
    rw [e]
  refine q_forR1 (n := ((S.length + 1 : Nat) : Int)) (ea_cons (ev_is (ev_add (ev_lenS (ev_var rfl) (hS.ex e1)) ev_c) (by show V.int ((S.length : Int) + 1) = V.int ((S.length + 1 : Nat) : Int); rfl)) ea_nil) (by omega)
    (fun n σ' H' => Ex H H' ∧ H' r = some (.lst (((List.range n).foldl (fun x _ => rdRound S G nz x) (List.replicate S.length none)).map av)) ∧ ∃ y1 y2 y3 y4 y5 y6, σ' = [some (.ref a), some (.ref g), some (.ref z), some (.ref r), y1, y2, y3, y4, y5, y6])
    (fun H2 e2 => ⟨e1.trans e2, e2 r _ h1', _, _, _, _, _, _, rfl⟩) (fun n σ' H' hn Pn => ?_) fun σ' H' Pn => ?_
  · obtain ⟨e, hx, y1, y2, y3, y4, y5, y6, rfl⟩ := Pn
    rw [range_fold_succ]
    generalize hX : (List.range n).foldl (fun x _ => rdRound S G nz x) (List.replicate S.length none) = X at hx ⊢
    have hXl : X.length = S.length := by
      rw [← hX, foldl_len (f := fun x _ => rdRound S G nz x) (fun x _ => rdRound_len S G nz x), List.length_replicate]
    refine s_forE2 (ea_cons (ev_var rfl) ea_nil) (sq_of (e a _ s1)) (fun m σ' H' => Ex H H' ∧ H' r = some (.lst (((List.range m).foldl (rdCell S G nz) X).map av)) ∧ ∃ y1 y2 y3 y4 y5 y6, σ' = [some (.ref a), some (.ref g), some (.ref z), some (.ref r), y1, y2, y3, y4, y5, y6])
      (fun H2 e2 => ⟨e.trans e2, e2 r _ hx, _, _, _, _, _, _, rfl⟩) (fun n σ' H' q => sq_of (q.1 a _ s1)) (fun m x σ' H' hm Pm H2 e2 => ?_) fun σ' H' Pm => ?_
    · obtain ⟨em, hxm, z1, z2, z3, z4, z5, z6, rfl⟩ := Pm
      rw [range_fold_succ]
      generalize hY : (List.range m).foldl (rdCell S G nz) X = Y at hxm ⊢
      have hYl : Y.length = S.length := by
        rw [← hY, foldl_len (rdCell_len S G nz), hXl]
      have hm' : m < S.length := by
        have := (List.getElem?_eq_some_iff.mp hm).1
        omega
      have hg := fAt_get hm'
      obtain ⟨c, hc, hf⟩ := s3 m _ hg
      have ec : x = .ref c := Option.some.inj (hm.symm.trans hc)
      subst ec
      have eH2 := em.trans e2
      have hx2 := e2 r _ hxm
      have ylen : m < (Y.map av).length := by
        rw [List.length_map]
        omega
      refine s_if (et_test (ev_inN (ev_var rfl) (ev_var rfl) (eH2 z _ hz))) (fun hb H3 e3 => ?_) fun hb H3 e3 => ?_
      · refine s_setL (e3 r _ hx2) (v := av (some 0)) ev_c (ev_var rfl) (ev_var rfl) ylen fun H4 e4 => ⟨Ex.mut ((eH2.trans e3).trans e4) hr, ?_, _, _, _, _, _, _, rfl⟩
        rw [upd_same, set_av]
        unfold rdCell
        rw [if_pos hb]
      · have hnb : ¬ nz.contains m = true := by
          rw [hb]
          exact Bool.false_ne_true
        have f3 := hf.ex (eH2.trans e3)
        refine s_if (et_test (ev_wA (ev_k0 (ev_var rfl) f3))) (fun hb2 H4 e4 => ?_) fun hb2 H4 e4 => ?_
        · cases hq : fAt S m with
          | amt y =>
            rw [hq] at f3
            refine s_setL ((e3.trans e4) r _ hx2) (v := av y) (ev_xT (ev_var rfl) ev_c (e4 _ _ f3) at1) (ev_var rfl) (ev_var rfl) ylen fun H5 e5 => ⟨Ex.mut (((eH2.trans e3).trans e4).trans e5) hr, ?_, _, _, _, _, _, _, rfl⟩
            rw [upd_same, set_av]
            unfold rdCell
            rw [if_neg hnb, hq]
          | _ =>
            rw [hq] at hb2
            cases hb2
        · have eC : rdCell S G nz Y m = (gG G m).foldl (rdArc m) Y := by
            unfold rdCell
            rw [if_neg hnb]
            cases hq : fAt S m with
            | amt y =>
              rw [hq] at hb2
              cases hb2
            | _ => rfl
          rw [eC]
          have gm : G[m]? = some (gG G m) := gG_get (by rw [gok.len]; exact hm')
          have eH4 := (eH2.trans e3).trans e4
          obtain ⟨b, hb3, hb4⟩ := g3 m _ gm
          have gok2 := gok.ok m _ gm
          refine s_forA (ev_xL (ev_var rfl) (ev_var rfl) (eH4 g _ g1) (atI_nat hb3)) hb4 (ex_xn eH4) (fun k σ' H' => Ex H H' ∧ H' r = some (.lst ((((gG G m).take k).foldl (rdArc m) Y).map av)) ∧ ∃ z4 z5 z6, σ' = [some (.ref a), some (.ref g), some (.ref z), some (.ref r), z1, some (.int (m : Int)), some (.ref c), z4, z5, z6])
            (fun H5 e5 => ⟨eH4.trans e5, e5 r _ ((e3.trans e4) r _ hx2), _, _, _, rfl⟩) (fun k σ' H' q => ex_xn q.1) (fun k p σ' H' hp Pk => ?_) fun σ' H' Pk => ?_
          · obtain ⟨ek, hxk, u4, u5, u6, rfl⟩ := Pk
            rw [foldl_take hp]
            generalize hZ : ((gG G m).take k).foldl (rdArc m) Y = Z at hxk ⊢
            have hZl : Z.length = S.length := by
              rw [← hZ, foldl_len (rdArc_len m), hYl]
            have hp1 := (gok2 p (List.mem_of_getElem? hp)).1
            refine q_asg (ev_call (ea_cons (ev_xA (ev_var rfl) (ev_var rfl) hxk (by rw [hZl]; exact hp1)) (ea_cons (ev_var rfl) ea_nil)) sv_shifted) fun H6 e6 => ?_
            refine s_when (et_B (ev_call (ea_cons (ev_var rfl) (ea_cons (ev_xA (ev_var rfl) (ev_var rfl) (e6 r _ hxk) (by rw [hZl]; exact hm')) ea_nil)) sv_atMost)) (fun hb7 H7 e7 => ?_) fun hb7 H7 e7 => ?_
            · refine s_setL ((e6.trans e7) r _ hxk) (v := av (shA (gA Z p.1) p.2)) (ev_var rfl) (ev_var rfl) (ev_var rfl) (by rw [List.length_map, hZl]; exact hm') fun H8 e8 => ⟨Ex.mut (((ek.trans e6).trans e7).trans e8) hr, ?_, _, _, _, rfl⟩
              rw [upd_same, set_av]
              unfold rdArc
              rw [if_pos hb7]
            · refine ⟨(ek.trans e6).trans e7, ?_, _, _, _, rfl⟩
              unfold rdArc
              rw [if_neg (by rw [hb7]; exact Bool.false_ne_true)]
              exact (e6.trans e7) r _ hxk
          · obtain ⟨ek, hxk, u4, u5, u6, rfl⟩ := Pk
            rw [List.take_of_length_le (Nat.le_refl _)] at hxk
            exact ⟨ek, hxk, _, _, _, _, _, _, rfl⟩
    · obtain ⟨em, hxm, z1, z2, z3, z4, z5, z6, rfl⟩ := Pm
      rw [s2] at hxm
      exact ⟨em, hxm, _, _, _, _, _, _, rfl⟩
  · obtain ⟨e, hx, y1, y2, y3, y4, y5, y6, rfl⟩ := Pn
    exact s_ret (ev_var rfl) fun H2 e2 => q r H2 hr (e.trans e2) (e2 r _ hx)
/-! ### are_choices -/
theorem ev_chain {σ : L2.St} {H : Hp} {ta tb tc : TE} {r r' : R2} {x y z : V} {k k' : Bool} (ha : Ev ta σ H x) (hb : Ev tb σ H y) (hr : RV r x y H (.bl k)) (hc : k = true → Ev tc σ H z) (hr' : k = true → RV r' y z H (.bl k')) : Ev (tChain r r' ta tb tc) σ H (.bl (k && k')) := fun H1 e Q q =>
  ha H1 e _ fun H2 e2 => hb H2 (e.trans e2) _ fun H3 e3 => hr H3 ((e.trans e2).trans e3) _ fun H4 e4 => ⟨k, rfl, by
    cases k with
    | true =>
      show tc σ H4 _
      exact hc rfl H4 (((e.trans e2).trans e3).trans e4) _ fun H5 e5 => hr' rfl H5 ((((e.trans e2).trans e3).trans e4).trans e5) Q fun H6 e6 => q H6 ((((e2.trans e3).trans e4).trans e5).trans e6)
    | false =>
      show Q (.bl false) H4
      exact q H4 ((e2.trans e3).trans e4)⟩
theorem rv_leT {i j : Int} {H : Hp} (h : i ≤ j) : RV (rI0 fun i j => V.bl (decide (i ≤ j))) (.int i) (.int j) H (.bl true) := by
  have z := rv_I0 (g := fun i j => V.bl (decide (i ≤ j))) (i := i) (j := j) (H := H)
  have e : V.bl (decide (i ≤ j)) = V.bl true := by rw [decide_eq_true h]
  exact e ▸ z
theorem rv_ltT {i j : Int} {H : Hp} (h : i < j) : RV (rI0 fun i j => V.bl (decide (i < j))) (.int i) (.int j) H (.bl true) := by
  have z := rv_I0 (g := fun i j => V.bl (decide (i < j))) (i := i) (j := j) (H := H)
  have e : V.bl (decide (i < j)) = V.bl true := by rw [decide_eq_true h]
  exact e ▸ z
def spAreChoices : Sp := fun vs H Q _ => ∃ (a p : Addr) (S : List Fm) (ch : Ch), vs = [.ref a, .ref p, .str (Str.ofString "greatest")] ∧ SheetAt H a S ∧ H p = some (.lst (ch.map cv)) ∧ ChOk S ch ∧ RetV (.bl true) H Q
theorem sv_areChoices {a p : Addr} {S : List Fm} {ch : Ch} {H : Hp} (hS : SheetAt H a S) (hp : H p = some (.lst (ch.map cv))) (ok : ChOk S ch) : SpV spAreChoices [.ref a, .ref p, .str (Str.ofString "greatest")] H (.bl true) := fun H1 e Q q _ => ⟨a, p, S, ch, rfl, hS.ex e, e p _ hp, ok, q⟩
theorem cv_isSome (o : Option Nat) : (!decide (cv o = .non)) = o.isSome := by cases o <;> rfl
theorem ok_areChoices (T : Bt mg) (h : Has K mg "are_choices" sPAreChoices) : Cl P w K mg base 1 "are_choices" spAreChoices := by
  refine cl_of h scPAreChoices (fun _ _ _ _ _ _ us hl => match us, hl with | [_, _, _], _ => rfl) (fun vs H Q E h => ?_) (fun f cdv A outer s H vs Q E hr h => ?_)
  · obtain ⟨a, p, S, ch, rfl, _⟩ := h
    rfl
  obtain ⟨a, p, S, ch, rfl, hS, hp, hch, q⟩ := h
  obtain ⟨xs, s1, s2, s3⟩ := hS.get
  refine ⟨_, (pss_cons (ps_for PassesOwn.never rfl (pi_enum (by rfl) T.b_enumerate (pa_cons (pv 0) pa_nil)) (pg_tupK (K := K) (n := 2) rfl (pgs_cons (pg_name (i := 3) scPAreChoices.nd rfl (Or.inl rfl)) (pgs_cons (pg_name (i := 4) scPAreChoices.nd rfl (Or.inl rfl)) pgs_nil))) (pss_cons (ps_set (i := 5) scPAreChoices.nd rfl (Or.inl rfl) (pe_ix (ix_listK (K := K)) (pv 1) (pv 3) (fun _ _ => rfl)))
      (pss_cons (ps_if (pt_cmpR op_ne (pe_cmpR op_eq (pe_ix (ix_tupK (K := K)) (pv 4) pe_int (fun _ _ => rfl)) (pv 2) (nomark _)) (pe_cmpR op_notN (pv 5) pe_non (nomark _)) (nomark _)) (pss_one (ps_ret pe_bl)) pss_nil)
      (pss_one (ps_if (PW.pt (pw_and (pt_cmpR op_notN (pv 5) pe_non (nomark _)) (pw_and1 (pt_not (pt_chain op_le op_lt pe_int (pv 5) (pe_callB (call_lenK (K := K)) (by rfl) T.b_len PySem.boot_len (pa_cons (pe_ix (ix_tupK (K := K)) (pv 4) pe_int (fun _ _ => rfl)) pa_nil))))))) (pss_one (ps_ret pe_bl)) pss_nil)))))
      (pss_one (ps_ret pe_bl))), ?_⟩
  refine q_forE2 (ea_cons (ev_var rfl) ea_nil) (sq_of s1) (fun n σ' H' => Ex H H' ∧ ∃ y z u, σ' = [some (.ref a), some (.ref p), some (.str (Str.ofString "greatest")), y, z, u]) (fun H2 e2 => ⟨e2, _, _, _, rfl⟩) (fun n σ' H' q => sq_of (q.1 a _ s1)) (fun n x σ' H' hx Pn H2 e2 => ?_) fun σ' H' Pn => ?_
  · obtain ⟨e, y, z, u, rfl⟩ := Pn
    have hn : n < S.length := by
      have := (List.getElem?_eq_some_iff.mp hx).1
      omega
    have hg := fAt_get hn
    obtain ⟨c, hc, hf⟩ := s3 n _ hg
    have ec : x = .ref c := Option.some.inj (hx.symm.trans hc)
    subst ec
    have eH2 := e.trans e2
    have hca := hch.at_ n _ hg
    refine q_asg (ev_xL (ev_var rfl) (ev_var rfl) (eH2 p _ hp) (at_cv (by rw [hch.len]; exact hn))) fun H3 e3 => ?_
    have f3 := hf.ex (eH2.trans e3)
    have t1 : (fAt S n).isG = (gC ch n).isSome := by
      cases hq : fAt S n with
      | great arcs =>
        rw [hq] at hca
        obtain ⟨k, hk, _⟩ := hca
        rw [hk]
        rfl
      | _ =>
        rw [hq] at hca
        have hca : gC ch n = none := hca
        rw [hca]
        rfl
    refine q_when (b := false) (et_test (ev_is (ev_ne (ev_wGv (ev_k0 (ev_var rfl) f3) (ev_var rfl)) (ev_notNV (ev_var rfl)) rfl) (by
      rw [cv_isSome, t1]
      simp))) (fun hb => by cases hb) fun _ H4 e4 => ?_
    refine s_when (b := false) ?_ (fun hb => by cases hb) fun _ H5 e5 => ⟨((eH2.trans e3).trans e4).trans e5, _, _, _, rfl⟩
    cases hq : fAt S n with
    | great arcs =>
      rw [hq] at hca f3
      obtain ⟨k, hk, hk2⟩ := hca
      obtain ⟨l, l1, ads, l2, l3⟩ := f3.ex e4
      rw [hk]
      have hlen : (ads.map V.ref).length = arcs.length := by rw [List.length_map, paired_len l3]
      have hch1 := ev_chain (σ := [some (.ref a), some (.ref p), some (.str (Str.ofString "greatest")), some (.int (n : Int)), some (.ref c), some (cv (some k))]) (H := H4) (ta := tC (.int 0)) (tb := tVar 5) (r := rI0 fun i j => .bl (decide (i ≤ j))) (r' := rI0 fun i j => .bl (decide (i < j))) (k := true) (k' := true) (x := .int 0) (y := .int (k : Int)) (z := .int ((ads.map V.ref).length : Int)) ev_c (ev_var rfl) (rv_leT (by omega)) (fun _ => ev_lenL (K := K) (ev_xT (K := K) (ev_var (i := 4) rfl) ev_c l1 at1) l2) (fun _ => rv_ltT (by rw [hlen]; omega))
      exact et_is (et_and (a := true) (b := false) (et_test (ev_is (ev_notNV (ev_var rfl)) rfl)) fun _ => et_not (et_test hch1)) rfl
    | _ =>
      rw [hq] at hca
      have hca : gC ch n = none := hca
      rw [hca]
      exact et_is (et_and (a := false) (b := false) (et_test (ev_is (ev_notNV (ev_var rfl)) rfl)) fun hb => by cases hb) rfl
  · obtain ⟨e, y, z, u, rfl⟩ := Pn
    exact s_ret ev_c fun H2 e2 => q H2 (e.trans e2)
end Cs
set_option Elab.async false
set_option linter.all false
set_option maxRecDepth 100000
set_option maxHeartbeats 4000000
/-! L: a lambda of one parameter and one captured name, handed to a def as its second argument. -/
namespace Cs
open PySem PySem.Spec PyProof.Rows L2 Evl LamX NdefX
theorem cells_un {S : List Addr} {cl : List (Str × Addr)} {fr : List Str} {ws : List (Option V)} {h h1 : Heap} {H HZ : Hp} (C : CellsAt cl fr ws h H) (un : Un S [] H HZ h h1) : CellsAt cl fr ws h1 HZ := by
  have kp : ∀ y c, cl.lookup y = some c → ∀ v, h.IsCell c v → h1.IsCell c v := fun y c e v ⟨o, ho, hd⟩ => by
    obtain ⟨sl, q⟩ := un.any ho (C.all y c e).1 (by simp)
    exact ⟨_, q, hd⟩
  refine ⟨C.len, fun y c e => ?_, C.inj, fun i y e => ?_⟩
  · obtain ⟨n, v, z⟩ := C.all y c e
    refine ⟨?_, v, kp y c e v z⟩
    obtain ⟨o, ho, _⟩ := z
    exact un.free c o ho n (by simp)
  · obtain ⟨c, hc, hv⟩ := C.has i y e
    refine ⟨c, hc, fun v ev => ?_⟩
    obtain ⟨u, r, z⟩ := hv v ev
    exact ⟨u, r, kp y c hc _ z⟩
section
variable {X : Cx} {pins : List (Addr × Obj)} {σ : L2.St} {H : Hp} {s : Shared}
abbrev lamQ (X : Cx) : Str := X.env.qual ++ "<lambda>"
/-- the lambda's words, its body left out -/
def lamF (X : Cx) (params : Arguments) (scope : Scope) (c' : Addr) : NF := ⟨"<lambda>", lamQ X, params, [], scope, cloFrom X.env.cells scope.names [], c'⟩
/-- a(e), in the def that got the lambda as a -/
theorem pe_act1 {Ng : List Str} {qg : Str} {sg : Scope} {g f c' : Addr} {cdg pm ctv : Value} {params : Arguments} {body : Expr} {scope : Scope} {k iw im : Nat} {a : Str} {m : V} {e1 : Expr} {te tb : TE} {p1 p2 : Pos}
    (I : Inv X pins σ H s) (S : NScope ["shift", "many"] ["shift"] ["many"] scope)
    (hfree : ∀ y ∈ scope.names, y.2 = .free → X.env.scope.names.lookup y.1 = some .cell ∨ X.env.scope.names.lookup y.1 = some .free)
    (hN : X.N[im]? = some ("many" : Str)) (hm : σ[im]? = some (some m))
    (hf : s.heap.get? f = some (PySem.W.kla_obj "<lambda>" (lamQ X) params body scope (cloFrom X.env.cells scope.names []) pm c' ctv)) (hfn : H f = none) (hfr : f ∉ frs X.stack)
    (hbind : ∀ us : List Value, us.length = 1 → bindArgs (PySem.W.kla_fn "<lambda>" (lamQ X) params body scope (cloFrom X.env.cells scope.names []) pm (.ref c') ctv) ⟨us, []⟩ = pure ((["shift"] : List Str).zip us))
    (hr : Room (k + 1) (X.A.deeper (envOfC qg sg s.heap.objs.size g cdg)))
    (hbody : ∀ (A : Around) (outer : List Env) (s : Shared) (H : Hp), PE (ncx L2.CX0 X.prog X.w X.K X.mg X.base ["shift", "many"] (lamF X params scope c') f A outer s H L2.E0) body tb)
    (hNg : Ng[iw]? = some a) (hv : Vis sg a) (he : PE (cxOf L2.CX0 X.prog X.w X.K X.mg X.base Ng qg sg g cdg X.A X.stack s H L2.E0).nox e1 te)
    (hst : starEach [e1] (cxOf L2.CX0 X.prog X.w X.K X.mg X.base Ng qg sg g cdg X.A X.stack s H L2.E0).nox.env = (false, eval e1 (cxOf L2.CX0 X.prog X.w X.K X.mg X.base Ng qg sg g cdg X.A X.stack s H L2.E0).nox.env) :: starEach [] (cxOf L2.CX0 X.prog X.w X.K X.mg X.base Ng qg sg g cdg X.A X.stack s H L2.E0).nox.env := by rfl)
    (hd : (a == ("__debug__" : Str)) = false := by decide) (hcd : (a == ("__classdict__" : Str)) = false := by decide) :
    PE (cxOf L2.CX0 X.prog X.w X.K X.mg X.base Ng qg sg g cdg X.A X.stack s H L2.E0).nox (.Call (.Name a p1) [e1] [] p2)
      (fun σZ HZ Q => σZ[iw]? = some (some (.ref f)) ∧ te σZ HZ fun v H1 => H1 c' = some (CodeO c' (lamQ X)) ∧ tb [some v, some m] H1 Q) := by
  refine ⟨fun pinsZ sZ σZ HZ Q IZ h => ?_⟩
  obtain ⟨hs, ht⟩ := h
  refine wpAny_Call_Name_kw (thn ((pe_var (pos := p1) (i := iw) hNg hv hd hcd).run pinsZ sZ σZ HZ (fun v H1 => v = .ref f ∧ H1 = HZ) IZ ⟨.ref f, hs, rfl, rfl⟩) fun u s1 ⟨v, H1, I1, r1, q1⟩ => ?_)
  obtain ⟨ev, eH⟩ := q1
  subst ev
  rw [eH] at I1
  obtain rfl : u = Value.ref f := r1
  have lam_at : ∀ {σ' : L2.St} {H' : Hp} {s' : Shared}, Inv (cxOf L2.CX0 X.prog X.w X.K X.mg X.base Ng qg sg g cdg X.A X.stack s H L2.E0).nox pinsZ σ' H' s' → s'.heap.get? f = some (PySem.W.kla_obj "<lambda>" (lamQ X) params body scope (cloFrom X.env.cells scope.names []) pm c' ctv) :=
    fun J => J.base.keep f _ hf hfn hfr (fun z => nomatch (show f ∈ ([] : List Addr) from z))
  have ha : PA (cxOf L2.CX0 X.prog X.w X.K X.mg X.base Ng qg sg g cdg X.A X.stack s H L2.E0).nox [e1] (tCons te tNil) := pa_cons he pa_nil hst
  refine PySem.W.callWith_F (first := []) ⟨_, _, _, _, lam_at I1⟩ (thn (ha.run p2 pinsZ s1 σZ HZ (fun vs H1 => match vs with | [v] => H1 c' = some (CodeO c' (lamQ X)) ∧ tb [some v, some m] H1 Q | _ => False) I1 ht) fun us s2 ⟨vs, H2, I2, r, q⟩ => ⟨⟨_, _, _, _, lam_at I2⟩, ?_⟩) hst rfl
  obtain ⟨v, rfl, hc, ht⟩ : ∃ v, vs = [v] ∧ H2 c' = some (CodeO c' (lamQ X)) ∧ tb [some v, some m] H2 Q := by
    match vs, q with
    | [v], q => exact ⟨v, rfl, q⟩
  have un : Un (frs X.stack) [] H H2 s.heap s2.heap := I2.base
  have C : CellsAt (cloFrom X.env.cells scope.names []) ["many"] ([im].map (slotAt σ)) s.heap H := cells_of I (Caps.made I.ok hfree (fun y hy => by
    have e : y = "many" := by simpa using hy
    subst e
    exact PySem.mem_of_lookup (S.frk _ (by simp))) (by show [X.N[im]?] = [some ("many" : Str)]; rw [hN]))
  have C2 := cells_un C un
  have em : [im].map (slotAt σ) = [some m] := by
    show [slotAt σ im] = _
    rw [slotAt_of hm]
  rw [em] at C2
  have lim : s2.heap.NoLimit := I2.nolimit
  obtain ⟨⟨oc, vs, t, hoc, hdc, hvc⟩, _, _⟩ := I2.hok c' _ hc
  have ul : us.length = 1 := by rw [← r.length]; rfl
  have rc : codeAny (model X.prog X.w) (X.A.deeper (envOfC qg sg s.heap.objs.size g cdg)) (.call (.ref f) ⟨us, []⟩) (CR L2.CX0 (envOfC qg sg s.heap.objs.size g cdg :: X.stack) X.prog X.w H2 s2 Q L2.E0) s2 := by
    refine PySem.W.kla_callFunE hr.depth (lam_at I2) rfl S.co S.gen rfl ⟨c', oc, vs, t, rfl, hoc, hdc, hvc⟩ ?_
    rw [hbind us ul]
    refine wpAny_pure (wpAny_newFunctionEnv S.nocell (fun ⟨n, _⟩ hy => S.par n (List.of_mem_zip hy).1) (fun h₁ hns hsb => ⟨lim.fresh _ hsb, ?_⟩) S.kind)
    have kp : ∀ b o, s2.heap.get? b = some o → h₁.get? b = some o := fun b o e => hsb.extBut b o (Nat.ne_of_lt (Heap.lt_size e)) (Heap.get?_push_of_some _ e)
    have J := inv_startN (CX := L2.CX0) (E := L2.E0) (f := f) (N := ["shift", "many"]) (F := lamF X params scope c') (tk := s2.toks + ((["shift"] : List Str).zip us).length) S hr.hd I2.env0 rfl r C2 hns kp
    refine PySem.W.kla_codeExpr (wpAny_mono ((hbody _ _ s2 H2).run [] _ _ H2 Q J ht) (fun v s' hq => ?_) fun e s' hq => hq)
    obtain ⟨w', H', J', rv, q⟩ := hq
    exact ⟨w', H', J'.os, J'.bare, J'.base, J'.hok, rv, q⟩
  refine wpAny_call (codeAny_mono rc fun r s' hq => ?_)
  cases r with
  | error e => exact (show False from hq).elim
  | ok fl =>
    cases fl with
    | ret u => exact I2.after hq
    | next => exact False.elim hq
    | brk => exact False.elim hq
    | cont => exact False.elim hq
/-- the reading of a(e) in the def that got the lambda f as its name number iw -/
def tAct (f c' : Addr) (q : Str) (iw : Nat) (m : V) (tb te : TE) : TE := fun σZ HZ Q => σZ[iw]? = some (some (.ref f)) ∧ te σZ HZ fun v H1 => H1 c' = some (CodeO c' q) ∧ tb [some v, some m] H1 Q
/-- the def that calls what it got as its second argument -/
def GivesW (P : Program) (w : World) (K : PySem.W.Frag) (mg : Str → Option Value) (base : Heap) (k : Nat) (Ng : List Str) (x : Str) (sg : Scope) (bg : List Stmt) (a : Str) (tb : TE) (sp : V → V → Hp → VK → Prop) : Prop :=
  ∀ (A : Around) (stack : List Env) (g f c' : Addr) (cdg : Value) (s : Shared) (H : Hp) (Q : VK) (v0 m : V) (q : Str), Room k (A.deeper (envOfC x sg s.heap.objs.size g cdg)) →
    (∀ (e1 : Expr) (te : TE) (p1 p2 : Pos), PE (cxOf L2.CX0 P w K mg base Ng x sg g cdg A stack s H L2.E0).nox e1 te →
      starEach [e1] (cxOf L2.CX0 P w K mg base Ng x sg g cdg A stack s H L2.E0).nox.env = (false, eval e1 (cxOf L2.CX0 P w K mg base Ng x sg g cdg A stack s H L2.E0).nox.env) :: starEach [] (cxOf L2.CX0 P w K mg base Ng x sg g cdg A stack s H L2.E0).nox.env →
      PE (cxOf L2.CX0 P w K mg base Ng x sg g cdg A stack s H L2.E0).nox (.Call (.Name a p1) [e1] [] p2) (tAct f c' q 1 m tb te)) →
    H c' = some (CodeO c' q) → sp v0 m H Q →
    ∃ t, PSs (cxOf L2.CX0 P w K mg base Ng x sg g cdg A stack s H L2.E0).nox bg t ∧ t { nx := fun _ H' => Q .non H', rt := Q } (L2.start Ng [v0, .ref f]) H
/-- x(e, lambda ..) -/
def tLam1 (T : List (Addr × Str)) (sp : V → V → Hp → VK → Prop) (im : Nat) (t : TE) : TE := fun σ H Q => ∃ m, σ[im]? = some (some m) ∧ t σ H fun v0 H1 => Tabs T H1 ∧ ∀ H2, ExtN H1 H2 → Tabs T H2 → sp v0 m H2 Q
theorem pe_lam1 {X : Cx} {T : List (Addr × Str)} {sp : V → V → Hp → VK → Prop} {x a b : Str} {g c P : Addr} {k im : Nat} {pg : Arguments} {bg : List Stmt} {sg : Scope} {fd : FuncData} {Ng : List Str}
    {e0 : Expr} {t tb : TE} {params : Arguments} {body : Expr} {scope : Scope} {p lpos pos : Pos} (hg : Gl X x) (hm : X.mg x = some (.ref g)) (F : FunD X.K x x pg bg sg [] [] g fd) (hb : L2.Binds X.K fd [b, a] []) (Sg : FnScope Ng [b, a] sg) (hNg : Ng[1]? = some a) (hva : Vis sg a)
    (hG : GivesW X.prog X.w X.K X.mg X.base (k + 1) Ng x sg bg a tb sp) (he : PE X e0 t) (hst : starEach [e0, .Lambda params body scope lpos] X.env = (false, eval e0 X.env) :: (false, eval (.Lambda params body scope lpos) X.env) :: starEach [] X.env)
    (TB : TabB X.base X.mg c P) (hcode : X.env.code = .ref c) (hmT : (P, lamQ X) ∈ T) (hu : ∀ p ∈ T, p.1 = P → p.2 = lamQ X) (hr : Room (k + 2) X.A) (S : NScope ["shift", "many"] ["shift"] ["many"] scope)
    (hfree : ∀ y ∈ scope.names, y.2 = .free → X.env.scope.names.lookup y.1 = some .cell ∨ X.env.scope.names.lookup y.1 = some .free) (hdef : defaultsOf params X.env = ([], [])) (hN : X.N[im]? = some ("many" : Str))
    (hbind : ∀ (q : Str) (cl : List (Str × Addr)) (pm cv ctv : Value) (us : List Value), us.length = 1 → bindArgs (PySem.W.kla_fn "<lambda>" q params body scope cl pm cv ctv) ⟨us, []⟩ = pure ((["shift"] : List Str).zip us))
    (hbody : ∀ (f c' : Addr) (A : Around) (outer : List Env) (s : Shared) (H : Hp), PE (ncx L2.CX0 X.prog X.w X.K X.mg X.base ["shift", "many"] (lamF X params scope c') f A outer s H L2.E0) body tb)
    (hdb : (x == ("__debug__" : Str)) = false := by decide) (hd : (a == ("__debug__" : Str)) = false := by decide) (hcd : (a == ("__classdict__" : Str)) = false := by decide) :
    PE X (.Call (.Name x p) [e0, .Lambda params body scope lpos] [] pos) (tLam1 T sp im t) := by
  refine ⟨fun pins s σ H Q I h => ?_⟩
  obtain ⟨m, hm0, h⟩ := h
  obtain ⟨oc, od, dV, kV, doc, pm, an, cdv, ct, osl, rfl, lk, hcg, _, _⟩ := F.ex
  refine wpAny_Call_Name_kw (ld_glob I hg hm ?_ hdb)
  have hst2 : starEach [Expr.Lambda params body scope lpos] X.env = (false, eval (.Lambda params body scope lpos) X.env) :: starEach [] X.env := by rfl
  refine PySem.W.callWith_K (h₀ := X.base) I.ok.mod.kin F.kp ?_ (by rw [hst, hst2]) (by rfl)
  rw [hst]
  show wpAny _ _ (spliced ((false, eval e0 X.env) :: (false, eval (.Lambda params body scope lpos) X.env) :: backTo pos (starEach [] X.env))) _ _ s
  refine Calls.spliced_cons (thn (he.run pins s σ H _ I h) fun u0 s0 ⟨v0, H0, I0, r0, T0, h0⟩ => ?_)
  have hfr0 : ∀ y ∈ scope.names, y.2 = .free → ∃ c, X.env.cells.lookup y.1 = some c := fun y hy e => by
    rcases hfree y hy e with z | z
    · exact I.ok.has _ (.inl z)
    · exact I.ok.has _ (.inr z)
  refine Calls.spliced_cons (lam_make2 I0 TB hcode hmT hu T0 hdef hfr0 fun f c' pm' ctv H1 s' I1 eN T1 hf hfn hfr hco => ?_)
  refine Calls.spliced_nil ⟨I1.kIn, ?_⟩
  have rc : codeAny (model X.prog X.w) X.A (.call (.ref g) ⟨[u0, .ref f], []⟩) (CR L2.CX0 X.stack X.prog X.w H1 s' Q L2.E0) s' := by
    refine run_ofS (N := Ng) (ps := [b, a]) (us := [u0, .ref f]) (vs := [v0, .ref f]) lk hcg Sg hr I1.env0 (hb s' [u0, .ref f] I1.kIn rfl) (.cons r0 (.cons rfl .nil)) rfl fun hr' => ?_
    obtain ⟨t', ht', hq'⟩ := hG X.A X.stack g f c' cdv s' H1 Q v0 m (lamQ X) hr' (fun e1 te p1 p2 he1 hs1 => pe_act1 I1 S hfree hN hm0 hf hfn hfr (hbind _ _ _ _ _) hr' (hbody f c') hNg hva he1 hs1 hd hcd) hco (h0 H1 eN T1)
    exact ⟨t', ht'.nox, hq'⟩
  refine wpAny_call (codeAny_mono rc fun r s2 hq => ?_)
  cases r with
  | error e => exact (show False from hq).elim
  | ok fl =>
    cases fl with
    | ret u => exact I1.after hq
    | next => exact False.elim hq
    | brk => exact False.elim hq
    | cont => exact False.elim hq
/-- a(e) read -/
theorem ev_act {σ : L2.St} {H : Hp} {te tb : TE} {f c' : Addr} {q : Str} {iw : Nat} {m v r : V} (hw : σ[iw]? = some (some (.ref f))) (h : Ev te σ H v) (hc : H c' = some (CodeO c' q)) (hb : ∀ H1, Ex H H1 → Ev tb [some v, some m] H1 r) : Ev (tAct f c' q iw m tb te) σ H r :=
  fun H1 e Q k => ⟨hw, h H1 e _ fun H2 e2 => ⟨e2 _ _ (e _ _ hc), hb H2 (e.trans e2) H2 (Ex.refl H2) Q fun H3 e3 => k H3 (e2.trans e3)⟩⟩
end
end Cs
set_option Elab.async false
set_option linter.all false
set_option maxRecDepth 100000
set_option maxHeartbeats 4000000
/-! G: circle_below -/
namespace Cs
open PySem PySem.Spec PyProof.Rows L2 Evl LamX
variable {P : Program} {w : World} {K : PySem.W.Frag} {mg : Str → Option Value} {base : Heap}
def StAt (H : Hp) (v : V) : Option Arc → Prop
  | none => v = .non
  | some p => ∃ b, v = .ref b ∧ H b = some (.tup (arcV p))
theorem StAt.ex {H H' : Hp} {v : V} (e : Ex H H') : ∀ {o : Option Arc}, StAt H v o → StAt H' v o
  | none, h => h
  | some p, ⟨b, h1, h2⟩ => ⟨b, h1, e b _ h2⟩
theorem StAt.up {H : Hp} {v : V} {r : Addr} {xs ys : List V} (hr : H r = some (.lst xs)) : ∀ {o : Option Arc}, StAt H v o → StAt (upd H r (.lst ys)) v o
  | none, h => h
  | some p, ⟨b, h1, h2⟩ => ⟨b, h1, by rw [upd_ne (ne_of h2 hr (by intro z; cases z))]; exact h2⟩
structure CBAt (H : Hp) (rd rs : Addr) (s : CB) : Prop where
  ds : H rd = some (.lst (s.d.map V.int))
  sts : ∃ xs : List V, H rs = some (.lst xs) ∧ Paired (StAt H) xs s.st
theorem CBAt.ex {H H' : Hp} {rd rs : Addr} {s : CB} (h : CBAt H rd rs s) (e : Ex H H') : CBAt H' rd rs s := by
  obtain ⟨xs, h1, h2⟩ := h.sts
  exact ⟨e _ _ h.ds, xs, e _ _ h1, pm h2 fun _ _ z => z.ex e⟩
theorem CBAt.last {H : Hp} {rd rs : Addr} {s : CB} (h : CBAt H rd rs s) (o : Option Nat) : CBAt H rd rs { s with last := o } := ⟨h.ds, h.sts⟩
theorem paired_set {α β : Type} {F : α → β → Prop} {a : α} {b : β} (r : F a b) : ∀ {l₁ : List α} {l₂ : List β} {i : Nat}, Paired F l₁ l₂ → Paired F (l₁.set i a) (l₂.set i b)
  | _, _, _, .nil => .nil
  | _, _, 0, .cons _ t => .cons r t
  | _, _, i + 1, .cons q t => .cons q (paired_set r t)
theorem at_gD {d : List Int} {u : Nat} (h : u < d.length) : atI (d.map V.int) (u : Int) = some (.int (gD d u)) := by
  have e : d[u]? = some (gD d u) := by
    rw [List.getElem?_eq_getElem h]
    refine congrArg some ?_
    show _ = d.getD u 0
    rw [List.getD_eq_getElem?_getD, List.getElem?_eq_getElem h]
    rfl
  exact atI_nat (mapGet e)
/-- the step of a cell -/
theorem CBAt.step {H : Hp} {rd rs : Addr} {s : CB} {u : Nat} {p : Arc} (h : CBAt H rd rs s) (hu : gS s.st u = some p) : ∃ xs b, H rs = some (.lst xs) ∧ atI xs (u : Int) = some (.ref b) ∧ H b = some (.tup (arcV p)) := by
  obtain ⟨xs, h1, h2⟩ := h.sts
  have hu2 : s.st[u]? = some (some p) := by
    have hu : s.st.getD u none = some p := hu
    rw [List.getD_eq_getElem?_getD] at hu
    cases e : s.st[u]? with
    | none =>
      rw [e] at hu
      cases hu
    | some o =>
      rw [e] at hu
      exact congrArg some hu
  obtain ⟨v, hv, b, rfl, hb⟩ := paired_get h2 hu2
  exact ⟨xs, b, h1, atI_nat hv, hb⟩
/-- the lambda's reading -/
abbrev tW : TE := tOp (rI0 fun i j => V.int (i - j)) (tOp (rI CMul fun i j => V.int (i * j)) (tVar 1) (tVar 0)) (tC (.int 1))
theorem ev_tW {m s : Int} {H : Hp} (h : CMul m s) : Ev tW [some (.int s), some (.int m)] H (.int (m * s - 1)) := ev_sub (ev_mul (ev_var rfl) (ev_var rfl) h) ev_c
def spCB : V → V → Hp → VK → Prop := fun v0 m H Q => ∃ (g : Addr) (G : List (List Arc)), v0 = .ref g ∧ m = .int (G.length : Int) ∧ ArcLAt H g G ∧ GOk G.length G ∧ G.length ≤ 13 ∧
  (cbLoop G (G.length + 1) (cb0 G.length) = none → RetV .non H Q) ∧ (cbLoop G (G.length + 1) (cb0 G.length) ≠ none → ∀ cyc r H2, Circ G cyc → H r = none → Ex H H2 → ArcsAt H2 r cyc → Q (.ref r) H2)
theorem el_arcL {σ : L2.St} {H : Hp} {tl te : TE} {g : Addr} {G : List (List Arc)} {j : Nat} {v : V} (h : Ev tl σ H (.ref g)) (hG : ArcLAt H g G) (hz : G.length ≤ 13) (hw : ∀ x, wipe ((wipe σ [j]).set j (some x)) [j] = wipe σ [j]) (hv : ∀ σ H, Ev te σ H v) : EvL (tLc (iList K tl) (gName j) (tYes) te [j]) σ H (List.replicate G.length v) := by
  obtain ⟨gs, g1, g2, g3⟩ := hG.get
  have z := el_lc (K := K) (α := List Arc) (xs := gs) (ys := G) (tl := tl) (te := te) (t := tYes) (g := gName j) (vs := [j]) (σ := σ) (H := H) (fun _ => true) (fun _ => v) h (sq_of g1) g2 (by omega) fun n x y hx hy => ⟨(wipe σ [j]).set j (some x), fun H1 e1 Q q => q, hw x, fun H1 e1 H2 e2 Q k => k H2 (Ex.refl H2), fun _ H1 e1 => hv _ H1⟩
  rw [filter_true] at z
  have e : G.map (fun _ => v) = List.replicate G.length v := List.map_const' ..
  rw [e] at z
  exact z
theorem cv_non {o : Option Nat} (h : cv o = .non) : o = none := by
  cases o with
  | none => rfl
  | some k => cases h
def CBInv (H : Hp) (rd rs g f : Addr) (n : Nat) (s : CB) (σ' : L2.St) (H' : Hp) : Prop := Ex H H' ∧ CBAt H' rd rs s ∧ s.d.length = n ∧ s.st.length = n ∧ ∃ y6 y7 y8 y9 y10, σ' = [some (.ref g), some (.ref f), some (.int (n : Int)), some (.ref rd), some (.ref rs), some (cv s.last), y6, y7, y8, y9, y10]
def CBInvC (H : Hp) (rd rs g f : Addr) (n u : Nat) (s : CB) (σ' : L2.St) (H' : Hp) : Prop := Ex H H' ∧ CBAt H' rd rs s ∧ s.d.length = n ∧ s.st.length = n ∧ ∃ y6 y8 y9 y10, σ' = [some (.ref g), some (.ref f), some (.int (n : Int)), some (.ref rd), some (.ref rs), some (cv s.last), y6, some (.int (u : Int)), y8, y9, y10]
theorem q_setU {σ : L2.St} {H : Hp} {D : Ends} {tz : TS} {te ta tb : TE} {l : Addr} {xs ys : List V} {j : Nat} (hl : H l = some (.lst xs)) (h : EvU te σ H ys) (ho : Ev ta σ H (.ref l)) (hi : Ev tb σ H (.int (j : Int))) (hj : j < xs.length) (k : ∀ p H1, H p = none → Ex H H1 → H1 p = some (.tup ys) → tz D σ (upd H1 l (.lst (xs.set j (.ref p))))) :
    tSeq (tAsg te (gSub ta tb rSetL)) tz D σ H := h H (Ex.refl H) _ fun p H1 hp e1 h1 => ho H1 e1 _ fun H2 e2 => hi H2 (e1.trans e2) _ fun H3 e3 =>
  ⟨l, xs, (j : Int), j, rfl, rfl, ((e1.trans e2).trans e3) l _ hl, ixN_nat hj, k p H3 hp ((e1.trans e2).trans e3) ((e2.trans e3) _ _ h1)⟩
theorem gives_circleBelow {k0 : Nat} (T : Bt mg) : GivesW P w K mg base k0 nPCircleBelow "circle_below" (defScope sPCircleBelow) (defBody sPCircleBelow) "weight" tW spCB := by
  intro A stack ga f c' cdg s H Q v0 m qn hr act hc hsp
  obtain ⟨g, G, rfl, rfl, hG, gok, hlen, hq0, hq1⟩ := hsp
  obtain ⟨gs, g1, g2, g3⟩ := hG.get
  refine ⟨_, (pss_cons (ps_set (i := 2) scPCircleBelow.nd rfl (Or.inl rfl) (pe_callB (call_lenK (K := K)) (by rfl) T.b_len PySem.boot_len (pa_cons (pv 0) pa_nil)))
      (pss_cons (ps_setLc (i := 3) (own := [("cell", 7)]) rfl scPCircleBelow.nd rfl rfl (sw_true rfl rfl rfl (by decide +kernel)) (pi_list (pv 0)) (blkOk_by (own := [("cell", 7)]) (N := nPCircleBelow) (sc := defScope sPCircleBelow) (by decide +kernel)) (fun _ _ _ _ _ => (pg_name (i := 7) scPCircleBelow.nd rfl (Or.inl rfl))) (fun _ _ _ _ _ => pts_nil) (fun _ _ _ _ _ => pe_int))
      (pss_cons (ps_setLc (i := 4) (own := [("cell", 7)]) rfl scPCircleBelow.nd rfl rfl (sw_true rfl rfl rfl (by decide +kernel)) (pi_list (pv 0)) (blkOk_by (own := [("cell", 7)]) (N := nPCircleBelow) (sc := defScope sPCircleBelow) (by decide +kernel)) (fun _ _ _ _ _ => (pg_name (i := 7) scPCircleBelow.nd rfl (Or.inl rfl))) (fun _ _ _ _ _ => pts_nil) (fun _ _ _ _ _ => pe_non))
      (pss_cons (ps_set (i := 5) scPCircleBelow.nd rfl (Or.inl rfl) pe_non)
      (pss_cons (ps_for PassesOwn.never rfl (pi_range1 (by rfl) T.b_range (pa_cons (pe_op op_add (pv 2) pe_int) pa_nil)) (pg_name (i := 6) scPCircleBelow.nd rfl (Or.inl rfl)) (pss_cons (ps_set (i := 5) scPCircleBelow.nd rfl (Or.inl rfl) pe_non)
      (pss_cons (ps_for PassesOwn.never rfl (pi_range1 (by rfl) T.b_range (pa_cons (pv 2) pa_nil)) (pg_name (i := 7) scPCircleBelow.nd rfl (Or.inl rfl)) (pss_one (ps_for PassesOwn.never rfl (pi_list (pe_ix (ix_listK (K := K)) (pv 0) (pv 7) (fun _ _ => rfl))) (pg_tupK (K := K) (n := 2) rfl (pgs_cons (pg_name (i := 8) scPCircleBelow.nd rfl (Or.inl rfl)) (pgs_cons (pg_name (i := 9) scPCircleBelow.nd rfl (Or.inl rfl)) pgs_nil))) (pss_one (ps_if (pt_cmpR op_lt (pe_op op_add (pe_ix (ix_listK (K := K)) (pv 3) (pv 8) (fun _ _ => rfl)) (act _ _ _ _ (pv 9) rfl)) (pe_ix (ix_listK (K := K)) (pv 3) (pv 7) (fun _ _ => rfl)) (nomark _)) (pss_cons (ps_asg (pe_op op_add (pe_ix (ix_listK (K := K)) (pv 3) (pv 8) (fun _ _ => rfl)) (act _ _ _ _ (pv 9) rfl)) (pg_sub (pv 3) (pv 7) set_list))
      (pss_cons (ps_asg (pe_tup (pa_cons (pv 8) (pa_cons (pv 9) pa_nil))) (pg_sub (pv 4) (pv 7) set_list))
      (pss_one (ps_set (i := 5) scPCircleBelow.nd rfl (Or.inl rfl) (pv 7))))) pss_nil)))))
      (pss_one (ps_if (pt_cmpR op_isN (pv 5) pe_non (nomark _)) (pss_one (ps_ret pe_non)) pss_nil)))))
      (pss_cons (ps_for PassesOwn.never rfl (pi_range1 (by rfl) T.b_range (pa_cons (pv 2) pa_nil)) (pg_name (i := 6) scPCircleBelow.nd rfl (Or.inl rfl)) (pss_one (ps_set (i := 5) scPCircleBelow.nd rfl (Or.inl rfl) (pe_ix (ix_tupK (K := K)) (pe_ix (ix_listK (K := K)) (pv 4) (pv 5) (fun _ _ => rfl)) pe_int (fun _ _ => rfl)))))
      (pss_cons (ps_set (i := 10) scPCircleBelow.nd rfl (Or.inl rfl) (pe_lst pa_nil))
      (pss_cons (ps_set (i := 7) scPCircleBelow.nd rfl (Or.inl rfl) (pv 5))
      (pss_one (ps_while PassesOwn.never (pt_val pe_bl) (pss_cons (ps_expr (pe_bm PySem.F.plainAttrs_list PySem.F.slot_list_append PySem.F.type_list_append mt_append (pv 10) (pa_cons (pe_tup (pa_cons (pv 7) (pa_cons (pe_ix (ix_tupK (K := K)) (pe_ix (ix_listK (K := K)) (pv 4) (pv 7) (fun _ _ => rfl)) pe_int (fun _ _ => rfl)) pa_nil))) pa_nil)))
      (pss_cons (ps_set (i := 7) scPCircleBelow.nd rfl (Or.inl rfl) (pe_ix (ix_tupK (K := K)) (pe_ix (ix_listK (K := K)) (pv 4) (pv 7) (fun _ _ => rfl)) pe_int (fun _ _ => rfl)))
      (pss_one (ps_if (pt_cmpR op_eq (pv 7) (pv 5) (nomark _)) (pss_one (ps_ret (pv 10))) pss_nil)))))))))))))), ?_⟩
  refine q_asg (ev_lenG (ev_var rfl) hG) fun H1 e1 => ?_
  refine q_asgL (el_arcL (v := .int 0) (ev_var rfl) (hG.ex e1) hlen (fun _ => rfl) fun σ H => ev_c) fun rd H2 hrd e2 h2 => ?_
  have e12 := e1.trans e2
  refine q_asgL (el_arcL (v := .non) (ev_var rfl) (hG.ex e12) hlen (fun _ => rfl) fun σ H => ev_c) fun rs H3 hrs e3 h3 => ?_
  have e13 := e12.trans e3
  have hrd0 : H rd = none := fresh_back e1 hrd
  have hrs0 : H rs = none := fresh_back e12 hrs
  have hne : rd ≠ rs := ne_of_none h2 hrs
  have gN : G[0]? = G[0]? := rfl
  have cm : ∀ z : Int, CMul (G.length : Int) z := fun z => .inl ⟨by omega, by omega⟩
  have ca0 : CBAt H3 rd rs (cb0 G.length) := by
    refine ⟨?_, _, h3, ?_⟩
    · have e : (cb0 G.length).d.map V.int = List.replicate G.length (V.int 0) := List.map_replicate
      rw [e]
      exact e3 _ _ h2
    · show Paired (StAt H3) (List.replicate G.length V.non) (List.replicate G.length none)
      have : ∀ n, Paired (StAt H3) (List.replicate n V.non) (List.replicate n none) := fun n => by
        induction n with
        | zero => exact .nil
        | succ n ih => exact .cons rfl ih
      exact this _
  refine q_asg ev_c fun H4 e4 => ?_
  have e14 := e13.trans e4
  refine q_forR1 (n := ((G.length + 1 : Nat) : Int)) (ea_cons (ev_is (ev_add (ev_var rfl) ev_c) (by show V.int ((G.length : Int) + 1) = V.int ((G.length + 1 : Nat) : Int); rfl)) ea_nil) (by omega)
    (fun i σ' H' => ∃ s1 : CB, cbLoop G (G.length + 1) (cb0 G.length) = cbLoop G (G.length + 1 - i) s1 ∧ CBInv H rd rs g f G.length s1 σ' H')
    (fun H5 e5 => ⟨cb0 G.length, rfl, e14.trans e5, ca0.ex (e4.trans e5), List.length_replicate, List.length_replicate, _, _, _, _, _, rfl⟩) (fun i σ' H' hi Pn => ?_) fun σ' H' Pn => ?_
  · obtain ⟨s1, hL, e, ca, hd, hst, y6, y7, y8, y9, y10, rfl⟩ := Pn
    refine q_asg ev_c fun H5 e5 => ?_
    refine q_forR1 (n := (G.length : Int)) (ea_cons (ev_var rfl) ea_nil) (by omega) (fun j σ' H' => CBInv H rd rs g f G.length ((List.range j).foldl (cbCell G) { s1 with last := none }) σ' H')
      (fun H6 e6 => ⟨(e.trans e5).trans e6, (ca.last none).ex (e5.trans e6), hd, hst, _, _, _, _, _, rfl⟩) (fun u σ' H' hu Pu => ?_) fun σ' H' Pu => ?_
    · have hu' : u < G.length := by omega
      rw [range_fold_succ]
      generalize hS2 : (List.range u).foldl (cbCell G) { s1 with last := none } = s2 at Pu ⊢
      obtain ⟨ex2, ca2, hd2, hst2, z6, z7, z8, z9, z10, rfl⟩ := Pu
      obtain ⟨b, hb3, hb4⟩ := g3 u _ (gG_get hu')
      have gok2 := gok.ok u _ (gG_get hu')
      refine s_forA (arcs := gG G u) (ev_xL (ev_var rfl) (ev_var rfl) (ex2 g _ g1) (atI_nat hb3)) hb4 (ex_xn ex2) (fun k σ' H' => CBInvC H rd rs g f G.length u (((gG G u).take k).foldl (cbArc (G.length : Int) u) s2) σ' H')
        (fun H6 e6 => ⟨ex2.trans e6, ca2.ex e6, hd2, hst2, _, _, _, _, rfl⟩) (fun k σ' H' q => ex_xn q.1) (fun k p σ' H' hp Pk => ?_) fun σ' H' Pk => ?_
      · rw [foldl_take hp]
        generalize hS3 : ((gG G u).take k).foldl (cbArc (G.length : Int) u) s2 = s3 at Pk ⊢
        obtain ⟨ek, cak, hdk, hstk, x6, x8, x9, x10, rfl⟩ := Pk
        have hp1 := (gok2 p (List.mem_of_getElem? hp)).1
        have exprV : ∀ H', Ex H H' → CBAt H' rd rs s3 → Ev (tOp (rI0 fun i j => V.int (i + j)) (tOp (rIxL K) (tVar 3) (tVar 8)) (tAct f c' qn 1 (V.int (G.length : Int)) tW (tVar 9))) [some (.ref g), some (.ref f), some (.int (G.length : Int)), some (.ref rd), some (.ref rs), some (cv s3.last), x6, some (.int (u : Int)), some (.int (p.1 : Int)), some (.int p.2), x10] H' (.int (gD s3.d p.1 + wG G.length p)) := fun H' e' ca' =>
          ev_add (ev_xL (ev_var rfl) (ev_var rfl) ca'.ds (at_gD (by rw [hdk]; exact hp1))) (ev_act rfl (ev_var rfl) (e' _ _ hc) fun H1 _ => ev_tW (cm _))
        rw [cbArc_eq]
        refine s_when (et_test (ev_lt (exprV _ ek cak) (ev_xL (ev_var rfl) (ev_var rfl) cak.ds (at_gD (by rw [hdk]; exact hu'))))) (fun hb H6 e6 => ?_) fun hb H6 e6 => ?_
        · have hlt := of_decide_eq_true hb
          rw [if_pos hlt]
          have ca6 := cak.ex e6
          have ek6 := ek.trans e6
          refine q_setL ca6.ds (exprV _ ek6 ca6) (ev_var rfl) (ev_var rfl) (by rw [List.length_map, hdk]; exact hu') fun H7 e7 => ?_
          have ca7 := ca6.ex e7
          obtain ⟨xs, s1', s2'⟩ := ca7.sts
          have s1u : (upd H7 rd (.lst ((s3.d.map V.int).set u (.int (gD s3.d p.1 + wG G.length p))))) rs = some (.lst xs) := by
            rw [upd_ne (Ne.symm hne)]
            exact s1'
          have ex7 : Ex H (upd H7 rd (.lst ((s3.d.map V.int).set u (.int (gD s3.d p.1 + wG G.length p))))) := Ex.mut (ek6.trans e7) hrd0
          refine q_setU s1u (eu_tup (ea_cons (ev_var rfl) (ea_cons (ev_var rfl) ea_nil)) (by show 2 ≤ 100000; decide)) (ev_var rfl) (ev_var rfl) (by rw [paired_len s2', hstk]; exact hu') fun b H8 hb8 e8 hb8' => ?_
          refine s_asg (ev_var rfl) fun H9 e9 => ⟨(Ex.mut (ex7.trans e8) hrs0).trans e9, ?_, by show (s3.d.set u _).length = _; rw [List.length_set]; exact hdk, by show (s3.st.set u _).length = _; rw [List.length_set]; exact hstk, _, _, _, _, rfl⟩
          refine CBAt.ex ⟨?_, xs.set u (.ref b), upd_same, ?_⟩ e9
          · rw [upd_ne hne]
            show H8 rd = some (.lst ((s3.d.set u (gD s3.d p.1 + wG G.length p)).map V.int))
            rw [List.map_set]
            exact e8 _ _ upd_same
          · refine paired_set ⟨b, rfl, ?_⟩ (pm s2' fun v o hv => ?_)
            · exact ((hv.up ca7.ds).ex e8).up (e8 _ _ s1u)
            · rw [upd_ne (ne_of hb8' (e8 _ _ s1u) (by intro z; cases z))]
              exact hb8'
        · have hlt := of_decide_eq_false hb
          rw [if_neg hlt]
          exact ⟨ek.trans e6, cak.ex e6, hdk, hstk, _, _, _, _, rfl⟩
      · obtain ⟨ek, cak, hdk, hstk, x6, x8, x9, x10, rfl⟩ := Pk
        rw [List.take_of_length_le (Nat.le_refl _)] at cak hdk hstk
        rw [List.take_of_length_le (Nat.le_refl _)]
        exact ⟨ek, cak, hdk, hstk, _, _, _, _, _, rfl⟩
    · rw [Int.toNat_natCast] at Pu
      have eR : (List.range G.length).foldl (cbCell G) { s1 with last := none } = cbRound G s1 := rfl
      rw [eR] at Pu
      obtain ⟨ex2, ca2, hd2, hst2, z6, z7, z8, z9, z10, rfl⟩ := Pu
      have hi' : i < G.length + 1 := by omega
      have eL : G.length + 1 - i = (G.length + 1 - (i + 1)) + 1 := by omega
      rw [eL] at hL
      refine s_when (et_test (ev_isNV (ev_var rfl))) (fun hb H6 e6 => s_ret ev_c fun H7 e7 => ?_) fun hb H6 e6 => ⟨cbRound G s1, ?_, ex2.trans e6, ca2.ex e6, hd2, hst2, _, _, _, _, _, rfl⟩
      · refine hq0 ?_ H7 ((ex2.trans e6).trans e7)
        rw [hL]
        unfold cbLoop
        rw [if_pos (cv_non (of_decide_eq_true hb))]
      · rw [hL]
        show (if (cbRound G s1).last = none then none else _) = _
        rw [if_neg fun e => by rw [e] at hb; cases hb]
  · obtain ⟨s1, hL, e, ca, hd, hst, y6, y7, y8, y9, y10, rfl⟩ := Pn
    rw [Int.toNat_natCast, Nat.sub_self] at hL
    have hL : cbLoop G (G.length + 1) (cb0 G.length) = some s1 := hL
    obtain ⟨_, a, ha, hall, k, hk0, hkn, hk1, hmin, hcirc⟩ := cb_some (fun u hu p hp => (gok.ok u _ (gG_get hu) p hp).1) hL
    refine q_forR1 (n := (G.length : Int)) (ea_cons (ev_var rfl) ea_nil) (by omega) (fun i σ' H' => Ex H H' ∧ CBAt H' rd rs s1 ∧ ∃ y6 y7 y8 y9 y10, σ' = [some (.ref g), some (.ref f), some (.int (G.length : Int)), some (.ref rd), some (.ref rs), some (nv (itN s1.st i a)), y6, y7, y8, y9, y10])
      (fun H5 e5 => ⟨e.trans e5, ca.ex e5, y6, y7, y8, y9, y10, by rw [ha]; rfl⟩) (fun i σ' H' hi Pn => ?_) fun σ' H' Pn => ?_
    · obtain ⟨ei, cai, z6, z7, z8, z9, z10, rfl⟩ := Pn
      obtain ⟨p, hp, _⟩ := hall i
      obtain ⟨xs, b, t1, t2, t3⟩ := cai.step hp
      refine s_asg (ev_xT (ev_xL (ev_var rfl) (ev_var rfl) t1 t2) ev_c t3 at0) fun H5 e5 => ⟨ei.trans e5, cai.ex e5, some (.int (i : Int)), z7, z8, z9, z10, ?_⟩
      have en : itN s1.st (i + 1) a = p.1 := by
        show ((gS s1.st (itN s1.st i a)).getD (0, 0)).1 = p.1
        rw [hp]
        rfl
      rw [en]
      rfl
    · obtain ⟨ei, cai, z6, z7, z8, z9, z10, rfl⟩ := Pn
      rw [Int.toNat_natCast]
      generalize hLL : itN s1.st G.length a = L at hk1 hmin hcirc ⊢
      have hallL : ∀ i, ∃ p, gS s1.st (itN s1.st i L) = some p := fun i => by
        rw [← hLL, ← itN_add]
        exact (hall _).elim fun p hp => ⟨p, hp.1⟩
      refine q_asgL (el_lst ea_nil (Nat.zero_le _)) fun rc H5 hrc e5 h5 => ?_
      have hrc0 : H rc = none := fresh_back ei hrc
      have nrd : rd ≠ rc := ne_of_none cai.ds hrc
      have nrs : rs ≠ rc := by
        obtain ⟨xs, h1, _⟩ := cai.sts
        exact ne_of_none h1 hrc
      refine q_asg (ev_var rfl) fun H6 e6 => ?_
      refine s_while (fun m σ' H' => ∃ i, m = k - i ∧ i < k ∧ Ex H H' ∧ CBAt H' rd rs s1 ∧ (∃ ads : List Addr, H' rc = some (.lst (ads.map V.ref)) ∧ Paired (fun a p => H' a = some (.tup (arcV p))) ads (cycOf s1.st L i)) ∧ ∃ y6 y8 y9, σ' = [some (.ref g), some (.ref f), some (.int (G.length : Int)), some (.ref rd), some (.ref rs), some (nv L), y6, some (nv (itN s1.st i L)), y8, y9, some (.ref rc)]) k
        ⟨0, rfl, hk0, (ei.trans e5).trans e6, cai.ex (e5.trans e6), ⟨[], e6 _ _ h5, .nil⟩, _, _, _, rfl⟩ fun m σ' H' Wm => ?_
      obtain ⟨i, rfl, hik, ew, caw, ⟨ads, a1, a2⟩, y6, y8, y9, rfl⟩ := Wm
      refine ⟨true, et_B ev_c, fun _ H7 e7 => ⟨fun σ' H' => i + 1 < k ∧ Ex H H' ∧ CBAt H' rd rs s1 ∧ (∃ ads : List Addr, H' rc = some (.lst (ads.map V.ref)) ∧ Paired (fun a p => H' a = some (.tup (arcV p))) ads (cycOf s1.st L (i + 1))) ∧ ∃ y6 y8 y9, σ' = [some (.ref g), some (.ref f), some (.int (G.length : Int)), some (.ref rd), some (.ref rs), some (nv L), y6, some (nv (itN s1.st (i + 1) L)), y8, y9, some (.ref rc)], fun σ2 H2 N => ⟨k - (i + 1), by omega, i + 1, rfl, N.1, N.2⟩, ?_⟩, fun h => by cases h⟩
      obtain ⟨p, hp⟩ := hallL i
      have ca7 := caw.ex e7
      obtain ⟨xs, b, t1, t2, t3⟩ := ca7.step hp
      have alen : (ads.map V.ref).length < 100000 := by
        rw [List.length_map, paired_len a2, cycOf_len]
        omega
      refine q_appU (e7 _ _ a1) (ev_var rfl) (eu_tup (ea_cons (ev_var rfl) (ea_cons (ev_xT (ev_xL (ev_var rfl) (ev_var rfl) t1 t2) ev_c t3 at1) ea_nil)) (by show 2 ≤ 100000; decide)) alen fun q H8 hq8 e8 hq8' => ?_
      have a18 := (e7.trans e8) _ _ a1
      have ca8 := ca7.ex e8
      have ex8 : Ex H (upd H8 rc (.lst (ads.map V.ref ++ [.ref q]))) := Ex.mut ((ew.trans e7).trans e8) hrc0
      have ca9 : CBAt (upd H8 rc (.lst (ads.map V.ref ++ [.ref q]))) rd rs s1 := by
        obtain ⟨xs, u1, u2⟩ := ca8.sts
        refine ⟨by rw [upd_ne nrd]; exact ca8.ds, xs, by rw [upd_ne nrs]; exact u1, pm u2 fun v o hv => hv.up a18⟩
      have a2' : Paired (fun a p => (upd H8 rc (.lst (ads.map V.ref ++ [.ref q]))) a = some (.tup (arcV p))) (ads ++ [q]) (cycOf s1.st L (i + 1)) := by
        rw [cycOf_succ]
        refine paired_snoc (pm a2 fun a p h => ?_) ?_
        · rw [upd_ne (ne_of ((e7.trans e8) _ _ h) a18 (by intro z; cases z))]
          exact (e7.trans e8) _ _ h
        · rw [upd_ne (ne_of hq8' a18 (by intro z; cases z)), hq8', hp]
          rfl
      obtain ⟨xs', b', t1', t2', t3'⟩ := ca9.step hp
      have en : itN s1.st (i + 1) L = p.1 := by
        show ((gS s1.st (itN s1.st i L)).getD (0, 0)).1 = p.1
        rw [hp]
        rfl
      refine q_asg (ev_xT (ev_xL (ev_var rfl) (ev_var rfl) t1' t2') ev_c t3' at0) fun H9 e9 => ?_
      have a19 : H9 rc = some (.lst ((ads ++ [q]).map V.ref)) := by
        rw [List.map_append]
        exact e9 _ _ upd_same
      have a29 : Paired (fun a p => H9 a = some (.tup (arcV p))) (ads ++ [q]) (cycOf s1.st L (i + 1)) := pm a2' fun a p h => e9 _ _ h
      refine s_when (et_test (ev_eq (ev_var rfl) (ev_var rfl) rfl)) (fun hb H10 e10 => s_ret (ev_var rfl) fun H11 e11 => ?_) fun hb H10 e10 => ?_
      · have hb : V.int (p.1 : Int) = V.int (L : Int) := of_decide_eq_true hb
        have e2 : itN s1.st (i + 1) L = L := by
          have := V.int.inj hb
          rw [en]
          omega
        have ek : i + 1 = k := by
          by_cases q : i + 1 < k
          · exact absurd e2 (hmin (i + 1) (by omega) q)
          · omega
        rw [ek] at a29
        exact hq1 (by rw [hL]; intro h; cases h) _ rc H11 hcirc hrc0 ((ex8.trans e9).trans (e10.trans e11)) ⟨_, (e10.trans e11) _ _ a19, pm a29 fun a p h => (e10.trans e11) _ _ h⟩
      · have hb := of_decide_eq_false hb
        refine ⟨?_, (ex8.trans e9).trans e10, ca9.ex (e9.trans e10), ⟨_, e10 _ _ a19, pm a29 fun a p h => e10 _ _ h⟩, y6, y8, y9, by rw [en]; rfl⟩
        by_cases q : i + 1 < k
        · exact q
        · exfalso
          have ek : i + 1 = k := by omega
          refine hb ?_
          rw [← en, ek, hk1]
end Cs
set_option Elab.async false
set_option linter.all false
set_option maxRecDepth 100000
set_option maxHeartbeats 4000000
/-! H: least_with -/
namespace Cs
open PySem PySem.Spec PyProof.Rows L2 Evl LamX
variable {P : Program} {w : World} {K : PySem.W.Frag} {mg : Str → Option Value} {base : Heap}
/-- a list made over range(n), its items made on the way -/
theorem ed_lcR {n : Nat} {j : Nat} {σ : L2.St} {H : Hp} {ta : TA} {te : TE} (R : Nat → V → Hp → Prop) (m : ∀ i, Mono (R i)) (h : EvA ta σ H [.int (n : Int)]) (hn : n ≤ 50000) (hw : ∀ x, wipe ((wipe σ [j]).set j (some x)) [j] = wipe σ [j])
    (he : ∀ (i : Nat) H1 r (xs : List V), Ex H H1 → H r = none → H1 r = some (.lst xs) → i < n → EvD te ((wipe σ [j]).set j (some (.int (i : Int)))) H1 r (R i)) {Q : VK}
    (q : ∀ p H2 xs, H p = none → Ex H H2 → H2 p = some (.lst xs) → Paired (fun v i => R i v (hd H2 p)) xs (List.range n) → Q (.ref p) H2) :
    tLc (iRng1 ta) (gName j) tYes te [j] σ H Q := h H (Ex.refl H) _ fun H1 e1 => ⟨(n : Int), rfl, by omega, by omega, fun Dl hD => by
  refine lc_range (lo := 0) (n := (n : Int).toNat) (fun i H' => H1 Dl = none ∧ Ex H1 H' ∧ ∃ xs, H' Dl = some (.lst xs) ∧ Paired (fun v k => R k v (hd H' Dl)) xs (List.range i)) ⟨hD, Ex.new hD, [], upd_same, .nil⟩ (fun i H' hi q' => ?_) fun H' q' => ?_
  · have hi' : i < n := by omega
    have e0 : (0 : Int) + (i : Int) = (i : Int) := Int.zero_add _
    show wipe ((wipe σ [j]).set j (some (.int ((0 : Int) + (i : Int))))) [j] = wipe σ [j] ∧ tYes ((wipe σ [j]).set j (some (.int ((0 : Int) + (i : Int))))) H' _
    rw [e0]
    refine ⟨hw _, ?_⟩
    obtain ⟨q1, q2, xs, q3, q4⟩ := q'
    show te _ H' _
    refine he i H' Dl xs (e1.trans q2) (fresh_back e1 q1) q3 hi' H' (Ex.refl _) _ fun v H3 e3 r3 => ⟨xs, e3 _ _ q3, ?_, q1, Ex.mut (q2.trans e3) q1, xs ++ [v], upd_same, ?_⟩
    · have := paired_len q4
      rw [List.length_range] at this
      exact sz_lt (by omega)
    · rw [hd_upd, List.range_succ]
      exact paired_snoc (pm q4 fun v k z => m k v _ _ (hd_ex e3) z) r3
  · obtain ⟨q1, q2, xs, q3, q4⟩ := q'
    exact q Dl H' xs (fresh_back e1 q1) (e1.trans q2) q3 q4⟩
/-- a def called, what it gives put into a name -/
theorem q_asgK {σ : L2.St} {H : Hp} {D : Ends} {tz : TS} {ta : TA} {sp : Sp} {vs : List V} {i : Nat} (ha : EvA ta σ H vs) (k : ∀ H1, Ex H H1 → sp (vs ++ []) H1 (fun v H2 => tz D (σ.set i (some v)) H2) L2.E0) : tSeq (tAsg (tCall sp [] L2.E0 ta) (gName i)) tz D σ H := ha H (Ex.refl H) _ fun H1 e1 => k H1 e1
theorem Xn.trans {H H1 H2 : Hp} (a : Xn H H1) (b : Xn H1 H2) : Xn H H2 := ExtN.trans a b
theorem hd_xn {H H' : Hp} {r : Addr} (e : Xn H H') : Xn (hd H r) (hd H' r) := fun a o h n => by
  by_cases q : a = r
  · unfold hd at h
    rw [if_pos q] at h
    cases h
  · rw [hd_at q] at h ⊢
    exact e a o h n
/-- nothing but a table stands there -/
def NT (H : Hp) (p : Addr) : Prop := ∀ o, H p = some o → ∃ ps, o = .tbl ps
theorem nt_none {H : Hp} {p : Addr} (h : H p = none) : NT H p := fun o e => by
  rw [h] at e
  cases e
theorem nt_back {H H1 : Hp} {p : Addr} (e : Xn H H1) (h : NT H1 p) : NT H p := fun o ho => by
  cases Classical.em (∃ ps, o = .tbl ps) with
  | inl z => exact z
  | inr z => exact h o (e p o ho fun ps q => z ⟨ps, q⟩)
/-- nothing that is no table is lost when a new address is written -/
theorem Xn.mut {H H1 : Hp} {p : Addr} {o : HO} (e : Xn H H1) (h : NT H p) : Xn H (upd H1 p o) := fun b u hb n => by
  have q : b ≠ p := fun z => by
    rw [z] at hb
    obtain ⟨ps, e⟩ := h u hb
    exact n ps e
  rw [upd_ne q]
  exact e b u hb n
/-- a new list made within a name -/
theorem q_asgLcR {n : Nat} {j i : Nat} {σ : L2.St} {H : Hp} {ta : TA} {te : TE} {D : Ends} {tz : TS} (R : Nat → V → Hp → Prop) (m : ∀ i, Mono (R i)) (h : EvA ta σ H [.int (n : Int)]) (hn : n ≤ 50000) (hw : ∀ x, wipe ((wipe σ [j]).set j (some x)) [j] = wipe σ [j])
    (he : ∀ (i : Nat) H1 r (xs : List V), Ex H H1 → H r = none → H1 r = some (.lst xs) → i < n → EvD te ((wipe σ [j]).set j (some (.int (i : Int)))) H1 r (R i))
    (q : ∀ p H2 xs, H p = none → Ex H H2 → H2 p = some (.lst xs) → Paired (fun v i => R i v (hd H2 p)) xs (List.range n) → tz D (σ.set i (some (.ref p))) H2) :
    tSeq (tAsg (tLc (iRng1 ta) (gName j) tYes te [j]) (gName i)) tz D σ H := ed_lcR R m h hn hw he (Q := fun v H2 => tz D (σ.set i (some v)) H2) q
theorem paired_refs {β γ : Type} {F : Addr → β → Prop} {f : γ → β} {G : V → γ → Prop} : ∀ {xs : List V} {l : List γ}, Paired G xs l → (∀ v c, G v c → ∃ a, v = .ref a ∧ F a (f c)) → ∃ ads : List Addr, xs = ads.map V.ref ∧ Paired F ads (l.map f)
  | _, _, .nil, _ => ⟨[], rfl, .nil⟩
  | _, _, .cons g t, h => by
    obtain ⟨a, rfl, ha⟩ := h _ _ g
    obtain ⟨ads, rfl, ht⟩ := paired_refs t h
    exact ⟨a :: ads, rfl, .cons ha ht⟩
theorem tabs_upd {Tt : List (Addr × Str)} {H : Hp} {r : Addr} {xs ys : List V} (h : Tabs Tt H) (hr : H r = some (.lst xs)) : Tabs Tt (upd H r (.lst ys)) := fun p hp => by
  obtain ⟨ps, h1, h2, h3⟩ := h p hp
  refine ⟨ps, by rw [upd_ne (ne_of h1 hr (by intro z; cases z))]; exact h1, h2, fun pos cv hcv => ?_⟩
  obtain ⟨c, e1, e2⟩ := h3 pos cv hcv
  exact ⟨c, e1, by rw [upd_ne (ne_of e2 hr (by intro z; unfold CodeO at z; cases z))]; exact e2⟩
abbrev lwQ : Str := (("least_with" : Str) ++ ".<locals>.") ++ "<lambda>"
/-- the def that makes a lambda: its table too -/
structure HasT (K : PySem.W.Frag) (mg : Str → Option Value) (base : Heap) (Pt : Addr) : Prop where
  ex : ∃ (f : Addr) (fd : FuncData) (c : Addr), mg "least_with" = some (.ref f) ∧ FunD K "least_with" "least_with" (defArgs sPLeastWith) (defBody sPLeastWith) (defScope sPLeastWith) [] [] f fd ∧ fd.code = .ref c ∧ TabB base mg c Pt
abbrev TT1 (Pt : Addr) : List (Addr × Str) := [(Pt, lwQ)]
def RetX (Pt : Addr) (xs : List V) (H : Hp) (Q : VK) : Prop := ∀ r H2, NT H r → Xn H H2 → Tabs (TT1 Pt) H2 → H2 r = some (.lst xs) → Q (.ref r) H2
def spLeastWith (Pt : Addr) : Sp := fun vs H Q _ => ∃ (a p : Addr) (S : List Fm) (ch : Ch), vs = [.ref a, .ref p] ∧ SheetAt H a S ∧ H p = some (.lst (ch.map cv)) ∧ Wf S ∧ Plain S ∧ ChOk S ch ∧ Tabs (TT1 Pt) H ∧ RetX Pt ((lfpL (chS S ch)).map av) H Q
theorem ok_leastWith {Pt : Addr} (T : Bt mg) (h : HasT K mg base Pt) (hC : Has K mg "circle_below" sPCircleBelow) (cPToldArcs : Cl P w K mg base 2 "told_arcs" spToldArcs) (cPNoughtCell : Cl P w K mg base 1 "nought_cell" spNoughtCell) (cPRoundsDown : Cl P w K mg base 2 "rounds_down" spRoundsDown) :
    Cl P w K mg base 3 "least_with" (spLeastWith Pt) := by
  obtain ⟨f, fd, c, hm, F, hcode, TB⟩ := h.ex
  obtain ⟨g, fdC, hmC, FC⟩ := hC
  have hbC : L2.Binds K fdC ["arcs", "weight"] [] := FC.bindsN (ps := ["arcs", "weight"]) fun _ _ _ _ _ _ us hl => match us, hl with | [_, _], _ => rfl
  have hb : L2.Binds K fd pPLeastWith [] := F.bindsN (ps := pPLeastWith) fun _ _ _ _ _ _ us hl => match us, hl with | [_, _], _ => rfl
  refine ⟨f, fd, pPLeastWith, ?_, hm, F.kp, hb⟩
  obtain ⟨oc, od, dV, kV, doc, pmv, an, cdv, ct, osl, rfl, lk, hcd, _, _⟩ := F.ex
  have ecd : cdv = .ref c := hcode
  subst ecd
  refine fn_of lk hcd scPLeastWith (fun vs H Q E h => ?_) fun A outer s H vs Q E hr h => ?_
  · obtain ⟨a, p, S, ch, rfl, _⟩ := h
    rfl
  obtain ⟨a, p, S, ch, rfl, hS, hp, ok, pl, hch, hT, q⟩ := h
  have ms := ms_of ok pl
  have gok := told_gok ok hch
  have hmT : (Pt, lwQ) ∈ TT1 Pt := List.mem_singleton.mpr rfl
  have huT : ∀ p ∈ TT1 Pt, p.1 = Pt → p.2 = lwQ := fun p hp _ => by
    rw [List.mem_singleton.mp hp]
  have key : ∃ t, PSs (cxOf L2.CX0 P w K mg base nPLeastWith "least_with" (defScope sPLeastWith) f (.ref c) A outer s H E).nox (defBody sPLeastWith) t ∧ t { nx := fun _ H' => Q .non H', rt := Q } (L2.start nPLeastWith [.ref a, .ref p]) H := by
    refine ⟨_, (pss_cons (ps_set (i := 2) scPLeastWith.nd rfl (Or.inr rfl) (pe_callB (call_lenK (K := K)) (by rfl) T.b_len PySem.boot_len (pa_cons (pv 0) pa_nil)))
      (pss_cons (ps_set (i := 3) scPLeastWith.nd rfl (Or.inr rfl) (pe_k cPToldArcs (hr.mono (by decide)) (by rfl) (pa_cons (pv 0) (pa_cons (pv 1) (pa_cons pe_str pa_nil)))))
      (pss_cons (ps_set (i := 4) scPLeastWith.nd rfl (Or.inr rfl) (pe_lst pa_nil))
      (pss_one (ps_while PassesOwn.never (pt_val pe_bl) (pss_cons (ps_setLc (i := 5) (own := [("cell", 7)]) rfl scPLeastWith.nd rfl rfl (sw_true rfl rfl rfl (by decide +kernel)) (pi_range1 (by rfl) T.b_range (pa_cons (pv 2) pa_nil)) (blkOk_by (own := [("cell", 7)]) (N := nPLeastWith) (sc := defScope sPLeastWith) (by decide +kernel)) (fun _ _ _ _ _ => (pg_name (i := 7) scPLeastWith.nd rfl (Or.inl rfl))) (fun _ _ _ _ _ => pts_nil) (fun _ _ _ _ _ => (pe_ifExp (pt_cmpR (op_inK (K := K)) (pv 7) (pv 4) (by rfl)) (pe_lst pa_nil) (pe_ix (ix_listK (K := K)) (pv 3) (pv 7) (fun _ _ => rfl)))))
      (pss_cons (ps_set (i := 6) scPLeastWith.nd rfl (Or.inl rfl) (pe_lam1 (X := _) (a := "weight") (b := "arcs") (im := 2) (by rfl) hmC FC hbC scPCircleBelow rfl (Or.inl rfl) (gives_circleBelow T) (pv 5) rfl TB rfl hmT huT hr (NdefX.nscope_by (by decide +kernel)) (NdefX.ndef_free (sc := defScope sPLeastWith) (fr := ["many"]) (by decide +kernel)) rfl rfl (fun _ _ _ _ _ us hl => match us, hl with | [_], _ => rfl) (fun _ _ _ _ _ _ => pe_op op_sub (pe_op op_mul (pv 1) (pv 0)) pe_int)))
      (pss_cons (ps_if (pt_cmpR op_isN (pv 6) pe_non (nomark _)) (pss_one (ps_ret (pe_k cPRoundsDown (hr.mono (by decide)) (by rfl) (pa_cons (pv 0) (pa_cons (pv 3) (pa_cons (pv 4) pa_nil)))))) pss_nil)
      (pss_one (ps_expr (pe_bm PySem.F.plainAttrs_list PySem.F.slot_list_append PySem.F.type_list_append mt_append (pv 4) (pa_cons (pe_k cPNoughtCell (hr.mono (by decide)) (by rfl) (pa_cons (pv 6) pa_nil)) pa_nil)))))))))))), ?_⟩
    refine q_asg (ev_lenS (ev_var rfl) hS) fun H1 e1 => ?_
    refine q_asgK (ea_cons (ev_var rfl) (ea_cons (ev_var rfl) (ea_cons ev_c ea_nil))) fun H2 e2 => ⟨a, p, S, ch, rfl, hS.ex (e1.trans e2), (e1.trans e2) _ _ hp, ok, pl, hch, fun g2 H3 hg2 e3 hG => ?_⟩
    have e13 := (e1.trans e2).trans e3
    refine q_asgL (el_lst ea_nil (Nat.zero_le _)) fun rz H4 hrz e4 h4 => ?_
    have e14 := e13.trans e4
    have hrz0 : H rz = none := fresh_back e13 hrz
    have Glen : (told S ch).length = S.length := told_len S ch
    refine s_while (fun m σ' H' => ∃ nz : List Nat, m = S.length - nz.length ∧ nz.Nodup ∧ (∀ z ∈ nz, z < S.length) ∧ (∀ z ∈ nz, lfp (chS S ch) z = some 0) ∧ Xn H H' ∧ Tabs (TT1 Pt) H' ∧ ArcLAt (hd H' rz) g2 (told S ch) ∧ H' rz = some (.lst (nz.map nv)) ∧ ∃ y5 y6 y7, σ' = [some (.ref a), some (.ref p), some (.int (S.length : Int)), some (.ref g2), some (.ref rz), y5, y6, y7]) S.length
      ⟨[], by simp, List.nodup_nil, by simp, by simp, ex_xn e14, hT.ext e14, hG.ex (hd_of hrz e4), h4, none, none, none, rfl⟩ fun m σ' H' Wm => ?_
    obtain ⟨nz, rfl, hnd, hlt, hz, xn, tb, hG', hnz, y5, y6, y7, rfl⟩ := Wm
    refine ⟨true, et_B ev_c, fun _ H5 e5 => ⟨fun σ' H' => ∃ nz' : List Nat, nz'.length = nz.length + 1 ∧ nz'.Nodup ∧ (∀ z ∈ nz', z < S.length) ∧ (∀ z ∈ nz', lfp (chS S ch) z = some 0) ∧ Xn H H' ∧ Tabs (TT1 Pt) H' ∧ ArcLAt (hd H' rz) g2 (told S ch) ∧ H' rz = some (.lst (nz'.map nv)) ∧ ∃ y5 y6 y7, σ' = [some (.ref a), some (.ref p), some (.int (S.length : Int)), some (.ref g2), some (.ref rz), y5, y6, y7], fun σ2 H2 N => ?_, ?_⟩, fun h => by cases h⟩
    · obtain ⟨nz', h1, h2, h3, h4⟩ := N
      have := nodup_len S.length nz' h2 h3
      exact ⟨_, by omega, nz', rfl, h2, h3, h4⟩
    -- open_arcs
    have hG5h := hG'.ex (hd_ex (r := rz) e5)
    have hG5 := hG5h.ex hd_sub
    have hnz5 := e5 _ _ hnz
    have tb5 := tb.ext e5
    have xn5 := xn.trans (ex_xn e5)
    obtain ⟨gs, g1, g2', g3⟩ := hG5.get
    refine q_asgLcR (n := S.length) (j := 7) (fun i v H => ∃ l, v = .ref l ∧ ArcsAt H l (if nz.contains i = true then [] else gG (told S ch) i)) (fun i => mono_arcs) (ea_cons (ev_var rfl) ea_nil) (by have := ok.len; omega) (fun _ => rfl) (fun i H6 r xs e6 hr6 hrx hi => ?_) fun ro H6 xs hro e6 h6 hp6 => ?_
    · by_cases hc : nz.contains i = true
      · rw [if_pos hc]
        exact ed_ifT (et_is (et_test (ev_inN (ev_var rfl) (ev_var rfl) (e6 _ _ hnz5))) hc) (EvD.imp (ed_evL hrx (el_lst ea_nil (Nat.zero_le _))) fun v H7 e7 ⟨l, h1, h2⟩ => ⟨l, h1, [], h2, .nil⟩)
      · rw [if_neg hc]
        obtain ⟨b, hb3, hb4⟩ := g3 i _ (gG_get (by rw [Glen]; exact hi))
        have hne : b ≠ r := by
          obtain ⟨ads, z, _⟩ := hb4
          exact ne_of_none z hr6
        have hc : nz.contains i = false := by simpa using hc
        exact ed_ifF (et_is (et_test (ev_inN (ev_var rfl) (ev_var rfl) (e6 _ _ hnz5))) hc) (ed_evR (ev_xL (ev_var rfl) (ev_var rfl) (e6 _ _ g1) (atI_nat hb3)) mono_arcs ⟨b, rfl, arcs_hd hrx (hb4.ex e6) hne⟩)
    have hO : ArcLAt H6 ro (opA (told S ch) nz) := by
      obtain ⟨ads, rfl, hads⟩ := paired_refs (F := fun a l => ArcsAt H6 a l) (f := fun i => if nz.contains i = true then [] else gG (told S ch) i) hp6 fun v i ⟨l, h1, h2⟩ => ⟨l, h1, h2.ex hd_sub⟩
      refine ⟨ads, h6, ?_⟩
      unfold opA
      rw [Glen]
      exact hads
    have oLen : (opA (told S ch) nz).length = S.length := by rw [opA_len, Glen]
    have oOk : GOk S.length (opA (told S ch) nz) := opA_ok gok
    have xn6 := xn5.trans (ex_xn e6)
    refine ⟨_, rfl, _, rfl, tb5.ext e6, fun H7 x7 tb7 => ⟨ro, opA (told S ch) nz, rfl, by rw [oLen], hO.xn x7, by rw [oLen]; exact oOk, by rw [oLen]; exact ok.len, fun hn H8 e8 => ?_, fun hn cyc rc H8 hcirc hrc e8 hcyc => ?_⟩⟩
    · have x68 : Xn H6 H8 := Xn.trans x7 (ex_xn e8)
      have x8 := xn6.trans x68
      have hG8 := hG5.xn ((ex_xn e6).trans x68)
      have hz8 : H8 rz = some (.lst (nz.map nv)) := x68.lst (e6 _ _ hnz5)
      have hS8 := hS.xn x8
      refine q_when (b := true) (et_is (et_test (ev_isNV (ev_var rfl))) rfl) (fun _ H9 e9 => ?_) fun hb => by cases hb
      refine s_retL (el_call (ea_cons (ev_var rfl) (ea_cons (ev_var rfl) (ea_cons (ev_var rfl) ea_nil))) (sv_roundsDown (hS8.ex e9) (hG8.ex e9) (e9 _ _ hz8) ok pl gok)) fun r H10 hr10 e10 hx => ?_
      have x9 := x8.trans (ex_xn e9)
      refine q r H10 (nt_back x9 (nt_none hr10)) (x9.trans (ex_xn e10)) ((tb7.ext e8).ext (e9.trans e10)) ?_
      rw [hx, lw_end ms hz hn]
    · have x68 : Xn H6 H8 := Xn.trans x7 (ex_xn e8)
      have x8 := xn6.trans x68
      have hz8 : H8 rz = some (.lst (nz.map nv)) := x68.lst (e6 _ _ hnz5)
      obtain ⟨z1, z2, z3⟩ := lw_more ms hcirc
      refine q_when (b := false) (et_is (et_test (ev_isNV (ev_var rfl))) rfl) (fun hb => by cases hb) fun _ H9 e9 => ?_
      have hne : cyc ≠ [] := fun z => by
        have := hcirc.pos
        rw [z] at this
        exact absurd this (Nat.lt_irrefl _)
      refine s_app (e9 _ _ hz8) (ev_var rfl) (ev_call (ea_cons (ev_var rfl) ea_nil) (sv_noughtCell (hcyc.ex e9) hne)) (by
        have := nodup_len S.length nz hnd hlt
        have := ok.len
        rw [List.length_map]
        omega) fun H10 e10 => ⟨nz ++ [nought cyc], by simp, ?_, ?_, ?_, ?_, ?_, ?_, ?_, _, _, _, rfl⟩
      · exact List.nodup_append.mpr ⟨hnd, by simp, fun a ha b hb => by
          have e : b = nought cyc := by simpa using hb
          rw [e]
          exact fun z => z2 (by rw [← z]; exact ha)⟩
      · intro z hz2
        rcases List.mem_append.mp hz2 with h | h
        · exact hlt z h
        · have e : z = nought cyc := by simpa using h
          rw [e]
          exact z3
      · intro z hz2
        rcases List.mem_append.mp hz2 with h | h
        · exact hz z h
        · have e : z = nought cyc := by simpa using h
          rw [e]
          exact z1
      · exact Xn.mut (x8.trans (ex_xn (e9.trans e10))) (nt_none hrz0)
      · exact tabs_upd ((tb7.ext e8).ext (e9.trans e10)) ((e9.trans e10) _ _ hz8)
      · rw [hd_upd]
        exact hG5h.xn (hd_xn (Xn.trans (Xn.trans (ex_xn e6) x68) (ex_xn (e9.trans e10))))
      · rw [upd_same, List.map_append]
        rfl
  obtain ⟨t, h1, h2⟩ := key
  exact ⟨t, h1.nox, h2⟩
end Cs
set_option Elab.async false
set_option linter.all false
set_option maxRecDepth 100000
set_option maxHeartbeats 4000000
/-! I: settled_least -/
namespace Cs
open PySem PySem.Spec PyProof.Rows L2 Evl LamX
variable {P : Program} {w : World} {K : PySem.W.Frag} {mg : Str → Option Value} {base : Heap}
theorem set_cv (x : Ch) (i k : Nat) : (x.map cv).set i (nv k) = (x.set i (some k)).map cv := by
  rw [List.map_set]
  rfl
theorem NT.lst {H H1 : Hp} {p : Addr} (h : H1 p = none) (e : Xn H H1) : NT H p := nt_back e (nt_none h)
def spSettled (Pt : Addr) : Sp := fun vs H Q _ => ∃ (a : Addr) (S : List Fm), vs = [.ref a] ∧ SheetAt H a S ∧ Wf S ∧ Plain S ∧ Tabs (TT1 Pt) H ∧
  ∀ r rx rc H2 ch, Xn H H2 → Tabs (TT1 Pt) H2 → H2 r = some (.tup [.ref rx, .ref rc]) → NT H rx → NT H rc → H2 rx = some (.lst ((lfpL S).map av)) → H2 rc = some (.lst (ch.map cv)) → ChOk S ch → lfp (chS S ch) = lfp S → Q (.ref r) H2
theorem scal_av (a b : Amt) : scal (av a) (av b) = true := by
  cases a <;> cases b <;> rfl
theorem ok_settledLeast {Pt : Addr} (T : Bt mg) (h : Has K mg "settled_least" sPSettledLeast) (cPLeastWith : Cl P w K mg base 3 "least_with" (spLeastWith Pt)) (cPShifted : Cl P w K mg base 1 "shifted" spShifted) (cPAtMost : Cl P w K mg base 1 "at_most" spAtMost) (cPFlatValue : Cl P w K mg base 3 "flat_value" spFlatValue) : Cl P w K mg base 4 "settled_least" (spSettled Pt) := by
  refine cl_of h scPSettledLeast (fun _ _ _ _ _ _ us hl => match us, hl with | [_], _ => rfl) (fun vs H Q E h => ?_) (fun f cdv A outer s H vs Q E hr h => ?_)
  · obtain ⟨a, S, rfl, _⟩ := h
    rfl
  obtain ⟨a, S, rfl, hS, ok, pl, hT, q⟩ := h
  have ms := ms_of ok pl
  have hlen := ok.len
  refine ⟨_, (pss_cons (ps_setLc (i := 1) (own := [("formula", 5)]) rfl scPSettledLeast.nd rfl rfl (sw_true rfl rfl rfl (by decide +kernel)) (pi_list (pv 0)) (blkOk_by (own := [("formula", 5)]) (N := nPSettledLeast) (sc := defScope sPSettledLeast) (by decide +kernel)) (fun _ _ _ _ _ => (pg_name (i := 5) scPSettledLeast.nd rfl (Or.inl rfl))) (fun _ _ _ _ _ => pts_nil) (fun _ _ _ _ _ => (pe_ifExp (pt_cmpR op_eq (pe_ix (ix_tupK (K := K)) (pv 5) pe_int (fun _ _ => rfl)) pe_str (nomark _)) pe_int pe_non)))
      (pss_one (ps_while PassesOwn.never (pt_val pe_bl) (pss_cons (ps_set (i := 2) scPSettledLeast.nd rfl (Or.inl rfl) (pe_k cPLeastWith (hr.mono (by decide)) (by rfl) (pa_cons (pv 0) (pa_cons (pv 1) pa_nil))))
      (pss_cons (ps_set (i := 3) scPSettledLeast.nd rfl (Or.inl rfl) (pe_callTy call_list_of (by rfl) T.b_list (by decide +kernel) (pa_cons (pv 1) pa_nil)))
      (pss_cons (ps_for PassesOwn.never rfl (pi_enum (by rfl) T.b_enumerate (pa_cons (pv 0) pa_nil)) (pg_tupK (K := K) (n := 2) rfl (pgs_cons (pg_name (i := 4) scPSettledLeast.nd rfl (Or.inl rfl)) (pgs_cons (pg_name (i := 5) scPSettledLeast.nd rfl (Or.inl rfl)) pgs_nil))) (pss_one (ps_if (pt_cmpR op_eq (pe_ix (ix_tupK (K := K)) (pv 5) pe_int (fun _ _ => rfl)) pe_str (nomark _)) (pss_one (ps_for PassesOwn.never rfl (pi_enum (by rfl) T.b_enumerate (pa_cons (pe_ix (ix_tupK (K := K)) (pv 5) pe_int (fun _ _ => rfl)) pa_nil)) (pg_tupK (K := K) (n := 2) rfl (pgs_cons (pg_name (i := 6) scPSettledLeast.nd rfl (Or.inl rfl)) (pgs_cons (pg_tupK (K := K) (n := 2) rfl (pgs_cons (pg_name (i := 7) scPSettledLeast.nd rfl (Or.inl rfl)) (pgs_cons (pg_name (i := 8) scPSettledLeast.nd rfl (Or.inl rfl)) pgs_nil))) pgs_nil))) (pss_cons (ps_set (i := 9) scPSettledLeast.nd rfl (Or.inl rfl) (pe_k cPShifted (hr.mono (by decide)) (by rfl) (pa_cons (pe_ix (ix_listK (K := K)) (pv 2) (pv 7) (fun _ _ => rfl)) (pa_cons (pv 8) pa_nil))))
      (pss_one (ps_if (PW.pt (pw_and (pt_not (pt_val (pe_k cPAtMost (hr.mono (by decide)) (by rfl) (pa_cons (pv 9) (pa_cons (pe_ix (ix_listK (K := K)) (pv 2) (pv 4) (fun _ _ => rfl)) pa_nil))))) (pw_and1 (pt_cmpR op_eq (pv 9) (pe_k cPFlatValue (hr.mono (by decide)) (by rfl) (pa_cons (pv 5) (pa_cons (pv 2) pa_nil))) (nomark _))))) (pss_one (ps_asg (pv 6) (pg_sub (pv 3) (pv 4) set_list))) pss_nil))))) pss_nil)))
      (pss_cons (ps_if (pt_cmpR (op_eqD hr.units) (pv 3) (pv 1) (nomark _)) (pss_one (ps_ret (pe_tup (pa_cons (pv 2) (pa_cons (pv 1) pa_nil))))) pss_nil)
      (pss_one (ps_set (i := 1) scPSettledLeast.nd rfl (Or.inl rfl) (pv 3)))))))))), ?_⟩
  refine q_asgL (xs := (ch0 S).map cv) ?_ fun r0 H1 hr0 e1 h1 => ?_
  · have e : (ch0 S).map cv = S.map (fun f => if f.isG = true then V.int 0 else V.non) := by
      unfold ch0
      rw [List.map_map]
      refine List.map_congr_left fun f _ => ?_
      show cv (if f.isG = true then some 0 else none) = _
      split <;> rfl
    rw [e]
    refine el_sheet (F := fun f => if f.isG = true then V.int 0 else V.non) (ev_var rfl) hS ok (fun _ => rfl) fun f c H1 e1 hf hok => ?_
    refine ev_if (et_test (ev_wG (ev_k0 (ev_var rfl) hf))) (fun hb => ?_) fun hb => ?_
    · rw [if_pos hb]
      exact ev_c
    · rw [if_neg (by rw [hb]; exact Bool.false_ne_true)]
      exact ev_c
  refine s_while (fun m σ' H' => ∃ ch rc, m = mu S ch ∧ ChOk S ch ∧ Xn H H' ∧ Tabs (TT1 Pt) H' ∧ H' rc = some (.lst (ch.map cv)) ∧ NT H rc ∧ ∃ y2 y3 y4 y5 y6 y7 y8 y9, σ' = [some (.ref a), some (.ref rc), y2, y3, y4, y5, y6, y7, y8, y9]) (mu S (ch0 S))
    ⟨ch0 S, r0, rfl, ch0_ok ms, ex_xn e1, hT.ext e1, h1, nt_none hr0, none, none, none, none, none, none, none, none, rfl⟩ fun m σ' H' Wm => ?_
  obtain ⟨ch, rc, rfl, hch, xn, tb, hrc, nrc, y2, y3, y4, y5, y6, y7, y8, y9, rfl⟩ := Wm
  refine ⟨true, et_B ev_c, fun _ H2 e2 => ⟨fun σ' H' => ∃ ch' rc, mu S ch' < mu S ch ∧ ChOk S ch' ∧ Xn H H' ∧ Tabs (TT1 Pt) H' ∧ H' rc = some (.lst (ch'.map cv)) ∧ NT H rc ∧ ∃ y2 y3 y4 y5 y6 y7 y8 y9, σ' = [some (.ref a), some (.ref rc), y2, y3, y4, y5, y6, y7, y8, y9], fun σ2 H2 ⟨ch', rc, h1, h2⟩ => ⟨_, h1, ch', rc, rfl, h2⟩, ?_⟩, fun h => by cases h⟩
  have x2 : Xn H H2 := Xn.trans xn (ex_xn e2)
  refine q_asgK (ea_cons (ev_var rfl) (ea_cons (ev_var rfl) ea_nil)) fun H3 e3 => ⟨a, rc, S, ch, rfl, (hS.xn x2).ex e3, (e2.trans e3) _ _ hrc, ok, pl, hch, tb.ext (e2.trans e3), fun rx H4 nrx x34 tb4 hx => ?_⟩
  have x3 : Xn H H3 := Xn.trans x2 (ex_xn e3)
  have x4 : Xn H H4 := Xn.trans x3 x34
  have hrc4 : H4 rc = some (.lst (ch.map cv)) := x34.lst ((e2.trans e3) _ _ hrc)
  have mc := chS_ms ms ch
  generalize hX : lfpL (chS S ch) = X at hx
  have hXl : X.length = S.length := by rw [← hX, lfpL_len, chS_len]
  refine q_asgL (el_listOf (ev_var rfl) hrc4) fun rb H5 hrb e5 h5 => ?_
  have x5 : Xn H H5 := Xn.trans x4 (ex_xn e5)
  have nrb : NT H rb := nt_back x4 (nt_none hrb)
  have hS5 := hS.xn x5
  have hSb : SheetAt (hd H5 rb) a S := (hS.xn x4).ex (hd_of hrb e5)
  obtain ⟨xs, s1, s2, s3⟩ := hSb.get
  have hrx5 := e5 _ _ hx
  have nebx : rb ≠ rx := fun z => by
    rw [z, hx] at hrb
    cases hrb
  have nebc : rb ≠ rc := fun z => by
    rw [z, hrc4] at hrb
    cases hrb
  -- what all turns share
  have base5 : ∀ {b : List V}, H5 rb = some (.lst b) → True := fun _ => trivial
  refine q_forE2 (D := _) (ea_cons (ev_var rfl) ea_nil) (sq_of (hd_sub _ _ s1)) (fun n σ' H' => Ex H4 H' ∧ Ex (hd H5 rb) H' ∧ H' rb = some (.lst (((List.range n).foldl (btCell S X) ch).map cv)) ∧ ∃ y4 y5 y6 y7 y8 y9, σ' = [some (.ref a), some (.ref rc), some (.ref rx), some (.ref rb), y4, y5, y6, y7, y8, y9]) (fun H6 e6 => ⟨e5.trans e6, hd_sub.trans e6, e6 _ _ h5, _, _, _, _, _, _, rfl⟩) (fun n σ' H' q => sq_of (q.2.1 _ _ s1)) (fun n x σ' H' hx2 Pn H6 e6 => ?_) fun σ' H' Pn => ?_
  · obtain ⟨e4n, en, hb, y4, y5, y6, y7, y8, y9, rfl⟩ := Pn
    have hn : n < S.length := by
      have := (List.getElem?_eq_some_iff.mp hx2).1
      omega
    have hg := fAt_get hn
    obtain ⟨c, hc, hf⟩ := s3 n _ hg
    have ec : x = .ref c := Option.some.inj (hx2.symm.trans hc)
    subst ec
    rw [range_fold_succ]
    generalize hY : (List.range n).foldl (btCell S X) ch = Y at hb ⊢
    have hYl : Y.length = S.length := by
      rw [← hY, (better_fold hch.len n (by omega)).1, hch.len]
    have en6 := en.trans e6
    have e46 := e4n.trans e6
    have f6 := hf.ex en6
    have hb6 := e6 _ _ hb
    have okf := ok.ok n _ hg
    refine s_when (et_test (ev_wG (ev_k0 (ev_var rfl) f6))) (fun hb2 H7 e7 => ?_) fun hb2 H7 e7 => ?_
    · cases hq : fAt S n with
      | great arcs =>
        rw [hq] at hf okf
        have f7 := hf.ex (en6.trans e7)
        have hfull := hf
        obtain ⟨l, l1, ads, l2, l3⟩ := hf
        have hlenA : (ads.map V.ref).length = arcs.length := by rw [List.length_map, paired_len l3]
        have en7 := en6.trans e7
        refine s_forE (ea_cons (ev_xT (ev_var rfl) ev_c (en7 _ _ l1) at1) ea_nil) (sq_of (en7 _ _ l2)) (fun k σ' H' => Ex H4 H' ∧ Ex (hd H5 rb) H' ∧ H' rb = some (.lst ((btArcs arcs X n k Y).map cv)) ∧ ∃ y6 y7 y8 y9, σ' = [some (.ref a), some (.ref rc), some (.ref rx), some (.ref rb), some (nv n), some (.ref c), y6, y7, y8, y9])
          (fun H8 e8 => ⟨e46.trans (e7.trans e8), en7.trans e8, (e7.trans e8) _ _ hb6, _, _, _, _, rfl⟩) (fun k σ' H' q => sq_of (q.2.1 _ _ l2)) (fun k x σ' H' hxk Pk Tt H8 e8 hTt => ?_) fun σ' H' Pk => ?_
        · obtain ⟨e4k, ek, hbk, y6, y7, y8, y9, rfl⟩ := Pk
          obtain ⟨b, hb3, rfl⟩ := getMap hxk
          obtain ⟨p, hp, hb4⟩ := paired_get2 l3 hb3
          have hk : k < arcs.length := (List.getElem?_eq_some_iff.mp hp).1
          have eH := ek.trans e8
          have ep : arcAt arcs k = p := by
            show arcs.getD k (0, 0) = p
            rw [List.getD_eq_getElem?_getD, hp]
            rfl
          refine ⟨Tt, _, rfl, st_of hTt, rfl, _, _, rfl, _, _, rfl, ⟨b, arcV p, rfl, st_of (eH b _ hb4), rfl, _, _, rfl, _, _, rfl, rfl, rfl, ?_⟩⟩
          have hp1 : p.1 < X.length := by
            rw [hXl]
            exact (okf.ok p (List.mem_of_getElem? hp)).1
          have x8 := (e4k.trans e8) _ _ hx
          refine q_asg (ev_call (ea_cons (ev_xA (ev_var rfl) (ev_var rfl) x8 hp1) (ea_cons (ev_var rfl) ea_nil)) sv_shifted) fun H9 e9 => ?_
          have x9 := e9 _ _ x8
          have f9 := hfull.ex ((ek.trans e8).trans e9)
          have hbk9 := (e8.trans e9) _ _ hbk
          have hlY : (btArcs arcs X n k Y).length = S.length := by rw [(btArcs_spec arcs X n Y (by omega) k).1, hYl]
          refine s_when (et_is (et_and (et_not (et_B (ev_call (ea_cons (ev_var rfl) (ea_cons (ev_xA (ev_var rfl) (ev_var rfl) x9 (by rw [hXl]; exact hn)) ea_nil)) sv_atMost))) fun _ => et_test (ev_eq (ev_var rfl) (ev_call (ea_cons (ev_var rfl) (ea_cons (ev_var rfl) ea_nil)) (sv_flatValue f9 x9 (by rw [hXl]; exact okf))) (scal_av _ _))) (by
            rw [dec_av, ← ep]
            rfl : _ = btOk arcs X n k)) (fun hbt H10 e10 => ?_) fun hbt H10 e10 => ?_
          · refine s_setL (v := nv k) (e10 _ _ hbk9) (ev_var rfl) (ev_var rfl) (ev_var rfl) (by rw [List.length_map, hlY]; exact hn) fun H11 e11 => ⟨Ex.mut (((e4k.trans e8).trans e9).trans (e10.trans e11)) hrb, Ex.mut (((ek.trans e8).trans e9).trans (e10.trans e11)) (if_pos rfl), ?_, _, _, _, _, rfl⟩
            rw [upd_same, set_cv, btArcs_succ, if_pos hbt]
          · refine ⟨((e4k.trans e8).trans e9).trans e10, ((ek.trans e8).trans e9).trans e10, ?_, _, _, _, _, rfl⟩
            rw [btArcs_succ, if_neg (by rw [hbt]; exact Bool.false_ne_true)]
            exact e10 _ _ hbk9
        · obtain ⟨e4k, ek, hbk, y6, y7, y8, y9, rfl⟩ := Pk
          refine ⟨e4k, ek, ?_, _, _, _, _, _, _, rfl⟩
          have eC : btCell S X Y n = btArcs arcs X n arcs.length Y := by
            unfold btCell
            rw [hq]
          rw [eC, ← hlenA]
          exact hbk
      | _ =>
        rw [hq] at hb2
        cases hb2
    · refine ⟨e46.trans e7, en6.trans e7, ?_, _, _, _, _, _, _, rfl⟩
      have eC : btCell S X Y n = Y := by
        unfold btCell
        cases hq : fAt S n with
        | great arcs =>
          rw [hq] at hb2
          cases hb2
        | _ => rfl
      rw [eC]
      exact e7 _ _ hb6
  · obtain ⟨e4n, en, hb, y4, y5, y6, y7, y8, y9, rfl⟩ := Pn
    rw [s2] at hb
    have hb : H' rb = some (.lst ((better S X ch).map cv)) := hb
    have hrc' := e4n _ _ hrc4
    have x' : Xn H H' := Xn.trans x4 (ex_xn e4n)
    refine q_when (et_test (ev_op (ev_var rfl) (ev_var rfl) (rv_eqL leafC eqv_C hb hrc'))) (fun hbe H6 e6 => ?_) fun hbe H6 e6 => ?_
    · have hbe := of_decide_eq_true hbe
      rw [← hX] at hbe
      have hend := better_end ms hch hbe
      refine s_retU (eu_tup (ea_cons (ev_var rfl) (ea_cons (ev_var rfl) ea_nil)) (by show 2 ≤ 100000; decide)) fun r H7 hr7 e7 h7 => ?_
      have e47 := (e4n.trans e6).trans e7
      refine q r rx rc H7 ch (Xn.trans x4 (ex_xn e47)) (tb4.ext e47) h7 (nt_back x3 nrx) nrc ?_ (e47 _ _ hrc4) hch hend
      rw [e47 _ _ hx, ← hX]
      have e : lfpL (chS S ch) = lfpL S := eq_lfpL ms (by rw [lfpL_len, chS_len]) fun i hi => by rw [gA_lfpL mc, hend]
      rw [e]
    · have hbe := of_decide_eq_false hbe
      rw [← hX] at hbe
      refine s_asg (ev_var rfl) fun H7 e7 => ⟨better S X ch, rb, ?_, better_ok hch, Xn.trans x' (ex_xn (e6.trans e7)), (tb4.ext e4n).ext (e6.trans e7), (e6.trans e7) _ _ hb, nrb, _, _, _, _, _, _, _, _, rfl⟩
      rw [← hX]
      exact better_mu ok ms hch hbe
end Cs
set_option Elab.async false
set_option linter.all false
set_option maxRecDepth 100000
set_option maxHeartbeats 4000000
/-! J: endless_paper -/
namespace Cs
open PySem PySem.Spec PyProof.Rows L2 Evl LamX
variable {P : Program} {w : World} {K : PySem.W.Frag} {mg : Str → Option Value} {base : Heap}
theorem q_asgKg {σ : L2.St} {H : Hp} {D : Ends} {tz : TS} {ta : TA} {sp : Sp} {vs : List V} {g : TG} (ha : EvA ta σ H vs) (k : ∀ H1, Ex H H1 → sp (vs ++ []) H1 (fun v H2 => g v σ H2 (tz D)) L2.E0) : tSeq (tAsg (tCall sp [] L2.E0 ta) g) tz D σ H := ha H (Ex.refl H) _ fun H1 e1 => k H1 e1
def spEndless (Pt : Addr) : Sp := fun vs H Q _ => ∃ (a : Addr) (S : List Fm), vs = [.ref a] ∧ SheetAt H a S ∧ Wf S ∧ Plain S ∧ Tabs (TT1 Pt) H ∧
  ∀ r rc rp H2 ch pt, Xn H H2 → Tabs (TT1 Pt) H2 → H2 r = some (.tup [.ref rc, .ref rp]) → NT H rc → NT H rp → H2 rc = some (.lst (ch.map cv)) → H2 rp = some (.lst (pt.map av)) → ChOk S ch → Shows S ch pt → (∀ i, i < S.length → (gA pt i).isSome = (lfp S i).isNone) → Q (.ref r) H2
theorem set_pt (x : List Amt) (i : Nat) (v : Int) : (x.map av).set i (.int v) = (x.set i (some v)).map av := by
  rw [List.map_set]
  rfl
theorem ok_endlessPaper {Pt : Addr} (T : Bt mg) (h : Has K mg "endless_paper" sPEndlessPaper) (cPSettledLeast : Cl P w K mg base 4 "settled_least" (spSettled Pt)) (cPToldArcs : Cl P w K mg base 2 "told_arcs" spToldArcs) : Cl P w K mg base 5 "endless_paper" (spEndless Pt) := by
  refine cl_of h scPEndlessPaper (fun _ _ _ _ _ _ us hl => match us, hl with | [_], _ => rfl) (fun vs H Q E h => ?_) (fun f cdv A outer s H vs Q E hr h => ?_)
  · obtain ⟨a, S, rfl, _⟩ := h
    rfl
  obtain ⟨a, S, rfl, hS, ok, pl, hT, q⟩ := h
  have ms := ms_of ok pl
  have hlen := ok.len
  refine ⟨_, (pss_cons (ps_asg (pe_k cPSettledLeast (hr.mono (by decide)) (by rfl) (pa_cons (pv 0) pa_nil)) (pg_tupK (K := K) (n := 2) rfl (pgs_cons (pg_name (i := 1) scPEndlessPaper.nd rfl (Or.inr rfl)) (pgs_cons (pg_name (i := 2) scPEndlessPaper.nd rfl (Or.inl rfl)) pgs_nil))))
      (pss_cons (ps_set (i := 3) scPEndlessPaper.nd rfl (Or.inr rfl) (pe_lc (own := [("cell", 7)]) rfl scPEndlessPaper.nd (pi_range1 (by rfl) T.b_range (pa_cons (pe_callB (call_lenK (K := K)) (by rfl) T.b_len PySem.boot_len (pa_cons (pv 0) pa_nil)) pa_nil)) (blkOk_by (own := [("cell", 7)]) (N := nPEndlessPaper) (sc := defScope sPEndlessPaper) (by decide +kernel)) (fun _ _ _ _ _ => (pg_name (i := 7) scPEndlessPaper.nd rfl (Or.inl rfl))) (fun _ _ _ _ _ => (pts_one (pt_cmpR op_isN (pe_ix (ix_listK (K := K)) (pv 1) (pv 7) (fun _ _ => rfl)) pe_non (nomark _)))) (fun _ _ _ _ _ => (pv 7))))
      (pss_cons (ps_set (i := 4) scPEndlessPaper.nd rfl (Or.inl rfl) (pe_k cPToldArcs (hr.mono (by decide)) (by rfl) (pa_cons (pv 0) (pa_cons (pv 2) (pa_cons pe_str pa_nil)))))
      (pss_cons (ps_setLc (i := 5) (own := [("cell", 7)]) rfl scPEndlessPaper.nd rfl rfl (sw_true rfl rfl rfl (by decide +kernel)) (pi_range1 (by rfl) T.b_range (pa_cons (pe_callB (call_lenK (K := K)) (by rfl) T.b_len PySem.boot_len (pa_cons (pv 0) pa_nil)) pa_nil)) (blkOk_by (own := [("cell", 7)]) (N := nPEndlessPaper) (sc := defScope sPEndlessPaper) (by decide +kernel)) (fun _ _ _ _ _ => (pg_name (i := 7) scPEndlessPaper.nd rfl (Or.inl rfl))) (fun _ _ _ _ _ => pts_nil) (fun _ _ _ _ _ => (pe_ifExp (pt_cmpR (op_inK (K := K)) (pv 7) (pv 3) (by rfl)) pe_int pe_non)))
      (pss_cons (ps_for PassesOwn.never rfl (pi_list (pv 3)) (pg_name (i := 6) scPEndlessPaper.nd rfl (Or.inl rfl)) (pss_one (ps_for PassesOwn.never rfl (pi_list (pv 3)) (pg_name (i := 7) scPEndlessPaper.nd rfl (Or.inl rfl)) (pss_one (ps_for PassesOwn.never rfl (pi_list (pe_ix (ix_listK (K := K)) (pv 4) (pv 7) (fun _ _ => rfl))) (pg_tupK (K := K) (n := 2) rfl (pgs_cons (pg_name (i := 8) scPEndlessPaper.nd rfl (Or.inl rfl)) (pgs_cons (pg_name (i := 9) scPEndlessPaper.nd rfl (Or.inl rfl)) pgs_nil))) (pss_one (ps_asg (pe_callB (call_min2 rfl) (by rfl) T.b_min (by decide +kernel) (pa_cons (pe_ix (ix_listK (K := K)) (pv 5) (pv 7) (fun _ _ => rfl)) (pa_cons (pe_op op_sub (pe_op op_add (pe_ix (ix_listK (K := K)) (pv 5) (pv 8) (fun _ _ => rfl)) (pe_op op_mul (pe_callB (call_lenK (K := K)) (by rfl) T.b_len PySem.boot_len (pa_cons (pv 3) pa_nil)) (pv 9))) pe_int) pa_nil))) (pg_sub (pv 5) (pv 7) set_list))))))))
      (pss_one (ps_ret (pe_tup (pa_cons (pv 2) (pa_cons (pv 5) pa_nil)))))))))), ?_⟩
  refine q_asgKg (ea_cons (ev_var rfl) ea_nil) fun H1 e1 => ⟨a, S, rfl, hS.ex e1, ok, pl, hT.ext e1, fun r rx rc H2 ch x12 tb2 hr2 nrx nrc hx hc hch hend => ?_⟩
  refine g_pair hr2 (Ex.refl _) ?_
  have x2 : Xn H H2 := Xn.trans (ex_xn e1) x12
  have hS2 := hS.xn x2
  have hel : (ends S).map nv = ((List.range S.length).filter fun i => (lfp S i).isNone).map nv := rfl
  have es13 : (ends S).length ≤ 13 := by
    have := List.length_filter_le (fun i => (lfp S i).isNone) (List.range S.length)
    rw [List.length_range] at this
    unfold ends
    omega
  refine q_asgL (xs := (ends S).map nv) ?_ fun re H3 hre e3 h3 => ?_
  · rw [hel]
    refine el_lcR (n := S.length) (fun i => (lfp S i).isNone) nv (ea_cons (ev_lenS (ev_var rfl) hS2) ea_nil) (by omega) (fun _ => rfl) (fun i H1 e1 hi => ?_) fun i H1 e1 hi _ => ev_var rfl
    refine et_is (et_test (ev_isN (ev_xA (ev_var rfl) (ev_var rfl) (e1 _ _ hx) (by rw [lfpL_len]; exact hi)))) ?_
    rw [gA_lfpL ms]
  have hS3 := hS2.ex e3
  refine q_asgK (ea_cons (ev_var rfl) (ea_cons (ev_var rfl) (ea_cons ev_c ea_nil))) fun H4 e4 => ⟨a, rc, S, ch, rfl, hS3.ex e4, (e3.trans e4) _ _ hc, ok, pl, hch, fun g2 H5 hg2 e5 hG => ?_⟩
  have e25 := e3.trans (e4.trans e5)
  have hre5 := (e4.trans e5) _ _ h3
  refine q_asgL (xs := (ptOf (ends S) S.length (cb0 S.length).d).map av) ?_ fun rp H6 hrp e6 h6 => ?_
  · have e : (ptOf (ends S) S.length (cb0 S.length).d).map av = ((List.range S.length).filter fun _ => true).map fun i => if (ends S).contains i = true then V.int 0 else V.non := by
      unfold ptOf
      rw [filter_true, List.map_map]
      refine List.map_congr_left fun i hi => ?_
      show av (if (ends S).contains i = true then some (gD (cb0 S.length).d i) else none) = _
      have z : gD (cb0 S.length).d i = 0 := by
        show (List.replicate S.length (0 : Int)).getD i 0 = 0
        rw [List.getD_eq_getElem?_getD, List.getElem?_replicate]
        split <;> rfl
      rw [z]
      split <;> rfl
    rw [e]
    refine el_lcR (n := S.length) (fun _ => true) _ (ea_cons (ev_lenS (ev_var rfl) (hS2.ex e25)) ea_nil) (by omega) (fun _ => rfl) (fun i H1 e1 hi H2 e2 Q k => k H2 (Ex.refl H2)) fun i H1 e1 hi _ => ?_
    refine ev_if (et_test (ev_inN (ev_var rfl) (ev_var rfl) (e1 _ _ hre5))) (fun hb => ?_) fun hb => ?_
    · rw [if_pos hb]
      exact ev_c
    · rw [if_neg (by rw [hb]; exact Bool.false_ne_true)]
      exact ev_c
  have e26 := e25.trans e6
  have hrp2 : H2 rp = none := fresh_back e25 hrp
  -- all but the potentials stay from H5 on
  have hG6 := hG
  obtain ⟨gs, g1, gl, g3⟩ := hG.get
  have gok := told_gok ok hch
  have Glen : (told S ch).length = S.length := told_len S ch
  have endsLt : ∀ u ∈ ends S, u < S.length := fun u hu => (mem_ends.mp hu).1
  have lenE : ((ends S).map nv).length = (ends S).length := List.length_map _
  generalize hN : (ends S).length = N at *
  have cm : ∀ z : Int, CMul (N : Int) z := fun z => .inl ⟨by omega, by omega⟩
  refine q_forLn (ev_var rfl) (sq_of (e6 _ _ hre5)) (fun k σ' H' => Ex H5 H' ∧ (∃ s : CB, s = itR N (ends S) (told S ch) k (cb0 S.length) ∧ s.d.length = S.length ∧ H' rp = some (.lst ((ptOf (ends S) S.length s.d).map av))) ∧ ∃ y6 y7 y8 y9, σ' = [some (.ref a), some (.ref rx), some (.ref rc), some (.ref re), some (.ref g2), some (.ref rp), y6, y7, y8, y9])
    (fun H7 e7 => ⟨e6.trans e7, ⟨_, rfl, List.length_replicate, e7 _ _ h6⟩, _, _, _, _, rfl⟩) (fun k σ' H' _ q => sq_of (q.1 _ _ hre5)) (fun k x σ' H' hxk Pk => ?_) fun σ' H' Pk => ?_
  · obtain ⟨ek, ⟨s, hs, hsl, hp⟩, y6, y7, y8, y9, rfl⟩ := Pk
    refine s_forLn (ev_var rfl) (sq_of (ek _ _ hre5)) (fun j σ' H' => Ex H5 H' ∧ (∃ s2 : CB, s2 = ((ends S).take j).foldl (cbCellM N (told S ch)) { s with last := none } ∧ s2.d.length = S.length ∧ H' rp = some (.lst ((ptOf (ends S) S.length s2.d).map av))) ∧ ∃ y6 y7 y8 y9, σ' = [some (.ref a), some (.ref rx), some (.ref rc), some (.ref re), some (.ref g2), some (.ref rp), y6, y7, y8, y9])
      (fun H7 e7 => ⟨ek.trans e7, ⟨_, rfl, hsl, e7 _ _ hp⟩, _, _, _, _, rfl⟩) (fun j σ' H' _ q => sq_of (q.1 _ _ hre5)) (fun j x σ' H' hxj Pj => ?_) fun σ' H' Pj => ?_
    · obtain ⟨ej, ⟨s2, hs2, hs2l, hpj⟩, y6, y7, y8, y9, rfl⟩ := Pj
      obtain ⟨u, hu, rfl⟩ := getMap hxj
      have hue : u ∈ ends S := List.mem_of_getElem? hu
      have hun := endsLt u hue
      obtain ⟨b, hb3, hb4⟩ := g3 u _ (gG_get (by rw [Glen]; exact hun))
      refine s_forA (arcs := gG (told S ch) u) (ev_xL (ev_var rfl) (ev_var rfl) (ej _ _ g1) (atI_nat hb3)) hb4 (ex_xn ej) (fun i σ' H' => Ex H5 H' ∧ (∃ s3 : CB, s3 = ((gG (told S ch) u).take i).foldl (cbArc (N : Int) u) s2 ∧ s3.d.length = S.length ∧ H' rp = some (.lst ((ptOf (ends S) S.length s3.d).map av))) ∧ ∃ y6 y8 y9, σ' = [some (.ref a), some (.ref rx), some (.ref rc), some (.ref re), some (.ref g2), some (.ref rp), y6, some (nv u), y8, y9])
        (fun H7 e7 => ⟨ej.trans e7, ⟨_, rfl, hs2l, e7 _ _ hpj⟩, _, _, _, rfl⟩) (fun i σ' H' q => ex_xn q.1) (fun i p σ' H' hpi Pi => ?_) fun σ' H' Pi => ?_
      · obtain ⟨ei, ⟨s3, hs3, hs3l, hpp⟩, y6, y8, y9, rfl⟩ := Pi
        have hp1 := ends_arc ok ms hch hend hue (List.mem_of_getElem? hpi)
        have hp1n := endsLt _ hp1
        have v1 : av (gA (ptOf (ends S) S.length s3.d) u) = .int (gD s3.d u) := by rw [ptOf_in hun hue]; rfl
        have v2 : av (gA (ptOf (ends S) S.length s3.d) p.1) = .int (gD s3.d p.1) := by rw [ptOf_in hp1n hp1]; rfl
        refine s_setL (v := .int (if gD s3.d p.1 + wG N p < gD s3.d u then gD s3.d p.1 + wG N p else gD s3.d u)) hpp ?_ (ev_var rfl) (ev_var rfl) (by rw [List.length_map, ptOf_len]; exact hun) fun H7 e7 => ⟨Ex.mut (ei.trans e7) hrp, ⟨cbArc (N : Int) u s3 p, ?_, ?_, ?_⟩, _, _, _, rfl⟩
        · have a1 : gD s3.d p.1 + wG N p = gD s3.d p.1 + (N : Int) * p.2 - 1 := by
            unfold wG
            omega
          rw [a1]
          refine ev_mn (ev_is (ev_xA (ev_var rfl) (ev_var rfl) hpp (by rw [ptOf_len]; exact hun)) v1) (ev_sub (ev_add (ev_is (ev_xA (ev_var rfl) (ev_var rfl) hpp (by rw [ptOf_len]; exact hp1n)) v2) (ev_mul (ev_is (ev_lenM (ev_var rfl) (ei _ _ hre5)) (by rw [hN])) (ev_var rfl) (cm _))) ev_c)
        · rw [foldl_take hpi, hs3]
        · rw [(cbArc_len _ _ _ _).1]
          exact hs3l
        · rw [upd_same, set_pt, ptOf_step hun hue hs3l]
      · obtain ⟨ei, ⟨s3, hs3, hs3l, hpp⟩, y6, y8, y9, rfl⟩ := Pi
        rw [List.take_of_length_le (Nat.le_refl _)] at hs3
        refine ⟨ei, ⟨s3, ?_, hs3l, hpp⟩, _, _, _, _, rfl⟩
        rw [foldl_take hu, ← hs2, hs3]
        rfl
    · obtain ⟨ej, ⟨s2, hs2, hs2l, hpj⟩, y6, y7, y8, y9, rfl⟩ := Pj
      rw [lenE, ← hN, List.take_of_length_le (Nat.le_refl _)] at hs2
      refine ⟨ej, ⟨s2, ?_, hs2l, hpj⟩, _, _, _, _, rfl⟩
      rw [itR_succ, hs2, hs]
      subst hN
      rfl
  · obtain ⟨ek, ⟨s, hs, hsl, hp⟩, y6, y7, y8, y9, rfl⟩ := Pk
    rw [lenE] at hs
    have hd : s.d = ptEnd S ch := by
      rw [hs]
      unfold ptEnd
      rw [hN]
    rw [hd] at hp
    refine s_retU (eu_tup (ea_cons (ev_var rfl) (ea_cons (ev_var rfl) ea_nil)) (by show 2 ≤ 100000; decide)) fun r H7 hr7 e7 h7 => ?_
    have e57 := ek.trans e7
    have e27 := e25.trans e57
    exact q r rc rp H7 ch _ (Xn.trans x2 (ex_xn e27)) (tb2.ext e27) h7 (nt_back (ex_xn e1) nrc) (nt_back x2 (nt_none hrp2)) (e27 _ _ hc) (e7 _ _ hp) hch (shows_end ok ms hch hend) fun i hi => pt_isSome _ hi
end Cs
set_option Elab.async false
set_option linter.all false
set_option maxRecDepth 100000
set_option maxHeartbeats 4000000
/-! F: shows_endless, tight_arcs, falls, are_ranks, fulfilled -/
namespace Cs
open PySem PySem.Spec PyProof.Rows L2 Evl LamX
variable {P : Program} {w : World} {K : PySem.W.Frag} {mg : Str → Option Value} {base : Heap}
/-! ### shows_endless -/
def spShowsEndless : Sp := fun vs H Q _ => ∃ (a p t : Addr) (S : List Fm) (ch : Ch) (pt : List Amt), vs = [.ref a, .ref p, .ref t] ∧ SheetAt H a S ∧ H p = some (.lst (ch.map cv)) ∧ H t = some (.lst (pt.map av)) ∧ Wf S ∧ Plain S ∧ ChOk S ch ∧ Shows S ch pt ∧ RetV (.bl true) H Q
theorem sv_showsEndless {a p t : Addr} {S : List Fm} {ch : Ch} {pt : List Amt} {H : Hp} (hS : SheetAt H a S) (hp : H p = some (.lst (ch.map cv))) (ht : H t = some (.lst (pt.map av))) (ok : Wf S) (pl : Plain S) (hch : ChOk S ch) (sh : Shows S ch pt) : SpV spShowsEndless [.ref a, .ref p, .ref t] H (.bl true) :=
  fun H1 e Q q _ => ⟨a, p, t, S, ch, pt, rfl, hS.ex e, e _ _ hp, e _ _ ht, ok, pl, hch, sh, q⟩
theorem ok_showsEndless (T : Bt mg) (h : Has K mg "shows_endless" sPShowsEndless) (cPAreChoices : Cl P w K mg base 1 "are_choices" spAreChoices) (cPToldArcs : Cl P w K mg base 2 "told_arcs" spToldArcs) : Cl P w K mg base 3 "shows_endless" spShowsEndless := by
  refine cl_of h scPShowsEndless (fun _ _ _ _ _ _ us hl => match us, hl with | [_, _, _], _ => rfl) (fun vs H Q E h => ?_) (fun f cdv A outer s H vs Q E hr h => ?_)
  · obtain ⟨a, p, t, S, ch, pt, rfl, _⟩ := h
    rfl
  obtain ⟨a, p, t, S, ch, pt, rfl, hS, hp, ht, ok, pl, hch, sh, q⟩ := h
  have hlen := ok.len
  have gok := told_gok ok hch
  have Glen : (told S ch).length = S.length := told_len S ch
  refine ⟨_, (pss_cons (ps_if (pt_not (pt_val (pe_k cPAreChoices (hr.mono (by decide)) (by rfl) (pa_cons (pv 0) (pa_cons (pv 1) (pa_cons pe_str pa_nil)))))) (pss_one (ps_ret pe_bl)) pss_nil)
      (pss_cons (ps_set (i := 3) scPShowsEndless.nd rfl (Or.inl rfl) (pe_k cPToldArcs (hr.mono (by decide)) (by rfl) (pa_cons (pv 0) (pa_cons (pv 1) (pa_cons pe_str pa_nil)))))
      (pss_cons (ps_setLc (i := 4) (own := [("cell", 5)]) rfl scPShowsEndless.nd rfl rfl (sw_true rfl rfl rfl (by decide +kernel)) (pi_range1 (by rfl) T.b_range (pa_cons (pe_callB (call_lenK (K := K)) (by rfl) T.b_len PySem.boot_len (pa_cons (pv 0) pa_nil)) pa_nil)) (blkOk_by (own := [("cell", 5)]) (N := nPShowsEndless) (sc := defScope sPShowsEndless) (by decide +kernel)) (fun _ _ _ _ _ => (pg_name (i := 5) scPShowsEndless.nd rfl (Or.inl rfl))) (fun _ _ _ _ _ => (pts_one (pt_cmpR op_notN (pe_ix (ix_listK (K := K)) (pv 2) (pv 5) (fun _ _ => rfl)) pe_non (nomark _)))) (fun _ _ _ _ _ => (pv 5)))
      (pss_cons (ps_for PassesOwn.never rfl (pi_list (pv 4)) (pg_name (i := 5) scPShowsEndless.nd rfl (Or.inl rfl)) (pss_cons (ps_if (PW.pt (pw_and (pt_cmpR op_eq (pe_ix (ix_tupK (K := K)) (pe_ix (ix_listK (K := K)) (pv 0) (pv 5) (fun _ _ => rfl)) pe_int (fun _ _ => rfl)) pe_str (nomark _)) (pw_and1 (pt_cmpR op_notN (pe_ix (ix_tupK (K := K)) (pe_ix (ix_listK (K := K)) (pv 0) (pv 5) (fun _ _ => rfl)) pe_int (fun _ _ => rfl)) pe_non (nomark _))))) (pss_one (ps_ret pe_bl)) pss_nil)
      (pss_one (ps_for PassesOwn.never rfl (pi_list (pe_ix (ix_listK (K := K)) (pv 3) (pv 5) (fun _ _ => rfl))) (pg_tupK (K := K) (n := 2) rfl (pgs_cons (pg_name (i := 6) scPShowsEndless.nd rfl (Or.inl rfl)) (pgs_cons (pg_name (i := 7) scPShowsEndless.nd rfl (Or.inl rfl)) pgs_nil))) (pss_one (ps_if (PW.pt (pw_or (pt_cmpR (op_notInK (K := K)) (pv 6) (pv 4) (by rfl)) (pw_or1 (pt_cmpR op_gt (pe_op op_sub (pe_ix (ix_listK (K := K)) (pv 2) (pv 5) (fun _ _ => rfl)) (pe_ix (ix_listK (K := K)) (pv 2) (pv 6) (fun _ _ => rfl))) (pe_op op_sub (pe_op op_mul (pe_callB (call_lenK (K := K)) (by rfl) T.b_len PySem.boot_len (pa_cons (pv 4) pa_nil)) (pv 7)) pe_int) (nomark _))))) (pss_one (ps_ret pe_bl)) pss_nil))))))
      (pss_one (ps_ret pe_bl)))))), ?_⟩
  refine q_when (b := false) (et_is (et_not (et_B (ev_call (ea_cons (ev_var rfl) (ea_cons (ev_var rfl) (ea_cons ev_c ea_nil))) (sv_areChoices hS hp hch)))) rfl) (fun hb => by cases hb) fun _ H1 e1 => ?_
  refine q_asgK (ea_cons (ev_var rfl) (ea_cons (ev_var rfl) (ea_cons ev_c ea_nil))) fun H2 e2 => ⟨a, p, S, ch, rfl, hS.ex (e1.trans e2), (e1.trans e2) _ _ hp, ok, pl, hch, fun g2 H3 hg2 e3 hG => ?_⟩
  have e13 := (e1.trans e2).trans e3
  obtain ⟨gs, g1, gl, g3⟩ := hG.get
  refine q_asgL (xs := (potCells S.length pt).map nv) ?_ fun rc H4 hrc e4 h4 => ?_
  · refine el_lcR (n := S.length) (fun i => (gA pt i).isSome) nv (ea_cons (ev_lenS (ev_var rfl) (hS.ex e13)) ea_nil) (by omega) (fun _ => rfl) (fun i H1 e1 hi => ?_) fun i H1 e1 hi _ => ev_var rfl
    exact et_test (ev_notN (ev_xA (ev_var rfl) (ev_var rfl) ((e13.trans e1) _ _ ht) (by rw [sh.len]; exact hi)))
  have e14 := e13.trans e4
  have pl13 := potCells_len S.length pt
  have lenP : ((potCells S.length pt).map nv).length = (potCells S.length pt).length := List.length_map _
  refine q_forLn (ev_var rfl) (sq_of h4) (fun n σ' H' => Ex H4 H' ∧ ∃ y5 y6 y7, σ' = [some (.ref a), some (.ref p), some (.ref t), some (.ref g2), some (.ref rc), y5, y6, y7]) (fun H5 e5 => ⟨e5, _, _, _, rfl⟩) (fun n σ' H' _ q => sq_of (q.1 _ _ h4)) (fun n x σ' H' hx Pn => ?_) fun σ' H' Pn => ?_
  · obtain ⟨e, y5, y6, y7, rfl⟩ := Pn
    obtain ⟨i, hi, rfl⟩ := getMap hx
    obtain ⟨hin, his⟩ := mem_potCells.mp (List.mem_of_getElem? hi)
    obtain ⟨u, hu⟩ := Option.isSome_iff_exists.mp his
    have eH := e14.trans e
    obtain ⟨c, hc1, hc2⟩ := ev_xS (K := K) (ta := tVar 0) (tb := tVar 5) (σ := [some (V.ref a), some (.ref p), some (.ref t), some (.ref g2), some (.ref rc), some (nv i), y6, y7]) (ev_var rfl) (ev_var rfl) (hS.ex eH) (fAt_get hin)
    refine q_when (b := false) ?_ (fun hb => by cases hb) fun _ H5 e5 => ?_
    · cases hq : fAt S i with
      | amt b =>
        rw [hq] at hc2
        have hb := sh.amt i u b hu hin hq
        subst hb
        exact et_is (et_and (a := true) (b := false) (et_test (ev_wA (f := .amt none) (ev_k0 hc1 hc2))) fun _ => et_is (et_test (ev_notN (a := none) (ev_xT hc1 ev_c hc2 at1))) rfl) rfl
      | least l =>
        rw [hq] at hc2
        exact et_is (et_and (a := false) (b := false) (et_test (ev_wA (f := .least l) (ev_k0 hc1 hc2))) fun hb => by cases hb) rfl
      | great l =>
        rw [hq] at hc2
        exact et_is (et_and (a := false) (b := false) (et_test (ev_wA (f := .great l) (ev_k0 hc1 hc2))) fun hb => by cases hb) rfl
      | when j b k =>
        rw [hq] at hc2
        exact et_is (et_and (a := false) (b := false) (et_test (ev_wA (f := .when j b k) (ev_k0 hc1 hc2))) fun hb => by cases hb) rfl
    · obtain ⟨b, hb3, hb4⟩ := g3 i _ (gG_get (by rw [Glen]; exact hin))
      have e35 := e4.trans (e.trans e5)
      refine s_forA (arcs := gG (told S ch) i) (Hb := H3) (ev_xL (ev_var rfl) (ev_var rfl) (e35 _ _ g1) (atI_nat hb3)) hb4 (ex_xn e35) (fun n σ' H' => Ex H4 H' ∧ ∃ y6 y7, σ' = [some (.ref a), some (.ref p), some (.ref t), some (.ref g2), some (.ref rc), some (nv i), y6, y7]) (fun H6 e6 => ⟨(e.trans e5).trans e6, _, _, rfl⟩) (fun n σ' H' q => ex_xn (e4.trans q.1)) (fun n r σ' H' hr Pn => ?_) fun σ' H' Pn => ?_
      · obtain ⟨e6, y6, y7, rfl⟩ := Pn
        obtain ⟨qv, hqv, hle⟩ := sh.arcs i u hu hin r (List.mem_of_getElem? hr)
        have hr1 : r.1 < S.length := (gok.ok i _ (gG_get (by rw [Glen]; exact hin)) r (List.mem_of_getElem? hr)).1
        have hmem : (potCells S.length pt).contains r.1 = true := by
          have : r.1 ∈ potCells S.length pt := mem_potCells.mpr ⟨hr1, by rw [hqv]; rfl⟩
          simpa using this
        have t4 := (e14.trans e6) _ _ ht
        refine s_when (b := false) ?_ (fun hb => by cases hb) fun _ H7 e7 => ⟨e6.trans e7, _, _, rfl⟩
        have cm : ∀ z : Int, CMul ((potCells S.length pt).length : Int) z := fun z => .inl ⟨by omega, by omega⟩
        refine et_is (et_or (a := false) (b := false) (et_is (et_test (ev_niN (ev_var rfl) (ev_var rfl) (e6 _ _ h4))) (by rw [hmem]; rfl)) fun _ => et_is (et_test (ev_gt (ev_sub (ev_is (ev_xA (ev_var rfl) (ev_var rfl) t4 (by rw [sh.len]; exact hin)) (by rw [hu]; rfl)) (ev_is (ev_xA (ev_var rfl) (ev_var rfl) t4 (by rw [sh.len]; exact hr1)) (by rw [hqv]; rfl))) (ev_sub (ev_mul (ev_lenM (ev_var rfl) (e6 _ _ h4)) (ev_var rfl) (cm _)) ev_c))) (decide_eq_false (by omega))) rfl
      · obtain ⟨e6, y6, y7, rfl⟩ := Pn
        exact ⟨e6, _, _, _, rfl⟩
  · obtain ⟨e, y5, y6, y7, rfl⟩ := Pn
    exact s_ret ev_c fun H5 e5 => q H5 ((e14.trans e).trans e5)
/-! ### tight_arcs -/
theorem paired_filter {α β : Type} {F : α → β → Prop} (p : β → Bool) : ∀ {l₁ : List α} {l₂ : List β}, Paired F l₁ l₂ → Paired F (((l₁.zip l₂).filter fun z => p z.2).map Prod.fst) (l₂.filter p)
  | _, _, .nil => .nil
  | a :: l₁, b :: l₂, .cons r t => by
    have ih := paired_filter p t
    rw [List.zip_cons_cons, List.filter_cons, List.filter_cons]
    cases p b with
    | true => exact .cons r ih
    | false => exact ih
section
variable {σ : L2.St} {H : Hp} {D : Ends} {tu tz : TS} {ta : TA} {sp : Sp} {vs : List V} {g : TG} {t : TT} {te : TE} {ws : List Nat}
/-- a comprehension over what a def gives -/
theorem s_retLcK (ha : EvA ta σ H vs) (k : ∀ H1, Ex H H1 → sp (vs ++ []) H1 (fun v H2 => tLc (iList K (tC v)) g t te ws σ H2 D.rt) L2.E0) : tRet (tLc (iList K (tCall sp [] L2.E0 ta)) g t te ws) D σ H := ha H (Ex.refl H) _ fun H1 e1 => k H1 e1
/-- a loop over what a def gives -/
theorem q_forK (ha : EvA ta σ H vs) (k : ∀ H1, Ex H H1 → sp (vs ++ []) H1 (fun v H2 => tSeq (tFor (iList K (tC v)) g tu) tz D σ H2) L2.E0) : tSeq (tFor (iList K (tCall sp [] L2.E0 ta)) g tu) tz D σ H := ha H (Ex.refl H) _ fun H1 e1 => k H1 e1
end
def spTightArcs : Sp := fun vs H Q _ => ∃ (a p : Addr) (S : List Fm) (x : List Amt) (i : Nat), vs = [.ref a, .ref p, nv i] ∧ SheetAt H a S ∧ H p = some (.lst (x.map av)) ∧ x.length = S.length ∧ i < S.length ∧ Wf S ∧ Plain S ∧ ∀ l H2, H l = none → Ex H H2 → ArcsAt H2 l (tightL S x i) → Q (.ref l) H2
theorem zip_get {α β : Type} {l₁ : List α} {l₂ : List β} {n : Nat} {z : α × β} (h : (l₁.zip l₂)[n]? = some z) : l₁[n]? = some z.1 ∧ l₂[n]? = some z.2 := by
  rw [List.getElem?_zip_eq_some] at h
  exact h
theorem ok_tightArcs (T : Bt mg) (h : Has K mg "tight_arcs" sPTightArcs) (cPArcsOf : Cl P w K mg base 1 "arcs_of" spArcsOf) (cPShifted : Cl P w K mg base 1 "shifted" spShifted) : Cl P w K mg base 2 "tight_arcs" spTightArcs := by
  refine cl_of h scPTightArcs (fun _ _ _ _ _ _ us hl => match us, hl with | [_, _, _], _ => rfl) (fun vs H Q E h => ?_) (fun f cdv A outer s H vs Q E hr h => ?_)
  · obtain ⟨a, p, S, x, i, rfl, _⟩ := h
    rfl
  obtain ⟨a, p, S, x, i, rfl, hS, hp, hl, hi, ok, pl, q⟩ := h
  refine ⟨_, (pss_one (ps_ret (pe_lc (own := [("arc", 3)]) rfl scPTightArcs.nd (pi_list (pe_k cPArcsOf (hr.mono (by decide)) (by rfl) (pa_cons (pv 0) (pa_cons (pv 2) pa_nil)))) (blkOk_by (own := [("arc", 3)]) (N := nPTightArcs) (sc := defScope sPTightArcs) (by decide +kernel)) (fun _ _ _ _ _ => (pg_name (i := 3) scPTightArcs.nd rfl (Or.inl rfl))) (fun _ _ _ _ _ => (pts_one (pt_cmpR op_eq (pe_k cPShifted (hr.mono (by decide)) (by rfl) (pa_cons (pe_ix (ix_listK (K := K)) (pv 1) (pe_ix (ix_tupK (K := K)) (pv 3) pe_int (fun _ _ => rfl)) (fun _ _ => rfl)) (pa_cons (pe_ix (ix_tupK (K := K)) (pv 3) pe_int (fun _ _ => rfl)) pa_nil))) (pe_ix (ix_listK (K := K)) (pv 1) (pv 2) (fun _ _ => rfl)) (nomark _)))) (fun _ _ _ _ _ => (pv 3))))), ?_⟩
  have hg := fAt_get hi
  have okf := ok.ok i _ hg
  have oka := arcsOf_ok okf
  refine s_retLcK (ea_cons (ev_var rfl) (ea_cons (ev_var rfl) ea_nil)) fun H1 e1 => ⟨a, S, i, _, rfl, hS.ex e1, hg, pl i _ hg, okf, fun l H2 hl2 e2 hL => ?_⟩
  obtain ⟨ads, l1, l2⟩ := hL
  have e12 := e1.trans e2
  have lz : (ads.map V.ref).length = (ads.zip (arcsOf (fAt S i))).length := by
    rw [List.length_map, List.length_zip, paired_len l2, Nat.min_self]
  have z := el_lc (K := K) (α := Addr × Arc) (tl := tC (.ref l)) (g := gName 3) (te := tVar 3) (t := tTest (tOp rEq (tCall spShifted [] L2.E0 (tCons (tOp (rIxL K) (tVar 1) (tOp (rIxT K) (tVar 3) (tC (.int 0)))) (tCons (tOp (rIxT K) (tVar 3) (tC (.int 1))) tNil))) (tOp (rIxL K) (tVar 1) (tVar 2)))) (vs := [3]) (σ := L2.start nPTightArcs [.ref a, .ref p, nv i]) (H := H2) (xs := ads.map V.ref) (ys := ads.zip (arcsOf (fAt S i))) (fun z => tightB x i z.2) (fun z => .ref z.1) ev_c (sq_of l1) lz (by
      rw [← lz, List.length_map, paired_len l2]
      omega) fun n v y hv hy => by
    obtain ⟨h1, h2⟩ := zip_get hy
    obtain ⟨b, hb, rfl⟩ := getMap hv
    have eb : b = y.1 := Option.some.inj (hb.symm.trans h1)
    subst eb
    obtain ⟨r, hr, ht⟩ := paired_get2 l2 h1
    have er : r = y.2 := Option.some.inj (hr.symm.trans h2)
    subst er
    have hy2 := (oka.2 y.2 (List.mem_of_getElem? h2)).1
    refine ⟨_, fun H1 e1 Q q => q, rfl, fun H3 e3 => ?_, fun _ H3 e3 => ev_var rfl⟩
    have hp3 := (e12.trans e3) _ _ hp
    have ht3 := e3 _ _ ht
    refine et_is (et_test (ev_eq (ev_call (ea_cons (ev_xA (j := y.2.1) (ev_var rfl) (ev_xT (ev_var rfl) ev_c ht3 at0) hp3 (by rw [hl]; exact hy2)) (ea_cons (ev_xT (ev_var rfl) ev_c ht3 at1) ea_nil)) sv_shifted) (ev_xA (ev_var rfl) (ev_var rfl) hp3 (by rw [hl]; exact hi)) (scal_av _ _))) dec_av
  refine z H2 (Ex.refl H2) _ fun l3 H3 hl3 e3 h3 => ?_
  refine q l3 H3 (fresh_back e12 hl3) (e12.trans e3) ⟨((ads.zip (arcsOf (fAt S i))).filter fun z => tightB x i z.2).map Prod.fst, ?_, pm (paired_filter _ l2) fun a p h => e3 _ _ h⟩
  rw [h3, List.map_map]
  rfl
end Cs
set_option Elab.async false
set_option linter.all false
set_option maxRecDepth 100000
set_option maxHeartbeats 4000000
/-! K: falls, are_ranks, fulfilled, least_ranks -/
namespace Cs
open PySem PySem.Spec PyProof.Rows L2 Evl LamX
variable {P : Program} {w : World} {K : PySem.W.Frag} {mg : Str → Option Value} {base : Heap}
section
variable {σ : L2.St} {H : Hp} {ta tb : TE} {p : Addr}
theorem ev_any {bs : List Bool} (h : Ev ta σ H (.ref p)) (hp : H p = some (.lst (bs.map V.bl))) : Ev (tCB (rAny K) (tCons ta tNil)) σ H (.bl (bs.any id)) := ev_cb (ea_cons h ea_nil) fun H1 e Q q => ⟨p, bs, rfl, sq_of (e _ _ hp), q H1 (Ex.refl H1)⟩
theorem ev_all {bs : List Bool} (h : Ev ta σ H (.ref p)) (hp : H p = some (.lst (bs.map V.bl))) : Ev (tCB (rAll K) (tCons ta tNil)) σ H (.bl (bs.all id)) := ev_cb (ea_cons h ea_nil) fun H1 e Q q => ⟨p, bs, rfl, sq_of (e _ _ hp), q H1 (Ex.refl H1)⟩
/-- x[j] of optional numbers -/
theorem ev_xC {x : Ch} {j : Nat} (h : Ev ta σ H (.ref p)) (h2 : Ev tb σ H (.int (j : Int))) (hp : H p = some (.lst (x.map cv))) (hj : j < x.length) : Ev (tOp (rIxL K) ta tb) σ H (cv (gC x j)) := ev_xL h h2 hp (at_cv hj)
theorem ev_notNC {o : Option Nat} (h : Ev ta σ H (cv o)) : Ev (tOp (fun x y H Q => y = .non ∧ Q (.bl (!decide (x = .non))) H) ta (tC .non)) σ H (.bl o.isSome) := ev_is (ev_notNV h) (by rw [cv_isSome])
theorem ev_isNC {o : Option Nat} (h : Ev ta σ H (cv o)) : Ev (tOp (fun x y H Q => y = .non ∧ Q (.bl (decide (x = .non))) H) ta (tC .non)) σ H (.bl o.isNone) := ev_is (ev_isNV h) (by cases o <;> rfl)
end
/-! ### falls -/
def spFalls : Sp := fun vs H Q _ => ∃ (a p k : Addr) (S : List Fm) (x : List Amt) (rk : Ch) (i : Nat), vs = [.ref a, .ref p, .ref k, nv i] ∧ SheetAt H a S ∧ H p = some (.lst (x.map av)) ∧ H k = some (.lst (rk.map cv)) ∧ x.length = S.length ∧ rk.length = S.length ∧ i < S.length ∧ Wf S ∧ Plain S ∧ (gC rk i).isSome = true ∧ RetV (.bl (fallsB S x rk i)) H Q
theorem sv_falls {a p k : Addr} {S : List Fm} {x : List Amt} {rk : Ch} {i : Nat} {H : Hp} (hS : SheetAt H a S) (hp : H p = some (.lst (x.map av))) (hk : H k = some (.lst (rk.map cv))) (hl : x.length = S.length) (hl2 : rk.length = S.length) (hi : i < S.length) (ok : Wf S) (pl : Plain S) (hr : (gC rk i).isSome = true) : SpV spFalls [.ref a, .ref p, .ref k, nv i] H (.bl (fallsB S x rk i)) :=
  fun H1 e Q q _ => ⟨a, p, k, S, x, rk, i, rfl, hS.ex e, e _ _ hp, e _ _ hk, hl, hl2, hi, ok, pl, hr, q⟩
theorem any_map {α : Type} (l : List α) (f : α → Bool) : (l.map f).any id = l.any f := by
  rw [List.any_map]
  rfl
theorem all_map {α : Type} (l : List α) (f : α → Bool) : (l.map f).all id = l.all f := by
  rw [List.all_map]
  rfl
theorem ok_falls (T : Bt mg) (h : Has K mg "falls" sPFalls) (cPTightArcs : Cl P w K mg base 2 "tight_arcs" spTightArcs) : Cl P w K mg base 3 "falls" spFalls := by
  refine cl_of h scPFalls (fun _ _ _ _ _ _ us hl => match us, hl with | [_, _, _, _], _ => rfl) (fun vs H Q E h => ?_) (fun f cdv A outer s H vs Q E hr h => ?_)
  · obtain ⟨a, p, k, S, x, rk, i, rfl, _⟩ := h
    rfl
  obtain ⟨a, p, k, S, x, rk, i, rfl, hS, hp, hk, hl, hl2, hi, ok, pl, hrk, q⟩ := h
  have hg := fAt_get hi
  have oka := arcsOf_ok (ok.ok i _ hg)
  obtain ⟨ri, hri⟩ := Option.isSome_iff_exists.mp hrk
  refine ⟨_, (pss_cons (ps_if (pt_cmpR op_eq (pe_ix (ix_tupK (K := K)) (pe_ix (ix_listK (K := K)) (pv 0) (pv 3) (fun _ _ => rfl)) pe_int (fun _ _ => rfl)) pe_str (nomark _)) (pss_one (ps_ret pe_bl)) pss_nil)
      (pss_cons (ps_set (i := 4) scPFalls.nd rfl (Or.inl rfl) (pe_lst pa_nil))
      (pss_cons (ps_for PassesOwn.never rfl (pi_list (pe_k cPTightArcs (hr.mono (by decide)) (by rfl) (pa_cons (pv 0) (pa_cons (pv 1) (pa_cons (pv 3) pa_nil))))) (pg_tupK (K := K) (n := 2) rfl (pgs_cons (pg_name (i := 5) scPFalls.nd rfl (Or.inl rfl)) (pgs_cons (pg_name (i := 6) scPFalls.nd rfl (Or.inl rfl)) pgs_nil))) (pss_one (ps_expr (pe_bm PySem.F.plainAttrs_list PySem.F.slot_list_append PySem.F.type_list_append mt_append (pv 4) (pa_cons (pe_and (pe_cmpR op_notN (pe_ix (ix_listK (K := K)) (pv 2) (pv 5) (fun _ _ => rfl)) pe_non (nomark _)) (pe_one (pe_cmpR op_lt (pe_ix (ix_listK (K := K)) (pv 2) (pv 5) (fun _ _ => rfl)) (pe_ix (ix_listK (K := K)) (pv 2) (pv 3) (fun _ _ => rfl)) (nomark _)))) pa_nil)))))
      (pss_cons (ps_if (pt_cmpR op_eq (pe_ix (ix_tupK (K := K)) (pe_ix (ix_listK (K := K)) (pv 0) (pv 3) (fun _ _ => rfl)) pe_int (fun _ _ => rfl)) pe_str (nomark _)) (pss_one (ps_ret (pe_callB (cr_any rfl) (by rfl) T.b_any (by decide +kernel) (pa_cons (pv 4) pa_nil)))) pss_nil)
      (pss_one (ps_ret (pe_callB (cr_all rfl) (by rfl) T.b_all (by decide +kernel) (pa_cons (pv 4) pa_nil)))))))), ?_⟩
  obtain ⟨c, hc1, hc2⟩ := ev_xS (K := K) (ta := tVar 0) (tb := tVar 3) (σ := L2.start nPFalls [V.ref a, .ref p, .ref k, nv i]) (ev_var rfl) (ev_var rfl) hS hg
  refine q_when (et_test (ev_wA (ev_k0 hc1 hc2))) (fun hb H1 e1 => s_ret ev_c fun H2 e2 => ?_) fun hb H1 e1 => ?_
  · have e : fallsB S x rk i = true := if_pos hb
    rw [e] at q
    exact q H2 (e1.trans e2)
  refine q_asgL (el_lst ea_nil (Nat.zero_le _)) fun r H2 hr e2 h2 => ?_
  have e12 := e1.trans e2
  refine q_forK (ea_cons (ev_var rfl) (ea_cons (ev_var rfl) (ea_cons (ev_var rfl) ea_nil))) fun H3 e3 => ⟨a, p, S, x, i, rfl, hS.ex (e12.trans e3), (e12.trans e3) _ _ hp, hl, hi, ok, pl, fun l H4 hl4 e4 hL => ?_⟩
  have e14 := (e12.trans e3).trans e4
  have hr0 : H r = none := fresh_back e1 hr
  have tlen : (tightL S x i).length ≤ 6 := Nat.le_trans (List.length_filter_le _ _) oka.1
  -- the arcs' list stays, though lesser grows
  have hLh : ArcsAt (hd H4 r) l (tightL S x i) := arcs_hd ((e3.trans e4) _ _ h2) hL (fun z => by rw [z] at hl4; rw [e3 _ _ h2] at hl4; cases hl4)
  have e4r : Ex H (hd H4 r) := hd_of hr0 e14
  refine q_forA (arcs := tightL S x i) ev_c hLh (ex_xn hd_sub) (fun n σ' H' => Ex H H' ∧ Ex (hd H4 r) H' ∧ H' r = some (.lst ((((tightL S x i).take n).map (lesserB rk i)).map V.bl)) ∧ ∃ y5 y6, σ' = [some (.ref a), some (.ref p), some (.ref k), some (nv i), some (.ref r), y5, y6]) (fun H5 e5 => ⟨e14.trans e5, hd_sub.trans e5, (e3.trans (e4.trans e5)) _ _ h2, _, _, rfl⟩) (fun n σ' H' q => ex_xn q.2.1) (fun n s σ' H' hs Pn => ?_) fun σ' H' Pn => ?_
  · obtain ⟨e, e', hx, y5, y6, rfl⟩ := Pn
    have hs1 : s.1 < S.length := (oka.2 s (List.mem_filter.mp (List.mem_of_getElem? hs)).1).1
    have k' := e _ _ hk
    refine s_app hx (ev_var rfl) (v := .bl (lesserB rk i s)) ?_ (by rw [List.length_map, List.length_map, List.length_take]; omega) fun H6 e6 => ⟨Ex.mut (e.trans e6) hr0, Ex.mut (e'.trans e6) (if_pos rfl), ?_, _, _, rfl⟩
    · have z : Ev (tAndV (tOp (fun x y H Q => y = V.non ∧ Q (V.bl (!decide (x = V.non))) H) (tOp (rIxL K) (tVar 2) (tVar 5)) (tC .non)) (tOp (rI0 fun i j => .bl (decide (i < j))) (tOp (rIxL K) (tVar 2) (tVar 5)) (tOp (rIxL K) (tVar 2) (tVar 3)))) [some (.ref a), some (.ref p), some (.ref k), some (nv i), some (.ref r), some (.int (s.1 : Int)), some (.int s.2)] H' (.bl ((gC rk s.1).isSome && decide (((gC rk s.1).getD 0 : Int) < (ri : Int)))) :=
        ev_andV (ev_notNC (ev_xC (ev_var rfl) (ev_var rfl) k' (by rw [hl2]; exact hs1))) fun hsm => by
          obtain ⟨ks, hks⟩ := Option.isSome_iff_exists.mp hsm
          refine ev_lt (ev_is (ev_xC (ev_var rfl) (ev_var rfl) k' (by rw [hl2]; exact hs1)) (by rw [hks]; rfl)) (ev_is (ev_xC (ev_var rfl) (ev_var rfl) k' (by rw [hl2]; exact hi)) (by rw [hri]; rfl))
      refine ev_is z ?_
      unfold lesserB
      rw [hri]
      cases gC rk s.1 with
      | none => rfl
      | some ks =>
        show V.bl (true && decide ((ks : Int) < (ri : Int))) = V.bl (decide (ks < ri))
        rw [Bool.true_and]
        refine congrArg V.bl ?_
        by_cases z : ks < ri
        · rw [decide_eq_true z, decide_eq_true (by omega)]
        · rw [decide_eq_false z, decide_eq_false (by omega)]
    · rw [upd_same, List.take_add_one, hs, List.map_append, List.map_append]
      rfl
  · obtain ⟨e, e', hx, y5, y6, rfl⟩ := Pn
    rw [List.take_of_length_le (Nat.le_refl _)] at hx
    obtain ⟨c, hc1, hc2⟩ := ev_xS (K := K) (ta := tVar 0) (tb := tVar 3) (σ := [some (V.ref a), some (.ref p), some (.ref k), some (nv i), some (.ref r), y5, y6]) (ev_var rfl) (ev_var rfl) (hS.ex e) hg
    have hnA : ¬ (fAt S i).isA = true := by rw [hb]; exact Bool.false_ne_true
    refine q_when (et_test (ev_wG (ev_k0 hc1 hc2))) (fun hb2 H5 e5 => s_ret (ev_any (ev_var rfl) (e5 _ _ hx)) fun H6 e6 => ?_) fun hb2 H5 e5 => s_ret (ev_all (ev_var rfl) (e5 _ _ hx)) fun H6 e6 => ?_
    · have eF : fallsB S x rk i = ((tightL S x i).map (lesserB rk i)).any id := by
        rw [any_map]
        unfold fallsB
        rw [if_neg hnA, if_pos hb2]
      rw [← eF]
      exact q H6 (e.trans (e5.trans e6))
    · have eF : fallsB S x rk i = ((tightL S x i).map (lesserB rk i)).all id := by
        rw [all_map]
        unfold fallsB
        rw [if_neg hnA, if_neg (by rw [hb2]; exact Bool.false_ne_true)]
      rw [← eF]
      exact q H6 (e.trans (e5.trans e6))
/-! ### are_ranks -/
def spAreRanks : Sp := fun vs H Q _ => ∃ (a p k : Addr) (S : List Fm) (x : List Amt) (rk : Ch), vs = [.ref a, .ref p, .ref k] ∧ SheetAt H a S ∧ H p = some (.lst (x.map av)) ∧ H k = some (.lst (rk.map cv)) ∧ x.length = S.length ∧ Wf S ∧ Plain S ∧ Ranks S x rk ∧ RetV (.bl true) H Q
theorem sv_areRanks {a p k : Addr} {S : List Fm} {x : List Amt} {rk : Ch} {H : Hp} (hS : SheetAt H a S) (hp : H p = some (.lst (x.map av))) (hk : H k = some (.lst (rk.map cv))) (hl : x.length = S.length) (ok : Wf S) (pl : Plain S) (hr : Ranks S x rk) : SpV spAreRanks [.ref a, .ref p, .ref k] H (.bl true) :=
  fun H1 e Q q _ => ⟨a, p, k, S, x, rk, rfl, hS.ex e, e _ _ hp, e _ _ hk, hl, ok, pl, hr, q⟩
theorem ok_areRanks (T : Bt mg) (h : Has K mg "are_ranks" sPAreRanks) (cPFalls : Cl P w K mg base 3 "falls" spFalls) : Cl P w K mg base 4 "are_ranks" spAreRanks := by
  refine cl_of h scPAreRanks (fun _ _ _ _ _ _ us hl => match us, hl with | [_, _, _], _ => rfl) (fun vs H Q E h => ?_) (fun f cdv A outer s H vs Q E hr h => ?_)
  · obtain ⟨a, p, k, S, x, rk, rfl, _⟩ := h
    rfl
  obtain ⟨a, p, k, S, x, rk, rfl, hS, hp, hk, hl, ok, pl, R, q⟩ := h
  have rl := R.len
  have xl : (x.map av).length = S.length := by rw [List.length_map, hl]
  refine ⟨_, (pss_cons (ps_if (pt_cmpR op_ne (pe_callB (call_lenK (K := K)) (by rfl) T.b_len PySem.boot_len (pa_cons (pv 2) pa_nil)) (pe_callB (call_lenK (K := K)) (by rfl) T.b_len PySem.boot_len (pa_cons (pv 0) pa_nil)) (nomark _)) (pss_one (ps_ret pe_bl)) pss_nil)
      (pss_cons (ps_for PassesOwn.never rfl (pi_enum (by rfl) T.b_enumerate (pa_cons (pv 1) pa_nil)) (pg_tupK (K := K) (n := 2) rfl (pgs_cons (pg_name (i := 3) scPAreRanks.nd rfl (Or.inl rfl)) (pgs_cons (pg_name (i := 4) scPAreRanks.nd rfl (Or.inl rfl)) pgs_nil))) (pss_cons (ps_if (pt_cmpR op_ne (pe_cmpR op_isN (pv 4) pe_non (nomark _)) (pe_cmpR op_isN (pe_ix (ix_listK (K := K)) (pv 2) (pv 3) (fun _ _ => rfl)) pe_non (nomark _)) (nomark _)) (pss_one (ps_ret pe_bl)) pss_nil)
      (pss_one (ps_if (PW.pt (pw_and (pt_cmpR op_notN (pv 4) pe_non (nomark _)) (pw_and1 (pt_cmpR op_lt (pe_ix (ix_listK (K := K)) (pv 2) (pv 3) (fun _ _ => rfl)) pe_int (nomark _))))) (pss_one (ps_ret pe_bl)) pss_nil))))
      (pss_cons (ps_for PassesOwn.never rfl (pi_enum (by rfl) T.b_enumerate (pa_cons (pv 1) pa_nil)) (pg_tupK (K := K) (n := 2) rfl (pgs_cons (pg_name (i := 3) scPAreRanks.nd rfl (Or.inl rfl)) (pgs_cons (pg_name (i := 4) scPAreRanks.nd rfl (Or.inl rfl)) pgs_nil))) (pss_one (ps_if (PW.pt (pw_and (pt_cmpR op_notN (pv 4) pe_non (nomark _)) (pw_and (pt_cmpR op_gt (pv 4) pe_int (nomark _)) (pw_and1 (pt_not (pt_val (pe_k cPFalls (hr.mono (by decide)) (by rfl) (pa_cons (pv 0) (pa_cons (pv 1) (pa_cons (pv 2) (pa_cons (pv 3) pa_nil))))))))))) (pss_one (ps_ret pe_bl)) pss_nil)))
      (pss_one (ps_ret pe_bl))))), ?_⟩
  refine q_when (b := false) (et_is (et_test (ev_ne (ev_lenM (ev_var rfl) hk) (ev_lenS (ev_var rfl) hS) rfl)) (by rw [rl, decide_eq_true rfl]; rfl)) (fun hb => by cases hb) fun _ H1 e1 => ?_
  refine q_forE2 (ea_cons (ev_var rfl) ea_nil) (sq_of (e1 _ _ hp)) (fun n σ' H' => Ex H H' ∧ ∃ y3 y4, σ' = [some (.ref a), some (.ref p), some (.ref k), y3, y4]) (fun H2 e2 => ⟨e1.trans e2, _, _, rfl⟩) (fun n σ' H' q => sq_of (q.1 _ _ hp)) (fun n v σ' H' hv Pn H2 e2 => ?_) fun σ' H' Pn => ?_
  · obtain ⟨e, y3, y4, rfl⟩ := Pn
    have hn : n < S.length := by
      have := (List.getElem?_eq_some_iff.mp hv).1
      omega
    obtain ⟨am, ham, rfl⟩ := getMap hv
    have eam : gA x n = am := gA_some ham
    have k2 := (e.trans e2) _ _ hk
    have hf := R.fin n hn
    rw [eam] at hf
    refine q_when (b := false) (et_is (et_test (ev_ne (ev_isN (ev_var rfl)) (ev_isNC (ev_xC (ev_var rfl) (ev_var rfl) k2 (by rw [rl]; exact hn))) rfl)) (by rw [hf, decide_eq_true rfl]; rfl)) (fun hb => by cases hb) fun _ H3 e3 => ?_
    refine s_when (b := false) ?_ (fun hb => by cases hb) fun _ H4 e4 => ⟨((e.trans e2).trans e3).trans e4, _, _, rfl⟩
    refine et_is (et_and (a := am.isSome) (b := false) (et_test (ev_notN (ev_var rfl))) fun hs => ?_) (by rw [Bool.and_false])
    cases eo : gC rk n with
    | none =>
      rw [eo] at hf
      cases am with
      | none => cases hs
      | some v => cases hf
    | some kk => exact et_is (et_test (ev_lt (ev_is (ev_xC (ev_var rfl) (ev_var rfl) (e3 _ _ k2) (by rw [rl]; exact hn)) (by rw [eo]; rfl)) ev_c)) (decide_eq_false (by omega))
  · obtain ⟨e, y3, y4, rfl⟩ := Pn
    refine q_forE2 (ea_cons (ev_var rfl) ea_nil) (sq_of (e _ _ hp)) (fun n σ' H' => Ex H H' ∧ ∃ y3 y4, σ' = [some (.ref a), some (.ref p), some (.ref k), y3, y4]) (fun H2 e2 => ⟨e.trans e2, _, _, rfl⟩) (fun n σ' H' q => sq_of (q.1 _ _ hp)) (fun n v σ' H' hv Pn H2 e2 => ?_) fun σ' H' Pn => ?_
    · obtain ⟨e, y3, y4, rfl⟩ := Pn
      have hn : n < S.length := by
        have := (List.getElem?_eq_some_iff.mp hv).1
        omega
      obtain ⟨am, ham, rfl⟩ := getMap hv
      have eam : gA x n = am := gA_some ham
      have e2 := e.trans e2
      refine s_when (b := false) ?_ (fun hb => by cases hb) fun _ H4 e4 => ⟨e2.trans e4, _, _, rfl⟩
      refine et_is (et_and (a := am.isSome) (b := false) (et_test (ev_notN (ev_var rfl))) fun hs => ?_) (by rw [Bool.and_false])
      obtain ⟨v, rfl⟩ := Option.isSome_iff_exists.mp hs
      refine et_is (et_and (a := decide (0 < v)) (b := false) (et_test (ev_gt (ev_var rfl) ev_c)) fun hpos => ?_) (by rw [Bool.and_false])
      have hfl := R.falls n v hn eam (of_decide_eq_true hpos)
      have hrs : (gC rk n).isSome = true := by
        have hf := R.fin n hn
        rw [eam] at hf
        cases eo : gC rk n with
        | none =>
          rw [eo] at hf
          cases hf
        | some k => rfl
      exact et_is (et_not (et_B (ev_call (ea_cons (ev_var rfl) (ea_cons (ev_var rfl) (ea_cons (ev_var rfl) (ea_cons (ev_var rfl) ea_nil)))) (sv_falls (hS.ex e2) (e2 _ _ hp) (e2 _ _ hk) hl rl hn ok pl hrs)))) (by rw [hfl]; rfl)
    · obtain ⟨e, y3, y4, rfl⟩ := Pn
      exact s_ret ev_c fun H2 e2 => q H2 (e.trans e2)
/-! ### fulfilled -/
def spFulfilled : Sp := fun vs H Q _ => ∃ (a p : Addr) (S : List Fm) (x : List Amt), vs = [.ref a, .ref p] ∧ SheetAt H a S ∧ H p = some (.lst (x.map av)) ∧ x.length = S.length ∧ Wf S ∧ RetL ((fulf S x).map nv) H Q
theorem sv_fulfilled {a p : Addr} {S : List Fm} {x : List Amt} {H : Hp} (hS : SheetAt H a S) (hp : H p = some (.lst (x.map av))) (hl : x.length = S.length) (ok : Wf S) : SpL spFulfilled [.ref a, .ref p] H ((fulf S x).map nv) := fun H1 e Q q _ => ⟨a, p, S, x, rfl, hS.ex e, e _ _ hp, hl, ok, q⟩
theorem conds_len (S : List Fm) : (conds S).length ≤ S.length := by
  have := List.length_filter_le (fun i => (fAt S i).isW) (List.range S.length)
  rw [List.length_range] at this
  exact this
theorem mem_conds {S : List Fm} {i : Nat} : i ∈ conds S ↔ i < S.length ∧ (fAt S i).isW = true := by
  unfold conds
  rw [List.mem_filter, List.mem_range]
theorem ok_fulfilled (T : Bt mg) (h : Has K mg "fulfilled" sPFulfilled) (cPConditionsOf : Cl P w K mg base 1 "conditions_of" spConditionsOf) (cPAtMost : Cl P w K mg base 1 "at_most" spAtMost) : Cl P w K mg base 2 "fulfilled" spFulfilled := by
  refine cl_of h scPFulfilled (fun _ _ _ _ _ _ us hl => match us, hl with | [_, _], _ => rfl) (fun vs H Q E h => ?_) (fun f cdv A outer s H vs Q E hr h => ?_)
  · obtain ⟨a, p, S, x, rfl, _⟩ := h
    rfl
  obtain ⟨a, p, S, x, rfl, hS, hp, hl, ok, q⟩ := h
  have hlen := ok.len
  have cl := conds_len S
  refine ⟨_, (pss_cons (ps_set (i := 2) scPFulfilled.nd rfl (Or.inl rfl) (pe_lst pa_nil))
      (pss_cons (ps_for PassesOwn.never rfl (pi_list (pe_k cPConditionsOf (hr.mono (by decide)) (by rfl) (pa_cons (pv 0) pa_nil))) (pg_name (i := 3) scPFulfilled.nd rfl (Or.inl rfl)) (pss_one (ps_if (pt_val (pe_k cPAtMost (hr.mono (by decide)) (by rfl) (pa_cons (pe_ix (ix_tupK (K := K)) (pe_ix (ix_listK (K := K)) (pv 0) (pv 3) (fun _ _ => rfl)) pe_int (fun _ _ => rfl)) (pa_cons (pe_ix (ix_listK (K := K)) (pv 1) (pe_ix (ix_tupK (K := K)) (pe_ix (ix_listK (K := K)) (pv 0) (pv 3) (fun _ _ => rfl)) pe_int (fun _ _ => rfl)) (fun _ _ => rfl)) pa_nil)))) (pss_one (ps_expr (pe_bm PySem.F.plainAttrs_list PySem.F.slot_list_append PySem.F.type_list_append mt_append (pv 2) (pa_cons (pv 3) pa_nil)))) pss_nil)))
      (pss_one (ps_ret (pv 2))))), ?_⟩
  refine q_asgL (el_lst ea_nil (Nat.zero_le _)) fun r H2 hr e2 h2 => ?_
  refine q_forK (ea_cons (ev_var rfl) ea_nil) fun H3 e3 => ⟨a, S, rfl, hS.ex (e2.trans e3), ok.len, fun l H4 hl4 e4 h4 => ?_⟩
  have e24 := e3.trans e4
  have lenC : ((conds S).map nv).length = (conds S).length := List.length_map _
  have nlr : l ≠ r := fun z => by
    rw [z, e3 _ _ h2] at hl4
    cases hl4
  refine q_forLn ev_c (sq_of h4) (fun n σ' H' => Ex H H' ∧ H' l = some (.lst ((conds S).map nv)) ∧ H' r = some (.lst ((((conds S).take n).filter fun i => whenMet x (fAt S i)).map nv)) ∧ ∃ y3, σ' = [some (.ref a), some (.ref p), some (.ref r), y3]) (fun H5 e5 => ⟨(e2.trans e24).trans e5, e5 _ _ h4, (e24.trans e5) _ _ h2, _, rfl⟩) (fun n σ' H' _ q => sq_of q.2.1) (fun n v σ' H' hv Pn => ?_) fun σ' H' Pn => ?_
  · obtain ⟨e, hl', hx, y3, rfl⟩ := Pn
    obtain ⟨i, hi, rfl⟩ := getMap hv
    obtain ⟨hin, hiw⟩ := mem_conds.mp (List.mem_of_getElem? hi)
    obtain ⟨c, hc1, hc2⟩ := ev_xS (K := K) (ta := tVar 0) (tb := tVar 3) (σ := [some (V.ref a), some (.ref p), some (.ref r), some (nv i)]) (ev_var rfl) (ev_var rfl) (hS.ex e) (fAt_get hin)
    have okf := ok.ok i _ (fAt_get hin)
    have htk : ((conds S).take (n + 1)).filter (fun i => whenMet x (fAt S i)) = if whenMet x (fAt S i) = true then ((conds S).take n).filter (fun i => whenMet x (fAt S i)) ++ [i] else ((conds S).take n).filter (fun i => whenMet x (fAt S i)) := by
      rw [List.take_add_one, hi, List.filter_append]
      show _ ++ ([i].filter _) = _
      rw [List.filter_cons]
      split
      · rfl
      · rw [List.filter_nil, List.append_nil]
    cases hq : fAt S i with
    | when j b k =>
      rw [hq] at hc2 okf
      rw [hq] at htk
      have ew : whenMet x (.when j b k) = leA (some b) (gA x j) := rfl
      refine s_when (et_B (ev_call (ea_cons (ev_is (ev_xT hc1 ev_c hc2 at2) (by rfl : V.int b = av (some b))) (ea_cons (ev_xA (j := j) (ev_var rfl) (ev_xT hc1 ev_c hc2 at1) (e _ _ hp) (by rw [hl]; exact okf.1)) ea_nil)) sv_atMost)) (fun hb H5 e5 => ?_) fun hb H5 e5 => ⟨e.trans e5, e5 _ _ hl', ?_, _, rfl⟩
      · refine s_app (e5 _ _ hx) (ev_var rfl) (v := nv i) (ev_var rfl) (by
          rw [List.length_map]
          have := List.length_filter_le (fun i => whenMet x (fAt S i)) ((conds S).take n)
          have z : ((conds S).take n).length ≤ (conds S).length := by rw [List.length_take]; exact Nat.min_le_right _ _
          omega) fun H6 e6 => ⟨Ex.mut ((e.trans e5).trans e6) hr, by rw [upd_ne nlr]; exact (e5.trans e6) _ _ hl', ?_, _, rfl⟩
        rw [upd_same, htk, if_pos (by rw [ew]; exact hb), List.map_append]
        rfl
      · rw [htk, if_neg (by rw [ew, hb]; exact Bool.false_ne_true)]
        exact e5 _ _ hx
    | _ =>
      rw [hq] at hiw
      cases hiw
  · obtain ⟨e, hl', hx, y3, rfl⟩ := Pn
    rw [lenC, List.take_of_length_le (Nat.le_refl _)] at hx
    exact s_ret (ev_var rfl) fun H5 e5 => q r H5 hr (e.trans e5) (e5 _ _ hx)
end Cs
set_option Elab.async false
set_option linter.all false
set_option maxRecDepth 100000
set_option maxHeartbeats 4000000
/-! P: least_ranks -/
namespace Cs
open PySem PySem.Spec PyProof.Rows L2 Evl LamX
variable {P : Program} {w : World} {K : PySem.W.Frag} {mg : Str → Option Value} {base : Heap}
theorem list_ext_gC {x y : Ch} (hl : x.length = y.length) (h : ∀ i, i < x.length → gC x i = gC y i) : x = y := by
  refine List.ext_getElem? fun i => ?_
  by_cases q : i < x.length
  · rw [gC_get q, gC_get (by omega), h i q]
  · rw [List.getElem?_eq_none (by omega), List.getElem?_eq_none (by omega)]
theorem lrRk0_zero (S : List Fm) (x : List Amt) : lrRk0 S x 0 = List.replicate S.length none := by
  refine list_ext_gC (by rw [lrRk0_len, List.length_replicate]) fun i hi => ?_
  rw [lrRk0_len] at hi
  rw [lrRk0_at hi, if_neg (fun z => Nat.not_lt_zero _ z.1)]
  show none = (List.replicate S.length (none : Option Nat)).getD i none
  rw [List.getD_eq_getElem?_getD, List.getElem?_replicate]
  split <;> rfl
theorem lrRk0_succ {S : List Fm} {x : List Amt} {n : Nat} (hn : n < S.length) : lrRk0 S x (n + 1) = if lrInit S x n = true then (lrRk0 S x n).set n (some 0) else lrRk0 S x n := by
  by_cases q : lrInit S x n = true
  · rw [if_pos q]
    refine list_ext_gC (by rw [List.length_set, lrRk0_len, lrRk0_len]) fun i hi => ?_
    rw [lrRk0_len] at hi
    by_cases e : n = i
    · subst e
      rw [gC_set_eq (by rw [lrRk0_len]; exact hi), lrRk0_at hi, if_pos ⟨by omega, q⟩]
    · rw [gC_set_ne e, lrRk0_at hi, lrRk0_at hi]
      by_cases z : i < n ∧ lrInit S x i = true
      · rw [if_pos z, if_pos ⟨by omega, z.2⟩]
      · rw [if_neg z, if_neg fun u => z ⟨by omega, u.2⟩]
  · rw [if_neg q]
    refine list_ext_gC (by rw [lrRk0_len, lrRk0_len]) fun i hi => ?_
    rw [lrRk0_len] at hi
    rw [lrRk0_at hi, lrRk0_at hi]
    by_cases z : i < n ∧ lrInit S x i = true
    · rw [if_pos z, if_pos ⟨by omega, z.2⟩]
    · rw [if_neg z, if_neg fun u => z ⟨by
        by_cases e : i = n
        · rw [e] at u
          exact absurd u.2 q
        · omega, u.2⟩]
theorem lrW0_succ (S : List Fm) (x : List Amt) (n : Nat) : lrW0 S x (n + 1) = if (!lrInit S x n && (gA x n).isSome) = true then lrW0 S x n ++ [n] else lrW0 S x n := by
  unfold lrW0
  rw [List.range_succ, List.filter_append]
  show _ ++ ([n].filter _) = _
  rw [List.filter_cons]
  split
  · rfl
  · rw [List.filter_nil, List.append_nil]
theorem set_back {rk : Ch} {c : Nat} {o : Option Nat} (h : gC rk c = none) (hc : c < rk.length) : (rk.set c o).set c none = rk := by
  refine list_ext_gC (by rw [List.length_set, List.length_set]) fun i hi => ?_
  rw [List.length_set, List.length_set] at hi
  by_cases e : c = i
  · subst e
    rw [gC_set_eq (by rw [List.length_set]; exact hc), h]
  · rw [gC_set_ne e, gC_set_ne e]
theorem set_cvN (x : Ch) (i : Nat) : (x.map cv).set i .non = (x.set i none).map cv := by
  rw [List.map_set]
  rfl
theorem take_filter {α : Type} (p : α → Bool) {l : List α} {n : Nat} {y : α} (h : l[n]? = some y) : (l.take (n + 1)).filter p = if p y = true then (l.take n).filter p ++ [y] else (l.take n).filter p := by
  rw [List.take_add_one, h, List.filter_append]
  show _ ++ ([y].filter _) = _
  rw [List.filter_cons]
  split
  · rfl
  · rw [List.filter_nil, List.append_nil]
def spLeastRanks : Sp := fun vs H Q _ => ∃ (a p : Addr) (S : List Fm), vs = [.ref a, .ref p] ∧ SheetAt H a S ∧ H p = some (.lst ((lfpL S).map av)) ∧ Wf S ∧ Plain S ∧ RetL ((lrEnd S).map cv) H Q
theorem sv_leastRanks {a p : Addr} {S : List Fm} {H : Hp} (hS : SheetAt H a S) (hp : H p = some (.lst ((lfpL S).map av))) (ok : Wf S) (pl : Plain S) : SpL spLeastRanks [.ref a, .ref p] H ((lrEnd S).map cv) := fun H1 e Q q _ => ⟨a, p, S, rfl, hS.ex e, e _ _ hp, ok, pl, q⟩
theorem ok_leastRanks (T : Bt mg) (h : Has K mg "least_ranks" sPLeastRanks) (cPFalls : Cl P w K mg base 3 "falls" spFalls) : Cl P w K mg base 4 "least_ranks" spLeastRanks := by
  refine cl_of h scPLeastRanks (fun _ _ _ _ _ _ us hl => match us, hl with | [_, _], _ => rfl) (fun vs H Q E h => ?_) (fun f cdv A outer s H vs Q E hr h => ?_)
  · obtain ⟨a, p, S, rfl, _⟩ := h
    rfl
  obtain ⟨a, p, S, rfl, hS, hp, ok, pl, q⟩ := h
  have ms := ms_of ok pl
  have hlen := ok.len
  have xl := lfpL_len S
  have hrun := lr_run ok ms
  have hEnd : lrEnd S = (lrRun S (lfpL S) S.length).1 := rfl
  rw [hEnd] at q
  clear hEnd
  generalize hX : lfpL S = x at hp xl q hrun
  have xlV : (x.map av).length = S.length := by rw [List.length_map, xl]
  refine ⟨_, (pss_cons (ps_setLc (i := 2) (own := [("amount", 5)]) rfl scPLeastRanks.nd rfl rfl (sw_true rfl rfl rfl (by decide +kernel)) (pi_list (pv 1)) (blkOk_by (own := [("amount", 5)]) (N := nPLeastRanks) (sc := defScope sPLeastRanks) (by decide +kernel)) (fun _ _ _ _ _ => (pg_name (i := 5) scPLeastRanks.nd rfl (Or.inl rfl))) (fun _ _ _ _ _ => pts_nil) (fun _ _ _ _ _ => pe_non))
      (pss_cons (ps_set (i := 3) scPLeastRanks.nd rfl (Or.inl rfl) (pe_lst pa_nil))
      (pss_cons (ps_for PassesOwn.never rfl (pi_enum (by rfl) T.b_enumerate (pa_cons (pv 1) pa_nil)) (pg_tupK (K := K) (n := 2) rfl (pgs_cons (pg_name (i := 4) scPLeastRanks.nd rfl (Or.inl rfl)) (pgs_cons (pg_name (i := 5) scPLeastRanks.nd rfl (Or.inl rfl)) pgs_nil))) (pss_one (ps_if (PW.pt (pw_or (pt_cmpR op_eq (pv 5) pe_int (nomark _)) (pw_or1 (PW.pt (pw_and (pt_cmpR op_notN (pv 5) pe_non (nomark _)) (pw_and1 (pt_cmpR op_eq (pe_ix (ix_tupK (K := K)) (pe_ix (ix_listK (K := K)) (pv 0) (pv 4) (fun _ _ => rfl)) pe_int (fun _ _ => rfl)) pe_str (nomark _)))))))) (pss_one (ps_asg pe_int (pg_sub (pv 2) (pv 4) set_list))) (pss_one (ps_if (pt_cmpR op_notN (pv 5) pe_non (nomark _)) (pss_one (ps_expr (pe_bm PySem.F.plainAttrs_list PySem.F.slot_list_append PySem.F.type_list_append mt_append (pv 3) (pa_cons (pv 4) pa_nil)))) pss_nil)))))
      (pss_cons (ps_for PassesOwn.never rfl (pi_range2 (by rfl) T.b_range (pa_cons pe_int (pa_cons (pe_op op_add (pe_callB (call_lenK (K := K)) (by rfl) T.b_len PySem.boot_len (pa_cons (pv 0) pa_nil)) pe_int) pa_nil))) (pg_name (i := 6) scPLeastRanks.nd rfl (Or.inl rfl)) (pss_cons (ps_set (i := 7) scPLeastRanks.nd rfl (Or.inr rfl) (pe_lst pa_nil))
      (pss_cons (ps_for PassesOwn.never rfl (pi_list (pv 3)) (pg_name (i := 4) scPLeastRanks.nd rfl (Or.inl rfl)) (pss_cons (ps_asg (pv 6) (pg_sub (pv 2) (pv 4) set_list))
      (pss_cons (ps_if (pt_val (pe_k cPFalls (hr.mono (by decide)) (by rfl) (pa_cons (pv 0) (pa_cons (pv 1) (pa_cons (pv 2) (pa_cons (pv 4) pa_nil)))))) (pss_one (ps_expr (pe_bm PySem.F.plainAttrs_list PySem.F.slot_list_append PySem.F.type_list_append mt_append (pv 7) (pa_cons (pv 4) pa_nil)))) pss_nil)
      (pss_one (ps_asg pe_non (pg_sub (pv 2) (pv 4) set_list))))))
      (pss_cons (ps_for PassesOwn.never rfl (pi_list (pv 7)) (pg_name (i := 4) scPLeastRanks.nd rfl (Or.inl rfl)) (pss_one (ps_asg (pv 6) (pg_sub (pv 2) (pv 4) set_list))))
      (pss_one (ps_setLc (i := 3) (own := [("cell", 4)]) rfl scPLeastRanks.nd rfl rfl (sw_true rfl rfl rfl (by decide +kernel)) (pi_list (pv 3)) (blkOk_by (own := [("cell", 4)]) (N := nPLeastRanks) (sc := defScope sPLeastRanks) (by decide +kernel)) (fun _ _ _ _ _ => (pg_name (i := 4) scPLeastRanks.nd rfl (Or.inl rfl))) (fun _ _ _ _ _ => (pts_one (pt_cmpR (op_notInK (K := K)) (pv 4) (pv 7) (by rfl)))) (fun _ _ _ _ _ => (pv 4))))))))
      (pss_one (ps_ret (pv 2))))))), ?_⟩
  refine q_asgL (xs := (lrRk0 S x 0).map cv) ?_ fun rr H1 hrr e1 h1 => ?_
  · have z := el_lc (K := K) (α := Amt) (xs := x.map av) (ys := x) (tl := tVar 1) (te := tC .non) (t := tYes) (g := gName 5) (vs := [5]) (σ := L2.start nPLeastRanks [.ref a, .ref p]) (H := H) (fun _ => true) (fun _ => .non) (ev_var rfl) (sq_of hp) (List.length_map _) (by omega) fun n u y hu hy => ⟨_, fun H1 e1 Q q => q, rfl, fun H1 e1 H2 e2 Q k => k H2 (Ex.refl H2), fun _ H1 e1 => ev_c⟩
    rw [filter_true] at z
    rw [lrRk0_zero, List.map_replicate]
    have e : x.map (fun _ => V.non) = List.replicate S.length (cv none) := by
      rw [List.map_const', xl]
      rfl
    rw [← e]
    exact z
  refine q_asgL (el_lst ea_nil (Nat.zero_le _)) fun rw0 H2 hrw e2 h2 => ?_
  have e12 := e1.trans e2
  have hrw0 : H rw0 = none := fresh_back e1 hrw
  have nrw : rr ≠ rw0 := ne_of_none h1 hrw
  refine q_forE2 (ea_cons (ev_var rfl) ea_nil) (sq_of (e12 _ _ hp)) (fun n σ' H' => Ex H H' ∧ H' rr = some (.lst ((lrRk0 S x n).map cv)) ∧ H' rw0 = some (.lst ((lrW0 S x n).map nv)) ∧ ∃ y4 y5 y6 y7, σ' = [some (.ref a), some (.ref p), some (.ref rr), some (.ref rw0), y4, y5, y6, y7]) (fun H3 e3 => ⟨e12.trans e3, (e2.trans e3) _ _ h1, e3 _ _ h2, _, _, _, _, rfl⟩) (fun n σ' H' q => sq_of (q.1 _ _ hp)) (fun n v σ' H' hv Pn H3 e3 => ?_) fun σ' H' Pn => ?_
  · obtain ⟨e, hk, hw, y4, y5, y6, y7, rfl⟩ := Pn
    have hn : n < S.length := by
      have := (List.getElem?_eq_some_iff.mp hv).1
      omega
    obtain ⟨am, ham, rfl⟩ := getMap hv
    have eam : gA x n = am := gA_some ham
    have eH := e.trans e3
    obtain ⟨c, hc1, hc2⟩ := ev_xS (K := K) (ta := tVar 0) (tb := tVar 4) (σ := [some (V.ref a), some (.ref p), some (.ref rr), some (.ref rw0), some (nv n), some (av am), y6, y7]) (ev_var rfl) (ev_var rfl) (hS.ex eH) (fAt_get hn)
    have t0 : scal (av am) (.int 0) = true := by cases am <;> rfl
    have t1 : decide (av am = .int 0) = decide (am = some 0) := dec_av (b := some 0)
    refine s_if (et_is (et_or (et_test (ev_eq (ev_var rfl) ev_c t0)) fun _ => et_and (et_test (ev_notN (ev_var rfl))) fun _ => et_test (ev_wA (ev_k0 hc1 hc2))) (by
      rw [t1, ← eam]
      rfl : _ = lrInit S x n)) (fun hb H4 e4 => ?_) fun hb H4 e4 => ?_
    · refine s_setL (v := cv (some 0)) ((e3.trans e4) _ _ hk) ev_c (ev_var rfl) (ev_var rfl) (by rw [List.length_map, lrRk0_len]; exact hn) fun H5 e5 => ⟨Ex.mut ((eH.trans e4).trans e5) hrr, ?_, ?_, _, _, _, _, rfl⟩
      · rw [upd_same, lrRk0_succ hn, if_pos hb, List.map_set]
      · rw [upd_ne (Ne.symm nrw), lrW0_succ, if_neg (by rw [hb]; simp)]
        exact (e3.trans (e4.trans e5)) _ _ hw
    · refine s_when (et_test (ev_notN (ev_var rfl))) (fun hb2 H5 e5 => ?_) fun hb2 H5 e5 => ?_
      · refine s_app ((e3.trans (e4.trans e5)) _ _ hw) (ev_var rfl) (v := nv n) (ev_var rfl) (by
          rw [List.length_map]
          have := List.length_filter_le (fun i => !lrInit S x i && (gA x i).isSome) (List.range n)
          rw [List.length_range] at this
          unfold lrW0
          omega) fun H6 e6 => ⟨Ex.mut (((eH.trans e4).trans e5).trans e6) hrw0, ?_, ?_, _, _, _, _, rfl⟩
        · rw [upd_ne nrw, lrRk0_succ hn, if_neg (by rw [hb]; exact Bool.false_ne_true)]
          exact (e3.trans (e4.trans (e5.trans e6))) _ _ hk
        · rw [upd_same, lrW0_succ, if_pos (by rw [hb, eam, hb2]; rfl), List.map_append]
          rfl
      · refine ⟨((eH.trans e4).trans e5), ?_, ?_, _, _, _, _, rfl⟩
        · rw [lrRk0_succ hn, if_neg (by rw [hb]; exact Bool.false_ne_true)]
          exact (e3.trans (e4.trans e5)) _ _ hk
        · rw [lrW0_succ, if_neg (by rw [eam, hb2]; simp)]
          exact (e3.trans (e4.trans e5)) _ _ hw
  · obtain ⟨e, hk, hw, y4, y5, y6, y7, rfl⟩ := Pn
    rw [xlV] at hk hw
    refine q_forR2 (lo := 1) (n := ((S.length + 1 : Nat) : Int)) (ea_cons ev_c (ea_cons (ev_is (ev_add (ev_lenS (ev_var rfl) (hS.ex e)) ev_c) (by show V.int ((S.length : Int) + 1) = V.int ((S.length + 1 : Nat) : Int); rfl)) ea_nil)) (by omega)
      (fun n σ' H' => Ex H H' ∧ H' rr = some (.lst ((lrRun S x n).1.map cv)) ∧ ∃ wa, rr ≠ wa ∧ H' wa = some (.lst ((lrRun S x n).2.map nv)) ∧ ∃ y4 y5 y6 y7, σ' = [some (.ref a), some (.ref p), some (.ref rr), some (.ref wa), y4, y5, y6, y7])
      (fun H3 e3 => ⟨e.trans e3, e3 _ _ hk, rw0, nrw, e3 _ _ hw, _, _, _, _, rfl⟩) (fun n σ' H' hn Pn => ?_) fun σ' H' Pn => ?_
    · obtain ⟨e, hk, wa, nwa, hw, y4, y5, y6, y7, rfl⟩ := Pn
      have hI := (hrun n).1
      have lR : (1 : Int) + (n : Int) = ((n + 1 : Nat) : Int) := by omega
      rw [lR]
      rw [lrRun_succ]
      generalize lrRun S x n = st at hk hw hI ⊢
      obtain ⟨rk, wl⟩ := st
      have wlen : wl.length ≤ S.length := nodup_len S.length _ hI.nd fun c hc => (hI.wt c hc).1
      have rkl : rk.length = S.length := hI.len
      refine q_asgL (el_lst ea_nil (Nat.zero_le _)) fun rf H3 hrf e3 h3 => ?_
      have e03 := e.trans e3
      have hrf0 : H rf = none := fresh_back e hrf
      have nrf : rr ≠ rf := ne_of_none hk hrf
      have nwf : wa ≠ rf := ne_of_none hw hrf
      have lw : (wl.map nv).length = wl.length := List.length_map _
      refine q_forLn (ev_var rfl) (sq_of (e3 _ _ hw)) (fun m σ' H' => Ex H H' ∧ H' rr = some (.lst (rk.map cv)) ∧ H' wa = some (.lst (wl.map nv)) ∧ H' rf = some (.lst (((wl.take m).filter fun c => fallsB S x (rk.set c (some (n + 1))) c).map nv)) ∧ ∃ y4 y5, σ' = [some (.ref a), some (.ref p), some (.ref rr), some (.ref wa), y4, y5, some (.int ((n + 1 : Nat) : Int)), some (.ref rf)])
        (fun H4 e4 => ⟨e03.trans e4, (e3.trans e4) _ _ hk, (e3.trans e4) _ _ hw, e4 _ _ h3, _, _, rfl⟩) (fun m σ' H' _ q => sq_of q.2.2.1) (fun m v σ' H' hv Pm => ?_) fun σ' H' Pm => ?_
      · obtain ⟨em, mk, mw, mf, y4, y5, rfl⟩ := Pm
        obtain ⟨c, hc, rfl⟩ := getMap hv
        have hcw : c ∈ wl := List.mem_of_getElem? hc
        obtain ⟨cl, cn, _, _⟩ := hI.wt c hcw
        have fl6 : ((wl.take m).filter fun c => fallsB S x (rk.set c (some (n + 1))) c).length ≤ S.length := by
          have a1 := List.length_filter_le (fun c => fallsB S x (rk.set c (some (n + 1))) c) (wl.take m)
          have a2 : (wl.take m).length ≤ wl.length := by rw [List.length_take]; exact Nat.min_le_right _ _
          omega
        refine q_setL (v := cv (some (n + 1))) mk (ev_var rfl) (ev_var rfl) (ev_var rfl) (by rw [List.length_map, rkl]; exact cl) fun H4 e4 => ?_
        have eU : (rk.map cv).set c (cv (some (n + 1))) = (rk.set c (some (n + 1))).map cv := by rw [List.map_set]
        rw [eU]
        have E1 : Ex H (upd H4 rr (.lst ((rk.set c (some (n + 1))).map cv))) := Ex.mut (em.trans e4) hrr
        have w1 : (upd H4 rr (.lst ((rk.set c (some (n + 1))).map cv))) wa = some (.lst (wl.map nv)) := by
          rw [upd_ne (Ne.symm nwa)]
          exact e4 _ _ mw
        have f1 : (upd H4 rr (.lst ((rk.set c (some (n + 1))).map cv))) rf = some (.lst (((wl.take m).filter fun c => fallsB S x (rk.set c (some (n + 1))) c).map nv)) := by
          rw [upd_ne (Ne.symm nrf)]
          exact e4 _ _ mf
        have call := sv_falls (hS.ex E1) (E1 _ _ hp) (upd_same (H := H4) (a := rr)) xl (by rw [List.length_set]; exact rkl) cl ok pl (by rw [gC_set_eq (by rw [rkl]; exact cl)]; rfl)
        have last : ∀ (H6 : Hp) (ff : List Nat), Ex H H6 → H6 rr = some (.lst ((rk.set c (some (n + 1))).map cv)) → H6 wa = some (.lst (wl.map nv)) → H6 rf = some (.lst (ff.map nv)) →
            Ex H (upd H6 rr (.lst (((rk.set c (some (n + 1))).map cv).set c .non))) ∧ (upd H6 rr (.lst (((rk.set c (some (n + 1))).map cv).set c .non))) rr = some (.lst (rk.map cv)) ∧ (upd H6 rr (.lst (((rk.set c (some (n + 1))).map cv).set c .non))) wa = some (.lst (wl.map nv)) ∧ (upd H6 rr (.lst (((rk.set c (some (n + 1))).map cv).set c .non))) rf = some (.lst (ff.map nv)) := fun H6 ff a1 a2 a3 a4 =>
          ⟨Ex.mut a1 hrr, by rw [upd_same, set_cvN, set_back cn (by rw [rkl]; exact cl)], by rw [upd_ne (Ne.symm nwa)]; exact a3, by rw [upd_ne (Ne.symm nrf)]; exact a4⟩
        refine q_when (et_B (ev_call (ea_cons (ev_var rfl) (ea_cons (ev_var rfl) (ea_cons (ev_var rfl) (ea_cons (ev_var rfl) ea_nil)))) call)) (fun hb H5 e5 => ?_) fun hb H5 e5 => ?_
        · refine s_app (e5 _ _ f1) (ev_var rfl) (v := nv c) (ev_var rfl) (by rw [List.length_map]; omega) fun H6 e6 => ?_
          have e56 := e5.trans e6
          have r6 : (upd H6 rf (.lst (((wl.take m).filter fun c => fallsB S x (rk.set c (some (n + 1))) c).map nv ++ [nv c]))) rr = some (.lst ((rk.set c (some (n + 1))).map cv)) := by
            rw [upd_ne nrf]
            exact e56 _ _ upd_same
          have w6 : (upd H6 rf (.lst (((wl.take m).filter fun c => fallsB S x (rk.set c (some (n + 1))) c).map nv ++ [nv c]))) wa = some (.lst (wl.map nv)) := by
            rw [upd_ne nwf]
            exact e56 _ _ w1
          have f6 : (upd H6 rf (.lst (((wl.take m).filter fun c => fallsB S x (rk.set c (some (n + 1))) c).map nv ++ [nv c]))) rf = some (.lst (((wl.take (m + 1)).filter fun c => fallsB S x (rk.set c (some (n + 1))) c).map nv)) := by
            rw [upd_same, take_filter _ hc, if_pos hb, List.map_append]
            rfl
          refine s_setL (v := .non) r6 ev_c (ev_var rfl) (ev_var rfl) (by rw [List.length_map, List.length_set, rkl]; exact cl) fun H7 e7 => ?_
          obtain ⟨b1, b2, b3, b4⟩ := last H7 _ ((Ex.mut (E1.trans e56) hrf0).trans e7) (e7 _ _ r6) (e7 _ _ w6) (e7 _ _ f6)
          exact ⟨b1, b2, b3, b4, _, _, rfl⟩
        · refine s_setL (v := .non) (e5 _ _ upd_same) ev_c (ev_var rfl) (ev_var rfl) (by rw [List.length_map, List.length_set, rkl]; exact cl) fun H7 e7 => ?_
          have e57 := e5.trans e7
          obtain ⟨b1, b2, b3, b4⟩ := last H7 _ (E1.trans e57) (e57 _ _ upd_same) (e57 _ _ w1) (e57 _ _ f1)
          refine ⟨b1, b2, b3, ?_, _, _, rfl⟩
          rw [take_filter _ hc, if_neg (by rw [hb]; exact Bool.false_ne_true)]
          exact b4
      · obtain ⟨em, mk, mw, mf, y4, y5, rfl⟩ := Pm
        rw [lw, List.take_of_length_le (Nat.le_refl _)] at mf
        have mf : H' rf = some (.lst ((lrFound S x (n + 1) rk wl).map nv)) := mf
        have hfw : ∀ c ∈ lrFound S x (n + 1) rk wl, c < S.length := fun c hc => (hI.wt c (List.mem_filter.mp hc).1).1
        show tSeq _ _ _ _ _
        have goal2 : lrStep S x (rk, wl) n = (lrSet (n + 1) rk (lrFound S x (n + 1) rk wl), wl.filter fun c => !(lrFound S x (n + 1) rk wl).contains c) := rfl
        rw [goal2]
        generalize lrFound S x (n + 1) rk wl = F at mf hfw ⊢
        have lF : (F.map nv).length = F.length := List.length_map _
        refine q_forLn (ev_var rfl) (sq_of mf) (fun m σ' H' => Ex H H' ∧ H' rr = some (.lst ((lrSet (n + 1) rk (F.take m)).map cv)) ∧ H' wa = some (.lst (wl.map nv)) ∧ H' rf = some (.lst (F.map nv)) ∧ ∃ y4 y5, σ' = [some (.ref a), some (.ref p), some (.ref rr), some (.ref wa), y4, y5, some (.int ((n + 1 : Nat) : Int)), some (.ref rf)])
          (fun H4 e4 => ⟨em.trans e4, e4 _ _ mk, e4 _ _ mw, e4 _ _ mf, _, _, rfl⟩) (fun m σ' H' _ q => sq_of q.2.2.2.1) (fun m v σ' H' hv Pm => ?_) fun σ' H' Pm => ?_
        · obtain ⟨em, mk, mw, mf, y4, y5, rfl⟩ := Pm
          obtain ⟨c, hc, rfl⟩ := getMap hv
          refine s_setL (v := cv (some (n + 1))) mk (ev_var rfl) (ev_var rfl) (ev_var rfl) (by rw [List.length_map, lrSet_len, rkl]; exact hfw c (List.mem_of_getElem? hc)) fun H7 e7 => ⟨Ex.mut (em.trans e7) hrr, ?_, by rw [upd_ne (Ne.symm nwa)]; exact e7 _ _ mw, by rw [upd_ne (Ne.symm nrf)]; exact e7 _ _ mf, _, _, rfl⟩
          rw [upd_same]
          unfold lrSet
          rw [foldl_take hc, List.map_set]
        · obtain ⟨em, mk, mw, mf, y4, y5, rfl⟩ := Pm
          rw [lF, List.take_of_length_le (Nat.le_refl _)] at mk
          refine s_asgL (el_lc (K := K) (α := Nat) (xs := wl.map nv) (ys := wl) (fun c => !F.contains c) nv (ev_var rfl) (sq_of mw) lw (by omega) fun n u y hu hy => ?_) fun wb H8 hwb e8 h8 => ⟨em.trans e8, e8 _ _ mk, wb, ne_of_none mk hwb, h8, _, _, _, _, rfl⟩
          obtain ⟨y', hy', rfl⟩ := getMap hu
          have ey : y' = y := Option.some.inj (hy'.symm.trans hy)
          subst ey
          exact ⟨_, fun H1 e1 Q q => q, rfl, fun H1 e1 => et_test (ev_niN (ev_var rfl) (ev_var rfl) (e1 _ _ mf)), fun _ H1 e1 => ev_var rfl⟩
    · obtain ⟨e, hk, wa, nwa, hw, y4, y5, y6, y7, rfl⟩ := Pn
      have eN : (((S.length + 1 : Nat) : Int) - 1).toNat = S.length := by omega
      rw [eN] at hk
      exact s_ret (ev_var rfl) fun H3 e3 => q rr H3 hrr (e.trans e3) (e3 _ _ hk)
end Cs
set_option Elab.async false
set_option linter.all false
set_option maxRecDepth 100000
set_option maxHeartbeats 4000000
/-! Q: stages_from_below, flat_least, least_paper -/
namespace Cs
open PySem PySem.Spec PyProof.Rows L2 Evl LamX
variable {P : Program} {w : World} {K : PySem.W.Frag} {mg : Str → Option Value} {base : Heap}
def StageRow (S : List Fm) (H0 H : Hp) (a : Addr) (k : Nat) : Prop := ∃ p x, NT H0 p ∧ NT H0 x ∧ H a = some (.tup [.ref p, .ref x]) ∧ H p = some (.lst ((stg S k).map nv)) ∧ H x = some (.lst ((xs S k).map av))
theorem StageRow.xn {S : List Fm} {H0 H H' : Hp} {a : Addr} {k : Nat} (h : StageRow S H0 H a k) (e : Xn H H') : StageRow S H0 H' a k := by
  obtain ⟨p, x, h1, h2, h3, h4, h5⟩ := h
  exact ⟨p, x, h1, h2, e.tup h3, e.lst h4, e.lst h5⟩
def StagesAt (S : List Fm) (H0 H : Hp) (r : Addr) : Prop := ∃ ads : List Addr, H r = some (.lst (ads.map V.ref)) ∧ Paired (StageRow S H0 H) ads (List.range (lastS S + 1))
def spStages (Pt : Addr) : Sp := fun vs H Q _ => ∃ (a : Addr) (S : List Fm), vs = [.ref a] ∧ SheetAt H a S ∧ Wf S ∧ Tabs (TT1 Pt) H ∧ ∀ r H2, NT H r → Xn H H2 → Tabs (TT1 Pt) H2 → StagesAt S H H2 r → Q (.ref r) H2
theorem ok_stages {Pt : Addr} (T : Bt mg) (h : Has K mg "stages_from_below" sPStagesFromBelow) (cPSettledLeast : Cl P w K mg base 4 "settled_least" (spSettled Pt)) (cPOpened : Cl P w K mg base 1 "opened" spOpened) (cPFulfilled : Cl P w K mg base 2 "fulfilled" spFulfilled) : Cl P w K mg base 5 "stages_from_below" (spStages Pt) := by
  refine cl_of h scPStagesFromBelow (fun _ _ _ _ _ _ us hl => match us, hl with | [_], _ => rfl) (fun vs H Q E h => ?_) (fun f cdv A outer s H vs Q E hr h => ?_)
  · obtain ⟨a, S, rfl, _⟩ := h
    rfl
  obtain ⟨a, S, rfl, hS, ok, hT, q⟩ := h
  obtain ⟨hl1, hl2⟩ := lastS_spec ok
  have hle := lastS_le ok
  have hlen := ok.len
  refine ⟨_, (pss_cons (ps_set (i := 1) scPStagesFromBelow.nd rfl (Or.inl rfl) (pe_lst pa_nil))
      (pss_cons (ps_set (i := 2) scPStagesFromBelow.nd rfl (Or.inl rfl) (pe_lst pa_nil))
      (pss_one (ps_while PassesOwn.never (pt_val pe_bl) (pss_cons (ps_set (i := 3) scPStagesFromBelow.nd rfl (Or.inl rfl) (pe_ix (ix_tupK (K := K)) (pe_k cPSettledLeast (hr.mono (by decide)) (by rfl) (pa_cons (pe_k cPOpened (hr.mono (by decide)) (by rfl) (pa_cons (pv 0) (pa_cons (pv 1) pa_nil))) pa_nil)) pe_int (fun _ _ => rfl)))
      (pss_cons (ps_expr (pe_bm PySem.F.plainAttrs_list PySem.F.slot_list_append PySem.F.type_list_append mt_append (pv 2) (pa_cons (pe_tup (pa_cons (pv 1) (pa_cons (pv 3) pa_nil))) pa_nil)))
      (pss_cons (ps_set (i := 4) scPStagesFromBelow.nd rfl (Or.inl rfl) (pe_k cPFulfilled (hr.mono (by decide)) (by rfl) (pa_cons (pv 0) (pa_cons (pv 3) pa_nil))))
      (pss_cons (ps_if (pt_cmpR (op_eqD hr.units) (pv 4) (pv 1) (nomark _)) (pss_one (ps_ret (pv 2))) pss_nil)
      (pss_one (ps_set (i := 1) scPStagesFromBelow.nd rfl (Or.inl rfl) (pv 4))))))))))), ?_⟩
  refine q_asgL (el_lst ea_nil (Nat.zero_le _)) fun r0 H1 hr0 e1 h1 => ?_
  refine q_asgL (el_lst ea_nil (Nat.zero_le _)) fun rs H2 hrs e2 h2 => ?_
  have e12 := e1.trans e2
  have hrs0 : H rs = none := fresh_back e1 hrs
  have n0 : r0 ≠ rs := ne_of_none h1 hrs
  refine s_while (fun m σ' H' => ∃ k rp, m = lastS S - k ∧ k ≤ lastS S ∧ Xn H H' ∧ Tabs (TT1 Pt) H' ∧ NT H rp ∧ rp ≠ rs ∧ H' rp = some (.lst ((stg S k).map nv)) ∧ (∃ ads : List Addr, H' rs = some (.lst (ads.map V.ref)) ∧ Paired (StageRow S H (hd H' rs)) ads (List.range k)) ∧ ∃ y3 y4, σ' = [some (.ref a), some (.ref rp), some (.ref rs), y3, y4]) (lastS S)
    ⟨0, r0, rfl, Nat.zero_le _, ex_xn e12, hT.ext e12, nt_none hr0, n0, e2 _ _ h1, ⟨[], h2, .nil⟩, none, none, rfl⟩ fun m σ' H' Wm => ?_
  obtain ⟨k, rp, rfl, hk, xn, tb, nrp, nps, hp, ⟨ads, a1, a2⟩, y3, y4, rfl⟩ := Wm
  refine ⟨true, et_B ev_c, fun _ H3 e3 => ⟨fun σ' H' => ∃ rp, k + 1 ≤ lastS S ∧ Xn H H' ∧ Tabs (TT1 Pt) H' ∧ NT H rp ∧ rp ≠ rs ∧ H' rp = some (.lst ((stg S (k + 1)).map nv)) ∧ (∃ ads : List Addr, H' rs = some (.lst (ads.map V.ref)) ∧ Paired (StageRow S H (hd H' rs)) ads (List.range (k + 1))) ∧ ∃ y3 y4, σ' = [some (.ref a), some (.ref rp), some (.ref rs), y3, y4], fun σ2 H2 ⟨rp, h1, h2⟩ => ⟨lastS S - (k + 1), by omega, k + 1, rp, rfl, h1, h2⟩, ?_⟩, fun h => by cases h⟩
  have x3 : Xn H H3 := Xn.trans xn (ex_xn e3)
  have ok' := opn_wf (stg S k) ok
  refine ⟨_, rfl, _, rfl, ⟨a, rp, S, stg S k, rfl, hS.xn x3, e3 _ _ hp, ok.len, fun ro H4 hro e4 hO => ⟨ro, opn S (stg S k), rfl, hO, ok', opn_plain S _, tb.ext (e3.trans e4), fun rt rx rc H5 ch x45 tb5 ht nrx nrc hx hc hch hend => ?_⟩⟩⟩
  refine rv_ixT (K := K) (st_of ht) at0 H5 (Ex.refl _) _ fun H6 e6 => ?_
  have x34 := ex_xn (e3.trans e4)
  have x36 : Xn H' H6 := Xn.trans (Xn.trans x34 x45) (ex_xn e6)
  have x6 : Xn H H6 := Xn.trans xn x36
  have x04 : Xn H H4 := Xn.trans xn x34
  have nrxH : NT H rx := nt_back x04 nrx
  have a16 := x36.lst a1
  have hp6 := x36.lst hp
  have hx6 := e6 _ _ hx
  have nxs : rx ≠ rs := fun z => by
    obtain ⟨ps, e⟩ := nrx _ (by rw [z]; exact (e3.trans e4) _ _ a1)
    cases e
  have alen : (ads.map V.ref).length < 100000 := by
    rw [List.length_map, paired_len a2, List.length_range]
    omega
  refine q_appU a16 (ev_var rfl) (eu_tup (ea_cons (ev_var rfl) (ea_cons (ev_var rfl) ea_nil)) (by show 2 ≤ 100000; decide)) alen fun tq H7 htq e7 h7 => ?_
  have a2' : Paired (StageRow S H (hd H7 rs)) (ads ++ [tq]) (List.range (k + 1)) := by
    rw [List.range_succ]
    refine paired_snoc (pm a2 fun _ _ z => z.xn (hd_xn (Xn.trans x36 (ex_xn e7)))) ⟨rp, rx, nrp, nrxH, tup_hd (e7 _ _ a16) h7, by rw [hd_at nps]; exact e7 _ _ hp6, by rw [hd_at nxs]; exact e7 _ _ hx6⟩
  have hUpd : ∀ {b : Addr} {o : HO}, b ≠ rs → H7 b = some o → (upd H7 rs (.lst (ads.map V.ref ++ [.ref tq]))) b = some o := fun n h => by
    rw [upd_ne n]
    exact h
  have x8 : Xn H (upd H7 rs (.lst (ads.map V.ref ++ [.ref tq]))) := Xn.mut (Xn.trans x6 (ex_xn e7)) (nt_none hrs0)
  have tb8 : Tabs (TT1 Pt) (upd H7 rs (.lst (ads.map V.ref ++ [.ref tq]))) := tabs_upd (tb5.ext (e6.trans e7)) (e7 _ _ a16)
  have hx8 := hUpd nxs (e7 _ _ hx6)
  have hp8 := hUpd nps (e7 _ _ hp6)
  have hx8' : (upd H7 rs (.lst (ads.map V.ref ++ [.ref tq]))) rx = some (.lst ((xs S k).map av)) := hx8
  have hr8 : (upd H7 rs (.lst (ads.map V.ref ++ [.ref tq]))) rs = some (.lst ((ads ++ [tq]).map V.ref)) := by
    rw [upd_same, List.map_append]
    rfl
  have a28 : Paired (StageRow S H (hd (upd H7 rs (.lst (ads.map V.ref ++ [.ref tq]))) rs)) (ads ++ [tq]) (List.range (k + 1)) := by
    rw [hd_upd]
    exact a2'
  generalize upd H7 rs (.lst (ads.map V.ref ++ [.ref tq])) = H8 at x8 tb8 hx8' hp8 hr8 a28 ⊢
  refine q_asgL (el_call (ea_cons (ev_var rfl) (ea_cons (ev_var rfl) ea_nil)) (sv_fulfilled (hS.xn x8) hx8' (xs_len S k) ok)) fun rl H9 hrl e9 h9 => ?_
  have h9 : H9 rl = some (.lst ((stg S (k + 1)).map nv)) := h9
  have x9 : Xn H H9 := Xn.trans x8 (ex_xn e9)
  refine q_when (et_test (ev_op (ev_var rfl) (ev_var rfl) (rv_eqL leafN eqv_N h9 (e9 _ _ hp8)))) (fun hb H10 e10 => ?_) fun hb H10 e10 => ?_
  · have hb := of_decide_eq_true hb
    have ek : k = lastS S := by
      by_cases z : k < lastS S
      · exact absurd hb (hl2 k z)
      · omega
    refine s_ret (ev_var rfl) fun H11 e11 => q rs H11 (nt_none hrs0) (Xn.trans x9 (ex_xn (e10.trans e11))) (tb8.ext (e9.trans (e10.trans e11))) ⟨ads ++ [tq], (e9.trans (e10.trans e11)) _ _ hr8, ?_⟩
    rw [← ek]
    exact pm a28 fun _ _ z => z.xn (Xn.trans (ex_xn hd_sub) (ex_xn (e9.trans (e10.trans e11))))
  · have hb := of_decide_eq_false hb
    have hk1 : k + 1 ≤ lastS S := by
      by_cases z : k = lastS S
      · rw [z] at hb
        exact absurd hl1 hb
      · omega
    refine s_asg (ev_var rfl) fun H11 e11 => ⟨rl, hk1, Xn.trans x9 (ex_xn (e10.trans e11)), tb8.ext (e9.trans (e10.trans e11)), nt_back x8 (nt_none hrl), Ne.symm (ne_of_none hr8 hrl), (e10.trans e11) _ _ h9, ⟨ads ++ [tq], (e9.trans (e10.trans e11)) _ _ hr8, pm a28 fun _ _ z => z.xn (hd_xn (ex_xn (e9.trans (e10.trans e11))))⟩, _, _, rfl⟩
/-! ### flat_least -/
theorem neg1 : V.int (-(1 : Int)) = V.int (-1) := rfl
theorem at_last {α β : Type} {F : α → β → Prop} {ads : List α} {n : Nat} {f : α → V} {g : Nat → β} (h : Paired F ads ((List.range (n + 1)).map g)) : ∃ a, atI (ads.map f) (-1) = some (f a) ∧ F a (g n) := by
  have hl := paired_len h
  rw [List.length_map, List.length_range] at hl
  have hg : ((List.range (n + 1)).map g)[n]? = some (g n) := by
    rw [List.getElem?_map, List.getElem?_range (by omega)]
    rfl
  obtain ⟨a, ha, hF⟩ := paired_get h hg
  refine ⟨a, ?_, hF⟩
  have e : ads = ads.take n ++ [a] := by
    have z := List.take_add_one (l := ads) (i := n)
    rw [ha, List.take_of_length_le (by omega)] at z
    exact z
  rw [e, List.map_append]
  exact atI_last _ _
theorem at_lastR {α : Type} {F : α → Nat → Prop} {ads : List α} {n : Nat} {f : α → V} (h : Paired F ads (List.range (n + 1))) : ∃ a, atI (ads.map f) (-1) = some (f a) ∧ F a n := by
  have e : List.range (n + 1) = (List.range (n + 1)).map id := (List.map_id _).symm
  rw [e] at h
  exact at_last h
def spFlatLeast (Pt : Addr) : Sp := fun vs H Q _ => ∃ (a : Addr) (S : List Fm), vs = [.ref a] ∧ SheetAt H a S ∧ Wf S ∧ Tabs (TT1 Pt) H ∧ ∀ r H2, Xn H H2 → Tabs (TT1 Pt) H2 → H2 r = some (.lst ((xs S (lastS S)).map av)) → Q (.ref r) H2
theorem ok_flatLeast {Pt : Addr} (h : Has K mg "flat_least" sPFlatLeast) (cPStagesFromBelow : Cl P w K mg base 5 "stages_from_below" (spStages Pt)) : Cl P w K mg base 6 "flat_least" (spFlatLeast Pt) := by
  refine cl_of h scPFlatLeast (fun _ _ _ _ _ _ us hl => match us, hl with | [_], _ => rfl) (fun vs H Q E h => ?_) (fun f cdv A outer s H vs Q E hr h => ?_)
  · obtain ⟨a, S, rfl, _⟩ := h
    rfl
  obtain ⟨a, S, rfl, hS, ok, hT, q⟩ := h
  refine ⟨_, (pss_one (ps_ret (pe_ix (ix_tupK (K := K)) (pe_ix (ix_listK (K := K)) (pe_k cPStagesFromBelow (hr.mono (by decide)) (by rfl) (pa_cons (pv 0) pa_nil)) (pe_un un_neg pe_int) (fun _ _ => rfl)) pe_int (fun _ _ => rfl)))), ?_⟩
  refine ⟨_, rfl, ⟨a, S, rfl, hS, ok, hT, fun r H2 nr x2 tb2 hr => ?_⟩⟩
  obtain ⟨ads, h1, h2⟩ := hr
  obtain ⟨t, ht, p, x, _, _, h3, h4, h5⟩ := at_lastR (f := V.ref) h2
  refine ⟨1, rfl, ?_⟩
  refine rv_ixL (K := K) (sq_of h1) ht H2 (Ex.refl _) _ fun H3 e3 => ?_
  refine rv_ixT (K := K) (st_of (e3 _ _ h3)) at1 H3 (Ex.refl _) _ fun H4 e4 => ?_
  exact q x H4 (Xn.trans x2 (ex_xn (e3.trans e4))) (tb2.ext (e3.trans e4)) ((e3.trans e4) _ _ h5)
/-! ### least_paper -/
def StOk (S : List Fm) (k : Nat) (rk ch : Ch) (pt : List Amt) : Prop := Ranks (opn S (stg S k)) (xs S k) rk ∧ ChOk (opn S (stg S k)) ch ∧ Shows (opn S (stg S k)) ch pt ∧ ∀ i, i < S.length → (gA pt i).isSome = (gA (xs S k) i).isNone
def PaperRow (S : List Fm) (H : Hp) (a : Addr) (k : Nat) : Prop := ∃ p x r c t rk ch pt, H a = some (.tup [.ref p, .ref x, .ref r, .ref c, .ref t]) ∧ H p = some (.lst ((stg S k).map nv)) ∧ H x = some (.lst ((xs S k).map av)) ∧ H r = some (.lst (rk.map cv)) ∧ H c = some (.lst (ch.map cv)) ∧ H t = some (.lst (pt.map av)) ∧ StOk S k rk ch pt
theorem PaperRow.xn {S : List Fm} {H H' : Hp} {a : Addr} {k : Nat} (h : PaperRow S H a k) (e : Xn H H') : PaperRow S H' a k := by
  obtain ⟨p, x, r, c, t, rk, ch, pt, h1, h2, h3, h4, h5, h6, h7⟩ := h
  exact ⟨p, x, r, c, t, rk, ch, pt, e.tup h1, e.lst h2, e.lst h3, e.lst h4, e.lst h5, e.lst h6, h7⟩
def PaperAt (S : List Fm) (H : Hp) (r : Addr) : Prop := ∃ ads : List Addr, H r = some (.lst (ads.map V.ref)) ∧ Paired (PaperRow S H) ads (List.range (lastS S + 1))
theorem PaperAt.xn {S : List Fm} {H H' : Hp} {r : Addr} (h : PaperAt S H r) (e : Xn H H') : PaperAt S H' r := by
  obtain ⟨ads, h1, h2⟩ := h
  exact ⟨ads, e.lst h1, pm h2 fun _ _ z => z.xn e⟩
/-! values made on the way, for a tuple -/
def EvDA (ta : TA) (σ : L2.St) (H : Hp) (r : Addr) (R : List V → Hp → Prop) : Prop := ∀ H1, Ex H H1 → ∀ Q : List V → Hp → Prop, (∀ vs H2, Ex H1 H2 → R vs (hd H2 r) → Q vs H2) → ta σ H1 Q
section
variable {σ : L2.St} {H : Hp} {ta : TA} {te : TE} {r : Addr} {u : HO} {R : V → Hp → Prop} {RA : List V → Hp → Prop}
theorem eda_nil : EvDA tNil σ H r (fun vs _ => vs = []) := fun H1 e Q q => q [] H1 (Ex.refl _) rfl
theorem eda_cons (h : EvD te σ H r R) (m : Mono R) (ha : EvDA ta σ H r RA) : EvDA (tCons te ta) σ H r (fun vs H => ∃ v ws, vs = v :: ws ∧ R v H ∧ RA ws H) := fun H1 e Q q => h H1 e _ fun v H2 e2 r2 => ha H2 (e.trans e2) _ fun ws H3 e3 r3 => q _ H3 (e2.trans e3) ⟨v, ws, rfl, m v _ _ (hd_ex e3) r2, r3⟩
theorem ed_tup (hr : H r = some u) (ha : EvDA ta σ H r RA) (m : ∀ vs H H', Ex H H' → RA vs H → RA vs H') (hl : ∀ vs H, RA vs H → vs.length ≤ 100000) : EvD (tTup ta) σ H r (fun z H' => ∃ p vs, z = .ref p ∧ H' p = some (.tup vs) ∧ RA vs H') := fun H1 e Q q => ha H1 e _ fun vs H2 e2 r2 => ⟨sz_of (hl vs _ r2), fun p hp => by
  have hr2 := (e.trans e2) r _ hr
  exact q _ _ (e2.trans (Ex.new hp)) ⟨p, vs, rfl, hd_new hr2 hp, m vs _ _ (hd_ex (Ex.new hp)) r2⟩⟩
end
def spLeastPaper (Pt : Addr) : Sp := fun vs H Q _ => ∃ (a : Addr) (S : List Fm), vs = [.ref a] ∧ SheetAt H a S ∧ Wf S ∧ Tabs (TT1 Pt) H ∧ ∀ r H2, Xn H H2 → Tabs (TT1 Pt) H2 → PaperAt S H2 r → Q (.ref r) H2
theorem nt_ne {H : Hp} {p r : Addr} {l : List V} (h : NT H p) (hr : H r = some (.lst l)) : p ≠ r := fun z => by
  obtain ⟨ps, e⟩ := h _ (by rw [z]; exact hr)
  cases e
theorem ok_leastPaper {Pt : Addr} (T : Bt mg) (h : Has K mg "least_paper" sPLeastPaper) (cPStagesFromBelow : Cl P w K mg base 5 "stages_from_below" (spStages Pt)) (cPOpened : Cl P w K mg base 1 "opened" spOpened) (cPEndlessPaper : Cl P w K mg base 5 "endless_paper" (spEndless Pt)) (cPLeastRanks : Cl P w K mg base 4 "least_ranks" spLeastRanks) : Cl P w K mg base 6 "least_paper" (spLeastPaper Pt) := by
  refine cl_of h scPLeastPaper (fun _ _ _ _ _ _ us hl => match us, hl with | [_], _ => rfl) (fun vs H Q E h => ?_) (fun f cdv A outer s H vs Q E hr h => ?_)
  · obtain ⟨a, S, rfl, _⟩ := h
    rfl
  obtain ⟨a, S, rfl, hS, ok, hT, q⟩ := h
  have hle := lastS_le ok
  have hlen := ok.len
  refine ⟨_, (pss_cons (ps_set (i := 1) scPLeastPaper.nd rfl (Or.inl rfl) (pe_lst pa_nil))
      (pss_cons (ps_for PassesOwn.never rfl (pi_list (pe_k cPStagesFromBelow (hr.mono (by decide)) (by rfl) (pa_cons (pv 0) pa_nil))) (pg_tupK (K := K) (n := 2) rfl (pgs_cons (pg_name (i := 2) scPLeastPaper.nd rfl (Or.inl rfl)) (pgs_cons (pg_name (i := 3) scPLeastPaper.nd rfl (Or.inl rfl)) pgs_nil))) (pss_cons (ps_set (i := 4) scPLeastPaper.nd rfl (Or.inl rfl) (pe_k cPOpened (hr.mono (by decide)) (by rfl) (pa_cons (pv 0) (pa_cons (pv 2) pa_nil))))
      (pss_cons (ps_asg (pe_k cPEndlessPaper (hr.mono (by decide)) (by rfl) (pa_cons (pv 4) pa_nil)) (pg_tupK (K := K) (n := 2) rfl (pgs_cons (pg_name (i := 5) scPLeastPaper.nd rfl (Or.inl rfl)) (pgs_cons (pg_name (i := 6) scPLeastPaper.nd rfl (Or.inl rfl)) pgs_nil))))
      (pss_one (ps_expr (pe_bm PySem.F.plainAttrs_list PySem.F.slot_list_append PySem.F.type_list_append mt_append (pv 1) (pa_cons (pe_tup (pa_cons (pe_callTy call_list_of (by rfl) T.b_list (by decide +kernel) (pa_cons (pv 2) pa_nil)) (pa_cons (pv 3) (pa_cons (pe_k cPLeastRanks (hr.mono (by decide)) (by rfl) (pa_cons (pv 4) (pa_cons (pv 3) pa_nil))) (pa_cons (pv 5) (pa_cons (pv 6) pa_nil)))))) pa_nil)))))))
      (pss_one (ps_ret (pv 1))))), ?_⟩
  refine q_asgL (el_lst ea_nil (Nat.zero_le _)) fun rp H1 hrp e1 h1 => ?_
  refine q_forK (ea_cons (ev_var rfl) ea_nil) fun H2 e2 => ⟨a, S, rfl, hS.ex (e1.trans e2), ok, hT.ext (e1.trans e2), fun rs H3 nrs x23 tb3 hst => ?_⟩
  obtain ⟨ads, s1, s2⟩ := hst
  have x3 : Xn H H3 := Xn.trans (ex_xn (e1.trans e2)) x23
  have h2 := e2 _ _ h1
  have hrp3 := x23.lst h2
  have lenA : (ads.map V.ref).length = lastS S + 1 := by rw [List.length_map, paired_len s2, List.length_range]
  have s1h : hd H3 rp rs = some (.lst (ads.map V.ref)) := by
    rw [hd_at (nt_ne nrs h2)]
    exact s1
  have s2h : Paired (StageRow S H2 (hd H3 rp)) ads (List.range (lastS S + 1)) := pm s2 fun t k ⟨p, x, n1, n2, z1, z2, z3⟩ => ⟨p, x, n1, n2, tup_hd hrp3 z1, by rw [hd_at (nt_ne n1 h2)]; exact z2, by rw [hd_at (nt_ne n2 h2)]; exact z3⟩
  refine q_forL (a := rs) (xs := ads.map V.ref) ev_c (sq_of s1) (fun k σ' H' => Xn H H' ∧ Tabs (TT1 Pt) H' ∧ Xn (hd H3 rp) (hd H' rp) ∧ (∃ pads : List Addr, H' rp = some (.lst (pads.map V.ref)) ∧ Paired (PaperRow S (hd H' rp)) pads (List.range k)) ∧ ∃ y2 y3 y4 y5 y6, σ' = [some (.ref a), some (.ref rp), y2, y3, y4, y5, y6])
    (fun H4 e4 => ⟨Xn.trans x3 (ex_xn e4), tb3.ext e4, hd_xn (ex_xn e4), ⟨[], e4 _ _ hrp3, .nil⟩, _, _, _, _, _, rfl⟩) (fun k σ' H' _ Pk => sq_of (hd_sub _ _ (Pk.2.2.1.lst s1h))) (fun k v σ' H' hv Pk => ?_) fun σ' H' Pk => ?_
  · obtain ⟨xk, tbk, xh, ⟨pads, p1, p2⟩, y2, y3, y4, y5, y6, rfl⟩ := Pk
    obtain ⟨t, ht, rfl⟩ := getMap hv
    obtain ⟨k', hk', p, x, n1, n2, z1, z2, z3⟩ := paired_get2 s2h ht
    have hkl : k < lastS S + 1 := by
      have := (List.getElem?_eq_some_iff.mp hv).1
      omega
    have ek : k' = k := by
      rw [List.getElem?_range hkl] at hk'
      exact (Option.some.inj hk').symm
    subst ek
    have z1' := xh.tup z1
    have z2' := xh.lst z2
    have z3' := xh.lst z3
    refine g_pair (hd_sub _ _ z1') (Ex.refl _) ?_
    have ok' := opn_wf (stg S k') ok
    refine q_asgK (ea_cons (ev_var rfl) (ea_cons (ev_var rfl) ea_nil)) fun H4 e4 => ⟨a, p, S, stg S k', rfl, (hS.xn xk).ex e4, e4 _ _ (hd_sub _ _ z2'), ok.len, fun ro H5 hro e5 hO => ?_⟩
    have e45 := e4.trans e5
    refine q_asgKg (ea_cons (ev_var rfl) ea_nil) fun H6 e6 => ⟨ro, opn S (stg S k'), rfl, hO.ex e6, ok', opn_plain S _, tbk.ext (e45.trans e6), fun r rc rt H7 ch pt x67 tb7 hr7 nrc nrt hc ht' hch hsh hiso => ?_⟩
    refine g_pair hr7 (Ex.refl _) ?_
    have xk7 : Xn H' H7 := Xn.trans (ex_xn (e45.trans e6)) x67
    have p17 := xk7.lst p1
    have nro : ro ≠ rp := fun z => by
      have : H4 rp = none := by rw [← z]; exact hro
      rw [e4 _ _ p1] at this
      cases this
    have hk6 := (e45.trans e6) _ _ p1
    have ncp : rc ≠ rp := nt_ne nrc hk6
    have ntp : rt ≠ rp := nt_ne nrt hk6
    have xh7 : Xn (hd H3 rp) (hd H7 rp) := Xn.trans xh (hd_xn xk7)
    have hO7 : SheetAt H7 ro (opn S (stg S k')) := hO.xn (Xn.trans (ex_xn e6) x67)
    have hp7 := hd_sub _ _ (xh7.lst z2)
    have hx7 := hd_sub _ _ (xh7.lst z3)
    have plen : (pads.map V.ref).length < 100000 := by
      rw [List.length_map, paired_len p2, List.length_range]
      omega
    refine s_appD p17 (ev_var rfl) (R := fun v H => ∃ b, v = .ref b ∧ PaperRow S H b k') ?_ plen fun v H8 e8 hR => ?_
    · refine EvD.imp (ed_tup p17 (eda_cons (ed_evL p17 (el_listOf (ev_var rfl) hp7)) mono_lst (eda_cons (ed_evR (R := fun v H => v = .ref x ∧ H x = some (.lst ((xs S k').map av))) (ev_var rfl) (fun v H H' e h => ⟨h.1, e _ _ h.2⟩) ⟨rfl, xh7.lst z3⟩) (fun v H H' e h => ⟨h.1, e _ _ h.2⟩) (eda_cons (ed_evL p17 (el_call (ea_cons (ev_var rfl) (ea_cons (ev_var rfl) ea_nil)) (sv_leastRanks hO7 hx7 ok' (opn_plain S _)))) mono_lst (eda_cons (ed_evR (R := fun v H => v = .ref rc ∧ H rc = some (.lst (ch.map cv))) (ev_var rfl) (fun v H H' e h => ⟨h.1, e _ _ h.2⟩) ⟨rfl, by rw [hd_at ncp]; exact hc⟩) (fun v H H' e h => ⟨h.1, e _ _ h.2⟩) (eda_cons (ed_evR (R := fun v H => v = .ref rt ∧ H rt = some (.lst (pt.map av))) (ev_var rfl) (fun v H H' e h => ⟨h.1, e _ _ h.2⟩) ⟨rfl, by rw [hd_at ntp]; exact ht'⟩) (fun v H H' e h => ⟨h.1, e _ _ h.2⟩) eda_nil))))) ?_ ?_) fun v H8 e8 hz => ?_
      · rintro vs H H' e ⟨v1, w1, rfl, ⟨q1, a1, b1⟩, v2, w2, rfl, ⟨a2, b2⟩, v3, w3, rfl, ⟨q3, a3, b3⟩, v4, w4, rfl, ⟨a4, b4⟩, v5, w5, rfl, ⟨a5, b5⟩, rfl⟩
        exact ⟨v1, _, rfl, ⟨q1, a1, e _ _ b1⟩, v2, _, rfl, ⟨a2, e _ _ b2⟩, v3, _, rfl, ⟨q3, a3, e _ _ b3⟩, v4, _, rfl, ⟨a4, e _ _ b4⟩, v5, _, rfl, ⟨a5, e _ _ b5⟩, rfl⟩
      · rintro vs H ⟨v1, w1, rfl, _, v2, w2, rfl, _, v3, w3, rfl, _, v4, w4, rfl, _, v5, w5, rfl, _, rfl⟩
        show 5 ≤ 100000
        omega
      · obtain ⟨b, vs, rfl, hb, v1, w1, rfl, ⟨q1, rfl, b1⟩, v2, w2, rfl, ⟨rfl, b2⟩, v3, w3, rfl, ⟨q3, rfl, b3⟩, v4, w4, rfl, ⟨rfl, b4⟩, v5, w5, rfl, ⟨rfl, b5⟩, rfl⟩ := hz
        refine ⟨b, rfl, q1, x, q3, rc, rt, lrEnd (opn S (stg S k')), ch, pt, hb, b1, b2, b3, b4, b5, lr_ranks ok' (opn_ms ok _), hch, hsh, fun i hi => ?_⟩
        rw [hiso i (by rw [opn_len]; exact hi)]
        unfold xs
        rw [gA_lfpL (opn_ms ok _)]
    · obtain ⟨b, rfl, hb⟩ := hR
      have x78 := ex_xn e8
      refine ⟨Xn.mut (Xn.trans xk (Xn.trans xk7 x78)) (nt_none hrp), tabs_upd (tb7.ext e8) (e8 _ _ p17), ?_, ⟨pads ++ [b], ?_, ?_⟩, _, _, _, _, _, rfl⟩
      · rw [hd_upd]
        exact Xn.trans xh7 (hd_xn x78)
      · rw [upd_same, List.map_append]
        rfl
      · rw [hd_upd, List.range_succ]
        exact paired_snoc (pm p2 fun _ _ z => z.xn (hd_xn (Xn.trans xk7 x78))) hb
  · obtain ⟨xk, tbk, xh, ⟨pads, p1, p2⟩, y2, y3, y4, y5, y6, rfl⟩ := Pk
    rw [lenA] at p2
    exact s_ret (ev_var rfl) fun H4 e4 => q rp H4 (Xn.trans xk (ex_xn e4)) (tbk.ext e4) ⟨pads, e4 _ _ p1, pm p2 fun _ _ z => z.xn (Xn.trans (ex_xn hd_sub) (ex_xn e4))⟩
end Cs
set_option Elab.async false
set_option linter.all false
set_option maxRecDepth 100000
set_option maxHeartbeats 4000000
/-! S: set(a list of ints), in the form that sorted(..) asks for. -/
namespace Cs
open PySem PySem.Spec PyProof.Rows L2 Evl
section
variable {P : Program} {w : World} {A : Around} {E : Value → Shared → Prop} {s : Shared}
/-- the set just made -/
abbrev set0 (w : World) : Obj := { cls := .type "set", dict := none, data := .set #[] 0 (.fresh 0 0 (!w.params.followText "set-order")) }
/-- what the making leaves behind -/
def MadeS (w : World) (s : Shared) (ns : List Int) (s2 : Shared) : Prop := ∃ h' tk c, s2 = { s with heap := h', toks := tk } ∧ SetR w h' s.heap.objs.size (fun j => decide (j ∈ ns)) c ∧ c ≤ ns.length ∧ ∀ b o, s.heap.get? b = some o → h'.get? b = some o
set_option maxHeartbeats 8000000 in
theorem call_set_listI {l : Addr} {its : Array Value} (ns : List Int) {Q : Value → Shared → Prop} (nohandled : A.handled = none) (isl : s.heap.IsList l its) (hints : IntsAre its.toList ns) (few : ns.length + 1 < scanBound)
    (k : ∀ s2, MadeS w s ns s2 → Q (.ref s.heap.objs.size) s2) : wpAny (model P w) A (call (.type "set") [.ref l]) Q E s := by
  have sz : its.size = ns.length := by rw [← IntsAre.length hints, Array.length_toList]
  obtain ⟨mro1, mro2, hmro⟩ := F.called_set.mro
  have fm := F.called_set.made
  have fs := F.called_set.sub
  have fn := F.called_set.notType
  have fc := F.called_set.canCreate
  have ft := F.typeCall_set_1 (.ref l)
  refine wpAny_call (codeAny_of_tree (show wpAny _ _ (callAny (.type "set") _) _ _ _ from ?_))
  refine wpAny_pure ⟨Code.quiet_builtin _ (by decide +kernel), codeAny_builtin F.entry_type_call ?_⟩
  rw [Around.under_plain (weight_type_call_type "set" [.ref l] []) rfl]
  repeat (any_goals (first | assumption | wp_step))
  refine codeAny_mono (code_set_led1 (.ref l) (E := E) (Q₁ := fun u s₁ => u = .ref s.heap.objs.size ∧ s₁ = { s with heap := s.heap.push (set0 w) }) ⟨rfl, rfl⟩) fun r s₁ hr => ?_
  cases r with
  | error e => exact hr
  | ok fl =>
    cases fl with
    | ret u =>
      obtain ⟨rfl, rfl⟩ := hr
      have at0' : (s.heap.push (set0 w)).get? s.heap.objs.size = some (set0 w) := Heap.get?_push_size _ rfl
      have ty0 : Shared.TypeIs { s with heap := s.heap.push (set0 w) } (.ref s.heap.objs.size) "set" := ⟨_, at0', rfl⟩
      have fi := F.called_set.init.lookup
      have fb := F.called_set.init.bind (.ref s.heap.objs.size)
      repeat (any_goals (first | assumption | wp_step))
      refine codeAny_mono (codeAny_call_builtin (R := wants (fun r s₂ => r = .none ∧ MadeS w s ns s₂) E) F.called_set.init.plain F.entry_set_init (check_set_init_1 ty0 ?_)) fun r₂ s₂ hr₂ => ?_
      · obtain ⟨⟨c1, d1, t1, sl1⟩, ol, e1, nl, e2⟩ := isl
        simp only at e1 e2
        subst e1; subst e2
        have ol' := Heap.get?_push_of_some (set0 w) ol
        have q1 := F.sub_list_set
        have q2 := F.sub_list_frozenset
        have q3 : (Value.type "list" == Value.type "dict") = false := by decide
        have il : (s.heap.push (set0 w)).IsList l its := ⟨_, ol', rfl, nl, rfl⟩
        unfold Builtin.«set.__init__» noKeywords Builtin.Frozenset.updateFrom
        generalize gen : pyIter = PI
        wp_walk
        subst gen
        refine wpAny_pyIter_list il (wpAny_bind (wpAny_runValue ?_))
        have ll : l < s.heap.objs.size := Heap.lt_size ol
        have sp : (s.heap.push (set0 w)).objs.size = s.heap.objs.size + 1 := Heap.size_push ..
        have n1 : l ≠ (s.heap.push (set0 w)).objs.size := Nat.ne_of_lt (sp ▸ Nat.lt_succ_of_lt ll)
        have n2 : s.heap.objs.size ∉ [(s.heap.push (set0 w)).objs.size, l] := by
          simp only [List.mem_cons, List.not_mem_nil, or_false, not_or]
          exact ⟨Nat.ne_of_lt (sp ▸ Nat.lt_succ_self _), Nat.ne_of_gt ll⟩
        refine set_update_ints ((Walks.list (by simp [nohandled]) _ l n1 its).toS) s.heap.objs.size n2 ns sz few (fun i v hv => ?_) (its.size - 0) 0 _ (by omega) (Nat.zero_le _) ⟨⟨_, Heap.get?_push_size _ rfl, rfl, rfl⟩, (il.push _)⟩ ⟨0, Nat.le_refl 0, setR_new_at (Heap.get?_push_of_some _ at0')⟩ ?_
        · have hi : i < ns.length := by rw [← sz]; exact (Array.getElem?_eq_some_iff.mp hv).1
          obtain ⟨t, e⟩ := IntsAre.int_at hints i v (by rw [Array.getElem?_toList]; exact hv)
          refine ⟨ns[i], t, List.getElem?_eq_getElem hi, ?_⟩
          rw [e, List.getD_eq_getElem?_getD, List.getElem?_eq_getElem hi] <;> rfl
        · rintro ⟨h', g2, d', tk', os'⟩ c' hm hc' hS'
          obtain rfl : g2 = s.gens := hm.gens
          obtain rfl : d' = s.drawn := hm.drawn
          obtain rfl : os' = s.os := hm.os
          refine wpAny_pure (show wpAny _ _ (ret Value.none) _ _ _ from ?_)
          refine wpAny_pure ⟨rfl, h', tk', c', rfl, hS', by omega, fun b o e => ?_⟩
          have b0 : b < s.heap.objs.size := Heap.lt_size e
          refine hm.heap b o ?_ (Heap.get?_push_of_some _ (Heap.get?_push_of_some _ e))
          simp only [List.mem_cons, List.not_mem_nil, or_false, not_or]
          exact ⟨Nat.ne_of_lt b0, Nat.ne_of_lt (sp ▸ Nat.lt_succ_of_lt b0)⟩
      · cases r₂ with
        | error e => exact hr₂
        | ok fl₂ =>
          cases fl₂ with
          | ret r =>
            obtain ⟨rfl, mk⟩ := hr₂
            have kk := k _ mk
            obtain ⟨h', tk, c', rfl, z1, z2, z3⟩ := mk
            repeat (any_goals (first | assumption | wp_step))
          | _ => exact hr₂.elim
    | _ => exact hr.elim
/-- set(xs), xs a list of ints -/
def rSetL (K : PySem.W.Frag) (w : World) : List V → Hp → VK → Prop := fun xs H Q => ∃ (a : Addr) (ns : List Int), xs = [V.ref a] ∧ SqL K H a (ns.map V.int) ∧ ns.length < 64 ∧ ∀ p c, H p = none → c ≤ ns.length → Q (.ref p) (upd H p (SetO w p (fun j => decide (j ∈ ns)) c))
theorem cr_setI {X : Cx} (hc : X.calm = true) : CallR X (.type "set") (rSetL X.K X.w) := by
  intro pins s σ H xs us Q I r h
  obtain ⟨a, ns, rfl, hs, hl, q⟩ := h
  rw [Vals.ref1 r]
  obtain ⟨its, rv, pl, hz⟩ := I.list hs
  refine call_set_listI ns (I.ok.hd hc) pl.isList (by simpa using ints_of_vals rv) (by unfold scanBound; omega) fun s2 mk => ?_
  obtain ⟨h', tk, c, rfl, z1, z2, z3⟩ := mk
  exact ⟨.ref _, upd H s.heap.objs.size (SetO X.w s.heap.objs.size (fun j => decide (j ∈ ns)) c), I.laid (t' := tk) z3 (Nat.le_refl _) (setO_new z1), rfl, q _ c (I.hok.fresh (Nat.le_refl _)) z2⟩
end
end Cs
set_option Elab.async false
set_option linter.all false
set_option maxRecDepth 100000
set_option maxHeartbeats 4000000
/-! R: is_right_stage, are_open, is_least_paper -/
namespace Cs
open PySem PySem.Spec PyProof.Rows L2 Evl LamX
variable {P : Program} {w : World} {K : PySem.W.Frag} {mg : Str → Option Value} {base : Heap}
section
variable {σ : L2.St} {H : Hp} {ta tb : TE}
theorem ev_anyL {bs : List Bool} (h : EvL ta σ H (bs.map V.bl)) : Ev (tCB (rAny K) (tCons ta tNil)) σ H (.bl (bs.any id)) := fun H1 e Q q => h H1 e _ fun p H2 hp e2 h2 => ⟨p, bs, rfl, sq_of h2, q H2 e2⟩
theorem ev_allL {bs : List Bool} (h : EvL ta σ H (bs.map V.bl)) : Ev (tCB (rAll K) (tCons ta tNil)) σ H (.bl (bs.all id)) := fun H1 e Q q => h H1 e _ fun p H2 hp e2 h2 => ⟨p, bs, rfl, sq_of h2, q H2 e2⟩
/-- a comprehension over a list of values of one kind, nothing left out -/
theorem el_mapB {α : Type} {f : α → V} {p : Addr} {j : Nat} {te : TE} {l : List α} (F : α → V) (h : Ev ta σ H (.ref p)) (hp : H p = some (.lst (l.map f))) (hz : l.length ≤ 50000) (hw : ∀ x, wipe ((wipe σ [j]).set j (some x)) [j] = wipe σ [j])
    (he : ∀ y ∈ l, ∀ H1, Ex H H1 → Ev te ((wipe σ [j]).set j (some (f y))) H1 (F y)) : EvL (tLc (iList K ta) (gName j) tYes te [j]) σ H (l.map F) := by
  have z := el_lc (K := K) (α := α) (xs := l.map f) (ys := l) (tl := ta) (te := te) (t := tYes) (g := gName j) (vs := [j]) (σ := σ) (H := H) (fun _ => true) F h (sq_of hp) (List.length_map _) hz fun n u y hu hy => by
    obtain ⟨y', hy', rfl⟩ := getMap hu
    have ey : y' = y := Option.some.inj (hy'.symm.trans hy)
    subst ey
    exact ⟨_, fun H1 e1 Q q => q, hw _, fun H1 e1 H2 e2 Q k => k H2 (Ex.refl H2), fun _ H1 e1 => he y' (List.mem_of_getElem? hy) H1 e1⟩
  rw [filter_true] at z
  exact z
end
/-- a def called on what another def gives -/
theorem ev_call2 {σ : L2.St} {H : Hp} {ta tb : TA} {sp1 sp2 : Sp} {vs : List V} {z : V} (ha : EvA ta σ H vs) (k : ∀ H1, Ex H H1 → ∀ Q : VK, (∀ H2, Ex H1 H2 → Q z H2) → sp1 (vs ++ []) H1 (fun x H2 => tb σ H2 fun ws H3 => sp2 ((x :: ws) ++ []) H3 Q L2.E0) L2.E0) :
    Ev (tCall sp2 [] L2.E0 (tCons (tCall sp1 [] L2.E0 ta) tb)) σ H z := fun H1 e Q q => ha H1 e _ fun H2 e2 => k H2 (e.trans e2) Q fun H3 e3 => q H3 (e2.trans e3)
theorem sorted_eq : ∀ {l m : List Int}, l.Pairwise (· < ·) → m.Pairwise (· < ·) → (∀ k, k ∈ l ↔ k ∈ m) → l = m
  | [], [], _, _, _ => rfl
  | [], b :: m, _, _, h => absurd ((h b).mpr List.mem_cons_self) (by simp)
  | a :: l, [], _, _, h => absurd ((h a).mp List.mem_cons_self) (by simp)
  | a :: l, b :: m, h1, h2, h => by
    have ⟨a1, a2⟩ := List.pairwise_cons.mp h1
    have ⟨b1, b2⟩ := List.pairwise_cons.mp h2
    have e : a = b := by
      rcases List.mem_cons.mp ((h a).mp List.mem_cons_self) with e | e
      · exact e
      · rcases List.mem_cons.mp ((h b).mpr List.mem_cons_self) with e2 | e2
        · exact e2.symm
        · have := b1 a e
          have := a1 b e2
          omega
    subst e
    refine congrArg (a :: ·) (sorted_eq a2 b2 fun k => ⟨fun hk => ?_, fun hk => ?_⟩)
    · rcases List.mem_cons.mp ((h k).mp (List.mem_cons_of_mem _ hk)) with e | e
      · have := a1 k hk
        omega
      · exact e
    · rcases List.mem_cons.mp ((h k).mpr (List.mem_cons_of_mem _ hk)) with e | e
      · have := b1 k hk
        omega
      · exact e
theorem stg_sorted (S : List Fm) (k : Nat) : (stg S k).Pairwise (· < ·) := by
  rw [stg_filter k]
  unfold conds
  exact (List.pairwise_lt_range.filter _).filter _
/-- sorted(set(xs)) of a sorted list of numbers -/
theorem el_sortedSet {σ : L2.St} {H : Hp} {ta : TE} {p : Addr} {l : List Nat} (h : Ev ta σ H (.ref p)) (hp : H p = some (.lst (l.map nv))) (hs : l.Pairwise (· < ·)) (hl : l.length < 64) : EvL (tCB (rSortedSet w) (tCons (tCB (rSetL K w) (tCons ta tNil)) tNil)) σ H (l.map nv) := fun H1 e Q q =>
  h H1 e _ fun H2 e2 => by
    have e0 : l.map nv = (l.map (fun (k : Nat) => (k : Int))).map V.int := by
      rw [List.map_map]
      rfl
    have hp2 := (e.trans e2) _ _ hp
    rw [e0] at hp2
    refine ⟨p, l.map (fun (k : Nat) => (k : Int)), rfl, sq_of hp2, by rw [List.length_map]; exact hl, fun a c ha hc => ?_⟩
    rw [List.length_map] at hc
    refine ⟨a, _, c, rfl, upd_same, by omega, fun ns b h1 h2 h3 hb => ?_⟩
    have en : ns = l.map (fun (k : Nat) => (k : Int)) := sorted_eq h1 (by
      rw [List.pairwise_map]
      exact hs.imp fun h => by omega) fun k => by rw [h2 k, decide_eq_true_eq]
    have x2 : Ex H2 (upd (upd H2 a (SetO w a (fun j => decide (j ∈ l.map (fun (k : Nat) => (k : Int)))) c)) b (.lst (ns.map V.int))) := (Ex.new ha).trans (Ex.new hb)
    refine q b _ ?_ (e2.trans x2) (by rw [upd_same, en, ← e0])
    exact fresh_back (e2.trans (Ex.new ha)) hb
/-! ### is_right_stage -/
theorem PaperRow.ex {S : List Fm} {H H' : Hp} {a : Addr} {k : Nat} (h : PaperRow S H a k) (e : Ex H H') : PaperRow S H' a k := h.xn (ex_xn e)
def spIsRightStage : Sp := fun vs H Q _ => ∃ (a t : Addr) (S : List Fm) (k : Nat), vs = [.ref a, .ref t] ∧ SheetAt H a (opn S (stg S k)) ∧ PaperRow S H t k ∧ Wf S ∧ RetV (.bl true) H Q
theorem ok_isRightStage (h : Has K mg "is_right_stage" sPIsRightStage) (cPIsFlatSolution : Cl P w K mg base 5 "is_flat_solution" spIsFlatSolution) (cPAreRanks : Cl P w K mg base 4 "are_ranks" spAreRanks) (cPShowsEndless : Cl P w K mg base 3 "shows_endless" spShowsEndless) : Cl P w K mg base 6 "is_right_stage" spIsRightStage := by
  refine cl_of h scPIsRightStage (fun _ _ _ _ _ _ us hl => match us, hl with | [_, _], _ => rfl) (fun vs H Q E h => ?_) (fun f cdv A outer s H vs Q E hr h => ?_)
  · obtain ⟨a, t, S, k, rfl, _⟩ := h
    rfl
  obtain ⟨a, t, S, k, rfl, hS, hR, ok, q⟩ := h
  obtain ⟨p, x, r, c, u, rk, ch, pt, h1, h2, h3, h4, h5, h6, hrk, hch, hsh, hiso⟩ := hR
  have ok' := opn_wf (stg S k) ok
  have pl' := opn_plain S (stg S k)
  have hlen := ok.len
  have ol : (opn S (stg S k)).length = S.length := opn_len _ _
  have xl : (xs S k).length = (opn S (stg S k)).length := by rw [xs_len, ol]
  refine ⟨_, (pss_cons (ps_asg (pv 1) (pg_tupK (K := K) (n := 5) rfl (pgs_cons (pg_name (i := 2) scPIsRightStage.nd rfl (Or.inl rfl)) (pgs_cons (pg_name (i := 3) scPIsRightStage.nd rfl (Or.inl rfl)) (pgs_cons (pg_name (i := 4) scPIsRightStage.nd rfl (Or.inl rfl)) (pgs_cons (pg_name (i := 5) scPIsRightStage.nd rfl (Or.inl rfl)) (pgs_cons (pg_name (i := 6) scPIsRightStage.nd rfl (Or.inl rfl)) pgs_nil)))))))
      (pss_cons (ps_if (PW.pt (pw_or (pt_not (pt_val (pe_k cPIsFlatSolution (hr.mono (by decide)) (by rfl) (pa_cons (pv 0) (pa_cons (pv 3) pa_nil))))) (pw_or1 (pt_not (pt_val (pe_k cPAreRanks (hr.mono (by decide)) (by rfl) (pa_cons (pv 0) (pa_cons (pv 3) (pa_cons (pv 4) pa_nil))))))))) (pss_one (ps_ret pe_bl)) pss_nil)
      (pss_cons (ps_if (pt_cmpR (op_neD hr.units) (pe_lc (own := [("amount", 7)]) rfl scPIsRightStage.nd (pi_list (pv 3)) (blkOk_by (own := [("amount", 7)]) (N := nPIsRightStage) (sc := defScope sPIsRightStage) (by decide +kernel)) (fun _ _ _ _ _ => (pg_name (i := 7) scPIsRightStage.nd rfl (Or.inl rfl))) (fun _ _ _ _ _ => pts_nil) (fun _ _ _ _ _ => (pe_cmpR op_isN (pv 7) pe_non (nomark _)))) (pe_lc (own := [("potential", 8)]) rfl scPIsRightStage.nd (pi_list (pv 6)) (blkOk_by (own := [("potential", 8)]) (N := nPIsRightStage) (sc := defScope sPIsRightStage) (by decide +kernel)) (fun _ _ _ _ _ => (pg_name (i := 8) scPIsRightStage.nd rfl (Or.inl rfl))) (fun _ _ _ _ _ => pts_nil) (fun _ _ _ _ _ => (pe_cmpR op_notN (pv 8) pe_non (nomark _)))) (nomark _)) (pss_one (ps_ret pe_bl)) pss_nil)
      (pss_one (ps_ret (pe_k cPShowsEndless (hr.mono (by decide)) (by rfl) (pa_cons (pv 0) (pa_cons (pv 5) (pa_cons (pv 6) pa_nil))))))))), ?_⟩
  refine ⟨_, rfl, t, _, rfl, st_of h1, rfl, _, _, rfl, _, _, rfl, _, _, rfl, _, _, rfl, _, _, rfl, rfl, ?_⟩
  refine q_when (b := false) (et_is (et_or (a := false) (b := false) (et_is (et_not (et_B (ev_call (ea_cons (ev_var rfl) (ea_cons (ev_var rfl) ea_nil)) (sv_isFlatSolution hS h3 ok' xl)))) (by
    have e : fvals (opn S (stg S k)) (xs S k) = xs S k := fvals_lfpL (opn_ms ok _)
    rw [decide_eq_true e]
    rfl)) fun _ => et_is (et_not (et_B (ev_call (ea_cons (ev_var rfl) (ea_cons (ev_var rfl) (ea_cons (ev_var rfl) ea_nil))) (sv_areRanks hS h3 h4 xl ok' pl' hrk)))) rfl) rfl) (fun hb => by cases hb) fun _ H1 e1 => ?_
  have ptl : pt.length = (opn S (stg S k)).length := hsh.len
  refine q_when (b := false) (et_is (et_test (ev_opLL (el_mapB (fun y => .bl y.isNone) (ev_var rfl) (e1 _ _ h3) (by rw [xs_len]; omega) (fun _ => rfl) fun y _ H2 e2 => ev_isN (ev_var rfl)) (el_mapB (fun y => .bl y.isSome) (ev_var rfl) (e1 _ _ h6) (by omega) (fun _ => rfl) fun y _ H2 e2 => ev_notN (ev_var rfl)) fun z1 z2 H2 g1 g2 e2 => rv_neL (xs := (xs S k).map (·.isNone)) (ys := pt.map (·.isSome)) leafB eqv_B (by rw [g1, List.map_map]; rfl) (by rw [g2, List.map_map]; rfl))) (by
    have e : (xs S k).map (·.isNone) = pt.map (·.isSome) := by
      refine List.ext_getElem? fun i => ?_
      rw [List.getElem?_map, List.getElem?_map]
      by_cases hi : i < S.length
      · rw [gA_get (x := xs S k) (by rw [xs_len]; exact hi), gA_get (x := pt) (by omega)]
        exact congrArg some (hiso i hi).symm
      · rw [List.getElem?_eq_none (by rw [xs_len]; omega), List.getElem?_eq_none (by omega)]
        rfl
    rw [decide_eq_true e]
    rfl)) (fun hb => by cases hb) fun _ H2 e2 => ?_
  have e12 := e1.trans e2
  exact s_ret (ev_call (ea_cons (ev_var rfl) (ea_cons (ev_var rfl) (ea_cons (ev_var rfl) ea_nil))) (sv_showsEndless (hS.ex e12) (e12 _ _ h5) (e12 _ _ h6) ok' pl' hch hsh)) fun H3 e3 => q H3 (e12.trans e3)
/-! ### are_open -/
def spAreOpen : Sp := fun vs H Q _ => ∃ (a p : Addr) (S : List Fm) (k : Nat) (bv : V), vs = [.ref a, .ref p, bv] ∧ SheetAt H a S ∧ Wf S ∧ H p = some (.lst ((stg S k).map nv)) ∧ k ≤ lastS S ∧ ((k = 0 ∧ bv = .non) ∨ ∃ t k', k = k' + 1 ∧ bv = .ref t ∧ PaperRow S H t k') ∧ RetV (.bl true) H Q
theorem ok_areOpen (T : Bt mg) (h : Has K mg "are_open" sPAreOpen) (cPFulfilled : Cl P w K mg base 2 "fulfilled" spFulfilled) : Cl P w K mg base 3 "are_open" spAreOpen := by
  refine cl_of h scPAreOpen (fun _ _ _ _ _ _ us hl => match us, hl with | [_, _, _], _ => rfl) (fun vs H Q E h => ?_) (fun f cdv A outer s H vs Q E hr h => ?_)
  · obtain ⟨a, p, S, k, bv, rfl, _⟩ := h
    rfl
  obtain ⟨a, p, S, k, bv, rfl, hS, ok, hp, hk, hb, q⟩ := h
  have hlen := ok.len
  refine ⟨_, (pss_cons (ps_if (pt_cmpR op_isN (pv 2) pe_non (nomark _)) (pss_one (ps_ret (pe_cmpR (op_eqD hr.units) (pv 1) (pe_lst pa_nil) (nomark _)))) pss_nil)
      (pss_cons (ps_if (PW.pt (pw_or (pt_cmpR (op_neD hr.units) (pv 1) (pe_callB (cr_sortedSet rfl) (by rfl) T.b_sorted (by decide +kernel) (pa_cons (pe_callTy (cr_setI rfl) (by rfl) T.b_set (by decide +kernel) (pa_cons (pv 1) pa_nil)) pa_nil)) (nomark _)) (pw_or1 (pt_not (pt_val (pe_callB (cr_all rfl) (by rfl) T.b_all (by decide +kernel) (pa_cons (pe_lc (own := [("cell", 3)]) rfl scPAreOpen.nd (pi_list (pe_ix (ix_tupK (K := K)) (pv 2) pe_int (fun _ _ => rfl))) (blkOk_by (own := [("cell", 3)]) (N := nPAreOpen) (sc := defScope sPAreOpen) (by decide +kernel)) (fun _ _ _ _ _ => (pg_name (i := 3) scPAreOpen.nd rfl (Or.inl rfl))) (fun _ _ _ _ _ => pts_nil) (fun _ _ _ _ _ => (pe_cmpR (op_inK (K := K)) (pv 3) (pv 1) (by rfl)))) pa_nil))))))) (pss_one (ps_ret pe_bl)) pss_nil)
      (pss_one (ps_ret (pe_and (pe_cmpR op_gt (pe_callB (call_lenK (K := K)) (by rfl) T.b_len PySem.boot_len (pa_cons (pv 1) pa_nil)) (pe_callB (call_lenK (K := K)) (by rfl) T.b_len PySem.boot_len (pa_cons (pe_ix (ix_tupK (K := K)) (pv 2) pe_int (fun _ _ => rfl)) pa_nil)) (nomark _)) (pe_one (pe_callB (cr_all rfl) (by rfl) T.b_all (by decide +kernel) (pa_cons (pe_lc (own := [("cell", 3)]) rfl scPAreOpen.nd (pi_list (pv 1)) (blkOk_by (own := [("cell", 3)]) (N := nPAreOpen) (sc := defScope sPAreOpen) (by decide +kernel)) (fun _ _ _ _ _ => (pg_name (i := 3) scPAreOpen.nd rfl (Or.inl rfl))) (fun _ _ _ _ _ => pts_nil) (fun _ _ _ _ _ => (pe_cmpR (op_inK (K := K)) (pv 3) (pe_k cPFulfilled (hr.mono (by decide)) (by rfl) (pa_cons (pv 0) (pa_cons (pe_ix (ix_tupK (K := K)) (pv 2) pe_int (fun _ _ => rfl)) pa_nil))) (by rfl)))) pa_nil)))))))), ?_⟩
  rcases hb with ⟨rfl, rfl⟩ | ⟨t, k', rfl, rfl, hR⟩
  · refine q_when (b := true) (et_is (et_test (ev_isNV (ev_var rfl))) rfl) (fun _ H1 e1 => ?_) fun hb => by cases hb
    refine s_ret (v := .bl true) (ev_opL (ev_var rfl) (el_lst ea_nil (Nat.zero_le _)) fun z H2 g1 e2 => ?_) fun H2 e2 => q H2 (e1.trans e2)
    exact rv_eqL (xs := ([] : List Nat)) (ys := ([] : List Nat)) leafN eqv_N ((e1.trans e2) _ _ hp) g1
  · obtain ⟨p', x, r, c, u, rk, ch, pt, h1, h2, h3, h4, h5, h6, hst⟩ := hR
    have s1 := stg_le (S := S) (k' + 1)
    have s2 := stg_le (S := S) k'
    refine q_when (b := false) (et_is (et_test (ev_isNV (ev_var rfl))) rfl) (fun hb => by cases hb) fun _ H1 e1 => ?_
    have hp1 := e1 _ _ hp
    have t1 := e1 _ _ h1
    have p1 := e1 _ _ h2
    refine q_when (b := false) (et_is (et_or (a := false) (b := false) (et_is (et_test (ev_opL (ev_var rfl) (el_sortedSet (ev_var rfl) hp1 (stg_sorted S _) (by omega)) fun z H2 g1 e2 => rv_neL leafN eqv_N (e2 _ _ hp1) g1)) (by rw [decide_eq_true rfl]; rfl)) fun _ => et_is (et_not (et_B (ev_allL (K := K) (bs := (stg S k').map fun i => (stg S (k' + 1)).contains i) (by
        rw [List.map_map]
        exact el_mapB (fun i => V.bl ((stg S (k' + 1)).contains i)) (ev_xT (ev_var rfl) ev_c t1 at0) p1 (by omega) (fun _ => rfl) fun y _ H2 e2 => ev_inN (ev_var rfl) (ev_var rfl) (e2 _ _ hp1))))) (by
        rw [all_map]
        have e : (stg S k').all (fun i => (stg S (k' + 1)).contains i) = true := List.all_eq_true.mpr fun i hi => by
          have := stg_sub ok k' i hi
          simpa using this
        rw [e]
        rfl)) rfl) (fun hb => by cases hb) fun _ H2 e2 => ?_
    have e12 := e1.trans e2
    have hp2 := e12 _ _ hp
    have t2 := e12 _ _ h1
    refine s_ret (v := .bl (decide (((stg S k').length : Int) < ((stg S (k' + 1)).length : Int)) && ((stg S (k' + 1)).map fun i => (fulf S (xs S k')).contains i).all id)) (ev_andV (ev_gt (ev_lenM (ev_var rfl) hp2) (ev_lenM (ev_xT (ev_var rfl) ev_c t2 at0) (e12 _ _ h2))) fun _ => ev_allL (K := K) (by
        rw [List.map_map]
        exact el_mapB (fun i => V.bl ((fulf S (xs S k')).contains i)) (ev_var rfl) hp2 (by omega) (fun _ => rfl) fun y _ H3 e3 => ev_opL (ev_var rfl) (el_call (ea_cons (ev_var rfl) (ea_cons (ev_xT (ev_var rfl) ev_c (e3 _ _ t2) at1) ea_nil)) (sv_fulfilled ((hS.ex e12).ex e3) ((e12.trans e3) _ _ h3) (xs_len S k') ok)) fun z H4 g1 e4 => by
          have rv := rv_isL (K := K) (x := nv y) (sq_of g1) rfl (flat_nv _)
          rw [inV_nv] at rv
          exact rv)) fun H3 e3 => ?_
    have hlt := stg_len_lt ok ((lastS_spec ok).2 k' (by omega))
    have e1' : (stg S (k' + 1)).all (fun i => (fulf S (xs S k')).contains i) = true := List.all_eq_true.mpr fun i hi => by
      have hi : i ∈ fulf S (xs S k') := hi
      simpa using hi
    rw [all_map, e1', decide_eq_true (by omega)]
    exact q H3 (e12.trans e3)
/-! ### is_least_paper -/
def spIsLeastPaper : Sp := fun vs H Q _ => ∃ (a p : Addr) (S : List Fm), vs = [.ref a, .ref p] ∧ SheetAt H a S ∧ Wf S ∧ PaperAt S H p ∧ RetV (.bl true) H Q
theorem sv_isLeastPaper {a p : Addr} {S : List Fm} {H : Hp} (hS : SheetAt H a S) (ok : Wf S) (hp : PaperAt S H p) : SpV spIsLeastPaper [.ref a, .ref p] H (.bl true) := fun H1 e Q q _ => ⟨a, p, S, rfl, hS.ex e, ok, hp.xn (ex_xn e), q⟩
theorem ok_isLeastPaper (h : Has K mg "is_least_paper" sPIsLeastPaper) (cPAreOpen : Cl P w K mg base 3 "are_open" spAreOpen) (cPIsRightStage : Cl P w K mg base 6 "is_right_stage" spIsRightStage) (cPOpened : Cl P w K mg base 1 "opened" spOpened) (cPIsFlatSolution : Cl P w K mg base 5 "is_flat_solution" spIsFlatSolution) : Cl P w K mg base 7 "is_least_paper" spIsLeastPaper := by
  refine cl_of h scPIsLeastPaper (fun _ _ _ _ _ _ us hl => match us, hl with | [_, _], _ => rfl) (fun vs H Q E h => ?_) (fun f cdv A outer s H vs Q E hr h => ?_)
  · obtain ⟨a, p, S, rfl, _⟩ := h
    rfl
  obtain ⟨a, p, S, rfl, hS, ok, hP, q⟩ := h
  obtain ⟨ads, p1, p2⟩ := hP
  have lenA : (ads.map V.ref).length = lastS S + 1 := by rw [List.length_map, paired_len p2, List.length_range]
  refine ⟨_, (pss_cons (ps_set (i := 2) scPIsLeastPaper.nd rfl (Or.inl rfl) pe_non)
      (pss_cons (ps_for PassesOwn.never rfl (pi_list (pv 1)) (pg_name (i := 3) scPIsLeastPaper.nd rfl (Or.inl rfl)) (pss_cons (ps_if (pt_not (pt_val (pe_k cPAreOpen (hr.mono (by decide)) (by rfl) (pa_cons (pv 0) (pa_cons (pe_ix (ix_tupK (K := K)) (pv 3) pe_int (fun _ _ => rfl)) (pa_cons (pv 2) pa_nil)))))) (pss_one (ps_ret pe_bl)) pss_nil)
      (pss_cons (ps_if (pt_not (pt_val (pe_k cPIsRightStage (hr.mono (by decide)) (by rfl) (pa_cons (pe_k cPOpened (hr.mono (by decide)) (by rfl) (pa_cons (pv 0) (pa_cons (pe_ix (ix_tupK (K := K)) (pv 3) pe_int (fun _ _ => rfl)) pa_nil))) (pa_cons (pv 3) pa_nil))))) (pss_one (ps_ret pe_bl)) pss_nil)
      (pss_one (ps_set (i := 2) scPIsLeastPaper.nd rfl (Or.inl rfl) (pv 3))))))
      (pss_one (ps_ret (pe_and (pe_cmpR op_notN (pv 2) pe_non (nomark _)) (pe_one (pe_k cPIsFlatSolution (hr.mono (by decide)) (by rfl) (pa_cons (pv 0) (pa_cons (pe_ix (ix_tupK (K := K)) (pv 2) pe_int (fun _ _ => rfl)) pa_nil))))))))), ?_⟩
  refine q_asg ev_c fun H1 e1 => ?_
  refine q_forLn (ev_var rfl) (sq_of (e1 _ _ p1)) (fun k σ' H' => Ex H H' ∧ ∃ bv y3, σ' = [some (.ref a), some (.ref p), some bv, y3] ∧ ((k = 0 ∧ bv = .non) ∨ ∃ t k', k = k' + 1 ∧ bv = .ref t ∧ PaperRow S H t k')) (fun H2 e2 => ⟨e1.trans e2, _, _, rfl, .inl ⟨rfl, rfl⟩⟩) (fun k σ' H' _ q => sq_of (q.1 _ _ p1)) (fun k v σ' H' hv Pk => ?_) fun σ' H' Pk => ?_
  · obtain ⟨e, bv, y3, rfl, hb⟩ := Pk
    obtain ⟨t, ht, rfl⟩ := getMap hv
    obtain ⟨k2, hk2, hR⟩ := paired_get2 p2 ht
    have hkl : k < lastS S + 1 := by
      have := (List.getElem?_eq_some_iff.mp hv).1
      omega
    have ek : k2 = k := by
      rw [List.getElem?_range hkl] at hk2
      exact (Option.some.inj hk2).symm
    subst ek
    obtain ⟨p', x, r, c, u, rk, ch, pt, h1, h2, h3, h4, h5, h6, hst⟩ := id hR
    have hb' : ∀ H1, Ex H H1 → ((k2 = 0 ∧ bv = .non) ∨ ∃ t k', k2 = k' + 1 ∧ bv = .ref t ∧ PaperRow S H1 t k') := fun H1 e1 => hb.imp id fun ⟨t, k', a1, a2, a3⟩ => ⟨t, k', a1, a2, a3.ex e1⟩
    refine q_when (b := false) (et_is (et_not (et_B (ev_call (z := .bl true) (ea_cons (ev_var rfl) (ea_cons (ev_xT (ev_var rfl) ev_c (e _ _ h1) at0) (ea_cons (ev_var rfl) ea_nil))) fun H2 e2 Q q _ => ⟨a, p', S, k2, bv, rfl, (hS.ex e).ex e2, ok, (e.trans e2) _ _ h2, by omega, hb' _ (e.trans e2), q⟩))) rfl) (fun hb => by cases hb) fun _ H2 e2 => ?_
    have eH2 := e.trans e2
    refine q_when (b := false) (et_is (et_not (et_B (ev_call2 (z := .bl true) (ea_cons (ev_var rfl) (ea_cons (ev_xT (ev_var rfl) ev_c (eH2 _ _ h1) at0) ea_nil)) fun H3 e3 Q q => ⟨a, p', S, stg S k2, rfl, (hS.ex eH2).ex e3, (eH2.trans e3) _ _ h2, ok.len, fun ro H5 hro e5 hO => ⟨_, rfl, ⟨ro, t, S, k2, rfl, hO, hR.ex (eH2.trans (e3.trans e5)), ok, fun H6 e6 => q H6 (e5.trans e6)⟩⟩⟩))) rfl) (fun hb => by cases hb) fun _ H3 e3 => s_asg (ev_var rfl) fun H4 e4 => ⟨(eH2.trans e3).trans e4, _, _, rfl, .inr ⟨t, k2, rfl, rfl, hR⟩⟩
  · obtain ⟨e, bv, y3, rfl, hb⟩ := Pk
    rw [lenA] at hb
    rcases hb with ⟨h0, _⟩ | ⟨t, k', h0, rfl, hR⟩
    · omega
    · have ek : k' = lastS S := by omega
      subst ek
      obtain ⟨p', x, r, c, u, rk, ch, pt, h1, h2, h3, h4, h5, h6, hst⟩ := hR
      refine s_ret (v := .bl (true && decide (fvals S (xs S (lastS S)) = xs S (lastS S)))) (ev_andV (ev_is (ev_notNV (ev_var rfl)) rfl) fun _ => ev_call (ea_cons (ev_var rfl) (ea_cons (ev_xT (ev_var rfl) ev_c (e _ _ h1) at1) ea_nil)) (sv_isFlatSolution (hS.ex e) (e _ _ h3) ok (xs_len S _))) fun H2 e2 => ?_
      rw [decide_eq_true (last_solves ok)]
      exact q H2 (e.trans e2)
end Cs
set_option Elab.async false
set_option linter.all false
set_option maxRecDepth 100000
set_option maxHeartbeats 4000000
/-! LA: the law's pool -/
namespace Cs
open PySem PySem.Spec PyProof.Rows L2 Evl LamX
variable {P : Program} {w : World} {K : PySem.W.Frag} {mg : Str → Option Value} {base : Heap}
section
variable {σ : L2.St} {H : Hp} {ta tb : TE} {i j : Int}
theorem ev_i1 (h : Ev ta σ H (.int i)) : Ev (tCB (fun xs H Q => (∃ i, xs = [V.int i] ∧ Q (.int i) H) ∨ ∃ k, xs = [V.bl k] ∧ Q (.int (if k then 1 else 0)) H) (tCons ta tNil)) σ H (.int i) := ev_cb (ea_cons h ea_nil) fun H1 e Q q => .inl ⟨i, rfl, q H1 (Ex.refl H1)⟩
theorem ev_i1b {b : Bool} (h : Ev ta σ H (.bl b)) : Ev (tCB (fun xs H Q => (∃ i, xs = [V.int i] ∧ Q (.int i) H) ∨ ∃ k, xs = [V.bl k] ∧ Q (.int (if k then 1 else 0)) H) (tCons ta tNil)) σ H (.int (if b then 1 else 0)) := ev_cb (ea_cons h ea_nil) fun H1 e Q q => .inr ⟨b, rfl, q H1 (Ex.refl H1)⟩
theorem ev_mod (h : Ev ta σ H (.int i)) (h2 : Ev tb σ H (.int j)) (hj : 0 < j) : Ev (tOp (rI (fun _ j => 0 < j) fun i j => .int (i % j)) ta tb) σ H (.int (i % j)) := ev_op h h2 (rv_I hj)
theorem ev_fdiv (h : Ev ta σ H (.int i)) (h2 : Ev tb σ H (.int j)) (hj : CDiv i j) : Ev (tOp (rI CDiv fun i j => .int (i / j)) ta tb) σ H (.int (i / j)) := ev_op h h2 (rv_I hj)
theorem el_cat {l : Addr} {xs zs : List V} (h : Ev ta σ H (.ref l)) (hl : H l = some (.lst xs)) (h2 : EvL tb σ H zs) (hz : xs.length + zs.length ≤ 100000) : EvL (tOp rCat ta tb) σ H (xs ++ zs) := fun H1 e Q q => h H1 e _ fun H2 e2 => h2 H2 (e.trans e2) _ fun b H3 hb e3 h3 =>
  ⟨l, b, xs, zs, rfl, rfl, (e.trans (e2.trans e3)) _ _ hl, h3, sz_of hz, fun p hp => q p _ (fresh_back (e2.trans e3) hp) ((e2.trans e3).trans (Ex.new hp)) upd_same⟩
end
theorem cmulR {i j : Int} (h : -1000000 < j ∧ j < 1000000) : CMul i j := .inr ⟨by omega, by omega⟩
theorem cdivR {i j : Int} (h : 0 < j ∧ j < 1000000) : CDiv i j := ⟨h.1, by omega⟩
def spLPool (K : PySem.W.Frag) : Sp := fun vs H Q _ => ∃ (p : Addr) (ns : List Int), vs = [.ref p] ∧ SqL K H p (ns.map V.int) ∧ ns.length ≤ 63 ∧ ∀ r H2 (ms : List Int), H r = none → Ex H H2 → H2 r = some (.lst (ms.map V.int)) → 300 ≤ ms.length → ms.length ≤ 4080 → Q (.ref r) H2
theorem ok_lPool (T : Bt mg) (h : Has K mg "_law_pool" sLPool) : Cl P w K mg base 1 "_law_pool" (spLPool K) := by
  refine cl_of h scLPool (fun _ _ _ _ _ _ us hl => match us, hl with | [_], _ => rfl) (fun vs H Q E h => ?_) (fun f cdv A outer s H vs Q E hr h => ?_)
  · obtain ⟨p, ns, rfl, _⟩ := h
    rfl
  obtain ⟨p, ns, rfl, hp, hlen, q⟩ := h
  refine ⟨_, (pss_cons (ps_set (i := 1) scLPool.nd rfl (Or.inl rfl) (pe_lst pa_nil))
      (pss_cons (ps_set (i := 2) scLPool.nd rfl (Or.inl rfl) pe_int)
      (pss_cons (ps_for PassesOwn.never rfl (pi_range1 (by rfl) T.b_range (pa_cons (pe_callB (call_min2 rfl) (by rfl) T.b_min (by decide +kernel) (pa_cons (pe_callB (call_lenK (K := K)) (by rfl) T.b_len PySem.boot_len (pa_cons (pv 0) pa_nil)) (pa_cons pe_int pa_nil))) pa_nil)) (pg_name (i := 3) scLPool.nd rfl (Or.inl rfl)) (pss_cons (ps_set (i := 4) scLPool.nd rfl (Or.inl rfl) (pe_ix (ix_listK (K := K)) (pv 0) (pv 3) (fun _ _ => rfl)))
      (pss_cons (ps_set (i := 2) scLPool.nd rfl (Or.inl rfl) (pe_op op_mod (pe_callTy call_int1 (by rfl) T.b_int (by decide +kernel) (pa_cons (pe_op op_add (pe_op op_add (pe_op op_mul (pv 2) pe_int) (pe_op op_mul (pv 4) pe_int)) (pv 3)) pa_nil)) pe_int))
      (pss_one (ps_if (pt_cmpR op_ge (pv 4) (pe_op op_pow pe_int pe_int) (nomark _)) (pss_one (ps_for PassesOwn.never rfl (pi_range1 (by rfl) T.b_range (pa_cons pe_int pa_nil)) (pg_name (i := 5) scLPool.nd rfl (Or.inl rfl)) (pss_cons (ps_expr (pe_bm PySem.F.plainAttrs_list PySem.F.slot_list_append PySem.F.type_list_append mt_append (pv 1) (pa_cons (pe_op op_mod (pe_callTy call_int1 (by rfl) T.b_int (by decide +kernel) (pa_cons (pv 4) pa_nil)) pe_int) pa_nil)))
      (pss_one (ps_set (i := 4) scLPool.nd rfl (Or.inl rfl) (pe_op op_fdiv (pv 4) pe_int)))))) (pss_cons (ps_set (i := 6) scLPool.nd rfl (Or.inl rfl) (pe_op op_mod (pe_callTy call_int1 (by rfl) T.b_int (by decide +kernel) (pa_cons (pe_op op_add (pe_op op_add (pe_op op_mul (pv 4) pe_int) (pe_op op_mul (pv 3) pe_int)) pe_int) pa_nil)) pe_int))
      (pss_cons (ps_set (i := 7) scLPool.nd rfl (Or.inl rfl) (pe_op op_mod (pe_callTy call_int1 (by rfl) T.b_int (by decide +kernel) (pa_cons (pe_op op_add (pe_op op_add (pe_op op_mul (pv 6) pe_int) (pe_op op_mul (pv 4) pe_int)) (pv 3)) pa_nil)) pe_int))
      (pss_one (ps_set (i := 1) scLPool.nd rfl (Or.inl rfl) (pe_op op_cat (pv 1) (pe_lst (pa_cons (pe_op op_mod (pe_callTy call_int1 (by rfl) T.b_int (by decide +kernel) (pa_cons (pe_op op_fdiv (pv 6) pe_int) pa_nil)) pe_int) (pa_cons (pe_op op_mod (pe_callTy call_int1 (by rfl) T.b_int (by decide +kernel) (pa_cons (pv 7) pa_nil)) pe_int) pa_nil)))))))))))))
      (pss_cons (ps_for PassesOwn.never rfl (pi_range1 (by rfl) T.b_range (pa_cons pe_int pa_nil)) (pg_name (i := 5) scLPool.nd rfl (Or.inl rfl)) (pss_cons (ps_set (i := 2) scLPool.nd rfl (Or.inl rfl) (pe_op op_mod (pe_callTy call_int1 (by rfl) T.b_int (by decide +kernel) (pa_cons (pe_op op_add (pe_op op_mul (pv 2) pe_int) pe_int) pa_nil)) pe_int))
      (pss_one (ps_expr (pe_bm PySem.F.plainAttrs_list PySem.F.slot_list_append PySem.F.type_list_append mt_append (pv 1) (pa_cons (pe_op op_mod (pe_callTy call_int1 (by rfl) T.b_int (by decide +kernel) (pa_cons (pe_op op_fdiv (pv 2) pe_int) pa_nil)) pe_int) pa_nil))))))
      (pss_one (ps_ret (pv 1))))))), ?_⟩
  refine q_asgL (el_lst ea_nil (Nat.zero_le _)) fun r0 H1 hr0 e1 h1 => q_asg ev_c fun H2 e2 => ?_
  have e12 := e1.trans e2
  refine q_forR1 (n := (ns.length : Int)) (ea_cons (ev_is (ev_mn (ev_is (ev_len (ev_var rfl) (ex_l e12 hp)) (by rw [List.length_map] : _ = V.int (ns.length : Int))) ev_c) (by
    rw [if_neg (by omega)])) ea_nil) (by omega) (fun k σ' H' => Ex H H' ∧ ∃ rp ms st y3 y4 y5 y6 y7, H rp = none ∧ H' rp = some (.lst ((ms : List Int).map V.int)) ∧ ms.length ≤ 60 * k ∧ σ' = [some (.ref p), some (.ref rp), some (.int st), y3, y4, y5, y6, y7])
    (fun H3 e3 => ⟨e12.trans e3, r0, [], _, _, _, _, _, _, hr0, (e2.trans e3) _ _ h1, Nat.le_refl _, rfl⟩) (fun k σ' H' hk Pk => ?_) fun σ' H' Pk => ?_
  · obtain ⟨e, rp, ms, st, y3, y4, y5, y6, y7, hrp, hm, hml, rfl⟩ := Pk
    have hk' : k < ns.length := by omega
    have hat : atI (ns.map V.int) (k : Int) = some (.int ns[k]) := atI_nat (mapGet (List.getElem?_eq_getElem hk'))
    refine q_asg (ev_op (ev_var rfl) (ev_var rfl) (rv_ixL (ex_l e hp) hat)) fun H3 e3 => ?_
    refine q_asg (ev_mod (ev_i1 (ev_add (ev_add (ev_mul (ev_var rfl) ev_c (cmulR (by omega))) (ev_mul (ev_var rfl) ev_c (cmulR (by omega)))) (ev_var rfl))) ev_c (by omega)) fun H4 e4 => ?_
    have e34 := e3.trans e4
    refine s_if (et_test (ev_ge (ev_var rfl) (ev_op ev_c ev_c (rv_I (C := CPow) (g := fun i j => .int (i ^ j.toNat)) ⟨by omega, by omega, by decide⟩)))) (fun hb H5 e5 => ?_) fun hb H5 e5 => ?_
    · have e35 := e34.trans e5
      refine s_forR1 (n := (60 : Int)) (ea_cons ev_c ea_nil) (by omega) (fun j σ' H' => Ex H H' ∧ ∃ ms st y4 y5 y6 y7, H' rp = some (.lst ((ms : List Int).map V.int)) ∧ ms.length ≤ 60 * k + j ∧ σ' = [some (.ref p), some (.ref rp), some (.int st), some (.int (k : Int)), some (.int y4), y5, y6, y7])
        (fun H6 e6 => ⟨e.trans (e35.trans e6), ms, _, _, _, _, _, (e35.trans e6) _ _ hm, by omega, rfl⟩) (fun j σ' H' hj Pj => ?_) fun σ' H' Pj => ?_
      · obtain ⟨ej, ms2, st2, c4, y5, y6, y7, hm2, hml2, rfl⟩ := Pj
        refine q_app hm2 (ev_var rfl) (ev_mod (ev_i1 (ev_var rfl)) ev_c (by omega)) (by rw [List.length_map]; omega) fun H6 e6 => ?_
        refine s_asg (ev_fdiv (ev_var rfl) ev_c (cdivR (by omega))) fun H7 e7 => ⟨(Ex.mut (ej.trans e6) hrp).trans e7, ms2 ++ [c4 % 60], _, _, _, _, _, e7 _ _ (by rw [upd_same, List.map_append]; rfl), by rw [List.length_append]; show ms2.length + 1 ≤ _; omega, rfl⟩
      · obtain ⟨ej, ms2, st2, c4, y5, y6, y7, hm2, hml2, rfl⟩ := Pj
        have h60 : ms2.length ≤ 60 * k + 60 := hml2
        exact ⟨ej, rp, ms2, _, _, _, _, _, _, hrp, hm2, by omega, rfl⟩
    · have e35 := e34.trans e5
      refine q_asg (ev_mod (ev_i1 (ev_add (ev_add (ev_mul (ev_var rfl) ev_c (cmulR (by omega))) (ev_mul (ev_var rfl) ev_c (cmulR (by omega)))) ev_c)) ev_c (by omega)) fun H6 e6 => ?_
      refine q_asg (ev_mod (ev_i1 (ev_add (ev_add (ev_mul (ev_var rfl) ev_c (cmulR (by omega))) (ev_mul (ev_var rfl) ev_c (cmulR (by omega)))) (ev_var rfl))) ev_c (by omega)) fun H7 e7 => ?_
      have e37 := e35.trans (e6.trans e7)
      refine s_asgL (el_cat (ev_var rfl) (e37 _ _ hm) (el_lst (ea_cons (ev_mod (ev_i1 (ev_fdiv (ev_var rfl) ev_c (cdivR (by omega)))) ev_c (by omega)) (ea_cons (ev_mod (ev_i1 (ev_var rfl)) ev_c (by omega)) ea_nil)) (by show 2 ≤ 100000; decide)) (by rw [List.length_map]; show _ + 2 ≤ _; omega)) fun rn H8 hrn e8 h8 => ⟨e.trans (e37.trans e8), rn, ms ++ [_, _], _, _, _, _, _, _, fresh_back (e.trans e37) hrn, by rw [h8, List.map_append]; rfl, by rw [List.length_append]; show ms.length + 2 ≤ _; omega, rfl⟩
  · obtain ⟨e, rp, ms, st, y3, y4, y5, y6, y7, hrp, hm, hml, rfl⟩ := Pk
    rw [Int.toNat_natCast] at hml
    refine q_forR1 (n := (300 : Int)) (ea_cons ev_c ea_nil) (by omega) (fun j σ' H' => Ex H H' ∧ ∃ ms2 st y3 y4 y5 y6 y7, H' rp = some (.lst ((ms2 : List Int).map V.int)) ∧ ms2.length = ms.length + j ∧ σ' = [some (.ref p), some (.ref rp), some (.int st), y3, y4, y5, y6, y7])
      (fun H6 e6 => ⟨e.trans e6, ms, _, _, _, _, _, _, e6 _ _ hm, rfl, rfl⟩) (fun j σ' H' hj Pj => ?_) fun σ' H' Pj => ?_
    · obtain ⟨ej, ms2, st2, y3, y4, y5, y6, y7, hm2, hml2, rfl⟩ := Pj
      refine q_asg (ev_mod (ev_i1 (ev_add (ev_mul (ev_var rfl) ev_c (cmulR (by omega))) ev_c)) ev_c (by omega)) fun H6 e6 => ?_
      refine s_app (e6 _ _ hm2) (ev_var rfl) (ev_mod (ev_i1 (ev_fdiv (ev_var rfl) ev_c (cdivR (by omega)))) ev_c (by omega)) (by rw [List.length_map]; omega) fun H7 e7 => ⟨Ex.mut (ej.trans (e6.trans e7)) hrp, ms2 ++ [_], _, _, _, _, _, _, by rw [upd_same, List.map_append]; rfl, by rw [List.length_append]; show ms2.length + 1 = _; omega, rfl⟩
    · obtain ⟨ej, ms2, st2, y3, y4, y5, y6, y7, hm2, hml2, rfl⟩ := Pj
      have h300 : ms2.length = ms.length + 300 := hml2
      exact s_ret (ev_var rfl) fun H6 e6 => q rp H6 ms2 hrp (ej.trans e6) (e6 _ _ hm2) (by omega) (by omega)
/-- xs + a def's list -/
theorem s_retCatK {σ : L2.St} {H : Hp} {D : Ends} {ta : TE} {tb : TA} {sp : Sp} {xs vs : List V} (h0 : EvL ta σ H xs) (ha : EvA tb σ H vs) (k : ∀ l H1, Ex H H1 → H1 l = some (.lst xs) → sp (vs ++ []) H1 (fun b H2 => rCat (.ref l) b H2 D.rt) L2.E0) : tRet (tOp rCat ta (tCall sp [] L2.E0 tb)) D σ H :=
  h0 H (Ex.refl H) _ fun l H1 hl e1 h1 => ha H1 e1 _ fun H2 e2 => k l H2 (e1.trans e2) (e2 _ _ h1)
/-! ### _law_stream -/
def spLStream (K : PySem.W.Frag) : Sp := fun vs H Q _ => ∃ (p : Addr) (ns : List Int), vs = [.ref p] ∧ SqL K H p (ns.map V.int) ∧ ns.length ≤ 63 ∧ ∀ r H2 (ms : List Int), H r = none → Ex H H2 → H2 r = some (.lst (ms.map V.int)) → 301 ≤ ms.length → ms.length ≤ 4081 → Q (.ref r) H2
theorem ok_lStream (h : Has K mg "_law_stream" sLStream) (cLPool : Cl P w K mg base 1 "_law_pool" (spLPool K)) : Cl P w K mg base 2 "_law_stream" (spLStream K) := by
  refine cl_of h scLStream (fun _ _ _ _ _ _ us hl => match us, hl with | [_], _ => rfl) (fun vs H Q E h => ?_) (fun f cdv A outer s H vs Q E hr h => ?_)
  · obtain ⟨p, ns, rfl, _⟩ := h
    rfl
  obtain ⟨p, ns, rfl, hp, hlen, q⟩ := h
  refine ⟨_, (pss_one (ps_ret (pe_op op_cat (pe_lst (pa_cons pe_int pa_nil)) (pe_k cLPool (hr.mono (by decide)) (by rfl) (pa_cons (pv 0) pa_nil))))), ?_⟩
  refine s_retCatK (el_lst (vs := [.int 0]) (ea_cons ev_c ea_nil) (by show 1 ≤ 100000; decide)) (ea_cons (ev_var rfl) ea_nil) fun l H2 e1 h1 => ⟨p, ns, rfl, ex_l e1 hp, hlen, fun r H3 ms hr e3 h3 l1 l2 => ?_⟩
  have e03 := e1.trans e3
  refine ⟨l, r, [.int 0], ms.map V.int, rfl, rfl, e3 _ _ h1, h3, sz_of (by rw [List.length_map]; show 1 + _ ≤ _; omega), fun b hb => ?_⟩
  exact q b _ ((0 : Int) :: ms) (fresh_back e03 hb) (e03.trans (Ex.new hb)) (by rw [upd_same]; rfl) (by show 301 ≤ ms.length + 1; omega) (by show ms.length + 1 ≤ 4081; omega)
end Cs
set_option Elab.async false
set_option linter.all false
set_option maxRecDepth 100000
set_option maxHeartbeats 4000000
/-! LB: the law's sheet, drawn from the pool -/
namespace Cs
open PySem PySem.Spec PyProof.Rows L2 Evl LamX
variable {P : Program} {w : World} {K : PySem.W.Frag} {mg : Str → Option Value} {base : Heap}
def PoolAt (H : Hp) (pa : Addr) (n : Nat) : Prop := ∃ ns : List Int, H pa = some (.lst (ns.map V.int)) ∧ ns.length = n
theorem hd_self {H H' : Hp} {a : Addr} (e : Ex (hd H a) H') : Ex (hd H a) (hd H' a) := fun b o h => by
  by_cases q : b = a
  · unfold hd at h
    rw [if_pos q] at h
    cases h
  · rw [hd_at q]
    exact e b o h
theorem hx_trans {H H1 H2 : Hp} {a : Addr} (e : Ex (hd H a) H1) (e2 : Ex (hd H1 a) H2) : Ex (hd H a) H2 := (hd_self e).trans e2
theorem hx_of {H H1 : Hp} {a : Addr} (e : Ex H H1) : Ex (hd H a) H1 := hd_sub.trans e
theorem hx_upd {H H1 : Hp} {a : Addr} {o : HO} (e : Ex H H1) : Ex (hd H a) (upd H1 a o) := fun b u h => by
  have q : b ≠ a := fun z => by
    unfold hd at h
    rw [if_pos z] at h
    cases h
  rw [upd_ne q]
  rw [hd_at q] at h
  exact e b u h
theorem hd_fresh {H : Hp} {a b : Addr} {u : HO} (h : H a = some u) (e : ∀ {c}, c ≠ a → H c = none → hd H a c = none) (hb : H b = none) : b ≠ a := fun z => by
  rw [z, h] at hb
  cases hb
theorem PoolAt.ext {H H' : Hp} {pa : Addr} {n : Nat} (h : PoolAt H pa n) (e : Ex H H') : PoolAt H' pa n := by
  obtain ⟨ns, h1, h2⟩ := h
  exact ⟨ns, e _ _ h1, h2⟩
theorem PoolAt.ne {H : Hp} {pa b : Addr} {n : Nat} (h : PoolAt H pa n) (hb : H b = none) : b ≠ pa := fun z => by
  obtain ⟨ns, h1, _⟩ := h
  rw [z, h1] at hb
  cases hb
theorem hx_fresh {H H1 : Hp} {pa b : Addr} {n : Nat} (hp : PoolAt H pa n) (e : Ex (hd H pa) H1) (hp1 : PoolAt H1 pa n) (hb : H1 b = none) : H b = none := by
  have q : b ≠ pa := hp1.ne hb
  have z := fresh_back e hb
  rw [hd_at q] at z
  exact z
theorem pool_upd {H : Hp} {pa r : Addr} {n : Nat} {o : HO} (h : PoolAt H pa n) (q : pa ≠ r) : PoolAt (upd H r o) pa n := by
  obtain ⟨ns, h1, h2⟩ := h
  exact ⟨ns, by rw [upd_ne q]; exact h1, h2⟩
/-! ### _law_pick -/
def spLPick : Sp := fun vs H Q _ => ∃ (pa : Addr) (n : Nat) (many : Int), vs = [.ref pa, .int many] ∧ 0 < many ∧ PoolAt H pa n ∧ 2 ≤ n ∧ n ≤ 5000 ∧ ∀ k H2, 0 ≤ k → k < many → Ex (hd H pa) H2 → PoolAt H2 pa n → Q (.int k) H2
theorem fmod_lt {i j : Int} (h : 0 < j) : 0 ≤ i.fmod j ∧ i.fmod j < j := by
  rw [Int.fmod_eq_emod_of_nonneg i (by omega)]
  exact ⟨Int.emod_nonneg i (by omega), Int.emod_lt_of_pos i h⟩
theorem ev_modN {σ : L2.St} {H : Hp} {ta tb : TE} {i j : Int} (h : Ev ta σ H (.int i)) (h2 : Ev tb σ H (.int j)) (hj : j ≠ 0) : Ev (tOp (rI (fun _ j => j ≠ 0) fun i j => .int (i.fmod j)) ta tb) σ H (.int (i.fmod j)) := ev_op h h2 (rv_I hj)
theorem at_int {ns : List Int} {j : Nat} (h : j < ns.length) : atI (ns.map V.int) (j : Int) = some (.int ns[j]) := atI_nat (mapGet (List.getElem?_eq_getElem h))
theorem ok_lPick (T : Bt mg) (h : Has K mg "_law_pick" sLPick) : Cl P w K mg base 1 "_law_pick" spLPick := by
  refine cl_of h scLPick (fun _ _ _ _ _ _ us hl => match us, hl with | [_, _], _ => rfl) (fun vs H Q E h => ?_) (fun f cdv A outer s H vs Q E hr h => ?_)
  · obtain ⟨pa, n, many, rfl, _⟩ := h
    rfl
  obtain ⟨pa, n, many, rfl, hm, ⟨ns, hp, hn⟩, h2, h5, q⟩ := h
  refine ⟨_, (pss_cons (ps_asg (pe_op op_add pe_int (pe_op op_modN (pe_callTy call_int1 (by rfl) T.b_int (by decide +kernel) (pa_cons (pe_ix (ix_listK (K := K)) (pv 0) pe_int (fun _ _ => rfl)) pa_nil)) (pe_op op_sub (pe_callB (call_lenK (K := K)) (by rfl) T.b_len PySem.boot_len (pa_cons (pv 0) pa_nil)) pe_int))) (pg_sub (pv 0) pe_int set_list))
      (pss_one (ps_ret (pe_op op_modN (pe_callTy call_int1 (by rfl) T.b_int (by decide +kernel) (pa_cons (pe_ix (ix_listK (K := K)) (pv 0) (pe_ix (ix_listK (K := K)) (pv 0) pe_int (fun _ _ => rfl)) (fun _ _ => rfl)) pa_nil)) (pv 1))))), ?_⟩
  have b1 := fmod_lt (i := ns[0]'(by omega)) (j := (ns.length : Int) - 1) (by omega)
  obtain ⟨j, hj⟩ : ∃ j : Nat, (1 : Int) + (ns[0]'(by omega)).fmod ((ns.length : Int) - 1) = (j : Int) := ⟨((1 : Int) + (ns[0]'(by omega)).fmod ((ns.length : Int) - 1)).toNat, by omega⟩
  refine q_setL (j := 0) hp (ev_is (ev_add ev_c (ev_modN (ev_i1 (ev_xL (ev_var rfl) ev_c hp (at_int (j := 0) (by omega)))) (ev_sub (ev_lenM (ev_var rfl) hp) ev_c) (by omega))) (congrArg V.int hj)) (ev_var rfl) ev_c (by rw [List.length_map]; omega) fun H1 e1 => ?_
  have eM : (ns.map V.int).set 0 (.int (j : Int)) = (ns.set 0 (j : Int)).map V.int := by rw [List.map_set]
  rw [eM]
  have hl : (ns.set 0 (j : Int)).length = ns.length := List.length_set
  have hjl : j < (ns.set 0 (j : Int)).length := by omega
  have a0 : atI ((ns.set 0 (j : Int)).map V.int) (0 : Int) = some (.int (j : Int)) := by
    have z := at_int (ns := ns.set 0 (j : Int)) (j := 0) (by omega)
    rw [List.getElem_set_self] at z
    exact z
  have b2 := fmod_lt (i := (ns.set 0 (j : Int))[j]) (j := many) hm
  refine s_ret (ev_modN (ev_i1 (ev_xL (ev_var rfl) (ev_xL (ev_var rfl) ev_c upd_same a0) upd_same (at_int hjl))) (ev_var rfl) (by omega)) fun H2 e2 => q _ H2 b2.1 b2.2 ((hx_upd e1).trans e2) ⟨_, e2 _ _ upd_same, by omega⟩
/-! ### values drawn on the way -/
def EvP (te : TE) (σ : L2.St) (H : Hp) (pa : Addr) (n : Nat) (r : Addr) (R : V → Hp → Prop) : Prop := ∀ H1, Ex (hd H pa) H1 → PoolAt H1 pa n → ∀ Q : VK, (∀ v H2, Ex (hd H1 pa) H2 → PoolAt H2 pa n → R v (hd (hd H2 pa) r) → Q v H2) → te σ H1 Q
def EvPA (ta : TA) (σ : L2.St) (H : Hp) (pa : Addr) (n : Nat) (r : Addr) (R : List V → Hp → Prop) : Prop := ∀ H1, Ex (hd H pa) H1 → PoolAt H1 pa n → ∀ Q : List V → Hp → Prop, (∀ vs H2, Ex (hd H1 pa) H2 → PoolAt H2 pa n → R vs (hd (hd H2 pa) r) → Q vs H2) → ta σ H1 Q
def IntIn (lo hi : Int) (v : V) (_ : Hp) : Prop := ∃ k, v = .int k ∧ lo ≤ k ∧ k < hi
section
variable {σ : L2.St} {H : Hp} {pa r : Addr} {n : Nat} {te ta tb : TE} {tA : TA} {R R1 R2 : V → Hp → Prop} {RA : List V → Hp → Prop} {v : V}
theorem ep_pure (h : ∀ H', Ev te σ H' v) : EvP te σ H pa n r (fun x _ => x = v) := fun H1 e hp Q q => h H1 H1 (Ex.refl _) Q fun H2 e2 => q v H2 (hx_of e2) (hp.ext e2) rfl
theorem EvP.imp (h : EvP te σ H pa n r R) (k : ∀ v H, R v H → R1 v H) : EvP te σ H pa n r R1 := fun H1 e hp Q q => h H1 e hp Q fun v H2 e2 p2 z => q v H2 e2 p2 (k v _ z)
theorem ep_pick {i : Nat} {tm : TE} {many : Int} (hi : σ[i]? = some (some (.ref pa))) (hm : ∀ H', Ev tm σ H' (.int many)) (h0 : 0 < many) (h2 : 2 ≤ n ∧ n ≤ 5000) : EvP (tCall spLPick [] L2.E0 (tCons (tVar i) (tCons tm tNil))) σ H pa n r (IntIn 0 many) := fun H1 e hp Q q =>
  ⟨_, hi, hm H1 H1 (Ex.refl _) _ fun H2 e2 => ⟨pa, n, many, rfl, h0, hp.ext e2, h2.1, h2.2, fun k H3 k0 k1 e3 p3 => q _ H3 (hx_trans (hx_of e2) e3) p3 ⟨k, rfl, k0, k1⟩⟩⟩
theorem ep_add1 {hi : Int} (h : EvP te σ H pa n r (IntIn 0 hi)) : EvP (tOp (rI0 fun i j => .int (i + j)) (tC (.int 1)) te) σ H pa n r (IntIn 1 (hi + 1)) := fun H1 e hp Q q => h H1 e hp _ fun v H2 e2 p2 ⟨k, e3, k0, k1⟩ => ⟨1, k, rfl, e3, q _ H2 e2 p2 ⟨1 + k, rfl, by omega, by omega⟩⟩
/-- [..][pick] -/
theorem ep_ixC {cs : List V} (hl : ∀ H', EvL ta σ H' cs) (hp : EvP tb σ H pa n r (IntIn 0 cs.length)) : EvP (tOp (rIxL K) ta tb) σ H pa n r (fun v _ => v ∈ cs) := fun H1 e p1 Q q => hl H1 H1 (Ex.refl _) _ fun l H2 hl2 e2 h2 =>
  hp H2 (e.trans e2) (p1.ext e2) _ fun v H3 e3 p3 ⟨k, ev, k0, k1⟩ => by
    have ne : l ≠ pa := p1.ne hl2
    have hk : k.toNat < cs.length := by omega
    have hat : atI cs k = some cs[k.toNat] := by
      have z := atI_nat (List.getElem?_eq_getElem hk)
      rw [Int.toNat_of_nonneg k0] at z
      exact z
    exact ⟨l, cs, k, cs[k.toNat], rfl, ev, sq_of (e3 l _ (by rw [hd_at ne]; exact h2)), hat, q _ H3 (hx_trans (hx_of e2) e3) p3 (List.getElem_mem hk)⟩
theorem epa_nil : EvPA tNil σ H pa n r (fun vs _ => vs = []) := fun H1 e hp Q q => q [] H1 hd_sub hp rfl
theorem hdd_ex {H H' : Hp} (e : Ex (hd H pa) H') : Ex (hd (hd H pa) r) (hd (hd H' pa) r) := hd_ex (hd_self e)
theorem epa_cons (h : EvP te σ H pa n r R) (m : Mono R) (ha : EvPA tA σ H pa n r RA) : EvPA (tCons te tA) σ H pa n r (fun vs H => ∃ v ws, vs = v :: ws ∧ R v H ∧ RA ws H) := fun H1 e hp Q q => h H1 e hp _ fun v H2 e2 p2 r2 => ha H2 (hx_trans e e2) p2 _ fun ws H3 e3 p3 r3 => q _ H3 (hx_trans e2 e3) p3 ⟨v, ws, rfl, m v _ _ (hdd_ex e3) r2, r3⟩
theorem hdd_new {H : Hp} {p : Addr} {o u : HO} (hp : PoolAt H pa n) (hr : H r = some u) (h : H p = none) : hd (hd (upd H p o) pa) r p = some o := by
  rw [hd_at (hd_ne hr h), hd_at (hp.ne h), upd_same]
theorem ep_tup {u : HO} (hr : hd H pa r = some u) (ha : EvPA tA σ H pa n r RA) (m : ∀ vs H H', Ex H H' → RA vs H → RA vs H') (hl : ∀ vs H, RA vs H → vs.length ≤ 100000) : EvP (tTup tA) σ H pa n r (fun z H' => ∃ p vs, z = .ref p ∧ H' p = some (.tup vs) ∧ RA vs H') := fun H1 e hp Q q => ha H1 e hp _ fun vs H2 e2 p2 r2 => ⟨sz_of (hl vs _ r2), fun p hn => by
  have hr2 := (hx_trans e e2) r _ hr
  have ne := p2.ne hn
  exact q _ _ (hx_trans e2 (hx_of (Ex.new hn))) (pool_upd p2 (Ne.symm ne)) ⟨p, vs, rfl, hdd_new p2 hr2 hn, m vs _ _ (hdd_ex (hx_of (Ex.new hn))) r2⟩⟩
theorem s_asgP {i : Nat} {D : Ends} (h : EvP te σ H pa n r R) (hp : PoolAt H pa n) (k : ∀ v H1, Ex (hd H pa) H1 → PoolAt H1 pa n → R v (hd (hd H1 pa) r) → D.nx (σ.set i (some v)) H1) : tAsg te (gName i) D σ H := h H hd_sub hp _ fun v H1 e p1 z => k v H1 e p1 z
theorem q_asgP {i : Nat} {D : Ends} {tz : TS} (h : EvP te σ H pa n r R) (hp : PoolAt H pa n) (k : ∀ v H1, Ex (hd H pa) H1 → PoolAt H1 pa n → R v (hd (hd H1 pa) r) → tz D (σ.set i (some v)) H1) : tSeq (tAsg te (gName i)) tz D σ H := s_asgP (D := { D with nx := tz D }) h hp k
theorem s_appP {D : Ends} {l : Addr} {xs : List V} (hl : hd H pa l = some (.lst xs)) (ha : Ev ta σ H (.ref l)) (h : EvP te σ H pa n l R) (hp : PoolAt H pa n) (hz : xs.length < 100000) (k : ∀ v H1, Ex (hd H pa) H1 → PoolAt H1 pa n → R v (hd (hd H1 pa) l) → D.nx σ (upd H1 l (.lst (xs ++ [v])))) :
    tDrop (tBM K "list" rAppend ta (tCons te tNil)) D σ H := ha H (Ex.refl H) _ fun H1 e1 =>
  ⟨Or.inl ⟨rfl, xs, sq_of (e1 l _ (hd_sub _ _ hl))⟩, h H1 (hx_of e1) (hp.ext e1) _ fun v H2 e2 p2 z => ⟨l, xs, v, rfl, rfl, (hx_trans (hx_of e1) e2) l _ hl, sz_lt hz, k v H2 (hx_trans (hx_of e1) e2) p2 z⟩⟩
end
/-! ### _law_amount -/
def spLAmount : Sp := fun vs H Q _ => ∃ (pa : Addr) (n : Nat), vs = [.ref pa] ∧ PoolAt H pa n ∧ 2 ≤ n ∧ n ≤ 5000 ∧ ∀ (a : Amt) H2, (∀ i, a = some i → 0 ≤ i ∧ i ≤ 11) → Ex (hd H pa) H2 → PoolAt H2 pa n → Q (av a) H2
theorem ok_lAmount (T : Bt mg) (h : Has K mg "_law_amount" sLAmount) (cLPick : Cl P w K mg base 1 "_law_pick" spLPick) : Cl P w K mg base 2 "_law_amount" spLAmount := by
  refine cl_of h scLAmount (fun _ _ _ _ _ _ us hl => match us, hl with | [_], _ => rfl) (fun vs H Q E h => ?_) (fun f cdv A outer s H vs Q E hr h => ?_)
  · obtain ⟨pa, n, rfl, _⟩ := h
    rfl
  obtain ⟨pa, n, rfl, hp, h2, h5, q⟩ := h
  refine ⟨_, (pss_cons (ps_set (i := 1) scLAmount.nd rfl (Or.inl rfl) (pe_k cLPick (hr.mono (by decide)) (by rfl) (pa_cons (pv 0) (pa_cons pe_int pa_nil))))
      (pss_cons (ps_if (pt_cmpR op_eq (pv 1) pe_int (nomark _)) (pss_one (ps_ret pe_non)) pss_nil)
      (pss_one (ps_ret (pe_ix (ix_listK (K := K)) (pe_lst (pa_cons (pe_k cLPick (hr.mono (by decide)) (by rfl) (pa_cons (pv 0) (pa_cons pe_int pa_nil))) (pa_cons pe_int pa_nil))) (pe_callTy call_int1 (by rfl) T.b_int (by decide +kernel) (pa_cons (pe_cmpR op_eq (pv 1) pe_int (nomark _)) pa_nil)) (fun _ _ => rfl)))))), ?_⟩
  refine q_asgP (pa := pa) (n := n) (r := pa) (ep_pick rfl (fun _ => ev_c) (by omega) ⟨h2, h5⟩) hp fun v H1 e1 p1 ⟨k, ev, k0, k1⟩ => ?_
  subst ev
  refine q_when (et_test (ev_eq (ev_var rfl) ev_c rfl)) (fun hb H2 e2 => s_ret ev_c fun H3 e3 => q none H3 (fun i h => by cases h) (e1.trans (e2.trans e3)) (p1.ext (e2.trans e3))) fun hb H2 e2 => ?_
  have pk : EvP (tCall spLPick [] L2.E0 (tCons (tVar 0) (tCons (tC (.int 12)) tNil))) [some (.ref pa), some (.int k)] H2 pa n pa (IntIn 0 12) := ep_pick rfl (fun _ => ev_c) (by omega) ⟨h2, h5⟩
  refine pk H2 hd_sub (p1.ext e2) _ fun v H3 e3 p3 ⟨m, ev, m0, m1⟩ => ?_
  subst ev
  refine ⟨sz_of (by show 2 ≤ 100000; decide), fun l hl => ?_⟩
  have nl := p3.ne hl
  have hidx : Ev (tCB (fun xs H Q => (∃ i, xs = [V.int i] ∧ Q (.int i) H) ∨ ∃ k, xs = [V.bl k] ∧ Q (.int (if k then 1 else 0)) H) (tCons (tOp rEq (tVar 1) (tC (.int 1))) tNil)) [some (.ref pa), some (.int k)] (upd H3 l (.lst [.int m, .int 0])) (.int (if decide (V.int k = V.int 1) then 1 else 0)) := ev_i1b (ev_eq (ev_var rfl) ev_c rfl)
  refine hidx _ (Ex.refl _) _ fun H4 e4 => ?_
  have hl4 := e4 _ _ (upd_same (H := H3) (a := l) (o := .lst [.int m, .int 0]))
  have x4 : Ex (hd H pa) H4 := hx_trans (e1.trans e2) (e3.trans ((Ex.new hl).trans e4) : Ex (hd H2 pa) H4)
  have p4 : PoolAt H4 pa n := (pool_upd p3 (Ne.symm nl)).ext e4
  by_cases hk : V.int k = V.int 1
  · rw [decide_eq_true hk]
    exact ⟨l, _, 1, .int 0, rfl, rfl, sq_of hl4, at1, q (some 0) H4 (fun i h => by cases h; omega) x4 p4⟩
  · rw [decide_eq_false hk]
    exact ⟨l, _, 0, .int m, rfl, rfl, sq_of hl4, at0, q (some m) H4 (fun i h => by cases h; omega) x4 p4⟩
end Cs
set_option Elab.async false
set_option linter.all false
set_option maxRecDepth 100000
set_option maxHeartbeats 4000000
/-! LC: _law_arcs, _law_flat -/
namespace Cs
open PySem PySem.Spec PyProof.Rows L2 Evl LamX
variable {P : Program} {w : World} {K : PySem.W.Frag} {mg : Str → Option Value} {base : Heap}
theorem el_ints {σ : L2.St} {ta : TA} {cs : List V} (h : ∀ H', EvA ta σ H' cs) (hl : cs.length ≤ 100000) : ∀ H', EvL (tLst ta) σ H' cs := fun H' => el_lst (h H') hl
theorem intIn_mono (lo hi : Int) : Mono (IntIn lo hi) := fun v H H' e h => h
/-- a comprehension over range(n), its items drawn on the way -/
theorem ep_lcR {m : Nat} {j : Nat} {σ : L2.St} {H : Hp} {pa : Addr} {n : Nat} {ta : TA} {te : TE} (R : V → Hp → Prop) (hR : Mono R) (hp : PoolAt H pa n) (h : EvA ta σ H [.int (m : Int)]) (hm : m ≤ 50000) (hw : ∀ x, wipe ((wipe σ [j]).set j (some x)) [j] = wipe σ [j])
    (he : ∀ (i : Nat) H1 r (xs : List V), Ex (hd H pa) H1 → PoolAt H1 pa n → hd H1 pa r = some (.lst xs) → EvP te ((wipe σ [j]).set j (some (.int (i : Int)))) H1 pa n r R) {Q : VK}
    (q : ∀ p H2 xs, H p = none → p ≠ pa → Ex (hd H pa) H2 → PoolAt H2 pa n → H2 p = some (.lst xs) → Paired (fun v (_ : Nat) => R v (hd (hd H2 pa) p)) xs (List.range m) → Q (.ref p) H2) :
    tLc (iRng1 ta) (gName j) tYes te [j] σ H Q := h H (Ex.refl H) _ fun H1 e1 => ⟨(m : Int), rfl, by omega, by omega, fun Dl hD => by
  have p1 := hp.ext e1
  have nD : Dl ≠ pa := p1.ne hD
  refine lc_range (lo := 0) (n := (m : Int).toNat) (fun i H' => Ex (hd H1 pa) H' ∧ PoolAt H' pa n ∧ ∃ xs, H' Dl = some (.lst xs) ∧ Paired (fun v (_ : Nat) => R v (hd (hd H' pa) Dl)) xs (List.range i)) ⟨hx_of (Ex.new hD), pool_upd p1 (Ne.symm nD), [], upd_same, .nil⟩ (fun i H' hi q' => ?_) fun H' q' => ?_
  · have e0 : (0 : Int) + (i : Int) = (i : Int) := Int.zero_add _
    show wipe ((wipe σ [j]).set j (some (.int ((0 : Int) + (i : Int))))) [j] = wipe σ [j] ∧ tYes ((wipe σ [j]).set j (some (.int ((0 : Int) + (i : Int))))) H' _
    rw [e0]
    refine ⟨hw _, ?_⟩
    obtain ⟨q1, p2, xs, q3, q4⟩ := q'
    show te _ H' _
    refine he i H' Dl xs (hx_trans (hx_of e1) q1) p2 (by rw [hd_at nD]; exact q3) H' hd_sub p2 _ fun v H3 e3 p3 r3 => ⟨xs, e3 _ _ (by rw [hd_at nD]; exact q3), ?_, ?_, pool_upd p3 (Ne.symm nD), xs ++ [v], upd_same, ?_⟩
    · have := paired_len q4
      rw [List.length_range] at this
      exact sz_lt (by omega)
    · have x3 := hx_trans q1 e3
      have hn : hd H1 pa Dl = none := by rw [hd_at nD]; exact hD
      exact Ex.mut x3 hn
    · have eh : hd (hd (upd H3 Dl (.lst (xs ++ [v]))) pa) Dl = hd (hd H3 pa) Dl := by
        funext a
        unfold hd
        by_cases h1 : a = Dl
        · rw [if_pos h1, if_pos h1]
        · rw [if_neg h1, if_neg h1]
          by_cases h2 : a = pa
          · rw [if_pos h2, if_pos h2]
          · rw [if_neg h2, if_neg h2, upd_ne h1]
      rw [eh, List.range_succ]
      exact paired_snoc (pm q4 fun v k z => hR v _ _ (hdd_ex e3) z) r3
  · obtain ⟨q1, p2, xs, q3, q4⟩ := q'
    exact q Dl H' xs (fresh_back e1 hD) nD (hx_trans (hx_of e1) q1) p2 q3 q4⟩
/-! ### _law_arcs -/
def spLArcs : Sp := fun vs H Q _ => ∃ (pa : Addr) (n many : Nat), vs = [.ref pa, .int (many : Int)] ∧ PoolAt H pa n ∧ 2 ≤ n ∧ n ≤ 5000 ∧ 0 < many ∧ ∀ l H2 arcs, H l = none → l ≠ pa → Ex (hd H pa) H2 → PoolAt H2 pa n → ArcsAt H2 l arcs → ArcsOk many arcs → Q (.ref l) H2
theorem paired_ex {F : V → Nat → Prop} {G : Addr → Arc → Prop} : ∀ {xs : List V} {l : List Nat}, Paired F xs l → (∀ v k, F v k → ∃ a p, v = .ref a ∧ G a p) → ∃ (ads : List Addr) (arcs : List Arc), xs = ads.map V.ref ∧ Paired G ads arcs
  | _, _, .nil, _ => ⟨[], [], rfl, .nil⟩
  | _, _, .cons g t, h => by
    obtain ⟨a, p, rfl, hg⟩ := h _ _ g
    obtain ⟨ads, arcs, rfl, ht⟩ := paired_ex t h
    exact ⟨a :: ads, p :: arcs, rfl, .cons hg ht⟩
theorem paired_all {α β : Type} {F : α → β → Prop} {p : β → Prop} : ∀ {l : List α} {m : List β}, Paired F l m → (∀ a b, F a b → p b) → ∀ b ∈ m, p b
  | _, _, .nil, _, b, hb => absurd hb (by simp)
  | _, _, .cons g t, h, b, hb => by
    rcases List.mem_cons.mp hb with e | hb
    · subst e
      exact h _ _ g
    · exact paired_all t h b hb
theorem ok_lArcs (T : Bt mg) (h : Has K mg "_law_arcs" sLArcs) (cLPick : Cl P w K mg base 1 "_law_pick" spLPick) : Cl P w K mg base 2 "_law_arcs" spLArcs := by
  refine cl_of h scLArcs (fun _ _ _ _ _ _ us hl => match us, hl with | [_, _], _ => rfl) (fun vs H Q E h => ?_) (fun f cdv A outer s H vs Q E hr h => ?_)
  · obtain ⟨pa, n, many, rfl, _⟩ := h
    rfl
  obtain ⟨pa, n, many, rfl, hp, h2, h5, hm, q⟩ := h
  refine ⟨_, (pss_cons (ps_set (i := 2) scLArcs.nd rfl (Or.inl rfl) (pe_ix (ix_listK (K := K)) (pe_lst (pa_cons pe_int (pa_cons pe_int (pa_cons pe_int (pa_cons pe_int (pa_cons pe_int (pa_cons pe_int pa_nil))))))) (pe_k cLPick (hr.mono (by decide)) (by rfl) (pa_cons (pv 0) (pa_cons pe_int pa_nil))) (fun _ _ => rfl)))
      (pss_one (ps_ret (pe_lc (own := [("_law_k", 3)]) rfl scLArcs.nd (pi_range1 (by rfl) T.b_range (pa_cons (pv 2) pa_nil)) (blkOk_by (own := [("_law_k", 3)]) (N := nLArcs) (sc := defScope sLArcs) (by decide +kernel)) (fun _ _ _ _ _ => (pg_name (i := 3) scLArcs.nd rfl (Or.inl rfl))) (fun _ _ _ _ _ => pts_nil) (fun _ _ _ _ _ => (pe_tup (pa_cons (pe_k cLPick (hr.mono (by decide)) (by rfl) (pa_cons (pv 0) (pa_cons (pv 1) pa_nil))) (pa_cons (pe_ix (ix_listK (K := K)) (pe_lst (pa_cons pe_int (pa_cons pe_int (pa_cons (pe_un un_neg pe_int) (pa_cons pe_int (pa_cons (pe_un un_neg pe_int) (pa_cons pe_int (pa_cons pe_int (pa_cons pe_int (pa_cons (pe_un un_neg pe_int) (pa_cons pe_int pa_nil))))))))))) (pe_k cLPick (hr.mono (by decide)) (by rfl) (pa_cons (pv 0) (pa_cons pe_int pa_nil))) (fun _ _ => rfl)) pa_nil)))))))), ?_⟩
  refine q_asgP (pa := pa) (n := n) (r := pa) (ep_ixC (cs := [.int 1, .int 2, .int 2, .int 3, .int 2, .int 6]) (el_ints (fun _ => ea_cons ev_c (ea_cons ev_c (ea_cons ev_c (ea_cons ev_c (ea_cons ev_c (ea_cons ev_c ea_nil)))))) (by show 6 ≤ 100000; decide)) (ep_pick rfl (fun _ => ev_c) (by decide) ⟨h2, h5⟩)) hp fun v H1 e1 p1 hv => ?_
  obtain ⟨m, rfl, m1, m6⟩ : ∃ m : Nat, v = .int (m : Int) ∧ 1 ≤ m ∧ m ≤ 6 := by
    simp only [List.mem_cons, List.not_mem_nil, or_false] at hv
    rcases hv with e | e | e | e | e | e
    · exact ⟨1, e, by omega, by omega⟩
    · exact ⟨2, e, by omega, by omega⟩
    · exact ⟨2, e, by omega, by omega⟩
    · exact ⟨3, e, by omega, by omega⟩
    · exact ⟨2, e, by omega, by omega⟩
    · exact ⟨6, e, by omega, by omega⟩
  refine ep_lcR (m := m) (pa := pa) (n := n) (fun v H => ∃ b k c, v = .ref b ∧ H b = some (.tup [.int k, .int c]) ∧ 0 ≤ k ∧ k < many ∧ -4 ≤ c ∧ c ≤ 4) (fun v H H' e ⟨b, k, c, a1, a2, a3⟩ => ⟨b, k, c, a1, e _ _ a2, a3⟩) p1 (ea_cons (ev_var rfl) ea_nil) (by omega) (fun _ => rfl) (fun i H2 r xs e2 p2 hr => ?_) fun l H2 xs hl nl e2 p2 h2' hps => ?_
  · refine EvP.imp (ep_tup hr (epa_cons (ep_pick rfl (fun _ => ev_var rfl) (by omega) ⟨h2, h5⟩) (intIn_mono _ _) (epa_cons (R := fun v _ => v ∈ [V.int 0, .int 1, .int (-1), .int 2, .int (-2), .int 0, .int 3, .int 1, .int (-4), .int 4]) (ep_ixC (el_ints (fun _ => ea_cons ev_c (ea_cons ev_c (ea_cons (ev_un ev_c ru_neg) (ea_cons ev_c (ea_cons (ev_un ev_c ru_neg) (ea_cons ev_c (ea_cons ev_c (ea_cons ev_c (ea_cons (ev_un ev_c ru_neg) (ea_cons ev_c ea_nil)))))))))) (by show 10 ≤ 100000; decide)) (ep_pick rfl (fun _ => ev_c) (by decide) ⟨h2, h5⟩)) (fun _ _ _ _ h => h) epa_nil)) ?_ ?_) fun v H3 hz => ?_
    · rintro vs H H' e ⟨v1, w1, rfl, a1, v2, w2, rfl, a2, rfl⟩
      exact ⟨v1, _, rfl, a1, v2, _, rfl, a2, rfl⟩
    · rintro vs H ⟨v1, w1, rfl, a1, v2, w2, rfl, a2, rfl⟩
      show 2 ≤ 100000
      decide
    · obtain ⟨b, vs, rfl, hb, v1, w1, rfl, ⟨k, rfl, k0, k1⟩, v2, w2, rfl, a2, rfl⟩ := hz
      obtain ⟨c, rfl, c0, c1⟩ : ∃ c : Int, v2 = .int c ∧ -4 ≤ c ∧ c ≤ 4 := by
        simp only [List.mem_cons, List.not_mem_nil, or_false] at a2
        rcases a2 with e | e | e | e | e | e | e | e | e | e
        · exact ⟨0, e, by omega, by omega⟩
        · exact ⟨1, e, by omega, by omega⟩
        · exact ⟨-1, e, by omega, by omega⟩
        · exact ⟨2, e, by omega, by omega⟩
        · exact ⟨-2, e, by omega, by omega⟩
        · exact ⟨0, e, by omega, by omega⟩
        · exact ⟨3, e, by omega, by omega⟩
        · exact ⟨1, e, by omega, by omega⟩
        · exact ⟨-4, e, by omega, by omega⟩
        · exact ⟨4, e, by omega, by omega⟩
      exact ⟨b, k, c, rfl, hb, k0, k1, c0, c1⟩
  · obtain ⟨ads, arcs, rfl, hG⟩ := paired_ex (G := fun a (p : Arc) => H2 a = some (.tup (arcV p)) ∧ p.1 < many ∧ -4 ≤ p.2 ∧ p.2 ≤ 4) hps fun v i ⟨b, k, c, a1, a2, k0, k1, c0, c1⟩ => ⟨b, (k.toNat, c), a1, by
      have z := hd_sub _ _ (hd_sub _ _ a2)
      show H2 b = some (.tup [.int ((k.toNat : Nat) : Int), .int c])
      rw [Int.toNat_of_nonneg k0]
      exact z, by show k.toNat < many; omega, c0, c1⟩
    have hlen : arcs.length = m := by
      have a := paired_len hG
      have b := paired_len hps
      rw [List.length_map, List.length_range] at b
      omega
    refine q l H2 arcs ?_ nl (hx_trans e1 e2) p2 ⟨ads, h2', pm hG fun _ _ z => z.1⟩ ⟨fun z => by rw [z] at hlen; simp at hlen; omega, by omega, paired_all hG fun _ _ z => z.2⟩
    have z := fresh_back e1 hl
    rw [hd_at nl] at z
    exact z
/-! ### _law_flat -/
section
variable {σ : L2.St} {H : Hp} {pa r : Addr} {n : Nat} {te : TE}
theorem ep_amount {i : Nat} (hi : σ[i]? = some (some (.ref pa))) (h2 : 2 ≤ n ∧ n ≤ 5000) : EvP (tCall spLAmount [] L2.E0 (tCons (tVar i) tNil)) σ H pa n r (fun v _ => ∃ a : Amt, v = av a ∧ ∀ i, a = some i → 0 ≤ i ∧ i ≤ 11) := fun H1 e hp Q q =>
  ⟨_, hi, ⟨pa, n, rfl, hp, h2.1, h2.2, fun a H2 ha e2 p2 => q _ H2 e2 p2 ⟨a, rfl, ha⟩⟩⟩
theorem ep_arcs {i : Nat} {tm : TE} {many : Nat} {xs : List V} (hr : hd H pa r = some (.lst xs)) (hi : σ[i]? = some (some (.ref pa))) (hm : ∀ H', Ev tm σ H' (.int (many : Int))) (h0 : 0 < many) (h2 : 2 ≤ n ∧ n ≤ 5000) :
    EvP (tCall spLArcs [] L2.E0 (tCons (tVar i) (tCons tm tNil))) σ H pa n r (fun v H => ∃ l arcs, v = .ref l ∧ ArcsAt H l arcs ∧ ArcsOk many arcs) := fun H1 e hp Q q =>
  ⟨_, hi, hm H1 H1 (Ex.refl _) _ fun H2 e2 => ⟨pa, n, many, rfl, hp.ext e2, h2.1, h2.2, h0, fun l H3 arcs hl nl e3 p3 hA ok => by
    have x3 := hx_trans (hx_of e2) e3
    refine q _ H3 x3 p3 ⟨l, arcs, rfl, ?_, ok⟩
    obtain ⟨ns, q1, _⟩ := p3
    have r1 := e r _ hr
    have r2 := e2 r _ r1
    have nlr : l ≠ r := hd_ne r2 hl
    have r3 := (hd_self (hx_trans e x3)) r _ hr
    exact arcs_hd r3 (arcs_hd q1 hA nl) nlr⟩⟩
theorem q_whenP {D : Ends} {tu tz : TS} {lo hi c : Int} (h : EvP te σ H pa n r (IntIn lo hi)) (hp : PoolAt H pa n) (k : ∀ H1, Ex (hd H pa) H1 → PoolAt H1 pa n → tu { D with nx := tz D } σ H1 ∧ tz D σ H1) : tSeq (tIfS (tTest (tOp rEq te (tC (.int c)))) tu tNext) tz D σ H :=
  h H hd_sub hp _ fun v H1 e p1 ⟨m, ev, _, _⟩ => by
    subst ev
    refine ⟨rfl, _, rfl, ?_⟩
    obtain ⟨k1, k2⟩ := k H1 e p1
    cases decide (V.int m = V.int c) with
    | true => exact k1
    | false => exact k2
end
/-- an if whose two ways meet again -/
theorem q_whenM {σ : L2.St} {H : Hp} {pa r : Addr} {n : Nat} {te : TE} {D : Ends} {tu tz : TS} {lo hi c : Int} {σf : Nat → L2.St} {Pm : Nat → Prop} (h : EvP te σ H pa n r (IntIn lo hi)) (hp : PoolAt H pa n)
    (h1 : ∀ H1, Ex (hd H pa) H1 → PoolAt H1 pa n → ∀ N : L2.St → Hp → Prop, (∀ many H2, Pm many → Ex (hd H pa) H2 → PoolAt H2 pa n → N (σf many) H2) → tu { D with nx := N } σ H1) (h2 : ∃ many, Pm many ∧ σ = σf many)
    (k : ∀ many H2, Pm many → Ex (hd H pa) H2 → PoolAt H2 pa n → tz D (σf many) H2) : tSeq (tIfS (tTest (tOp rEq te (tC (.int c)))) tu tNext) tz D σ H :=
  q_whenP h hp fun H1 e1 p1 => ⟨h1 H1 e1 p1 _ fun many H2 a b c => k many H2 a b c, by
    obtain ⟨many, hm, e⟩ := h2
    rw [e]
    exact k many H1 hm e1 p1⟩
theorem hdd_upd {H : Hp} {pa r : Addr} {o : HO} : hd (hd (upd H r o) pa) r = hd (hd H pa) r := by
  funext a
  unfold hd
  by_cases h1 : a = r
  · rw [if_pos h1, if_pos h1]
  · rw [if_neg h1, if_neg h1]
    by_cases h2 : a = pa
    · rw [if_pos h2, if_pos h2]
    · rw [if_neg h2, if_neg h2, upd_ne h1]
def spLFlat : Sp := fun vs H Q _ => ∃ (pa : Addr) (n : Nat), vs = [.ref pa, .int 6, .bl true] ∧ PoolAt H pa n ∧ 2 ≤ n ∧ n ≤ 5000 ∧ ∀ r S H2, H r = none → r ≠ pa → Ex (hd H pa) H2 → PoolAt H2 pa n → SheetAt H2 r S → Wf S → Q (.ref r) H2
theorem ok_lFlat (T : Bt mg) (h : Has K mg "_law_flat" sLFlat) (cLPick : Cl P w K mg base 1 "_law_pick" spLPick) (cLAmount : Cl P w K mg base 2 "_law_amount" spLAmount) (cLArcs : Cl P w K mg base 2 "_law_arcs" spLArcs) : Cl P w K mg base 3 "_law_flat" spLFlat := by
  refine cl_of h scLFlat (fun _ _ _ _ _ _ us hl => match us, hl with | [_, _, _], _ => rfl) (fun vs H Q E h => ?_) (fun f cdv A outer s H vs Q E hr h => ?_)
  · obtain ⟨pa, n, rfl, _⟩ := h
    rfl
  obtain ⟨pa, n, rfl, hp, h2, h5, q⟩ := h
  refine ⟨_, (pss_cons (ps_set (i := 3) scLFlat.nd rfl (Or.inl rfl) (pe_op op_add pe_int (pe_k cLPick (hr.mono (by decide)) (by rfl) (pa_cons (pv 0) (pa_cons (pv 1) pa_nil)))))
      (pss_cons (ps_if (pt_cmpR op_eq (pe_k cLPick (hr.mono (by decide)) (by rfl) (pa_cons (pv 0) (pa_cons pe_int pa_nil))) pe_int (nomark _)) (pss_one (ps_set (i := 3) scLFlat.nd rfl (Or.inl rfl) (pe_op op_add (pv 1) pe_int))) pss_nil)
      (pss_cons (ps_set (i := 4) scLFlat.nd rfl (Or.inl rfl) (pe_lst pa_nil))
      (pss_cons (ps_for PassesOwn.never rfl (pi_range1 (by rfl) T.b_range (pa_cons (pv 3) pa_nil)) (pg_name (i := 5) scLFlat.nd rfl (Or.inl rfl)) (pss_cons (ps_set (i := 6) scLFlat.nd rfl (Or.inl rfl) (pe_ix (ix_listK (K := K)) (pe_lst (pa_cons pe_str (pa_cons pe_str (pa_cons pe_str (pa_cons pe_str (pa_cons pe_str (pa_cons pe_str (pa_cons pe_str pa_nil)))))))) (pe_k cLPick (hr.mono (by decide)) (by rfl) (pa_cons (pv 0) (pa_cons pe_int pa_nil))) (fun _ _ => rfl)))
      (pss_one (ps_if (pt_cmpR op_eq (pv 6) pe_str (nomark _)) (pss_one (ps_expr (pe_bm PySem.F.plainAttrs_list PySem.F.slot_list_append PySem.F.type_list_append mt_append (pv 4) (pa_cons (pe_tup (pa_cons pe_str (pa_cons (pe_k cLAmount (hr.mono (by decide)) (by rfl) (pa_cons (pv 0) pa_nil)) pa_nil))) pa_nil)))) (pss_one (ps_if (PW.pt (pw_and (pt_cmpR op_eq (pv 6) pe_str (nomark _)) (pw_and1 (pt_val (pv 2))))) (pss_one (ps_expr (pe_bm PySem.F.plainAttrs_list PySem.F.slot_list_append PySem.F.type_list_append mt_append (pv 4) (pa_cons (pe_tup (pa_cons pe_str (pa_cons (pe_k cLPick (hr.mono (by decide)) (by rfl) (pa_cons (pv 0) (pa_cons (pv 3) pa_nil))) (pa_cons (pe_op op_add pe_int (pe_k cLPick (hr.mono (by decide)) (by rfl) (pa_cons (pv 0) (pa_cons pe_int pa_nil)))) (pa_cons (pe_k cLPick (hr.mono (by decide)) (by rfl) (pa_cons (pv 0) (pa_cons (pv 3) pa_nil))) pa_nil))))) pa_nil)))) (pss_one (ps_if (pt_cmpR op_eq (pv 6) pe_str (nomark _)) (pss_one (ps_expr (pe_bm PySem.F.plainAttrs_list PySem.F.slot_list_append PySem.F.type_list_append mt_append (pv 4) (pa_cons (pe_tup (pa_cons pe_str (pa_cons (pe_lst (pa_cons (pe_tup (pa_cons (pe_k cLPick (hr.mono (by decide)) (by rfl) (pa_cons (pv 0) (pa_cons (pv 3) pa_nil))) (pa_cons pe_int pa_nil))) (pa_cons (pe_tup (pa_cons (pe_k cLPick (hr.mono (by decide)) (by rfl) (pa_cons (pv 0) (pa_cons (pv 3) pa_nil))) (pa_cons pe_int pa_nil))) pa_nil))) pa_nil))) pa_nil)))) (pss_one (ps_expr (pe_bm PySem.F.plainAttrs_list PySem.F.slot_list_append PySem.F.type_list_append mt_append (pv 4) (pa_cons (pe_tup (pa_cons (pv 6) (pa_cons (pe_k cLArcs (hr.mono (by decide)) (by rfl) (pa_cons (pv 0) (pa_cons (pv 3) pa_nil))) pa_nil))) pa_nil))))))))))))
      (pss_one (ps_ret (pv 4))))))), ?_⟩
  refine q_asgP (pa := pa) (n := n) (r := pa) (ep_add1 (ep_pick rfl (fun _ => ev_var rfl) (by omega) ⟨h2, h5⟩)) hp fun v H1 e1 p1 ⟨m0, ev, m1, m7⟩ => ?_
  subst ev
  obtain ⟨mm, rfl⟩ : ∃ mm : Nat, m0 = (mm : Int) := ⟨m0.toNat, by omega⟩
  refine q_whenM (pa := pa) (n := n) (r := pa) (σf := fun many => [some (.ref pa), some (.int 6), some (.bl true), some (.int (many : Int)), none, none, none]) (Pm := fun many => 1 ≤ many ∧ many ≤ 13) (ep_pick rfl (fun _ => ev_c) (by omega) ⟨h2, h5⟩) p1 (fun H2 e2 p2 N hN => s_asg (ev_add (ev_var rfl) ev_c) fun H3 e3 => hN 13 H3 ⟨by omega, by omega⟩ (e2.trans e3) (p2.ext e3)) ⟨mm, ⟨by omega, by omega⟩, rfl⟩ fun many H2 ⟨hm1, hm13⟩ e2 p2 => ?_
  have e2 := hx_trans e1 e2
  refine q_asgL (el_lst ea_nil (Nat.zero_le _)) fun rl H3 hrl e3 h3 => ?_
  have nrl : rl ≠ pa := p2.ne hrl
  have hrl0 : hd H pa rl = none := fresh_back e2 hrl
  have hrl00 : H rl = none := by
    rw [hd_at nrl] at hrl0
    exact hrl0
  refine q_forR1 (n := (many : Int)) (ea_cons (ev_var rfl) ea_nil) (by omega) (fun k σ' H' => Ex (hd H pa) H' ∧ PoolAt H' pa n ∧ ∃ (ads : List Addr) (S : List Fm), H' rl = some (.lst (ads.map V.ref)) ∧ Paired (FmAt (hd (hd H' pa) rl)) ads S ∧ S.length = k ∧ (∀ f ∈ S, FmOk many f) ∧ ∃ y5 y6, σ' = [some (.ref pa), some (.int 6), some (.bl true), some (.int (many : Int)), some (.ref rl), y5, y6])
    (fun H4 e4 => ⟨e2.trans (e3.trans e4), p2.ext (e3.trans e4), [], [], e4 _ _ h3, .nil, rfl, (fun f hf => absurd hf (by simp)), _, _, rfl⟩) (fun k σ' H' hk Pk => ?_) fun σ' H' Pk => ?_
  · obtain ⟨ek, pk, ads, S, a1, a2, hS, hok, y5, y6, rfl⟩ := Pk
    have pick7 : EvP (tCall spLPick [] L2.E0 (tCons (tVar 0) (tCons (tC (.int 7)) tNil))) [some (.ref pa), some (.int 6), some (.bl true), some (.int (many : Int)), some (.ref rl), some (.int (k : Int)), y6] H' pa n rl (IntIn 0 7) := ep_pick rfl (fun _ => ev_c) (by omega) ⟨h2, h5⟩
    refine q_asgP (ep_ixC (cs := [.str (Str.ofString "least"), .str (Str.ofString "greatest"), .str (Str.ofString "least"), .str (Str.ofString "greatest"), .str (Str.ofString "amount"), .str (Str.ofString "when"), .str (Str.ofString "greatest")]) (el_ints (fun _ => ea_cons ev_c (ea_cons ev_c (ea_cons ev_c (ea_cons ev_c (ea_cons ev_c (ea_cons ev_c (ea_cons ev_c ea_nil))))))) (by show 7 ≤ 100000; decide)) pick7) pk fun v H4 e4 p4 hv => ?_
    have ek4 := hx_trans ek e4
    have a14 : hd H4 pa rl = some (.lst (ads.map V.ref)) := hd_self e4 rl _ (by rw [hd_at nrl]; exact a1)
    have alen : (ads.map V.ref).length < 100000 := by
      rw [List.length_map, paired_len a2]
      omega
    -- behind the append of a formula
    have app : ∀ H4', Ex H4 H4' → ∀ v H5, Ex (hd H4' pa) H5 → PoolAt H5 pa n → (∃ b f, v = .ref b ∧ FmAt (hd (hd H5 pa) rl) b f ∧ FmOk many f) → ∀ y6, (Ex (hd H pa) (upd H5 rl (.lst (ads.map V.ref ++ [v]))) ∧ PoolAt (upd H5 rl (.lst (ads.map V.ref ++ [v]))) pa n ∧ ∃ (ads' : List Addr) (S' : List Fm), (upd H5 rl (.lst (ads.map V.ref ++ [v]))) rl = some (.lst (ads'.map V.ref)) ∧ Paired (FmAt (hd (hd (upd H5 rl (.lst (ads.map V.ref ++ [v]))) pa) rl)) ads' S' ∧ S'.length = k + 1 ∧ (∀ f ∈ S', FmOk many f) ∧ ∃ z5 z6, [some (V.ref pa), some (.int 6), some (.bl true), some (.int (many : Int)), some (.ref rl), some (.int (k : Int)), y6] = [some (V.ref pa), some (.int 6), some (.bl true), some (.int (many : Int)), some (.ref rl), z5, z6]) := by
      rintro H4' e44 v H5 e5 p5 ⟨b, f, rfl, hb, hf⟩ y6
      have x5 := hx_trans e4 (hx_trans (hx_of e44) e5)
      refine ⟨Ex.mut (hx_trans ek x5) hrl0, pool_upd p5 (Ne.symm nrl), ads ++ [b], S ++ [f], by rw [upd_same, List.map_append]; rfl, ?_, by rw [List.length_append, hS]; rfl, fun g hg => ?_, _, _, rfl⟩
      · rw [hdd_upd]
        exact paired_snoc (pm a2 fun _ _ z => z.ex (hdd_ex x5)) hb
      · rcases List.mem_append.mp hg with h | h
        · exact hok g h
        · have e : g = f := by simpa using h
          rw [e]
          exact hf
    -- the amount, the condition, the rest
    have amtP : ∀ (y6 : Option V) (D : Ends) H5, Ex H4 H5 → (∀ v H6, Ex (hd H5 pa) H6 → PoolAt H6 pa n → (∃ b f, v = .ref b ∧ FmAt (hd (hd H6 pa) rl) b f ∧ FmOk many f) → D.nx [some (.ref pa), some (.int 6), some (.bl true), some (.int (many : Int)), some (.ref rl), some (.int (k : Int)), y6] (upd H6 rl (.lst (ads.map V.ref ++ [v])))) →
        tDrop (tBM K "list" rAppend (tVar 4) (tCons (tTup (tCons (tC (.str (Str.ofString "amount"))) (tCons (tCall spLAmount [] L2.E0 (tCons (tVar 0) tNil)) tNil))) tNil)) D [some (.ref pa), some (.int 6), some (.bl true), some (.int (many : Int)), some (.ref rl), some (.int (k : Int)), y6] H5 := fun y6 D H5 e45 kk => by
      have r5 := hd_ex (r := pa) e45 rl _ a14
      refine s_appP (pa := pa) (n := n) (R := fun v H => ∃ b f, v = .ref b ∧ FmAt H b f ∧ FmOk many f) r5 (ev_var rfl) (EvP.imp (ep_tup r5 (epa_cons (ep_pure fun _ => ev_c) mono_eq (epa_cons (ep_amount rfl ⟨h2, h5⟩) (fun _ _ _ _ h => h) epa_nil)) ?_ ?_) fun v H6 hz => ?_) (p4.ext e45) alen fun v H6 e6 p6 hz => kk v H6 e6 p6 hz
      · rintro vs H H' e ⟨v1, w1, rfl, a1, v2, w2, rfl, a2, rfl⟩
        exact ⟨v1, _, rfl, a1, v2, _, rfl, a2, rfl⟩
      · rintro vs H ⟨v1, w1, rfl, a1, v2, w2, rfl, a2, rfl⟩
        show 2 ≤ 100000
        decide
      · obtain ⟨b, vs, rfl, hb, v1, w1, rfl, rfl, v2, w2, rfl, ⟨a, rfl, ha⟩, rfl⟩ := hz
        exact ⟨b, .amt a, rfl, hb, ha⟩
    have mt2 : many ≤ 13 ∧ 0 < (many : Int) := ⟨hm13, by omega⟩
    have whenP : ∀ (y6 : Option V) (D : Ends) H5, Ex H4 H5 → (∀ v H6, Ex (hd H5 pa) H6 → PoolAt H6 pa n → (∃ b f, v = .ref b ∧ FmAt (hd (hd H6 pa) rl) b f ∧ FmOk many f) → D.nx [some (.ref pa), some (.int 6), some (.bl true), some (.int (many : Int)), some (.ref rl), some (.int (k : Int)), y6] (upd H6 rl (.lst (ads.map V.ref ++ [v])))) →
        tDrop (tBM K "list" rAppend (tVar 4) (tCons (tTup (tCons (tC (.str (Str.ofString "when"))) (tCons (tCall spLPick [] L2.E0 (tCons (tVar 0) (tCons (tVar 3) tNil))) (tCons (tOp (rI0 fun i j => .int (i + j)) (tC (.int 1)) (tCall spLPick [] L2.E0 (tCons (tVar 0) (tCons (tC (.int 9)) tNil)))) (tCons (tCall spLPick [] L2.E0 (tCons (tVar 0) (tCons (tVar 3) tNil))) tNil))))) tNil)) D [some (.ref pa), some (.int 6), some (.bl true), some (.int (many : Int)), some (.ref rl), some (.int (k : Int)), y6] H5 := fun y6 D H5 e45 kk => by
      have r5 := hd_ex (r := pa) e45 rl _ a14
      refine s_appP (pa := pa) (n := n) (R := fun v H => ∃ b f, v = .ref b ∧ FmAt H b f ∧ FmOk many f) r5 (ev_var rfl) (EvP.imp (ep_tup r5 (epa_cons (ep_pure fun _ => ev_c) mono_eq (epa_cons (ep_pick (many := (many : Int)) rfl (fun _ => ev_var rfl) mt2.2 ⟨h2, h5⟩) (intIn_mono _ _) (epa_cons (ep_add1 (ep_pick rfl (fun _ => ev_c) (by omega) ⟨h2, h5⟩)) (intIn_mono _ _) (epa_cons (ep_pick (many := (many : Int)) rfl (fun _ => ev_var rfl) mt2.2 ⟨h2, h5⟩) (intIn_mono _ _) epa_nil)))) ?_ ?_) fun v H6 hz => ?_) (p4.ext e45) alen fun v H6 e6 p6 hz => kk v H6 e6 p6 hz
      · rintro vs H H' e ⟨v1, w1, rfl, a1, v2, w2, rfl, a2, v3, w3, rfl, a3, v4, w4, rfl, a4, rfl⟩
        exact ⟨v1, _, rfl, a1, v2, _, rfl, a2, v3, _, rfl, a3, v4, _, rfl, a4, rfl⟩
      · rintro vs H ⟨v1, w1, rfl, a1, v2, w2, rfl, a2, v3, w3, rfl, a3, v4, w4, rfl, a4, rfl⟩
        show 4 ≤ 100000
        decide
      · obtain ⟨b, vs, rfl, hb, v1, w1, rfl, rfl, v2, w2, rfl, ⟨j, rfl, j0, j1⟩, v3, w3, rfl, ⟨c, rfl, c0, c1⟩, v4, w4, rfl, ⟨d, rfl, d0, d1⟩, rfl⟩ := hz
        refine ⟨b, .when j.toNat c d.toNat, rfl, ?_, by omega, by omega, by omega, by omega⟩
        show _ = some (HO.tup [.str (Str.ofString "when"), .int ((j.toNat : Nat) : Int), .int c, .int ((d.toNat : Nat) : Int)])
        rw [Int.toNat_of_nonneg j0, Int.toNat_of_nonneg d0]
        exact hb
    have arcP : ∀ (z : String) (g : Bool), (z = if g = true then "greatest" else "least") → ∀ (D : Ends) H5, Ex H4 H5 → (∀ v H6, Ex (hd H5 pa) H6 → PoolAt H6 pa n → (∃ b f, v = .ref b ∧ FmAt (hd (hd H6 pa) rl) b f ∧ FmOk many f) → D.nx [some (.ref pa), some (.int 6), some (.bl true), some (.int (many : Int)), some (.ref rl), some (.int (k : Int)), some (.str (Str.ofString z))] (upd H6 rl (.lst (ads.map V.ref ++ [v])))) →
        tDrop (tBM K "list" rAppend (tVar 4) (tCons (tTup (tCons (tVar 6) (tCons (tCall spLArcs [] L2.E0 (tCons (tVar 0) (tCons (tVar 3) tNil))) tNil))) tNil)) D [some (.ref pa), some (.int 6), some (.bl true), some (.int (many : Int)), some (.ref rl), some (.int (k : Int)), some (.str (Str.ofString z))] H5 := fun z g hzg D H5 e45 kk => by
      have r5 := hd_ex (r := pa) e45 rl _ a14
      refine s_appP (pa := pa) (n := n) (R := fun v H => ∃ b f, v = .ref b ∧ FmAt H b f ∧ FmOk many f) r5 (ev_var rfl) (EvP.imp (ep_tup r5 (epa_cons (ep_pure fun _ => ev_var rfl) mono_eq (epa_cons (ep_arcs r5 rfl (fun _ => ev_var rfl) (by omega) ⟨h2, h5⟩) (fun v H H' e ⟨l, arcs, b1, b2, b3⟩ => ⟨l, arcs, b1, b2.ex e, b3⟩) epa_nil)) ?_ ?_) fun v H6 hz => ?_) (p4.ext e45) alen fun v H6 e6 p6 hz => kk v H6 e6 p6 hz
      · rintro vs H H' e ⟨v1, w1, rfl, a1, v2, w2, rfl, ⟨l, arcs, b1, b2, b3⟩, rfl⟩
        exact ⟨v1, _, rfl, a1, v2, _, rfl, ⟨l, arcs, b1, b2.ex e, b3⟩, rfl⟩
      · rintro vs H ⟨v1, w1, rfl, a1, v2, w2, rfl, a2, rfl⟩
        show 2 ≤ 100000
        decide
      · obtain ⟨b, vs, rfl, hb, v1, w1, rfl, rfl, v2, w2, rfl, ⟨l, arcs, rfl, b2, b3⟩, rfl⟩ := hz
        cases g with
        | true =>
          subst hzg
          exact ⟨b, .great arcs, rfl, ⟨l, hb, b2⟩, b3⟩
        | false =>
          subst hzg
          exact ⟨b, .least arcs, rfl, ⟨l, hb, b2⟩, b3⟩
    have hv : v = .str (Str.ofString "least") ∨ v = .str (Str.ofString "greatest") ∨ v = .str (Str.ofString "amount") ∨ v = .str (Str.ofString "when") := by
      simp only [List.mem_cons, List.not_mem_nil, or_false] at hv
      rcases hv with e | e | e | e | e | e | e
      · exact .inl e
      · exact .inr (.inl e)
      · exact .inl e
      · exact .inr (.inl e)
      · exact .inr (.inr (.inl e))
      · exact .inr (.inr (.inr e))
      · exact .inr (.inl e)
    rcases hv with rfl | rfl | rfl | rfl
    · refine s_if (b := false) (et_test (ev_wA (f := .least []) (ev_var rfl))) (fun hb => by cases hb) fun _ H5 e5 => ?_
      refine s_if (b := false) (et_is (et_and (et_test (ev_wW (f := .least []) (ev_var rfl))) (b := false) fun hb => by cases hb) rfl) (fun hb => by cases hb) fun _ H6 e6 => ?_
      refine s_if (b := false) (et_test (ev_wW (f := .least []) (ev_var rfl))) (fun hb => by cases hb) fun _ H7 e7 => ?_
      exact arcP "least" false rfl _ H7 (e5.trans (e6.trans e7)) fun v H8 e8 p8 hz => app H7 (e5.trans (e6.trans e7)) v H8 e8 p8 hz _
    · refine s_if (b := false) (et_test (ev_wA (f := .great []) (ev_var rfl))) (fun hb => by cases hb) fun _ H5 e5 => ?_
      refine s_if (b := false) (et_is (et_and (et_test (ev_wW (f := .great []) (ev_var rfl))) (b := false) fun hb => by cases hb) rfl) (fun hb => by cases hb) fun _ H6 e6 => ?_
      refine s_if (b := false) (et_test (ev_wW (f := .great []) (ev_var rfl))) (fun hb => by cases hb) fun _ H7 e7 => ?_
      exact arcP "greatest" true rfl _ H7 (e5.trans (e6.trans e7)) fun v H8 e8 p8 hz => app H7 (e5.trans (e6.trans e7)) v H8 e8 p8 hz _
    · refine s_if (b := true) (et_test (ev_wA (f := .amt none) (ev_var rfl))) (fun _ H5 e5 => ?_) fun hb => by cases hb
      exact amtP _ _ H5 e5 fun v H8 e8 p8 hz => app H5 e5 v H8 e8 p8 hz _
    · refine s_if (b := false) (et_test (ev_wA (f := .when 0 0 0) (ev_var rfl))) (fun hb => by cases hb) fun _ H5 e5 => ?_
      refine s_if (b := true) (et_is (et_and (et_test (ev_wW (f := .when 0 0 0) (ev_var rfl))) (b := true) fun _ => et_B (ev_var rfl)) rfl) (fun _ H6 e6 => ?_) fun hb => by cases hb
      exact whenP _ _ H6 (e5.trans e6) fun v H8 e8 p8 hz => app H6 (e5.trans e6) v H8 e8 p8 hz _
  · obtain ⟨ek, pk, ads, S, a1, a2, hS, hok, y5, y6, rfl⟩ := Pk
    rw [Int.toNat_natCast] at hS
    refine s_ret (ev_var rfl) fun H4 e4 => q rl S H4 hrl00 nrl (ek.trans e4) (pk.ext e4) ⟨ads, e4 _ _ a1, pm a2 fun _ _ z => z.ex ((hd_sub.trans hd_sub).trans e4)⟩ ⟨by omega, by omega, fun i f hf => ?_⟩
    rw [hS]
    exact hok f (List.mem_of_getElem? hf)
end Cs
set_option Elab.async false
set_option linter.all false
set_option maxRecDepth 100000
set_option maxHeartbeats 4000000
/-! LD: the law's values, conditions, opened sheet -/
namespace Cs
open PySem PySem.Spec PyProof.Rows L2 Evl LamX
variable {P : Program} {w : World} {K : PySem.W.Frag} {mg : Str → Option Value} {base : Heap}
theorem ok_lAtMost (h : Has K mg "_law_at_most" sLAtMost) : Cl P w K mg base 1 "_law_at_most" spAtMost := by
  refine cl_of h scLAtMost (fun _ _ _ _ _ _ us hl => match us, hl with | [_, _], _ => rfl) (fun vs H Q E h => ?_) (fun f cdv A outer s H vs Q E hr h => ?_)
  · obtain ⟨a, b, rfl, _⟩ := h
    rfl
  obtain ⟨a, b, rfl, q⟩ := h
  refine ⟨_, (pss_one (ps_ret (pe_or (pe_cmpR op_isN (pv 1) pe_non (nomark _)) (pe_one (pe_and (pe_cmpR op_notN (pv 0) pe_non (nomark _)) (pe_one (pe_cmpR op_le (pv 0) (pv 1) (nomark _)))))))), ?_⟩
  refine s_ret (v := .bl (b.isNone || (a.isSome && decide (a.getD 0 ≤ b.getD 0)))) (ev_orV (ev_isN (ev_var rfl)) fun hb => ev_andV (ev_notN (ev_var rfl)) fun ha => ?_) fun H2 e2 => ?_
  · cases a with
    | none => cases ha
    | some i =>
      cases b with
      | none => cases hb
      | some j => exact ev_le (ev_var rfl) (ev_var rfl)
  · have e : (b.isNone || (a.isSome && decide (a.getD 0 ≤ b.getD 0))) = leA a b := by cases a <;> cases b <;> rfl
    rw [e]
    exact q H2 e2
theorem ok_lShifted (T : Bt mg) (h : Has K mg "_law_shifted" sLShifted) : Cl P w K mg base 1 "_law_shifted" spShifted := by
  refine cl_of h scLShifted (fun _ _ _ _ _ _ us hl => match us, hl with | [_, _], _ => rfl) (fun vs H Q E h => ?_) (fun f cdv A outer s H vs Q E hr h => ?_)
  · obtain ⟨a, c, rfl, _⟩ := h
    rfl
  obtain ⟨a, c, rfl, q⟩ := h
  refine ⟨_, (pss_cons (ps_if (pt_cmpR op_isN (pv 0) pe_non (nomark _)) (pss_one (ps_ret pe_non)) pss_nil)
      (pss_one (ps_ret (pe_callB (call_max2 rfl) (by rfl) T.b_max (by decide +kernel) (pa_cons pe_int (pa_cons (pe_op op_add (pv 0) (pv 1)) pa_nil)))))), ?_⟩
  refine q_when (et_test (ev_isN (ev_var rfl))) (fun hb H1 e1 => s_ret ev_c fun H2 e2 => ?_) fun hb H1 e1 => ?_
  · cases a with
    | none => exact q H2 (e1.trans e2)
    | some j => cases hb
  · cases a with
    | none => cases hb
    | some j => exact s_ret (ev_mx ev_c (ev_add (ev_var rfl) (ev_var rfl))) fun H2 e2 => q H2 (e1.trans e2)
/-! ### _law_one_of -/
def spLOneOf : Sp := fun vs H Q _ => ∃ (p : Addr) (l : List Amt) (g : Bool), vs = [.ref p, .str (Str.ofString (if g = true then "greatest" else "least"))] ∧ H p = some (.lst (l.map av)) ∧ l ≠ [] ∧ RetV (av (if g = true then greatestOf l else leastOf l)) H Q
theorem sv_lOneOf {p : Addr} {l : List Amt} {g : Bool} {H : Hp} (h : H p = some (.lst (l.map av))) (hn : l ≠ []) : SpV spLOneOf [.ref p, .str (Str.ofString (if g = true then "greatest" else "least"))] H (av (if g = true then greatestOf l else leastOf l)) := fun H1 e Q q _ => ⟨p, l, g, rfl, e p _ h, hn, q⟩
theorem ok_lOneOf (h : Has K mg "_law_one_of" sLOneOf) (cLAtMost : Cl P w K mg base 1 "_law_at_most" spAtMost) : Cl P w K mg base 2 "_law_one_of" spLOneOf := by
  refine cl_of h scLOneOf (fun _ _ _ _ _ _ us hl => match us, hl with | [_, _], _ => rfl) (fun vs H Q E h => ?_) (fun f cdv A outer s H vs Q E hr h => ?_)
  · obtain ⟨p, l, g, rfl, _⟩ := h
    rfl
  obtain ⟨p, l, g, rfl, hp, hn, q⟩ := h
  refine ⟨_, (pss_cons (ps_set (i := 2) scLOneOf.nd rfl (Or.inl rfl) (pe_ix (ix_listK (K := K)) (pv 0) pe_int (fun _ _ => rfl)))
      (pss_cons (ps_for PassesOwn.never rfl (pi_list (pv 0)) (pg_name (i := 3) scLOneOf.nd rfl (Or.inl rfl)) (pss_one (ps_if (PW.pt (pw_or (PW.pt (pw_and (pt_cmpR op_eq (pv 1) pe_str (nomark _)) (pw_and1 (pt_val (pe_k cLAtMost (hr.mono (by decide)) (by rfl) (pa_cons (pv 3) (pa_cons (pv 2) pa_nil))))))) (pw_or1 (PW.pt (pw_and (pt_cmpR op_eq (pv 1) pe_str (nomark _)) (pw_and1 (pt_val (pe_k cLAtMost (hr.mono (by decide)) (by rfl) (pa_cons (pv 2) (pa_cons (pv 3) pa_nil)))))))))) (pss_one (ps_set (i := 2) scLOneOf.nd rfl (Or.inl rfl) (pv 3))) pss_nil)))
      (pss_one (ps_ret (pv 2))))), ?_⟩
  cases g with
  | false =>
    refine q_asg (ev_xL (ev_var rfl) ev_c hp (head_av hn)) fun H1 e1 => ?_
    refine q_forLn (ev_var rfl) (sq_of (e1 p _ hp)) (fun n σ' H' => Ex H H' ∧ ∃ y, σ' = [some (.ref p), some (.str (Str.ofString "least")), some (av ((l.take n).foldl (fun f o => if leA o f = true then o else f) (l.headD none))), y]) (fun H2 e2 => ⟨e1.trans e2, _, rfl⟩) (fun n σ' H' _ ⟨e, _⟩ => sq_of (e p _ hp)) (fun n x σ' H' hx => ?_) fun σ' H' => ?_
    · rintro ⟨e, y, rfl⟩
      obtain ⟨o, ho, rfl⟩ := getMap hx
      generalize hF : (l.take n).foldl (fun f o => if leA o f = true then o else f) (l.headD none) = F
      have el : Ev (tOp rEq (tVar 1) (tC (.str (Str.ofString "least")))) [some (.ref p), some (.str (Str.ofString "least")), some (av F), some (av o)] H' (.bl true) := ev_wL (f := .least []) (ev_var rfl)
      have eg : Ev (tOp rEq (tVar 1) (tC (.str (Str.ofString "greatest")))) [some (.ref p), some (.str (Str.ofString "least")), some (av F), some (av o)] H' (.bl false) := ev_wG (f := .least []) (ev_var rfl)
      refine s_when (b := leA o F) (et_is (et_or (et_and (et_test el) fun _ => et_B (ev_call (ea_cons (ev_var rfl) (ea_cons (ev_var rfl) ea_nil)) sv_atMost)) fun _ => et_and (b := false) (et_test eg) fun hb => by cases hb) (by simp)) (fun hb H2 e2 => s_asg (ev_var rfl) fun H3 e3 => ⟨(e.trans e2).trans e3, some (av o), ?_⟩) fun hb H2 e2 => ⟨e.trans e2, some (av o), ?_⟩
      · rw [foldl_take ho, hF, if_pos hb]
        rfl
      · rw [foldl_take ho, hF, if_neg (by rw [hb]; exact Bool.false_ne_true)]
        rfl
    · rintro ⟨e, y, rfl⟩
      refine s_ret (ev_var rfl) fun H2 e2 => ?_
      rw [List.length_map, List.take_of_length_le (Nat.le_refl _)]
      exact q H2 (e.trans e2)
  | true =>
    refine q_asg (ev_xL (ev_var rfl) ev_c hp (head_av hn)) fun H1 e1 => ?_
    refine q_forLn (ev_var rfl) (sq_of (e1 p _ hp)) (fun n σ' H' => Ex H H' ∧ ∃ y, σ' = [some (.ref p), some (.str (Str.ofString "greatest")), some (av ((l.take n).foldl (fun f o => if leA f o = true then o else f) (l.headD none))), y]) (fun H2 e2 => ⟨e1.trans e2, _, rfl⟩) (fun n σ' H' _ ⟨e, _⟩ => sq_of (e p _ hp)) (fun n x σ' H' hx => ?_) fun σ' H' => ?_
    · rintro ⟨e, y, rfl⟩
      obtain ⟨o, ho, rfl⟩ := getMap hx
      generalize hF : (l.take n).foldl (fun f o => if leA f o = true then o else f) (l.headD none) = F
      have el : Ev (tOp rEq (tVar 1) (tC (.str (Str.ofString "least")))) [some (.ref p), some (.str (Str.ofString "greatest")), some (av F), some (av o)] H' (.bl false) := ev_wL (f := .great []) (ev_var rfl)
      have eg : ∀ H1, Ev (tOp rEq (tVar 1) (tC (.str (Str.ofString "greatest")))) [some (.ref p), some (.str (Str.ofString "greatest")), some (av F), some (av o)] H1 (.bl true) := fun H1 => ev_wG (f := .great []) (ev_var rfl)
      refine s_when (b := leA F o) (et_is (et_or (et_and (b := false) (et_test el) fun hb => by cases hb) fun _ => et_and (et_test (eg _)) fun _ => et_B (ev_call (ea_cons (ev_var rfl) (ea_cons (ev_var rfl) ea_nil)) sv_atMost)) (by simp)) (fun hb H2 e2 => s_asg (ev_var rfl) fun H3 e3 => ⟨(e.trans e2).trans e3, some (av o), ?_⟩) fun hb H2 e2 => ⟨e.trans e2, some (av o), ?_⟩
      · rw [foldl_take ho, hF, if_pos hb]
        rfl
      · rw [foldl_take ho, hF, if_neg (by rw [hb]; exact Bool.false_ne_true)]
        rfl
    · rintro ⟨e, y, rfl⟩
      refine s_ret (ev_var rfl) fun H2 e2 => ?_
      rw [List.length_map, List.take_of_length_le (Nat.le_refl _)]
      exact q H2 (e.trans e2)
/-! ### _law_value, _law_values -/
theorem ev_callL2 {σ : L2.St} {H : Hp} {te tb : TE} {sp : Sp} {xs : List V} {y z : V} (h : EvL te σ H xs) (h2 : ∀ H1, Ex H H1 → Ev tb σ H1 y) (hs : ∀ p H1, Ex H H1 → H1 p = some (.lst xs) → SpV sp [.ref p, y] H1 z) : Ev (tCall sp [] L2.E0 (tCons te (tCons tb tNil))) σ H z := fun H1 e Q q =>
  h H1 e _ fun p H2 hp e2 hp2 => h2 H2 (e.trans e2) H2 (Ex.refl _) _ fun H3 e3 => hs p H3 (e.trans (e2.trans e3)) (e3 _ _ hp2) H3 (Ex.refl _) Q (fun H4 e4 => q H4 (e2.trans (e3.trans e4))) L2.E0
theorem ok_lValue (T : Bt mg) (h : Has K mg "_law_value" sLValue) (cLAtMost : Cl P w K mg base 1 "_law_at_most" spAtMost) (cLOneOf : Cl P w K mg base 2 "_law_one_of" spLOneOf) (cLShifted : Cl P w K mg base 1 "_law_shifted" spShifted) : Cl P w K mg base 3 "_law_value" spFlatValue := by
  refine cl_of h scLValue (fun _ _ _ _ _ _ us hl => match us, hl with | [_, _], _ => rfl) (fun vs H Q E h => ?_) (fun f cdv A outer s H vs Q E hr h => ?_)
  · obtain ⟨a, p, f, x, rfl, _⟩ := h
    rfl
  obtain ⟨a, p, f, x, rfl, hf, hx, ok, q⟩ := h
  refine ⟨_, (pss_cons (ps_if (pt_cmpR op_eq (pe_ix (ix_tupK (K := K)) (pv 0) pe_int (fun _ _ => rfl)) pe_str (nomark _)) (pss_one (ps_ret (pe_ix (ix_tupK (K := K)) (pv 0) pe_int (fun _ _ => rfl)))) pss_nil)
      (pss_cons (ps_if (pt_cmpR op_eq (pe_ix (ix_tupK (K := K)) (pv 0) pe_int (fun _ _ => rfl)) pe_str (nomark _)) (pss_cons (ps_if (pt_val (pe_k cLAtMost (hr.mono (by decide)) (by rfl) (pa_cons (pe_ix (ix_tupK (K := K)) (pv 0) pe_int (fun _ _ => rfl)) (pa_cons (pe_ix (ix_listK (K := K)) (pv 1) (pe_ix (ix_tupK (K := K)) (pv 0) pe_int (fun _ _ => rfl)) (fun _ _ => rfl)) pa_nil)))) (pss_one (ps_ret (pe_ix (ix_listK (K := K)) (pv 1) (pe_ix (ix_tupK (K := K)) (pv 0) pe_int (fun _ _ => rfl)) (fun _ _ => rfl)))) pss_nil)
      (pss_one (ps_ret pe_int))) pss_nil)
      (pss_one (ps_ret (pe_k cLOneOf (hr.mono (by decide)) (by rfl) (pa_cons (pe_lc (own := [("_law_j", 2), ("_law_c", 3)]) rfl scLValue.nd (pi_list (pe_ix (ix_tupK (K := K)) (pv 0) pe_int (fun _ _ => rfl))) (blkOk_by (own := [("_law_j", 2), ("_law_c", 3)]) (N := nLValue) (sc := defScope sLValue) (by decide +kernel)) (fun _ _ _ _ _ => (pg_tupK (K := K) (n := 2) rfl (pgs_cons (pg_name (i := 2) scLValue.nd rfl (Or.inl rfl)) (pgs_cons (pg_name (i := 3) scLValue.nd rfl (Or.inl rfl)) pgs_nil)))) (fun _ _ _ _ _ => pts_nil) (fun _ _ _ _ _ => (pe_k cLShifted (hr.mono (by decide)) (by rfl) (pa_cons (pe_ix (ix_listK (K := K)) (pv 1) (pv 2) (fun _ _ => rfl)) (pa_cons (pv 3) pa_nil))))) (pa_cons (pe_ix (ix_tupK (K := K)) (pv 0) pe_int (fun _ _ => rfl)) pa_nil))))))), ?_⟩
  -- the two words that read arcs
  have arcsL : ∀ (l : Addr) (arcs : List Arc) H1, Ex H H1 → ArcsAt H1 l arcs → ArcsOk x.length arcs → (∀ H2, Ex H1 H2 → Ev (tOp (rIxT K) (tVar 0) (tC (.int 1))) (L2.start nLValue [.ref a, .ref p]) H2 (.ref l)) →
      EvL (tLc (iList K (tOp (rIxT K) (tVar 0) (tC (.int 1)))) (gTup K 2 (gCons (gName 2) (gCons (gName 3) gNil))) tYes (tCall spShifted [] L2.E0 (tCons (tOp (rIxL K) (tVar 1) (tVar 2)) (tCons (tVar 3) tNil))) [2, 3]) (L2.start nLValue [.ref a, .ref p]) H1 ((arcVals arcs x).map av) := fun l arcs H1 e1 hA hok hl =>
    el_arcs (hl H1 (Ex.refl _)) hA hok (fun _ _ => rfl) fun s H2 e2 hs => ev_call (ea_cons (ev_xA (ev_var rfl) (ev_var rfl) ((e1.trans e2) _ _ hx) hs) (ea_cons (ev_var rfl) ea_nil)) sv_shifted
  cases f with
  | amt y =>
    refine q_when (b := true) (et_test (ev_wA (f := .amt y) (ev_k0 (ev_var rfl) hf))) (fun _ H1 e1 => s_ret (ev_xT (ev_var rfl) ev_c (e1 _ _ hf) at1) fun H2 e2 => q H2 (e1.trans e2)) fun hb => by cases hb
  | when j b k =>
    refine q_when (b := false) (et_test (ev_wA (f := .when j b k) (ev_k0 (ev_var rfl) hf))) (fun hb => by cases hb) fun _ H1 e1 => ?_
    have f1 := e1 _ _ hf
    refine q_when (b := true) (et_test (ev_wW (f := .when j b k) (ev_k0 (ev_var rfl) f1))) (fun _ H2 e2 => ?_) fun hb => by cases hb
    have f2 := e2 _ _ f1
    have x2 := (e1.trans e2) _ _ hx
    refine q_when (et_B (ev_call (ea_cons (ev_is (ev_xT (ev_var rfl) ev_c f2 at2) (by rfl : V.int b = av (some b))) (ea_cons (ev_xA (j := j) (ev_var rfl) (ev_xT (ev_var rfl) ev_c f2 at1) x2 ok.1) ea_nil)) sv_atMost)) (fun hb H3 e3 => s_ret (ev_xA (j := k) (ev_var rfl) (ev_xT (ev_var rfl) ev_c (e3 _ _ f2) at3) (e3 _ _ x2) ok.2.1) fun H4 e4 => ?_) fun hb H3 e3 => s_ret ev_c fun H4 e4 => ?_
    · have e : fval (.when j b k) x = gA x k := if_pos hb
      rw [e] at q
      exact q H4 ((e1.trans e2).trans (e3.trans e4))
    · have e : fval (.when j b k) x = some 0 := if_neg (by rw [hb]; exact Bool.false_ne_true)
      rw [e] at q
      exact q H4 ((e1.trans e2).trans (e3.trans e4))
  | least arcs =>
    obtain ⟨l, h1, h2⟩ := hf
    refine q_when (b := false) (et_test (ev_wA (f := .least arcs) (ev_k0 (ev_var rfl) ⟨l, h1, h2⟩))) (fun hb => by cases hb) fun _ H1 e1 => ?_
    refine q_when (b := false) (et_test (ev_wW (f := .least arcs) (ev_k0 (ev_var rfl) ⟨l, e1 _ _ h1, h2.ex e1⟩))) (fun hb => by cases hb) fun _ H2 e2 => ?_
    have e12 := e1.trans e2
    have h12 := e12 _ _ h1
    refine s_ret (v := av (fval (.least arcs) x)) (ev_callL2 (y := .str (Str.ofString (if false = true then "greatest" else "least"))) (arcsL l arcs H2 e12 (h2.ex e12) ok (fun H' e' => ev_xT (ev_var rfl) ev_c (e' _ _ h12) at1)) (fun H3 e3 => ev_xT (ev_var rfl) ev_c (e3 _ _ h12) at0) fun p' H3 e3 h3 => sv_lOneOf (g := false) h3 (by
        cases arcs with
        | nil => exact absurd rfl ok.ne
        | cons s r => exact fun z => by cases z)) fun H3 e3 => q H3 (e12.trans e3)
  | great arcs =>
    obtain ⟨l, h1, h2⟩ := hf
    refine q_when (b := false) (et_test (ev_wA (f := .great arcs) (ev_k0 (ev_var rfl) ⟨l, h1, h2⟩))) (fun hb => by cases hb) fun _ H1 e1 => ?_
    refine q_when (b := false) (et_test (ev_wW (f := .great arcs) (ev_k0 (ev_var rfl) ⟨l, e1 _ _ h1, h2.ex e1⟩))) (fun hb => by cases hb) fun _ H2 e2 => ?_
    have e12 := e1.trans e2
    have h12 := e12 _ _ h1
    refine s_ret (v := av (fval (.great arcs) x)) (ev_callL2 (y := .str (Str.ofString (if true = true then "greatest" else "least"))) (arcsL l arcs H2 e12 (h2.ex e12) ok (fun H' e' => ev_xT (ev_var rfl) ev_c (e' _ _ h12) at1)) (fun H3 e3 => ev_xT (ev_var rfl) ev_c (e3 _ _ h12) at0) fun p' H3 e3 h3 => sv_lOneOf (g := true) h3 (by
        cases arcs with
        | nil => exact absurd rfl ok.ne
        | cons s r => exact fun z => by cases z)) fun H3 e3 => q H3 (e12.trans e3)
theorem ok_lValues (h : Has K mg "_law_values" sLValues) (cLValue : Cl P w K mg base 3 "_law_value" spFlatValue) : Cl P w K mg base 4 "_law_values" spFlatValues := by
  refine cl_of h scLValues (fun _ _ _ _ _ _ us hl => match us, hl with | [_, _], _ => rfl) (fun vs H Q E h => ?_) (fun f cdv A outer s H vs Q E hr h => ?_)
  · obtain ⟨a, p, S, x, rfl, _⟩ := h
    rfl
  obtain ⟨a, p, S, x, rfl, hf, hx, ok, hl, q⟩ := h
  refine ⟨_, (pss_one (ps_ret (pe_lc (own := [("_law_formula", 2)]) rfl scLValues.nd (pi_list (pv 0)) (blkOk_by (own := [("_law_formula", 2)]) (N := nLValues) (sc := defScope sLValues) (by decide +kernel)) (fun _ _ _ _ _ => (pg_name (i := 2) scLValues.nd rfl (Or.inl rfl))) (fun _ _ _ _ _ => pts_nil) (fun _ _ _ _ _ => (pe_k cLValue (hr.mono (by decide)) (by rfl) (pa_cons (pv 2) (pa_cons (pv 1) pa_nil))))))), ?_⟩
  have e : (fvals S x).map av = S.map fun f => av (fval f x) := by
    unfold fvals
    rw [List.map_map]
    rfl
  rw [e] at q
  exact s_retL (el_sheet (F := fun f => av (fval f x)) (ev_var rfl) hf ok (fun _ => rfl) fun f c H1 e1 hc hok => ev_call (ea_cons (ev_var rfl) (ea_cons (ev_var rfl) ea_nil)) (sv_flatValue hc (e1 _ _ hx) (by rw [hl]; exact hok))) q
/-! ### _law_conditions, _law_fulfilled -/
theorem ok_lConditions (T : Bt mg) (h : Has K mg "_law_conditions" sLConditions) : Cl P w K mg base 1 "_law_conditions" spConditionsOf := by
  refine cl_of h scLConditions (fun _ _ _ _ _ _ us hl => match us, hl with | [_], _ => rfl) (fun vs H Q E h => ?_) (fun f cdv A outer s H vs Q E hr h => ?_)
  · obtain ⟨a, S, rfl, _⟩ := h
    rfl
  obtain ⟨a, S, rfl, hS, hl, q⟩ := h
  refine ⟨_, (pss_one (ps_ret (pe_lc (own := [("_law_k", 1)]) rfl scLConditions.nd (pi_range1 (by rfl) T.b_range (pa_cons (pe_callB (call_lenK (K := K)) (by rfl) T.b_len PySem.boot_len (pa_cons (pv 0) pa_nil)) pa_nil)) (blkOk_by (own := [("_law_k", 1)]) (N := nLConditions) (sc := defScope sLConditions) (by decide +kernel)) (fun _ _ _ _ _ => (pg_name (i := 1) scLConditions.nd rfl (Or.inl rfl))) (fun _ _ _ _ _ => (pts_one (pt_cmpR op_eq (pe_ix (ix_tupK (K := K)) (pe_ix (ix_listK (K := K)) (pv 0) (pv 1) (fun _ _ => rfl)) pe_int (fun _ _ => rfl)) pe_str (nomark _)))) (fun _ _ _ _ _ => (pv 1))))), ?_⟩
  refine s_retL (el_lcR (n := S.length) (fun i => (fAt S i).isW) nv (ea_cons (ev_lenS (ev_var rfl) hS) ea_nil) (by omega) (fun _ => rfl) (fun i H1 e1 hi => ?_) fun i H1 e1 hi _ => ev_var rfl) q
  obtain ⟨c, h1, h2⟩ := ev_xS (K := K) (ta := tVar 0) (tb := tVar 1) (σ := (wipe (L2.start nLConditions [V.ref a]) [1]).set 1 (some (nv i))) (ev_var rfl) (ev_var rfl) (hS.ex e1) (fAt_get hi)
  exact et_test (ev_wW (ev_k0 h1 h2))
theorem ok_lFulfilled (T : Bt mg) (h : Has K mg "_law_fulfilled" sLFulfilled) (cLConditions : Cl P w K mg base 1 "_law_conditions" spConditionsOf) (cLAtMost : Cl P w K mg base 1 "_law_at_most" spAtMost) : Cl P w K mg base 2 "_law_fulfilled" spFulfilled := by
  refine cl_of h scLFulfilled (fun _ _ _ _ _ _ us hl => match us, hl with | [_, _], _ => rfl) (fun vs H Q E h => ?_) (fun f cdv A outer s H vs Q E hr h => ?_)
  · obtain ⟨a, p, S, x, rfl, _⟩ := h
    rfl
  obtain ⟨a, p, S, x, rfl, hS, hp, hl, ok, q⟩ := h
  have hlen := ok.len
  have cl := conds_len S
  refine ⟨_, (pss_one (ps_ret (pe_lc (own := [("_law_k", 2)]) rfl scLFulfilled.nd (pi_list (pe_k cLConditions (hr.mono (by decide)) (by rfl) (pa_cons (pv 0) pa_nil))) (blkOk_by (own := [("_law_k", 2)]) (N := nLFulfilled) (sc := defScope sLFulfilled) (by decide +kernel)) (fun _ _ _ _ _ => (pg_name (i := 2) scLFulfilled.nd rfl (Or.inl rfl))) (fun _ _ _ _ _ => (pts_one (pt_val (pe_k cLAtMost (hr.mono (by decide)) (by rfl) (pa_cons (pe_ix (ix_tupK (K := K)) (pe_ix (ix_listK (K := K)) (pv 0) (pv 2) (fun _ _ => rfl)) pe_int (fun _ _ => rfl)) (pa_cons (pe_ix (ix_listK (K := K)) (pv 1) (pe_ix (ix_tupK (K := K)) (pe_ix (ix_listK (K := K)) (pv 0) (pv 2) (fun _ _ => rfl)) pe_int (fun _ _ => rfl)) (fun _ _ => rfl)) pa_nil)))))) (fun _ _ _ _ _ => (pv 2))))), ?_⟩
  refine s_retL (el_lcN (K := K) (α := Nat) (xs := (conds S).map nv) (ys := conds S) (fun i => whenMet x (fAt S i)) nv (el_call (ea_cons (ev_var rfl) ea_nil) (sv_conditionsOf hS ok.len)) (List.length_map _) (by omega) fun n u y hu hy => ?_) q
  obtain ⟨y', hy', rfl⟩ := getMap hu
  have ey : y' = y := Option.some.inj (hy'.symm.trans hy)
  subst ey
  obtain ⟨hin, hiw⟩ := mem_conds.mp (List.mem_of_getElem? hy)
  refine ⟨_, fun H1 e1 Q q => q, rfl, fun H1 e1 => ?_, fun _ H1 e1 => ev_var rfl⟩
  obtain ⟨c, hc1, hc2⟩ := ev_xS (K := K) (ta := tVar 0) (tb := tVar 2) (σ := (wipe (L2.start nLFulfilled [V.ref a, .ref p]) [2]).set 2 (some (nv y'))) (ev_var rfl) (ev_var rfl) (hS.ex e1) (fAt_get hin)
  have okf := ok.ok y' _ (fAt_get hin)
  cases hq : fAt S y' with
  | when j b k =>
    rw [hq] at hc2 okf
    exact et_B (ev_call (ea_cons (ev_is (ev_xT hc1 ev_c hc2 at2) (by rfl : V.int b = av (some b))) (ea_cons (ev_xA (j := j) (ev_var rfl) (ev_xT hc1 ev_c hc2 at1) (e1 _ _ hp) (by rw [hl]; exact okf.1)) ea_nil)) sv_atMost)
  | _ =>
    rw [hq] at hiw
    cases hiw
end Cs
set_option Elab.async false
set_option linter.all false
set_option maxRecDepth 100000
set_option maxHeartbeats 4000000
/-! LE: the law's opened sheet, ranks -/
namespace Cs
open PySem PySem.Spec PyProof.Rows L2 Evl LamX
variable {P : Program} {w : World} {K : PySem.W.Frag} {mg : Str → Option Value} {base : Heap}
section
variable {σ : L2.St} {H : Hp} {ta : TA} {te tb : TE} {r : Addr} {u : HO} {R RL : V → Hp → Prop} {RA : List V → Hp → Prop}
theorem ed_lstA (hr : H r = some u) (ha : EvDA ta σ H r RA) (m : ∀ vs H H', Ex H H' → RA vs H → RA vs H') (hl : ∀ vs H, RA vs H → vs.length ≤ 100000) : EvD (tLst ta) σ H r (fun z H' => ∃ p vs, z = .ref p ∧ H' p = some (.lst vs) ∧ RA vs H') := fun H1 e Q q => ha H1 e _ fun vs H2 e2 r2 => ⟨sz_of (hl vs _ r2), fun p hp => by
  have hr2 := (e.trans e2) r _ hr
  exact q _ _ (e2.trans (Ex.new hp)) ⟨p, vs, rfl, hd_new hr2 hp, m vs _ _ (hd_ex (Ex.new hp)) r2⟩⟩
theorem ed_ixl {j : Int} (h : EvD te σ H r RL) (m : Mono RL) (h2 : Ev tb σ H (.int j)) (k : ∀ v H, RL v H → ∃ p vs x, v = .ref p ∧ H p = some (.lst vs) ∧ atI vs j = some x ∧ R x H) : EvD (tOp (rIxL K) te tb) σ H r R := fun H1 e Q q => h H1 e _ fun v H2 e2 rl => h2 H2 (e.trans e2) _ fun H3 e3 => by
  obtain ⟨p, vs, x, rfl, hp, hx, hr⟩ := k v _ (m v _ _ (hd_ex e3) rl)
  exact ⟨p, vs, j, x, rfl, rfl, sq_of (hd_sub _ _ hp), hx, q x H3 (e2.trans e3) hr⟩
end
/-! ### _law_opened -/
theorem ok_lOpened (T : Bt mg) (h : Has K mg "_law_opened" sLOpened) : Cl P w K mg base 1 "_law_opened" spOpened := by
  refine cl_of h scLOpened (fun _ _ _ _ _ _ us hl => match us, hl with | [_, _], _ => rfl) (fun vs H Q E h => ?_) (fun f cdv A outer s H vs Q E hr h => ?_)
  · obtain ⟨a, p, S, pl, rfl, _⟩ := h
    rfl
  obtain ⟨a, p, S, pl, rfl, hS, hp, hlen, q⟩ := h
  obtain ⟨xs, s1, s2, s3⟩ := hS.get
  refine ⟨_, (pss_cons (ps_set (i := 2) scLOpened.nd rfl (Or.inl rfl) (pe_lst pa_nil))
      (pss_cons (ps_for PassesOwn.never rfl (pi_range1 (by rfl) T.b_range (pa_cons (pe_callB (call_lenK (K := K)) (by rfl) T.b_len PySem.boot_len (pa_cons (pv 0) pa_nil)) pa_nil)) (pg_name (i := 3) scLOpened.nd rfl (Or.inl rfl)) (pss_cons (ps_set (i := 4) scLOpened.nd rfl (Or.inl rfl) (pe_ix (ix_listK (K := K)) (pv 0) (pv 3) (fun _ _ => rfl)))
      (pss_cons (ps_if (pt_cmpR op_eq (pe_ix (ix_tupK (K := K)) (pv 4) pe_int (fun _ _ => rfl)) pe_str (nomark _)) (pss_one (ps_set (i := 4) scLOpened.nd rfl (Or.inl rfl) (pe_ix (ix_listK (K := K)) (pe_lst (pa_cons (pe_tup (pa_cons pe_str (pa_cons pe_int pa_nil))) (pa_cons (pe_tup (pa_cons pe_str (pa_cons (pe_lst (pa_cons (pe_tup (pa_cons (pe_ix (ix_tupK (K := K)) (pv 4) pe_int (fun _ _ => rfl)) (pa_cons pe_int pa_nil))) pa_nil)) pa_nil))) pa_nil))) (pe_callTy call_int1 (by rfl) T.b_int (by decide +kernel) (pa_cons (pe_cmpR (op_inK (K := K)) (pv 3) (pv 1) (by rfl)) pa_nil)) (fun _ _ => rfl)))) pss_nil)
      (pss_one (ps_expr (pe_bm PySem.F.plainAttrs_list PySem.F.slot_list_append PySem.F.type_list_append mt_append (pv 2) (pa_cons (pv 4) pa_nil)))))))
      (pss_one (ps_ret (pv 2))))), ?_⟩
  refine q_asgL (el_lst ea_nil (Nat.zero_le _)) fun r H1 hr e1 h1 => ?_
  refine q_forR1 (n := (S.length : Int)) (ea_cons (ev_lenS (ev_var rfl) (hS.ex e1)) ea_nil) (by omega) (fun n σ' H' => Ex H H' ∧ (∃ ads : List Addr, H' r = some (.lst (ads.map V.ref)) ∧ Paired (FmAt (hd H' r)) ads ((opn S pl).take n)) ∧ ∃ y z, σ' = [some (.ref a), some (.ref p), some (.ref r), y, z]) (fun H2 e2 => ⟨e1.trans e2, ⟨[], e2 r _ h1, by rw [List.take_zero]; exact .nil⟩, _, _, rfl⟩) (fun n σ' H' hi Pn => ?_) fun σ' H' Pn => ?_
  · obtain ⟨e, ⟨ads, a1, a2⟩, y, z, rfl⟩ := Pn
    have hn : n < S.length := by omega
    have hg := fAt_get hn
    obtain ⟨c, hc, hf⟩ := s3 n _ hg
    have eo := opn_get (pl := pl) hg
    refine q_asg (ev_xL (ev_var rfl) (ev_var rfl) (e _ _ s1) (atI_nat hc)) fun H2 e2 => ?_
    have eH2 := e.trans e2
    have f2 := hf.ex eH2
    have r2 := e2 r _ a1
    have p2 := eH2 p _ hp
    have fh : FmAt (hd H2 r) c (fAt S n) := hf.ex (hd_of hr eH2)
    have a3 : Paired (FmAt (hd H2 r)) ads ((opn S pl).take n) := pm a2 fun _ _ z => z.ex (hd_ex e2)
    have alen : (ads.map V.ref).length < 100000 := by
      rw [List.length_map, paired_len a3, List.length_take]
      have := opn_len S pl
      omega
    have app : ∀ (D : Ends), (∀ σ' H', (Ex H H' ∧ (∃ ads : List Addr, H' r = some (.lst (ads.map V.ref)) ∧ Paired (FmAt (hd H' r)) ads ((opn S pl).take (n + 1))) ∧ ∃ y z, σ' = [some (.ref a), some (.ref p), some (.ref r), y, z]) → D.nx σ' H') → ∀ b H3, Ex H2 H3 → FmAt (hd H3 r) b (opnAt pl n (fAt S n)) → tDrop (tBM K "list" rAppend (tVar 2) (tCons (tVar 4) tNil)) D [some (.ref a), some (.ref p), some (.ref r), some (.int (n : Int)), some (.ref b)] H3 := fun D kk b H3 e3 hb =>
      s_app (e3 r _ r2) (ev_var rfl) (ev_var rfl) alen fun H4 e4 => kk _ _ ⟨Ex.mut ((eH2.trans e3).trans e4) hr, ⟨ads ++ [b], by rw [upd_same, List.map_append]; rfl, by
        rw [hd_upd, List.take_add_one, eo]
        exact paired_snoc (pm a3 fun _ _ z => z.ex (hd_ex (e3.trans e4))) (hb.ex (hd_ex e4))⟩, _, _, rfl⟩
    refine q_when (et_test (ev_wW (ev_k0 (ev_var rfl) f2))) (fun hw H3 e3 => ?_) fun hw H3 e3 => ?_
    · cases hq : fAt S n with
      | when j b k =>
        rw [hq] at f2 fh
        have f3 := e3 _ _ f2
        have r3 := e3 r _ r2
        refine s_asgD (r := r) (R := fun v H => ∃ b, v = .ref b ∧ FmAt H b (opnAt pl n (fAt S n))) ?_ fun v H4 e4 ⟨b', ev, hb'⟩ => by
          subst ev
          exact app _ (fun σ' H' h => h) b' H4 (e3.trans e4) hb'
        rw [hq]
        have t1 : EvD (tTup (tCons (tC (.str (Str.ofString "amount"))) (tCons (tC (.int 0)) tNil))) [some (.ref a), some (.ref p), some (.ref r), some (.int (n : Int)), some (.ref c)] H3 r (fun v H => ∃ b, v = .ref b ∧ H b = some (.tup [.str (Str.ofString "amount"), .int 0])) := ed_evU r3 (eu_tup (ea_cons ev_c (ea_cons ev_c ea_nil)) (by show 2 ≤ 100000; decide))
        have t2 : EvD (tTup (tCons (tC (.str (Str.ofString "greatest"))) (tCons (tLst (tCons (tTup (tCons (tOp (rIxT K) (tVar 4) (tC (.int 3))) (tCons (tC (.int 0)) tNil))) tNil)) tNil))) [some (.ref a), some (.ref p), some (.ref r), some (.int (n : Int)), some (.ref c)] H3 r (fun v H => ∃ b, v = .ref b ∧ FmAt H b (.great [(k, 0)])) := EvD.imp (ed_tup2 r3 (ed_ev ev_c) (ed_lst1 r3 (ed_evU r3 (eu_tup (ea_cons (ev_xT (ev_var rfl) ev_c f3 at3) (ea_cons ev_c ea_nil)) (by show 2 ≤ 100000; decide))) mono_tup) mono_eq fun v H H' e ⟨p, x, h1, h2, h3⟩ => ⟨p, x, h1, e _ _ h2, mono_tup _ _ _ e h3⟩) fun v H5 e5 z => by
          obtain ⟨b, x, y, rfl, hb, rfl, b2, y2, rfl, hb2, b3, rfl, hb3⟩ := z
          exact ⟨b, rfl, b2, hb, [b3], hb2, .cons hb3 .nil⟩
        refine ed_ixl (K := K) (j := if pl.contains n then 1 else 0) (ed_lstA r3 (eda_cons t1 (fun v H H' e ⟨b, h1, h2⟩ => ⟨b, h1, e _ _ h2⟩) (eda_cons t2 mono_fm eda_nil)) ?_ ?_) ?_ (ev_i1b (ev_inN (ev_var rfl) (ev_var rfl) (e3 p _ p2))) ?_
        · rintro vs H H' e ⟨v1, w1, rfl, ⟨b1, g1, g2⟩, v2, w2, rfl, ⟨b2, g3, g4⟩, rfl⟩
          exact ⟨v1, _, rfl, ⟨b1, g1, e _ _ g2⟩, v2, _, rfl, ⟨b2, g3, g4.ex e⟩, rfl⟩
        · rintro vs H ⟨v1, w1, rfl, _, v2, w2, rfl, _, rfl⟩
          show 2 ≤ 100000
          decide
        · rintro v H H' e ⟨q1, vs, rfl, hq1, v1, w1, rfl, ⟨b1, g1, g2⟩, v2, w2, rfl, ⟨b2, g3, g4⟩, rfl⟩
          exact ⟨q1, _, rfl, e _ _ hq1, v1, _, rfl, ⟨b1, g1, e _ _ g2⟩, v2, _, rfl, ⟨b2, g3, g4.ex e⟩, rfl⟩
        · rintro v H ⟨q1, vs, rfl, hq1, v1, w1, rfl, ⟨b1, rfl, g2⟩, v2, w2, rfl, ⟨b2, rfl, g4⟩, rfl⟩
          by_cases hcn : pl.contains n = true
          · refine ⟨q1, _, .ref b2, rfl, hq1, ?_, b2, rfl, ?_⟩
            · rw [if_pos hcn]
              exact at1
            · show FmAt H b2 (if pl.contains n = true then .great [(k, 0)] else .amt (some 0))
              rw [if_pos hcn]
              exact g4
          · refine ⟨q1, _, .ref b1, rfl, hq1, ?_, b1, rfl, ?_⟩
            · rw [if_neg hcn]
              exact at0
            · show FmAt H b1 (if pl.contains n = true then .great [(k, 0)] else .amt (some 0))
              rw [if_neg hcn]
              exact g2
      | _ =>
        rw [hq] at hw
        cases hw
    · have eN : opnAt pl n (fAt S n) = fAt S n := by
        cases q : fAt S n with
        | when _ _ _ =>
          rw [q] at hw
          cases hw
        | _ => rfl
      exact app _ (fun σ' H' h => h) c H3 e3 (by rw [eN]; exact fh.ex (hd_ex e3))
  · obtain ⟨e, ⟨ads, a1, a2⟩, y, z, rfl⟩ := Pn
    refine s_ret (ev_var rfl) fun H2 e2 => q r H2 hr (e.trans e2) ⟨ads, e2 r _ a1, ?_⟩
    rw [Int.toNat_natCast, ← opn_len S pl, List.take_of_length_le (Nat.le_refl _)] at a2
    exact pm a2 fun _ _ z => z.ex ((hd_sub).trans e2)
/-! ### _law_tight, _law_falls -/
def spLTight : Sp := fun vs H Q _ => ∃ (a p : Addr) (S : List Fm) (x : List Amt) (i : Nat), vs = [.ref a, .ref p, nv i] ∧ SheetAt H a S ∧ H p = some (.lst (x.map av)) ∧ x.length = S.length ∧ i < S.length ∧ Wf S ∧ Plain S ∧ (fAt S i).isA = false ∧ ∀ l H2, H l = none → Ex H H2 → ArcsAt H2 l (tightL S x i) → Q (.ref l) H2
/-- the arcs' list of a formula that reads arcs -/
theorem FmAt.arcs {H : Hp} {c : Addr} {f : Fm} (h : FmAt H c f) (ha : f.isA = false) (hw : f.isW = false) : ∃ l z, H c = some (.tup [z, .ref l]) ∧ ArcsAt H l (arcsOf f) := by
  cases f with
  | amt a => cases ha
  | least arcs =>
    obtain ⟨l, h1, h2⟩ := h
    exact ⟨l, _, h1, h2⟩
  | great arcs =>
    obtain ⟨l, h1, h2⟩ := h
    exact ⟨l, _, h1, h2⟩
  | when j b k => cases hw
theorem ok_lTight (T : Bt mg) (h : Has K mg "_law_tight" sLTight) (cLShifted : Cl P w K mg base 1 "_law_shifted" spShifted) : Cl P w K mg base 2 "_law_tight" spLTight := by
  refine cl_of h scLTight (fun _ _ _ _ _ _ us hl => match us, hl with | [_, _, _], _ => rfl) (fun vs H Q E h => ?_) (fun f cdv A outer s H vs Q E hr h => ?_)
  · obtain ⟨a, p, S, x, i, rfl, _⟩ := h
    rfl
  obtain ⟨a, p, S, x, i, rfl, hS, hp, hl, hi, ok, pl, hA, q⟩ := h
  refine ⟨_, (pss_one (ps_ret (pe_lc (own := [("_law_arc", 3)]) rfl scLTight.nd (pi_list (pe_ix (ix_tupK (K := K)) (pe_ix (ix_listK (K := K)) (pv 0) (pv 2) (fun _ _ => rfl)) pe_int (fun _ _ => rfl))) (blkOk_by (own := [("_law_arc", 3)]) (N := nLTight) (sc := defScope sLTight) (by decide +kernel)) (fun _ _ _ _ _ => (pg_name (i := 3) scLTight.nd rfl (Or.inl rfl))) (fun _ _ _ _ _ => (pts_one (pt_cmpR op_eq (pe_k cLShifted (hr.mono (by decide)) (by rfl) (pa_cons (pe_ix (ix_listK (K := K)) (pv 1) (pe_ix (ix_tupK (K := K)) (pv 3) pe_int (fun _ _ => rfl)) (fun _ _ => rfl)) (pa_cons (pe_ix (ix_tupK (K := K)) (pv 3) pe_int (fun _ _ => rfl)) pa_nil))) (pe_ix (ix_listK (K := K)) (pv 1) (pv 2) (fun _ _ => rfl)) (nomark _)))) (fun _ _ _ _ _ => (pv 3))))), ?_⟩
  have hg := fAt_get hi
  have oka := arcsOf_ok (ok.ok i _ hg)
  obtain ⟨c, hc1, hc2⟩ := ev_xS (K := K) (ta := tVar 0) (tb := tVar 2) (σ := L2.start nLTight [V.ref a, .ref p, nv i]) (ev_var rfl) (ev_var rfl) hS hg
  obtain ⟨l, z0, hcl, ads, l1, l2⟩ := hc2.arcs hA (pl i _ hg)
  have lz : (ads.map V.ref).length = (ads.zip (arcsOf (fAt S i))).length := by
    rw [List.length_map, List.length_zip, paired_len l2, Nat.min_self]
  refine s_retL (el_lc (K := K) (α := Addr × Arc) (xs := ads.map V.ref) (ys := ads.zip (arcsOf (fAt S i))) (fun z => tightB x i z.2) (fun z => .ref z.1) (ev_xT hc1 ev_c hcl at1) (sq_of l1) lz (by
      rw [← lz, List.length_map, paired_len l2]
      omega) fun n v y hv hy => ?_) fun l3 H3 hl3 e3 h3 => ?_
  · obtain ⟨h1, h2⟩ := zip_get hy
    obtain ⟨b, hb, rfl⟩ := getMap hv
    have eb : b = y.1 := Option.some.inj (hb.symm.trans h1)
    subst eb
    obtain ⟨r, hr, ht⟩ := paired_get2 l2 h1
    have er : r = y.2 := Option.some.inj (hr.symm.trans h2)
    subst er
    have hy2 := (oka.2 y.2 (List.mem_of_getElem? h2)).1
    refine ⟨_, fun H1 e1 Q q => q, rfl, fun H3 e3 => ?_, fun _ H3 e3 => ev_var rfl⟩
    have hp3 := e3 _ _ hp
    have ht3 := e3 _ _ ht
    exact et_is (et_test (ev_eq (ev_call (ea_cons (ev_xA (j := y.2.1) (ev_var rfl) (ev_xT (ev_var rfl) ev_c ht3 at0) hp3 (by rw [hl]; exact hy2)) (ea_cons (ev_xT (ev_var rfl) ev_c ht3 at1) ea_nil)) sv_shifted) (ev_xA (ev_var rfl) (ev_var rfl) hp3 (by rw [hl]; exact hi)) (scal_av _ _))) dec_av
  · refine q l3 H3 hl3 e3 ⟨((ads.zip (arcsOf (fAt S i))).filter fun z => tightB x i z.2).map Prod.fst, ?_, pm (paired_filter _ l2) fun a p h => e3 _ _ h⟩
    rw [h3, List.map_map]
    rfl
def spLFalls : Sp := fun vs H Q _ => ∃ (a p k : Addr) (S : List Fm) (x : List Amt) (rk : Ch) (i : Nat), vs = [.ref a, .ref p, .ref k, nv i] ∧ SheetAt H a S ∧ H p = some (.lst (x.map av)) ∧ H k = some (.lst (rk.map cv)) ∧ x.length = S.length ∧ rk.length = S.length ∧ i < S.length ∧ Wf S ∧ Plain S ∧ (gC rk i).isSome = true ∧ (fAt S i).isA = false ∧ RetV (.bl (fallsB S x rk i)) H Q
theorem sv_lFalls {a p k : Addr} {S : List Fm} {x : List Amt} {rk : Ch} {i : Nat} {H : Hp} (hS : SheetAt H a S) (hp : H p = some (.lst (x.map av))) (hk : H k = some (.lst (rk.map cv))) (hl : x.length = S.length) (hl2 : rk.length = S.length) (hi : i < S.length) (ok : Wf S) (pl : Plain S) (hr : (gC rk i).isSome = true) (hA : (fAt S i).isA = false) : SpV spLFalls [.ref a, .ref p, .ref k, nv i] H (.bl (fallsB S x rk i)) :=
  fun H1 e Q q _ => ⟨a, p, k, S, x, rk, i, rfl, hS.ex e, e _ _ hp, e _ _ hk, hl, hl2, hi, ok, pl, hr, hA, q⟩
theorem ev_lesser {σ : L2.St} {H : Hp} {t1 t2 t3 t4 t5 t6 : TE} {k : Addr} {rk : Ch} {s : Arc} {i ri : Nat} (hk : H k = some (.lst (rk.map cv))) (h1 : s.1 < rk.length) (h2 : i < rk.length) (hri : gC rk i = some ri)
    (e1 : Ev t1 σ H (.ref k)) (e2 : Ev t2 σ H (nv s.1)) (e3 : Ev t3 σ H (.ref k)) (e4 : Ev t4 σ H (nv s.1)) (e5 : Ev t5 σ H (.ref k)) (e6 : Ev t6 σ H (nv i)) :
    Ev (tAndV (tOp (fun x y H Q => y = V.non ∧ Q (V.bl (!decide (x = V.non))) H) (tOp (rIxL K) t1 t2) (tC .non)) (tOp (rI0 fun i j => .bl (decide (i < j))) (tOp (rIxL K) t3 t4) (tOp (rIxL K) t5 t6))) σ H (.bl (lesserB rk i s)) := by
  have z : Ev (tAndV (tOp (fun x y H Q => y = V.non ∧ Q (V.bl (!decide (x = V.non))) H) (tOp (rIxL K) t1 t2) (tC .non)) (tOp (rI0 fun i j => .bl (decide (i < j))) (tOp (rIxL K) t3 t4) (tOp (rIxL K) t5 t6))) σ H (.bl ((gC rk s.1).isSome && decide (((gC rk s.1).getD 0 : Int) < (ri : Int)))) :=
    ev_andV (ev_notNC (ev_xC e1 e2 hk h1)) fun hsm => by
      obtain ⟨ks, hks⟩ := Option.isSome_iff_exists.mp hsm
      refine ev_lt (ev_is (ev_xC e3 e4 hk h1) (by rw [hks]; rfl)) (ev_is (ev_xC e5 e6 hk h2) (by rw [hri]; rfl))
  refine ev_is z ?_
  unfold lesserB
  rw [hri]
  cases gC rk s.1 with
  | none => rfl
  | some ks =>
    show V.bl (true && decide ((ks : Int) < (ri : Int))) = V.bl (decide (ks < ri))
    rw [Bool.true_and]
    refine congrArg V.bl ?_
    by_cases z : ks < ri
    · rw [decide_eq_true z, decide_eq_true (by omega)]
    · rw [decide_eq_false z, decide_eq_false (by omega)]
theorem ok_lFalls (T : Bt mg) (h : Has K mg "_law_falls" sLFalls) (cLTight : Cl P w K mg base 2 "_law_tight" spLTight) : Cl P w K mg base 3 "_law_falls" spLFalls := by
  refine cl_of h scLFalls (fun _ _ _ _ _ _ us hl => match us, hl with | [_, _, _, _], _ => rfl) (fun vs H Q E h => ?_) (fun f cdv A outer s H vs Q E hr h => ?_)
  · obtain ⟨a, p, k, S, x, rk, i, rfl, _⟩ := h
    rfl
  obtain ⟨a, p, k, S, x, rk, i, rfl, hS, hp, hk, hl, hl2, hi, ok, pl, hrk, hA, q⟩ := h
  have hg := fAt_get hi
  have oka := arcsOf_ok (ok.ok i _ hg)
  obtain ⟨ri, hri⟩ := Option.isSome_iff_exists.mp hrk
  refine ⟨_, (pss_cons (ps_set (i := 4) scLFalls.nd rfl (Or.inl rfl) (pe_lst pa_nil))
      (pss_cons (ps_for PassesOwn.never rfl (pi_list (pe_k cLTight (hr.mono (by decide)) (by rfl) (pa_cons (pv 0) (pa_cons (pv 1) (pa_cons (pv 3) pa_nil))))) (pg_tupK (K := K) (n := 2) rfl (pgs_cons (pg_name (i := 5) scLFalls.nd rfl (Or.inl rfl)) (pgs_cons (pg_name (i := 6) scLFalls.nd rfl (Or.inl rfl)) pgs_nil))) (pss_one (ps_expr (pe_bm PySem.F.plainAttrs_list PySem.F.slot_list_append PySem.F.type_list_append mt_append (pv 4) (pa_cons (pe_and (pe_cmpR op_notN (pe_ix (ix_listK (K := K)) (pv 2) (pv 5) (fun _ _ => rfl)) pe_non (nomark _)) (pe_one (pe_cmpR op_lt (pe_ix (ix_listK (K := K)) (pv 2) (pv 5) (fun _ _ => rfl)) (pe_ix (ix_listK (K := K)) (pv 2) (pv 3) (fun _ _ => rfl)) (nomark _)))) pa_nil)))))
      (pss_cons (ps_if (pt_cmpR op_eq (pe_ix (ix_tupK (K := K)) (pe_ix (ix_listK (K := K)) (pv 0) (pv 3) (fun _ _ => rfl)) pe_int (fun _ _ => rfl)) pe_str (nomark _)) (pss_one (ps_ret (pe_callB (cr_any rfl) (by rfl) T.b_any (by decide +kernel) (pa_cons (pv 4) pa_nil)))) pss_nil)
      (pss_one (ps_ret (pe_callB (cr_all rfl) (by rfl) T.b_all (by decide +kernel) (pa_cons (pv 4) pa_nil))))))), ?_⟩
  refine q_asgL (el_lst ea_nil (Nat.zero_le _)) fun r H2 hr e2 h2 => ?_
  refine q_forK (ea_cons (ev_var rfl) (ea_cons (ev_var rfl) (ea_cons (ev_var rfl) ea_nil))) fun H3 e3 => ⟨a, p, S, x, i, rfl, hS.ex (e2.trans e3), (e2.trans e3) _ _ hp, hl, hi, ok, pl, hA, fun l H4 hl4 e4 hL => ?_⟩
  have e14 := (e2.trans e3).trans e4
  have tlen : (tightL S x i).length ≤ 6 := Nat.le_trans (List.length_filter_le _ _) oka.1
  have hLh : ArcsAt (hd H4 r) l (tightL S x i) := arcs_hd ((e3.trans e4) _ _ h2) hL (fun z => by rw [z] at hl4; rw [e3 _ _ h2] at hl4; cases hl4)
  refine q_forA (arcs := tightL S x i) ev_c hLh (ex_xn hd_sub) (fun n σ' H' => Ex H H' ∧ Ex (hd H4 r) H' ∧ H' r = some (.lst ((((tightL S x i).take n).map (lesserB rk i)).map V.bl)) ∧ ∃ y5 y6, σ' = [some (.ref a), some (.ref p), some (.ref k), some (nv i), some (.ref r), y5, y6]) (fun H5 e5 => ⟨e14.trans e5, hd_sub.trans e5, (e3.trans (e4.trans e5)) _ _ h2, _, _, rfl⟩) (fun n σ' H' q => ex_xn q.2.1) (fun n s σ' H' hs Pn => ?_) fun σ' H' Pn => ?_
  · obtain ⟨e, e', hx, y5, y6, rfl⟩ := Pn
    have hs1 : s.1 < S.length := (oka.2 s (List.mem_filter.mp (List.mem_of_getElem? hs)).1).1
    refine s_app hx (ev_var rfl) (v := .bl (lesserB rk i s)) (ev_lesser (e _ _ hk) (by rw [hl2]; exact hs1) (by rw [hl2]; exact hi) hri (ev_var rfl) (ev_var rfl) (ev_var rfl) (ev_var rfl) (ev_var rfl) (ev_var rfl)) (by rw [List.length_map, List.length_map, List.length_take]; omega) fun H6 e6 => ⟨Ex.mut (e.trans e6) hr, Ex.mut (e'.trans e6) (if_pos rfl), ?_, _, _, rfl⟩
    rw [upd_same, List.take_add_one, hs, List.map_append, List.map_append]
    rfl
  · obtain ⟨e, e', hx, y5, y6, rfl⟩ := Pn
    rw [List.take_of_length_le (Nat.le_refl _)] at hx
    obtain ⟨c, hc1, hc2⟩ := ev_xS (K := K) (ta := tVar 0) (tb := tVar 3) (σ := [some (V.ref a), some (.ref p), some (.ref k), some (nv i), some (.ref r), y5, y6]) (ev_var rfl) (ev_var rfl) (hS.ex e) hg
    have hnA : ¬ (fAt S i).isA = true := by rw [hA]; exact Bool.false_ne_true
    refine q_when (et_test (ev_wG (ev_k0 hc1 hc2))) (fun hb2 H5 e5 => s_ret (ev_any (ev_var rfl) (e5 _ _ hx)) fun H6 e6 => ?_) fun hb2 H5 e5 => s_ret (ev_all (ev_var rfl) (e5 _ _ hx)) fun H6 e6 => ?_
    · have eF : fallsB S x rk i = ((tightL S x i).map (lesserB rk i)).any id := by
        rw [any_map]
        unfold fallsB
        rw [if_neg hnA, if_pos hb2]
      rw [← eF]
      exact q H6 (e.trans (e5.trans e6))
    · have eF : fallsB S x rk i = ((tightL S x i).map (lesserB rk i)).all id := by
        rw [all_map]
        unfold fallsB
        rw [if_neg hnA, if_neg (by rw [hb2]; exact Bool.false_ne_true)]
      rw [← eF]
      exact q H6 (e.trans (e5.trans e6))
/-! ### isinstance -/
section
variable {σ : L2.St} {H : Hp} {ta : TE}
theorem ev_isi {x : V} {a b : String} {r : Bool} (h : Ev ta σ H x) (ty : ∀ H1, Ex H H1 → TyX K H1 x (.type a)) (hk : kitB a b = some r) : Ev (tCB (rIsi K) (tCons ta (tCons (tC (.ty b)) tNil))) σ H (.bl r) := ev_cb (ea_cons h (ea_cons ev_c ea_nil)) fun H1 e Q q => ⟨x, .ty b, .type a, .type b, r, rfl, .ty b, ty H1 e, kit_ty hk, q H1 (Ex.refl H1)⟩
theorem ty_lst {p : Addr} {xs : List V} {H : Hp} (h : H p = some (.lst xs)) : TyX K H (.ref p) (.type "list") := .base (.lst h)
theorem ty_tup {p : Addr} {xs : List V} {H : Hp} (h : H p = some (.tup xs)) : TyX K H (.ref p) (.type "tuple") := .base (.tup h)
theorem ty_int {i : Int} {H : Hp} : TyX K H (.int i) (.type "int") := .base (.int i)
end
/-! ### _law_right_ranks -/
def spLRightRanks : Sp := spAreRanks
theorem ok_lRightRanks (T : Bt mg) (h : Has K mg "_law_right_ranks" sLRightRanks) (cLFalls : Cl P w K mg base 3 "_law_falls" spLFalls) : Cl P w K mg base 4 "_law_right_ranks" spAreRanks := by
  refine cl_of h scLRightRanks (fun _ _ _ _ _ _ us hl => match us, hl with | [_, _, _], _ => rfl) (fun vs H Q E h => ?_) (fun f cdv A outer s H vs Q E hr h => ?_)
  · obtain ⟨a, p, k, S, x, rk, rfl, _⟩ := h
    rfl
  obtain ⟨a, p, k, S, x, rk, rfl, hS, hp, hk, hl, ok, pl, R, q⟩ := h
  have rl := R.len
  have hlen := ok.len
  refine ⟨_, (pss_cons (ps_if (PW.pt (pw_or (pt_not (pt_val (pe_callB (call_isiK2 (K := K)) (by rfl) T.b_isinstance (by decide +kernel) (pa_cons (pv 2) (pa_cons (pe_bltn (v := .ty "list") (by rfl) T.b_list (by decide +kernel) rfl) pa_nil))))) (pw_or1 (pt_cmpR op_ne (pe_callB (call_lenK (K := K)) (by rfl) T.b_len PySem.boot_len (pa_cons (pv 2) pa_nil)) (pe_callB (call_lenK (K := K)) (by rfl) T.b_len PySem.boot_len (pa_cons (pv 0) pa_nil)) (nomark _))))) (pss_one (ps_ret pe_bl)) pss_nil)
      (pss_cons (ps_for PassesOwn.never rfl (pi_range1 (by rfl) T.b_range (pa_cons (pe_callB (call_lenK (K := K)) (by rfl) T.b_len PySem.boot_len (pa_cons (pv 0) pa_nil)) pa_nil)) (pg_name (i := 3) scLRightRanks.nd rfl (Or.inl rfl)) (pss_one (ps_if (PW.pt (pw_or (pt_cmpR op_ne (pe_cmpR op_isN (pe_ix (ix_listK (K := K)) (pv 1) (pv 3) (fun _ _ => rfl)) pe_non (nomark _)) (pe_cmpR op_isN (pe_ix (ix_listK (K := K)) (pv 2) (pv 3) (fun _ _ => rfl)) pe_non (nomark _)) (nomark _)) (pw_or1 (PW.pt (pw_and (pt_cmpR op_notN (pe_ix (ix_listK (K := K)) (pv 2) (pv 3) (fun _ _ => rfl)) pe_non (nomark _)) (pw_and1 (pt_cmpR op_lt (pe_ix (ix_listK (K := K)) (pv 2) (pv 3) (fun _ _ => rfl)) pe_int (nomark _)))))))) (pss_one (ps_ret pe_bl)) pss_nil)))
      (pss_cons (ps_for PassesOwn.never rfl (pi_range1 (by rfl) T.b_range (pa_cons (pe_callB (call_lenK (K := K)) (by rfl) T.b_len PySem.boot_len (pa_cons (pv 0) pa_nil)) pa_nil)) (pg_name (i := 3) scLRightRanks.nd rfl (Or.inl rfl)) (pss_one (ps_if (PW.pt (pw_and (pt_cmpR op_notN (pe_ix (ix_listK (K := K)) (pv 1) (pv 3) (fun _ _ => rfl)) pe_non (nomark _)) (pw_and (pt_cmpR op_gt (pe_ix (ix_listK (K := K)) (pv 1) (pv 3) (fun _ _ => rfl)) pe_int (nomark _)) (pw_and (pt_cmpR op_ne (pe_ix (ix_tupK (K := K)) (pe_ix (ix_listK (K := K)) (pv 0) (pv 3) (fun _ _ => rfl)) pe_int (fun _ _ => rfl)) pe_str (nomark _)) (pw_and1 (pt_not (pt_val (pe_k cLFalls (hr.mono (by decide)) (by rfl) (pa_cons (pv 0) (pa_cons (pv 1) (pa_cons (pv 2) (pa_cons (pv 3) pa_nil)))))))))))) (pss_one (ps_ret pe_bl)) pss_nil)))
      (pss_one (ps_ret pe_bl))))), ?_⟩
  refine q_when (b := false) (et_is (et_or (a := false) (b := false) (et_is (et_not (et_B (ev_isi (a := "list") (r := true) (ev_var rfl) (fun H1 e => ty_lst (e _ _ hk)) rfl))) rfl) fun _ => et_is (et_test (ev_ne (ev_lenM (ev_var rfl) hk) (ev_lenS (ev_var rfl) hS) rfl)) (by rw [rl, decide_eq_true rfl]; rfl)) rfl) (fun hb => by cases hb) fun _ H1 e1 => ?_
  refine q_forR1 (n := (S.length : Int)) (ea_cons (ev_lenS (ev_var rfl) (hS.ex e1)) ea_nil) (by omega) (fun n σ' H' => Ex H H' ∧ ∃ y3, σ' = [some (.ref a), some (.ref p), some (.ref k), y3]) (fun H2 e2 => ⟨e1.trans e2, _, rfl⟩) (fun n σ' H' hn Pn => ?_) fun σ' H' Pn => ?_
  · obtain ⟨e, y3, rfl⟩ := Pn
    have hn' : n < S.length := by omega
    have hf := R.fin n hn'
    have k2 := e _ _ hk
    have rn : n < rk.length := by rw [rl]; exact hn'
    refine s_when (b := false) (et_is (et_or (a := false) (b := false) (et_is (et_test (ev_ne (ev_isN (ev_xA (ev_var rfl) (ev_var rfl) (e _ _ hp) (by rw [hl]; exact hn'))) (ev_isNC (ev_xC (ev_var rfl) (ev_var rfl) k2 rn)) rfl)) (by rw [hf, decide_eq_true rfl]; rfl)) fun _ => et_is (et_and (a := (gC rk n).isSome) (b := false) (et_test (ev_notNC (ev_xC (ev_var rfl) (ev_var rfl) k2 rn))) fun hs => ?_) (by rw [Bool.and_false])) rfl) (fun hb => by cases hb) fun _ H4 e4 => ⟨e.trans e4, _, rfl⟩
    obtain ⟨kk, hkk⟩ := Option.isSome_iff_exists.mp hs
    exact et_is (et_test (ev_lt (ev_is (ev_xC (ev_var rfl) (ev_var rfl) k2 rn) (by rw [hkk]; rfl)) ev_c)) (decide_eq_false (by omega))
  · obtain ⟨e, y3, rfl⟩ := Pn
    refine q_forR1 (n := (S.length : Int)) (ea_cons (ev_lenS (ev_var rfl) (hS.ex e)) ea_nil) (by omega) (fun n σ' H' => Ex H H' ∧ ∃ y3, σ' = [some (.ref a), some (.ref p), some (.ref k), y3]) (fun H2 e2 => ⟨e.trans e2, _, rfl⟩) (fun n σ' H' hn Pn => ?_) fun σ' H' Pn => ?_
    · obtain ⟨e, y3, rfl⟩ := Pn
      have hn' : n < S.length := by omega
      have xA : Ev (tOp (rIxL K) (tVar 1) (tVar 3)) [some (.ref a), some (.ref p), some (.ref k), some (.int (n : Int))] H' (av (gA x n)) := ev_xA (ev_var rfl) (ev_var rfl) (e _ _ hp) (by rw [hl]; exact hn')
      refine s_when (b := false) ?_ (fun hb => by cases hb) fun _ H4 e4 => ⟨e.trans e4, _, rfl⟩
      refine et_is (et_and (a := (gA x n).isSome) (b := false) (et_test (ev_notN xA)) fun hs => ?_) (by rw [Bool.and_false])
      obtain ⟨v, hv⟩ := Option.isSome_iff_exists.mp hs
      refine et_is (et_and (a := decide (0 < v)) (b := false) (et_test (ev_gt (ev_is xA (by rw [hv]; rfl)) ev_c)) fun hpos => ?_) (by rw [Bool.and_false])
      obtain ⟨c, hc1, hc2⟩ := ev_xS (K := K) (ta := tVar 0) (tb := tVar 3) (σ := [some (V.ref a), some (.ref p), some (.ref k), some (nv n)]) (ev_var rfl) (ev_var rfl) (hS.ex e) (fAt_get hn')
      refine et_is (et_and (a := !(fAt S n).isA) (b := false) (et_test (ev_nA (ev_k0 hc1 hc2))) fun hA => ?_) (by rw [Bool.and_false])
      have hA : (fAt S n).isA = false := by simpa using hA
      have hfl := R.falls n v hn' hv (of_decide_eq_true hpos)
      have hrs : (gC rk n).isSome = true := by
        have hf := R.fin n hn'
        rw [hv] at hf
        cases eo : gC rk n with
        | none =>
          rw [eo] at hf
          cases hf
        | some k => rfl
      exact et_is (et_not (et_B (ev_call (ea_cons (ev_var rfl) (ea_cons (ev_var rfl) (ea_cons (ev_var rfl) (ea_cons (ev_var rfl) ea_nil)))) (sv_lFalls (hS.ex e) (e _ _ hp) (e _ _ hk) hl rl hn' ok pl hrs hA)))) (by rw [hfl]; rfl)
    · obtain ⟨e, y3, rfl⟩ := Pn
      exact s_ret ev_c fun H2 e2 => q H2 (e.trans e2)
end Cs
set_option Elab.async false
set_option linter.all false
set_option maxRecDepth 100000
set_option maxHeartbeats 4000000
/-! LF: the form of the paper -/
namespace Cs
open PySem PySem.Spec PyProof.Rows L2 Evl LamX
variable {P : Program} {w : World} {K : PySem.W.Frag} {mg : Str → Option Value} {base : Heap}
def whole (v : V) : Prop := v = .non ∨ ∃ i, v = .int i
theorem whole_av (a : Amt) : whole (av a) := by
  cases a with
  | none => exact .inl rfl
  | some i => exact .inr ⟨i, rfl⟩
theorem whole_cv (a : Option Nat) : whole (cv a) := by
  cases a with
  | none => exact .inl rfl
  | some i => exact .inr ⟨_, rfl⟩
theorem whole_map {α : Type} {f : α → V} (h : ∀ a, whole (f a)) {l : List α} : ∀ v ∈ l.map f, whole v := fun v hv => by
  obtain ⟨a, _, rfl⟩ := List.mem_map.mp hv
  exact h a
def spLAreWholes : Sp := fun vs H Q _ => ∃ (p : Addr) (xs : List V), vs = [.ref p] ∧ H p = some (.lst xs) ∧ xs.length ≤ 50000 ∧ (∀ v ∈ xs, whole v) ∧ RetV (.bl true) H Q
theorem sv_lAreWholes {p : Addr} {xs : List V} {H : Hp} (h : H p = some (.lst xs)) (hl : xs.length ≤ 50000) (hw : ∀ v ∈ xs, whole v) : SpV spLAreWholes [.ref p] H (.bl true) := fun H1 e Q q _ => ⟨p, xs, rfl, e _ _ h, hl, hw, q⟩
theorem all_true {α : Type} : ∀ l : List α, (l.map fun _ => true).all id = true
  | [] => rfl
  | _ :: l => all_true l
theorem ok_lAreWholes (T : Bt mg) (h : Has K mg "_law_are_wholes" sLAreWholes) : Cl P w K mg base 1 "_law_are_wholes" spLAreWholes := by
  refine cl_of h scLAreWholes (fun _ _ _ _ _ _ us hl => match us, hl with | [_], _ => rfl) (fun vs H Q E h => ?_) (fun f cdv A outer s H vs Q E hr h => ?_)
  · obtain ⟨p, xs, rfl, _⟩ := h
    rfl
  obtain ⟨p, xs, rfl, hp, hl, hw, q⟩ := h
  refine ⟨_, (pss_cons (ps_if (pt_not (pt_val (pe_callB (call_isiK2 (K := K)) (by rfl) T.b_isinstance (by decide +kernel) (pa_cons (pv 0) (pa_cons (pe_bltn (v := .ty "list") (by rfl) T.b_list (by decide +kernel) rfl) pa_nil))))) (pss_one (ps_ret pe_bl)) pss_nil)
      (pss_one (ps_ret (pe_callB (cr_all rfl) (by rfl) T.b_all (by decide +kernel) (pa_cons (pe_lc (own := [("_law_one", 1)]) rfl scLAreWholes.nd (pi_list (pv 0)) (blkOk_by (own := [("_law_one", 1)]) (N := nLAreWholes) (sc := defScope sLAreWholes) (by decide +kernel)) (fun _ _ _ _ _ => (pg_name (i := 1) scLAreWholes.nd rfl (Or.inl rfl))) (fun _ _ _ _ _ => pts_nil) (fun _ _ _ _ _ => (pe_or (pe_cmpR op_isN (pv 1) pe_non (nomark _)) (pe_one (pe_and (pe_callB (call_isiK2 (K := K)) (by rfl) T.b_isinstance (by decide +kernel) (pa_cons (pv 1) (pa_cons (pe_bltn (v := .ty "int") (by rfl) T.b_int (by decide +kernel) rfl) pa_nil))) (pe_one (pe_not (pe_callB (call_isiK2 (K := K)) (by rfl) T.b_isinstance (by decide +kernel) (pa_cons (pv 1) (pa_cons (pe_bltn (v := .ty "bool") (by rfl) T.b_bool (by decide +kernel) rfl) pa_nil)))))))))) pa_nil))))), ?_⟩
  refine q_when (b := false) (et_is (et_not (et_B (ev_isi (a := "list") (r := true) (ev_var rfl) (fun H1 e => ty_lst (e _ _ hp)) rfl))) rfl) (fun hb => by cases hb) fun _ H1 e1 => ?_
  refine s_ret (v := .bl ((xs.map fun _ => true).all id)) (ev_allL (K := K) (by
    rw [List.map_map]
    have z := el_lc (K := K) (α := V) (xs := xs) (ys := xs) (tl := tVar 0) (t := tYes) (g := gName 1) (vs := [1]) (σ := L2.start nLAreWholes [V.ref p]) (H := H1) (te := tOrV (tOp (fun x y H Q => y = .non ∧ Q (.bl (decide (x = .non))) H) (tVar 1) (tC .non)) (tAndV (tCB (rIsi K) (tCons (tVar 1) (tCons (tC (.ty "int")) tNil))) (tNotV (tCB (rIsi K) (tCons (tVar 1) (tCons (tC (.ty "bool")) tNil)))))) (fun _ => true) (fun _ => V.bl true) (ev_var rfl) (sq_of (e1 _ _ hp)) rfl hl fun n u y hu hy => ⟨_, fun H1 e1 Q q => q, rfl, fun H1 e1 H2 e2 Q k => k H2 (Ex.refl H2), fun _ H2 e2 => by
      have ey : u = y := Option.some.inj (hu.symm.trans hy)
      subst ey
      rcases hw u (List.mem_of_getElem? hu) with rfl | ⟨i, rfl⟩
      · exact ev_orV (a := true) (b := true) (ev_is (ev_isNV (ev_var rfl)) rfl) fun h => by cases h
      · exact ev_orV (a := false) (b := true) (ev_is (ev_isNV (ev_var rfl)) rfl) fun _ => ev_andV (a := true) (b := true) (ev_isi (ev_var rfl) (fun _ _ => ty_int) rfl) fun _ => ev_notV (a := false) (ev_isi (ev_var rfl) (fun _ _ => ty_int) rfl)⟩
    rw [filter_true] at z
    exact z)) fun H2 e2 => ?_
  rw [all_true]
  exact q H2 (e1.trans e2)
def spLAreAmounts : Sp := fun vs H Q _ => ∃ (p : Addr) (x : List Amt), vs = [.ref p, .int (x.length : Int)] ∧ H p = some (.lst (x.map av)) ∧ (∀ i, nn (gA x i)) ∧ RetV (.bl true) H Q
theorem sv_lAreAmounts {p : Addr} {x : List Amt} {H : Hp} (h : H p = some (.lst (x.map av))) (hn : ∀ i, nn (gA x i)) : SpV spLAreAmounts [.ref p, .int (x.length : Int)] H (.bl true) := fun H1 e Q q _ => ⟨p, x, rfl, e _ _ h, hn, q⟩
theorem ok_lAreAmounts (T : Bt mg) (h : Has K mg "_law_are_amounts" sLAreAmounts) : Cl P w K mg base 1 "_law_are_amounts" spLAreAmounts := by
  refine cl_of h scLAreAmounts (fun _ _ _ _ _ _ us hl => match us, hl with | [_, _], _ => rfl) (fun vs H Q E h => ?_) (fun f cdv A outer s H vs Q E hr h => ?_)
  · obtain ⟨p, x, rfl, _⟩ := h
    rfl
  obtain ⟨p, x, rfl, hp, hn, q⟩ := h
  refine ⟨_, (pss_cons (ps_if (PW.pt (pw_or (pt_not (pt_val (pe_callB (call_isiK2 (K := K)) (by rfl) T.b_isinstance (by decide +kernel) (pa_cons (pv 0) (pa_cons (pe_bltn (v := .ty "list") (by rfl) T.b_list (by decide +kernel) rfl) pa_nil))))) (pw_or1 (pt_cmpR op_ne (pe_callB (call_lenK (K := K)) (by rfl) T.b_len PySem.boot_len (pa_cons (pv 0) pa_nil)) (pv 1) (nomark _))))) (pss_one (ps_ret pe_bl)) pss_nil)
      (pss_cons (ps_for PassesOwn.never rfl (pi_list (pv 0)) (pg_name (i := 2) scLAreAmounts.nd rfl (Or.inl rfl)) (pss_one (ps_if (PW.pt (pw_and (pt_cmpR op_notN (pv 2) pe_non (nomark _)) (pw_and1 (PW.pt (pw_or (pt_not (pt_val (pe_callB (call_isiK2 (K := K)) (by rfl) T.b_isinstance (by decide +kernel) (pa_cons (pv 2) (pa_cons (pe_bltn (v := .ty "int") (by rfl) T.b_int (by decide +kernel) rfl) pa_nil))))) (pw_or (pt_val (pe_callB (call_isiK2 (K := K)) (by rfl) T.b_isinstance (by decide +kernel) (pa_cons (pv 2) (pa_cons (pe_bltn (v := .ty "bool") (by rfl) T.b_bool (by decide +kernel) rfl) pa_nil)))) (pw_or1 (pt_cmpR op_lt (pv 2) pe_int (nomark _))))))))) (pss_one (ps_ret pe_bl)) pss_nil)))
      (pss_one (ps_ret pe_bl)))), ?_⟩
  refine q_when (b := false) (et_is (et_or (a := false) (b := false) (et_is (et_not (et_B (ev_isi (a := "list") (r := true) (ev_var rfl) (fun H1 e => ty_lst (e _ _ hp)) rfl))) rfl) fun _ => et_is (et_test (ev_ne (ev_lenM (ev_var rfl) hp) (ev_var rfl) rfl)) (by rw [decide_eq_true rfl]; rfl)) rfl) (fun hb => by cases hb) fun _ H1 e1 => ?_
  refine q_forLn (ev_var rfl) (sq_of (e1 _ _ hp)) (fun n σ' H' => Ex H H' ∧ ∃ y, σ' = [some (.ref p), some (.int (x.length : Int)), y]) (fun H2 e2 => ⟨e1.trans e2, _, rfl⟩) (fun n σ' H' _ q => sq_of (q.1 _ _ hp)) (fun n u σ' H' hu Pn => ?_) fun σ' H' Pn => ?_
  · obtain ⟨e, y, rfl⟩ := Pn
    obtain ⟨am, ham, rfl⟩ := getMap hu
    refine s_when (b := false) ?_ (fun hb => by cases hb) fun _ H2 e2 => ⟨e.trans e2, _, rfl⟩
    refine et_is (et_and (a := am.isSome) (b := false) (et_test (ev_notN (ev_var rfl))) fun hs => ?_) (by rw [Bool.and_false])
    obtain ⟨v, rfl⟩ := Option.isSome_iff_exists.mp hs
    have hv := hn n v (gA_some ham)
    exact et_is (et_or (a := false) (b := false) (et_is (et_not (et_B (ev_isi (a := "int") (r := true) (ev_var rfl) (fun _ _ => ty_int) rfl))) rfl) fun _ => et_or (a := false) (b := false) (et_B (ev_isi (a := "int") (r := false) (ev_var rfl) (fun _ _ => ty_int) rfl)) fun _ => et_is (et_test (ev_lt (ev_var rfl) ev_c)) (decide_eq_false (by omega))) rfl
  · obtain ⟨e, y, rfl⟩ := Pn
    exact s_ret ev_c fun H2 e2 => q H2 (e.trans e2)
section
variable {σ : L2.St} {H : Hp} {ta tl te : TE}
theorem ev_lenU {p : Addr} {xs : List V} (ha : Ev ta σ H (.ref p)) (h : H p = some (.tup xs)) : Ev (tCB (fun xs H Q => ∃ p ys, xs = [V.ref p] ∧ (SqL K H p ys ∨ SqT K H p ys) ∧ Q (.int ys.length) H) (tCons ta tNil)) σ H (.int (xs.length : Int)) := ev_cb (ea_cons ha ea_nil) fun H1 e Q q => ⟨p, xs, rfl, .inr (st_of (e _ _ h)), q H1 (Ex.refl H1)⟩
theorem ev_lenNL {xs : List V} (h : EvL ta σ H xs) : Ev (tCB (fun xs H Q => ∃ p ys, xs = [V.ref p] ∧ (SqL K H p ys ∨ SqT K H p ys) ∧ Q (.int ys.length) H) (tCons ta tNil)) σ H (.int (xs.length : Int)) := fun H1 e Q q => h H1 e _ fun p H2 hp e2 h2 => ⟨p, xs, rfl, .inl (sq_of h2), q H2 e2⟩
/-- a comprehension over a tuple, nothing left out -/
theorem el_lcT {a : Addr} {xs : List V} {j : Nat} (F : V → V) (h : Ev tl σ H (.ref a)) (hx : H a = some (.tup xs)) (hz : xs.length ≤ 50000) (hw : ∀ x, wipe ((wipe σ [j]).set j (some x)) [j] = wipe σ [j])
    (he : ∀ x ∈ xs, ∀ H1, Ex H H1 → Ev te ((wipe σ [j]).set j (some x)) H1 (F x)) : EvL (tLc (iTup K tl) (gName j) tYes te [j]) σ H (xs.map F) := fun H0 e Q q => h H0 e _ fun H1 e1 => ⟨a, rfl, ⟨xs, st_of ((e.trans e1) _ _ hx)⟩, fun Dl hD => by
  refine lc_tup (xs := xs) (fun n H' => H1 Dl = none ∧ Ex H1 H' ∧ H' Dl = some (.lst ((xs.take n).map F))) ⟨hD, Ex.new hD, by rw [upd_same, List.take_zero]; rfl⟩ (fun i H' _ q' => st_of (((e.trans e1).trans q'.2.1) _ _ hx)) (fun n x H' hi q' => ?_) fun H' q' => q Dl H' (fresh_back e1 q'.1) (e1.trans q'.2.1) (by rw [q'.2.2, List.take_of_length_le (Nat.le_refl _)])
  obtain ⟨q1, q2, q3⟩ := q'
  have e3 := (e.trans e1).trans q2
  refine ⟨hw x, ?_⟩
  show te _ H' _
  refine he x (List.mem_of_getElem? hi) H' e3 H' (Ex.refl _) _ fun H4 e4 => ⟨_, e4 _ _ q3, sz_lt ?_, q1, Ex.mut (q2.trans e4) q1, ?_⟩
  · rw [List.length_map, List.length_take]
    omega
  · rw [upd_same, List.take_add_one, hi, List.map_append]
    rfl⟩
end
/-! ### _law_is_least_form -/
theorem xs_nn {S : List Fm} (ok : Wf S) (k i : Nat) : nn (gA (xs S k) i) := by
  unfold xs
  rw [gA_lfpL (opn_ms ok _)]
  exact lfp_nn _ i
def spLIsLeastForm : Sp := spIsLeastPaper
theorem ok_lIsLeastForm (T : Bt mg) (h : Has K mg "_law_is_least_form" sLIsLeastForm) (cLAreWholes : Cl P w K mg base 1 "_law_are_wholes" spLAreWholes) (cLAreAmounts : Cl P w K mg base 1 "_law_are_amounts" spLAreAmounts) : Cl P w K mg base 2 "_law_is_least_form" spIsLeastPaper := by
  refine cl_of h scLIsLeastForm (fun _ _ _ _ _ _ us hl => match us, hl with | [_, _], _ => rfl) (fun vs H Q E h => ?_) (fun f cdv A outer s H vs Q E hr h => ?_)
  · obtain ⟨a, p, S, rfl, _⟩ := h
    rfl
  obtain ⟨a, p, S, rfl, hS, ok, hP, q⟩ := h
  obtain ⟨ads, p1, p2⟩ := hP
  have hlen := ok.len
  refine ⟨_, (pss_cons (ps_if (pt_not (pt_val (pe_callB (call_isiK2 (K := K)) (by rfl) T.b_isinstance (by decide +kernel) (pa_cons (pv 1) (pa_cons (pe_bltn (v := .ty "list") (by rfl) T.b_list (by decide +kernel) rfl) pa_nil))))) (pss_one (ps_ret pe_bl)) pss_nil)
      (pss_cons (ps_for PassesOwn.never rfl (pi_list (pv 1)) (pg_name (i := 2) scLIsLeastForm.nd rfl (Or.inl rfl)) (pss_cons (ps_if (PW.pt (pw_or (pt_not (pt_val (pe_callB (call_isiK2 (K := K)) (by rfl) T.b_isinstance (by decide +kernel) (pa_cons (pv 2) (pa_cons (pe_bltn (v := .ty "tuple") (by rfl) T.b_tuple (by decide +kernel) rfl) pa_nil))))) (pw_or (pt_cmpR op_ne (pe_callB (call_lenK (K := K)) (by rfl) T.b_len PySem.boot_len (pa_cons (pv 2) pa_nil)) pe_int (nomark _)) (pw_or1 (pt_not (pt_val (pe_callB (cr_all rfl) (by rfl) T.b_all (by decide +kernel) (pa_cons (pe_lc (own := [("_law_part", 3)]) rfl scLIsLeastForm.nd (pi_tup (pv 2)) (blkOk_by (own := [("_law_part", 3)]) (N := nLIsLeastForm) (sc := defScope sLIsLeastForm) (by decide +kernel)) (fun _ _ _ _ _ => (pg_name (i := 3) scLIsLeastForm.nd rfl (Or.inl rfl))) (fun _ _ _ _ _ => pts_nil) (fun _ _ _ _ _ => (pe_k cLAreWholes (hr.mono (by decide)) (by rfl) (pa_cons (pv 3) pa_nil)))) pa_nil)))))))) (pss_one (ps_ret pe_bl)) pss_nil)
      (pss_cons (ps_if (PW.pt (pw_or (pt_not (pt_val (pe_k cLAreAmounts (hr.mono (by decide)) (by rfl) (pa_cons (pe_ix (ix_tupK (K := K)) (pv 2) pe_int (fun _ _ => rfl)) (pa_cons (pe_callB (call_lenK (K := K)) (by rfl) T.b_len PySem.boot_len (pa_cons (pv 0) pa_nil)) pa_nil))))) (pw_or1 (pt_val (pe_callB (cr_any rfl) (by rfl) T.b_any (by decide +kernel) (pa_cons (pe_lc (own := [("_law_one", 4)]) rfl scLIsLeastForm.nd (pi_list (pe_ix (ix_tupK (K := K)) (pv 2) pe_int (fun _ _ => rfl))) (blkOk_by (own := [("_law_one", 4)]) (N := nLIsLeastForm) (sc := defScope sLIsLeastForm) (by decide +kernel)) (fun _ _ _ _ _ => (pg_name (i := 4) scLIsLeastForm.nd rfl (Or.inl rfl))) (fun _ _ _ _ _ => pts_nil) (fun _ _ _ _ _ => (pe_cmpR op_isN (pv 4) pe_non (nomark _)))) pa_nil)))))) (pss_one (ps_ret pe_bl)) pss_nil)
      (pss_one (ps_if (PW.pt (pw_or (pt_cmpR op_ne (pe_callB (call_lenK (K := K)) (by rfl) T.b_len PySem.boot_len (pa_cons (pe_ix (ix_tupK (K := K)) (pv 2) pe_int (fun _ _ => rfl)) pa_nil)) (pe_callB (call_lenK (K := K)) (by rfl) T.b_len PySem.boot_len (pa_cons (pv 0) pa_nil)) (nomark _)) (pw_or1 (pt_cmpR op_ne (pe_callB (call_lenK (K := K)) (by rfl) T.b_len PySem.boot_len (pa_cons (pe_ix (ix_tupK (K := K)) (pv 2) pe_int (fun _ _ => rfl)) pa_nil)) (pe_callB (call_lenK (K := K)) (by rfl) T.b_len PySem.boot_len (pa_cons (pv 0) pa_nil)) (nomark _))))) (pss_one (ps_ret pe_bl)) pss_nil)))))
      (pss_one (ps_ret pe_bl)))), ?_⟩
  refine q_when (b := false) (et_is (et_not (et_B (ev_isi (a := "list") (r := true) (ev_var rfl) (fun H1 e => ty_lst (e _ _ p1)) rfl))) rfl) (fun hb => by cases hb) fun _ H1 e1 => ?_
  refine q_forLn (ev_var rfl) (sq_of (e1 _ _ p1)) (fun n σ' H' => Ex H H' ∧ ∃ y2 y3 y4, σ' = [some (.ref a), some (.ref p), y2, y3, y4]) (fun H2 e2 => ⟨e1.trans e2, _, _, _, rfl⟩) (fun n σ' H' _ q => sq_of (q.1 _ _ p1)) (fun n u σ' H' hu Pn => ?_) fun σ' H' Pn => ?_
  · obtain ⟨e, y2, y3, y4, rfl⟩ := Pn
    obtain ⟨t, ht, rfl⟩ := getMap hu
    obtain ⟨k, hk, hR⟩ := paired_get2 p2 ht
    obtain ⟨p', x, r, c, v, rk, ch, pt, h1, h2, h3, h4, h5, h6, hst⟩ := hR
    obtain ⟨hrk, hch, hsh, hiso⟩ := hst
    have ol : (opn S (stg S k)).length = S.length := opn_len _ _
    have l1 := stg_le (S := S) k
    have l2 := xs_len S k
    have l3 : rk.length = S.length := by rw [hrk.len, ol]
    have l4 : ch.length = S.length := by rw [hch.len, ol]
    have l5 : pt.length = S.length := by rw [hsh.len, ol]
    have t1 := e _ _ h1
    have whl : ∀ z ∈ [V.ref p', .ref x, .ref r, .ref c, .ref v], ∀ H2, Ex H' H2 → Ev (tCall spLAreWholes [] L2.E0 (tCons (tVar 3) tNil)) ((wipe [some (V.ref a), some (.ref p), some (.ref t), y3, y4] [3]).set 3 (some z)) H2 (.bl true) := fun z hz H2 e2 => by
      have eH := e.trans e2
      simp only [List.mem_cons, List.not_mem_nil, or_false] at hz
      rcases hz with rfl | rfl | rfl | rfl | rfl
      · exact ev_call (ea_cons (ev_var rfl) ea_nil) (sv_lAreWholes (eH _ _ h2) (by rw [List.length_map]; omega) (whole_map fun k => .inr ⟨_, rfl⟩))
      · exact ev_call (ea_cons (ev_var rfl) ea_nil) (sv_lAreWholes (eH _ _ h3) (by rw [List.length_map]; omega) (whole_map whole_av))
      · exact ev_call (ea_cons (ev_var rfl) ea_nil) (sv_lAreWholes (eH _ _ h4) (by rw [List.length_map]; omega) (whole_map whole_cv))
      · exact ev_call (ea_cons (ev_var rfl) ea_nil) (sv_lAreWholes (eH _ _ h5) (by rw [List.length_map]; omega) (whole_map whole_cv))
      · exact ev_call (ea_cons (ev_var rfl) ea_nil) (sv_lAreWholes (eH _ _ h6) (by rw [List.length_map]; omega) (whole_map whole_av))
    refine q_when (b := false) (et_is (et_or (a := false) (b := false) (et_is (et_not (et_B (ev_isi (a := "tuple") (r := true) (ev_var rfl) (fun H1 e => ty_tup (e _ _ t1)) rfl))) rfl) fun _ => et_or (a := false) (b := false) (et_is (et_test (ev_ne (ev_lenU (ev_var rfl) t1) ev_c rfl)) rfl) fun _ => et_is (et_not (et_B (ev_allL (K := K) (bs := [V.ref p', .ref x, .ref r, .ref c, .ref v].map fun _ => true) (by
      rw [List.map_map]
      exact el_lcT (fun _ => V.bl true) (ev_var rfl) t1 (by show 5 ≤ 50000; omega) (fun _ => rfl) whl)))) (by rw [all_true]; rfl)) rfl) (fun hb => by cases hb) fun _ H2 e2 => ?_
    have eH2 := e.trans e2
    have t2 := eH2 _ _ h1
    refine q_when (b := false) (et_is (et_or (a := false) (b := false) (et_is (et_not (et_B (ev_call (ea_cons (ev_xT (ev_var rfl) ev_c t2 at1) (ea_cons (ev_is (ev_lenS (ev_var rfl) (hS.ex eH2)) (by rw [← l2])) ea_nil)) (sv_lAreAmounts (eH2 _ _ h3) (xs_nn ok k))))) rfl) fun _ => et_is (et_B (ev_anyL (K := K) (bs := (stg S k).map fun _ => false) (by
      rw [List.map_map]
      exact el_mapB (fun _ => V.bl false) (ev_xT (ev_var rfl) ev_c t2 at0) (eH2 _ _ h2) (by omega) (fun _ => rfl) fun y _ H3 e3 => ev_is (ev_isNV (ev_var rfl)) rfl))) (by
      rw [any_map]
      exact List.any_eq_false.mpr fun _ _ => by simp)) rfl) (fun hb => by cases hb) fun _ H3 e3 => ?_
    have eH3 := eH2.trans e3
    have t3 := eH3 _ _ h1
    refine s_when (b := false) (et_is (et_or (a := false) (b := false) (et_is (et_test (ev_ne (ev_lenM (ev_xT (ev_var rfl) ev_c t3 at3) (eH3 _ _ h5)) (ev_lenS (ev_var rfl) (hS.ex eH3)) rfl)) (by rw [l4, decide_eq_true rfl]; rfl)) fun _ => et_is (et_test (ev_ne (ev_lenM (ev_xT (ev_var rfl) ev_c t3 (atI_nat (j := 4) rfl)) (eH3 _ _ h6)) (ev_lenS (ev_var rfl) (hS.ex eH3)) rfl)) (by rw [l5, decide_eq_true rfl]; rfl)) rfl) (fun hb => by cases hb) fun _ H4 e4 => ⟨eH3.trans e4, _, _, _, rfl⟩
  · obtain ⟨e, y2, y3, y4, rfl⟩ := Pn
    exact s_ret ev_c fun H2 e2 => q H2 (e.trans e2)
/-! ### _law_gains -/
def spLGains : Sp := fun vs H Q _ => ∃ (b t : Addr) (s : Arc) (i : Nat) (pt : List Amt) (m u qv : Int), vs = [.ref b, nv i, .ref t, .int m] ∧ H b = some (.tup (arcV s)) ∧ H t = some (.lst (pt.map av)) ∧ s.1 < pt.length ∧ i < pt.length ∧ gA pt i = some u ∧ gA pt s.1 = some qv ∧ u - qv ≤ m * s.2 - 1 ∧ CMul m s.2 ∧ RetV (.bl true) H Q
theorem sv_lGains {b t : Addr} {s : Arc} {i : Nat} {pt : List Amt} {m u qv : Int} {H : Hp} (hb : H b = some (.tup (arcV s))) (ht : H t = some (.lst (pt.map av))) (h1 : s.1 < pt.length) (h2 : i < pt.length) (hu : gA pt i = some u) (hq : gA pt s.1 = some qv) (hle : u - qv ≤ m * s.2 - 1) (hc : CMul m s.2) : SpV spLGains [.ref b, nv i, .ref t, .int m] H (.bl true) := fun H1 e Q q _ => ⟨b, t, s, i, pt, m, u, qv, rfl, e _ _ hb, e _ _ ht, h1, h2, hu, hq, hle, hc, q⟩
theorem ok_lGains (h : Has K mg "_law_gains" sLGains) : Cl P w K mg base 1 "_law_gains" spLGains := by
  refine cl_of h scLGains (fun _ _ _ _ _ _ us hl => match us, hl with | [_, _, _, _], _ => rfl) (fun vs H Q E h => ?_) (fun f cdv A outer s H vs Q E hr h => ?_)
  · obtain ⟨b, t, s, i, pt, m, u, qv, rfl, _⟩ := h
    rfl
  obtain ⟨b, t, s, i, pt, m, u, qv, rfl, hb, ht, h1, h2, hu, hq, hle, hc, q⟩ := h
  refine ⟨_, (pss_cons (ps_asg (pv 0) (pg_tupK (K := K) (n := 2) rfl (pgs_cons (pg_name (i := 4) scLGains.nd rfl (Or.inl rfl)) (pgs_cons (pg_name (i := 5) scLGains.nd rfl (Or.inl rfl)) pgs_nil))))
      (pss_one (ps_ret (pe_and (pe_cmpR op_notN (pe_ix (ix_listK (K := K)) (pv 2) (pv 4) (fun _ _ => rfl)) pe_non (nomark _)) (pe_one (pe_cmpR op_le (pe_op op_sub (pe_ix (ix_listK (K := K)) (pv 2) (pv 1) (fun _ _ => rfl)) (pe_ix (ix_listK (K := K)) (pv 2) (pv 4) (fun _ _ => rfl))) (pe_op op_sub (pe_op op_mul (pv 3) (pv 5)) pe_int) (nomark _))))))), ?_⟩
  refine ⟨_, rfl, g_pair hb (Ex.refl _) ?_⟩
  have xq : ∀ H1, Ex H H1 → Ev (tOp (rIxL K) (tVar 2) (tVar 4)) [some (.ref b), some (nv i), some (.ref t), some (.int m), some (.int (s.1 : Int)), some (.int s.2)] H1 (.int qv) := fun H1 e => ev_is (ev_xA (ev_var rfl) (ev_var rfl) (e _ _ ht) h1) (by rw [hq]; rfl)
  have xu : Ev (tOp (rIxL K) (tVar 2) (tVar 1)) [some (.ref b), some (nv i), some (.ref t), some (.int m), some (.int (s.1 : Int)), some (.int s.2)] H (.int u) := ev_is (ev_xA (ev_var rfl) (ev_var rfl) ht h2) (by rw [hu]; rfl)
  refine s_ret (v := .bl (true && decide (u - qv ≤ m * s.2 - 1))) (ev_andV (ev_is (ev_notNV (xq H (Ex.refl _))) rfl) fun _ => ev_le (ev_sub xu (xq H (Ex.refl _))) (ev_sub (ev_mul (ev_var rfl) (ev_var rfl) hc) ev_c)) fun H1 e1 => ?_
  rw [decide_eq_true hle]
  exact q H1 e1
end Cs
set_option Elab.async false
set_option linter.all false
set_option maxRecDepth 100000
set_option maxHeartbeats 4000000
/-! LG: the law's check of a paper -/
namespace Cs
open PySem PySem.Spec PyProof.Rows L2 Evl LamX
variable {P : Program} {w : World} {K : PySem.W.Frag} {mg : Str → Option Value} {base : Heap}
theorem filter_some_len (pt : List Amt) : (pt.filter (·.isSome)).length = (potCells pt.length pt).length := by
  have e : pt = (List.range pt.length).map fun i => gA pt i := by
    refine List.ext_getElem? fun i => ?_
    rw [List.getElem?_map]
    by_cases hi : i < pt.length
    · rw [gA_get hi, List.getElem?_range hi]
      rfl
    · rw [List.getElem?_eq_none (by omega), List.getElem?_eq_none (by rw [List.length_range]; omega)]
      rfl
  have z : (((List.range pt.length).map fun i => gA pt i).filter (·.isSome)).length = (potCells pt.length pt).length := by
    rw [List.filter_map, List.length_map]
    rfl
  rw [← e] at z
  exact z
/-- what the told arcs ask of one cell -/
theorem Shows.at' {S : List Fm} {ch : Ch} {pt : List Amt} (sh : Shows S ch pt) {i : Nat} {u : Int} (hu : gA pt i = some u) (hi : i < S.length) {s : Arc} (hs : s ∈ toldAt ch i (fAt S i)) : ∃ q, gA pt s.1 = some q ∧ u - q ≤ ((potCells S.length pt).length : Int) * s.2 - 1 := by
  refine sh.arcs i u hu hi s ?_
  rw [gG_some (told_get (ch := ch) (fAt_get hi))]
  exact hs
theorem ok_lShowsEndless (T : Bt mg) (h : Has K mg "_law_shows_endless" sLShowsEndless) (cLGains : Cl P w K mg base 1 "_law_gains" spLGains) : Cl P w K mg base 2 "_law_shows_endless" spShowsEndless := by
  refine cl_of h scLShowsEndless (fun _ _ _ _ _ _ us hl => match us, hl with | [_, _, _], _ => rfl) (fun vs H Q E h => ?_) (fun f cdv A outer s H vs Q E hr h => ?_)
  · obtain ⟨a, p, t, S, ch, pt, rfl, _⟩ := h
    rfl
  obtain ⟨a, p, t, S, ch, pt, rfl, hS, hp, ht, ok, pl, hch, sh, q⟩ := h
  have hlen := ok.len
  have cl := hch.len
  have tl := sh.len
  have pl13 := potCells_len S.length pt
  refine ⟨_, (pss_cons (ps_if (PW.pt (pw_or (pt_cmpR op_ne (pe_callB (call_lenK (K := K)) (by rfl) T.b_len PySem.boot_len (pa_cons (pv 1) pa_nil)) (pe_callB (call_lenK (K := K)) (by rfl) T.b_len PySem.boot_len (pa_cons (pv 0) pa_nil)) (nomark _)) (pw_or1 (pt_cmpR op_ne (pe_callB (call_lenK (K := K)) (by rfl) T.b_len PySem.boot_len (pa_cons (pv 2) pa_nil)) (pe_callB (call_lenK (K := K)) (by rfl) T.b_len PySem.boot_len (pa_cons (pv 0) pa_nil)) (nomark _))))) (pss_one (ps_ret pe_bl)) pss_nil)
      (pss_cons (ps_for PassesOwn.never rfl (pi_range1 (by rfl) T.b_range (pa_cons (pe_callB (call_lenK (K := K)) (by rfl) T.b_len PySem.boot_len (pa_cons (pv 0) pa_nil)) pa_nil)) (pg_name (i := 3) scLShowsEndless.nd rfl (Or.inr rfl)) (pss_one (ps_if (pt_cmpR op_ne (pe_ix (ix_tupK (K := K)) (pe_ix (ix_listK (K := K)) (pv 0) (pv 3) (fun _ _ => rfl)) pe_int (fun _ _ => rfl)) pe_str (nomark _)) (pss_one (ps_if (pt_cmpR op_notN (pe_ix (ix_listK (K := K)) (pv 1) (pv 3) (fun _ _ => rfl)) pe_non (nomark _)) (pss_one (ps_ret pe_bl)) pss_nil)) (pss_one (ps_if (PW.pt (pw_or (pt_cmpR op_isN (pe_ix (ix_listK (K := K)) (pv 1) (pv 3) (fun _ _ => rfl)) pe_non (nomark _)) (pw_or1 (pt_not (pt_chain op_le op_lt pe_int (pe_ix (ix_listK (K := K)) (pv 1) (pv 3) (fun _ _ => rfl)) (pe_callB (call_lenK (K := K)) (by rfl) T.b_len PySem.boot_len (pa_cons (pe_ix (ix_tupK (K := K)) (pe_ix (ix_listK (K := K)) (pv 0) (pv 3) (fun _ _ => rfl)) pe_int (fun _ _ => rfl)) pa_nil))))))) (pss_one (ps_ret pe_bl)) pss_nil)))))
      (pss_cons (ps_set (i := 4) scLShowsEndless.nd rfl (Or.inr rfl) (pe_callB (call_lenK (K := K)) (by rfl) T.b_len PySem.boot_len (pa_cons (pe_lc (own := [("_law_one", 7)]) rfl scLShowsEndless.nd (pi_list (pv 2)) (blkOk_by (own := [("_law_one", 7)]) (N := nLShowsEndless) (sc := defScope sLShowsEndless) (by decide +kernel)) (fun _ _ _ _ _ => (pg_name (i := 7) scLShowsEndless.nd rfl (Or.inl rfl))) (fun _ _ _ _ _ => (pts_one (pt_cmpR op_notN (pv 7) pe_non (nomark _)))) (fun _ _ _ _ _ => (pv 7))) pa_nil)))
      (pss_cons (ps_for PassesOwn.never rfl (pi_range1 (by rfl) T.b_range (pa_cons (pe_callB (call_lenK (K := K)) (by rfl) T.b_len PySem.boot_len (pa_cons (pv 0) pa_nil)) pa_nil)) (pg_name (i := 3) scLShowsEndless.nd rfl (Or.inr rfl)) (pss_one (ps_if (pt_cmpR op_notN (pe_ix (ix_listK (K := K)) (pv 2) (pv 3) (fun _ _ => rfl)) pe_non (nomark _)) (pss_cons (ps_asg (pe_ix (ix_listK (K := K)) (pv 0) (pv 3) (fun _ _ => rfl)) (pg_tupK (K := K) (n := 2) rfl (pgs_cons (pg_name (i := 5) scLShowsEndless.nd rfl (Or.inl rfl)) (pgs_cons (pg_name (i := 6) scLShowsEndless.nd rfl (Or.inl rfl)) pgs_nil))))
      (pss_one (ps_if (pt_cmpR op_eq (pv 5) pe_str (nomark _)) (pss_one (ps_if (pt_cmpR op_notN (pv 6) pe_non (nomark _)) (pss_one (ps_ret pe_bl)) pss_nil)) (pss_one (ps_if (pt_cmpR op_eq (pv 5) pe_str (nomark _)) (pss_one (ps_if (pt_not (pt_val (pe_k cLGains (hr.mono (by decide)) (by rfl) (pa_cons (pe_ix (ix_listK (K := K)) (pv 6) (pe_ix (ix_listK (K := K)) (pv 1) (pv 3) (fun _ _ => rfl)) (fun _ _ => rfl)) (pa_cons (pv 3) (pa_cons (pv 2) (pa_cons (pv 4) pa_nil))))))) (pss_one (ps_ret pe_bl)) pss_nil)) (pss_one (ps_if (pt_not (pt_val (pe_callB (cr_all rfl) (by rfl) T.b_all (by decide +kernel) (pa_cons (pe_lc (own := [("_law_arc", 8)]) rfl scLShowsEndless.nd (pi_list (pv 6)) (blkOk_by (own := [("_law_arc", 8)]) (N := nLShowsEndless) (sc := defScope sLShowsEndless) (by decide +kernel)) (fun _ _ _ _ _ => (pg_name (i := 8) scLShowsEndless.nd rfl (Or.inl rfl))) (fun _ _ _ _ _ => pts_nil) (fun _ _ _ _ _ => (pe_k cLGains (hr.mono (by decide)) (by rfl) (pa_cons (pv 8) (pa_cons (pv 3) (pa_cons (pv 2) (pa_cons (pv 4) pa_nil))))))) pa_nil)))) (pss_one (ps_ret pe_bl)) pss_nil))))))) pss_nil)))
      (pss_one (ps_ret pe_bl)))))), ?_⟩
  refine q_when (b := false) (et_is (et_or (a := false) (b := false) (et_is (et_test (ev_ne (ev_lenM (ev_var rfl) hp) (ev_lenS (ev_var rfl) hS) rfl)) (by rw [cl, decide_eq_true rfl]; rfl)) fun _ => et_is (et_test (ev_ne (ev_lenM (ev_var rfl) ht) (ev_lenS (ev_var rfl) hS) rfl)) (by rw [tl, decide_eq_true rfl]; rfl)) rfl) (fun hb => by cases hb) fun _ H1 e1 => ?_
  refine q_forR1 (n := (S.length : Int)) (ea_cons (ev_lenS (ev_var rfl) (hS.ex e1)) ea_nil) (by omega) (fun n σ' H' => Ex H H' ∧ ∃ y3 y4 y5 y6 y7 y8, σ' = [some (.ref a), some (.ref p), some (.ref t), y3, y4, y5, y6, y7, y8]) (fun H2 e2 => ⟨e1.trans e2, _, _, _, _, _, _, rfl⟩) (fun n σ' H' hn Pn => ?_) fun σ' H' Pn => ?_
  · obtain ⟨e, y3, y4, y5, y6, y7, y8, rfl⟩ := Pn
    have hn' : n < S.length := by omega
    have hg := fAt_get hn'
    obtain ⟨c, hc1, hc2⟩ := ev_xS (K := K) (ta := tVar 0) (tb := tVar 3) (σ := [some (V.ref a), some (.ref p), some (.ref t), some (nv n), y4, y5, y6, y7, y8]) (ev_var rfl) (ev_var rfl) (hS.ex e) hg
    have hca := hch.at_ n _ hg
    have hcv : ∀ H1, Ex H' H1 → Ev (tOp (rIxL K) (tVar 1) (tVar 3)) [some (V.ref a), some (.ref p), some (.ref t), some (nv n), y4, y5, y6, y7, y8] H1 (cv (gC ch n)) := fun H1 e1 => ev_xC (ev_var rfl) (ev_var rfl) ((e.trans e1) _ _ hp) (by rw [cl]; exact hn')
    refine s_if (et_test (ev_nG (ev_k0 hc1 hc2))) (fun hb H2 e2 => ?_) fun hb H2 e2 => ?_
    · have ho : gC ch n = none := by
        cases hq : fAt S n with
        | great arcs =>
          rw [hq] at hb
          cases hb
        | _ =>
          rw [hq] at hca
          exact hca
      exact s_when (b := false) (et_is (et_test (ev_notNC (hcv H2 e2))) (by rw [ho]; rfl)) (fun hb => by cases hb) fun _ H3 e3 => ⟨e.trans (e2.trans e3), _, _, _, _, _, _, rfl⟩
    · cases hq : fAt S n with
      | great arcs =>
        rw [hq] at hca hc2
        obtain ⟨k, hk, hk2⟩ := hca
        obtain ⟨l, l1, ads, l2, l3⟩ := hc2.ex e2
        have hlen2 : (ads.map V.ref).length = arcs.length := by rw [List.length_map, paired_len l3]
        have hv := hcv H2 e2
        rw [hk] at hv
        have hv : Ev (tOp (rIxL K) (tVar 1) (tVar 3)) [some (V.ref a), some (.ref p), some (.ref t), some (nv n), y4, y5, y6, y7, y8] H2 (.int (k : Int)) := hv
        refine s_when (b := false) (et_is (et_or (a := false) (b := false) (et_is (et_test (ev_isNV hv)) rfl) fun _ => et_is (et_not (et_test (ev_chain (k := true) (k' := true) (r := rI0 fun i j => .bl (decide (i ≤ j))) (r' := rI0 fun i j => .bl (decide (i < j))) (x := .int 0) (y := .int (k : Int)) (z := .int ((ads.map V.ref).length : Int)) ev_c hv (rv_leT (by omega)) (fun _ => ev_lenL (K := K) (ev_xT (K := K) (hc1.mono e2) ev_c l1 at1) l2) fun _ => rv_ltT (by rw [hlen2]; omega)))) rfl) rfl) (fun hb => by cases hb) fun _ H3 e3 => ⟨e.trans (e2.trans e3), _, _, _, _, _, _, rfl⟩
      | _ =>
        rw [hq] at hb
        cases hb
  · obtain ⟨e, y3, y4, y5, y6, y7, y8, rfl⟩ := Pn
    -- how many have a potential
    have hmany : ((pt.filter (·.isSome)).map av).length = (potCells S.length pt).length := by rw [List.length_map, filter_some_len, tl]
    refine q_asg (v := .int ((potCells S.length pt).length : Int)) (ev_is (ev_lenNL (el_lc (K := K) (α := Amt) (xs := pt.map av) (ys := pt) (·.isSome) av (ev_var rfl) (sq_of (e _ _ ht)) (List.length_map _) (by omega) fun n u y hu hy => by
      obtain ⟨y', hy', rfl⟩ := getMap hu
      have ey : y' = y := Option.some.inj (hy'.symm.trans hy)
      subst ey
      exact ⟨_, fun H1 e1 Q q => q, rfl, fun H1 e1 => et_test (ev_notN (ev_var rfl)), fun _ H1 e1 => ev_var rfl⟩)) (by rw [hmany])) fun H2 e2 => ?_
    have cm : ∀ z : Int, CMul ((potCells S.length pt).length : Int) z := fun z => .inl ⟨by omega, by omega⟩
    generalize hM : ((potCells S.length pt).length : Int) = M at cm
    have eH2 := e.trans e2
    refine q_forR1 (n := (S.length : Int)) (ea_cons (ev_lenS (ev_var rfl) (hS.ex eH2)) ea_nil) (by omega) (fun n σ' H' => Ex H H' ∧ ∃ y3 y5 y6 y7 y8, σ' = [some (.ref a), some (.ref p), some (.ref t), y3, some (.int M), y5, y6, y7, y8]) (fun H3 e3 => ⟨eH2.trans e3, _, _, _, _, _, rfl⟩) (fun n σ' H' hn Pn => ?_) fun σ' H' Pn => ?_
    · obtain ⟨e, y3, y5, y6, y7, y8, rfl⟩ := Pn
      have hn' : n < S.length := by omega
      have hg := fAt_get hn'
      have okf := ok.ok n _ hg
      have oka := arcsOf_ok okf
      refine s_when (et_test (ev_notN (ev_xA (ev_var rfl) (ev_var rfl) (e _ _ ht) (by rw [tl]; exact hn')))) (fun hb H3 e3 => ?_) fun hb H3 e3 => ⟨e.trans e3, _, _, _, _, _, rfl⟩
      obtain ⟨u, hu⟩ := Option.isSome_iff_exists.mp hb
      have eH3 := e.trans e3
      have sAt := fun s hs => sh.at' (s := s) hu hn' hs
      rw [hM] at sAt
      obtain ⟨c, hc1, hc2⟩ := ev_xS (K := K) (ta := tVar 0) (tb := tVar 3) (σ := [some (V.ref a), some (.ref p), some (.ref t), some (nv n), some (.int M), y5, y6, y7, y8]) (ev_var rfl) (ev_var rfl) (hS.ex eH3) hg
      have plw := pl n _ hg
      -- a loop over a formula's arcs
      have gain : ∀ (b : Addr) (s : Arc) H4, Ex H H4 → H4 b = some (.tup (arcV s)) → s ∈ toldAt ch n (fAt S n) → s.1 < S.length → SpV spLGains [.ref b, nv n, .ref t, .int M] H4 (.bl true) := fun b s H4 e4 hb hs hs1 => by
        obtain ⟨qv, hq, hle⟩ := sAt s hs
        exact sv_lGains hb (e4 _ _ ht) (by rw [tl]; exact hs1) (by rw [tl]; exact hn') hu hq hle (cm _)
      refine (show tSeq (tAsg (tOp (rIxL K) (tVar 0) (tVar 3)) _) _ _ _ _ from hc1 H3 (Ex.refl _) _ fun H4 e4 => ?_)
      have eH4 := eH3.trans e4
      have c4 := hc2.ex e4
      cases hq : fAt S n with
      | amt b =>
        rw [hq] at c4
        have hb0 := sh.amt n u b hu hn' hq
        subst hb0
        refine g_pair c4 (Ex.refl _) ?_
        refine s_if (b := true) (et_test (ev_wA (f := .amt none) (ev_var rfl))) (fun _ H5 e5 => ?_) fun hb => by cases hb
        exact s_when (b := false) (et_is (et_test (ev_notN (a := none) (ev_var rfl))) rfl) (fun hb => by cases hb) fun _ H6 e6 => ⟨eH4.trans (e5.trans e6), _, _, _, _, _, rfl⟩
      | least arcs =>
        rw [hq] at c4 gain oka
        obtain ⟨l, l1, ads, l2, l3⟩ := c4
        refine g_pair l1 (Ex.refl _) ?_
        refine s_if (b := false) (et_test (ev_wA (f := .least arcs) (ev_var rfl))) (fun hb => by cases hb) fun _ H5 e5 => ?_
        refine s_if (b := false) (et_test (ev_wG (f := .least arcs) (ev_var rfl))) (fun hb => by cases hb) fun _ H6 e6 => ?_
        have e46 := e5.trans e6
        refine s_when (b := false) (et_is (et_not (et_B (ev_allL (K := K) (bs := ads.map fun _ => true) (by
          rw [List.map_map]
          have z := el_lc (K := K) (α := Addr) (xs := ads.map V.ref) (ys := ads) (tl := tVar 6) (t := tYes) (g := gName 8) (vs := [8]) (σ := [some (V.ref a), some (.ref p), some (.ref t), some (nv n), some (.int M), some (.str "least"), some (.ref l), y7, y8]) (H := H6) (te := tCall spLGains [] L2.E0 (tCons (tVar 8) (tCons (tVar 3) (tCons (tVar 2) (tCons (tVar 4) tNil))))) (fun _ => true) (fun _ => V.bl true) (ev_var rfl) (sq_of (e46 _ _ l2)) (List.length_map _) (by
            have := paired_len l3
            have := oka.1
            have : arcs.length ≤ 6 := oka.1
            omega) fun k v y hv hy => by
            obtain ⟨y', hy', rfl⟩ := getMap hv
            have ey : y' = y := Option.some.inj (hy'.symm.trans hy)
            subst ey
            obtain ⟨s, hs, hst⟩ := paired_get2 l3 hy'
            refine ⟨_, fun H1 e1 Q q => q, rfl, fun H1 e1 H2 e2 Q k => k H2 (Ex.refl H2), fun _ H7 e7 => ?_⟩
            have hs' := List.mem_of_getElem? hs
            exact ev_call (ea_cons (ev_var rfl) (ea_cons (ev_var rfl) (ea_cons (ev_var rfl) (ea_cons (ev_var rfl) ea_nil)))) (gain y' s H7 (eH4.trans (e46.trans e7)) ((e46.trans e7) _ _ hst) hs' (oka.2 s hs').1)
          rw [filter_true] at z
          exact z)))) (by rw [all_true]; rfl)) (fun hb => by cases hb) fun _ H7 e7 => ⟨eH4.trans (e46.trans e7), _, _, _, _, _, rfl⟩
      | great arcs =>
        rw [hq] at c4 gain oka
        have hca := hch.at_ n _ hg
        rw [hq] at hca
        obtain ⟨k, hk, hk2⟩ := hca
        obtain ⟨l, l1, ads, l2, l3⟩ := c4
        obtain ⟨b, hb3, hb4⟩ := paired_get l3 (List.getElem?_eq_getElem hk2)
        refine g_pair l1 (Ex.refl _) ?_
        refine s_if (b := false) (et_test (ev_wA (f := .great arcs) (ev_var rfl))) (fun hb => by cases hb) fun _ H5 e5 => ?_
        refine s_if (b := true) (et_test (ev_wG (f := .great arcs) (ev_var rfl))) (fun _ H6 e6 => ?_) fun hb => by cases hb
        have e46 := e5.trans e6
        have eH6 := eH4.trans e46
        have hmem : arcs[k] ∈ toldAt ch n (.great arcs) := by
          show arcs[k] ∈ [arcs.getD ((gC ch n).getD 0) (0, 0)]
          rw [hk]
          show arcs[k] ∈ [arcs.getD k (0, 0)]
          rw [List.getD_eq_getElem?_getD, List.getElem?_eq_getElem hk2]
          exact List.mem_singleton.mpr rfl
        have hidx : Ev (tOp (rIxL K) (tVar 6) (tOp (rIxL K) (tVar 1) (tVar 3))) [some (V.ref a), some (.ref p), some (.ref t), some (nv n), some (.int M), some (.str "greatest"), some (.ref l), y7, y8] H6 (.ref b) := ev_xL (ev_var rfl) (ev_is (ev_xC (ev_var rfl) (ev_var rfl) (eH6 _ _ hp) (by rw [cl]; exact hn')) (by rw [hk]; rfl : cv (gC ch n) = .int (k : Int))) (e46 _ _ l2) (atI_nat (mapGet hb3))
        exact s_when (b := false) (et_is (et_not (et_B (ev_call (ea_cons hidx (ea_cons (ev_var rfl) (ea_cons (ev_var rfl) (ea_cons (ev_var rfl) ea_nil)))) (gain b arcs[k] H6 eH6 (e46 _ _ hb4) hmem (oka.2 _ (List.getElem_mem hk2)).1)))) rfl) (fun hb => by cases hb) fun _ H7 e7 => ⟨eH6.trans e7, _, _, _, _, _, rfl⟩
      | when j b k =>
        rw [hq] at plw
        cases plw
    · obtain ⟨e, y3, y5, y6, y7, y8, rfl⟩ := Pn
      exact s_ret ev_c fun H3 e3 => q H3 (e.trans e3)
end Cs
set_option Elab.async false
set_option linter.all false
set_option maxRecDepth 100000
set_option maxHeartbeats 4000000
/-! LH: the law's check of a paper, whole -/
namespace Cs
open PySem PySem.Spec PyProof.Rows L2 Evl LamX
variable {P : Program} {w : World} {K : PySem.W.Frag} {mg : Str → Option Value} {base : Heap}
theorem ok_lLeastStage (T : Bt mg) (h : Has K mg "_law_least_stage" sLLeastStage) (cLValues : Cl P w K mg base 4 "_law_values" spFlatValues) (cLRightRanks : Cl P w K mg base 4 "_law_right_ranks" spAreRanks) (cLShowsEndless : Cl P w K mg base 2 "_law_shows_endless" spShowsEndless) : Cl P w K mg base 5 "_law_least_stage" spIsRightStage := by
  refine cl_of h scLLeastStage (fun _ _ _ _ _ _ us hl => match us, hl with | [_, _], _ => rfl) (fun vs H Q E h => ?_) (fun f cdv A outer s H vs Q E hr h => ?_)
  · obtain ⟨a, t, S, k, rfl, _⟩ := h
    rfl
  obtain ⟨a, t, S, k, rfl, hS, hR, ok, q⟩ := h
  obtain ⟨p, x, r, c, u, rk, ch, pt, h1, h2, h3, h4, h5, h6, hrk, hch, hsh, hiso⟩ := hR
  have ok' := opn_wf (stg S k) ok
  have pl' := opn_plain S (stg S k)
  have hlen := ok.len
  have ol : (opn S (stg S k)).length = S.length := opn_len _ _
  have xl : (xs S k).length = (opn S (stg S k)).length := by rw [xs_len, ol]
  refine ⟨_, (pss_cons (ps_asg (pv 1) (pg_tupK (K := K) (n := 5) rfl (pgs_cons (pg_name (i := 2) scLLeastStage.nd rfl (Or.inl rfl)) (pgs_cons (pg_name (i := 3) scLLeastStage.nd rfl (Or.inl rfl)) (pgs_cons (pg_name (i := 4) scLLeastStage.nd rfl (Or.inl rfl)) (pgs_cons (pg_name (i := 5) scLLeastStage.nd rfl (Or.inl rfl)) (pgs_cons (pg_name (i := 6) scLLeastStage.nd rfl (Or.inl rfl)) pgs_nil)))))))
      (pss_cons (ps_if (PW.pt (pw_or (pt_cmpR op_ne (pe_callB (call_lenK (K := K)) (by rfl) T.b_len PySem.boot_len (pa_cons (pv 3) pa_nil)) (pe_callB (call_lenK (K := K)) (by rfl) T.b_len PySem.boot_len (pa_cons (pv 0) pa_nil)) (nomark _)) (pw_or (pt_cmpR (op_neD hr.units) (pe_k cLValues (hr.mono (by decide)) (by rfl) (pa_cons (pv 0) (pa_cons (pv 3) pa_nil))) (pv 3) (nomark _)) (pw_or1 (pt_not (pt_val (pe_k cLRightRanks (hr.mono (by decide)) (by rfl) (pa_cons (pv 0) (pa_cons (pv 3) (pa_cons (pv 4) pa_nil)))))))))) (pss_one (ps_ret pe_bl)) pss_nil)
      (pss_cons (ps_if (pt_cmpR (op_neD hr.units) (pe_lc (own := [("_law_one", 7)]) rfl scLLeastStage.nd (pi_list (pv 3)) (blkOk_by (own := [("_law_one", 7)]) (N := nLLeastStage) (sc := defScope sLLeastStage) (by decide +kernel)) (fun _ _ _ _ _ => (pg_name (i := 7) scLLeastStage.nd rfl (Or.inl rfl))) (fun _ _ _ _ _ => pts_nil) (fun _ _ _ _ _ => (pe_cmpR op_isN (pv 7) pe_non (nomark _)))) (pe_lc (own := [("_law_one", 7)]) rfl scLLeastStage.nd (pi_list (pv 6)) (blkOk_by (own := [("_law_one", 7)]) (N := nLLeastStage) (sc := defScope sLLeastStage) (by decide +kernel)) (fun _ _ _ _ _ => (pg_name (i := 7) scLLeastStage.nd rfl (Or.inl rfl))) (fun _ _ _ _ _ => pts_nil) (fun _ _ _ _ _ => (pe_cmpR op_notN (pv 7) pe_non (nomark _)))) (nomark _)) (pss_one (ps_ret pe_bl)) pss_nil)
      (pss_one (ps_ret (pe_k cLShowsEndless (hr.mono (by decide)) (by rfl) (pa_cons (pv 0) (pa_cons (pv 5) (pa_cons (pv 6) pa_nil))))))))), ?_⟩
  refine ⟨_, rfl, t, _, rfl, st_of h1, rfl, _, _, rfl, _, _, rfl, _, _, rfl, _, _, rfl, _, _, rfl, rfl, ?_⟩
  refine q_when (b := false) (et_is (et_or (a := false) (b := false) (et_is (et_test (ev_ne (ev_lenM (ev_var rfl) h3) (ev_lenS (ev_var rfl) hS) rfl)) (by rw [xl, decide_eq_true rfl]; rfl)) fun _ => et_or (a := false) (b := false) (et_is (et_test (ev_opL1 (el_call (ea_cons (ev_var rfl) (ea_cons (ev_var rfl) ea_nil)) (sv_flatValues hS h3 ok' xl)) (fun H1 e1 => ev_var rfl) fun z H1 g1 e1 => rv_neL leafA eqv_A g1 (e1 _ _ h3))) (by
    have e : fvals (opn S (stg S k)) (xs S k) = xs S k := fvals_lfpL (opn_ms ok _)
    rw [decide_eq_true e]
    rfl)) fun _ => et_is (et_not (et_B (ev_call (ea_cons (ev_var rfl) (ea_cons (ev_var rfl) (ea_cons (ev_var rfl) ea_nil))) (sv_areRanks hS h3 h4 xl ok' pl' hrk)))) rfl) rfl) (fun hb => by cases hb) fun _ H1 e1 => ?_
  have ptl : pt.length = (opn S (stg S k)).length := hsh.len
  refine q_when (b := false) (et_is (et_test (ev_opLL (el_mapB (fun y => .bl y.isNone) (ev_var rfl) (e1 _ _ h3) (by rw [xs_len]; omega) (fun _ => rfl) fun y _ H2 e2 => ev_isN (ev_var rfl)) (el_mapB (fun y => .bl y.isSome) (ev_var rfl) (e1 _ _ h6) (by omega) (fun _ => rfl) fun y _ H2 e2 => ev_notN (ev_var rfl)) fun z1 z2 H2 g1 g2 e2 => rv_neL (xs := (xs S k).map (·.isNone)) (ys := pt.map (·.isSome)) leafB eqv_B (by rw [g1, List.map_map]; rfl) (by rw [g2, List.map_map]; rfl))) (by
    have e : (xs S k).map (·.isNone) = pt.map (·.isSome) := by
      refine List.ext_getElem? fun i => ?_
      rw [List.getElem?_map, List.getElem?_map]
      by_cases hi : i < S.length
      · rw [gA_get (x := xs S k) (by rw [xs_len]; exact hi), gA_get (x := pt) (by omega)]
        exact congrArg some (hiso i hi).symm
      · rw [List.getElem?_eq_none (by rw [xs_len]; omega), List.getElem?_eq_none (by omega)]
        rfl
    rw [decide_eq_true e]
    rfl)) (fun hb => by cases hb) fun _ H2 e2 => ?_
  have e12 := e1.trans e2
  exact s_ret (ev_call (ea_cons (ev_var rfl) (ea_cons (ev_var rfl) (ea_cons (ev_var rfl) ea_nil))) (sv_showsEndless (hS.ex e12) (e12 _ _ h5) (e12 _ _ h6) ok' pl' hch hsh)) fun H3 e3 => q H3 (e12.trans e3)
theorem ok_lLeastPaper (T : Bt mg) (h : Has K mg "_law_least_paper" sLLeastPaper) (cLConditions : Cl P w K mg base 1 "_law_conditions" spConditionsOf) (cLAtMost : Cl P w K mg base 1 "_law_at_most" spAtMost) (cLOpened : Cl P w K mg base 1 "_law_opened" spOpened) (cLLeastStage : Cl P w K mg base 5 "_law_least_stage" spIsRightStage) (cLValues : Cl P w K mg base 4 "_law_values" spFlatValues) : Cl P w K mg base 6 "_law_least_paper" spIsLeastPaper := by
  refine cl_of h scLLeastPaper (fun _ _ _ _ _ _ us hl => match us, hl with | [_, _], _ => rfl) (fun vs H Q E h => ?_) (fun f cdv A outer s H vs Q E hr h => ?_)
  · obtain ⟨a, p, S, rfl, _⟩ := h
    rfl
  obtain ⟨a, p, S, rfl, hS, ok, hP, q⟩ := h
  obtain ⟨ads, p1, p2⟩ := hP
  have hlen := ok.len
  have cl := conds_len S
  have lenA : (ads.map V.ref).length = lastS S + 1 := by rw [List.length_map, paired_len p2, List.length_range]
  refine ⟨_, (pss_cons (ps_set (i := 2) scLLeastPaper.nd rfl (Or.inr rfl) pe_non)
      (pss_cons (ps_for PassesOwn.never rfl (pi_list (pv 1)) (pg_name (i := 3) scLLeastPaper.nd rfl (Or.inl rfl)) (pss_cons (ps_set (i := 4) scLLeastPaper.nd rfl (Or.inr rfl) (pe_ix (ix_tupK (K := K)) (pv 3) pe_int (fun _ _ => rfl)))
      (pss_cons (ps_if (pt_cmpR (op_neD hr.units) (pv 4) (pe_lc (own := [("_law_k", 5)]) rfl scLLeastPaper.nd (pi_list (pe_k cLConditions (hr.mono (by decide)) (by rfl) (pa_cons (pv 0) pa_nil))) (blkOk_by (own := [("_law_k", 5)]) (N := nLLeastPaper) (sc := defScope sLLeastPaper) (by decide +kernel)) (fun _ _ _ _ _ => (pg_name (i := 5) scLLeastPaper.nd rfl (Or.inl rfl))) (fun _ _ _ _ _ => (pts_one (pt_cmpR (op_inK (K := K)) (pv 5) (pv 4) (by rfl)))) (fun _ _ _ _ _ => (pv 5))) (nomark _)) (pss_one (ps_ret pe_bl)) pss_nil)
      (pss_cons (ps_if (pt_cmpR op_isN (pv 2) pe_non (nomark _)) (pss_one (ps_if (pt_cmpR (op_neD hr.units) (pv 4) (pe_lst pa_nil) (nomark _)) (pss_one (ps_ret pe_bl)) pss_nil)) (pss_cons (ps_if (PW.pt (pw_or (pt_cmpR op_le (pe_callB (call_lenK (K := K)) (by rfl) T.b_len PySem.boot_len (pa_cons (pv 4) pa_nil)) (pe_callB (call_lenK (K := K)) (by rfl) T.b_len PySem.boot_len (pa_cons (pe_ix (ix_tupK (K := K)) (pv 2) pe_int (fun _ _ => rfl)) pa_nil)) (nomark _)) (pw_or1 (pt_not (pt_val (pe_callB (cr_all rfl) (by rfl) T.b_all (by decide +kernel) (pa_cons (pe_lc (own := [("_law_k", 5)]) rfl scLLeastPaper.nd (pi_list (pe_ix (ix_tupK (K := K)) (pv 2) pe_int (fun _ _ => rfl))) (blkOk_by (own := [("_law_k", 5)]) (N := nLLeastPaper) (sc := defScope sLLeastPaper) (by decide +kernel)) (fun _ _ _ _ _ => (pg_name (i := 5) scLLeastPaper.nd rfl (Or.inl rfl))) (fun _ _ _ _ _ => pts_nil) (fun _ _ _ _ _ => (pe_cmpR (op_inK (K := K)) (pv 5) (pv 4) (by rfl)))) pa_nil))))))) (pss_one (ps_ret pe_bl)) pss_nil)
      (pss_one (ps_if (pt_not (pt_val (pe_callB (cr_all rfl) (by rfl) T.b_all (by decide +kernel) (pa_cons (pe_lc (own := [("_law_k", 5)]) rfl scLLeastPaper.nd (pi_list (pv 4)) (blkOk_by (own := [("_law_k", 5)]) (N := nLLeastPaper) (sc := defScope sLLeastPaper) (by decide +kernel)) (fun _ _ _ _ _ => (pg_name (i := 5) scLLeastPaper.nd rfl (Or.inl rfl))) (fun _ _ _ _ _ => pts_nil) (fun _ _ _ _ _ => (pe_k cLAtMost (hr.mono (by decide)) (by rfl) (pa_cons (pe_ix (ix_tupK (K := K)) (pe_ix (ix_listK (K := K)) (pv 0) (pv 5) (fun _ _ => rfl)) pe_int (fun _ _ => rfl)) (pa_cons (pe_ix (ix_listK (K := K)) (pe_ix (ix_tupK (K := K)) (pv 2) pe_int (fun _ _ => rfl)) (pe_ix (ix_tupK (K := K)) (pe_ix (ix_listK (K := K)) (pv 0) (pv 5) (fun _ _ => rfl)) pe_int (fun _ _ => rfl)) (fun _ _ => rfl)) pa_nil))))) pa_nil)))) (pss_one (ps_ret pe_bl)) pss_nil))))
      (pss_cons (ps_if (pt_not (pt_val (pe_k cLLeastStage (hr.mono (by decide)) (by rfl) (pa_cons (pe_k cLOpened (hr.mono (by decide)) (by rfl) (pa_cons (pv 0) (pa_cons (pv 4) pa_nil))) (pa_cons (pv 3) pa_nil))))) (pss_one (ps_ret pe_bl)) pss_nil)
      (pss_one (ps_set (i := 2) scLLeastPaper.nd rfl (Or.inr rfl) (pv 3))))))))
      (pss_one (ps_ret (pe_and (pe_cmpR op_notN (pv 2) pe_non (nomark _)) (pe_one (pe_cmpR (op_eqD hr.units) (pe_k cLValues (hr.mono (by decide)) (by rfl) (pa_cons (pv 0) (pa_cons (pe_ix (ix_tupK (K := K)) (pv 2) pe_int (fun _ _ => rfl)) pa_nil))) (pe_ix (ix_tupK (K := K)) (pv 2) pe_int (fun _ _ => rfl)) (nomark _)))))))), ?_⟩
  refine q_asg ev_c fun H1 e1 => ?_
  refine q_forLn (ev_var rfl) (sq_of (e1 _ _ p1)) (fun k σ' H' => Ex H H' ∧ ∃ bv y3 y4 y5, σ' = [some (.ref a), some (.ref p), some bv, y3, y4, y5] ∧ ((k = 0 ∧ bv = .non) ∨ ∃ t k', k = k' + 1 ∧ bv = .ref t ∧ PaperRow S H t k')) (fun H2 e2 => ⟨e1.trans e2, _, _, _, _, rfl, .inl ⟨rfl, rfl⟩⟩) (fun k σ' H' _ q => sq_of (q.1 _ _ p1)) (fun k v σ' H' hv Pk => ?_) fun σ' H' Pk => ?_
  · obtain ⟨e, bv, y3, y4, y5, rfl, hb⟩ := Pk
    obtain ⟨t, ht, rfl⟩ := getMap hv
    obtain ⟨k2, hk2, hR⟩ := paired_get2 p2 ht
    have hkl : k < lastS S + 1 := by
      have := (List.getElem?_eq_some_iff.mp hv).1
      omega
    have ek : k2 = k := by
      rw [List.getElem?_range hkl] at hk2
      exact (Option.some.inj hk2).symm
    subst ek
    obtain ⟨p', x, r, c, u, rk, ch, pt, h1, h2, h3, h4, h5, h6, hst⟩ := id hR
    have s1 := stg_le (S := S) k2
    refine q_asg (ev_xT (ev_var rfl) ev_c (e _ _ h1) at0) fun H2 e2 => ?_
    have eH2 := e.trans e2
    have hp2 := eH2 _ _ h2
    refine q_when (b := false) (et_is (et_test (ev_opL (ev_var rfl) (el_lcN (K := K) (α := Nat) (xs := (conds S).map nv) (ys := conds S) (fun i => (stg S k2).contains i) nv (el_call (ea_cons (ev_var rfl) ea_nil) (sv_conditionsOf (hS.ex eH2) ok.len)) (List.length_map _) (by omega) fun n u y hu hy => by
      obtain ⟨y', hy', rfl⟩ := getMap hu
      have ey : y' = y := Option.some.inj (hy'.symm.trans hy)
      subst ey
      exact ⟨_, fun H1 e1 Q q => q, rfl, fun H1 e1 => et_test (ev_inN (ev_var rfl) (ev_var rfl) (e1 _ _ hp2)), fun _ H1 e1 => ev_var rfl⟩) fun z H3 g1 e3 => rv_neL leafN eqv_N (e3 _ _ hp2) g1)) (by
      rw [decide_eq_true (stg_filter k2)]
      rfl)) (fun hb => by cases hb) fun _ H3 e3 => ?_
    have eH3 := eH2.trans e3
    have hp3 := eH3 _ _ h2
    -- behind the look at the stage before
    have next : ∀ (D : Ends) H4, Ex H3 H4 → (∀ H5, Ex H4 H5 → D.nx [some (.ref a), some (.ref p), some (.ref t), some (.ref t), some (.ref p'), y5] H5) → tSeq (tIfS (tNot (tB (tCall spIsRightStage [] L2.E0 (tCons (tCall spOpened [] L2.E0 (tCons (tVar 0) (tCons (tVar 4) tNil))) (tCons (tVar 3) tNil))))) (tRet (tC (.bl false))) tNext) (tAsg (tVar 3) (gName 2)) D [some (.ref a), some (.ref p), some bv, some (.ref t), some (.ref p'), y5] H4 := fun D H4 e4 kk => by
      have eH4 := eH3.trans e4
      refine q_when (b := false) (et_is (et_not (et_B (ev_call2 (z := .bl true) (ea_cons (ev_var rfl) (ea_cons (ev_var rfl) ea_nil)) fun H5 e5 Q q => ⟨a, p', S, stg S k2, rfl, (hS.ex eH4).ex e5, (eH4.trans e5) _ _ h2, ok.len, fun ro H6 hro e6 hO => ⟨_, rfl, ⟨ro, t, S, k2, rfl, hO, hR.ex (eH4.trans (e5.trans e6)), ok, fun H7 e7 => q H7 (e6.trans e7)⟩⟩⟩))) rfl) (fun hb => by cases hb) fun _ H5 e5 => s_asg (ev_var rfl) fun H6 e6 => kk H6 (e5.trans e6)
    have fin : ∀ H4, Ex H3 H4 → ∀ H5, Ex H4 H5 → (Ex H H5 ∧ ∃ bv y3 y4 y5', [some (V.ref a), some (.ref p), some (.ref t), some (.ref t), some (.ref p'), y5] = [some (.ref a), some (.ref p), some bv, y3, y4, y5'] ∧ ((k2 + 1 = 0 ∧ bv = .non) ∨ ∃ t k', k2 + 1 = k' + 1 ∧ bv = .ref t ∧ PaperRow S H t k')) := fun H4 e4 H5 e5 => ⟨eH3.trans (e4.trans e5), _, _, _, _, rfl, .inr ⟨t, k2, rfl, rfl, hR⟩⟩
    rcases hb with ⟨rfl, rfl⟩ | ⟨tb, k', rfl, rfl, hRb⟩
    · refine q_if (b := true) (et_is (et_test (ev_isNV (ev_var rfl))) rfl) (fun _ H4 e4 => ?_) fun hb => by cases hb
      refine s_when (b := false) (et_is (et_test (ev_opL (ev_var rfl) (el_lst ea_nil (Nat.zero_le _)) fun z H5 g1 e5 => rv_neL (xs := ([] : List Nat)) (ys := ([] : List Nat)) leafN eqv_N ((e4.trans e5) _ _ hp3) g1)) rfl) (fun hb => by cases hb) fun _ H5 e5 => next _ H5 (e4.trans e5) (fin H5 (e4.trans e5))
    · obtain ⟨pb, xb, rb, cb, ub, rkb, chb, ptb, g1, g2, g3, g4, g5, g6, gst⟩ := hRb
      have s2 := stg_le (S := S) k'
      refine q_if (b := false) (et_is (et_test (ev_isNV (ev_var rfl))) rfl) (fun hb => by cases hb) fun _ H4 e4 => ?_
      have eH4 := eH3.trans e4
      have hp4 := eH4 _ _ h2
      have tb4 := eH4 _ _ g1
      have hlt := stg_len_lt ok ((lastS_spec ok).2 k' (by omega))
      refine q_when (b := false) (et_is (et_or (a := false) (b := false) (et_is (et_test (ev_le (ev_lenM (ev_var rfl) hp4) (ev_lenM (ev_xT (ev_var rfl) ev_c tb4 at0) (eH4 _ _ g2)))) (decide_eq_false (by omega))) fun _ => et_is (et_not (et_B (ev_allL (K := K) (bs := (stg S k').map fun i => (stg S (k' + 1)).contains i) (by
        rw [List.map_map]
        exact el_mapB (fun i => V.bl ((stg S (k' + 1)).contains i)) (ev_xT (ev_var rfl) ev_c tb4 at0) (eH4 _ _ g2) (by omega) (fun _ => rfl) fun y _ H5 e5 => ev_inN (ev_var rfl) (ev_var rfl) (e5 _ _ hp4))))) (by
        rw [all_map]
        have e : (stg S k').all (fun i => (stg S (k' + 1)).contains i) = true := List.all_eq_true.mpr fun i hi => by
          have := stg_sub ok k' i hi
          simpa using this
        rw [e]
        rfl)) rfl) (fun hb => by cases hb) fun _ H5 e5 => ?_
      have eH5 := eH4.trans e5
      have tb5 := eH5 _ _ g1
      refine s_when (b := false) (et_is (et_not (et_B (ev_allL (K := K) (bs := (stg S (k' + 1)).map fun _ => true) (by
        rw [List.map_map]
        refine el_mapB (fun i => V.bl true) (ev_var rfl) (eH5 _ _ h2) (by omega) (fun _ => rfl) fun i hi H6 e6 => ?_
        have eH6 := eH5.trans e6
        have tb6 := eH6 _ _ g1
        have hi : i ∈ fulf S (xs S k') := hi
        obtain ⟨hin, hiw, him⟩ := mem_fulf.mp hi
        have hg := fAt_get hin
        have okf := ok.ok i _ hg
        obtain ⟨c', hc1, hc2⟩ := ev_xS (K := K) (ta := tVar 0) (tb := tVar 5) (σ := (wipe [some (V.ref a), some (.ref p), some (.ref tb), some (.ref t), some (.ref p'), y5] [5]).set 5 (some (nv i))) (ev_var rfl) (ev_var rfl) (hS.ex eH6) hg
        cases hq : fAt S i with
        | when j b k =>
          rw [hq] at hc2 okf him
          have him : leA (some b) (gA (xs S k') j) = true := him
          exact ev_is (ev_call (ea_cons (ev_is (ev_xT hc1 ev_c hc2 at2) (by rfl : V.int b = av (some b))) (ea_cons (ev_xA (j := j) (ev_xT (ev_var rfl) ev_c tb6 at1) (ev_xT hc1 ev_c hc2 at1) (eH6 _ _ g3) (by rw [xs_len]; exact okf.1)) ea_nil)) sv_atMost) (by rw [him])
        | _ =>
          rw [hq] at hiw
          cases hiw)))) (by rw [all_true]; rfl)) (fun hb => by cases hb) fun _ H6 e6 => next _ H6 (e4.trans (e5.trans e6)) (fin H6 (e4.trans (e5.trans e6)))
  · obtain ⟨e, bv, y3, y4, y5, rfl, hb⟩ := Pk
    rw [lenA] at hb
    rcases hb with ⟨h0, _⟩ | ⟨t, k', h0, rfl, hR⟩
    · omega
    · have ek : k' = lastS S := by omega
      subst ek
      obtain ⟨p', x, r, c, u, rk, ch, pt, h1, h2, h3, h4, h5, h6, hst⟩ := hR
      refine s_ret (v := .bl (true && decide (fvals S (xs S (lastS S)) = xs S (lastS S)))) (ev_andV (ev_is (ev_notNV (ev_var rfl)) rfl) fun _ => ev_opL1 (el_call (ea_cons (ev_var rfl) (ea_cons (ev_xT (ev_var rfl) ev_c (e _ _ h1) at1) ea_nil)) (sv_flatValues (hS.ex e) (e _ _ h3) ok (xs_len S _))) (fun H1 e1 => ev_xT (ev_var rfl) ev_c ((e.trans e1) _ _ h1) at1) fun z H1 g1 e1 => rv_eqL leafA eqv_A g1 ((e.trans e1) _ _ h3)) fun H2 e2 => ?_
      rw [decide_eq_true (last_solves ok)]
      exact q H2 (e.trans e2)
end Cs
set_option Elab.async false
set_option linter.all false
set_option maxRecDepth 100000
set_option maxHeartbeats 4000000
/-! LI: the law's own least point and stages -/
namespace Cs
open PySem PySem.Spec PyProof.Rows L2 Evl LamX
variable {P : Program} {w : World} {K : PySem.W.Frag} {mg : Str → Option Value} {base : Heap}
section
variable {σ : L2.St} {H : Hp} {ta tb : TE}
theorem el_catLL {xs zs : List V} (h : EvL ta σ H xs) (h2 : EvL tb σ H zs) (hz : xs.length + zs.length ≤ 100000) : EvL (tOp rCat ta tb) σ H (xs ++ zs) := fun H1 e Q q => h H1 e _ fun l H2 hl e2 hl2 => h2 H2 (e.trans e2) _ fun b H3 hb e3 h3 =>
  ⟨l, b, xs, zs, rfl, rfl, e3 _ _ hl2, h3, sz_of hz, fun p hp => q p _ (fresh_back (e2.trans e3) hp) ((e2.trans e3).trans (Ex.new hp)) upd_same⟩
theorem s_asgMax {i : Nat} {D : Ends} {ns : List Int} (h : EvL ta σ H (ns.map V.int)) (hn : 0 < ns.length) (k : ∀ m H1, Ex H H1 → m ∈ ns → (∀ y, y ∈ ns → y ≤ m) → D.nx (σ.set i (some (.int m))) H1) : tAsg (tCB (rMax K) (tCons ta tNil)) (gName i) D σ H := h H (Ex.refl H) _ fun p H1 hp e1 h1 => ⟨p, ns, rfl, sq_of h1, hn, fun m a b => k m H1 e1 a b⟩
end
theorem in_words (f : Fm) : inV (.str (Str.ofString f.kind)) [.str (Str.ofString "least"), .str (Str.ofString "greatest")] = (f.isL || f.isG) := by
  cases f
  · exact (by decide +kernel : inV (.str (Str.ofString "amount")) [.str (Str.ofString "least"), .str (Str.ofString "greatest")] = false)
  · exact (by decide +kernel : inV (.str (Str.ofString "least")) [.str (Str.ofString "least"), .str (Str.ofString "greatest")] = true)
  · exact (by decide +kernel : inV (.str (Str.ofString "greatest")) [.str (Str.ofString "least"), .str (Str.ofString "greatest")] = true)
  · exact (by decide +kernel : inV (.str (Str.ofString "when")) [.str (Str.ofString "least"), .str (Str.ofString "greatest")] = false)
/-! ### _law_bound -/
def spLBound : Sp := fun vs H Q _ => ∃ (a : Addr) (S : List Fm), vs = [.ref a] ∧ SheetAt H a S ∧ Wf S ∧ Plain S ∧ ∀ B H2, Bnd S B → Ex H H2 → Q (.int B) H2
theorem ok_lBound (T : Bt mg) (h : Has K mg "_law_bound" sLBound) : Cl P w K mg base 1 "_law_bound" spLBound := by
  refine cl_of h scLBound (fun _ _ _ _ _ _ us hl => match us, hl with | [_], _ => rfl) (fun vs H Q E h => ?_) (fun f cdv A outer s H vs Q E hr h => ?_)
  · obtain ⟨a, S, rfl, _⟩ := h
    rfl
  obtain ⟨a, S, rfl, hS, ok, pl, q⟩ := h
  obtain ⟨xs, s1, s2, s3⟩ := hS.get
  have hlen := ok.len
  refine ⟨_, (pss_cons (ps_set (i := 1) scLBound.nd rfl (Or.inl rfl) pe_int)
      (pss_cons (ps_set (i := 2) scLBound.nd rfl (Or.inl rfl) pe_int)
      (pss_cons (ps_for PassesOwn.never rfl (pi_list (pv 0)) (pg_name (i := 3) scLBound.nd rfl (Or.inl rfl)) (pss_cons (ps_if (PW.pt (pw_and (pt_cmpR op_eq (pe_ix (ix_tupK (K := K)) (pv 3) pe_int (fun _ _ => rfl)) pe_str (nomark _)) (pw_and1 (pt_cmpR op_notN (pe_ix (ix_tupK (K := K)) (pv 3) pe_int (fun _ _ => rfl)) pe_non (nomark _))))) (pss_one (ps_set (i := 1) scLBound.nd rfl (Or.inl rfl) (pe_callB (call_max2 rfl) (by rfl) T.b_max (by decide +kernel) (pa_cons (pv 1) (pa_cons (pe_ix (ix_tupK (K := K)) (pv 3) pe_int (fun _ _ => rfl)) pa_nil))))) pss_nil)
      (pss_one (ps_if (pt_cmpR (op_inK (K := K)) (pe_ix (ix_tupK (K := K)) (pv 3) pe_int (fun _ _ => rfl)) (pe_lst (pa_cons pe_str (pa_cons pe_str pa_nil))) (by rfl)) (pss_one (ps_set (i := 2) scLBound.nd rfl (Or.inl rfl) (pe_callB (cr_max rfl) (by rfl) T.b_max (by decide +kernel) (pa_cons (pe_op op_cat (pe_lst (pa_cons (pv 2) pa_nil)) (pe_lc (own := [("_law_j", 4), ("_law_c", 5)]) rfl scLBound.nd (pi_list (pe_ix (ix_tupK (K := K)) (pv 3) pe_int (fun _ _ => rfl))) (blkOk_by (own := [("_law_j", 4), ("_law_c", 5)]) (N := nLBound) (sc := defScope sLBound) (by decide +kernel)) (fun _ _ _ _ _ => (pg_tupK (K := K) (n := 2) rfl (pgs_cons (pg_name (i := 4) scLBound.nd rfl (Or.inl rfl)) (pgs_cons (pg_name (i := 5) scLBound.nd rfl (Or.inl rfl)) pgs_nil)))) (fun _ _ _ _ _ => pts_nil) (fun _ _ _ _ _ => (pv 5)))) pa_nil)))) pss_nil))))
      (pss_one (ps_ret (pe_op op_add (pv 1) (pe_op op_mul (pv 2) (pe_callB (call_lenK (K := K)) (by rfl) T.b_len PySem.boot_len (pa_cons (pv 0) pa_nil))))))))), ?_⟩
  refine q_asg ev_c fun H1 e1 => q_asg ev_c fun H2 e2 => ?_
  have e12 := e1.trans e2
  refine q_forLn (ev_var rfl) (sq_of (e12 _ _ s1)) (fun n σ' H' => Ex H H' ∧ ∃ (mo st : Int), 0 ≤ mo ∧ mo ≤ 11 ∧ 0 ≤ st ∧ st ≤ 4 ∧ (∀ i b, i < n → fAt S i = .amt (some b) → b ≤ mo) ∧ (∀ i, i < n → ∀ p ∈ arcsOf (fAt S i), p.2 ≤ st) ∧ ∃ y3 y4 y5, σ' = [some (.ref a), some (.int mo), some (.int st), y3, y4, y5])
    (fun H3 e3 => ⟨e12.trans e3, 0, 0, by omega, by omega, by omega, by omega, fun i b hi => absurd hi (Nat.not_lt_zero _), fun i hi => absurd hi (Nat.not_lt_zero _), _, _, _, rfl⟩) (fun n σ' H' _ q => sq_of (q.1 _ _ s1)) (fun n v σ' H' hv Pn => ?_) fun σ' H' Pn => ?_
  · obtain ⟨e, mo, st, m0, m1, t0, t1, hA, hC, y3, y4, y5, rfl⟩ := Pn
    have hn : n < S.length := by
      have := (List.getElem?_eq_some_iff.mp hv).1
      omega
    have hg := fAt_get hn
    obtain ⟨c, hc, hf⟩ := s3 n _ hg
    have ec : v = .ref c := Option.some.inj (hv.symm.trans hc)
    subst ec
    have f1 := hf.ex e
    have okf := ok.ok n _ hg
    -- the second if, behind any amount
    have snd : ∀ (mo : Int) H4 (D : Ends), Ex H' H4 → 0 ≤ mo → mo ≤ 11 → (∀ i b, i < n + 1 → fAt S i = .amt (some b) → b ≤ mo) → (∀ (st' : Int) H5 y4 y5, Ex H4 H5 → 0 ≤ st' → st' ≤ 4 → (∀ i, i < n + 1 → ∀ p ∈ arcsOf (fAt S i), p.2 ≤ st') → D.nx [some (.ref a), some (.int mo), some (.int st'), some (.ref c), y4, y5] H5) →
        tIfS (tTest (tOp (rIn K false) (tOp (rIxT K) (tVar 3) (tC (.int 0))) (tLst (tCons (tC (.str (Str.ofString "least"))) (tCons (tC (.str (Str.ofString "greatest"))) tNil))))) (tAsg (tCB (rMax K) (tCons (tOp rCat (tLst (tCons (tVar 2) tNil)) (tLc (iList K (tOp (rIxT K) (tVar 3) (tC (.int 1)))) (gTup K 2 (gCons (gName 4) (gCons (gName 5) gNil))) tYes (tVar 5) [4, 5])) tNil)) (gName 2)) tNext D [some (.ref a), some (.int mo), some (.int st), some (.ref c), y4, y5] H4 := fun mo H4 D e4 h0 h1 hA2 kk => by
      have f4 := f1.ex e4
      refine s_when (b := (fAt S n).isL || (fAt S n).isG) (et_is (et_test (ev_opL (ev_k0 (ev_var rfl) f4) (el_lst (ea_cons ev_c (ea_cons ev_c ea_nil)) (by show 2 ≤ 100000; decide)) fun z H5 g1 e5 => rv_isL (sq_of g1) rfl rfl)) (in_words _)) (fun hb H5 e5 => ?_) fun hb H5 e5 => kk st H5 _ _ e5 t0 t1 fun i hi p hp => ?_
      · have hA' : (fAt S n).isA = false := by
          cases hq : fAt S n with
          | amt b =>
            rw [hq] at hb
            cases hb
          | _ => rfl
        obtain ⟨l, z0, hcl, ads, l1, l2⟩ := (f4.ex e5).arcs hA' (pl n _ hg)
        have oka := arcsOf_ok okf
        have hcs : EvL (tLc (iList K (tOp (rIxT K) (tVar 3) (tC (.int 1)))) (gTup K 2 (gCons (gName 4) (gCons (gName 5) gNil))) tYes (tVar 5) [4, 5]) [some (.ref a), some (.int mo), some (.int st), some (.ref c), y4, y5] H5 ((arcsOf (fAt S n)).map fun p => V.int p.2) := by
          have z := el_lc (K := K) (α := Arc) (xs := ads.map V.ref) (ys := arcsOf (fAt S n)) (tl := tOp (rIxT K) (tVar 3) (tC (.int 1))) (t := tYes) (g := gTup K 2 (gCons (gName 4) (gCons (gName 5) gNil))) (vs := [4, 5]) (σ := [some (.ref a), some (.int mo), some (.int st), some (.ref c), y4, y5]) (H := H5) (te := tVar 5) (fun _ => true) (fun p => V.int p.2) (ev_xT (ev_var rfl) ev_c hcl at1) (sq_of l1) (by rw [List.length_map, paired_len l2]) (by omega) fun k u p hu hp => by
            obtain ⟨b, hb, rfl⟩ := getMap hu
            obtain ⟨p', hp', ht⟩ := paired_get2 l2 hb
            have ep : p' = p := Option.some.inj (hp'.symm.trans hp)
            subst ep
            exact ⟨_, fun H1 e1 Q k => g_pair ht e1 k, rfl, fun H1 e1 H2 e2 Q k => k H2 (Ex.refl H2), fun _ H1 e1 => ev_var rfl⟩
          rw [filter_true] at z
          exact z
        have hl : EvL (tOp rCat (tLst (tCons (tVar 2) tNil)) (tLc (iList K (tOp (rIxT K) (tVar 3) (tC (.int 1)))) (gTup K 2 (gCons (gName 4) (gCons (gName 5) gNil))) tYes (tVar 5) [4, 5])) [some (.ref a), some (.int mo), some (.int st), some (.ref c), y4, y5] H5 ((st :: (arcsOf (fAt S n)).map (·.2)).map V.int) := by
          have z := el_catLL (el_lst (ta := tCons (tVar 2) tNil) (vs := [.int st]) (ea_cons (ev_var rfl) ea_nil) (by show 1 ≤ 100000; decide)) hcs (by rw [List.length_map]; show 1 + _ ≤ _; omega)
          have e : (st :: (arcsOf (fAt S n)).map (·.2)).map V.int = [V.int st] ++ (arcsOf (fAt S n)).map fun p => V.int p.2 := by
            rw [List.map_cons, List.map_map]
            rfl
          rw [e]
          exact z
        refine s_asgMax (K := K) hl (Nat.succ_pos _) fun m H6 e6 hm hmax => ?_
        have hst := hmax st List.mem_cons_self
        refine kk m H6 _ _ (e5.trans e6) (by omega) ?_ fun i hi p hp => ?_
        · rcases List.mem_cons.mp hm with h | h
          · omega
          · obtain ⟨p, hp, rfl⟩ := List.mem_map.mp h
            exact (oka.2 p hp).2.2
        · by_cases e : i = n
          · subst e
            exact hmax _ (List.mem_cons_of_mem _ (List.mem_map.mpr ⟨p, hp, rfl⟩))
          · have := hC i (by omega) p hp
            omega
      · by_cases e : i = n
        · subst e
          cases hq : fAt S i with
          | amt b =>
            rw [hq] at hp
            cases hp
          | when j b k =>
            have q := pl i _ hg
            rw [hq] at q
            cases q
          | least arcs =>
            rw [hq] at hb
            cases hb
          | great arcs =>
            rw [hq] at hb
            cases hb
        · exact hC i (by omega) p hp
    cases hq : fAt S n with
    | amt b =>
      rw [hq] at f1 okf
      cases b with
      | none =>
        refine q_when (b := false) (et_is (et_and (a := true) (b := false) (et_test (ev_wA (f := .amt none) (ev_k0 (ev_var rfl) f1))) fun _ => et_is (et_test (ev_notN (a := none) (ev_xT (ev_var rfl) ev_c f1 at1))) rfl) rfl) (fun hb => by cases hb) fun _ H4 e4 => ?_
        refine snd mo H4 _ e4 m0 m1 (fun i b hi hib => ?_) fun st' H5 y4 y5 e5 a1 a2 a3 => ⟨e.trans (e4.trans e5), mo, st', m0, m1, a1, a2, fun i b hi hib => ?_, a3, _, _, _, rfl⟩
        · by_cases ei : i = n
          · subst ei
            rw [hq] at hib
            cases hib
          · exact hA i b (by omega) hib
        · by_cases ei : i = n
          · subst ei
            rw [hq] at hib
            cases hib
          · exact hA i b (by omega) hib
      | some b =>
        have hb := okf b rfl
        refine q_when (b := true) (et_is (et_and (a := true) (b := true) (et_test (ev_wA (f := .amt (some b)) (ev_k0 (ev_var rfl) f1))) fun _ => et_is (et_test (ev_notN (a := some b) (ev_xT (ev_var rfl) ev_c f1 at1))) rfl) rfl) (fun _ H4 e4 => ?_) fun hb => by cases hb
        refine s_asg (ev_mx (ev_var rfl) (ev_xT (ev_var rfl) ev_c (e4 _ _ f1) at1)) fun H5 e5 => ?_
        have hA2 : ∀ i b', i < n + 1 → fAt S i = .amt (some b') → b' ≤ (if b > mo then b else mo) := fun i b' hi hib => by
          by_cases ei : i = n
          · subst ei
            rw [hq] at hib
            cases hib
            split <;> omega
          · have := hA i b' (by omega) hib
            split <;> omega
        refine snd _ H5 _ (e4.trans e5) (by split <;> omega) (by split <;> omega) hA2 fun st' H6 y4 y5 e6 a1 a2 a3 => ⟨e.trans (e4.trans (e5.trans e6)), _, st', ?_, ?_, a1, a2, hA2, a3, _, _, _, rfl⟩
        · split <;> omega
        · split <;> omega
    | least arcs =>
      rw [hq] at f1
      refine q_when (b := false) (et_is (et_and (a := false) (b := false) (et_test (ev_wA (f := .least arcs) (ev_k0 (ev_var rfl) f1))) fun hb => by cases hb) rfl) (fun hb => by cases hb) fun _ H4 e4 => ?_
      have hA2 : ∀ i b', i < n + 1 → fAt S i = .amt (some b') → b' ≤ mo := fun i b' hi hib => by
        by_cases ei : i = n
        · subst ei
          rw [hq] at hib
          cases hib
        · exact hA i b' (by omega) hib
      exact snd mo H4 _ e4 m0 m1 hA2 fun st' H5 y4 y5 e5 a1 a2 a3 => ⟨e.trans (e4.trans e5), mo, st', m0, m1, a1, a2, hA2, a3, _, _, _, rfl⟩
    | great arcs =>
      rw [hq] at f1
      refine q_when (b := false) (et_is (et_and (a := false) (b := false) (et_test (ev_wA (f := .great arcs) (ev_k0 (ev_var rfl) f1))) fun hb => by cases hb) rfl) (fun hb => by cases hb) fun _ H4 e4 => ?_
      have hA2 : ∀ i b', i < n + 1 → fAt S i = .amt (some b') → b' ≤ mo := fun i b' hi hib => by
        by_cases ei : i = n
        · subst ei
          rw [hq] at hib
          cases hib
        · exact hA i b' (by omega) hib
      exact snd mo H4 _ e4 m0 m1 hA2 fun st' H5 y4 y5 e5 a1 a2 a3 => ⟨e.trans (e4.trans e5), mo, st', m0, m1, a1, a2, hA2, a3, _, _, _, rfl⟩
    | when j b k =>
      have q := pl n _ hg
      rw [hq] at q
      cases q
  · obtain ⟨e, mo, st, m0, m1, t0, t1, hA, hC, y3, y4, y5, rfl⟩ := Pn
    rw [s2] at hA hC
    refine s_ret (ev_add (ev_var rfl) (ev_mul (ev_var rfl) (ev_lenS (ev_var rfl) (hS.ex e)) (.inl ⟨by omega, by omega⟩))) fun H3 e3 => q _ H3 ⟨mo, st, rfl, m0, m1, t0, t1, fun i b hib => ?_, fun i p hp => ?_⟩ (e.trans e3)
    · by_cases hi : i < S.length
      · exact hA i b hi hib
      · rw [fAt_ge (by omega)] at hib
        cases hib
    · by_cases hi : i < S.length
      · exact hC i hi p hp
      · rw [fAt_ge (by omega)] at hp
        cases hp
/-! ### _law_least -/
theorem ev_cap {σ : L2.St} {H : Hp} {t6 t1 : TE} {one : Amt} {B : Int} (h6 : ∀ H, Ev t6 σ H (av one)) (h1 : ∀ H, Ev t1 σ H (.int B)) :
    Ev (tOp (rIxL K) (tLst (tCons t6 (tCons (tC .non) tNil))) (tCB (fun xs H Q => (∃ i, xs = [V.int i] ∧ Q (.int i) H) ∨ ∃ k, xs = [V.bl k] ∧ Q (.int (if k then 1 else 0)) H) (tCons (tAndV (tOp (fun x y H Q => y = .non ∧ Q (.bl (!decide (x = .non))) H) t6 (tC .non)) (tOp (rI0 fun i j => .bl (decide (j < i))) t6 t1)) tNil))) σ H (av (capA B one)) := by
  refine ev_opL1 (xs := [av one, .non]) (y := .int (if (one.isSome && decide (B < one.getD 0)) then 1 else 0)) (el_lst (ea_cons (h6 _) (ea_cons ev_c ea_nil)) (by show 2 ≤ 100000; decide)) (fun H1 e1 => ev_i1b (ev_andV (ev_notN (h6 _)) fun hs => ?_)) fun p H1 hp e => rv_ixL (sq_of hp) ?_
  · obtain ⟨v, rfl⟩ := Option.isSome_iff_exists.mp hs
    exact ev_gt (h6 _) (h1 _)
  · cases one with
    | none => exact at0
    | some v =>
      by_cases q : B < v
      · have e1 : (if ((some v : Amt).isSome && decide (B < (some v : Amt).getD 0)) = true then (1 : Int) else 0) = 1 := by
          show (if (true && decide (B < v)) = true then (1 : Int) else 0) = 1
          rw [decide_eq_true q]
          rfl
        have e2 : capA B (some v) = none := if_pos q
        rw [e1, e2]
        exact at1
      · have e1 : (if ((some v : Amt).isSome && decide (B < (some v : Amt).getD 0)) = true then (1 : Int) else 0) = 0 := by
          show (if (true && decide (B < v)) = true then (1 : Int) else 0) = 0
          rw [decide_eq_false q]
          rfl
        have e2 : capA B (some v) = some v := if_neg q
        rw [e1, e2]
        exact at0
def spLLeast : Sp := fun vs H Q _ => ∃ (a : Addr) (S : List Fm), vs = [.ref a] ∧ SheetAt H a S ∧ Wf S ∧ Plain S ∧ RetL ((lfpL S).map av) H Q
theorem ok_lLeast (T : Bt mg) (h : Has K mg "_law_least" sLLeast) (cLBound : Cl P w K mg base 1 "_law_bound" spLBound) (cLValues : Cl P w K mg base 4 "_law_values" spFlatValues) : Cl P w K mg base 5 "_law_least" spLLeast := by
  refine cl_of h scLLeast (fun _ _ _ _ _ _ us hl => match us, hl with | [_], _ => rfl) (fun vs H Q E h => ?_) (fun f cdv A outer s H vs Q E hr h => ?_)
  · obtain ⟨a, S, rfl, _⟩ := h
    rfl
  obtain ⟨a, S, rfl, hS, ok, pl, q⟩ := h
  have ms := ms_of ok pl
  have hlen := ok.len
  refine ⟨_, (pss_cons (ps_set (i := 1) scLLeast.nd rfl (Or.inr rfl) (pe_k cLBound (hr.mono (by decide)) (by rfl) (pa_cons (pv 0) pa_nil)))
      (pss_cons (ps_setLc (i := 2) (own := [("_law_formula", 5)]) rfl scLLeast.nd rfl rfl (sw_true rfl rfl rfl (by decide +kernel)) (pi_list (pv 0)) (blkOk_by (own := [("_law_formula", 5)]) (N := nLLeast) (sc := defScope sLLeast) (by decide +kernel)) (fun _ _ _ _ _ => (pg_name (i := 5) scLLeast.nd rfl (Or.inl rfl))) (fun _ _ _ _ _ => pts_nil) (fun _ _ _ _ _ => pe_int))
      (pss_cons (ps_for PassesOwn.never rfl (pi_range1 (by rfl) T.b_range (pa_cons pe_int pa_nil)) (pg_name (i := 3) scLLeast.nd rfl (Or.inl rfl)) (pss_cons (ps_setLc (i := 4) (own := [("_law_one", 6)]) rfl scLLeast.nd rfl rfl (sw_true rfl rfl rfl (by decide +kernel)) (pi_list (pe_k cLValues (hr.mono (by decide)) (by rfl) (pa_cons (pv 0) (pa_cons (pv 2) pa_nil)))) (blkOk_by (own := [("_law_one", 6)]) (N := nLLeast) (sc := defScope sLLeast) (by decide +kernel)) (fun _ _ _ _ _ => (pg_name (i := 6) scLLeast.nd rfl (Or.inl rfl))) (fun _ _ _ _ _ => pts_nil) (fun _ _ _ _ _ => (pe_ix (ix_listK (K := K)) (pe_lst (pa_cons (pv 6) (pa_cons pe_non pa_nil))) (pe_callTy call_int1 (by rfl) T.b_int (by decide +kernel) (pa_cons (pe_and (pe_cmpR op_notN (pv 6) pe_non (nomark _)) (pe_one (pe_cmpR op_gt (pv 6) (pv 1) (nomark _)))) pa_nil)) (fun _ _ => rfl))))
      (pss_cons (ps_if (pt_cmpR (op_eqD hr.units) (pv 4) (pv 2) (nomark _)) (pss_one ps_break) pss_nil)
      (pss_one (ps_set (i := 2) scLLeast.nd rfl (Or.inl rfl) (pv 4))))))
      (pss_one (ps_ret (pv 2)))))), ?_⟩
  refine q_asgK (ea_cons (ev_var rfl) ea_nil) fun H1 e1 => ⟨a, S, rfl, hS.ex e1, ok, pl, fun B H2 hB e2 => ?_⟩
  have e12 := e1.trans e2
  refine q_asgL (xs := (itL S B 0).map av) ?_ fun r0 H3 hr0 e3 h3 => ?_
  · have e : (itL S B 0).map av = S.map fun _ => V.int 0 := by
      show (List.replicate S.length (some (0 : Int))).map av = _
      rw [List.map_replicate, List.map_const']
      rfl
    rw [e]
    exact el_sheet (F := fun _ => V.int 0) (ev_var rfl) (hS.ex e12) ok (fun _ => rfl) fun f c H1 e1 hf hok => ev_c
  have e13 := e12.trans e3
  refine q_forR1 (n := (20000 : Int)) (ea_cons ev_c ea_nil) (by omega) (fun k σ' H' => Ex H H' ∧ (∀ j, j < k → itL S B (j + 1) ≠ itL S B j) ∧ ∃ rx y3 y4 y5 y6, H rx = none ∧ H' rx = some (.lst ((itL S B k).map av)) ∧ σ' = [some (.ref a), some (.int B), some (.ref rx), y3, y4, y5, y6])
    (fun H4 e4 => ⟨e13.trans e4, fun j hj => absurd hj (Nat.not_lt_zero _), r0, _, _, _, _, fresh_back e12 hr0, e4 _ _ h3, rfl⟩) (fun k σ' H' hk Pk => ?_) fun σ' H' Pk => ?_
  · obtain ⟨e, hne, rx, y3, y4, y5, y6, hrx, hx, rfl⟩ := Pk
    have xl := itL_len S B k
    refine q_asgL (xs := (itL S B (k + 1)).map av) ?_ fun rl H4 hrl e4 h4 => ?_
    · have z := el_lcN (K := K) (α := Amt) (tl := tCall spFlatValues [] L2.E0 (tCons (tVar 0) (tCons (tVar 2) tNil))) (σ := [some (.ref a), some (.int B), some (.ref rx), some (.int (k : Int)), y4, y5, y6]) (H := H') (t := tYes) (g := gName 6) (vs := [6]) (te := tOp (rIxL K) (tLst (tCons (tVar 6) (tCons (tC .non) tNil))) (tCB (fun xs H Q => (∃ i, xs = [V.int i] ∧ Q (.int i) H) ∨ ∃ k, xs = [V.bl k] ∧ Q (.int (if k then 1 else 0)) H) (tCons (tAndV (tOp (fun x y H Q => y = .non ∧ Q (.bl (!decide (x = .non))) H) (tVar 6) (tC .non)) (tOp (rI0 fun i j => .bl (decide (j < i))) (tVar 6) (tVar 1))) tNil))) (xs := (fvals S (itL S B k)).map av) (ys := fvals S (itL S B k)) (fun _ => true) (fun y => av (capA B y)) (el_call (ea_cons (ev_var rfl) (ea_cons (ev_var rfl) ea_nil)) (sv_flatValues (hS.ex e) hx ok xl)) (List.length_map _) (by rw [fvals_len]; omega) fun n u y hu hy => by
        obtain ⟨y', hy', rfl⟩ := getMap hu
        have ey : y' = y := Option.some.inj (hy'.symm.trans hy)
        subst ey
        exact ⟨_, fun H1 e1 Q q => q, rfl, fun H1 e1 H2 e2 Q k => k H2 (Ex.refl H2), fun _ H1 e1 => ev_cap (fun _ => ev_var rfl) fun _ => ev_var rfl⟩
      rw [filter_true] at z
      have e : (itL S B (k + 1)).map av = (fvals S (itL S B k)).map fun y => av (capA B y) := by
        show ((fvals S (itL S B k)).map (capA B)).map av = _
        rw [List.map_map]
        rfl
      rw [e]
      exact z
    refine q_when (et_test (ev_op (ev_var rfl) (ev_var rfl) (rv_eqL leafA eqv_A h4 (e4 _ _ hx)))) (fun hb H5 e5 => ?_) fun hb H5 e5 => ?_
    · have hb := of_decide_eq_true hb
      have he := itL_end ok ms hB hb
      show tRet (tVar 2) _ _ _
      refine s_ret (ev_var rfl) fun H6 e6 => q rx H6 hrx (e.trans (e4.trans (e5.trans e6))) ?_
      rw [← he]
      exact (e4.trans (e5.trans e6)) _ _ hx
    · have hb := of_decide_eq_false hb
      refine s_asg (ev_var rfl) fun H6 e6 => ⟨e.trans (e4.trans (e5.trans e6)), fun j hj => ?_, rl, _, _, _, _, fresh_back e hrl, (e5.trans e6) _ _ h4, rfl⟩
      by_cases ej : j = k
      · rw [ej]
        exact hb
      · exact hne j (by omega)
  · obtain ⟨e, hne, rx, y3, y4, y5, y6, hrx, hx, rfl⟩ := Pk
    have z := itL_few ok ms hB hne
    have e2 : ((20000 : Int)).toNat = 20000 := rfl
    rw [e2] at z
    omega
/-! ### _law_stages -/
theorem el_call2 {σ : L2.St} {H : Hp} {ta tb : TA} {sp1 sp2 : Sp} {vs xs : List V} (ha : EvA ta σ H vs) (k : ∀ H1, Ex H H1 → ∀ Q : VK, (∀ p H2, H1 p = none → Ex H1 H2 → H2 p = some (.lst xs) → Q (.ref p) H2) → sp1 (vs ++ []) H1 (fun x H2 => tb σ H2 fun ws H3 => sp2 ((x :: ws) ++ []) H3 Q L2.E0) L2.E0) :
    EvL (tCall sp2 [] L2.E0 (tCons (tCall sp1 [] L2.E0 ta) tb)) σ H xs := fun H1 e Q q => ha H1 e _ fun H2 e2 => k H2 (e.trans e2) Q fun p H3 hp e3 h3 => q p H3 (fresh_back e2 hp) (e2.trans e3) h3
def LastOf (S : List Fm) (H : Hp) (r : Addr) : Prop := ∃ (ads : List Addr) (t p x : Addr), H r = some (.lst (ads.map V.ref)) ∧ atI (ads.map V.ref) (-1) = some (.ref t) ∧ H t = some (.tup [.ref p, .ref x]) ∧ H x = some (.lst ((xs S (lastS S)).map av))
def spLStages : Sp := fun vs H Q _ => ∃ (a : Addr) (S : List Fm), vs = [.ref a] ∧ SheetAt H a S ∧ Wf S ∧ ∀ r H2, H r = none → Ex H H2 → LastOf S H2 r → Q (.ref r) H2
theorem ok_lStages (T : Bt mg) (h : Has K mg "_law_stages" sLStages) (cLOpened : Cl P w K mg base 1 "_law_opened" spOpened) (cLLeast : Cl P w K mg base 5 "_law_least" spLLeast) (cLFulfilled : Cl P w K mg base 2 "_law_fulfilled" spFulfilled) : Cl P w K mg base 6 "_law_stages" spLStages := by
  refine cl_of h scLStages (fun _ _ _ _ _ _ us hl => match us, hl with | [_], _ => rfl) (fun vs H Q E h => ?_) (fun f cdv A outer s H vs Q E hr h => ?_)
  · obtain ⟨a, S, rfl, _⟩ := h
    rfl
  obtain ⟨a, S, rfl, hS, ok, q⟩ := h
  obtain ⟨hl1, hl2⟩ := lastS_spec ok
  have hle := lastS_le ok
  have hlen := ok.len
  refine ⟨_, (pss_cons (ps_set (i := 1) scLStages.nd rfl (Or.inl rfl) (pe_lst pa_nil))
      (pss_cons (ps_set (i := 2) scLStages.nd rfl (Or.inl rfl) (pe_lst pa_nil))
      (pss_cons (ps_for PassesOwn.never rfl (pi_range1 (by rfl) T.b_range (pa_cons (pe_op op_add (pe_callB (call_lenK (K := K)) (by rfl) T.b_len PySem.boot_len (pa_cons (pv 0) pa_nil)) pe_int) pa_nil)) (pg_name (i := 3) scLStages.nd rfl (Or.inl rfl)) (pss_cons (ps_set (i := 4) scLStages.nd rfl (Or.inl rfl) (pe_k cLLeast (hr.mono (by decide)) (by rfl) (pa_cons (pe_k cLOpened (hr.mono (by decide)) (by rfl) (pa_cons (pv 0) (pa_cons (pv 1) pa_nil))) pa_nil)))
      (pss_cons (ps_expr (pe_bm PySem.F.plainAttrs_list PySem.F.slot_list_append PySem.F.type_list_append mt_append (pv 2) (pa_cons (pe_tup (pa_cons (pv 1) (pa_cons (pv 4) pa_nil))) pa_nil)))
      (pss_cons (ps_set (i := 5) scLStages.nd rfl (Or.inl rfl) (pe_k cLFulfilled (hr.mono (by decide)) (by rfl) (pa_cons (pv 0) (pa_cons (pv 4) pa_nil))))
      (pss_cons (ps_if (pt_cmpR (op_eqD hr.units) (pv 5) (pv 1) (nomark _)) (pss_one ps_break) pss_nil)
      (pss_one (ps_set (i := 1) scLStages.nd rfl (Or.inl rfl) (pv 5))))))))
      (pss_one (ps_ret (pv 2)))))), ?_⟩
  refine q_asgL (el_lst ea_nil (Nat.zero_le _)) fun r0 H1 hr0 e1 h1 => ?_
  refine q_asgL (el_lst ea_nil (Nat.zero_le _)) fun rs H2 hrs e2 h2 => ?_
  have e12 := e1.trans e2
  have hrs0 : H rs = none := fresh_back e1 hrs
  have n0 : r0 ≠ rs := ne_of_none h1 hrs
  refine q_forR1 (n := ((S.length + 1 : Nat) : Int)) (ea_cons (ev_is (ev_add (ev_lenS (ev_var rfl) (hS.ex e12)) ev_c) (by show V.int ((S.length : Int) + 1) = V.int ((S.length + 1 : Nat) : Int); rfl)) ea_nil) (by omega) (fun k σ' H' => k ≤ lastS S ∧ Ex H H' ∧ ∃ (rp : Addr) (ads : List Addr) (y3 y4 y5 : Option V), rp ≠ rs ∧ H' rp = some (.lst ((stg S k).map nv)) ∧ H' rs = some (.lst (ads.map V.ref)) ∧ ads.length = k ∧ σ' = [some (.ref a), some (.ref rp), some (.ref rs), y3, y4, y5])
    (fun H3 e3 => ⟨Nat.zero_le _, e12.trans e3, r0, [], _, _, _, n0, (e2.trans e3) _ _ h1, e3 _ _ h2, rfl, rfl⟩) (fun k σ' H' hk Pk => ?_) fun σ' H' Pk => ?_
  · obtain ⟨hkl, e, rp, ads, y3, y4, y5, nps, hp, hx, hal, rfl⟩ := Pk
    have ok' := opn_wf (stg S k) ok
    refine q_asgL (el_call2 (xs := (xs S k).map av) (ea_cons (ev_var rfl) (ea_cons (ev_var rfl) ea_nil)) fun H3 e3 Q q => ⟨a, rp, S, stg S k, rfl, (hS.ex e).ex e3, e3 _ _ hp, ok.len, fun ro H4 hro e4 hO => ⟨ro, opn S (stg S k), rfl, hO, ok', opn_plain S _, fun p H5 hp5 e5 h5 => q p H5 (fresh_back e4 hp5) (e4.trans e5) h5⟩⟩) fun rx H3 hrx e3 h3 => ?_
    have e03 := e.trans e3
    have nxs : rx ≠ rs := fun z => by
      rw [z, hx] at hrx
      cases hrx
    refine q_appU (e3 _ _ hx) (ev_var rfl) (eu_tup (ea_cons (ev_var rfl) (ea_cons (ev_var rfl) ea_nil)) (by show 2 ≤ 100000; decide)) (by rw [List.length_map]; omega) fun tq H4 htq e4 h4 => ?_
    have e34 := e3.trans e4
    have x5 : Ex H (upd H4 rs (.lst (ads.map V.ref ++ [.ref tq]))) := Ex.mut (e.trans e34) hrs0
    have rx5 : (upd H4 rs (.lst (ads.map V.ref ++ [.ref tq]))) rx = some (.lst ((xs S k).map av)) := by
      rw [upd_ne nxs]
      exact e4 _ _ h3
    have rp5 : (upd H4 rs (.lst (ads.map V.ref ++ [.ref tq]))) rp = some (.lst ((stg S k).map nv)) := by
      rw [upd_ne nps]
      exact e34 _ _ hp
    have tq5 : (upd H4 rs (.lst (ads.map V.ref ++ [.ref tq]))) tq = some (.tup [.ref rp, .ref rx]) := by
      rw [upd_ne (ne_of h4 (e34 _ _ hx) (by intro z; cases z))]
      exact h4
    have rs5 : (upd H4 rs (.lst (ads.map V.ref ++ [.ref tq]))) rs = some (.lst ((ads ++ [tq]).map V.ref)) := by
      rw [upd_same, List.map_append]
      rfl
    generalize upd H4 rs (.lst (ads.map V.ref ++ [.ref tq])) = H5 at x5 rx5 rp5 tq5 rs5 ⊢
    refine q_asgL (el_call (ea_cons (ev_var rfl) (ea_cons (ev_var rfl) ea_nil)) (sv_fulfilled (hS.ex x5) rx5 (xs_len S k) ok)) fun rl H6 hrl e6 h6 => ?_
    have h6 : H6 rl = some (.lst ((stg S (k + 1)).map nv)) := h6
    refine q_when (et_test (ev_op (ev_var rfl) (ev_var rfl) (rv_eqL leafN eqv_N h6 (e6 _ _ rp5)))) (fun hb H7 e7 => ?_) fun hb H7 e7 => ?_
    · have hb := of_decide_eq_true hb
      have ek : k = lastS S := by
        by_cases z : k < lastS S
        · exact absurd hb (hl2 k z)
        · omega
      show tRet (tVar 2) _ _ _
      refine s_ret (ev_var rfl) fun H8 e8 => ?_
      have e58 := e6.trans (e7.trans e8)
      refine q rs H8 hrs0 (x5.trans e58) ⟨ads ++ [tq], tq, rp, rx, e58 _ _ rs5, ?_, e58 _ _ tq5, ?_⟩
      · rw [List.map_append]
        exact atI_last _ _
      · rw [← ek]
        exact e58 _ _ rx5
    · have hb := of_decide_eq_false hb
      have hk1 : k + 1 ≤ lastS S := by
        by_cases z : k = lastS S
        · rw [z] at hb
          exact absurd hl1 hb
        · omega
      refine s_asg (ev_var rfl) fun H8 e8 => ⟨hk1, x5.trans (e6.trans (e7.trans e8)), rl, ads ++ [tq], _, _, _, Ne.symm (ne_of_none rs5 hrl), (e7.trans e8) _ _ h6, (e6.trans (e7.trans e8)) _ _ rs5, by rw [List.length_append, hal]; rfl, rfl⟩
  · obtain ⟨hkl, _⟩ := Pk
    rw [Int.toNat_natCast] at hkl
    omega
end Cs
set_option Elab.async false
set_option linter.all false
set_option maxRecDepth 100000
set_option maxHeartbeats 4000000
/-! LJ: repr of a sheet; the law -/
namespace Cs
open PySem PySem.Spec PyProof.Rows L2 Evl LamX
variable {P : Program} {w : World} {K : PySem.W.Frag} {mg : Str → Option Value} {base : Heap}
/-! ### a sheet as data -/
def arcD (p : Arc) : PyData := .tuple [.int (p.1 : Int), .int p.2]
def fmD : Fm → PyData
  | .amt a => .tuple [.str (Str.ofString "amount"), pdA a]
  | .least arcs => .tuple [.str (Str.ofString "least"), .list (arcs.map arcD)]
  | .great arcs => .tuple [.str (Str.ofString "greatest"), .list (arcs.map arcD)]
  | .when j b k => .tuple [.str (Str.ofString "when"), .int (j : Int), .int b, .int (k : Int)]
def shD (S : List Fm) : PyData := .list (S.map fmD)
theorem dp_av {H : Hp} (a : Amt) : Dp K H (av a) (pdA a) := leafA.dp K H a
theorem dp_arcs {H : Hp} : ∀ {ads : List Addr} {arcs : List Arc}, Paired (fun a p => H a = some (.tup (arcV p))) ads arcs → DpAll K H (ads.map V.ref) (arcs.map arcD)
  | _, _, .nil => .nil
  | _, _, .cons h t => .cons (.tup (st_of h) (.cons (.int _) (.cons (.int _) .nil))) (dp_arcs t)
theorem dp_fm {H : Hp} {a : Addr} : ∀ {f : Fm}, FmAt H a f → Dp K H (.ref a) (fmD f)
  | .amt x, h => .tup (st_of h) (.cons (.str _) (.cons (dp_av x) .nil))
  | .least arcs, ⟨l, h1, ads, h2, h3⟩ => .tup (st_of h1) (.cons (.str _) (.cons (.lst (sq_of h2) (dp_arcs h3)) .nil))
  | .great arcs, ⟨l, h1, ads, h2, h3⟩ => .tup (st_of h1) (.cons (.str _) (.cons (.lst (sq_of h2) (dp_arcs h3)) .nil))
  | .when j b k, h => .tup (st_of h) (.cons (.str _) (.cons (.int _) (.cons (.int _) (.cons (.int _) .nil))))
theorem dp_fms {H : Hp} : ∀ {ads : List Addr} {S : List Fm}, Paired (FmAt H) ads S → DpAll K H (ads.map V.ref) (S.map fmD)
  | _, _, .nil => .nil
  | _, _, .cons h t => .cons (dp_fm h) (dp_fms t)
theorem dp_sheet {H : Hp} {a : Addr} {S : List Fm} (h : SheetAt H a S) : Dp K H (.ref a) (shD S) := by
  obtain ⟨ads, h1, h2⟩ := h
  exact .lst (sq_of h1) (dp_fms h2)
/-- what the text of such data needs: m bounds its length -/
structure Sh (d : PyData) (dep m : Nat) : Prop where
  sh : d.showable = true
  nd : d.hasDict = false
  dp : d.depth ≤ dep
  ln : d.shown.length ≤ m
theorem small_int : ∀ n : Fin 40, (PyData.shown (.int ((n.val : Int) - 20))).length ≤ 4 := by decide +kernel
theorem sh_int {i : Int} (h : -20 ≤ i ∧ i < 20) : Sh (.int i) 1 4 := by
  refine ⟨?_, rfl, by simp [PyData.depth], ?_⟩
  · show decide (i.natAbs.log2 < 1920) = true
    refine decide_eq_true ?_
    have : i.natAbs < 2 ^ 5 := by omega
    by_cases z : i.natAbs = 0
    · rw [z]
      decide
    · have := (Nat.log2_lt z).mpr this
      omega
  · have z := small_int ⟨(i + 20).toNat, by omega⟩
    have e : (((⟨(i + 20).toNat, by omega⟩ : Fin 40).val : Nat) : Int) - 20 = i := by
      show (((i + 20).toNat : Nat) : Int) - 20 = i
      omega
    rw [e] at z
    exact z
theorem sh_none : Sh .none 1 4 := ⟨rfl, rfl, by simp [PyData.depth], by decide +kernel⟩
theorem sh_strA : Sh (.str (Str.ofString "amount")) 1 20 := ⟨rfl, rfl, by simp [PyData.depth], by decide +kernel⟩
theorem sh_strL : Sh (.str (Str.ofString "least")) 1 20 := ⟨rfl, rfl, by simp [PyData.depth], by decide +kernel⟩
theorem sh_strG : Sh (.str (Str.ofString "greatest")) 1 20 := ⟨rfl, rfl, by simp [PyData.depth], by decide +kernel⟩
theorem sh_strW : Sh (.str (Str.ofString "when")) 1 20 := ⟨rfl, rfl, by simp [PyData.depth], by decide +kernel⟩
structure ShAll (ds : List PyData) (dep m : Nat) : Prop where
  sh : PyData.showableAll ds = true
  nd : PyData.hasDictAll ds = false
  dp : PyData.depthAll ds ≤ dep
  ln : ((PyData.shownAll ds).map (·.length)).sum ≤ ds.length * m
  cnt : (PyData.shownAll ds).length = ds.length
theorem shAll_nil {dep m : Nat} : ShAll [] dep m := ⟨rfl, rfl, by simp [PyData.depthAll], by simp [PyData.shownAll], rfl⟩
theorem shAll_cons {d : PyData} {ds : List PyData} {dep m : Nat} (h : Sh d dep m) (t : ShAll ds dep m) : ShAll (d :: ds) dep m := by
  refine ⟨?_, ?_, ?_, ?_, ?_⟩
  · show (d.showable && PyData.showableAll ds) = true
    rw [h.sh, t.sh]
    rfl
  · show (d.hasDict || PyData.hasDictAll ds) = false
    rw [h.nd, t.nd]
    rfl
  · have a := h.dp
    have b := t.dp
    simp only [PyData.depthAll]
    omega
  · have a := h.ln
    have b := t.ln
    simp only [PyData.shownAll, List.map_cons, List.sum_cons, List.length_cons, Nat.add_mul]
    omega
  · have := t.cnt
    simp only [PyData.shownAll, List.length_cons]
    omega
theorem Sh.up {d : PyData} {dep dep' m m' : Nat} (h : Sh d dep m) (h1 : dep ≤ dep') (h2 : m ≤ m') : Sh d dep' m' := ⟨h.sh, h.nd, Nat.le_trans h.dp h1, Nat.le_trans h.ln h2⟩
theorem sh_tuple {ds : List PyData} {dep m : Nat} (h : ShAll ds dep m) : Sh (.tuple ds) (dep + 1) (ds.length * m + 2 * ds.length + 3) := by
  refine ⟨h.sh, h.nd, ?_, ?_⟩
  · have := h.dp
    simp only [PyData.depth]
    omega
  · have a := tupleText_len_le (PyData.shownAll ds)
    have b := h.ln
    have c := h.cnt
    show (tupleText (PyData.shownAll ds)).length ≤ _
    omega
theorem sh_list {ds : List PyData} {dep m : Nat} (h : ShAll ds dep m) : Sh (.list ds) (dep + 1) (ds.length * m + 2 * ds.length + 3) := by
  refine ⟨h.sh, h.nd, ?_, ?_⟩
  · have := h.dp
    simp only [PyData.depth]
    omega
  · have a := listText_len_le (PyData.shownAll ds)
    have b := h.ln
    have c := h.cnt
    show (listText (PyData.shownAll ds)).length ≤ _
    omega
theorem sh_arcs {n : Nat} (hn : n ≤ 13) : ∀ {arcs : List Arc}, (∀ p ∈ arcs, p.1 < n ∧ -4 ≤ p.2 ∧ p.2 ≤ 4) → ShAll (arcs.map arcD) 2 20
  | [], _ => shAll_nil
  | p :: arcs, h => by
    obtain ⟨h1, h2, h3⟩ := h p List.mem_cons_self
    refine shAll_cons ?_ (sh_arcs hn fun q hq => h q (List.mem_cons_of_mem _ hq))
    exact (sh_tuple (shAll_cons (sh_int (i := (p.1 : Int)) (by omega)) (shAll_cons (sh_int (i := p.2) (by omega)) shAll_nil))).up (by omega) (by show 2 * 4 + 2 * 2 + 3 ≤ 20; omega)
theorem sh_pdA {a : Amt} (h : ∀ i, a = some i → 0 ≤ i ∧ i ≤ 11) : Sh (pdA a) 1 4 := by
  cases a with
  | none => exact sh_none
  | some i =>
    have := h i rfl
    exact sh_int (i := i) (by omega)
theorem sh_fm {n : Nat} (hn : n ≤ 13) {f : Fm} (ok : FmOk n f) : Sh (fmD f) 4 1000 := by
  have arcsS : ∀ arcs, ArcsOk n arcs → Sh (.list (arcs.map arcD)) 3 200 := fun arcs h => (sh_list (sh_arcs hn h.ok)).up (by omega) (by
    have := h.len
    rw [List.length_map]
    have : arcs.length * 20 ≤ 6 * 20 := Nat.mul_le_mul_right _ this
    omega)
  cases f with
  | amt a => exact (sh_tuple (shAll_cons (sh_strA.up (Nat.le_refl _) (Nat.le_refl _)) (shAll_cons ((sh_pdA ok).up (Nat.le_refl _) (by omega)) shAll_nil))).up (by omega) (by show 2 * 20 + 2 * 2 + 3 ≤ 1000; omega)
  | least arcs => exact (sh_tuple (dep := 3) (m := 200) (shAll_cons (sh_strL.up (by omega) (by omega)) (shAll_cons (arcsS arcs ok) shAll_nil))).up (by omega) (by show 2 * 200 + 2 * 2 + 3 ≤ 1000; omega)
  | great arcs => exact (sh_tuple (dep := 3) (m := 200) (shAll_cons (sh_strG.up (by omega) (by omega)) (shAll_cons (arcsS arcs ok) shAll_nil))).up (by omega) (by show 2 * 200 + 2 * 2 + 3 ≤ 1000; omega)
  | when j b k =>
    obtain ⟨h1, h2, h3, h4⟩ := ok
    exact (sh_tuple (dep := 1) (m := 20) (shAll_cons sh_strW (shAll_cons ((sh_int (i := (j : Int)) (by omega)).up (Nat.le_refl _) (by omega)) (shAll_cons ((sh_int (i := b) (by omega)).up (Nat.le_refl _) (by omega)) (shAll_cons ((sh_int (i := (k : Int)) (by omega)).up (Nat.le_refl _) (by omega)) shAll_nil))))).up (by omega) (by show 4 * 20 + 2 * 4 + 3 ≤ 1000; omega)
theorem sh_fms {n : Nat} (hn : n ≤ 13) : ∀ {S : List Fm}, (∀ f ∈ S, FmOk n f) → ShAll (S.map fmD) 4 1000
  | [], _ => shAll_nil
  | f :: S, h => shAll_cons (sh_fm hn (h f List.mem_cons_self)) (sh_fms hn fun g hg => h g (List.mem_cons_of_mem _ hg))
theorem sh_sheet {S : List Fm} (ok : Wf S) : Sh (shD S) 5 20000 := by
  refine (sh_list (sh_fms ok.len fun f hf => ?_)).up (by omega) ?_
  · obtain ⟨i, hi, e⟩ := List.mem_iff_getElem.mp hf
    exact ok.ok i f (by rw [List.getElem?_eq_getElem hi, e])
  · have := ok.len
    rw [List.length_map]
    have : S.length * 1000 ≤ 13 * 1000 := Nat.mul_le_mul_right _ this
    omega
/-! ### repr -/
def rReprS (K : PySem.W.Frag) : List V → Hp → VK → Prop := fun xs H Q => ∃ (a : Addr) (S : List Fm), xs = [V.ref a] ∧ SheetAt H a S ∧ Wf S ∧ Q (.str (shD S).shown) H
theorem call_reprS {X : Cx} (hg : X.A.guards = some []) (hu : X.A.units + 64 < cLine) : CallR X (.builtin "repr") (rReprS X.K) := by
  intro pins s σ H xs us Q I r h
  obtain ⟨a, S, rfl, hS, ok, q⟩ := h
  rw [Vals.ref1 r]
  obtain ⟨as, hr⟩ := Dp.reads I (shD S) (.ref a) (.ref a) (dp_sheet hS) rfl
  have sh := sh_sheet ok
  refine repr_of_reads' hr sh.sh (fun z => by rw [sh.nd] at z; cases z) hg (by have := sh.dp; omega) (fun _ _ e => e) (fun h' u tk k => ?_) (Nat.le_trans sh.ln (by decide))
  exact ⟨.str (shD S).shown, H, I.kept k, ⟨u, rfl⟩, q⟩
end Cs
set_option Elab.async false
set_option linter.all false
set_option maxRecDepth 100000
set_option maxHeartbeats 4000000
/-! LK: the law -/
namespace Cs
open PySem PySem.Spec PyProof.Rows L2 Evl LamX
variable {P : Program} {w : World} {K : PySem.W.Frag} {mg : Str → Option Value} {base : Heap}
theorem tabs_hx {Tt : List (Addr × Str)} {H H2 : Hp} {pa : Addr} {n : Nat} (h : Tabs Tt H) (hp : PoolAt H pa n) (e : Ex (hd H pa) H2) : Tabs Tt H2 := fun q hq => by
  obtain ⟨ns, p1, _⟩ := hp
  obtain ⟨ps, h1, h2, h3⟩ := h q hq
  refine ⟨ps, e _ _ (by rw [hd_at (ne_of h1 p1 (by intro z; cases z))]; exact h1), h2, fun pos cv hcv => ?_⟩
  obtain ⟨c, e1, e2⟩ := h3 pos cv hcv
  exact ⟨c, e1, e _ _ (by rw [hd_at (ne_of e2 p1 (by intro z; unfold CodeO at z; cases z))]; exact e2)⟩
theorem q_whenOrX {σ : L2.St} {H : Hp} {D : Ends} {t1 t2 : TT} {tu tz : TS} (h1 : EvT t1 σ H false) (h2 : ∀ H1, Ex H H1 → t2 σ H1 fun b H2 => if b = true then tu { D with nx := tz D } σ H2 else tz D σ H2) : tSeq (tIfS (tOr t1 t2) tu tNext) tz D σ H := h1 H (Ex.refl H) _ fun H1 e1 => h2 H1 e1
theorem law_body {Pt : Addr} (T : Bt mg) (cLStream : Cl P w K mg base 2 "_law_stream" (spLStream K)) (cLFlat : Cl P w K mg base 3 "_law_flat" spLFlat) (cPLeastPaper : Cl P w K mg base 6 "least_paper" (spLeastPaper Pt)) (cLIsLeastForm : Cl P w K mg base 2 "_law_is_least_form" spIsLeastPaper) (cLLeastPaper : Cl P w K mg base 6 "_law_least_paper" spIsLeastPaper)
    (cPIsLeastPaper : Cl P w K mg base 7 "is_least_paper" spIsLeastPaper) (cPFlatLeast : Cl P w K mg base 6 "flat_least" (spFlatLeast Pt)) (cLStages : Cl P w K mg base 6 "_law_stages" spLStages)
    {f : Addr} {cdv : Value} {A : Around} {outer : List Env} {s : Shared} {H : Hp} {Q : VK} {E : XK} {p : Addr} {ns : List Int} (hr : Room 7 (A.deeper (envOfC "law" (defScope sPLaw) s.heap.objs.size f cdv))) (hgd : A.guards = some []) (hp : SqL K H p (ns.map V.int)) (hlen : ns.length ≤ 63) (tb : Tabs (TT1 Pt) H) (q : ∀ H2, Q (.bl true) H2) :
    ∃ t, PSs (cxOf L2.CX0 P w K mg base nPLaw "law" (defScope sPLaw) f cdv A outer s H E).nox (defBody sPLaw) t ∧ t { nx := fun _ H' => Q .non H', rt := Q } (L2.start nPLaw [.ref p]) H := by
  refine ⟨_, (pss_cons (ps_set (i := 1) scPLaw.nd rfl (Or.inl rfl) (pe_k cLStream (hr.mono (by decide)) (by rfl) (pa_cons (pv 0) pa_nil)))
      (pss_cons (ps_set (i := 2) scPLaw.nd rfl (Or.inl rfl) (pe_k cLFlat (hr.mono (by decide)) (by rfl) (pa_cons (pv 1) (pa_cons pe_int (pa_cons pe_bl pa_nil)))))
      (pss_cons (ps_set (i := 3) scPLaw.nd rfl (Or.inl rfl) (pe_callB (call_reprS hgd hr.units) (by rfl) T.b_repr (by decide +kernel) (pa_cons (pv 2) pa_nil)))
      (pss_cons (ps_set (i := 4) scPLaw.nd rfl (Or.inl rfl) (pe_k cPLeastPaper (hr.mono (by decide)) (by rfl) (pa_cons (pv 2) pa_nil)))
      (pss_cons (ps_if (PW.pt (pw_or (pt_not (pt_val (pe_k cLIsLeastForm (hr.mono (by decide)) (by rfl) (pa_cons (pv 2) (pa_cons (pv 4) pa_nil))))) (pw_or (pt_not (pt_val (pe_k cLLeastPaper (hr.mono (by decide)) (by rfl) (pa_cons (pv 2) (pa_cons (pv 4) pa_nil))))) (pw_or1 (pt_cmpR op_ne (pe_callB (call_reprS hgd hr.units) (by rfl) T.b_repr (by decide +kernel) (pa_cons (pv 2) pa_nil)) (pv 3) (nomark _)))))) (pss_one (ps_ret pe_bl)) pss_nil)
      (pss_cons (ps_if (PW.pt (pw_or (pt_cmpR op_notBl (pe_k cPIsLeastPaper (hr.mono (by decide)) (by rfl) (pa_cons (pv 2) (pa_cons (pv 4) pa_nil))) pe_bl (nomark _)) (pw_or1 (pt_cmpR (op_neD hr.units) (pe_k cPFlatLeast (hr.mono (by decide)) (by rfl) (pa_cons (pv 2) pa_nil)) (pe_ix (ix_tupK (K := K)) (pe_ix (ix_listK (K := K)) (pv 4) (pe_un un_neg pe_int) (fun _ _ => rfl)) pe_int (fun _ _ => rfl)) (nomark _))))) (pss_one (ps_ret pe_bl)) pss_nil)
      (pss_one (ps_ret (pe_cmpR (op_eqD hr.units) (pe_ix (ix_tupK (K := K)) (pe_ix (ix_listK (K := K)) (pv 4) (pe_un un_neg pe_int) (fun _ _ => rfl)) pe_int (fun _ _ => rfl)) (pe_ix (ix_tupK (K := K)) (pe_ix (ix_listK (K := K)) (pe_k cLStages (hr.mono (by decide)) (by rfl) (pa_cons (pv 2) pa_nil)) (pe_un un_neg pe_int) (fun _ _ => rfl)) pe_int (fun _ _ => rfl)) (nomark _)))))))))), ?_⟩
  refine q_asgK (ea_cons (ev_var rfl) ea_nil) fun H1 e1 => ⟨p, ns, rfl, ex_l e1 hp, hlen, fun pa H2 ms hpa e2 h2 l1 l2 => ?_⟩
  have tb2 := tb.ext (e1.trans e2)
  refine q_asgK (ea_cons (ev_var rfl) (ea_cons ev_c (ea_cons ev_c ea_nil))) fun H3 e3 => ⟨pa, ms.length, rfl, ⟨ms, e3 _ _ h2, rfl⟩, by omega, by omega, fun a S H4 ha na e4 p4 hS ok => ?_⟩
  have tb4 := tabs_hx (tb2.ext e3) ⟨ms, e3 _ _ h2, rfl⟩ e4
  have rp : ∀ {σ : L2.St} {H5 : Hp} {t : TE}, Ev t σ H5 (.ref a) → SheetAt H5 a S → Ev (tCB (rReprS K) (tCons t tNil)) σ H5 (.str (shD S).shown) := fun ht h5 => ev_cb (ea_cons ht ea_nil) fun H1 e Q q => ⟨a, S, rfl, h5.ex e, ok, q H1 (Ex.refl H1)⟩
  refine q_asg (rp (ev_var rfl) hS) fun H5 e5 => ?_
  refine q_asgK (ea_cons (ev_var rfl) ea_nil) fun H6 e6 => ⟨a, S, rfl, hS.ex (e5.trans e6), ok, tb4.ext (e5.trans e6), fun r H7 x7 tb7 hP => ?_⟩
  have hS7 := (hS.ex (e5.trans e6)).xn x7
  refine q_when (b := false) (et_is (et_or (a := false) (b := false) (et_is (et_not (et_B (ev_call (ea_cons (ev_var rfl) (ea_cons (ev_var rfl) ea_nil)) (sv_isLeastPaper hS7 ok hP)))) rfl) fun _ => et_or (a := false) (b := false) (et_is (et_not (et_B (ev_call (ea_cons (ev_var rfl) (ea_cons (ev_var rfl) ea_nil)) (sv_isLeastPaper hS7 ok hP)))) rfl) fun _ => et_is (et_test (ev_ne (rp (ev_var rfl) hS7) (ev_var rfl) rfl)) (by rw [decide_eq_true rfl]; rfl)) rfl) (fun hb => by cases hb) fun _ H8 e8 => ?_
  have hS8 := hS7.ex e8
  have hP8 := hP.xn (ex_xn e8)
  obtain ⟨ads, p1, p2⟩ := id hP8
  obtain ⟨t, ht, hR⟩ := at_lastR (f := V.ref) p2
  obtain ⟨q1, x, q3, q4, q5, rk, ch, pt, g1, g2, g3, g4, g5, g6, gst⟩ := hR
  -- paper[-1][1]
  have lastX : ∀ {y3 : Option V} {H9 : Hp}, Xn H8 H9 → Ev (tOp (rIxT K) (tOp (rIxL K) (tVar 4) (tUn (rU fun i => .int (-i)) (tC (.int 1)))) (tC (.int 1))) [some (.ref p), some (.ref pa), some (.ref a), y3, some (.ref r)] H9 (.ref x) := fun x9 => ev_xT (ev_op (ev_var rfl) (ev_un ev_c ru_neg) (rv_ixL (sq_of (x9.lst p1)) ht)) ev_c (x9.tup g1) at1
  refine q_whenOrX (et_is (et_test (ev_op (z := .bl false) (ev_call (ea_cons (ev_var rfl) (ea_cons (ev_var rfl) ea_nil)) (sv_isLeastPaper hS8 ok hP8)) ev_c fun H1 e Q q => ⟨true, true, rfl, rfl, q H1 (Ex.refl H1)⟩)) rfl) fun H9 e9 => ?_
  refine ⟨_, rfl, ⟨a, S, rfl, hS8.ex e9, ok, tb7.ext (e8.trans e9), fun rx H10 x10 tb10 hx10 => ?_⟩⟩
  have x810 : Xn H8 H10 := Xn.trans (ex_xn e9) x10
  refine lastX x810 H10 (Ex.refl _) _ fun H11 e11 => ?_
  have x811 : Xn H8 H11 := Xn.trans x810 (ex_xn e11)
  refine rv_neL leafA eqv_A (e11 _ _ hx10) (x811.lst g3) H11 (Ex.refl _) _ fun H12 e12 => ⟨_, rfl, ?_⟩
  rw [decide_eq_true rfl]
  change ite ((!true) = true) _ _
  rw [if_neg (by decide)]
  have x812 : Xn H8 H12 := Xn.trans x811 (ex_xn e12)
  refine lastX x812 H12 (Ex.refl _) _ fun H13 e13 => ?_
  have x813 : Xn H8 H13 := Xn.trans x812 (ex_xn e13)
  refine ⟨_, rfl, ⟨a, S, rfl, hS8.xn x813, ok, fun rs H14 hrs e14 hL => ?_⟩⟩
  obtain ⟨ads2, t2, q6, x2, k1, k2, k3, k4⟩ := hL
  refine ⟨1, rfl, ?_⟩
  refine rv_ixL (K := K) (sq_of k1) k2 H14 (Ex.refl _) _ fun H15 e15 => ?_
  refine ev_c H15 (Ex.refl _) _ fun H15' e15' => ?_
  have e15 := e15.trans e15'
  refine rv_ixT (K := K) (st_of (e15 _ _ k3)) at1 H15' (Ex.refl _) _ fun H16 e16 => ?_
  have x816 : Xn H8 H16 := Xn.trans x813 (ex_xn (e14.trans (e15.trans e16)))
  refine rv_eqL leafA eqv_A (x816.lst g3) ((e15.trans e16) _ _ k4) H16 (Ex.refl _) _ fun H17 e17 => ?_
  rw [decide_eq_true rfl]
  exact q H17
end Cs
set_option Elab.async false
set_option linter.all false
set_option maxRecDepth 100000
set_option maxHeartbeats 4000000
/-! Z: the end: the law's def called by the caller alone (repr asks for the caller's empty guards), one table of code objects. -/
namespace Cs
open PySem PySem.Spec PyProof.Rows L2 Evl LamX
theorem end_call {P : Program} {w : World} {K : PySem.W.Frag} {mg mb : Str → Option Value} {fa a c Pt : Addr} {s₁ : Shared} {vs : List Value} {ns : List Int}
    (kin : K.In s₁.heap) (gns : s₁.heap.Ns mainGlobals mg) (bns : s₁.heap.Ns builtinsNs mb) (bb : ∀ x : Str, x ≠ "__name__" → mb x = bootBuiltins x) (nolim : s₁.heap.NoLimit) (nogen : s₁.gens = #[])
    (tab : s₁.heap.get? Pt = some { cls := .none, data := .fields #[] }) (ntab : K.lookup Pt = none) (cod : PySem.W.CodeHd s₁.heap c Pt)
    (mod : ∃ (bm : Addr) (ob : Obj), mg "__builtins__" = some (.ref bm) ∧ bm ≠ builtinsNs ∧ s₁.heap.get? bm = some ob ∧ ob.cls = .type "module" ∧ ob.dict = some builtinsNs ∧ ob.data = .plain)
    (arg : s₁.heap.get? a = some { cls := .type "list", data := .seq vs.toArray }) (hi : IntsAre vs ns) (few : ns.length ≤ sizeLine)
    (run : ∀ base H, K.In base → base.Ns mainGlobals mg → TabB base mg c Pt → Env0 P w K mg base callerA [] s₁ H → H Pt = some (.tbl #[]) → SqL K H a (ns.map V.int) → codeAny (model P w) callerA (.call (.ref fa) ⟨[.ref a], []⟩) (CR L2.CX0 [] P w H s₁ (fun v _ => v = .bl true) L2.E0) s₁) :
    codeAny (model P w) callerA (.call (.ref fa) ⟨[.ref a], []⟩) (fun r s' => r = .ok (.ret (.bool true)) ∧ OldK s₁.heap s'.heap ∧ s'.os = s₁.os ∧ AllBare s'.gens) s₁ := by
  have rv := vals_ints hi
  have nap : a ≠ Pt := fun z => by
    rw [z, tab] at arg
    have e : Data.fields #[] = Data.seq vs.toArray _ := congrArg Obj.data (Option.some.inj arg)
    cases e
  -- the tracked heap: the table, and the script unless it is a written one
  obtain ⟨H, hP, hN, hA, hS⟩ : ∃ H : Hp, H Pt = some (.tbl #[]) ∧ (∀ b, b ≠ Pt → b ≠ a → H b = none) ∧ (H a = none ∨ (H a = some (.frz { cls := .type "list", data := .seq vs.toArray } (.lst (ns.map V.int))) ∧ K.lookup a = none)) ∧ SqL K H a (ns.map V.int) := by
    cases hk : K.lookup a with
    | none =>
      refine ⟨fun b => if b = Pt then some (.tbl #[]) else if b = a then some (.frz { cls := .type "list", data := .seq vs.toArray } (.lst (ns.map V.int))) else none, if_pos rfl, fun b h1 h2 => ?_, .inr ⟨?_, rfl⟩, .inl (.inr ⟨{ cls := .type "list", data := .seq vs.toArray }, ?_⟩)⟩
      · exact (if_neg h1).trans (if_neg h2)
      · exact (if_neg nap).trans (if_pos rfl)
      · exact (if_neg nap).trans (if_pos rfl)
    | some o =>
      have e := kin a o hk
      rw [arg] at e
      cases e
      refine ⟨fun b => if b = Pt then some (.tbl #[]) else none, if_pos rfl, fun b h1 _ => if_neg h1, .inl (if_neg nap), .inr ⟨_, vs.toArray, _, hk, rfl, rfl, rfl, ?_, by simpa using rv⟩⟩
      rw [List.size_toArray, hi.length]
      exact few
  have hok : HOk P w H s₁.heap := fun b u hu => by
    by_cases h1 : b = Pt
    · subst h1
      rw [hP] at hu
      cases hu
      exact tab
    · by_cases h2 : b = a
      · subst h2
        rcases hA with z | ⟨z, _⟩
        · rw [z] at hu
          cases hu
        · rw [z] at hu
          cases hu
          exact ⟨arg, by rw [List.length_map]; exact few, vs, _, rv, arg⟩
      · rw [hN b h1 h2] at hu
        cases hu
  -- what is neither a table nor a list stays in sight
  have seen : ∀ {b : Addr} {o : Obj}, s₁.heap.get? b = some o → o.data ≠ .fields #[] → (∀ v n, o.data ≠ .seq v n) → (hidT s₁.heap H).get? b = some o := fun {b o} e h1 h2 => hidT_get e (hN b (fun z => by
    rw [z, tab] at e
    cases e
    exact h1 rfl) (fun z => by
    rw [z, arg] at e
    cases e
    exact h2 _ _ rfl))
  have nsSeen : ∀ {b : Addr} {m : Str → Option Value}, s₁.heap.Ns b m → (hidT s₁.heap H).Ns b m := fun {b m} ⟨o, es, ep, e, d, r⟩ => ⟨o, es, ep, seen e (by rw [d]; exact fun z => by cases z) (fun v n => by rw [d]; exact fun z => by cases z), d, r⟩
  have kSeen : K.In (hidT s₁.heap H) := fun b o e => hidT_get (kin b o e) (by
    by_cases h1 : b = Pt
    · rw [h1, ntab] at e
      cases e
    · by_cases h2 : b = a
      · rcases hA with z | ⟨_, z⟩
        · rw [h2]
          exact z
        · rw [h2, z] at e
          cases e
      · exact hN b h1 h2)
  have gb : ∀ {b : Addr} {o : Obj}, s₁.heap.get? b = some o → (∀ es ep, o.data ≠ .dict es ep) → b ≠ mainGlobals := fun {b o} e h z => by
    obtain ⟨og, es, ep, e2, d, _⟩ := gns
    rw [z, e2] at e
    exact h es ep (by rw [← Option.some.inj e]; exact d)
  have tb : TabB (hidT s₁.heap H) mg c Pt := by
    refine ⟨?_, ?_, Ne.symm (gb tab fun es ep z => by cases z)⟩
    · obtain ⟨o, us, file, tf, flags, tg, inF, text, tt, e1, r1, r2, r3, r⟩ := cod
      refine ⟨o, us, file, tf, flags, tg, inF, text, tt, seen e1 (fun z => ?_) (fun v n z => ?_), r1, r2, r3, r⟩
      · rw [r2] at z
        cases z
        simp at r3
      · rw [r2] at z
        cases z
    · obtain ⟨bm, ob, b1, b2, b3, b4, b5, b6⟩ := mod
      refine ⟨bm, ob, b1, b2, gb b3 (fun es ep z => by rw [b6] at z; cases z), fun z => ?_, seen b3 (by rw [b6]; exact fun z => by cases z) (fun v n => by rw [b6]; exact fun z => by cases z), b4, b5, b6⟩
      rw [z, tab] at b3
      cases b3
      cases b6
  have env : Env0 P w K mg (hidT s₁.heap H) callerA [] s₁ H := ⟨rfl, ⟨kSeen, nsSeen gns, ⟨mb, nsSeen bns, bb⟩, nolim.elim fun mc z => ⟨mc, nsSeen z.1, z.2⟩⟩, fun b o e => of_hidT e, Nat.le_of_eq (hidT_size _ _), trivial, fun b hb => absurd (show b ∈ ([] : List Addr) from hb) (by simp), hok, .of_eq nogen⟩
  refine codeAny_mono (run _ H kSeen (nsSeen gns) tb env hP hS) fun r s' h => ?_
  match r, h with
  | .error e, h => exact (show False from h).elim
  | .ok .next, h => exact (show False from h).elim
  | .ok .brk, h => exact (show False from h).elim
  | .ok .cont, h => exact (show False from h).elim
  | .ok (.ret u), h =>
    obtain ⟨v, H', os, bare, un, hok', r', q⟩ := h
    have q : v = .bl true := q
    subst q
    obtain rfl : u = Value.bool true := r'
    have grown : ∃ more : Array Value, s'.heap.get? Pt = some { cls := .none, data := .fields more } := by
      obtain ⟨more, z⟩ := un.tbls Pt #[] hP
      exact ⟨_, hok' Pt _ z⟩
    have same : ∀ b o, b ≠ Pt → s₁.heap.get? b = some o → s'.heap.get? b = some o := fun b o nb e => by
      have free : H b = none → s'.heap.get? b = some o := fun z => un.keep b o e z (fun z => absurd (show b ∈ ([] : List Addr) from z) (by simp)) (by simp)
      by_cases h2 : b = a
      · subst h2
        rcases hA with z | ⟨z, _⟩
        · exact free z
        · obtain ⟨e2, _⟩ := hok' b _ (un.frzs b _ _ z)
          rw [arg] at e
          rw [← Option.some.inj e]
          exact e2
      · exact free (hN b nb h2)
    obtain ⟨more, hm⟩ := grown
    refine ⟨rfl, ⟨fun b o e => ?_, fun b o e => ?_⟩, os, bare⟩
    · by_cases hb : b = Pt
      · rw [hb] at e ⊢
        rw [tab] at e
        cases e
        exact .inr (.inl ⟨(cod.tab tab).isCodeTable, rfl, #[], more, rfl, by rw [Array.empty_append]; exact hm⟩)
      · exact .inl (same b o hb e)
    · by_cases hb : b = Pt
      · rw [hb]
        exact ⟨_, hm⟩
      · exact ⟨o, same b o hb e⟩
end Cs
set_option Elab.async false
set_option linter.all false
set_option maxRecDepth 100000
set_option maxHeartbeats 0
/-! Y: the head's run: every def by its place, the lambda's table -/
namespace Cs
open PySem PySem.Spec PyProof.Rows L2
def dPAtMost : He.DefD := ⟨("at_most", none), "at_most", "at_most", defArgs sPAtMost, defBody sPAtMost, defScope sPAtMost, [], []⟩
def dPLeastOf : He.DefD := ⟨("least_of", none), "least_of", "least_of", defArgs sPLeastOf, defBody sPLeastOf, defScope sPLeastOf, [], []⟩
def dPGreatestOf : He.DefD := ⟨("greatest_of", none), "greatest_of", "greatest_of", defArgs sPGreatestOf, defBody sPGreatestOf, defScope sPGreatestOf, [], []⟩
def dPShifted : He.DefD := ⟨("shifted", none), "shifted", "shifted", defArgs sPShifted, defBody sPShifted, defScope sPShifted, [], []⟩
def dPFlatValue : He.DefD := ⟨("flat_value", none), "flat_value", "flat_value", defArgs sPFlatValue, defBody sPFlatValue, defScope sPFlatValue, [], []⟩
def dPFlatValues : He.DefD := ⟨("flat_values", none), "flat_values", "flat_values", defArgs sPFlatValues, defBody sPFlatValues, defScope sPFlatValues, [], []⟩
def dPIsFlatSolution : He.DefD := ⟨("is_flat_solution", none), "is_flat_solution", "is_flat_solution", defArgs sPIsFlatSolution, defBody sPIsFlatSolution, defScope sPIsFlatSolution, [], []⟩
def dPArcsOf : He.DefD := ⟨("arcs_of", none), "arcs_of", "arcs_of", defArgs sPArcsOf, defBody sPArcsOf, defScope sPArcsOf, [], []⟩
def dPConditionsOf : He.DefD := ⟨("conditions_of", none), "conditions_of", "conditions_of", defArgs sPConditionsOf, defBody sPConditionsOf, defScope sPConditionsOf, [], []⟩
def dPOpened : He.DefD := ⟨("opened", none), "opened", "opened", defArgs sPOpened, defBody sPOpened, defScope sPOpened, [], []⟩
def dPToldArcs : He.DefD := ⟨("told_arcs", none), "told_arcs", "told_arcs", defArgs sPToldArcs, defBody sPToldArcs, defScope sPToldArcs, [], []⟩
def dPCircleBelow : He.DefD := ⟨("circle_below", none), "circle_below", "circle_below", defArgs sPCircleBelow, defBody sPCircleBelow, defScope sPCircleBelow, [], []⟩
def dPNoughtCell : He.DefD := ⟨("nought_cell", none), "nought_cell", "nought_cell", defArgs sPNoughtCell, defBody sPNoughtCell, defScope sPNoughtCell, [], []⟩
def dPRoundsDown : He.DefD := ⟨("rounds_down", none), "rounds_down", "rounds_down", defArgs sPRoundsDown, defBody sPRoundsDown, defScope sPRoundsDown, [], []⟩
def dPLeastWith : He.DefD := ⟨("least_with", none), "least_with", "least_with", defArgs sPLeastWith, defBody sPLeastWith, defScope sPLeastWith, [], []⟩
def dPSettledLeast : He.DefD := ⟨("settled_least", none), "settled_least", "settled_least", defArgs sPSettledLeast, defBody sPSettledLeast, defScope sPSettledLeast, [], []⟩
def dPEndlessPaper : He.DefD := ⟨("endless_paper", none), "endless_paper", "endless_paper", defArgs sPEndlessPaper, defBody sPEndlessPaper, defScope sPEndlessPaper, [], []⟩
def dPAreChoices : He.DefD := ⟨("are_choices", none), "are_choices", "are_choices", defArgs sPAreChoices, defBody sPAreChoices, defScope sPAreChoices, [], []⟩
def dPShowsEndless : He.DefD := ⟨("shows_endless", none), "shows_endless", "shows_endless", defArgs sPShowsEndless, defBody sPShowsEndless, defScope sPShowsEndless, [], []⟩
def dPTightArcs : He.DefD := ⟨("tight_arcs", none), "tight_arcs", "tight_arcs", defArgs sPTightArcs, defBody sPTightArcs, defScope sPTightArcs, [], []⟩
def dPFalls : He.DefD := ⟨("falls", none), "falls", "falls", defArgs sPFalls, defBody sPFalls, defScope sPFalls, [], []⟩
def dPAreRanks : He.DefD := ⟨("are_ranks", none), "are_ranks", "are_ranks", defArgs sPAreRanks, defBody sPAreRanks, defScope sPAreRanks, [], []⟩
def dPLeastRanks : He.DefD := ⟨("least_ranks", none), "least_ranks", "least_ranks", defArgs sPLeastRanks, defBody sPLeastRanks, defScope sPLeastRanks, [], []⟩
def dPFulfilled : He.DefD := ⟨("fulfilled", none), "fulfilled", "fulfilled", defArgs sPFulfilled, defBody sPFulfilled, defScope sPFulfilled, [], []⟩
def dPStagesFromBelow : He.DefD := ⟨("stages_from_below", none), "stages_from_below", "stages_from_below", defArgs sPStagesFromBelow, defBody sPStagesFromBelow, defScope sPStagesFromBelow, [], []⟩
def dPFlatLeast : He.DefD := ⟨("flat_least", none), "flat_least", "flat_least", defArgs sPFlatLeast, defBody sPFlatLeast, defScope sPFlatLeast, [], []⟩
def dPLeastPaper : He.DefD := ⟨("least_paper", none), "least_paper", "least_paper", defArgs sPLeastPaper, defBody sPLeastPaper, defScope sPLeastPaper, [], []⟩
def dPIsRightStage : He.DefD := ⟨("is_right_stage", none), "is_right_stage", "is_right_stage", defArgs sPIsRightStage, defBody sPIsRightStage, defScope sPIsRightStage, [], []⟩
def dPAreOpen : He.DefD := ⟨("are_open", none), "are_open", "are_open", defArgs sPAreOpen, defBody sPAreOpen, defScope sPAreOpen, [], []⟩
def dPIsLeastPaper : He.DefD := ⟨("is_least_paper", none), "is_least_paper", "is_least_paper", defArgs sPIsLeastPaper, defBody sPIsLeastPaper, defScope sPIsLeastPaper, [], []⟩
def dLPool : He.DefD := ⟨("_law_pool", none), "_law_pool", "_law_pool", defArgs sLPool, defBody sLPool, defScope sLPool, [], []⟩
def dLStream : He.DefD := ⟨("_law_stream", none), "_law_stream", "_law_stream", defArgs sLStream, defBody sLStream, defScope sLStream, [], []⟩
def dLPick : He.DefD := ⟨("_law_pick", none), "_law_pick", "_law_pick", defArgs sLPick, defBody sLPick, defScope sLPick, [], []⟩
def dLAmount : He.DefD := ⟨("_law_amount", none), "_law_amount", "_law_amount", defArgs sLAmount, defBody sLAmount, defScope sLAmount, [], []⟩
def dLArcs : He.DefD := ⟨("_law_arcs", none), "_law_arcs", "_law_arcs", defArgs sLArcs, defBody sLArcs, defScope sLArcs, [], []⟩
def dLFlat : He.DefD := ⟨("_law_flat", none), "_law_flat", "_law_flat", defArgs sLFlat, defBody sLFlat, defScope sLFlat, [], []⟩
def dLAreWholes : He.DefD := ⟨("_law_are_wholes", none), "_law_are_wholes", "_law_are_wholes", defArgs sLAreWholes, defBody sLAreWholes, defScope sLAreWholes, [], []⟩
def dLAreAmounts : He.DefD := ⟨("_law_are_amounts", none), "_law_are_amounts", "_law_are_amounts", defArgs sLAreAmounts, defBody sLAreAmounts, defScope sLAreAmounts, [], []⟩
def dLIsLeastForm : He.DefD := ⟨("_law_is_least_form", none), "_law_is_least_form", "_law_is_least_form", defArgs sLIsLeastForm, defBody sLIsLeastForm, defScope sLIsLeastForm, [], []⟩
def dLConditions : He.DefD := ⟨("_law_conditions", none), "_law_conditions", "_law_conditions", defArgs sLConditions, defBody sLConditions, defScope sLConditions, [], []⟩
def dLOpened : He.DefD := ⟨("_law_opened", none), "_law_opened", "_law_opened", defArgs sLOpened, defBody sLOpened, defScope sLOpened, [], []⟩
def dLShifted : He.DefD := ⟨("_law_shifted", none), "_law_shifted", "_law_shifted", defArgs sLShifted, defBody sLShifted, defScope sLShifted, [], []⟩
def dLAtMost : He.DefD := ⟨("_law_at_most", none), "_law_at_most", "_law_at_most", defArgs sLAtMost, defBody sLAtMost, defScope sLAtMost, [], []⟩
def dLOneOf : He.DefD := ⟨("_law_one_of", none), "_law_one_of", "_law_one_of", defArgs sLOneOf, defBody sLOneOf, defScope sLOneOf, [], []⟩
def dLValue : He.DefD := ⟨("_law_value", none), "_law_value", "_law_value", defArgs sLValue, defBody sLValue, defScope sLValue, [], []⟩
def dLValues : He.DefD := ⟨("_law_values", none), "_law_values", "_law_values", defArgs sLValues, defBody sLValues, defScope sLValues, [], []⟩
def dLTight : He.DefD := ⟨("_law_tight", none), "_law_tight", "_law_tight", defArgs sLTight, defBody sLTight, defScope sLTight, [], []⟩
def dLFalls : He.DefD := ⟨("_law_falls", none), "_law_falls", "_law_falls", defArgs sLFalls, defBody sLFalls, defScope sLFalls, [], []⟩
def dLRightRanks : He.DefD := ⟨("_law_right_ranks", none), "_law_right_ranks", "_law_right_ranks", defArgs sLRightRanks, defBody sLRightRanks, defScope sLRightRanks, [], []⟩
def dLGains : He.DefD := ⟨("_law_gains", none), "_law_gains", "_law_gains", defArgs sLGains, defBody sLGains, defScope sLGains, [], []⟩
def dLShowsEndless : He.DefD := ⟨("_law_shows_endless", none), "_law_shows_endless", "_law_shows_endless", defArgs sLShowsEndless, defBody sLShowsEndless, defScope sLShowsEndless, [], []⟩
def dLLeastStage : He.DefD := ⟨("_law_least_stage", none), "_law_least_stage", "_law_least_stage", defArgs sLLeastStage, defBody sLLeastStage, defScope sLLeastStage, [], []⟩
def dLLeastPaper : He.DefD := ⟨("_law_least_paper", none), "_law_least_paper", "_law_least_paper", defArgs sLLeastPaper, defBody sLLeastPaper, defScope sLLeastPaper, [], []⟩
def dLBound : He.DefD := ⟨("_law_bound", none), "_law_bound", "_law_bound", defArgs sLBound, defBody sLBound, defScope sLBound, [], []⟩
def dLLeast : He.DefD := ⟨("_law_least", none), "_law_least", "_law_least", defArgs sLLeast, defBody sLLeast, defScope sLLeast, [], []⟩
def dLFulfilled : He.DefD := ⟨("_law_fulfilled", none), "_law_fulfilled", "_law_fulfilled", defArgs sLFulfilled, defBody sLFulfilled, defScope sLFulfilled, [], []⟩
def dLStages : He.DefD := ⟨("_law_stages", none), "_law_stages", "_law_stages", defArgs sLStages, defBody sLStages, defScope sLStages, [], []⟩
def dPLaw : He.DefD := ⟨("law", none), "law", "law", defArgs sPLaw, defBody sPLaw, defScope sPLaw, [], []⟩
def fn1 : List He.DefD := [dPAtMost, dPLeastOf, dPGreatestOf, dPShifted, dPFlatValue, dPFlatValues, dPIsFlatSolution, dPArcsOf, dPConditionsOf, dPOpened, dPToldArcs, dPCircleBelow, dPNoughtCell, dPRoundsDown, dPLeastWith, dPSettledLeast, dPEndlessPaper, dPAreChoices, dPShowsEndless, dPTightArcs, dPFalls, dPAreRanks, dPLeastRanks, dPFulfilled, dPStagesFromBelow, dPFlatLeast, dPLeastPaper, dPIsRightStage, dPAreOpen, dPIsLeastPaper]
def fn2 : List He.DefD := [dLPool, dLStream, dLPick, dLAmount, dLArcs, dLFlat, dLAreWholes, dLAreAmounts, dLIsLeastForm, dLConditions, dLOpened, dLShifted, dLAtMost, dLOneOf, dLValue, dLValues, dLTight, dLFalls, dLRightRanks, dLGains, dLShowsEndless, dLLeastStage, dLLeastPaper, dLBound, dLLeast, dLFulfilled, dLStages, dPLaw]
def fn : List He.DefD := fn1 ++ fn2
def fa0 : List He.Fa := [.free "len", .free "max", .free "min", .free "range", .free "enumerate", .free "any", .free "all", .free "list", .free "int", .free "sorted", .free "set", .free "isinstance", .free "repr", .free "bool", .free "tuple"]
def fa1 : List He.Fa := [.glo "at_most", .glo "least_of", .glo "greatest_of", .glo "shifted", .glo "flat_value", .glo "flat_values", .glo "is_flat_solution", .glo "arcs_of", .glo "conditions_of", .glo "opened", .glo "told_arcs", .glo "circle_below", .glo "nought_cell", .glo "rounds_down", .glo "least_with", .glo "settled_least", .glo "endless_paper", .glo "are_choices", .glo "shows_endless", .glo "tight_arcs", .glo "falls", .glo "are_ranks", .glo "least_ranks", .glo "fulfilled", .glo "stages_from_below", .glo "flat_least", .glo "least_paper", .glo "is_right_stage", .glo "are_open", .glo "is_least_paper"]
def fa2 : List He.Fa := [.glo "_law_pool", .glo "_law_stream", .glo "_law_pick", .glo "_law_amount", .glo "_law_arcs", .glo "_law_flat", .glo "_law_are_wholes", .glo "_law_are_amounts", .glo "_law_is_least_form", .glo "_law_conditions", .glo "_law_opened", .glo "_law_shifted", .glo "_law_at_most", .glo "_law_one_of", .glo "_law_value", .glo "_law_values", .glo "_law_tight", .glo "_law_falls", .glo "_law_right_ranks", .glo "_law_gains", .glo "_law_shows_endless", .glo "_law_least_stage", .glo "_law_least_paper", .glo "_law_bound", .glo "_law_least", .glo "_law_fulfilled", .glo "_law_stages", .glo "law"]
def fa : List He.Fa := fa1 ++ fa2 ++ fa0
def loose1 : List PySem.Str := ["at_most", "least_of", "greatest_of", "shifted", "flat_value", "flat_values", "is_flat_solution", "arcs_of", "conditions_of", "opened", "told_arcs", "circle_below", "nought_cell", "rounds_down", "least_with", "settled_least", "endless_paper", "are_choices", "shows_endless", "tight_arcs", "falls", "are_ranks", "least_ranks", "fulfilled", "stages_from_below", "flat_least", "least_paper", "is_right_stage", "are_open", "is_least_paper"]
def loose2 : List PySem.Str := ["_law_pool", "_law_stream", "_law_pick", "_law_amount", "_law_arcs", "_law_flat", "_law_are_wholes", "_law_are_amounts", "_law_is_least_form", "_law_conditions", "_law_opened", "_law_shifted", "_law_at_most", "_law_one_of", "_law_value", "_law_values", "_law_tight", "_law_falls", "_law_right_ranks", "_law_gains", "_law_shows_endless", "_law_least_stage", "_law_least_paper", "_law_bound", "_law_least", "_law_fulfilled", "_law_stages"]
def loose : List PySem.Str := loose1 ++ loose2
abbrev RR : PySem.W.OpenRow := PySem.W.OpenLaw.row PySem.Challenge.rw_circlesettle_k30_whole_least_papers
abbrev tf : List He.Defn := [("least_with", none)]
abbrev hk : PySem.W.Hook := He.hookX 4 fa fn [] tf (fun _ => true)
def ob (s : PySem.W.SharedT) : He.AlX := He.obsX 4 fa fn [] tf (fun _ => true) (HandSHeadRun.getT s)
theorem ob_eq (s : PySem.W.SharedT) : ob s = hk.obs s.abs := He.obsX_eq (HandSHeadRun.getT_eq s)
theorem run (w : World) : HandSHeadRun.RunEq RR (PySem.W.view RR.prog [62]) hk ob 4000 loose w := by
  intro os
  kernel_rfl
end Cs
set_option Elab.async false
set_option linter.all false
set_option maxRecDepth 100000
set_option maxHeartbeats 4000000
/-! X: every def keeps its promise; the row's theorem -/
namespace Cs
open PySem PySem.Spec PyProof.Rows L2 Evl LamX
theorem has_at {K : PySem.W.Frag} {mg : Str → Option Value} {h : Heap} {x : Str} {st : Stmt} (c : He.SaysD fa fn K) (X : K.In h) (G : h.Ns mainGlobals mg) (i : Nat) (h1 : fn[i]? = some ⟨(x, none), x, x, defArgs st, defBody st, defScope st, [], []⟩) (h2 : fa[i]? = some (.glo x)) : Has K mg x st := by
  obtain ⟨fd, F⟩ := c.def_ i h1
  exact ⟨He.ga K x, fd, He.glo_ok X G (c.fact i h2), F⟩
theorem bt_of {K : PySem.W.Frag} {mg : Str → Option Value} {h : Heap} (c : He.SaysD fa fn K) (X : K.In h) (G : h.Ns mainGlobals mg) : Bt mg :=
  have fr : ∀ {x : Str} (i : Nat), fa[i]? = some (.free x) → mg x = none := fun i e => He.free_ok X G (c.fact i e)
  ⟨fr 58 rfl, fr 59 rfl, fr 60 rfl, fr 61 rfl, fr 62 rfl, fr 63 rfl, fr 64 rfl, fr 65 rfl, fr 66 rfl, fr 67 rfl, fr 68 rfl, fr 69 rfl, fr 70 rfl, fr 71 rfl, fr 72 rfl⟩
theorem law_ok {P : Program} {w : World} {K : PySem.W.Frag} {mg : Str → Option Value} {base h : Heap} {Pt : Addr} (c : He.SaysD fa fn K) (X : K.In h) (G : h.Ns mainGlobals mg) (HT : HasT K mg base Pt)
    {f : Addr} {cdv : Value} {A : Around} {outer : List Env} {s : Shared} {H : Hp} {Q : VK} {E : XK} {p : Addr} {ns : List Int} (hr : Room 7 (A.deeper (envOfC "law" (defScope sPLaw) s.heap.objs.size f cdv))) (hgd : A.guards = some []) (hp : SqL K H p (ns.map V.int)) (hlen : ns.length ≤ 63) (tb : Tabs (TT1 Pt) H) (q : ∀ H2, Q (.bl true) H2) :
    ∃ t, PSs (cxOf L2.CX0 P w K mg base nPLaw "law" (defScope sPLaw) f cdv A outer s H E).nox (defBody sPLaw) t ∧ t { nx := fun _ H' => Q .non H', rt := Q } (L2.start nPLaw [.ref p]) H := by
  have T : Bt mg := bt_of c X G
  have cPAtMost := ok_atMost (P := P) (w := w) (base := base) (has_at c X G 0 rfl rfl)
  have cPLeastOf := ok_leastOf (P := P) (w := w) (base := base) (has_at c X G 1 rfl rfl) cPAtMost
  have cPGreatestOf := ok_greatestOf (P := P) (w := w) (base := base) (has_at c X G 2 rfl rfl) cPAtMost
  have cPShifted := ok_shifted (P := P) (w := w) (base := base) T (has_at c X G 3 rfl rfl)
  have cPFlatValue := ok_flatValue (P := P) (w := w) (base := base) T (has_at c X G 4 rfl rfl) cPAtMost cPLeastOf cPGreatestOf cPShifted
  have cPFlatValues := ok_flatValues (P := P) (w := w) (base := base) (has_at c X G 5 rfl rfl) cPFlatValue
  have cPIsFlatSolution := ok_isFlatSolution (P := P) (w := w) (base := base) T (has_at c X G 6 rfl rfl) cPFlatValues
  have cPArcsOf := ok_arcsOf (P := P) (w := w) (base := base) T (has_at c X G 7 rfl rfl)
  have cPConditionsOf := ok_conditionsOf (P := P) (w := w) (base := base) T (has_at c X G 8 rfl rfl)
  have cPOpened := ok_opened (P := P) (w := w) (base := base) T (has_at c X G 9 rfl rfl)
  have cPToldArcs := ok_toldArcs (P := P) (w := w) (base := base) T (has_at c X G 10 rfl rfl) cPArcsOf
  have cPNoughtCell := ok_noughtCell (P := P) (w := w) (base := base) T (has_at c X G 12 rfl rfl)
  have cPRoundsDown := ok_roundsDown (P := P) (w := w) (base := base) T (has_at c X G 13 rfl rfl) cPAtMost cPShifted
  have cPAreChoices := ok_areChoices (P := P) (w := w) (base := base) T (has_at c X G 17 rfl rfl)
  have cPLeastWith := ok_leastWith (P := P) (w := w) (base := base) T HT (has_at c X G 11 rfl rfl) cPToldArcs cPNoughtCell cPRoundsDown
  have cPSettledLeast := ok_settledLeast (P := P) (w := w) (base := base) T (has_at c X G 15 rfl rfl) cPLeastWith cPShifted cPAtMost cPFlatValue
  have cPEndlessPaper := ok_endlessPaper (P := P) (w := w) (base := base) T (has_at c X G 16 rfl rfl) cPSettledLeast cPToldArcs
  have cPShowsEndless := ok_showsEndless (P := P) (w := w) (base := base) T (has_at c X G 18 rfl rfl) cPAreChoices cPToldArcs
  have cPTightArcs := ok_tightArcs (P := P) (w := w) (base := base) T (has_at c X G 19 rfl rfl) cPArcsOf cPShifted
  have cPFalls := ok_falls (P := P) (w := w) (base := base) T (has_at c X G 20 rfl rfl) cPTightArcs
  have cPAreRanks := ok_areRanks (P := P) (w := w) (base := base) T (has_at c X G 21 rfl rfl) cPFalls
  have cPFulfilled := ok_fulfilled (P := P) (w := w) (base := base) T (has_at c X G 23 rfl rfl) cPConditionsOf cPAtMost
  have cPLeastRanks := ok_leastRanks (P := P) (w := w) (base := base) T (has_at c X G 22 rfl rfl) cPFalls
  have cPStagesFromBelow := ok_stages (P := P) (w := w) (base := base) T (has_at c X G 24 rfl rfl) cPSettledLeast cPOpened cPFulfilled
  have cPFlatLeast := ok_flatLeast (P := P) (w := w) (base := base) (has_at c X G 25 rfl rfl) cPStagesFromBelow
  have cPLeastPaper := ok_leastPaper (P := P) (w := w) (base := base) T (has_at c X G 26 rfl rfl) cPStagesFromBelow cPOpened cPEndlessPaper cPLeastRanks
  have cPIsRightStage := ok_isRightStage (P := P) (w := w) (base := base) (has_at c X G 27 rfl rfl) cPIsFlatSolution cPAreRanks cPShowsEndless
  have cPAreOpen := ok_areOpen (P := P) (w := w) (base := base) T (has_at c X G 28 rfl rfl) cPFulfilled
  have cPIsLeastPaper := ok_isLeastPaper (P := P) (w := w) (base := base) (has_at c X G 29 rfl rfl) cPAreOpen cPIsRightStage cPOpened cPIsFlatSolution
  have cLPool := ok_lPool (P := P) (w := w) (base := base) T (has_at c X G 30 rfl rfl)
  have cLStream := ok_lStream (P := P) (w := w) (base := base) (has_at c X G 31 rfl rfl) cLPool
  have cLPick := ok_lPick (P := P) (w := w) (base := base) T (has_at c X G 32 rfl rfl)
  have cLAmount := ok_lAmount (P := P) (w := w) (base := base) T (has_at c X G 33 rfl rfl) cLPick
  have cLArcs := ok_lArcs (P := P) (w := w) (base := base) T (has_at c X G 34 rfl rfl) cLPick
  have cLFlat := ok_lFlat (P := P) (w := w) (base := base) T (has_at c X G 35 rfl rfl) cLPick cLAmount cLArcs
  have cLAtMost := ok_lAtMost (P := P) (w := w) (base := base) (has_at c X G 42 rfl rfl)
  have cLShifted := ok_lShifted (P := P) (w := w) (base := base) T (has_at c X G 41 rfl rfl)
  have cLOneOf := ok_lOneOf (P := P) (w := w) (base := base) (has_at c X G 43 rfl rfl) cLAtMost
  have cLValue := ok_lValue (P := P) (w := w) (base := base) T (has_at c X G 44 rfl rfl) cLAtMost cLOneOf cLShifted
  have cLValues := ok_lValues (P := P) (w := w) (base := base) (has_at c X G 45 rfl rfl) cLValue
  have cLConditions := ok_lConditions (P := P) (w := w) (base := base) T (has_at c X G 39 rfl rfl)
  have cLFulfilled := ok_lFulfilled (P := P) (w := w) (base := base) T (has_at c X G 55 rfl rfl) cLConditions cLAtMost
  have cLOpened := ok_lOpened (P := P) (w := w) (base := base) T (has_at c X G 40 rfl rfl)
  have cLTight := ok_lTight (P := P) (w := w) (base := base) T (has_at c X G 46 rfl rfl) cLShifted
  have cLFalls := ok_lFalls (P := P) (w := w) (base := base) T (has_at c X G 47 rfl rfl) cLTight
  have cLRightRanks := ok_lRightRanks (P := P) (w := w) (base := base) T (has_at c X G 48 rfl rfl) cLFalls
  have cLAreWholes := ok_lAreWholes (P := P) (w := w) (base := base) T (has_at c X G 36 rfl rfl)
  have cLAreAmounts := ok_lAreAmounts (P := P) (w := w) (base := base) T (has_at c X G 37 rfl rfl)
  have cLIsLeastForm := ok_lIsLeastForm (P := P) (w := w) (base := base) T (has_at c X G 38 rfl rfl) cLAreWholes cLAreAmounts
  have cLGains := ok_lGains (P := P) (w := w) (base := base) (has_at c X G 49 rfl rfl)
  have cLShowsEndless := ok_lShowsEndless (P := P) (w := w) (base := base) T (has_at c X G 50 rfl rfl) cLGains
  have cLLeastStage := ok_lLeastStage (P := P) (w := w) (base := base) T (has_at c X G 51 rfl rfl) cLValues cLRightRanks cLShowsEndless
  have cLLeastPaper := ok_lLeastPaper (P := P) (w := w) (base := base) T (has_at c X G 52 rfl rfl) cLConditions cLAtMost cLOpened cLLeastStage cLValues
  have cLBound := ok_lBound (P := P) (w := w) (base := base) T (has_at c X G 53 rfl rfl)
  have cLLeast := ok_lLeast (P := P) (w := w) (base := base) T (has_at c X G 54 rfl rfl) cLBound cLValues
  have cLStages := ok_lStages (P := P) (w := w) (base := base) T (has_at c X G 56 rfl rfl) cLOpened cLLeast cLFulfilled
  exact law_body T cLStream cLFlat cPLeastPaper cLIsLeastForm cLLeastPaper cPIsLeastPaper cPFlatLeast cLStages hr hgd hp hlen tb q
theorem hasT_of {K : PySem.W.Frag} {mg : Str → Option Value} {h base : Heap} {w : World} (c : He.SaysX fa fn [] tf (fun _ => true) w h K) (X : K.In h) (G : h.Ns mainGlobals mg) (TB : TabB base mg (He.cT K ("least_with", none)).1 (He.cT K ("least_with", none)).2) : HasT K mg base (He.cT K ("least_with", none)).2 := by
  obtain ⟨f, fd, hm, F⟩ := has_at (x := "least_with") (st := sPLeastWith) c.t.d X G 14 rfl rfl
  have ef : f = He.ga K "least_with" := by
    have e := hm.symm.trans (He.glo_ok X G (c.t.d.fact 14 (f := .glo "least_with") rfl))
    cases e
    rfl
  subst ef
  have F2 := F
  obtain ⟨oc, od, dV, kV, doc, pm, an, cdv, ct, osl, rfl, lk, hcd, _, _⟩ := F.ex
  obtain ⟨cc, rfl⟩ := He.codeIn_ref hcd
  have e : He.codeOf K ("least_with", none) = cc := He.codeOf_eq (p := ("least_with", none)) lk rfl
  refine ⟨_, _, cc, hm, F2, rfl, ?_⟩
  have e2 : (He.cT K ("least_with", none)).1 = cc := e
  rw [← e2]
  exact TB
end Cs
open PySem PySem.W PySem.Calls PyProof.Rows
theorem PySem.Challenge.cw_circlesettle_k30_whole_least_papers_holds : PySem.Challenge.rw_circlesettle_k30_whole_least_papers.Holds := by
  w_on; o_law
  refine HandSHeadRun.head_any (r := OpenLaw.row PySem.Challenge.rw_circlesettle_k30_whole_least_papers) (q := view (OpenLaw.row PySem.Challenge.rw_circlesettle_k30_whole_least_papers).prog [62]) (H := Cs.hk) (ob := Cs.ob) (M := 4000) (loose := Cs.loose) (d := HandSHeadRun.topDef (OpenLaw.row PySem.Challenge.rw_circlesettle_k30_whole_least_papers).prog 62) (kwd := []) Cs.ob_eq
    (by kernel_rfl) (fun s => by kernel_rfl) Cs.run (by kernel_rfl) (by kernel_rfl) (by kernel_rfl) (by rfl) (by first | assumption | decide +kernel) (by decide +kernel) ⟨rfl, rfl, rfl, rfl, rfl, by decide +kernel⟩ ?hw ?hc
  case hw => w_witness2
  case hc =>
    refine Att.attach_callB (l := PySem.Challenge.rw_circlesettle_k30_whole_least_papers) (n := 63) rfl (by kernel_rfl) fun w s₀ s₁ mg mb f o pm cd doc a vs ns G Y ho hd hcd hmg0 hobj hints hlen hbits hg => ?_
    obtain ⟨K, kin, c⟩ := Y
    have hmg : mg ("law" : PySem.Str) = some (.ref f) := by
      have e : (HandSHeadRun.topDef (OpenLaw.row PySem.Challenge.rw_circlesettle_k30_whole_least_papers).prog 62).name = ("law" : PySem.Str) := by kernel_rfl
      rw [← e]
      exact hmg0
    have ef : f = He.ga K "law" := by
      have e := hmg.symm.trans (He.glo_ok kin G.T.g (c.t.d.fact 57 (f := .glo "law") rfl))
      cases e
      rfl
    subst ef
    refine Cs.end_call (Pt := (He.cT K ("least_with", none)).2) (c := (He.cT K ("least_with", none)).1) kin G.T.g G.T.b G.T.builtins G.T.nolimit hg (c.empty _ (List.mem_singleton.mpr rfl)) (c.out _ (List.mem_singleton.mpr rfl)) (PySem.W.codeHd_of_K kin (c.hd _ (List.mem_singleton.mpr rfl))) G.T.bmain hobj hints (Nat.le_trans hlen (by decide)) ?_
    intro base H kinB gB tb env hP hS
    obtain ⟨fd, F⟩ := c.t.d.def_ 57 (d := Cs.dPLaw) rfl
    have hb := L2.FunD.bindsA (ps := Cs.pPLaw) F (fun _ _ _ _ _ _ us hl => match us, hl with | [_], _ => rfl) s₁ [.ref a] rfl
    obtain ⟨oc, od, dV, kV, doc2, pm2, an, cdv, ct, osl, rfl, lk, hcd2, _, _⟩ := F.ex
    refine LamX.run_ofS (k := 7) (N := Cs.nPLaw) (vs := [.ref a]) lk hcd2 Cs.scPLaw ⟨rfl, by decide, by decide⟩ env hb (.cons rfl .nil) rfl fun hr => ?_
    obtain ⟨t, ht, hq⟩ := Cs.law_ok (P := PySem.Challenge.rw_circlesettle_k30_whole_least_papers.prog) (w := w) (base := base) (E := L2.E0) (outer := []) (Q := fun v _ => v = .bl true) c.t.d kin G.T.g (Cs.hasT_of c kin G.T.g tb) hr rfl hS hlen (fun p hp => by
      rw [List.mem_singleton.mp hp]
      exact LamX.TabS.nil hP) (fun _ => rfl)
    exact ⟨t, ht.nox, hq⟩
