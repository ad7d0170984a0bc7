import PyProof.Rows.All
import Wide.All
import OpenK.AllK
import Wide.FinOn
import PySem.PyData
import HandS.ForMost
import HandS.DictTup
import HandS.Conv
import HandS.IsInst
import HandS.TupSets
import KE.KDictDisplayH
import KE.LtData
import KE.SortData
import HandS.Codes
import PySem.Challenge.RW_copymeet_k57_a_tree_filled
set_option Elab.async false
set_option linter.all false
set_option maxRecDepth 100000
set_option maxHeartbeats 16000000
/-! The mathematics: trees as look-ups, what a deed does, that no way up is endless, sorted rows. No program here. -/
namespace CM
open PySem

abbrev Nm := Str × Int
def ROOT : Nm := ("", 0)

inductive Spot where
  | key (s : Str)
  | pair (under : List PyData) (side : Int)
inductive Act where
  | make (kind : Str) (holder : Nm) (spot : Spot)
  | move (thing holder : Nm) (spot : Spot)
  | drop (thing : Nm)
structure Deed where
  name : Nm
  act : Act
structure TRow where
  kind : Str
  holder : Option Nm
  spot : PyData

abbrev Fm := Nm → Option TRow
abbrev TSt := Fm × List Nm
def empty : TSt := (fun _ => none, [])

def kindOf (f : Fm) (x : Nm) : Option Str := if x = ROOT then some "map" else (f x).map (·.kind)
def fits (f : Fm) (h : Nm) : Spot → Prop
  | .key _ => kindOf f h = some "map"
  | .pair _ _ => kindOf f h = some "row"
def placed (sp : Spot) (n : Nm) : PyData := match sp with
  | .key s => .str s
  | .pair u side => .tuple (u ++ [.tuple [.int side, .str n.1, .int n.2, .int 0]])
def setF (f : Fm) (x : Nm) (r : TRow) : Fm := fun y => if y = x then some r else f y

inductive Up (f : Fm) (t : Nm) : Nm → Prop
  | here : Up f t t
  | up {x y : Nm} {r : TRow} : f x = some r → r.holder = some y → Up f t y → Up f t x

/-- the way up from x ends -/
inductive FinW (f : Fm) : Nm → Prop
  | mk (x : Nm) : (∀ r y, f x = some r → r.holder = some y → FinW f y) → FinW f x
/-- .. within n steps -/
def FinN (f : Fm) : Nat → Nm → Prop
  | 0, _ => False
  | n + 1, x => ∀ r y, f x = some r → r.holder = some y → FinN f n y
theorem FinN.step {f : Fm} {n : Nat} {x : Nm} (h : FinN f n x) : ∃ m, n = m + 1 ∧ ∀ r y, f x = some r → r.holder = some y → FinN f m y := by
  cases n with
  | zero => exact h.elim
  | succ m => exact ⟨m, rfl, h⟩
theorem FinW.num {f : Fm} {x : Nm} (h : FinW f x) : ∃ n, FinN f n x := by
  induction h with
  | mk x h ih =>
    cases e : f x with
    | none => exact ⟨1, fun r y e1 _ => by rw [e] at e1; cases e1⟩
    | some r =>
      cases eh : r.holder with
      | none => exact ⟨1, fun r' y e1 e2 => by rw [e] at e1; cases e1; rw [eh] at e2; cases e2⟩
      | some y =>
        obtain ⟨n, hn⟩ := ih r y e eh
        exact ⟨n + 1, fun r' y' e1 e2 => by rw [e] at e1; cases e1; rw [eh] at e2; cases e2; exact hn⟩

structure Good (f : Fm) : Prop where
  fin : ∀ x, FinW f x
  up : ∀ x r y, f x = some r → r.holder = some y → y = ROOT ∨ ∃ r', f y = some r'
  root : f ROOT = none

theorem Good.empty : Good (fun _ => none) := ⟨fun x => .mk x fun r y e => (by cases e), fun _ _ _ e => (by cases e), rfl⟩

theorem setF_same {f : Fm} {x : Nm} {r : TRow} : setF f x r x = some r := by simp [setF]
theorem setF_ne {f : Fm} {x y : Nm} {r : TRow} (h : y ≠ x) : setF f x r y = f y := by simp [setF, h]

theorem up_none {f : Fm} {t x : Nm} (h : Up f t x) (e : f x = none) : x = t := by
  cases h with
  | here => rfl
  | up e1 _ _ => rw [e] at e1; cases e1

/-- a way that never comes to t stays a way when t is changed -/
theorem fin_set {f : Fm} {t : Nm} {r : TRow} {x : Nm} (h : FinW f x) : ¬ Up f t x → FinW (setF f t r) x := by
  induction h with
  | mk x h ih =>
    intro hn
    have hx : x ≠ t := fun e => hn (e ▸ .here)
    refine .mk x fun r' y e1 e2 => ?_
    rw [setF_ne hx] at e1
    exact ih r' y e1 e2 fun u => hn (.up e1 e2 u)

theorem fin_all {f : Fm} {t : Nm} {r : TRow} (hf : ∀ x, FinW f x) (ht : ∀ y, r.holder = some y → ¬ Up f t y) (x : Nm) : FinW (setF f t r) x := by
  have at_t : FinW (setF f t r) t := .mk t fun r' y e1 e2 => by
    rw [setF_same] at e1
    cases e1
    exact fin_set (hf y) (ht y e2)
  have h := hf x
  induction h with
  | mk x h ih =>
    by_cases hx : x = t
    · exact hx ▸ at_t
    · refine .mk x fun r' y e1 e2 => ?_
      rw [setF_ne hx] at e1
      exact ih r' y e1 e2

theorem Good.set {f : Fm} {t : Nm} {r : TRow} (g : Good f) (ht : t ≠ ROOT) (h1 : ∀ y, r.holder = some y → ¬ Up f t y) (h2 : ∀ y, r.holder = some y → y = ROOT ∨ ∃ r', f y = some r') : Good (setF f t r) := by
  have keep : ∀ y, (∃ r', f y = some r') → ∃ r', setF f t r y = some r' := fun y ⟨r', e⟩ => by
    by_cases hy : y = t
    · exact ⟨r, by rw [hy, setF_same]⟩
    · exact ⟨r', by rw [setF_ne hy]; exact e⟩
  refine ⟨fin_all g.fin h1, fun x r' y e1 e2 => ?_, by rw [setF_ne (fun e => ht e.symm)]; exact g.root⟩
  by_cases hx : x = t
  · rw [hx, setF_same] at e1
    cases e1
    exact (h2 y e2).imp id (keep y)
  · rw [setF_ne hx] at e1
    exact (g.up x r' y e1 e2).imp id (keep y)

/-- nothing comes up to what was not made -/
theorem no_up {f : Fm} {t x : Nm} (g : Good f) (e : f t = none) (ht : t ≠ ROOT) (hx : x = ROOT ∨ ∃ r, f x = some r) : ¬ Up f t x := by
  intro u
  induction u with
  | here =>
    rcases hx with h | ⟨r, h⟩
    · exact ht h
    · rw [e] at h; cases h
  | up e1 e2 _ ih => exact ih (g.up _ _ _ e1 e2)

theorem fits_in {f : Fm} {h : Nm} {sp : Spot} (z : fits f h sp) : h = ROOT ∨ ∃ r, f h = some r := by
  by_cases e : h = ROOT
  · exact .inl e
  · refine .inr ?_
    have q : ∃ k, (f h).map (·.kind) = some k := by
      cases sp with
      | key s => exact ⟨_, by have z' : kindOf f h = some "map" := z; unfold kindOf at z'; rw [if_neg e] at z'; exact z'⟩
      | pair u s => exact ⟨_, by have z' : kindOf f h = some "row" := z; unfold kindOf at z'; rw [if_neg e] at z'; exact z'⟩
    obtain ⟨k, q⟩ := q
    cases e2 : f h with
    | none => rw [e2] at q; cases q
    | some r => exact ⟨r, rfl⟩

def sDone : Str := "done"
def sIdle : Str := "idle"
def sLost : Str := "lost"
open Classical in
/-- what a deed does: the word, the tree behind it -/
noncomputable def tstep (s : TSt) (d : Deed) : Str × TSt := match d.act with
  | .make k h sp => if fits s.1 h sp then (sDone, setF s.1 d.name ⟨k, some h, placed sp d.name⟩, s.2) else (sIdle, s)
  | .drop t => match s.1 t with
    | none => (sIdle, s)
    | some r => (sDone, setF s.1 t ⟨r.kind, none, .none⟩, s.2)
  | .move t h sp => match s.1 t with
    | none => (sIdle, s)
    | some r => if fits s.1 h sp then (if Up s.1 t h then (sLost, s.1, s.2 ++ [d.name]) else (sDone, setF s.1 t ⟨r.kind, some h, placed sp d.name⟩, s.2)) else (sIdle, s)

theorem step_make_yes {s : TSt} {n h : Nm} {k : Str} {sp : Spot} (z : fits s.1 h sp) : tstep s ⟨n, .make k h sp⟩ = (sDone, setF s.1 n ⟨k, some h, placed sp n⟩, s.2) := by simp [tstep, z]
theorem step_make_no {s : TSt} {n h : Nm} {k : Str} {sp : Spot} (z : ¬ fits s.1 h sp) : tstep s ⟨n, .make k h sp⟩ = (sIdle, s) := by simp [tstep, z]
theorem step_drop_yes {s : TSt} {n t : Nm} {r : TRow} (e : s.1 t = some r) : tstep s ⟨n, .drop t⟩ = (sDone, setF s.1 t ⟨r.kind, none, .none⟩, s.2) := by simp [tstep, e]
theorem step_drop_no {s : TSt} {n t : Nm} (e : s.1 t = none) : tstep s ⟨n, .drop t⟩ = (sIdle, s) := by simp [tstep, e]
theorem step_move_none {s : TSt} {n t h : Nm} {sp : Spot} (e : s.1 t = none) : tstep s ⟨n, .move t h sp⟩ = (sIdle, s) := by simp [tstep, e]
theorem step_move_idle {s : TSt} {n t h : Nm} {sp : Spot} {r : TRow} (e : s.1 t = some r) (z : ¬ fits s.1 h sp) : tstep s ⟨n, .move t h sp⟩ = (sIdle, s) := by simp [tstep, e, z]
theorem step_move_lost {s : TSt} {n t h : Nm} {sp : Spot} {r : TRow} (e : s.1 t = some r) (z : fits s.1 h sp) (u : Up s.1 t h) : tstep s ⟨n, .move t h sp⟩ = (sLost, s.1, s.2 ++ [n]) := by simp [tstep, e, z, u]
theorem step_move_done {s : TSt} {n t h : Nm} {sp : Spot} {r : TRow} (e : s.1 t = some r) (z : fits s.1 h sp) (u : ¬ Up s.1 t h) : tstep s ⟨n, .move t h sp⟩ = (sDone, setF s.1 t ⟨r.kind, some h, placed sp n⟩, s.2) := by simp [tstep, e, z, u]

/-- a deed that may be heard: a make bears a new name -/
def Fresh (f : Fm) (d : Deed) : Prop := d.name ≠ ROOT ∧ f d.name = none
theorem step_good {s : TSt} {d : Deed} (g : Good s.1) (h : Fresh s.1 d) : Good (tstep s d).2.1 := by
  obtain ⟨n, a⟩ := d
  cases a with
  | make k hd sp =>
    by_cases z : fits s.1 hd sp
    · rw [step_make_yes z]
      refine g.set h.1 (fun y e => ?_) (fun y e => ?_)
      · cases e; exact no_up g h.2 h.1 (fits_in z)
      · cases e; exact fits_in z
    · rw [step_make_no z]; exact g
  | drop t =>
    cases e : s.1 t with
    | none => rw [step_drop_no e]; exact g
    | some r =>
      rw [step_drop_yes e]
      refine g.set (fun q => ?_) (fun y e => by cases e) (fun y e => by cases e)
      rw [q, g.root] at e; cases e
  | move t hd sp =>
    cases e : s.1 t with
    | none => rw [step_move_none e]; exact g
    | some r =>
      by_cases z : fits s.1 hd sp
      · by_cases u : Up s.1 t hd
        · rw [step_move_lost e z u]; exact g
        · rw [step_move_done e z u]
          refine g.set (fun q => ?_) (fun y e => ?_) (fun y e => ?_)
          · rw [q, g.root] at e; cases e
          · cases e; exact u
          · cases e; exact fits_in z
      · rw [step_move_idle e z]; exact g
theorem step_keys {s : TSt} {d : Deed} {x : Nm} {r : TRow} (h : (tstep s d).2.1 x = some r) : x = d.name ∨ ∃ r', s.1 x = some r' := by
  have key : ∀ t r0, setF s.1 t r0 x = some r → x = t ∨ ∃ r', s.1 x = some r' := fun t r0 e => by
    by_cases hx : x = t
    · exact .inl hx
    · rw [setF_ne hx] at e; exact .inr ⟨r, e⟩
  obtain ⟨n, a⟩ := d
  cases a with
  | make k hd sp =>
    by_cases z : fits s.1 hd sp
    · rw [step_make_yes z] at h; exact key _ _ h
    · rw [step_make_no z] at h; exact .inr ⟨r, h⟩
  | drop t =>
    cases e : s.1 t with
    | none => rw [step_drop_no e] at h; exact .inr ⟨r, h⟩
    | some r0 =>
      rw [step_drop_yes e] at h
      rcases key _ _ h with q | q
      · exact .inr ⟨r0, q ▸ e⟩
      · exact .inr q
  | move t hd sp =>
    cases e : s.1 t with
    | none => rw [step_move_none e] at h; exact .inr ⟨r, h⟩
    | some r0 =>
      by_cases z : fits s.1 hd sp
      · by_cases u : Up s.1 t hd
        · rw [step_move_lost e z u] at h; exact .inr ⟨r, h⟩
        · rw [step_move_done e z u] at h
          rcases key _ _ h with q | q
          · exact .inr ⟨r0, q ▸ e⟩
          · exact .inr q
      · rw [step_move_idle e z] at h; exact .inr ⟨r, h⟩

/-- behind i deeds -/
noncomputable def stt (ds : List Deed) : Nat → TSt
  | 0 => empty
  | i + 1 => match ds[i]? with
    | some d => (tstep (stt ds i) d).2
    | none => stt ds i
noncomputable def wrd (ds : List Deed) (i : Nat) : Str := match ds[i]? with
  | some d => (tstep (stt ds i) d).1
  | none => ""
theorem stt_succ {ds : List Deed} {i : Nat} {d : Deed} (h : ds[i]? = some d) : stt ds (i + 1) = (tstep (stt ds i) d).2 := by simp [stt, h]
theorem wrd_at {ds : List Deed} {i : Nat} {d : Deed} (h : ds[i]? = some d) : wrd ds i = (tstep (stt ds i) d).1 := by simp [wrd, h]

/-- the deeds' names: no two alike, none ROOT -/
structure Names (ds : List Deed) : Prop where
  one : ∀ (i j : Nat) (d e : Deed), ds[i]? = some d → ds[j]? = some e → d.name = e.name → i = j
  root : ∀ d ∈ ds, d.name ≠ ROOT
theorem stt_keys {ds : List Deed} : ∀ (i : Nat) (x : Nm) (r : TRow), (stt ds i).1 x = some r → ∃ (j : Nat) (d : Deed), j < i ∧ ds[j]? = some d ∧ d.name = x
  | 0, x, r, h => by cases h
  | i + 1, x, r, h => by
    cases e : ds[i]? with
    | none =>
      have e2 : stt ds (i + 1) = stt ds i := by simp [stt, e]
      rw [e2] at h
      obtain ⟨j, d, h1, h2⟩ := stt_keys i x r h
      exact ⟨j, d, by omega, h2⟩
    | some d =>
      rw [stt_succ e] at h
      rcases step_keys h with q | ⟨r', q⟩
      · exact ⟨i, d, by omega, e, q.symm⟩
      · obtain ⟨j, d', h1, h2⟩ := stt_keys i x r' q
        exact ⟨j, d', by omega, h2⟩
theorem stt_fresh {ds : List Deed} (N : Names ds) {i : Nat} {d : Deed} (h : ds[i]? = some d) : Fresh (stt ds i).1 d := by
  refine ⟨N.root d (List.mem_of_getElem? h), ?_⟩
  cases e : (stt ds i).1 d.name with
  | none => rfl
  | some r =>
    obtain ⟨j, d', h1, h2, h3⟩ := stt_keys i _ r e
    have := N.one j i d' d h2 h h3
    omega
theorem stt_good {ds : List Deed} (N : Names ds) : ∀ i, Good (stt ds i).1
  | 0 => .empty
  | i + 1 => by
    cases e : ds[i]? with
    | none =>
      have e2 : stt ds (i + 1) = stt ds i := by simp [stt, e]
      rw [e2]
      exact stt_good N i
    | some d =>
      rw [stt_succ e]
      exact step_good (stt_good N i) (stt_fresh N e)

/-! ### the order of names -/
def ltN (a b : Nm) : Prop := a.1.cps.toList < b.1.cps.toList ∨ (a.1 = b.1 ∧ a.2 < b.2)
instance (a b : Nm) : Decidable (ltN a b) := inferInstanceAs (Decidable (a.1.cps.toList < b.1.cps.toList ∨ (a.1 = b.1 ∧ a.2 < b.2)))
theorem str_ext {x y : Str} (h : x.cps.toList = y.cps.toList) : x = y := by
  obtain ⟨⟨a⟩⟩ := x
  obtain ⟨⟨b⟩⟩ := y
  have e : a = b := h
  rw [e]
theorem ltN_irrefl (a : Nm) : ¬ ltN a a := fun h => by
  rcases h with h | ⟨_, h⟩
  · exact List.lt_irrefl _ h
  · exact Int.lt_irrefl _ h
theorem ltN_trans {a b c : Nm} (h1 : ltN a b) (h2 : ltN b c) : ltN a c := by
  rcases h1 with h1 | ⟨e1, h1⟩
  · rcases h2 with h2 | ⟨e2, h2⟩
    · exact .inl (List.lt_trans h1 h2)
    · exact .inl (e2 ▸ h1)
  · rcases h2 with h2 | ⟨e2, h2⟩
    · exact .inl (e1 ▸ h2)
    · exact .inr ⟨e1.trans e2, Int.lt_trans h1 h2⟩
theorem ltN_total (a b : Nm) : ltN a b ∨ a = b ∨ ltN b a := by
  by_cases h : a.1.cps.toList < b.1.cps.toList
  · exact .inl (.inl h)
  · by_cases h' : b.1.cps.toList < a.1.cps.toList
    · exact .inr (.inr (.inl h'))
    · have e : a.1 = b.1 := str_ext (List.le_antisymm (List.not_lt.mp h') (List.not_lt.mp h))
      rcases Int.lt_trichotomy a.2 b.2 with q | q | q
      · exact .inl (.inr ⟨e, q⟩)
      · exact .inr (.inl (Prod.ext e q))
      · exact .inr (.inr (.inr ⟨e.symm, q⟩))
/-- how many of the names are ahead of a -/
def rank (l : List Nm) (a : Nm) : Int := ((l.filter fun b => decide (ltN b a)).length : Int)
theorem filter_le {α : Type} {p q : α → Bool} (h : ∀ x, p x = true → q x = true) : ∀ l : List α, (l.filter p).length ≤ (l.filter q).length
  | [] => Nat.le_refl _
  | x :: l => by
    have ih := filter_le h l
    cases hp : p x with
    | true => simp [List.filter_cons, hp, h x hp]; exact ih
    | false =>
      cases hq : q x with
      | true => simp [List.filter_cons, hp, hq]; omega
      | false => simp [List.filter_cons, hp, hq]; exact ih
theorem filter_lt {α : Type} {p q : α → Bool} (h : ∀ x, p x = true → q x = true) {y : α} (hp : p y = false) (hq : q y = true) : ∀ l : List α, y ∈ l → (l.filter p).length < (l.filter q).length
  | x :: l, hy => by
    rcases List.mem_cons.mp hy with e | hy
    · subst e
      have := filter_le h l
      simp [List.filter_cons, hp, hq]; omega
    · have ih := filter_lt h hp hq l hy
      cases hp' : p x with
      | true => simp [List.filter_cons, hp', h x hp']; exact ih
      | false =>
        cases hq' : q x with
        | true => simp [List.filter_cons, hp', hq']; omega
        | false => simp [List.filter_cons, hp', hq']; exact ih
theorem rank_lt {l : List Nm} {a b : Nm} (h : ltN a b) (ha : a ∈ l) : rank l a < rank l b := by
  have z := filter_lt (p := fun c => decide (ltN c a)) (q := fun c => decide (ltN c b)) (fun x hx => by simpa using ltN_trans (by simpa using hx) h) (y := a) (by simpa using ltN_irrefl a) (by simpa using h) l ha
  unfold rank
  exact_mod_cast z
theorem rank_iff {l : List Nm} {a b : Nm} (ha : a ∈ l) (hb : b ∈ l) : ltN a b ↔ rank l a < rank l b := by
  refine ⟨fun h => rank_lt h ha, fun h => ?_⟩
  rcases ltN_total a b with q | q | q
  · exact q
  · subst q; exact absurd h (Int.lt_irrefl _)
  · have := rank_lt q hb; omega

/-! ### rows, sorted: one list for one tree -/
structure RowsOf (f : Fm) (rs : List (Nm × TRow)) : Prop where
  sorted : rs.Pairwise fun a b => ltN a.1 b.1
  mem : ∀ n r, (n, r) ∈ rs ↔ f n = some r
theorem rows_one : ∀ {xs ys : List (Nm × TRow)}, xs.Pairwise (fun a b => ltN a.1 b.1) → ys.Pairwise (fun a b => ltN a.1 b.1) → (∀ p, p ∈ xs ↔ p ∈ ys) → xs = ys
  | [], [], _, _, _ => rfl
  | [], y :: ys, _, _, h => by have := (h y).mpr List.mem_cons_self; cases this
  | x :: xs, [], _, _, h => by have := (h x).mp List.mem_cons_self; cases this
  | x :: xs, y :: ys, hx, hy, h => by
    obtain ⟨x1, x2⟩ := List.pairwise_cons.mp hx
    obtain ⟨y1, y2⟩ := List.pairwise_cons.mp hy
    have e : x = y := by
      rcases List.mem_cons.mp ((h x).mp List.mem_cons_self) with e | m
      · exact e
      · rcases List.mem_cons.mp ((h y).mpr List.mem_cons_self) with e | m'
        · exact e.symm
        · exact absurd (ltN_trans (y1 x m) (x1 y m')) (ltN_irrefl _)
    subst e
    have t : xs = ys := rows_one x2 y2 fun p => by
      constructor
      · intro m
        rcases List.mem_cons.mp ((h p).mp (List.mem_cons_of_mem _ m)) with e | m'
        · subst e; exact absurd (x1 _ m) (ltN_irrefl _)
        · exact m'
      · intro m
        rcases List.mem_cons.mp ((h p).mpr (List.mem_cons_of_mem _ m)) with e | m'
        · subst e; exact absurd (y1 _ m) (ltN_irrefl _)
        · exact m'
    rw [t]
theorem RowsOf.one {f : Fm} {xs ys : List (Nm × TRow)} (a : RowsOf f xs) (b : RowsOf f ys) : xs = ys :=
  rows_one a.sorted b.sorted fun p => (a.mem p.1 p.2).trans (b.mem p.1 p.2).symm

/-! ### how long a way up can be -/
theorem Up.trans {f : Fm} {a b c : Nm} (h1 : Up f a b) (h2 : Up f c a) : Up f c b := by
  induction h1 with
  | here => exact h2
  | up e1 e2 _ ih => exact .up e1 e2 ih
theorem no_round {f : Fm} {x : Nm} (h : FinW f x) : ∀ {r : TRow} {y : Nm}, f x = some r → r.holder = some y → ¬ Up f x y := by
  induction h with
  | mk x h ih =>
    intro r y e1 e2 u
    have back : Up f y x := .up e1 e2 .here
    cases u with
    | here => exact ih r x e1 e2 e1 e2 .here
    | up e3 e4 u => exact ih r y e1 e2 e3 e4 (u.trans back)
theorem FinN.mono {f : Fm} : ∀ {n m : Nat} {x : Nm}, FinN f n x → n ≤ m → FinN f m x
  | 0, _, _, h, _ => h.elim
  | n + 1, 0, _, _, hm => by omega
  | n + 1, m + 1, _, h, hm => fun r y e1 e2 => FinN.mono (h r y e1 e2) (by omega)
theorem filter_out {α : Type} [DecidableEq α] {x : α} : ∀ {l : List α}, x ∈ l → (l.filter fun y => decide (y ≠ x)).length < l.length
  | y :: l, h => by
    have le : (l.filter fun y => decide (y ≠ x)).length ≤ l.length := List.length_filter_le _ _
    by_cases e : y = x
    · rw [List.filter_cons_of_neg (by simp [e])]
      show _ < l.length + 1
      omega
    · rw [List.filter_cons_of_pos (by simp [e])]
      have ih := filter_out (x := x) (l := l) (by
        rcases List.mem_cons.mp h with q | q
        · exact absurd q.symm e
        · exact q)
      show _ + 1 < l.length + 1
      omega
theorem finN_of {f : Fm} : ∀ (n : Nat) (l : List Nm) (x : Nm), l.length ≤ n → FinW f x → (∀ y, Up f y x → (∃ r, f y = some r) → y ∈ l) → FinN f (n + 1) x
  | 0, l, x, hl, _, hin => fun r y e1 _ => by
    have hm := hin x .here ⟨r, e1⟩
    have := List.length_pos_of_mem hm
    omega
  | n + 1, l, x, hl, hf, hin => fun r y e1 e2 => by
    have hm := hin x .here ⟨r, e1⟩
    have hfy : FinW f y := by
      cases hf with
      | mk _ h => exact h r y e1 e2
    refine finN_of n (l.filter fun z => decide (z ≠ x)) y (by have := filter_out hm; omega) hfy fun z hz hr => ?_
    refine List.mem_filter.mpr ⟨hin z (.up e1 e2 hz) hr, decide_eq_true fun e => ?_⟩
    rw [e] at hz
    exact no_round hf e1 e2 hz

/-! ### numbered deeds: the n-th of a hand bears the number n -/
def cnt (ds : List Deed) (h : Str) : Nat := (ds.filter fun e => decide (e.name.1 = h)).length
def Numbered (ds : List Deed) : Prop := ∀ (i : Nat) (d : Deed), ds[i]? = some d → d.name.2 = 1 + (cnt (ds.take i) d.name.1 : Int)
theorem Numbered.nil : Numbered [] := fun i d h => by simp at h
theorem Numbered.snoc {ds : List Deed} {d : Deed} (h : Numbered ds) (e : d.name.2 = 1 + (cnt ds d.name.1 : Int)) : Numbered (ds ++ [d]) := by
  intro i d' hi
  by_cases hl : i < ds.length
  · rw [List.getElem?_append_left hl] at hi
    rw [List.take_append_of_le_length (by omega)]
    exact h i d' hi
  · have hi2 : i < (ds ++ [d]).length := (List.getElem?_eq_some_iff.mp hi).1
    rw [List.length_append] at hi2
    have hi2 : i < ds.length + 1 := hi2
    have ei : i = ds.length := by omega
    subst ei
    rw [List.getElem?_append_right (Nat.le_refl _), Nat.sub_self] at hi
    cases hi
    rw [List.take_append_of_le_length (Nat.le_refl _), List.take_of_length_le (Nat.le_refl _)]
    exact e
theorem cnt_snoc (ds : List Deed) (d : Deed) (h : Str) : cnt (ds ++ [d]) h = cnt ds h + if d.name.1 = h then 1 else 0 := by
  unfold cnt
  rw [List.filter_append, List.length_append]
  by_cases e : d.name.1 = h
  · rw [List.filter_cons_of_pos (by simp [e]), if_pos e]
    rfl
  · rw [List.filter_cons_of_neg (by simp [e]), if_neg e]
    rfl
theorem cnt_mono (ds : List Deed) (h : Str) : ∀ (j i : Nat), i ≤ j → cnt (ds.take i) h ≤ cnt (ds.take j) h
  | 0, i, hij => by
    have : i = 0 := by omega
    subst this
    exact Nat.le_refl _
  | j + 1, i, hij => by
    by_cases e : i = j + 1
    · subst e
      exact Nat.le_refl _
    · have ih := cnt_mono ds h j i (by omega)
      rw [List.take_add_one]
      cases ds[j]? with
      | none => simpa using ih
      | some d =>
        have := cnt_snoc (ds.take j) d h
        show cnt (ds.take i) h ≤ cnt (ds.take j ++ [d]) h
        omega
theorem numbered_lt {ds : List Deed} (N : Numbered ds) {i j : Nat} {d e : Deed} (hi : ds[i]? = some d) (hj : ds[j]? = some e) (hn : d.name = e.name) (hij : i < j) : False := by
  have h1 := N i d hi
  have h2 := N j e hj
  have h3 := cnt_mono ds d.name.1 j (i + 1) (by omega)
  rw [List.take_add_one, hi] at h3
  have h4 := cnt_snoc (ds.take i) d d.name.1
  rw [if_pos rfl] at h4
  have h3 : cnt (ds.take i ++ [d]) d.name.1 ≤ cnt (ds.take j) d.name.1 := h3
  rw [hn] at h1 h3 h4
  omega
theorem Numbered.names {ds : List Deed} (N : Numbered ds) : Names ds := by
  refine ⟨fun i j d e hi hj hn => ?_, fun d hd he => ?_⟩
  · rcases Nat.lt_trichotomy i j with h | h | h
    · exact (numbered_lt N hi hj hn h).elim
    · exact h
    · exact (numbered_lt N hj hi hn.symm h).elim
  · obtain ⟨i, hi⟩ := List.mem_iff_getElem?.mp hd
    have h := N i d hi
    rw [he] at h
    have h : (0 : Int) = 1 + (cnt (ds.take i) ROOT.1 : Int) := h
    omega
end CM
/-! Own rules over the layer: sorted(d.items()) of a dict keyed by names; a display with one tuple key. -/
namespace CM
open PySem L2

/-- a name as a dict's key -/
def keyN (n : Nm) : List Key := [Sum.inr n.1, Sum.inl n.2]
theorem keyN_inj {a b : Nm} (h : keyN a = keyN b) : a = b := by
  unfold keyN at h
  injection h with h1 h2
  injection h2 with h2 _
  injection h1 with h1
  injection h2 with h2
  exact Prod.ext h1 h2
theorem keyN_vals (n : Nm) : (keyN n).map kV = [V.str n.1, V.int n.2] := rfl
abbrev entN (e : Nm × Addr) : List Key × V := (keyN e.1, V.ref e.2)
end CM

namespace CM.Sq
open PySem PySem.W PySem.Calls PyProof.Rows PyProof.V PySem.Spec CM

/-! ### what is sorted: pairs (a name's tuple, an object) -/
/-- a pair's place, its name's tuple, the name, the object -/
structure Ent where
  at' : Addr
  key : Addr
  nm : Nm
  val : Addr
/-- it lies so in the heap -/
structure Ent.In (h : Heap) (t : Ent) : Prop where
  pair : IsTup h t.at' #[.ref t.key, .ref t.val]
  name : ∃ x i : Tok, IsTup h t.key #[.str t.nm.1 x, .int t.nm.2 i]
theorem isTup_to {h h' : Heap} {a : Addr} {its : Array Value} (x : IsTup h a its) (k : ∀ o, h.get? a = some o → o.cls = .type "tuple" → h'.get? a = some o) : IsTup h' a its := by
  obtain ⟨ob, e, cl, r⟩ := x
  exact ⟨ob, k ob e cl, cl, r⟩
theorem Ent.In.to {h h' : Heap} {t : Ent} (x : t.In h) (k : ∀ b o, h.get? b = some o → o.cls = .type "tuple" → h'.get? b = some o) : t.In h' :=
  ⟨isTup_to x.pair (k _), let ⟨u, i, y⟩ := x.name; ⟨u, i, isTup_to y (k _)⟩⟩
/-- what a sequence at a holds -/
def itemsAt (h : Heap) (a : Addr) : List Value := match h.get? a with
  | none => []
  | some o => match o.data with
    | .seq xs _ => xs.toList
    | _ => []
theorem itemsAt_of {h : Heap} {a : Addr} {its : Array Value} (x : IsTup h a its) : itemsAt h a = its.toList := by
  obtain ⟨o, e, _, n, d⟩ := x
  simp only [itemsAt, e, d]
/-- the name of a pair, read off the heap -/
def nameAt (h : Heap) : Value → Nm
  | .ref a => match itemsAt h a with
    | .ref k :: _ => match itemsAt h k with
      | [.str x _, .int i _] => (x, i)
      | _ => ROOT
    | _ => ROOT
  | _ => ROOT
theorem Ent.In.nameAt {h : Heap} {t : Ent} (x : t.In h) : nameAt h (.ref t.at') = t.nm := by
  obtain ⟨u, i, y⟩ := x.name
  simp only [Sq.nameAt, itemsAt_of x.pair, itemsAt_of y]
theorem Ent.In.inj {h : Heap} {s t : Ent} (x : s.In h) (y : t.In h) (e : s.at' = t.at') : s.key = t.key ∧ s.val = t.val := by
  obtain ⟨o, e1, _, n, d⟩ := x.pair
  obtain ⟨o', e2, _, n', d'⟩ := y.pair
  rw [e, e2] at e1
  have eo : o' = o := Option.some.inj e1
  rw [eo, d] at d'
  injection d' with q _
  have q2 := congrArg Array.toList q
  simp only [List.cons.injEq, Value.ref.injEq, and_true] at q2
  exact q2

section
variable {prog : Program} {w : World} {A : Around}
/-- an object is itself -/
theorem same_obj {E : Value → Shared → Prop} {s : Shared} {b : Addr} {Q : Bool → Shared → Prop} (q : Q true s) : wpAny (model prog w) A (eqBool (.ref b) (.ref b)) Q E s := by
  unfold eqBool
  refine wpAny_holding ?_
  refine wpAny_ite_split (fun _ => wpAny_bind (wpAny_rule (wpAny_pure q))) fun h => absurd (beq_self_eq_true (Value.ref b)) h
/-- the order of names, as the model's data are ordered -/
theorem dataLt_nm (x y : Str) (i j : Int) : dataLt (.tuple [.str x, .int i]) (.tuple [.str y, .int j]) = decide (x.cps.toList < y.cps.toList ∨ (x = y ∧ i < j)) := by
  rw [dataLt_pair rfl rfl, dataLt_str, dataLt_int]
  by_cases e : x = y
  · subst e
    have h1 : PyData.eqv (.str x) (.str x) = true := by simp [PyData.eqv]
    rw [if_pos h1]
    by_cases e2 : i = j
    · subst e2
      have h2 : PyData.eqv (.int i) (.int i) = true := by simp [PyData.eqv]
      rw [if_pos h2]
      exact (decide_eq_false (by rintro (q | ⟨_, q⟩); exact List.lt_irrefl _ q; exact Int.lt_irrefl _ q)).symm
    · have h2 : ¬ PyData.eqv (.int i) (.int j) = true := by simp [PyData.eqv, e2]
      rw [if_neg h2]
      by_cases l : i < j
      · rw [decide_eq_true l, decide_eq_true (Or.inr ⟨rfl, l⟩)]
      · rw [decide_eq_false l]
        exact (decide_eq_false (by rintro (q | ⟨_, q⟩); exact List.lt_irrefl _ q; exact l q)).symm
  · have h1 : ¬ PyData.eqv (.str x) (.str y) = true := by simp [PyData.eqv, e]
    rw [if_neg h1]
    by_cases l : x.cps.toList < y.cps.toList
    · rw [decide_eq_true l, decide_eq_true (Or.inl l)]
    · rw [decide_eq_false l]
      exact (decide_eq_false (by rintro (q | ⟨q, _⟩); exact l q; exact e q)).symm
theorem Ent.In.isKey {h : Heap} {t : Ent} (x : t.In h) : IsTupleKey (L2.mixKind prog w) h (keyN t.nm) t.key := by
  obtain ⟨u, i, o, e, cl, n, d⟩ := x.name
  exact ⟨o, _, n, e, cl, d, .cons (L2.mixKind_str prog w _ u) (.cons (L2.mixKind_int prog w _ i) .nil)⟩
/-- pair < pair, as sorting asks it: names that differ decide; a pair is not below itself -/
theorem ent_lt {E : Value → Shared → Prop} {s : Shared} {a b : Ent} {Q : Bool → Shared → Prop} (hu : A.units + 2 < cLine) (x : a.In s.heap) (y : b.In s.heap) (one : a.nm = b.nm → a.at' = b.at') (q : Q (decide (ltN a.nm b.nm)) s) :
    wpAny (model prog w) A (keyLt' (tuples' false) (.ref a.at') (.ref b.at')) Q E s := by
  obtain ⟨oa, ea, _, na, da⟩ := x.pair
  obtain ⟨ob, eb, _, nb, db⟩ := y.pair
  refine kat_lt ea da eb db (kat_cons (wpAny_eqBool_tuple (Nat.lt_of_le_of_lt (Nat.le_add_right _ _) hu) x.isKey y.isKey ?_))
  by_cases c : a.nm = b.nm
  · rw [decide_eq_true (congrArg keyN c)]
    obtain ⟨_, ev⟩ := x.inj y (one c)
    rw [ev]
    refine kat_yes (kat_cons (same_obj (kat_yes (kat_nil ?_))))
    rw [c, decide_eq_false (ltN_irrefl _)] at q
    exact q
  · rw [decide_eq_false fun z => c (keyN_inj z)]
    obtain ⟨u1, i1, o1, e1, c1, n1, d1⟩ := x.name
    obtain ⟨u2, i2, o2, e2, c2, n2, d2⟩ := y.name
    refine kat_no (oneLt_alike (f := false) (by intro z; cases z) (Reads.tuple e1 c1 d1 (.cons (.str _ u1) (.cons (.int _ i1) .nil))) (Reads.tuple e2 c2 d2 (.cons (.str _ u2) (.cons (.int _ i2) .nil))) rfl (by intro z; cases z) (show A.units + 1 < cLine by omega) ?_)
    rw [dataLt_nm]
    exact q
theorem ent_heads {h : Heap} : ∀ T : List Ent, (∀ t ∈ T, t.In h) → KatTups h (T.map fun t => Value.ref t.at') (T.map fun t => Value.ref t.key)
  | [], _ => .nil
  | t :: T, all => by
    obtain ⟨o, e, cl, n, d⟩ := (all t List.mem_cons_self).pair
    exact .cons e cl d rfl (ent_heads T fun z hz => all z (List.mem_cons_of_mem _ hz))
theorem ref_inj : ∀ {l m : List Addr}, l.map Value.ref = m.map Value.ref → l = m
  | [], [], _ => rfl
  | [], _ :: _, h => by cases h
  | _ :: _, [], h => by cases h
  | a :: l, b :: m, h => by
    injection h with h1 h2
    injection h1 with h1
    rw [h1, ref_inj h2]
/-- list.sort() of such pairs, fewer than 64, names that differ: in the order of names -/
theorem sort_ents {E : Value → Shared → Prop} {s : Shared} {l : Addr} {n : Nat} {T : List Ent} {P : PySem.Fin → Shared → Prop} (hl : s.heap.get? l = some (seqObj "list" (T.map fun t => Value.ref t.at').toArray n)) (few : T.length < 64) (hu : A.units + 2 < cLine)
    (all : ∀ t ∈ T, t.In s.heap) (nd : (T.map Ent.nm).Nodup)
    (h : ∀ (T' : List Ent) (out : Array Value), T'.Perm T → T'.Pairwise (fun a b => ltN a.nm b.nm) → out.toList = T'.map (fun t => Value.ref t.at') → P (.done (.ret .none)) { s with heap := sortedHeap s.heap l (T.map fun t => Value.ref t.at') out }) :
    wpAny (model prog w) A (Builtin.«list.sort» ⟨[.ref l], []⟩) P E s := by
  have one : ∀ a ∈ T, ∀ b ∈ T, a.nm = b.nm → a = b := by
    intro a ha b hb e
    obtain ⟨i, hi⟩ := List.mem_iff_getElem?.mp ha
    obtain ⟨j, hj⟩ := List.mem_iff_getElem?.mp hb
    have gi : (T.map Ent.nm)[i]? = some a.nm := by rw [List.getElem?_map, hi]; rfl
    have gj : (T.map Ent.nm)[j]? = some a.nm := by rw [List.getElem?_map, hj, e]; rfl
    have ij := (List.getElem?_inj (List.getElem?_eq_some_iff.mp gi).1 nd).mp (gi.trans gj.symm)
    rw [ij, hj] at hi
    exact (Option.some.inj hi).symm
  have mid : ∀ t ∈ T, t.In (TS.midHeap s.heap l (T.map fun t => Value.ref t.at')) := fun t ht => (all t ht).to fun b o e cl => TS.midHeap_old (by
    intro z
    rw [z, hl] at e
    rw [← Option.some.inj e] at cl
    have cl : Value.type "list" = Value.type "tuple" := cl
    injection cl with z2
    exact absurd z2 (by decide)) e
  refine SK.plain_sort (r := fun v => rank (T.map Ent.nm) (nameAt (TS.midHeap s.heap l (T.map fun t => Value.ref t.at')) v)) hl (by rw [List.length_map]; exact few) (fun two Q hQ => ?_) fun ps out h1 h2 h3 => ?_
  · have here : ∀ v ∈ T.map (fun t => Value.ref t.at'), ∃ t ∈ T, v = Value.ref t.at' := fun v hv => let ⟨t, ht, e⟩ := List.mem_map.mp hv; ⟨t, ht, e.symm⟩
    refine kat_kind (T := Value.type "tuple") (ent_heads T mid) (by rw [List.length_map] at two ⊢; omega) (fun f hf => ?_) rfl (hQ _ ?_)
    · obtain ⟨t, ht, rfl⟩ := List.mem_map.mp hf
      obtain ⟨_, _, o, e, cl, _⟩ := (mid t ht).name
      have lk : PySem.W.Looks (model prog w) (TS.midHeap s.heap l (T.map fun t => Value.ref t.at')) (typeOf (.ref t.key)) o.cls := (PySem.W.Looks.ld e).andThen .now
      rw [cl] at lk
      exact lk
    · intro u v hu' hv' Q' E' q
      rw [pairsOf_toList] at hu' hv'
      obtain ⟨a, ha, ea⟩ := here _ (mem_zip_self hu').2
      obtain ⟨b, hb, eb⟩ := here _ (mem_zip_self hv').2
      have q : Q' (decide (rank (T.map Ent.nm) (nameAt _ u.1) < rank (T.map Ent.nm) (nameAt _ v.1))) _ := q
      rw [ea, eb, (mid a ha).nameAt, (mid b hb).nameAt, decide_eq_decide.mpr (rank_iff (List.mem_map_of_mem ha) (List.mem_map_of_mem hb)).symm] at q
      rw [ea, eb]
      exact ent_lt hu (mid a ha) (mid b hb) (fun e => by rw [one a ha b hb e]) q
  · obtain ⟨T', p, e⟩ := L2.perm_lift (fun t : Ent => (Value.ref t.at', Value.ref t.at')) h2 T List.zip_map'.symm
    refine h T' out p ?_ (by rw [h1, ← e, List.map_map]; rfl)
    have inT : ∀ t ∈ T', t ∈ T := fun t ht => p.mem_iff.mp ht
    rw [← e, List.pairwise_map] at h3
    have df : T'.Pairwise fun a b => a.nm ≠ b.nm := List.pairwise_map.mp ((p.map Ent.nm).nodup_iff.mpr nd)
    refine List.Pairwise.imp_of_mem (fun {a b} ha hb z => ?_) (h3.and df)
    have le : rank (T.map Ent.nm) (nameAt _ (.ref a.at')) ≤ rank (T.map Ent.nm) (nameAt _ (.ref b.at')) := z.1
    rw [(mid a (inT a ha)).nameAt, (mid b (inT b hb)).nameAt] at le
    rcases ltN_total a.nm b.nm with c | c | c
    · exact c
    · exact (z.2 c).elim
    · have := (rank_iff (List.mem_map_of_mem (inT b hb)) (List.mem_map_of_mem (inT a ha))).mp c
      omega
end
/-- the entries out of three lists told by their places -/
theorem ents_of {R : Addr → Addr → Nm × Addr → Prop} : ∀ (bs : List Addr) (ks : List (Nm × Addr)), bs.length = ks.length → (∀ (j : Nat) (b : Addr) (e : Nm × Addr), bs[j]? = some b → ks[j]? = some e → ∃ k, R b k e) →
    ∃ T : List Ent, T.map Ent.at' = bs ∧ T.map (fun t => (t.nm, t.val)) = ks ∧ ∀ t ∈ T, R t.at' t.key (t.nm, t.val)
  | [], [], _, _ => ⟨[], rfl, rfl, fun t ht => by cases ht⟩
  | [], _ :: _, hl, _ => by cases hl
  | _ :: _, [], hl, _ => by cases hl
  | b :: bs, e :: ks, hl, h => by
    obtain ⟨T, h1, h2, h3⟩ := ents_of bs ks (Nat.succ.inj hl) fun j c f hc hf => h (j + 1) c f (by rw [List.getElem?_cons_succ]; exact hc) (by rw [List.getElem?_cons_succ]; exact hf)
    obtain ⟨k, hk⟩ := h 0 b e rfl rfl
    refine ⟨⟨b, k, e.1, e.2⟩ :: T, by rw [List.map_cons, h1], by rw [List.map_cons, h2], fun t ht => ?_⟩
    rcases List.mem_cons.mp ht with z | z
    · rw [z]; exact hk
    · exact h3 t z
end CM.Sq

namespace CM
open PySem L2 PyProof.Rows
/-- sorted(d.items()), d keyed by names: a new list of pairs, by the names' order -/
def rSortN : List V → Hp → VK → Prop := fun vs H Q => ∃ (p a : Addr) (ks : List (Nm × Addr)), vs = [.ref p] ∧ H p = some (DX.itemsO p a) ∧ H a = some (.dT (ks.map entN)) ∧ ks.length < 64 ∧ (ks.map (·.1)).Nodup ∧
  ∀ (H' : Hp) (l : Addr) (ps : List (Addr × Nm × Addr)), (∀ b o, H b = some o → H' b = some o) → H l = none → (ps.map (·.2)).Perm ks → (ps.map (·.2)).Pairwise (fun e f => ltN e.1 f.1) → H' l = some (.lst (ps.map fun z => V.ref z.1)) →
    (∀ z ∈ ps, ∃ q, H' z.1 = some (.tup [.ref q, .ref z.2.2]) ∧ H' q = some (.tup ((keyN z.2.1).map kV))) → Q (.ref l) H'
/-- a tracked tuple of a name, in the heap -/
theorem name_in {X : Cx} {pins : List (Addr × Obj)} {σ : L2.St} {H : Hp} {s : Shared} (I : L2.Inv X pins σ H s) {k : Addr} {n : Nm} (h : H k = some (.tup ((keyN n).map kV))) : ∃ x i : Tok, IsTup s.heap k #[.str n.1 x, .int n.2 i] := by
  obtain ⟨its, rv, tp, _⟩ := I.tuple (SqT.of h)
  rw [keyN_vals] at rv
  cases rv with
  | cons r1 rv =>
    cases rv with
    | cons r2 rv =>
      cases rv
      obtain ⟨x, e1⟩ := r1
      obtain ⟨i, e2⟩ := r2
      rw [e1, e2] at tp
      exact ⟨x, i, tp⟩
theorem cr_sortedN {X : Cx} (hc : X.calm = true) (hu : X.A.units + 64 < cLine) : CallR X (.builtin "sorted") rSortN := by
  rintro pins s σ H _ us Q I rv ⟨p, a, ks, rfl, hp, ha, few, names, goal⟩
  rw [Vals.ref1 rv]
  obtain ⟨view, _⟩ := (I.hok p _ hp : ObjOk X.prog X.w H s.heap p (DX.itemsO p a))
  obtain ⟨_, nosys, xs, rel, ob, es, ep, hob, exact', hdata, hent, _⟩ := dt_of I.hok ha
  have nk : ks.length = es.size := by rw [size_of_entries hent, ← Paired.length rel, List.length_map]
  refine DT.sortedI (es := es) (ep := ep) (I.ok.hd hc) view ⟨ob, hob, exact', hdata⟩ (by rw [← nk]; exact Nat.le_trans (Nat.le_of_lt few) (by decide)) fun h1 tk bs old grown nbs made => ?_
  -- the pairs laid, as entries
  obtain ⟨T, hT1, hT2, hT3⟩ := Sq.ents_of (R := fun b k e => H k = some (.tup ((keyN e.1).map kV)) ∧ h1.get? b = some { cls := .type "tuple", data := .seq #[Value.ref k, Value.ref e.2] }) bs ks (nbs.trans nk.symm) fun j b e hb he => by
    obtain ⟨en, hen, hlay⟩ := made.pairs j b hb
    rw [entry_at hent j, Option.map_eq_some_iff] at hen
    obtain ⟨x, hx, rfl⟩ := hen
    obtain ⟨e', he', r1, r2, r3⟩ := DX.pget rel hx
    rw [List.getElem?_map, he] at he'
    cases he'
    have r3 : x.2.2 = Value.ref e.2 := r3
    refine ⟨x.2.1, r2, ?_⟩
    rw [← r3]
    exact hlay
  have eb : bs.map Value.ref = T.map fun t => Value.ref t.at' := by rw [← hT1, List.map_map]; rfl
  have nT : T.length = ks.length := by rw [← hT2, List.length_map]
  have ndT : (T.map Sq.Ent.nm).Nodup := by
    have e : T.map Sq.Ent.nm = ks.map (·.1) := by rw [← hT2, List.map_map]; rfl
    rw [e]
    exact names
  rw [eb]
  have hnew : (h1.push { cls := .type "list", data := .seq (T.map fun t => Value.ref t.at').toArray }).get? h1.objs.size = some (seqObj "list" (T.map fun t => Value.ref t.at').toArray 0) := Heap.get?_push_size _ rfl
  have stay1 : ∀ b o, h1.get? b = some o → (h1.push { cls := .type "list", data := .seq (T.map fun t => Value.ref t.at').toArray }).get? b = some o := fun b o e => Heap.get?_push_of_some _ e
  have below : ∀ b o, h1.get? b = some o → b ≠ h1.objs.size := fun b o e z => absurd (z ▸ Heap.lt_size e) (Nat.lt_irrefl _)
  generalize h1.push { cls := .type "list", data := .seq (T.map fun t => Value.ref t.at').toArray } = h2 at hnew stay1 ⊢
  have inT : ∀ t ∈ T, t.In h2 := fun t ht => by
    obtain ⟨k1, k2⟩ := hT3 t ht
    obtain ⟨x, i, tp⟩ := name_in I k1
    exact ⟨⟨_, stay1 _ _ k2, rfl, 0, rfl⟩, x, i, Sq.isTup_to tp fun o e _ => stay1 _ _ (old _ _ e)⟩
  refine wpAny_call_entry PyProof.Rows.slot_list_sort ⟨_, hnew, rfl⟩ PyProof.Rows.entry_list_sort (Sq.sort_ents (s := { s with heap := h2, toks := tk }) hnew (by rw [nT]; exact few) (show X.A.units + 1 + 1 + 2 < cLine by omega) inT ndT fun T' out perm up eo => ⟨.none, rfl, ?_⟩) (PyProof.Rows.args_list_sort _)
  -- behind the sort: the list and its pairs are tracked
  show EP X pins σ Q (.ref h1.objs.size) { s with heap := sortedHeap h2 h1.objs.size (T.map fun t => Value.ref t.at') out, toks := tk }
  have stay2 : ∀ b o, h1.get? b = some o → (sortedHeap h2 h1.objs.size (T.map fun t => Value.ref t.at') out).get? b = some o := fun b o e => (PyProof.Rows.sortedHeap_old (below b o e) (Heap.lt_size (stay1 b o e))).trans (stay1 b o e)
  obtain ⟨cap, hlist⟩ := PyProof.Rows.sortedHeap_at (vs := T.map fun t => Value.ref t.at') (out := out) hnew
  generalize sortedHeap h2 h1.objs.size (T.map fun t => Value.ref t.at') out = h3 at stay2 hlist ⊢
  have fresh : H h1.objs.size = none := I.hok.fresh (Nat.le_of_lt grown)
  have I1 : L2.Inv X pins σ H { s with heap := h3, toks := tk } := I.kept fun b o e => stay2 b o (old b o e)
  have rvO : Vals (T'.map fun t => V.ref t.at') out.toList := by
    rw [eo]
    exact vals_maps (fun t : Sq.Ent => V.ref t.at') (fun t => Value.ref t.at') T' fun _ _ => rfl
  have lenO : (T'.map fun t => V.ref t.at').length ≤ sizeLine := by
    rw [List.length_map, perm.length_eq, nT]
    exact Nat.le_trans (Nat.le_of_lt few) (by decide)
  have I2 := I1.take (h' := h3) (t' := tk) (fun _ _ _ e => e) (I.fpOk (Nat.le_of_lt grown) fresh) (show ObjOk X.prog X.w (upd H h1.objs.size (.lst (T'.map fun t => V.ref t.at'))) h3 h1.objs.size (.lst (T'.map fun t => V.ref t.at')) from ⟨lenO, out.toList, cap, rvO, hlist⟩)
  have two : (2 : Nat) ≤ sizeLine := by decide
  obtain ⟨H2, I3, keep, got⟩ := DX.takeT (P := fun b vs => ∃ t ∈ T, t.at' = b ∧ vs = [.ref t.key, .ref t.val]) I bs _ I2 (made.rise.imp fun z => Nat.ne_of_lt z) fun b hb => by
    rw [← hT1] at hb
    obtain ⟨t, ht, rfl⟩ := List.mem_map.mp hb
    have lo := made.above t.at' (by rw [← hT1]; exact List.mem_map_of_mem ht)
    have lay := (hT3 t ht).2
    refine ⟨Nat.le_of_lt lo, (upd_ne (below _ _ lay)).trans (I.hok.fresh (Nat.le_of_lt lo)), _, ⟨t, ht, rfl, rfl⟩, fun H3 => ⟨two, [.ref t.key, .ref t.val], .cons rfl (.cons rfl .nil), _, stay2 _ _ lay, rfl, 0, rfl⟩⟩
  have keepH : ∀ b o, H b = some o → H2 b = some o := fun b o e => keep b o (by rw [upd_ne (ne_of_none e fresh)]; exact e)
  refine ⟨.ref h1.objs.size, H2, I3, rfl, goal H2 h1.objs.size (T'.map fun t => (t.at', t.nm, t.val)) keepH fresh ?_ ?_ ?_ ?_⟩
  · rw [List.map_map, ← hT2]
    exact perm.map _
  · rw [List.map_map, List.pairwise_map]
    exact up
  · rw [List.map_map]
    exact keep _ _ upd_same
  · intro z hz
    obtain ⟨t, ht, rfl⟩ := List.mem_map.mp hz
    have ht := perm.mem_iff.mp ht
    obtain ⟨vs, ⟨t', ht', ea, ev⟩, hH⟩ := got t.at' (by rw [← hT1]; exact List.mem_map_of_mem ht)
    obtain ⟨q1, q2⟩ := (inT t' ht').inj (inT t ht) ea
    rw [ev, q1, q2] at hH
    exact ⟨t.key, hH, keepH _ _ (hT3 t ht).1⟩

/-! ### a display with one tuple key -/
/-- {k: v}, k a tuple: the new dict stands empty while the pair is made -/
def tDispT (tk tv : TE) : TE := fun σ H Q => ∀ p, H p = none → tk σ (upd H p (.dT [])) fun x H1 => tv σ H1 fun y H2 => H2 p = some (.dT []) ∧ ∃ (b : Addr) (k : List Key), x = .ref b ∧ H2 b = some (.tup (k.map kV)) ∧ Q (.ref p) (upd H2 p (.dT [(k, y)]))
theorem pe_dispT {X : Cx} {pos : Pos} {k v : Expr} {tk tv : TE} (hu : X.A.units + 1 < cLine) (hk : PE X k tk) (hv : PE X v tv) : PE X (.Dict [some k] [v] pos) (tDispT tk tv) := by
  constructor
  intro pins s σ H Q I want
  have free : H s.heap.objs.size = none := I.hok.fresh (Nat.le_refl _)
  have I1 : L2.Inv X pins σ (upd H s.heap.objs.size (.dT [])) { s with heap := s.heap.push { cls := .type "dict", data := .dict #[] } } := I.laid (t' := s.toks) (fun _ _ e => Heap.get?_push_of_some _ e) (Nat.le_refl _) (dt_empty s.heap I.big)
  rw [arm_eval_Dict, zip_pairTrees [some k] [v] X.env pos rfl rfl, dictDisplay_pairs (pairTrees [some k] [v] X.env pos) (by intro z; cases z) (by show 1 < 17; omega)]
  refine wpAny_bind (wpAny_standAt (wpAny_bind (wpAny_subDictH (knd := tupleKind (mixKind X.prog X.w)) (Q := fun d s' => wpAny (model X.prog X.w) X.A (pure (Value.ref d)) (EP X pins σ Q) X.xe s') (show X.A.units < cLine by omega) (by show 1 ≤ 15; omega) ?_)))
  refine pairTrees_cons_walk (thn (hk.run pins _ σ _ _ I1 (want _ free)) fun u s1 ⟨x, H1, I2, rx, w1⟩ => thn (hv.run pins s1 σ H1 _ I2 w1) fun w2 s2 ⟨y, H2, I3, ry, here, b, kk, ex, hb, w3⟩ => pairTrees_nil_walk ?_)
  subst ex
  cases rx
  obtain ⟨_, nosys, xs, rel, dd⟩ := dt_of I3.hok here
  cases rel
  refine ⟨[(kk, b, w2)], ⟨rfl, rfl, key_of I3.hok hb, True.intro⟩, dd, fun h' tk' dd' but => wpAny_pure ⟨.ref s.heap.objs.size, _, ?_, rfl, w3⟩⟩
  obtain ⟨ob, es, ep, e1, e2, e3, e4, _, e5⟩ := dd'
  have hb' : (upd H2 s.heap.objs.size (.dT [(kk, y)])) b = some (.tup (kk.map kV)) := by
    rw [upd_ne (ne_of hb here (by intro z; cases z))]
    exact hb
  exact d_write I3 (by rw [here]; exact True.intro) but ⟨ob, e1⟩ ⟨(by show 1 ≤ sizeLine; decide), nosys, [(kk, b, w2)], .cons ⟨rfl, hb', ry⟩ .nil, ob, es, ep, e1, e2, e3, e4, e5⟩
end CM
/-! How names, rows, deeds and trees lie in the abstract heap; what stays. -/
namespace CM
open PySem L2

abbrev okS (x : Str) : Prop := PyData.strOk x = true

theorem small1000' {n : Nat} (h : n ≤ 16777216) : n ≤ sizeLine := Nat.le_trans h (by decide)
/-! ### what stays -/
def Tk (H H' : Hp) : Prop := ∀ b xs, H b = some (.tup xs) → H' b = some (.tup xs)
structure Kp (S : List Addr) (H H' : Hp) : Prop where
  at' : ∀ b o, H b = some o → b ∉ S → H' b = some o
  tp : Tk H H'
  dom : ∀ b o, H b = some o → ∃ o', H' b = some o'
theorem Kp.refl (S : List Addr) (H : Hp) : Kp S H H := ⟨fun _ _ h _ => h, fun _ _ h => h, fun _ o h => ⟨o, h⟩⟩
theorem Kp.trans {S : List Addr} {H H1 H2 : Hp} (a : Kp S H H1) (b : Kp S H1 H2) : Kp S H H2 :=
  ⟨fun c o h hn => b.at' c o (a.at' c o h hn) hn, fun c xs h => b.tp c xs (a.tp c xs h), fun c o h => let ⟨o1, h1⟩ := a.dom c o h; b.dom c o1 h1⟩
theorem Kp.mono {S S' : List Addr} {H H' : Hp} (a : Kp S H H') (h : ∀ b, b ∈ S → b ∈ S') : Kp S' H H' :=
  ⟨fun c o e hn => a.at' c o e fun z => hn (h c z), a.tp, a.dom⟩
theorem Kp.new {S : List Addr} {H : Hp} {p : Addr} {o : HO} (h : H p = none) : Kp S H (upd H p o) :=
  ⟨fun b u e _ => by rw [upd_ne (ne_of_none e h)]; exact e, fun b u e => by rw [upd_ne (ne_of_none e h)]; exact e, fun b u e => ⟨u, by rw [upd_ne (ne_of_none e h)]; exact e⟩⟩
theorem Kp.set {S : List Addr} {H : Hp} {p : Addr} {o o' : HO} (h : H p = some o) (hm : ∀ xs, o ≠ .tup xs) (hp : p ∈ S) : Kp S H (upd H p o') := by
  refine ⟨fun b u e hn => ?_, fun b u e => ?_, fun b u e => ?_⟩
  · rw [upd_ne (fun z : b = p => hn (by rw [z]; exact hp))]; exact e
  · rw [upd_ne (ne_of e h fun z => hm u z.symm)]; exact e
  · by_cases hb : b = p
    · exact ⟨o', by rw [hb, upd_same]⟩
    · exact ⟨u, by rw [upd_ne hb]; exact e⟩
theorem Kp.over {S : List Addr} {H H' : Hp} {q : Addr} {o : HO} (a : Kp S H H') (hq : H q = none) : Kp S H (upd H' q o) :=
  ⟨fun b u e hn => by rw [upd_ne (ne_of_none e hq)]; exact a.at' b u e hn, fun b u e => by rw [upd_ne (ne_of_none e hq)]; exact a.tp b u e, fun b u e => by rw [upd_ne (ne_of_none e hq)]; exact a.dom b u e⟩
theorem iteY {c A B : Prop} [Decidable c] (hc : c) (h : A) : if c then A else B := by
  rw [if_pos hc]
  exact h
theorem Kp.free {S : List Addr} {H H' : Hp} (a : Kp S H H') {p : Addr} (h : H' p = none) : H p = none := by
  cases e : H p with
  | none => rfl
  | some o =>
    obtain ⟨o', e'⟩ := a.dom p o e
    rw [h] at e'; cases e'
theorem Kp.of_same {H H' : Hp} (h : ∀ b o, H b = some o → H' b = some o) (S : List Addr) : Kp S H H' := ⟨fun b o e _ => h b o e, fun b xs e => h b _ e, fun b o e => ⟨o, h b o e⟩⟩
theorem Kp.same {H H' : Hp} (a : Kp [] H H') : Same H H' := fun b o e => a.at' b o e (by simp)
theorem Kp.seq {S : List Addr} {K : PySem.W.Frag} {H H' : Hp} {a : Addr} {xs : List V} (e : Kp S H H') (ha : a ∉ S) (h : SqL K H a xs) : SqL K H' a xs := by
  rcases h with (h | ⟨o, h⟩) | h
  · exact .inl (.inl (e.at' _ _ h ha))
  · exact .inl (.inr ⟨o, e.at' _ _ h ha⟩)
  · exact .inr h

/-! ### data in tuples -/
mutual
inductive Dt (H : Hp) : V → PyData → Prop
  | non : Dt H .non .none
  | int (i : Int) : Dt H (.int i) (.int i)
  | str {x : Str} : okS x → Dt H (.str x) (.str x)
  | tup {a : Addr} {xs : List V} {ds : List PyData} : H a = some (.tup xs) → DtAll H xs ds → Dt H (.ref a) (.tuple ds)
inductive DtAll (H : Hp) : List V → List PyData → Prop
  | nil : DtAll H [] []
  | cons {v : V} {vs : List V} {d : PyData} {ds : List PyData} : Dt H v d → DtAll H vs ds → DtAll H (v :: vs) (d :: ds)
end
mutual
theorem Dt.keep {H H' : Hp} (k : Tk H H') : ∀ {v : V} {d : PyData}, Dt H v d → Dt H' v d
  | _, _, .non => .non
  | _, _, .int i => .int i
  | _, _, .str h => .str h
  | _, _, .tup h a => .tup (k _ _ h) (DtAll.keep k a)
theorem DtAll.keep {H H' : Hp} (k : Tk H H') : ∀ {vs : List V} {ds : List PyData}, DtAll H vs ds → DtAll H' vs ds
  | _, _, .nil => .nil
  | _, _, .cons h t => .cons (Dt.keep k h) (DtAll.keep k t)
end
mutual
theorem Dt.dp {K : PySem.W.Frag} {H : Hp} : ∀ {v : V} {d : PyData}, Dt H v d → Dp K H v d
  | _, _, .non => .non
  | _, _, .int i => .int i
  | _, _, .str (x := x) _ => .str x
  | _, _, .tup h a => .tup (SqT.of h) (DtAll.dp a)
theorem DtAll.dp {K : PySem.W.Frag} {H : Hp} : ∀ {vs : List V} {ds : List PyData}, DtAll H vs ds → DpAll K H vs ds
  | _, _, .nil => .nil
  | _, _, .cons h t => .cons (Dt.dp h) (DtAll.dp t)
end
mutual
theorem Dt.can {H : Hp} : ∀ {v : V} {d : PyData}, Dt H v d → d.canLay0 = true
  | _, _, .non => rfl
  | _, _, .int i => rfl
  | _, _, .str h => h
  | _, _, .tup _ a => DtAll.can a
theorem DtAll.can {H : Hp} : ∀ {vs : List V} {ds : List PyData}, DtAll H vs ds → PyData.canLayAll0 ds = true
  | _, _, .nil => rfl
  | _, _, .cons h t => by
    show (PyData.canLay0 _ && PyData.canLayAll0 _) = true
    rw [Dt.can h, DtAll.can t]
    rfl
end
theorem DtAll.app {H : Hp} : ∀ {vs ws : List V} {ds es : List PyData}, DtAll H vs ds → DtAll H ws es → DtAll H (vs ++ ws) (ds ++ es)
  | _, _, _, _, .nil, b => b
  | _, _, _, _, .cons h t, b => .cons h (DtAll.app t b)
theorem DtAll.length {H : Hp} : ∀ {vs : List V} {ds : List PyData}, DtAll H vs ds → vs.length = ds.length
  | _, _, .nil => rfl
  | _, _, .cons _ t => by rw [List.length_cons, List.length_cons, DtAll.length t]
theorem shaped_of {d : PyData} (h : d.canLay0 = true) (hd : d.depth ≤ 64) : SeqAt.shaped d = true := by
  unfold SeqAt.shaped
  rw [h, decide_eq_true hd]
  rfl
theorem depthAll_app : ∀ xs ys : List PyData, PyData.depthAll (xs ++ ys) = max (PyData.depthAll xs) (PyData.depthAll ys)
  | [], ys => by show PyData.depthAll ys = max 0 _; omega
  | x :: xs, ys => by
    show max (PyData.depth x) (PyData.depthAll (xs ++ ys)) = max (max (PyData.depth x) (PyData.depthAll xs)) (PyData.depthAll ys)
    rw [depthAll_app xs ys]
    omega
theorem depthAll_map {α : Type} (g : α → PyData) (n : Nat) : ∀ l : List α, (∀ x ∈ l, (g x).depth ≤ n) → PyData.depthAll (l.map g) ≤ n
  | [], _ => Nat.zero_le _
  | x :: l, h => by
    show max (PyData.depth (g x)) (PyData.depthAll (l.map g)) ≤ n
    have h1 := h x List.mem_cons_self
    have h2 := depthAll_map g n l fun y hy => h y (List.mem_cons_of_mem _ hy)
    omega

/-! ### names -/
def dN (n : Nm) : PyData := .tuple [.str n.1, .int n.2]
def NameIs (H : Hp) (v : V) (n : Nm) : Prop := ∃ a, v = .ref a ∧ H a = some (.tup ((keyN n).map kV)) ∧ okS n.1
theorem NameIs.keep {H H' : Hp} {v : V} {n : Nm} (h : NameIs H v n) (k : Tk H H') : NameIs H' v n := let ⟨a, e, h1, h2⟩ := h; ⟨a, e, k _ _ h1, h2⟩
theorem NameIs.dt {H : Hp} {v : V} {n : Nm} (h : NameIs H v n) : Dt H v (dN n) := by
  obtain ⟨a, rfl, h1, h2⟩ := h
  exact .tup h1 (.cons (.str h2) (.cons (.int _) .nil))
theorem dN_shaped {n : Nm} (h : okS n.1) : SeqAt.shaped (dN n) = true := by
  refine shaped_of ?_ ?_
  · show (PyData.strOk n.1 && (true && true)) = true
    rw [show PyData.strOk n.1 = true from h]
    rfl
  · show max 0 (max 0 0) + 1 ≤ 64
    decide
theorem dN_eqv (a b : Nm) : PyData.eqv (dN a) (dN b) = decide (a = b) := by
  obtain ⟨a1, a2⟩ := a
  obtain ⟨b1, b2⟩ := b
  by_cases h : (a1, a2) = (b1, b2)
  · rw [decide_eq_true h]
    injection h with h1 h2
    subst h1 h2
    simp [dN, PyData.eqv, PyData.eqvAll]
  · rw [decide_eq_false h]
    simp only [dN, PyData.eqv, PyData.eqvAll, Bool.and_true]
    cases e1 : a1 == b1 with
    | false => rfl
    | true =>
      cases e2 : a2 == b2 with
      | false => rfl
      | true => exact absurd (by rw [beq_iff_eq.mp e1, beq_iff_eq.mp e2]) h
def HoldIs (H : Hp) (v : V) : Option Nm → Prop
  | none => v = .non
  | some n => NameIs H v n
def dH : Option Nm → PyData
  | none => .none
  | some n => dN n
theorem HoldIs.keep {H H' : Hp} {v : V} {h : Option Nm} (x : HoldIs H v h) (k : Tk H H') : HoldIs H' v h := by
  cases h with
  | none => exact x
  | some n => exact NameIs.keep x k
theorem HoldIs.dt {H : Hp} {v : V} {h : Option Nm} (x : HoldIs H v h) : Dt H v (dH h) := by
  cases h with
  | none => cases (show v = .non from x); exact .non
  | some n => exact NameIs.dt x

/-! ### rows -/
def RowIs (H : Hp) (v : V) (r : TRow) : Prop := ∃ a hv sv, v = .ref a ∧ H a = some (.tup [.str r.kind, hv, sv]) ∧ okS r.kind ∧ HoldIs H hv r.holder ∧ Dt H sv r.spot ∧ r.spot.depth ≤ 8
theorem RowIs.keep {H H' : Hp} {v : V} {r : TRow} (x : RowIs H v r) (k : Tk H H') : RowIs H' v r := by
  obtain ⟨a, hv, sv, e, h1, h2, h3, h4, h5⟩ := x
  exact ⟨a, hv, sv, e, k _ _ h1, h2, h3.keep k, h4.keep k, h5⟩
def Row4Is (H : Hp) (v : V) (p : Nm × TRow) : Prop := ∃ a nv hv sv, v = .ref a ∧ H a = some (.tup [nv, .str p.2.kind, hv, sv]) ∧ NameIs H nv p.1 ∧ okS p.2.kind ∧ HoldIs H hv p.2.holder ∧ Dt H sv p.2.spot ∧ p.2.spot.depth ≤ 8
theorem Row4Is.keep {H H' : Hp} {v : V} {p : Nm × TRow} (x : Row4Is H v p) (k : Tk H H') : Row4Is H' v p := by
  obtain ⟨a, nv, hv, sv, e, h1, h0, h2, h3, h4, h5⟩ := x
  exact ⟨a, nv, hv, sv, e, k _ _ h1, h0.keep k, h2, h3.keep k, h4.keep k, h5⟩
def d4 (p : Nm × TRow) : PyData := .tuple [dN p.1, .str p.2.kind, dH p.2.holder, p.2.spot]
theorem Row4Is.dt {H : Hp} {v : V} {p : Nm × TRow} (x : Row4Is H v p) : Dt H v (d4 p) := by
  obtain ⟨a, nv, hv, sv, rfl, h1, h0, h2, h3, h4, h5⟩ := x
  exact .tup h1 (.cons h0.dt (.cons (.str h2) (.cons h3.dt (.cons h4 .nil))))
theorem dH_depth (h : Option Nm) : (dH h).depth ≤ 1 := by
  cases h with
  | none => exact Nat.zero_le _
  | some n => exact Nat.le_refl _
theorem d4_depth {p : Nm × TRow} (h : p.2.spot.depth ≤ 8) : (d4 p).depth ≤ 10 := by
  have := dH_depth p.2.holder
  show max 1 (max 0 (max (dH p.2.holder).depth (max p.2.spot.depth 0))) + 1 ≤ 10
  omega
abbrev Rows4 (H : Hp) : List V → List (Nm × TRow) → Prop := Paired (Row4Is H)
abbrev NamesIs (H : Hp) : List V → List Nm → Prop := Paired (NameIs H)
theorem Rows4.keep {H H' : Hp} {vs : List V} {ps : List (Nm × TRow)} (x : Rows4 H vs ps) (k : Tk H H') : Rows4 H' vs ps := Paired.mapP x fun _ _ z => z.keep k
theorem NamesIs.keep {H H' : Hp} {vs : List V} {ps : List Nm} (x : NamesIs H vs ps) (k : Tk H H') : NamesIs H' vs ps := Paired.mapP x fun _ _ z => z.keep k
theorem dtAll_map {α : Type} {H : Hp} {R : V → α → Prop} {g : α → PyData} (h : ∀ v x, R v x → Dt H v (g x)) : ∀ {vs : List V} {xs : List α}, Paired R vs xs → DtAll H vs (xs.map g)
  | _, _, .nil => .nil
  | _, _, .cons a t => .cons (h _ _ a) (dtAll_map h t)
theorem Rows4.dt {H : Hp} {vs : List V} {ps : List (Nm × TRow)} (x : Rows4 H vs ps) : DtAll H vs (ps.map d4) := dtAll_map (fun _ _ z => Row4Is.dt z) x
theorem NamesIs.dt {H : Hp} {vs : List V} {ps : List Nm} (x : NamesIs H vs ps) : DtAll H vs (ps.map dN) := dtAll_map (fun _ _ z => NameIs.dt z) x
theorem Rows4.depth {H : Hp} {vs : List V} {ps : List (Nm × TRow)} (x : Rows4 H vs ps) : ∀ p ∈ ps, (d4 p).depth ≤ 10 := by
  induction x with
  | nil => intro p hp; cases hp
  | cons a t ih =>
    intro p hp
    rcases List.mem_cons.mp hp with e | hp
    · subst e
      obtain ⟨_, _, _, _, _, _, _, _, _, _, h⟩ := a
      exact d4_depth h
    · exact ih p hp
/-- a list of rows as one datum -/
def dRows (ps : List (Nm × TRow)) : PyData := .list (ps.map d4)
def dNames (ns : List Nm) : PyData := .list (ns.map dN)
theorem dRows_shaped {H : Hp} {vs : List V} {ps : List (Nm × TRow)} (x : Rows4 H vs ps) : SeqAt.shaped (dRows ps) = true ∧ (dRows ps).canLay0 = true ∧ (dRows ps).depth ≤ 11 := by
  have h1 : (dRows ps).canLay0 = true := DtAll.can x.dt
  have h2 : (dRows ps).depth ≤ 11 := by
    have := depthAll_map d4 10 ps x.depth
    show PyData.depthAll (ps.map d4) + 1 ≤ 11
    omega
  exact ⟨shaped_of h1 (by omega), h1, h2⟩
theorem dNames_shaped {H : Hp} {vs : List V} {ps : List Nm} (x : NamesIs H vs ps) : SeqAt.shaped (dNames ps) = true ∧ (dNames ps).canLay0 = true ∧ (dNames ps).depth ≤ 11 := by
  have h1 : (dNames ps).canLay0 = true := DtAll.can x.dt
  have h2 : (dNames ps).depth ≤ 11 := by
    have := depthAll_map dN 1 ps fun p _ => Nat.le_refl _
    show PyData.depthAll (ps.map dN) + 1 ≤ 11
    omega
  exact ⟨shaped_of h1 (by omega), h1, h2⟩
theorem dRows_dp {K : PySem.W.Frag} {H : Hp} {a : Addr} {vs : List V} {ps : List (Nm × TRow)} (h : H a = some (.lst vs)) (x : Rows4 H vs ps) : Dp K H (.ref a) (dRows ps) := .lst (SqL.of h) x.dt.dp
theorem dNames_dp {K : PySem.W.Frag} {H : Hp} {a : Addr} {vs : List V} {ps : List Nm} (h : H a = some (.lst vs)) (x : NamesIs H vs ps) : Dp K H (.ref a) (dNames ps) := .lst (SqL.of h) x.dt.dp

/-! ### deeds -/
def SpotIs (H : Hp) (v : V) : Spot → Prop
  | .key s => v = .str s ∧ okS s
  | .pair u side => ∃ a ua us, v = .ref a ∧ H a = some (.tup [.ref ua, .int side]) ∧ H ua = some (.tup us) ∧ DtAll H us u ∧ PyData.depthAll u ≤ 2 ∧ us ≠ [] ∧ us.length ≤ 1000
theorem SpotIs.keep {H H' : Hp} {v : V} {sp : Spot} (x : SpotIs H v sp) (k : Tk H H') : SpotIs H' v sp := by
  cases sp with
  | key s => exact x
  | pair u side =>
    obtain ⟨a, ua, us, e, h1, h2, h3, h4, h5, h6⟩ := x
    exact ⟨a, ua, us, e, k _ _ h1, k _ _ h2, h3.keep k, h4, h5, h6⟩
def ActIs (H : Hp) (v : V) : Act → Prop
  | .make k h sp => ∃ a hv pv, v = .ref a ∧ H a = some (.tup [.str "make", .str k, hv, pv]) ∧ okS k ∧ NameIs H hv h ∧ SpotIs H pv sp
  | .move t h sp => ∃ a tv hv pv, v = .ref a ∧ H a = some (.tup [.str "move", tv, hv, pv]) ∧ NameIs H tv t ∧ NameIs H hv h ∧ SpotIs H pv sp
  | .drop t => ∃ a tv, v = .ref a ∧ H a = some (.tup [.str "drop", tv]) ∧ NameIs H tv t
theorem ActIs.keep {H H' : Hp} {v : V} {c : Act} (x : ActIs H v c) (k : Tk H H') : ActIs H' v c := by
  cases c with
  | make kd h sp =>
    obtain ⟨a, hv, pv, e, h1, h2, h3, h4⟩ := x
    exact ⟨a, hv, pv, e, k _ _ h1, h2, h3.keep k, h4.keep k⟩
  | move t h sp =>
    obtain ⟨a, tv, hv, pv, e, h1, h2, h3, h4⟩ := x
    exact ⟨a, tv, hv, pv, e, k _ _ h1, h2.keep k, h3.keep k, h4.keep k⟩
  | drop t =>
    obtain ⟨a, tv, e, h1, h2⟩ := x
    exact ⟨a, tv, e, k _ _ h1, h2.keep k⟩
def DeedIs (H : Hp) (v : V) (d : Deed) : Prop := ∃ a nv sv av, v = .ref a ∧ H a = some (.tup [nv, sv, av]) ∧ NameIs H nv d.name ∧ ActIs H av d.act
theorem DeedIs.keep {H H' : Hp} {v : V} {d : Deed} (x : DeedIs H v d) (k : Tk H H') : DeedIs H' v d := by
  obtain ⟨a, nv, sv, av, e, h1, h2, h3⟩ := x
  exact ⟨a, nv, sv, av, e, k _ _ h1, h2.keep k, h3.keep k⟩
abbrev DeedsIs (H : Hp) : List V → List Deed → Prop := Paired (DeedIs H)
theorem DeedsIs.keep {H H' : Hp} {vs : List V} {ps : List Deed} (x : DeedsIs H vs ps) (k : Tk H H') : DeedsIs H' vs ps := Paired.mapP x fun _ _ z => z.keep k
theorem paired_get {α β : Type} {R : α → β → Prop} {xs : List α} {ys : List β} (h : Paired R xs ys) : ∀ {i : Nat} {x : α}, xs[i]? = some x → ∃ y, ys[i]? = some y ∧ R x y := by
  induction h with
  | nil =>
    intro i x e
    cases e
  | cons r _ ih =>
    intro i x e
    cases i with
    | zero =>
      cases e
      exact ⟨_, rfl, r⟩
    | succ i =>
      rw [List.getElem?_cons_succ] at e
      obtain ⟨y, h1, h2⟩ := ih e
      exact ⟨y, by rw [List.getElem?_cons_succ]; exact h1, h2⟩

/-! ### the tree's dict -/
def ROpt (H : Hp) : Option V → Option TRow → Prop
  | some v, some r => RowIs H v r
  | none, none => True
  | _, _ => False
structure DictIs (H : Hp) (kvs : List (List Key × V)) (f : Fm) : Prop where
  val : ∀ n, ROpt H (valV kvs (keyN n)) (f n)
  keys : ∀ p ∈ kvs, ∃ n : Nm, p.1 = keyN n ∧ okS n.1
  nd : (kvs.map (·.1)).Nodup
theorem DictIs.keep {H H' : Hp} {kvs : List (List Key × V)} {f : Fm} (x : DictIs H kvs f) (k : Tk H H') : DictIs H' kvs f := by
  refine ⟨fun n => ?_, x.keys, x.nd⟩
  have h := x.val n
  cases e1 : valV kvs (keyN n) with
  | none =>
    cases e2 : f n with
    | none => exact True.intro
    | some r => rw [e1, e2] at h; exact h.elim
  | some v =>
    cases e2 : f n with
    | none => rw [e1, e2] at h; exact h.elim
    | some r => rw [e1, e2] at h; exact RowIs.keep h k
theorem DictIs.empty (H : Hp) : DictIs H [] (fun _ => none) := ⟨fun _ => True.intro, fun _ h => (by cases h), List.nodup_nil⟩
theorem DictIs.some_of {H : Hp} {kvs : List (List Key × V)} {f : Fm} (x : DictIs H kvs f) {n : Nm} {v : V} (h : valV kvs (keyN n) = some v) : ∃ r, f n = some r ∧ RowIs H v r := by
  have q := x.val n
  rw [h] at q
  cases e : f n with
  | none => rw [e] at q; exact q.elim
  | some r => rw [e] at q; exact ⟨r, rfl, q⟩
theorem DictIs.none_of {H : Hp} {kvs : List (List Key × V)} {f : Fm} (x : DictIs H kvs f) {n : Nm} (h : valV kvs (keyN n) = none) : f n = none := by
  have q := x.val n
  rw [h] at q
  cases e : f n with
  | none => rfl
  | some r => rw [e] at q; exact q.elim
theorem putK_keys {kvs : List (List Key × V)} {k : List Key} {v : V} : (putK kvs k v).map (·.1) = if (valV kvs k).isSome then kvs.map (·.1) else kvs.map (·.1) ++ [k] := by
  rw [← valV_any]
  unfold putK
  by_cases h : (kvs.any fun kv => decide (kv.1 = k)) = true
  · rw [if_pos h, if_pos h, List.map_map]
    apply List.map_congr_left
    intro p _
    show (if p.1 = k then (p.1, v) else p).1 = p.1
    split <;> rfl
  · rw [if_neg h, if_neg h, List.map_append]
    rfl
theorem DictIs.put {H : Hp} {kvs : List (List Key × V)} {f : Fm} (x : DictIs H kvs f) {n : Nm} {v : V} {r : TRow} (hr : RowIs H v r) (hn : okS n.1) : DictIs H (putK kvs (keyN n) v) (setF f n r) := by
  have hk := putK_keys (kvs := kvs) (k := keyN n) (v := v)
  refine ⟨fun m => ?_, fun p hp => ?_, ?_⟩
  · rw [valV_put]
    by_cases e : m = n
    · subst e
      rw [if_pos rfl, setF_same]
      exact hr
    · rw [if_neg (fun z => e (keyN_inj z)), setF_ne e]
      exact x.val m
  · have hp' : p.1 ∈ (putK kvs (keyN n) v).map (·.1) := List.mem_map.mpr ⟨p, hp, rfl⟩
    rw [hk] at hp'
    have old : p.1 ∈ kvs.map (·.1) → ∃ n : Nm, p.1 = keyN n ∧ okS n.1 := fun hm => by
      obtain ⟨q, hq, e⟩ := List.mem_map.mp hm
      rw [← e]
      exact x.keys q hq
    split at hp'
    · exact old hp'
    · rcases List.mem_append.mp hp' with h | h
      · exact old h
      · exact ⟨n, List.mem_singleton.mp h, hn⟩
  · cases e : valV kvs (keyN n) with
    | none => exact nd_putK v x.nd e
    | some u =>
      rw [hk, e]
      exact x.nd
/-- the dict's entries as names and rows' addresses -/
theorem DictIs.list {H : Hp} {kvs : List (List Key × V)} {f : Fm} (x : DictIs H kvs f) : ∃ ks : List (Nm × Addr), kvs = ks.map entN ∧ (ks.map (·.1)).Nodup ∧ (∀ e ∈ ks, ∃ r, f e.1 = some r ∧ RowIs H (.ref e.2) r ∧ okS e.1.1) ∧ ∀ n r, f n = some r → ∃ b, (n, b) ∈ ks := by
  have val_mem : ∀ {l : List (List Key × V)}, (l.map (·.1)).Nodup → ∀ p ∈ l, valV l p.1 = some p.2 := by
    intro l
    induction l with
    | nil => intro _ p hp; cases hp
    | cons q l ih =>
      intro hn p hp
      rw [List.map_cons, List.nodup_cons] at hn
      rcases List.mem_cons.mp hp with e | hp
      · subst e
        exact valV_pos rfl
      · rw [valV_neg (fun z => hn.1 (z ▸ List.mem_map.mpr ⟨p, hp, rfl⟩))]
        exact ih hn.2 p hp
  have ent : ∀ p ∈ kvs, ∃ (n : Nm) (b : Addr) (r : TRow), p = entN (n, b) ∧ f n = some r ∧ RowIs H (.ref b) r ∧ okS n.1 := fun p hp => by
    obtain ⟨n, e, ok⟩ := x.keys p hp
    have hv := val_mem x.nd p hp
    rw [e] at hv
    obtain ⟨r, h1, h2⟩ := x.some_of hv
    obtain ⟨b, hv', sv, eb, q⟩ := id h2
    exact ⟨n, b, r, Prod.ext e eb, h1, eb ▸ h2, ok⟩
  have mk : ∀ l : List (List Key × V), (∀ p ∈ l, p ∈ kvs) → ∃ ks : List (Nm × Addr), l = ks.map entN ∧ ∀ e ∈ ks, ∃ r, f e.1 = some r ∧ RowIs H (.ref e.2) r ∧ okS e.1.1 := by
    intro l
    induction l with
    | nil => intro _; exact ⟨[], rfl, fun _ h => (by cases h)⟩
    | cons p l ih =>
      intro h
      obtain ⟨ks, e, hk⟩ := ih fun q hq => h q (List.mem_cons_of_mem _ hq)
      obtain ⟨n, b, r, ep, h1⟩ := ent p (h p List.mem_cons_self)
      refine ⟨(n, b) :: ks, by rw [ep, e]; rfl, fun e' he' => ?_⟩
      rcases List.mem_cons.mp he' with e2 | he'
      · subst e2; exact ⟨r, h1⟩
      · exact hk e' he'
  obtain ⟨ks, e, hk⟩ := mk kvs fun _ h => h
  refine ⟨ks, e, ?_, hk, fun n r hr => ?_⟩
  · have h := x.nd
    rw [e, List.map_map] at h
    have h2 : ((ks.map (·.1)).map keyN).Nodup := by rw [List.map_map]; exact h
    unfold List.Nodup at h2 ⊢
    rw [List.pairwise_map] at h2
    exact List.Pairwise.imp (fun hne z => hne (by rw [z])) h2
  · have q := x.val n
    rw [hr] at q
    cases ev : valV kvs (keyN n) with
    | none => rw [ev] at q; exact q.elim
    | some v =>
      have hm := valV_in ev
      rw [e, List.map_map] at hm
      obtain ⟨p, hp, ep⟩ := List.mem_map.mp hm
      exact ⟨p.2, (keyN_inj (show keyN p.1 = keyN n from ep)) ▸ hp⟩

/-! ### trees -/
theorem kSL : ¬ (("spots" : Str) = "losers") := by decide +kernel
def flds (d l : Addr) : List (Str × V) := putF "losers" (.ref l) (putF "spots" (.ref d) [])
theorem flds_eq (d l : Addr) : flds d l = ([("spots", V.ref d), ("losers", V.ref l)] : List (Str × V)) := by
  show (if ("spots" : Str) = "losers" then [(("spots" : Str), V.ref l)] else (("spots" : Str), V.ref d) :: putF "losers" (V.ref l) []) = ([("spots", V.ref d), ("losers", V.ref l)] : List (Str × V))
  rw [if_neg kSL]
  all_goals rfl
theorem flds_spots (d l : Addr) : (flds d l).lookup ("spots" : Str) = some (.ref d) := by
  unfold flds
  rw [lookup_putF, if_neg kSL, lookup_putF, if_pos rfl]
theorem flds_losers (d l : Addr) : (flds d l).lookup ("losers" : Str) = some (.ref l) := by
  unfold flds
  rw [lookup_putF, if_pos rfl]
theorem flds_no (d l : Addr) {m : Str} (h1 : ¬ m = "losers") (h2 : ¬ m = "spots") : (flds d l).lookup m = none := by
  unfold flds
  rw [lookup_putF, if_neg h1, lookup_putF, if_neg h2]
  all_goals rfl
theorem flds_put (d l d' : Addr) : putF "spots" (.ref d') (flds d l) = flds d' l := by
  rw [flds_eq, flds_eq]
  show (if ("spots" : Str) = "spots" then (("spots" : Str), V.ref d') :: _ else _) = _
  rw [if_pos rfl]
theorem flds_put2 (d l l' : Addr) : putF "losers" (.ref l') (flds d l) = flds d l' := by
  rw [flds_eq, flds_eq]
  show (if ("spots" : Str) = "losers" then _ else (("spots" : Str), V.ref d) :: (if ("losers" : Str) = "losers" then [(("losers" : Str), V.ref l')] else _)) = _
  rw [if_neg kSL, if_pos rfl]
theorem flds_len (d l : Addr) : (flds d l).length < 1000 := by
  rw [flds_eq]
  show 2 < 1000
  decide
/-- a Tree stands at p, its dict at d, its list at l, it is what s tells, no more than n of each -/
structure TreeAt (C : Addr) (H : Hp) (p d l : Addr) (s : TSt) (n : Nat) : Prop where
  ob : ∃ dx, H p = some (.ins C dx (flds d l))
  dc : ∃ kvs, H d = some (.dT kvs) ∧ DictIs H kvs s.1 ∧ kvs.length ≤ n
  ls : ∃ vs, H l = some (.lst vs) ∧ NamesIs H vs s.2 ∧ vs.length ≤ n
theorem TreeAt.keep {C : Addr} {S : List Addr} {H H' : Hp} {p d l : Addr} {s : TSt} {n : Nat} (x : TreeAt C H p d l s n) (k : Kp S H H') (hp : p ∉ S) (hd : d ∉ S) (hl : l ∉ S) : TreeAt C H' p d l s n := by
  obtain ⟨⟨dx, h1⟩, ⟨kvs, h2, h3, h4⟩, vs, h5, h6, h7⟩ := x
  exact ⟨⟨dx, k.at' _ _ h1 hp⟩, ⟨kvs, k.at' _ _ h2 hd, h3.keep k.tp, h4⟩, vs, k.at' _ _ h5 hl, h6.keep k.tp, h7⟩
theorem TreeAt.same {C : Addr} {H H' : Hp} {p d l : Addr} {s : TSt} {n : Nat} (x : TreeAt C H p d l s n) (k : Kp [] H H') : TreeAt C H' p d l s n := x.keep k (by simp) (by simp) (by simp)
theorem TreeAt.le {C : Addr} {H : Hp} {p d l : Addr} {s : TSt} {n m : Nat} (x : TreeAt C H p d l s n) (h : n ≤ m) : TreeAt C H p d l s m := by
  obtain ⟨h1, ⟨kvs, h2, h3, h4⟩, vs, h5, h6, h7⟩ := x
  exact ⟨h1, ⟨kvs, h2, h3, by omega⟩, vs, h5, h6, by omega⟩
end CM
/-! The text by places, what the walk asks of the class and the module. -/
namespace CM
open PySem L2
def top (i : Nat) : Stmt := PySem.Challenge.pw_copymeet_k57_a_tree_filled.main.body.getD i (.Pass ⟨0, 0, 0, 0⟩)
abbrev sPlace : Stmt := top 3
abbrev sInit : Stmt := inClass (top 5) 0
abbrev sFill : Stmt := inClass (top 5) 1
abbrev sRows : Stmt := inClass (top 5) 2
abbrev sLostM : Stmt := inClass (top 5) 3
abbrev sKind : Stmt := inClass (top 5) 4
abbrev sRing : Stmt := inClass (top 5) 6
abbrev sFits : Stmt := inClass (top 5) 8
abbrev sPutAt : Stmt := inClass (top 5) 9
abbrev sHear : Stmt := inClass (top 5) 10
abbrev sCell : Stmt := top 7
abbrev sStream : Stmt := top 8
abbrev sHands : Stmt := top 9
abbrev sAct : Stmt := top 10
abbrev sDeeds : Stmt := top 11
abbrev sLaw : Stmt := top 12
/-- what the walk asks of the class and the module's names -/
structure Txt (K : PySem.W.Frag) (mg : Str → Option Value) (C R : Addr) : Prop where
  cl : Cls K C
  nS : NoAttr K C "spots"
  nL : NoAttr K C "losers"
  mgC : mg "Tree" = some (.ref C)
  mgR : mg "ROOT" = some (.ref R)
  rt : ∀ H, SqT K H R [V.str "", V.int 0]
  len : mg "len" = none
  list : mg "list" = none
  sorted : mg "sorted" = none
  range : mg "range" = none
  isi : mg "isinstance" = none
  str : mg "str" = none
theorem okMap : okS "map" := by decide +kernel
theorem okEmpty : okS "" := by decide +kernel
theorem root_dp {K : PySem.W.Frag} {mg : Str → Option Value} {C R : Addr} (T : Txt K mg C R) (H : Hp) : Dp K H (.ref R) (dN ROOT) := .tup (T.rt H) (.cons (.str _) (.cons (.int _) .nil))
/-- a dict's look-up by a name's tuple -/
theorem dget_nm {H : Hp} {d : Addr} {kvs : List (List Key × V)} {v : V} {n : Nm} (hd : H d = some (.dT kvs)) (hv : NameIs H v n) : DGet H d v (valV kvs (keyN n)) := by
  obtain ⟨a, rfl, h, _⟩ := hv
  exact DGet.t hd h
theorem dput_nm {H : Hp} {d : Addr} {kvs : List (List Key × V)} {v u : V} {n : Nm} (hd : H d = some (.dT kvs)) (hv : NameIs H v n) (hl : kvs.length < sizeLine) : DPut H d v u (upd H d (.dT (putK kvs (keyN n) u))) := by
  obtain ⟨a, rfl, h, _⟩ := hv
  exact DPut.t hd h hl
end CM
/-! place_of, __init__, kind_of, fits. -/
namespace CM
open PySem L2
section
variable {P : Program} {w : World} {K : PySem.W.Frag} {mg : Str → Option Value} {base : Heap}

/-! ### place_of -/
def spPlace : Sp := fun vs H Q _ => ∃ (sv nv : V) (u : List PyData) (side : Int) (n : Nm), vs = [sv, nv] ∧ SpotIs H sv (.pair u side) ∧ NameIs H nv n ∧
  ∀ (v : V) (H' : Hp), Kp [] H H' → Dt H' v (placed (.pair u side) n) → Q v H'
theorem scPlace : FnScope ["spot", "name", "under", "side"] ["spot", "name"] (defScope sPlace) := ⟨rfl, rfl, rfl, by decide +kernel, rfl, by decide +kernel, by decide +kernel⟩
theorem ok_place {f : Addr} {fd : FuncData} (F : Fun K "place_of" "place_of" sPlace f fd) : FnOk P w K mg base CX0 1 f fd ["spot", "name"] spPlace := by
  refine F.ok scPlace (fun vs H Q E h => ?_) (fun cdv A outer s H vs Q E hr h => ?_)
  · obtain ⟨sv, nv, u, side, n, rfl, _⟩ := h
    rfl
  · obtain ⟨sv, nv, u, side, n, rfl, hsp, hn, k⟩ := h
    obtain ⟨a, ua, us, rfl, ha, hua, hus, hdp, hne, hlen⟩ := hsp
    obtain ⟨b, rfl, hb, hok⟩ := hn
    -- under, side = spot; return under + ((side, name[0], name[1], 0),)
    refine ⟨_, pss_cons (ps_asg (pv 0) (pg_tup (by rfl) (pgs_cons (pg_name (i := 2) scPlace.nd rfl (Or.inl rfl)) (pgs_cons (pg_name (i := 3) scPlace.nd rfl (Or.inl rfl)) pgs_nil))))
      (pss_one (ps_ret (pe_op op_catT (pv 2) (pe_tup (pa_cons (pe_tup (pa_cons (pv 3) (pa_cons (pe_ix ix_tup (pv 1) pe_int (fun _ _ => rfl)) (pa_cons (pe_ix ix_tup (pv 1) pe_int (fun _ _ => rfl)) (pa_cons pe_int pa_nil))))) pa_nil))))), ?_⟩
    refine ⟨_, rfl, a, _, rfl, SqT.of ha, rfl, _, _, rfl, _, _, rfl, rfl, ?_⟩
    refine ⟨_, rfl, _, rfl, _, rfl, b, _, _, _, rfl, rfl, SqT.of hb, at_of (j := 0) rfl rfl, _, rfl, b, _, _, _, rfl, rfl, SqT.of hb, at_of (j := 1) rfl rfl, (by show 4 ≤ sizeLine; decide), fun p hp => ⟨(by show 1 ≤ sizeLine; decide), fun q hq => ?_⟩⟩
    have k1 : Kp [] H (upd H p (.tup [V.int side, V.str n.1, V.int n.2, V.int 0])) := Kp.new hp
    have k2 := k1.trans (Kp.new (S := []) (o := .tup [V.ref p]) hq)
    have hp2 : (upd (upd H p (.tup [V.int side, V.str n.1, V.int n.2, V.int 0])) q (.tup [V.ref p])) p = some (.tup [V.int side, V.str n.1, V.int n.2, V.int 0]) := (Kp.new (S := []) (o := .tup [V.ref p]) hq).tp p _ upd_same
    refine ⟨ua, q, us, [V.ref p], rfl, rfl, SqT.of (k2.tp _ _ hua), SqT.of upd_same, hne, (by show us.length + 1 ≤ sizeLine; exact small1000' (by omega)), (fun z => by cases z), fun _ r hr => k (.ref r) _ (k2.trans (Kp.new hr)) ?_⟩
    have t3 := (k2.trans (Kp.new (S := []) (o := .tup (us ++ [V.ref p])) hr)).tp
    have k3 : Tk (upd (upd H p (.tup [V.int side, V.str n.1, V.int n.2, V.int 0])) q (.tup [V.ref p])) _ := (Kp.new (S := []) (o := .tup (us ++ [V.ref p])) hr).tp
    exact .tup upd_same ((hus.keep t3).app (.cons (.tup (k3 _ _ hp2) (.cons (.int _) (.cons (.str hok) (.cons (.int _) (.cons (.int _) .nil))))) .nil))
theorem placed_depth {u : List PyData} {side : Int} {n : Nm} (h : PyData.depthAll u ≤ 2) : (placed (.pair u side) n).depth ≤ 8 := by
  show PyData.depthAll (u ++ _) + 1 ≤ 8
  rw [depthAll_app]
  have : PyData.depthAll [PyData.tuple [.int side, .str n.1, .int n.2, .int 0]] = 1 := rfl
  omega

/-! ### __init__ -/
def spInit (C : Addr) : Sp := fun vs H Q _ => ∃ (p dx : Addr), vs = [.ref p] ∧ H p = some (.ins C dx []) ∧
  ∀ (d l : Addr) (H' : Hp), TreeAt C H' p d l empty 0 → H d = none → H l = none → Kp [p] H H' → Q .non H'
theorem scInit : FnScope ["self"] ["self"] (defScope sInit) := ⟨rfl, rfl, rfl, by decide +kernel, rfl, by decide +kernel, by decide +kernel⟩
theorem ok_init {f C R : Addr} {fd : FuncData} (F : Fun K "__init__" "Tree.__init__" sInit f fd) (T : Txt K mg C R) : FnOk P w K mg base CX0 1 f fd ["self"] (spInit C) := by
  refine F.ok scInit (fun vs H Q E h => ?_) (fun cdv A outer s H vs Q E hr h => ?_)
  · obtain ⟨p, dx, rfl, _⟩ := h
    rfl
  · obtain ⟨p, dx, rfl, hp, k⟩ := h
    -- self.spots = {}; self.losers = []
    refine ⟨_, pss_cons (ps_fld (pv 0) pe_dnewT rfl) (pss_one (ps_fld (pv 0) (pe_lst pa_nil) rfl)), ?_⟩
    intro d hd
    have npd : p ≠ d := ne_of_none hp hd
    refine ⟨_, rfl, p, C, dx, [], rfl, (by rw [upd_ne npd]; exact hp), T.cl, T.nS, (by show 0 < 1000; decide), (by show 0 ≤ sizeLine; decide), fun l hl => ?_⟩
    have hd1 : (upd (upd H d (.dT [])) p (.ins C dx (putF "spots" (.ref d) []))) d = some (.dT []) := by rw [upd_ne npd.symm, upd_same]
    have npl : p ≠ l := ne_of_none (upd_same (H := upd H d (.dT [])) (a := p) (o := .ins C dx (putF "spots" (.ref d) []))) hl
    have ndl : d ≠ l := ne_of_none hd1 hl
    refine ⟨_, rfl, p, C, dx, _, rfl, (by rw [upd_ne npl]; exact upd_same), T.cl, T.nL, (by show 1 < 1000; decide), ?_⟩
    have k1 : Kp [p] H (upd H d (.dT [])) := Kp.new hd
    have k2 : Kp [p] H (upd (upd H d (.dT [])) p (.ins C dx (putF "spots" (.ref d) []))) := k1.trans (Kp.set (o := .ins C dx []) (by rw [upd_ne npd]; exact hp) (fun xs z => by cases z) (by simp))
    have k3 := k2.trans (Kp.new (o := .lst []) hl)
    have k4 := k3.trans (Kp.set (S := [p]) (p := p) (o := .ins C dx (putF "spots" (.ref d) [])) (o' := .ins C dx (flds d l)) (by rw [upd_ne npl]; exact upd_same) (fun xs z => by cases z) (by simp))
    refine k d l _ ⟨⟨dx, upd_same⟩, ⟨[], ?_, .empty _, Nat.le_refl _⟩, [], ?_, .nil, Nat.le_refl _⟩ hd ?_ k4
    · rw [upd_ne npd.symm, upd_ne ndl]; exact hd1
    · rw [upd_ne npl.symm, upd_same]
    · exact k2.free hl

/-! ### kind_of -/
def KindV (v : V) : Option Str → Prop
  | some k => v = .str k ∧ okS k
  | none => v = .non
def dK (o : Option Str) : PyData := match o with
  | some k => .str k
  | none => .none
theorem KindV.dp {K : PySem.W.Frag} {H : Hp} {v : V} {o : Option Str} (h : KindV v o) : Dp K H v (dK o) := by
  cases o with
  | none => cases (show v = .non from h); exact .non
  | some k => obtain ⟨rfl, _⟩ := h; exact .str k
theorem KindV.shaped {v : V} {o : Option Str} (h : KindV v o) : SeqAt.shaped (dK o) = true := by
  cases o with
  | none => decide
  | some k => exact shaped_of h.2 (Nat.zero_le _)
theorem dK_eqv (o : Option Str) (k : Str) : PyData.eqv (dK o) (.str k) = decide (o = some k) := by
  cases o with
  | none => simp [dK, PyData.eqv]
  | some j =>
    by_cases e : j = k
    · subst e; simp [dK, PyData.eqv]
    · simp [dK, PyData.eqv, e]
def spKind (C : Addr) : Sp := fun vs H Q _ => ∃ (p d l : Addr) (tv : V) (t : Nm) (s : TSt) (n : Nat), vs = [.ref p, tv] ∧ TreeAt C H p d l s n ∧ NameIs H tv t ∧ ∀ v, KindV v (kindOf s.1 t) → Q v H
theorem scKind : FnScope ["self", "thing"] ["self", "thing"] (defScope sKind) := ⟨rfl, rfl, rfl, by decide +kernel, rfl, by decide +kernel, by decide +kernel⟩
theorem ok_kind {f C R : Addr} {fd : FuncData} (F : Fun K "kind_of" "Tree.kind_of" sKind f fd) (T : Txt K mg C R) : FnOk P w K mg base CX0 1 f fd ["self", "thing"] (spKind C) := by
  refine F.ok scKind (fun vs H Q E h => ?_) (fun cdv A outer s H vs Q E hr h => ?_)
  · obtain ⟨p, d, l, tv, t, st, n, rfl, _⟩ := h
    rfl
  · obtain ⟨p, d, l, tv, t, st, n, rfl, D, ht, k⟩ := h
    have hu := hu_of hr
    obtain ⟨⟨dx, hp⟩, ⟨kvs, hd, hdi, hln⟩, _⟩ := id D
    refine ⟨_, pss_cons (ps_if (pt_cmpR (op_eqD hr.units) (pv 1) (pe_glob (v := .ref R) rfl T.mgR rfl) (nomark _)) (pss_one (ps_ret pe_str)) pss_nil)
      (pss_cons (ps_if (pt_cmp (pc_din hu (pv 1) (pe_fld (pv 0) rfl))) (pss_one (ps_ret (pe_ix ix_tup (pe_dget hu (pe_fld (pv 0) rfl) (pv 1) (fun _ _ => rfl)) pe_int (fun _ _ => rfl)))) pss_nil)
      (pss_one (ps_ret pe_non))), ?_⟩
    have hok : okS t.1 := by obtain ⟨_, _, _, z⟩ := ht; exact z
    refine ⟨_, rfl, dN t, dN ROOT, ht.dt.dp, root_dp T H, dN_shaped hok, dN_shaped okEmpty, _, rfl, ?_⟩
    rw [dN_eqv]
    refine ite2 (fun e => ?_) (fun e => ?_)
    · have e' : t = ROOT := of_decide_eq_true e
      refine k _ ?_
      unfold kindOf
      rw [if_pos e']
      exact ⟨rfl, okMap⟩
    · have e' : ¬ t = ROOT := fun z => e (decide_eq_true z)
      refine ⟨_, rfl, _, rfl, p, C, dx, _, _, rfl, hp, T.cl, T.nS, flds_spots _ _, d, _, rfl, dget_nm hd ht, _, rfl, ?_⟩
      cases ev : valV kvs (keyN t) with
      | some v =>
        refine iteT ?_
        obtain ⟨r, hr1, a, hv, sv, rfl, ha, hk, _⟩ := hdi.some_of ev
        refine ⟨_, rfl, p, C, dx, _, _, rfl, hp, T.cl, T.nS, flds_spots _ _, _, rfl, d, _, rfl, ev ▸ dget_nm hd ht, a, _, _, _, rfl, rfl, SqT.of ha, at_of (j := 0) rfl rfl, ?_⟩
        refine k _ ?_
        unfold kindOf
        rw [if_neg e', hr1]
        exact ⟨rfl, hk⟩
      | none =>
        refine iteF ?_
        refine k _ ?_
        unfold kindOf
        rw [if_neg e', hdi.none_of ev]
        rfl
end
end CM
/-! fits, ring, put_at. -/
namespace CM
open PySem L2
section
variable {P : Program} {w : World} {K : PySem.W.Frag} {mg : Str → Option Value} {base : Heap}

/-! ### isinstance(spot, str) -/
theorem spot_ty {H : Hp} {v : V} {sp : Spot} (h : SpotIs H v sp) : ∃ t b, TyX K H v t ∧ PySem.W.kitOne K t (.type "str") = some b ∧ (b = true ↔ ∃ s, sp = .key s) := by
  cases sp with
  | key s =>
    obtain ⟨rfl, _⟩ := h
    exact ⟨_, true, .base (.str s), kit_ty (by decide +kernel), ⟨fun _ => ⟨s, rfl⟩, fun _ => rfl⟩⟩
  | pair u side =>
    obtain ⟨a, ua, us, rfl, h1, _⟩ := h
    exact ⟨_, false, .base (.tup h1), kit_ty (by decide +kernel), ⟨fun z => (by cases z), fun z => (by obtain ⟨s, z⟩ := z; cases z)⟩⟩

/-! ### fits -/
theorem fits_key {f : Fm} {h : Nm} {s : Str} : fits f h (.key s) ↔ kindOf f h = some "map" := Iff.rfl
theorem fits_pair {f : Fm} {h : Nm} {u : List PyData} {z : Int} : fits f h (.pair u z) ↔ kindOf f h = some "row" := Iff.rfl
def spFits (C : Addr) : Sp := fun vs H Q _ => ∃ (p d l : Addr) (hv pv : V) (h : Nm) (sp : Spot) (s : TSt) (n : Nat), vs = [.ref p, hv, pv] ∧ TreeAt C H p d l s n ∧ NameIs H hv h ∧ SpotIs H pv sp ∧ ∀ b : Bool, (b = true ↔ fits s.1 h sp) → Q (.bl b) H
theorem scFits : FnScope ["self", "holder", "spot"] ["self", "holder", "spot"] (defScope sFits) := ⟨rfl, rfl, rfl, by decide +kernel, rfl, by decide +kernel, by decide +kernel⟩
theorem ok_fits {f fK C R : Addr} {fd fdK : FuncData} (F : Fun K "fits" "Tree.fits" sFits f fd) (T : Txt K mg C R) (GK : FnOk P w K mg base CX0 1 fK fdK ["self", "thing"] (spKind C)) (bK : Binds K fdK ["self", "thing"] []) (mK : Meth K C "kind_of" fK) :
    FnOk P w K mg base CX0 2 f fd ["self", "holder", "spot"] (spFits C) := by
  refine F.ok scFits (fun vs H Q E h => ?_) (fun cdv A outer s H vs Q E hr h => ?_)
  · obtain ⟨p, d, l, hv, pv, hd, sp, st, n, rfl, _⟩ := h
    rfl
  · obtain ⟨p, d, l, hv, pv', hd, sp, st, n, rfl, D, hh, hs, k⟩ := h
    obtain ⟨⟨dx, hp⟩, _⟩ := id D
    refine ⟨_, pss_cons (ps_if (pt_val (pe_callB call_isi (by rfl) T.isi (by decide +kernel) (pa_cons (pv 2) (pa_cons (pe_bltn (v := .ty "str") (by rfl) T.str (by decide +kernel) rfl) pa_nil))))
        (pss_one (ps_ret (pe_cmpR (op_eqD hr.units) (pe_meth (pv 0) T.cl mK GK hr bK .nil pass0 (pa_cons (pv 1) pa_nil)) pe_str (nomark _)))) pss_nil)
      (pss_one (ps_ret (pe_cmpR (op_eqD hr.units) (pe_meth (pv 0) T.cl mK GK hr bK .nil pass0 (pa_cons (pv 1) pa_nil)) pe_str (nomark _)))), ?_⟩
    obtain ⟨t, b, ty, kit, hb⟩ := spot_ty (K := K) hs
    refine ⟨_, rfl, _, _, t, _, b, rfl, .ty "str", ty, kit, _, rfl, ?_⟩
    cases b with
    | true =>
      obtain ⟨sk, rfl⟩ := hb.mp rfl
      refine iteT ?_
      refine ⟨_, rfl, p, dx, _, rfl, hp, flds_no _ _ (by decide +kernel) (by decide +kernel), _, rfl, p, d, l, hv, hd, st, n, rfl, D, hh, fun v kv => ?_⟩
      refine ⟨dK (kindOf st.1 hd), .str "map", kv.dp, .str _, kv.shaped, shaped_of okMap (Nat.zero_le _), ?_⟩
      rw [dK_eqv]
      exact k _ (by rw [fits_key]; exact decide_eq_true_iff)
    | false =>
      refine iteF ?_
      refine ⟨_, rfl, p, dx, _, rfl, hp, flds_no _ _ (by decide +kernel) (by decide +kernel), _, rfl, p, d, l, hv, hd, st, n, rfl, D, hh, fun v kv => ?_⟩
      refine ⟨dK (kindOf st.1 hd), .str "row", kv.dp, .str _, kv.shaped, shaped_of (by decide +kernel) (Nat.zero_le _), ?_⟩
      rw [dK_eqv]
      refine k _ ?_
      cases sp with
      | key s => exact absurd (hb.mpr ⟨s, rfl⟩) (by simp)
      | pair u z => rw [fits_pair]; exact decide_eq_true_iff

/-! ### ring -/
def spRing (C : Addr) : Sp := fun vs H Q _ => ∃ (p d l : Addr) (tv hv : V) (t h : Nm) (s : TSt) (n : Nat), vs = [.ref p, tv, hv] ∧ TreeAt C H p d l s n ∧ n ≤ 1000 ∧ Good s.1 ∧ NameIs H tv t ∧ NameIs H hv h ∧
  ∀ (q : Addr) (ws : List V) (ns : List Nm) (H' : Hp), Kp [] H H' → H' q = some (.lst ws) → NamesIs H' ws ns → (ns ≠ [] ↔ Up s.1 t h) → Q (.ref q) H'
theorem scRing : FnScope ["self", "thing", "holder", "way"] ["self", "thing", "holder"] (defScope sRing) := ⟨rfl, rfl, rfl, by decide +kernel, rfl, by decide +kernel, by decide +kernel⟩
/-- where the way stands: at a name, its steps left; or at an end -/
def WayAt (f : Fm) (t h : Nm) (m : Nat) : Option Nm → Prop
  | some y => FinN f m y ∧ (Up f t h ↔ Up f t y)
  | none => ¬ Up f t h
theorem ok_ring {f C R : Addr} {fd : FuncData} (F : Fun K "ring" "Tree.ring" sRing f fd) (T : Txt K mg C R) : FnOk P w K mg base CX0 1 f fd ["self", "thing", "holder"] (spRing C) := by
  refine F.ok scRing (fun vs H Q E h => ?_) (fun cdv A outer s H vs Q E hr h => ?_)
  · obtain ⟨p, d, l, tv, hv, t, hd, st, n, rfl, _⟩ := h
    rfl
  · obtain ⟨p, d, l, tv, hv, t, h, st, n, rfl, D, hn, G, ht, hh, k⟩ := h
    have hu := hu_of hr
    obtain ⟨⟨dx, hp⟩, ⟨kvs, hd, hdi, hln⟩, _⟩ := id D
    have okt : okS t.1 := by obtain ⟨_, _, _, z⟩ := ht; exact z
    refine ⟨_, pss_cons (ps_set (i := 3) scRing.nd rfl (Or.inl rfl) (pe_lst pa_nil))
      (pss_cons (ps_while PassesOwn.never (pt_cmp (pc_notN (pv 2)))
        (pss_cons (ps_expr (pe_bm PySem.F.plainAttrs_list PySem.F.slot_list_append PySem.F.type_list_append mt_append (pv 3) (pa_cons (pv 2) pa_nil)))
        (pss_cons (ps_if (pt_cmpR (op_eqD hr.units) (pv 2) (pv 1) (nomark _)) (pss_one (ps_ret (pv 3))) pss_nil)
        (pss_cons (ps_if (pt_cmp (pc_dnotin hu (pv 2) (pe_fld (pv 0) rfl))) (pss_one (ps_ret (pe_lst pa_nil))) pss_nil)
        (pss_one (ps_set (i := 2) scRing.nd rfl (Or.inl rfl) (pe_ix ix_tup (pe_dget hu (pe_fld (pv 0) rfl) (pv 2) (fun _ _ => rfl)) pe_int (fun _ _ => rfl))))))))
      (pss_one (ps_ret (pe_lst pa_nil)))), ?_⟩
    refine ⟨(by show 0 ≤ sizeLine; decide), fun q hq => ?_⟩
    refine ⟨fun m σ H' => ∃ (hv' : V) (ho : Option Nm) (ws : List V) (ns : List Nm), σ = [some (.ref p), some tv, some hv', some (.ref q)] ∧ Kp [] H H' ∧ H' q = some (.lst ws) ∧ NamesIs H' ws ns ∧ HoldIs H' hv' ho ∧ ws.length + m ≤ n + 2 ∧ WayAt st.1 t h m ho, ⟨n + 1, ?_⟩, ?_⟩
    · refine ⟨hv, some h, [], [], rfl, Kp.new hq, upd_same, .nil, hh.keep (Kp.new (S := []) hq).tp, (by show 0 + (n + 1) ≤ n + 2; omega), ?_, Iff.rfl⟩
      obtain ⟨ks, e, _, _, hks⟩ := hdi.list
      refine finN_of n (ks.map (·.1)) h ?_ (G.fin h) fun y _ hy => ?_
      · rw [e, List.length_map] at hln
        rw [List.length_map]
        exact hln
      · obtain ⟨r, hy⟩ := hy
        obtain ⟨b, hb⟩ := hks y r hy
        exact List.mem_map.mpr ⟨_, hb, rfl⟩
    · rintro m σ H' ⟨hv', ho, ws, ns, rfl, k1, hq1, hns, hho, hm, hw⟩
      refine ⟨_, rfl, _, rfl, ?_⟩
      cases ho with
      | none =>
        cases (show hv' = .non from hho)
        refine iteNS rfl ?_
        refine ⟨(by show 0 ≤ sizeLine; decide), fun q2 hq2 => ?_⟩
        exact k q2 [] [] _ (k1.trans (Kp.new hq2)) upd_same .nil ⟨fun z => absurd rfl z, fun z => absurd z hw⟩
      | some y =>
        have hy : NameIs H' hv' y := hho
        obtain ⟨hw1, hw2⟩ := hw
        obtain ⟨m', rfl, hst⟩ := hw1.step
        refine iteY (by obtain ⟨a, rfl, _⟩ := hy; simp) ?_
        have oky : okS y.1 := by obtain ⟨_, _, _, z⟩ := hy; exact z
        refine ⟨fun σ' H2 => ∃ (hv' : V) (ho : Option Nm) (ws : List V) (ns : List Nm), σ' = [some (.ref p), some tv, some hv', some (.ref q)] ∧ Kp [] H H2 ∧ H2 q = some (.lst ws) ∧ NamesIs H2 ws ns ∧ HoldIs H2 hv' ho ∧ ws.length + m' ≤ n + 2 ∧ WayAt st.1 t h m' ho, fun σ' H2 z => ⟨m', by omega, z⟩, ?_⟩
        -- way.append(holder)
        refine ⟨_, rfl, .inl ⟨rfl, _, SqL.of hq1⟩, _, rfl, q, ws, _, rfl, rfl, hq1, Nat.lt_of_le_of_lt (show ws.length ≤ 1001 by omega) (by decide), ?_⟩
        have tq : Tk H' (upd H' q (.lst (ws ++ [hv']))) := (Kp.set (S := [q]) hq1 (fun xs z => by cases z) (by simp)).tp
        have k2 : Kp [] H (upd H' q (.lst (ws ++ [hv']))) := k1.over hq
        have hns2 : NamesIs (upd H' q (.lst (ws ++ [hv']))) (ws ++ [hv']) (ns ++ [y]) := Paired.snoc (hns.keep tq) (hy.keep tq)
        have ht2 := ht.keep k2.tp
        have hy2 := hy.keep tq
        have D2 := D.same k2
        generalize hH3 : upd H' q (.lst (ws ++ [hv'])) = H3 at k2 hns2 ht2 hy2 D2
        have hq3 : H3 q = some (.lst (ws ++ [hv'])) := by rw [← hH3, upd_same]
        obtain ⟨⟨dx3, hp3⟩, ⟨kvs3, hd3, hdi3, _⟩, _⟩ := id D2
        -- if holder == thing
        refine ⟨_, rfl, _, rfl, dN y, dN t, hy2.dt.dp, ht2.dt.dp, dN_shaped oky, dN_shaped okt, _, rfl, ?_⟩
        rw [dN_eqv]
        refine ite2 (fun e => ?_) (fun e => ?_)
        · have e' : y = t := of_decide_eq_true e
          refine ⟨_, rfl, ?_⟩
          exact k q _ _ _ k2 hq3 hns2 ⟨fun _ => hw2.mpr (e' ▸ .here), fun _ => by simp⟩
        · have e' : ¬ y = t := fun z => e (decide_eq_true z)
          -- if holder not in self.spots
          refine ⟨_, rfl, _, rfl, p, C, dx3, _, _, rfl, hp3, T.cl, T.nS, flds_spots _ _, d, _, rfl, dget_nm hd3 hy2, _, rfl, ?_⟩
          cases ev : valV kvs3 (keyN y) with
          | none =>
            refine iteT ?_
            refine ⟨(by show 0 ≤ sizeLine; decide), fun q2 hq2 => ?_⟩
            refine k q2 [] [] _ (k2.trans (Kp.new hq2)) upd_same .nil ⟨fun z => absurd rfl z, fun z => ?_⟩
            exact absurd (up_none (hw2.mp z) (hdi3.none_of ev)) e'
          | some v =>
            refine iteF ?_
            obtain ⟨r, hr1, a, hv2, sv, rfl, ha, hk, hhold, _⟩ := hdi3.some_of ev
            refine ⟨_, rfl, p, C, dx3, _, _, rfl, hp3, T.cl, T.nS, flds_spots _ _, _, rfl, d, _, rfl, ev ▸ dget_nm hd3 hy2, a, _, _, _, rfl, rfl, SqT.of ha, at_of (j := 1) rfl rfl, ?_⟩
            refine ⟨hv2, r.holder, _, _, rfl, k2, hq3, hns2, hhold, ?_, ?_⟩
            · rw [List.length_append]
              show ws.length + 1 + m' ≤ n + 2
              omega
            · cases eh : r.holder with
              | none =>
                intro z
                cases hw2.mp z with
                | here => exact e' rfl
                | up e1 e2 u =>
                  rw [hr1] at e1
                  cases e1
                  rw [eh] at e2
                  cases e2
              | some z =>
                refine ⟨hst r z hr1 eh, hw2.trans ⟨fun u => ?_, fun u => .up hr1 eh u⟩⟩
                cases u with
                | here => exact absurd rfl e'
                | up e1 e2 u =>
                  rw [hr1] at e1
                  cases e1
                  rw [eh] at e2
                  cases e2
                  exact u
end
end CM
/-! put_at, hear. -/
namespace CM
open PySem L2

/-- a row's tuple laid, then stored at a name -/
theorem put_heap {C : Addr} {H : Hp} {p d l q dx : Addr} {s : TSt} {n : Nat} {kvs : List (List Key × V)} {tv hv sv : V} {t : Nm} {r : TRow} (D : TreeAt C H p d l s n)
    (hd : H d = some (.dT kvs)) (hdi : DictIs H kvs s.1) (hln : kvs.length ≤ n) (ht : NameIs H tv t) (hk : okS r.kind) (hh : HoldIs H hv r.holder) (hs : Dt H sv r.spot) (hdp : r.spot.depth ≤ 8) (hq : H q = none) :
    TreeAt C (upd (upd H q (.tup [.str r.kind, hv, sv])) d (.dT (putK kvs (keyN t) (.ref q)))) p d l (setF s.1 t r, s.2) (n + 1) ∧ Kp [d] H (upd (upd H q (.tup [.str r.kind, hv, sv])) d (.dT (putK kvs (keyN t) (.ref q)))) := by
  obtain ⟨⟨dx, hp⟩, _, ws, hl, hls, hlw⟩ := D
  have k1 : Kp [d] H (upd H q (.tup [.str r.kind, hv, sv])) := Kp.new hq
  have hd1 : (upd H q (.tup [.str r.kind, hv, sv])) d = some (.dT kvs) := by rw [upd_ne (ne_of_none hd hq)]; exact hd
  have k2 : Kp [d] (upd H q (.tup [.str r.kind, hv, sv])) (upd (upd H q (.tup [.str r.kind, hv, sv])) d (.dT (putK kvs (keyN t) (.ref q)))) := Kp.set hd1 (fun xs z => by cases z) (by simp)
  have k3 := k1.trans k2
  have npd : p ≠ d := ne_of hp hd (by intro z; cases z)
  have nld : l ≠ d := ne_of hl hd (by intro z; cases z)
  have okt : okS t.1 := by obtain ⟨_, _, _, z⟩ := ht; exact z
  refine ⟨⟨⟨dx, k3.at' _ _ hp (by simpa using npd)⟩, ⟨_, upd_same, ?_, ?_⟩, ws, k3.at' _ _ hl (by simpa using nld), hls.keep k3.tp, by omega⟩, k3⟩
  · exact (hdi.keep k3.tp).put ⟨q, hv, sv, rfl, k2.tp _ _ upd_same, hk, hh.keep k3.tp, hs.keep k3.tp, hdp⟩ okt
  · have := length_putK kvs (keyN t) (V.ref q)
    omega

section
variable {P : Program} {w : World} {K : PySem.W.Frag} {mg : Str → Option Value} {base : Heap}
/-! ### put_at -/
def spPut (C : Addr) : Sp := fun vs H Q _ => ∃ (p d l : Addr) (tv hv pv nv : V) (t h nm : Nm) (kd : Str) (sp : Spot) (s : TSt) (n : Nat), vs = [.ref p, tv, .str kd, hv, pv, nv] ∧ TreeAt C H p d l s n ∧ n ≤ 1000 ∧
  NameIs H tv t ∧ okS kd ∧ NameIs H hv h ∧ SpotIs H pv sp ∧ NameIs H nv nm ∧
  ∀ H' : Hp, TreeAt C H' p d l (setF s.1 t ⟨kd, some h, placed sp nm⟩, s.2) (n + 1) → Kp [d] H H' → Q .non H'
theorem scPut : FnScope ["self", "thing", "kind", "holder", "spot", "name"] ["self", "thing", "kind", "holder", "spot", "name"] (defScope sPutAt) := ⟨rfl, rfl, rfl, by decide +kernel, rfl, by decide +kernel, by decide +kernel⟩
theorem ok_put {f fP C R : Addr} {fd fdP : FuncData} (F : Fun K "put_at" "Tree.put_at" sPutAt f fd) (T : Txt K mg C R) (GP : FnOk P w K mg base CX0 1 fP fdP ["spot", "name"] spPlace) (bP : Binds K fdP ["spot", "name"] []) (mP : mg "place_of" = some (.ref fP)) (kP : PySem.W.keepIn K (.ref fP) = true) :
    FnOk P w K mg base CX0 2 f fd ["self", "thing", "kind", "holder", "spot", "name"] (spPut C) := by
  refine F.ok scPut (fun vs H Q E h => ?_) (fun cdv A outer s H vs Q E hr h => ?_)
  · obtain ⟨p, d, l, tv, hv, pv, nv, t, hd, nm, kd, sp, st, n, rfl, _⟩ := h
    rfl
  · obtain ⟨p, d, l, tv, hv, pv', nv, t, h, nm, kd, sp, st, n, rfl, D, hn, ht, hk, hh, hs, hnm, k⟩ := h
    have hu := hu_of hr
    refine ⟨_, pss_cons (ps_if (pt_not (pt_val (pe_callB call_isi (by rfl) T.isi (by decide +kernel) (pa_cons (pv 4) (pa_cons (pe_bltn (v := .ty "str") (by rfl) T.str (by decide +kernel) rfl) pa_nil)))))
        (pss_one (ps_set (i := 4) scPut.nd rfl (Or.inl rfl) (pe_call GP hr rfl mP kP bP .nil pass0 (pa_cons (pv 4) (pa_cons (pv 5) pa_nil))))) pss_nil)
      (pss_one (ps_dput hu (pe_fld (pv 0) rfl) (pv 1) (pe_tup (pa_cons (pv 2) (pa_cons (pv 3) (pa_cons (pv 4) pa_nil)))) rfl)), ?_⟩
    obtain ⟨ty0, b, ty, kit, hb⟩ := spot_ty (K := K) hs
    refine ⟨_, rfl, _, _, ty0, _, b, rfl, .ty "str", ty, kit, _, rfl, ?_⟩
    cases b with
    | true =>
      obtain ⟨sk, rfl⟩ := hb.mp rfl
      obtain ⟨rfl, hsk⟩ := hs
      obtain ⟨⟨dx, hp⟩, ⟨kvs, hd, hdi, hln⟩, _⟩ := id D
      refine iteF ?_
      refine ⟨_, rfl, _, rfl, _, rfl, (by show 3 ≤ sizeLine; decide), fun q hq => ?_⟩
      have npq : p ≠ q := ne_of_none hp hq
      have k1 : Kp [] H (upd H q (.tup [.str kd, hv, .str sk])) := Kp.new hq
      refine ⟨_, rfl, p, C, dx, _, _, rfl, k1.same _ _ hp, T.cl, T.nS, flds_spots _ _, _, rfl, d, _, rfl, dput_nm (k1.same _ _ hd) (ht.keep k1.tp) (Nat.lt_of_le_of_lt (show kvs.length ≤ 1000 by omega) (by decide)), ?_⟩
      obtain ⟨D2, k2⟩ := put_heap (dx := dx) (r := ⟨kd, some h, placed (.key sk) nm⟩) D hd hdi hln ht hk hh (.str hsk) (Nat.zero_le _) hq
      exact k _ D2 k2
    | false =>
      cases sp with
      | key s => exact absurd (hb.mpr ⟨s, rfl⟩) (by simp)
      | pair u side =>
        refine iteT ?_
        have hdep : PyData.depthAll u ≤ 2 := by obtain ⟨_, _, _, _, _, _, _, z, _⟩ := hs; exact z
        refine ⟨_, rfl, _, rfl, pv', nv, u, side, nm, rfl, hs, hnm, fun sv H1 k1 hsv => ?_⟩
        have D1 := D.same k1
        obtain ⟨⟨dx, hp⟩, ⟨kvs, hd, hdi, hln⟩, _⟩ := id D1
        refine ⟨_, rfl, _, rfl, _, rfl, (by show 3 ≤ sizeLine; decide), fun q hq => ?_⟩
        have k2 : Kp [] H1 (upd H1 q (.tup [.str kd, hv, sv])) := Kp.new hq
        refine ⟨_, rfl, p, C, dx, _, _, rfl, k2.same _ _ hp, T.cl, T.nS, flds_spots _ _, _, rfl, d, _, rfl, dput_nm (k2.same _ _ hd) ((ht.keep k1.tp).keep k2.tp) (Nat.lt_of_le_of_lt (show kvs.length ≤ 1000 by omega) (by decide)), ?_⟩
        obtain ⟨D2, k3⟩ := put_heap (dx := dx) (r := ⟨kd, some h, placed (.pair u side) nm⟩) D1 hd hdi hln (ht.keep k1.tp) hk (NameIs.keep hh k1.tp) hsv (placed_depth hdep) hq
        exact k _ D2 ((k1.mono (by simp)).trans k3)
end
end CM
/-! hear. -/
namespace CM
open PySem L2
theorem iteN {c A B : Prop} [Decidable c] (hc : ¬ c) (h : B) : if c then A else B := by
  rw [if_neg hc]
  exact h
section
variable {P : Program} {w : World} {K : PySem.W.Frag} {mg : Str → Option Value} {base : Heap}
def spHear (C : Addr) : Sp := fun vs H Q _ => ∃ (p d l : Addr) (dv : V) (e : Deed) (s : TSt) (n : Nat), vs = [.ref p, dv] ∧ TreeAt C H p d l s n ∧ n ≤ 1000 ∧ DeedIs H dv e ∧ Good s.1 ∧
  ∀ H' : Hp, TreeAt C H' p d l (tstep s e).2 (n + 1) → Kp [d, l] H H' → Q (.str (tstep s e).1) H'
theorem scHear : FnScope ["self", "deed", "name", "act", "kind"] ["self", "deed"] (defScope sHear) := ⟨rfl, rfl, rfl, by decide +kernel, rfl, by decide +kernel, by decide +kernel⟩
theorem ok_hear {f fF fP fR C R : Addr} {fd fdF fdP fdR : FuncData} (F : Fun K "hear" "Tree.hear" sHear f fd) (T : Txt K mg C R)
    (GF : FnOk P w K mg base CX0 2 fF fdF ["self", "holder", "spot"] (spFits C)) (bF : Binds K fdF ["self", "holder", "spot"] []) (mF : Meth K C "fits" fF)
    (GP : FnOk P w K mg base CX0 2 fP fdP ["self", "thing", "kind", "holder", "spot", "name"] (spPut C)) (bP : Binds K fdP ["self", "thing", "kind", "holder", "spot", "name"] []) (mP : Meth K C "put_at" fP)
    (GR : FnOk P w K mg base CX0 1 fR fdR ["self", "thing", "holder"] (spRing C)) (bR : Binds K fdR ["self", "thing", "holder"] []) (mR : Meth K C "ring" fR) :
    FnOk P w K mg base CX0 3 f fd ["self", "deed"] (spHear C) := by
  refine F.ok scHear (fun vs H Q E h => ?_) (fun cdv A outer s H vs Q E hr h => ?_)
  · obtain ⟨p, d, l, dv, e, st, n, rfl, _⟩ := h
    rfl
  · obtain ⟨p, d, l, dv, e, st, n, rfl, D, hn, he, G, k⟩ := h
    have hu := hu_of hr
    have hr1 : Room 1 _ := hr.mono (by decide)
    refine ⟨_, pss_cons (ps_set (i := 2) scHear.nd rfl (Or.inl rfl) (pe_ix ix_tup (pv 1) pe_int (fun _ _ => rfl)))
      (pss_cons (ps_set (i := 3) scHear.nd rfl (Or.inl rfl) (pe_ix ix_tup (pv 1) pe_int (fun _ _ => rfl)))
      (pss_cons (ps_if (pt_cmpR op_eq (pe_ix ix_tup (pv 3) pe_int (fun _ _ => rfl)) pe_str (nomark _))
        (pss_cons (ps_if (pt_not (pt_val (pe_meth (pv 0) T.cl mF GF hr bF .nil pass0 (pa_cons (pe_ix ix_tup (pv 3) pe_int (fun _ _ => rfl)) (pa_cons (pe_ix ix_tup (pv 3) pe_int (fun _ _ => rfl)) pa_nil))))) (pss_one (ps_ret pe_str)) pss_nil)
        (pss_cons (ps_expr (pe_meth (pv 0) T.cl mP GP hr bP .nil pass0 (pa_cons (pv 2) (pa_cons (pe_ix ix_tup (pv 3) pe_int (fun _ _ => rfl)) (pa_cons (pe_ix ix_tup (pv 3) pe_int (fun _ _ => rfl)) (pa_cons (pe_ix ix_tup (pv 3) pe_int (fun _ _ => rfl)) (pa_cons (pv 2) pa_nil)))))))
        (pss_one (ps_ret pe_str)))) pss_nil)
      (pss_cons (ps_if (pt_cmp (pc_dnotin hu (pe_ix ix_tup (pv 3) pe_int (fun _ _ => rfl)) (pe_fld (pv 0) rfl))) (pss_one (ps_ret pe_str)) pss_nil)
      (pss_cons (ps_set (i := 4) scHear.nd rfl (Or.inl rfl) (pe_ix ix_tup (pe_dget hu (pe_fld (pv 0) rfl) (pe_ix ix_tup (pv 3) pe_int (fun _ _ => rfl)) (fun _ _ => rfl)) pe_int (fun _ _ => rfl)))
      (pss_cons (ps_if (pt_cmpR op_eq (pe_ix ix_tup (pv 3) pe_int (fun _ _ => rfl)) pe_str (nomark _))
        (pss_cons (ps_dput hu (pe_fld (pv 0) rfl) (pe_ix ix_tup (pv 3) pe_int (fun _ _ => rfl)) (pe_tup (pa_cons (pv 4) (pa_cons pe_non (pa_cons pe_non pa_nil)))) rfl)
        (pss_one (ps_ret pe_str))) pss_nil)
      (pss_cons (ps_if (pt_not (pt_val (pe_meth (pv 0) T.cl mF GF hr bF .nil pass0 (pa_cons (pe_ix ix_tup (pv 3) pe_int (fun _ _ => rfl)) (pa_cons (pe_ix ix_tup (pv 3) pe_int (fun _ _ => rfl)) pa_nil))))) (pss_one (ps_ret pe_str)) pss_nil)
      (pss_cons (ps_if (pt_cmpR (op_neD hr.units) (pe_meth (pv 0) T.cl mR GR hr1 bR .nil pass0 (pa_cons (pe_ix ix_tup (pv 3) pe_int (fun _ _ => rfl)) (pa_cons (pe_ix ix_tup (pv 3) pe_int (fun _ _ => rfl)) pa_nil))) (pe_lst pa_nil) (nomark _))
        (pss_cons (ps_expr (pe_bm PySem.F.plainAttrs_list PySem.F.slot_list_append PySem.F.type_list_append mt_append (pe_fld (pv 0) rfl) (pa_cons (pv 2) pa_nil)))
        (pss_one (ps_ret pe_str))) pss_nil)
      (pss_cons (ps_expr (pe_meth (pv 0) T.cl mP GP hr bP .nil pass0 (pa_cons (pe_ix ix_tup (pv 3) pe_int (fun _ _ => rfl)) (pa_cons (pv 4) (pa_cons (pe_ix ix_tup (pv 3) pe_int (fun _ _ => rfl)) (pa_cons (pe_ix ix_tup (pv 3) pe_int (fun _ _ => rfl)) (pa_cons (pv 2) pa_nil)))))))
      (pss_one (ps_ret pe_str)))))))))), ?_⟩
    obtain ⟨⟨dx, hp⟩, ⟨kvs, hd, hdi, hln⟩, ws, hl, hls, hlw⟩ := id D
    obtain ⟨nm, act⟩ := e
    obtain ⟨a, nv, sv, av, rfl, ha, hnm, hact⟩ := he
    have hnm : NameIs H nv nm := hnm
    have hact : ActIs H av act := hact
    have idle : ∀ q : Str × TSt, q = (sIdle, st) → tstep st ⟨nm, act⟩ = q → Q (.str sIdle) H := fun q e1 e2 => by
      have e3 := e2.trans e1
      have := k H (by rw [e3]; exact D.le (Nat.le_succ n)) (Kp.refl _ _)
      rw [e3] at this
      exact this
    have done : ∀ (t : Nm) (r : TRow) (H' : Hp), tstep st ⟨nm, act⟩ = (sDone, setF st.1 t r, st.2) → TreeAt C H' p d l (setF st.1 t r, st.2) (n + 1) → Kp [d] H H' → Q (.str sDone) H' := fun t r H' e1 D' k' => by
      have := k H' (by rw [e1]; exact D') (k'.mono (by simp))
      rw [e1] at this
      exact this
    refine ⟨_, rfl, a, _, _, _, rfl, rfl, SqT.of ha, at_of (j := 0) rfl rfl, ?_⟩
    refine ⟨_, rfl, a, _, _, _, rfl, rfl, SqT.of ha, at_of (j := 2) rfl rfl, ?_⟩
    cases act with
    | make kd h sp =>
      obtain ⟨b, hv, pv', rfl, hb, hkd, hh, hsp⟩ := hact
      refine ⟨_, rfl, b, _, _, _, rfl, rfl, SqT.of hb, at_of (j := 0) rfl rfl, rfl, _, rfl, ?_⟩
      refine iteY (by decide +kernel) ?_
      refine ⟨_, rfl, p, dx, _, rfl, hp, flds_no _ _ (by decide +kernel) (by decide +kernel), _, rfl, b, _, _, _, rfl, rfl, SqT.of hb, at_of (j := 2) rfl rfl, _, rfl, b, _, _, _, rfl, rfl, SqT.of hb, at_of (j := 3) rfl rfl,
        p, d, l, hv, pv', h, sp, st, n, rfl, D, hh, hsp, fun c hc => ⟨_, rfl, ?_⟩⟩
      cases c with
      | false =>
        refine iteT ?_
        have hc' : ¬ fits st.1 h sp := fun z => by have := hc.mpr z; cases this
        exact idle _ rfl (step_make_no hc')
      | true =>
        refine iteF ?_
        have hc' : fits st.1 h sp := hc.mp rfl
        refine ⟨_, rfl, p, dx, _, rfl, hp, flds_no _ _ (by decide +kernel) (by decide +kernel), _, rfl, _, rfl, b, _, _, _, rfl, rfl, SqT.of hb, at_of (j := 1) rfl rfl, _, rfl, b, _, _, _, rfl, rfl, SqT.of hb, at_of (j := 2) rfl rfl, _, rfl, b, _, _, _, rfl, rfl, SqT.of hb, at_of (j := 3) rfl rfl, _, rfl,
          p, d, l, nv, hv, pv', nv, nm, h, nm, kd, sp, st, n, rfl, D, hn, hnm, hkd, hh, hsp, hnm, fun H' D' k' => ?_⟩
        exact done _ _ _ (step_make_yes hc') D' k'
    | drop t =>
      obtain ⟨b, tv, rfl, hb, ht⟩ := hact
      refine ⟨_, rfl, b, _, _, _, rfl, rfl, SqT.of hb, at_of (j := 0) rfl rfl, rfl, _, rfl, ?_⟩
      refine iteN (by decide +kernel) ?_
      refine ⟨_, rfl, b, _, _, _, rfl, rfl, SqT.of hb, at_of (j := 1) rfl rfl, _, rfl, p, C, dx, _, _, rfl, hp, T.cl, T.nS, flds_spots _ _, d, _, rfl, dget_nm hd ht, _, rfl, ?_⟩
      cases ev : valV kvs (keyN t) with
      | none =>
        refine iteT ?_
        exact idle _ rfl (step_drop_no (hdi.none_of ev))
      | some v =>
        refine iteF ?_
        obtain ⟨r, hr1, c, hv2, sv2, rfl, hc, hkk, hhold, _⟩ := hdi.some_of ev
        refine ⟨_, rfl, p, C, dx, _, _, rfl, hp, T.cl, T.nS, flds_spots _ _, _, rfl, b, _, _, _, rfl, rfl, SqT.of hb, at_of (j := 1) rfl rfl, d, _, rfl, ev ▸ dget_nm hd ht, c, _, _, _, rfl, rfl, SqT.of hc, at_of (j := 0) rfl rfl, ?_⟩
        refine ⟨_, rfl, b, _, _, _, rfl, rfl, SqT.of hb, at_of (j := 0) rfl rfl, rfl, _, rfl, ?_⟩
        refine iteY (by decide +kernel) ?_
        refine ⟨_, rfl, (by show 3 ≤ sizeLine; decide), fun q hq => ?_⟩
        have k1 : Kp [] H (upd H q (.tup [.str r.kind, .non, .non])) := Kp.new hq
        refine ⟨_, rfl, p, C, dx, _, _, rfl, k1.same _ _ hp, T.cl, T.nS, flds_spots _ _, _, rfl, b, _, _, _, rfl, rfl, SqT.of (k1.same _ _ hb), at_of (j := 1) rfl rfl, d, _, rfl, dput_nm (k1.same _ _ hd) (ht.keep k1.tp) (Nat.lt_of_le_of_lt (show kvs.length ≤ 1000 by omega) (by decide)), ?_⟩
        obtain ⟨D2, k2⟩ := put_heap (dx := dx) (hv := .non) (sv := .non) (r := ⟨r.kind, none, .none⟩) D hd hdi hln ht hkk rfl .non (Nat.zero_le _) hq
        exact done _ _ _ (step_drop_yes hr1) D2 k2
    | move t h sp =>
      obtain ⟨b, tv, hv, pv', rfl, hb, ht, hh, hsp⟩ := hact
      refine ⟨_, rfl, b, _, _, _, rfl, rfl, SqT.of hb, at_of (j := 0) rfl rfl, rfl, _, rfl, ?_⟩
      refine iteN (by decide +kernel) ?_
      refine ⟨_, rfl, b, _, _, _, rfl, rfl, SqT.of hb, at_of (j := 1) rfl rfl, _, rfl, p, C, dx, _, _, rfl, hp, T.cl, T.nS, flds_spots _ _, d, _, rfl, dget_nm hd ht, _, rfl, ?_⟩
      cases ev : valV kvs (keyN t) with
      | none =>
        refine iteT ?_
        exact idle _ rfl (step_move_none (hdi.none_of ev))
      | some v =>
        refine iteF ?_
        obtain ⟨r, hr1, c, hv2, sv2, rfl, hc, hkk, hhold, _⟩ := hdi.some_of ev
        refine ⟨_, rfl, p, C, dx, _, _, rfl, hp, T.cl, T.nS, flds_spots _ _, _, rfl, b, _, _, _, rfl, rfl, SqT.of hb, at_of (j := 1) rfl rfl, d, _, rfl, ev ▸ dget_nm hd ht, c, _, _, _, rfl, rfl, SqT.of hc, at_of (j := 0) rfl rfl, ?_⟩
        refine ⟨_, rfl, b, _, _, _, rfl, rfl, SqT.of hb, at_of (j := 0) rfl rfl, rfl, _, rfl, ?_⟩
        refine iteN (by decide +kernel) ?_
        refine ⟨_, rfl, p, dx, _, rfl, hp, flds_no _ _ (by decide +kernel) (by decide +kernel), _, rfl, b, _, _, _, rfl, rfl, SqT.of hb, at_of (j := 2) rfl rfl, _, rfl, b, _, _, _, rfl, rfl, SqT.of hb, at_of (j := 3) rfl rfl,
          p, d, l, hv, pv', h, sp, st, n, rfl, D, hh, hsp, fun c hc => ⟨_, rfl, ?_⟩⟩
        cases c with
        | false =>
          refine iteT ?_
          have hc' : ¬ fits st.1 h sp := fun z => by have := hc.mpr z; cases this
          exact idle _ rfl (step_move_idle hr1 hc')
        | true =>
          refine iteF ?_
          have hc' : fits st.1 h sp := hc.mp rfl
          refine ⟨_, rfl, p, dx, _, rfl, hp, flds_no _ _ (by decide +kernel) (by decide +kernel), _, rfl, b, _, _, _, rfl, rfl, SqT.of hb, at_of (j := 1) rfl rfl, _, rfl, b, _, _, _, rfl, rfl, SqT.of hb, at_of (j := 2) rfl rfl,
            p, d, l, tv, hv, t, h, st, n, rfl, D, hn, G, ht, hh, fun q vs ns H1 k1 hq hns hup => ?_⟩
          refine ⟨(by show 0 ≤ sizeLine; decide), fun q2 hq2 => ?_⟩
          have k2 := k1.trans (Kp.new (S := []) (o := .lst []) hq2)
          have k3 : Kp [] H1 (upd H1 q2 (.lst [])) := Kp.new hq2
          have D2 := D.same k2
          obtain ⟨⟨dx2, hp2⟩, ⟨kvs2, hd2, hdi2, hln2⟩, ws2, hl2, hls2, hlw2⟩ := id D2
          refine ⟨dNames ns, .list [], dNames_dp (k3.same _ _ hq) (hns.keep k3.tp), .lst (SqL.of upd_same) .nil, (dNames_shaped hns).1, by decide, _, rfl, ?_⟩
          cases ns with
          | nil =>
            refine iteF ?_
            have hnu : ¬ Up st.1 t h := fun z => hup.mpr z rfl
            have hb2 := k2.same _ _ hb
            refine ⟨_, rfl, p, dx2, _, rfl, hp2, flds_no _ _ (by decide +kernel) (by decide +kernel), _, rfl, b, _, _, _, rfl, rfl, SqT.of hb2, at_of (j := 1) rfl rfl, _, rfl, _, rfl, b, _, _, _, rfl, rfl, SqT.of hb2, at_of (j := 2) rfl rfl, _, rfl, b, _, _, _, rfl, rfl, SqT.of hb2, at_of (j := 3) rfl rfl, _, rfl,
              p, d, l, tv, hv, pv', nv, t, h, nm, r.kind, sp, st, n, rfl, D2, hn, ht.keep k2.tp, hkk, NameIs.keep hh k2.tp, hsp.keep k2.tp, hnm.keep k2.tp, fun H' D' k' => ?_⟩
            exact done _ _ _ (step_move_done hr1 hc' hnu) D' ((k2.mono (by simp)).trans k')
          | cons n0 ns0 =>
            refine iteY (by rfl) ?_
            have hyu : Up st.1 t h := hup.mp (by simp)
            refine ⟨_, rfl, p, C, dx2, _, _, rfl, hp2, T.cl, T.nL, flds_losers _ _, .inl ⟨rfl, _, SqL.of hl2⟩, _, rfl, l, ws2, _, rfl, rfl, hl2, Nat.lt_of_le_of_lt (show ws2.length ≤ 1000 by omega) (by decide), ?_⟩
            have k4 : Kp [d, l] (upd H1 q2 (.lst [])) (upd (upd H1 q2 (.lst [])) l (.lst (ws2 ++ [nv]))) := Kp.set hl2 (fun xs z => by cases z) (by simp)
            have k5 := (k2.mono (S' := [d, l]) (by simp)).trans k4
            have e1 := step_move_lost (n := nm) hr1 hc' hyu
            have npl : p ≠ l := ne_of hp2 hl2 (by intro z; cases z)
            have ndl : d ≠ l := ne_of hd2 hl2 (by intro z; cases z)
            have := k _ (by
              rw [e1]
              refine ⟨⟨dx2, by rw [upd_ne npl]; exact hp2⟩, ⟨kvs2, by rw [upd_ne ndl]; exact hd2, hdi2.keep k4.tp, by omega⟩, _, upd_same, Paired.snoc (hls2.keep k4.tp) (hnm.keep k5.tp), ?_⟩
              rw [List.length_append]
              show ws2.length + 1 ≤ n + 1
              omega) k5
            rw [e1] at this
            exact this
end
end CM
/-! lost, rows, fill. -/
namespace CM
open PySem L2

/-! ### rows put one behind the other -/
def tabs (f : Fm) (l : List (Nm × TRow)) : Fm := l.foldl (fun f p => setF f p.1 p.2) f
theorem tabs_out {n : Nm} : ∀ {l : List (Nm × TRow)} {f : Fm}, (∀ p ∈ l, p.1 ≠ n) → tabs f l n = f n
  | [], _, _ => rfl
  | p :: l, f, h => by
    show tabs (setF f p.1 p.2) l n = f n
    rw [tabs_out fun q hq => h q (List.mem_cons_of_mem _ hq), setF_ne fun z => h p List.mem_cons_self z.symm]
theorem tabs_in {n : Nm} {r : TRow} : ∀ {l : List (Nm × TRow)} {f : Fm}, l.Pairwise (fun a b => ltN a.1 b.1) → (n, r) ∈ l → tabs f l n = some r
  | p :: l, f, h, hm => by
    obtain ⟨h1, h2⟩ := List.pairwise_cons.mp h
    show tabs (setF f p.1 p.2) l n = some r
    rcases List.mem_cons.mp hm with e | hm
    · subst e
      rw [tabs_out fun q hq z => ltN_irrefl n (by have := h1 q hq; rw [z] at this; exact this), setF_same]
    · exact tabs_in h2 hm
theorem RowsOf.tabs {f : Fm} {l : List (Nm × TRow)} (h : RowsOf f l) : tabs (fun _ => none) l = f := by
  funext n
  cases e : f n with
  | some r => exact tabs_in h.sorted ((h.mem n r).mpr e)
  | none =>
    rw [tabs_out fun p hp z => ?_]
    have := (h.mem p.1 p.2).mp hp
    rw [z, e] at this
    cases this

section
variable {P : Program} {w : World} {K : PySem.W.Frag} {mg : Str → Option Value} {base : Heap}
/-! ### lost -/
def spLost (C : Addr) : Sp := fun vs H Q _ => ∃ (p d l : Addr) (s : TSt) (n : Nat), vs = [.ref p] ∧ TreeAt C H p d l s n ∧
  ∀ (q : Addr) (ws : List V) (H' : Hp), Kp [] H H' → H q = none → H' q = some (.lst ws) → NamesIs H' ws s.2 → Q (.ref q) H'
theorem scLost : FnScope ["self"] ["self"] (defScope sLostM) := ⟨rfl, rfl, rfl, by decide +kernel, rfl, by decide +kernel, by decide +kernel⟩
theorem ok_lost {f C R : Addr} {fd : FuncData} (F : Fun K "lost" "Tree.lost" sLostM f fd) (T : Txt K mg C R) : FnOk P w K mg base CX0 1 f fd ["self"] (spLost C) := by
  refine F.ok scLost (fun vs H Q E h => ?_) (fun cdv A outer s H vs Q E hr h => ?_)
  · obtain ⟨p, d, l, st, n, rfl, _⟩ := h
    rfl
  · obtain ⟨p, d, l, st, n, rfl, D, k⟩ := h
    obtain ⟨⟨dx, hp⟩, _, ws, hl, hls, _⟩ := id D
    refine ⟨_, pss_one (ps_ret (pe_callTy call_list_of (by rfl) T.list (by decide +kernel) (pa_cons (pe_fld (pv 0) rfl) pa_nil))), ?_⟩
    refine ⟨_, rfl, p, C, dx, _, _, rfl, hp, T.cl, T.nL, flds_losers _ _, l, ws, rfl, .inl (SqL.of hl), fun q hq => ?_⟩
    have k1 : Kp [] H (upd H q (.lst ws)) := Kp.new hq
    exact k q ws _ k1 hq upd_same (hls.keep k1.tp)

/-- an item of a tuple, the written part named: for a comprehension's block -/
theorem ixK {X : Cx} {K : PySem.W.Frag} (h : X.K = K := by rfl) : IxR X (rIxT K) := h ▸ ix_tup
/-! ### rows -/
def spRows (C : Addr) : Sp := fun vs H Q _ => ∃ (p d l : Addr) (s : TSt) (n : Nat), vs = [.ref p] ∧ TreeAt C H p d l s n ∧ n < 64 ∧
  ∀ (q : Addr) (ws : List V) (rs : List (Nm × TRow)) (H' : Hp), Kp [] H H' → H q = none → H' q = some (.lst ws) → Rows4 H' ws rs → RowsOf s.1 rs → ws.length ≤ n → Q (.ref q) H'
theorem scRows : FnScope ["self", "thing", "row"] ["self"] (defScope sRows) := ⟨rfl, rfl, rfl, by decide +kernel, rfl, by decide +kernel, by decide +kernel⟩
theorem ok_rows {f C R : Addr} {fd : FuncData} (F : Fun K "rows" "Tree.rows" sRows f fd) (T : Txt K mg C R) : FnOk P w K mg base CX0 1 f fd ["self"] (spRows C) := by
  refine F.ok scRows (fun vs H Q E h => ?_) (fun cdv A outer s H vs Q E hr h => ?_)
  · obtain ⟨p, d, l, st, n, rfl, _⟩ := h
    rfl
  · obtain ⟨p, d, l, st, n, rfl, D, hn, k⟩ := h
    obtain ⟨⟨dx, hp⟩, ⟨kvs, hd, hdi, hln⟩, _⟩ := id D
    refine ⟨_, pss_one (ps_ret (pe_lc (own := [("thing", 1), ("row", 2)]) (g := gTup K 2 (gCons (gName 1) (gCons (gName 2) gNil))) (tt := tYes) rfl scRows.nd
      (pi_list (pe_callB (cr_sortedN rfl hr.units) (by rfl) T.sorted (by decide +kernel) (pa_cons (pe_bm0 PySem.F.plainAttrs_dict PySem.F.slot_dict_items PySem.F.type_dict_items DX.mt_itemsT (pe_fld (pv 0) rfl)) pa_nil)))
      (blkOk_by (own := [("thing", 1), ("row", 2)]) (N := ["self", "thing", "row"]) (sc := defScope sRows) (by decide +kernel))
      (fun _ _ _ _ _ => pg_tup (by rfl) (pgs_cons (pg_name (i := 1) scRows.nd rfl (Or.inl rfl)) (pgs_cons (pg_name (i := 2) scRows.nd rfl (Or.inl rfl)) pgs_nil)))
      (fun _ _ _ _ _ => pts_nil)
      (fun _ _ _ _ _ => pe_tup (pa_cons (pv 1) (pa_cons (pe_ix (ixK (K := K)) (pv 2) pe_int (fun _ _ => rfl)) (pa_cons (pe_ix (ixK (K := K)) (pv 2) pe_int (fun _ _ => rfl)) (pa_cons (pe_ix (ixK (K := K)) (pv 2) pe_int (fun _ _ => rfl)) pa_nil))))))), ?_⟩
    obtain ⟨ks, rfl, hnd, hks1, hks2⟩ := hdi.list
    rw [List.length_map] at hln
    refine ⟨_, rfl, p, C, dx, _, _, rfl, hp, T.cl, T.nS, flds_spots _ _, .inr (.inr (.inl ⟨rfl, .inr ⟨_, hd⟩⟩)), d, _, rfl, rfl, hd, fun it hit => ?_⟩
    have k1 : Kp [] H (upd H it (DX.itemsO it d)) := Kp.new hit
    refine ⟨it, d, ks, rfl, upd_same, k1.same _ _ hd, by omega, hnd, fun H2 l2 ps hs2 hl0 perm srt hl2 hprs => ?_⟩
    have k2 : Kp [] H H2 := k1.trans (Kp.of_same hs2 [])
    -- the rows
    have inks : ∀ z ∈ ps, z.2 ∈ ks := fun z hz => perm.mem_iff.mp (List.mem_map.mpr ⟨z, hz, rfl⟩)
    obtain ⟨rs, hrs⟩ : ∃ rs : List (Nm × TRow), rs = ps.map fun z => (z.2.1, (st.1 z.2.1).getD ⟨"", none, .none⟩) := ⟨_, rfl⟩
    have hrow : ∀ z ∈ ps, ∃ r, st.1 z.2.1 = some r ∧ RowIs H (.ref z.2.2) r ∧ okS z.2.1.1 := fun z hz => hks1 _ (inks z hz)
    have hof : RowsOf st.1 rs := by
      refine ⟨?_, fun n r => ⟨fun hm => ?_, fun hf => ?_⟩⟩
      · rw [hrs, List.pairwise_map]
        rw [List.pairwise_map] at srt
        exact srt
      · rw [hrs] at hm
        obtain ⟨z, hz, e⟩ := List.mem_map.mp hm
        obtain ⟨r', h1, _⟩ := hrow z hz
        injection e with e1 e2
        rw [h1] at e2
        rw [← e1, h1]
        exact congrArg some e2
      · obtain ⟨b, hb⟩ := hks2 n r hf
        obtain ⟨z, hz, e⟩ := List.mem_map.mp (perm.mem_iff.mpr hb)
        rw [hrs]
        refine List.mem_map.mpr ⟨z, hz, ?_⟩
        rw [e]
        show (n, (st.1 n).getD _) = (n, r)
        rw [hf]
        rfl
    have hlen : ps.length = ks.length := by
      have := perm.length_eq
      rw [List.length_map] at this
      exact this
    refine ⟨l2, rfl, ⟨_, SqL.of hl2⟩, fun E2 hE2 => lc_list (K := K) (a := l2) (xs := ps.map fun z => V.ref z.1) (fun i H3 => ∃ acc, H3 E2 = some (.lst acc) ∧ Rows4 H3 acc (rs.take i) ∧ Kp [] H2 H3) ⟨[], upd_same, .nil, Kp.new hE2⟩ (fun i H3 _ ⟨_, _, _, k3⟩ => SqL.of (k3.same _ _ hl2)) ?_ ?_⟩
    · rintro i x H3 hx ⟨acc, hacc, hrw, k3⟩
      rw [List.getElem?_map] at hx
      cases hz : ps[i]? with
      | none => rw [hz] at hx; cases hx
      | some z =>
        rw [hz] at hx
        cases hx
        have hzm := List.mem_of_getElem? hz
        obtain ⟨q, h1, h2⟩ := hprs z hzm
        obtain ⟨r, hr1, hri, hok⟩ := hrow z hzm
        obtain ⟨c, hv, sv, ec, hc, hkk, hhold, hsp, hdep⟩ := hri
        cases ec
        have hrs2 : rs[i]? = some (z.2.1, r) := by rw [hrs, List.getElem?_map, hz, Option.map_some, hr1]; rfl
        have t3 : Tk H H3 := (k2.trans k3).tp
        refine ⟨z.1, _, rfl, SqT.of (k3.tp _ _ h1), rfl, _, _, rfl, _, _, rfl, rfl, rfl, ?_⟩
        refine ⟨_, rfl, _, rfl, z.2.2, _, _, _, rfl, rfl, SqT.of (t3 _ _ hc), at_of (j := 0) rfl rfl, _, rfl, z.2.2, _, _, _, rfl, rfl, SqT.of (t3 _ _ hc), at_of (j := 1) rfl rfl, _, rfl, z.2.2, _, _, _, rfl, rfl, SqT.of (t3 _ _ hc), at_of (j := 2) rfl rfl, (by show 4 ≤ sizeLine; decide), fun q2 hq2 => ?_⟩
        have k4 : Kp [] H3 (upd H3 q2 (.tup [.ref q, .str r.kind, hv, sv])) := Kp.new hq2
        have hla : acc.length ≤ ps.length := by
          have e1 := Paired.length hrw
          rw [List.length_take, hrs, List.length_map] at e1
          omega
        refine ⟨acc, k4.same _ _ hacc, Nat.lt_of_le_of_lt (show acc.length ≤ 64 by omega) (by decide), _, upd_same, ?_, (k3.trans k4).over hE2⟩
        have k5 : Tk (upd H3 q2 (.tup [.ref q, .str r.kind, hv, sv])) (upd (upd H3 q2 (.tup [.ref q, .str r.kind, hv, sv])) E2 (.lst (acc ++ [V.ref q2]))) := (Kp.set (S := [E2]) (k4.same _ _ hacc) (fun xs z => by cases z) (by simp)).tp
        have k6 : Tk H3 (upd (upd H3 q2 (.tup [.ref q, .str r.kind, hv, sv])) E2 (.lst (acc ++ [V.ref q2]))) := fun b xs e => k5 _ _ (k4.tp _ _ e)
        have k7 : Tk H (upd (upd H3 q2 (.tup [.ref q, .str r.kind, hv, sv])) E2 (.lst (acc ++ [V.ref q2]))) := fun b xs e => k6 _ _ (t3 _ _ e)
        rw [List.take_add_one, hrs2]
        refine Paired.snoc (Rows4.keep hrw k6) ⟨q2, .ref q, hv, sv, rfl, k5 _ _ upd_same, ⟨q, rfl, k6 _ _ (k3.tp _ _ h2), hok⟩, hkk, hhold.keep k7, hsp.keep k7, hdep⟩
    · rintro H3 ⟨acc, hacc, hrw, k3⟩
      rw [List.length_map] at hrw
      have e0 : rs.take ps.length = rs := by
        refine List.take_of_length_le ?_
        rw [hrs, List.length_map]
        exact Nat.le_refl _
      rw [e0] at hrw
      refine k E2 acc rs H3 (k2.trans k3) (k2.free hE2) hacc hrw hof ?_
      have e1 := Paired.length hrw
      rw [hrs, List.length_map] at e1
      omega

/-! ### fill -/
def spFill (C : Addr) : Sp := fun vs H Q _ => ∃ (p d l a b : Addr) (s : TSt) (n m : Nat) (us ws : List V) (rs : List (Nm × TRow)) (f : Fm) (ns : List Nm), vs = [.ref p, .ref a, .ref b] ∧ TreeAt C H p d l s n ∧
  H a = some (.lst us) ∧ Rows4 H us rs ∧ RowsOf f rs ∧ us.length ≤ m ∧ H b = some (.lst ws) ∧ NamesIs H ws ns ∧ ws.length ≤ m ∧ m ≤ 1000 ∧
  ∀ (d' l' : Addr) (H' : Hp), TreeAt C H' p d' l' (f, ns) m → H d' = none → H l' = none → Kp [p] H H' → Q .non H'
theorem scFill : FnScope ["self", "rows", "lost", "thing", "kind", "holder", "spot"] ["self", "rows", "lost"] (defScope sFill) := ⟨rfl, rfl, rfl, by decide +kernel, rfl, by decide +kernel, by decide +kernel⟩
theorem ok_fill {f C R : Addr} {fd : FuncData} (F : Fun K "fill" "Tree.fill" sFill f fd) (T : Txt K mg C R) : FnOk P w K mg base CX0 1 f fd ["self", "rows", "lost"] (spFill C) := by
  refine F.ok scFill (fun vs H Q E h => ?_) (fun cdv A outer s H vs Q E hr h => ?_)
  · obtain ⟨p, d, l, a, b, st, n, m, us, ws, rs, f, ns, rfl, _⟩ := h
    rfl
  · obtain ⟨p, d, l, a, b, st, n, m, us, ws, rs, f, ns, rfl, D, ha, hrs, hof, hus, hb, hns, hws, hm, k⟩ := h
    have hu := hu_of hr
    obtain ⟨⟨dx, hp⟩, _⟩ := id D
    refine ⟨_, pss_cons (ps_fld (pv 0) pe_dnewT rfl)
      (pss_cons (ps_for PassesOwn.never rfl (pi_list (pv 1)) (pg_tup (by rfl) (pgs_cons (pg_name (i := 3) scFill.nd rfl (Or.inl rfl)) (pgs_cons (pg_name (i := 4) scFill.nd rfl (Or.inl rfl)) (pgs_cons (pg_name (i := 5) scFill.nd rfl (Or.inl rfl)) (pgs_cons (pg_name (i := 6) scFill.nd rfl (Or.inl rfl)) pgs_nil)))))
        (pss_one (ps_dput hu (pe_fld (pv 0) rfl) (pv 3) (pe_tup (pa_cons (pv 4) (pa_cons (pv 5) (pa_cons (pv 6) pa_nil)))) rfl)))
      (pss_one (ps_fld (pv 0) (pe_callTy call_list_of (by rfl) T.list (by decide +kernel) (pa_cons (pv 2) pa_nil)) rfl))), ?_⟩
    intro d' hd'
    have npd : p ≠ d' := ne_of_none hp hd'
    refine ⟨_, rfl, p, C, dx, _, rfl, (by rw [upd_ne npd]; exact hp), T.cl, T.nS, flds_len _ _, ?_⟩
    rw [flds_put]
    have k1 : Kp [p] H (upd (upd H d' (.dT [])) p (.ins C dx (flds d' l))) := (Kp.new hd').trans (Kp.set (o := .ins C dx (flds d l)) (by rw [upd_ne npd]; exact hp) (fun xs z => by cases z) (by simp))
    have nap : a ≠ p := ne_of ha hp (by intro z; cases z)
    have nbp : b ≠ p := ne_of hb hp (by intro z; cases z)
    -- for thing, kind, holder, spot in rows
    refine ⟨_, rfl, a, rfl, ⟨_, SqL.of (k1.at' _ _ ha (by simpa using nap))⟩, for_list (K := K) (a := a) (xs := us) (fun i σ H2 => ∃ (kvs : List (List Key × V)) (v3 v4 v5 v6 : Option V), σ = [some (.ref p), some (.ref a), some (.ref b), v3, v4, v5, v6] ∧
      H2 p = some (.ins C dx (flds d' l)) ∧ H2 d' = some (.dT kvs) ∧ DictIs H2 kvs (tabs (fun _ => none) (rs.take i)) ∧ kvs.length ≤ i ∧ Kp [p] H H2) ?_ ?_ ?_ ?_⟩
    · refine ⟨[], none, none, none, none, rfl, upd_same, by rw [upd_ne npd.symm, upd_same], ?_, Nat.le_refl _, k1⟩
      exact .empty _
    · rintro i σ H2 _ ⟨_, _, _, _, _, _, _, _, _, _, k2⟩
      exact SqL.of (k2.at' _ _ ha (by simpa using nap))
    · rintro i x σ H2 hx ⟨kvs, v3, v4, v5, v6, rfl, hp2, hd2, hdi, hln, k2⟩
      obtain ⟨pr, hpr, hrow⟩ := paired_get hrs hx
      obtain ⟨c, nv, hv, sv, rfl, hc, hnm, hkk, hhold, hsp, hdep⟩ := hrow
      have hi : i < us.length := (List.getElem?_eq_some_iff.mp hx).1
      refine ⟨c, _, rfl, SqT.of (k2.tp _ _ hc), rfl, _, _, rfl, _, _, rfl, _, _, rfl, _, _, rfl, rfl, ?_⟩
      refine ⟨_, rfl, _, rfl, _, rfl, (by show 3 ≤ sizeLine; decide), fun q hq => ?_⟩
      have k3 : Kp [] H2 (upd H2 q (.tup [.str pr.2.kind, hv, sv])) := Kp.new hq
      refine ⟨_, rfl, p, C, dx, _, _, rfl, k3.same _ _ hp2, T.cl, T.nS, flds_spots _ _, _, rfl, d', _, rfl, dput_nm (k3.same _ _ hd2) ((hnm.keep k2.tp).keep k3.tp) (Nat.lt_of_le_of_lt (show kvs.length ≤ 1000 by omega) (by decide)), ?_⟩
      have k4 : Kp [d'] (upd H2 q (.tup [.str pr.2.kind, hv, sv])) (upd (upd H2 q (.tup [.str pr.2.kind, hv, sv])) d' (.dT (putK kvs (keyN pr.1) (.ref q)))) := Kp.set (k3.same _ _ hd2) (fun xs z => by cases z) (by simp)
      have t4 : Tk H2 (upd (upd H2 q (.tup [.str pr.2.kind, hv, sv])) d' (.dT (putK kvs (keyN pr.1) (.ref q)))) := fun b xs e => k4.tp _ _ (k3.tp _ _ e)
      have t5 : Tk H (upd (upd H2 q (.tup [.str pr.2.kind, hv, sv])) d' (.dT (putK kvs (keyN pr.1) (.ref q)))) := fun b xs e => t4 _ _ (k2.tp _ _ e)
      have okn : okS pr.1.1 := by obtain ⟨_, _, _, z⟩ := hnm; exact z
      refine ⟨_, _, _, _, _, rfl, k4.at' _ _ (k3.same _ _ hp2) (by simpa using npd), upd_same, ?_, ?_, (k2.trans (k3.mono (by simp))).over hd'⟩
      · rw [List.take_add_one, hpr]
        have e : tabs (fun _ => none) (rs.take i ++ (some pr).toList) = setF (tabs (fun _ => none) (rs.take i)) pr.1 pr.2 := by
          show List.foldl _ _ (rs.take i ++ [pr]) = _
          rw [List.foldl_append]
          rfl
        rw [e]
        exact (hdi.keep t4).put ⟨q, hv, sv, rfl, k4.tp _ _ upd_same, hkk, hhold.keep t5, hsp.keep t5, hdep⟩ okn
      · have := length_putK kvs (keyN pr.1) (V.ref q)
        omega
    · rintro σ H2 ⟨kvs, v3, v4, v5, v6, rfl, hp2, hd2, hdi, hln, k2⟩
      have e0 : rs.take us.length = rs := by
        rw [Paired.length hrs]
        exact List.take_of_length_le (Nat.le_refl _)
      rw [e0, hof.tabs] at hdi
      -- self.losers = list(lost)
      refine ⟨_, rfl, b, ws, rfl, .inl (SqL.of (k2.at' _ _ hb (by simpa using nbp))), fun l' hl' => ?_⟩
      have k3 : Kp [] H2 (upd H2 l' (.lst ws)) := Kp.new hl'
      refine ⟨_, rfl, p, C, dx, _, rfl, k3.same _ _ hp2, T.cl, T.nL, flds_len _ _, ?_⟩
      rw [flds_put2]
      have k4 : Kp [p] (upd H2 l' (.lst ws)) (upd (upd H2 l' (.lst ws)) p (.ins C dx (flds d' l'))) := Kp.set (k3.same _ _ hp2) (fun xs z => by cases z) (by simp)
      have k5 := (k2.trans (k3.mono (by simp))).trans k4
      have npl : p ≠ l' := ne_of_none hp2 hl'
      refine k d' l' _ ⟨⟨dx, upd_same⟩, ⟨kvs, k4.at' _ _ (k3.same _ _ hd2) (by simpa using npd.symm), hdi.keep (fun b xs e => k4.tp _ _ (k3.tp _ _ e)), by omega⟩, ws, k4.at' _ _ upd_same (by simpa using npl.symm), hns.keep k5.tp, hws⟩ hd' (k2.free hl') k5
end
end CM
/-! The law's own helpers: a cell, a stream. -/
namespace CM
open PySem L2
/-- an item at a place that is known to lie within -/
theorem at_in {α : Type} {xs : List α} {z : Int} (h0 : 0 ≤ z) (h1 : z < xs.length) : ∃ v, atI xs z = some v ∧ v ∈ xs ∧ xs[z.toNat]? = some v := by
  have hl : z.toNat < xs.length := by omega
  have h := atI_nat (xs := xs) (j := z.toNat) (List.getElem?_eq_getElem hl)
  rw [show ((z.toNat : Nat) : Int) = z by omega] at h
  exact ⟨xs[z.toNat], h, List.getElem_mem hl, List.getElem?_eq_getElem hl⟩
theorem at_int {ns : List Int} {j : Nat} (z : Int) (e : z = (j : Int)) (h : j < ns.length) : ∃ x, atI (ns.map V.int) z = some (.int x) ∧ x ∈ ns := by
  refine ⟨ns[j], at_of (j := j) e ?_, List.getElem_mem h⟩
  rw [List.getElem?_map, List.getElem?_eq_getElem h]
  rfl
section
variable {P : Program} {w : World} {K : PySem.W.Frag} {mg : Str → Option Value} {base : Heap}
/-! ### _law_cell_at -/
def spCell (K : PySem.W.Frag) : Sp := fun vs H Q _ => ∃ (a : Addr) (ns : List Int) (k : Nat), vs = [.ref a, .int k] ∧ SqL K H a (ns.map V.int) ∧ ∀ i : Int, Q (.int i) H
theorem scCell : FnScope ["_law_script", "_law_k"] ["_law_script", "_law_k"] (defScope sCell) := ⟨rfl, rfl, rfl, by decide +kernel, rfl, by decide +kernel, by decide +kernel⟩
theorem ok_cell {f C R : Addr} {fd : FuncData} (F : Fun K "_law_cell_at" "_law_cell_at" sCell f fd) (T : Txt K mg C R) : FnOk P w K mg base CX0 1 f fd ["_law_script", "_law_k"] (spCell K) := by
  refine F.ok scCell (fun vs H Q E h => ?_) (fun cdv A outer s H vs Q E hr h => ?_)
  · obtain ⟨a, ns, k, rfl, _⟩ := h
    rfl
  · obtain ⟨a, ns, k, rfl, hS, q⟩ := h
    refine ⟨_, pss_cons (ps_if (pt_cmpR op_lt (pv 1) (pe_callB call_len_seq (by rfl) T.len PySem.boot_len (pa_cons (pv 0) pa_nil)) (nomark _)) (pss_one (ps_ret (pe_ix ix_list (pv 0) (pv 1) (fun _ _ => rfl)))) pss_nil)
      (pss_one (ps_ret pe_int)), ?_⟩
    refine ⟨_, rfl, _, rfl, a, _, rfl, .inl hS, _, _, rfl, rfl, _, rfl, ?_⟩
    refine ite2 (fun e => ?_) (fun _ => q 0)
    have e' : (k : Int) < ((ns.map V.int).length : Int) := of_decide_eq_true e
    rw [List.length_map] at e'
    obtain ⟨x, hx, _⟩ := at_int (ns := ns) (j := k) (k : Int) rfl (by omega)
    exact ⟨_, rfl, _, rfl, a, _, _, _, rfl, rfl, hS, hx, q x⟩

/-! ### _law_stream -/
def Small (x : Int) : Prop := 0 ≤ x ∧ x < 2147483647
theorem small_mod (x : Int) : Small (x % 2147483647) := ⟨Int.emod_nonneg _ (by decide), Int.emod_lt_of_pos _ (by decide)⟩
theorem cut1 (xs : List V) : cutV xs (some 1) none = xs.drop 1 := by
  unfold cutV
  rw [show HT.sIx xs.length xs.length none = xs.length from rfl, show HT.sIx xs.length 0 (some 1) = min 1 xs.length from HT.sIx_nat _ _ 1]
  by_cases h : 1 ≤ xs.length
  · rw [Nat.min_eq_left h]
    refine List.take_of_length_le ?_
    rw [List.length_drop]
    exact Nat.le_refl _
  · have e : xs = [] := List.length_eq_zero_iff.mp (by omega)
    subst e
    rfl
def spStream : Sp := fun vs H Q _ => ∃ (c : Int) (m : Nat), vs = [.int c, .int m] ∧ m ≤ 100 ∧
  ∀ (q : Addr) (ns : List Int) (H' : Hp), Kp [] H H' → H q = none → H' q = some (.lst (ns.map V.int)) → ns.length = m → (∀ x ∈ ns, Small x) → Q (.ref q) H'
theorem scStream : FnScope ["_law_cell", "_law_many", "_law_found", "_law_number", "_law_k"] ["_law_cell", "_law_many"] (defScope sStream) := ⟨rfl, rfl, rfl, by decide +kernel, rfl, by decide +kernel, by decide +kernel⟩
theorem ok_stream {f C R : Addr} {fd : FuncData} (F : Fun K "_law_stream" "_law_stream" sStream f fd) (T : Txt K mg C R) : FnOk P w K mg base CX0 1 f fd ["_law_cell", "_law_many"] spStream := by
  refine F.ok scStream (fun vs H Q E h => ?_) (fun cdv A outer s H vs Q E hr h => ?_)
  · obtain ⟨c, m, rfl, _⟩ := h
    rfl
  · obtain ⟨c, m, rfl, hm, k⟩ := h
    refine ⟨_, pss_cons (ps_set (i := 2) scStream.nd rfl (Or.inl rfl) (pe_lst pa_nil))
      (pss_cons (ps_set (i := 3) scStream.nd rfl (Or.inl rfl) (pe_op op_add (pe_op op_mod (pv 0) pe_int) pe_int))
      (pss_cons (ps_for PassesOwn.never rfl (pi_range1 (by rfl) T.range (pa_cons (pe_op op_add (pv 1) pe_int) pa_nil)) (pg_name (i := 4) scStream.nd rfl (Or.inl rfl))
        (pss_cons (ps_set (i := 3) scStream.nd rfl (Or.inl rfl) (pe_op op_mod (pe_op op_add (pe_op op_add (pe_op op_mul (pv 3) (pv 3)) (pe_op op_mul pe_int (pv 3))) (pv 4)) pe_int))
        (pss_one (ps_expr (pe_bm PySem.F.plainAttrs_list PySem.F.slot_list_append PySem.F.type_list_append mt_append (pv 2) (pa_cons (pv 3) pa_nil))))))
      (pss_one (ps_ret (pe_slice sl_list (pv 2) (po_some pe_int) po_none))))), ?_⟩
    refine ⟨(by show 0 ≤ sizeLine; decide), fun q hq => ?_⟩
    refine ⟨_, rfl, _, _, rfl, rfl, (by show (0 : Int) < 2147483647; decide), _, _, rfl, rfl, ?_⟩
    refine ⟨_, rfl, _, _, rfl, rfl, _, rfl, (by show (-(2 ^ 62) : Int) ≤ (m : Int) + 1; omega), (by show (m : Int) + 1 < 2 ^ 62; omega), ?_⟩
    refine for_range (lo := 0) (n := ((m : Int) + 1).toNat) (fun i σ H2 => ∃ (z : Int) (v4 : Option V) (ns : List Int), σ = [some (.int c), some (.int m), some (.ref q), some (.int z), v4] ∧ (0 ≤ z ∧ z < 4294967296) ∧ H2 q = some (.lst (ns.map V.int)) ∧ ns.length = i ∧ (∀ x ∈ ns, Small x) ∧ Kp [] H H2) ?_ ?_ ?_
    · have h1 := small_mod c
      exact ⟨c % 2147483647 + 48271, none, [], rfl, by unfold Small at h1; omega, upd_same, rfl, (fun x hx => by cases hx), Kp.new hq⟩
    · rintro i σ H2 hi ⟨z, v4, ns, rfl, hz, hq2, hl, hns, k2⟩
      refine ⟨_, rfl, _, rfl, _, _, rfl, rfl, .inl (by omega), _, rfl, _, _, rfl, rfl, .inl (by decide), _, _, rfl, rfl, _, rfl, _, _, rfl, rfl, _, _, rfl, rfl, (by show (0 : Int) < 2147483647; decide), ?_⟩
      have hsm := small_mod (z * z + 48271 * z + (0 + (i : Int)))
      refine ⟨_, rfl, .inl ⟨rfl, _, SqL.of hq2⟩, _, rfl, q, _, _, rfl, rfl, hq2, ?_, ?_⟩
      · rw [List.length_map]
        exact Nat.lt_of_le_of_lt (show ns.length ≤ 1000 by omega) (by decide)
      · refine ⟨_, _, ns ++ [(z * z + 48271 * z + (0 + (i : Int))) % 2147483647], rfl, by unfold Small at hsm; omega, ?_, ?_, ?_, k2.over hq⟩
        · rw [List.map_append]
          exact upd_same
        · rw [List.length_append, hl]
          rfl
        · intro x hx
          rcases List.mem_append.mp hx with h | h
          · exact hns x h
          · rw [List.mem_singleton.mp h]
            exact hsm
    · rintro σ H2 ⟨z, v4, ns, rfl, hz, hq2, hl, hns, k2⟩
      refine ⟨_, rfl, _, rfl, q, _, rfl, SqL.of hq2, fun p hp => ?_⟩
      rw [cut1]
      refine k p (ns.drop 1) _ (k2.trans (Kp.new hp)) (k2.free hp) ?_ ?_ (fun x hx => hns x (List.mem_of_mem_drop hx))
      · rw [List.map_drop]
        exact upd_same
      · rw [List.length_drop, hl]
        omega
end
end CM
/-! The law's own helpers: the hands. -/
namespace CM
open PySem L2 TL
/-! ### texts -/
theorem okS_iff {x : Str} : okS x ↔ ∀ c ∈ tl x, c < 1114112 := by
  show x.cps.all (fun c => decide (c < 0x110000)) = true ↔ _
  rw [Array.all_eq_true]
  constructor
  · intro h c hc
    obtain ⟨i, hi, e⟩ := List.mem_iff_getElem.mp hc
    have := h i (by simpa using hi)
    rw [← e]
    simpa using this
  · intro h i hi
    have := h x.cps[i] (by simp [tl])
    simpa using this
theorem okS_app {x y : Str} (h1 : okS x) (h2 : okS y) : okS (x ++ y) := by
  rw [okS_iff] at *
  rw [tl_append]
  intro c hc
  rcases List.mem_append.mp hc with h | h
  · exact h1 c h
  · exact h2 c h
theorem okS_cut {x : Str} {lo hi : Option Int} (h : okS x) : okS (cutS x lo hi) := by
  rw [okS_iff] at *
  intro c hc
  exact h c (List.mem_of_mem_drop (List.mem_of_mem_take hc))
theorem cutS_len {x : Str} {lo hi : Option Int} : (cutS x lo hi).length ≤ x.length := by
  show (List.toArray _).size ≤ x.cps.size
  rw [List.size_toArray, List.length_take, List.length_drop, Array.length_toList]
  omega
theorem okS_one {c : Nat} (h : c < 1114112) : okS ⟨#[c]⟩ := by
  rw [okS_iff]
  intro d hd
  rw [List.mem_singleton.mp (show d ∈ [c] from hd)]
  exact h
theorem app_len (x y : Str) : (x ++ y).length = x.length + y.length := Array.size_append ..
theorem joinL_len : ∀ ps : List (List Nat), (joinL [] ps).length = (ps.map List.length).sum
  | [] => rfl
  | [p] => by simp [joinL]
  | p :: q :: r => by
    show (p ++ ([] ++ joinL [] (q :: r))).length = _
    rw [List.length_append, List.nil_append, joinL_len (q :: r)]
    rfl
theorem joinL_mem : ∀ {ps : List (List Nat)} {c : Nat}, c ∈ joinL [] ps → ∃ p ∈ ps, c ∈ p
  | [p], c, h => ⟨p, List.mem_cons_self, h⟩
  | p :: q :: r, c, h => by
    have h : c ∈ p ++ ([] ++ joinL [] (q :: r)) := h
    rcases List.mem_append.mp h with h | h
    · exact ⟨p, List.mem_cons_self, h⟩
    · obtain ⟨p', h1, h2⟩ := joinL_mem (ps := q :: r) (by simpa using h)
      exact ⟨p', List.mem_cons_of_mem _ h1, h2⟩
theorem tl_empty : tl ("" : Str) = [] := by decide +kernel
theorem sum_ones : ∀ ys : List Str, (∀ y ∈ ys, y.length = 1) → (ys.map (·.length)).sum = ys.length
  | [], _ => rfl
  | y :: ys, h => by
    rw [List.map_cons, List.sum_cons, h y List.mem_cons_self, sum_ones ys fun z hz => h z (List.mem_cons_of_mem _ hz), List.length_cons]
    omega
theorem join_ones {ys : List Str} (h : ∀ y ∈ ys, y.length = 1 ∧ okS y) : (Txt.join "" ys).length = ys.length ∧ okS (Txt.join "" ys) := by
  rw [TL.join_eq]
  have e := tl_join "" ys
  rw [tl_empty] at e
  constructor
  · have e2 : (Str.join "" ys).length = (tl (Str.join "" ys)).length := (Array.length_toList).symm
    rw [e2, e, joinL_len, List.map_map]
    exact sum_ones ys fun y hy => (h y hy).1
  · rw [okS_iff, e]
    intro c hc
    obtain ⟨p, hp, hcp⟩ := joinL_mem hc
    obtain ⟨y, hy, rfl⟩ := List.mem_map.mp hp
    exact (okS_iff.mp (h y hy).2) c hcp
abbrev letters : Str := "abcdefghijklmnopqrstuvwxyz"
theorem letters_ok : okS letters := by decide +kernel
theorem letters_len : (tl letters).length = 26 := by decide +kernel
theorem letters_len2 : letters.length = 26 := by decide +kernel
theorem letter_at {z : Int} (h0 : 0 ≤ z) (h1 : z < 26) : ∃ c, atI letters.cps.toList z = some c ∧ c < 1114112 := by
  obtain ⟨c, h, hm, _⟩ := at_in (xs := tl letters) h0 (by rw [letters_len]; exact h1)
  exact ⟨c, h, okS_iff.mp letters_ok c hm⟩
theorem cut_upto (x : Str) (r : Nat) : (cutS x none (some ((r : Nat) : Int))).length = min r x.length := by
  show (List.toArray _).size = _
  rw [List.size_toArray, List.length_take, List.length_drop, Array.length_toList]
  rw [show HT.sIx x.length 0 none = 0 from rfl, HT.sIx_nat]
  show min (min r x.length - 0) (x.length - 0) = min r x.length
  omega
theorem cutV_upto (xs : List V) (r : Nat) : cutV xs none (some ((r : Nat) : Int)) = xs.take r := by
  unfold cutV
  rw [show HT.sIx xs.length 0 none = 0 from rfl, HT.sIx_nat, List.drop_zero]
  rw [Nat.sub_zero]
  by_cases h : r ≤ xs.length
  · rw [Nat.min_eq_left h]
  · rw [Nat.min_eq_right (by omega), List.take_of_length_le (Nat.le_refl _), List.take_of_length_le (by omega)]
/-- an item of a list, the written part named: for a comprehension's block -/
theorem ixL {X : Cx} {K : PySem.W.Frag} (h : X.K = K := by rfl) : IxR X (rIxL K) := h ▸ ix_list
theorem small_line {n : Nat} (h : n ≤ 1000) : n ≤ sizeLine := Nat.le_trans h (by decide)
section
variable {P : Program} {w : World} {K : PySem.W.Frag} {mg : Str → Option Value} {base : Heap}
def HandOk (x : Str) : Prop := okS x ∧ x.length ≤ 100
def spHands : Sp := fun vs H Q _ => ∃ (c : Int) (m : Nat), vs = [.int c, .int m] ∧ 1 ≤ m ∧ m ≤ 3 ∧
  ∀ (q : Addr) (hs : List Str) (H' : Hp), Kp [] H H' → H q = none → H' q = some (.lst (hs.map V.str)) → hs.length = m → (∀ x ∈ hs, HandOk x) → Q (.ref q) H'
abbrev nHands : List Str := ["_law_cell", "_law_many", "_law_letters", "_law_xs", "_law_stem", "_law_at", "_law_x", "_law_k"]
theorem scHands : FnScope nHands ["_law_cell", "_law_many"] (defScope sHands) := ⟨rfl, rfl, rfl, by decide +kernel, rfl, by decide +kernel, by decide +kernel⟩
theorem ok_hands {f fS C R : Addr} {fd fdS : FuncData} (F : Fun K "_law_hands" "_law_hands" sHands f fd) (T : Txt K mg C R)
    (GS : FnOk P w K mg base CX0 1 fS fdS ["_law_cell", "_law_many"] spStream) (bS : Binds K fdS ["_law_cell", "_law_many"] []) (mS : mg "_law_stream" = some (.ref fS)) (kS : PySem.W.keepIn K (.ref fS) = true) :
    FnOk P w K mg base CX0 2 f fd ["_law_cell", "_law_many"] spHands := by
  refine F.ok scHands (fun vs H Q E h => ?_) (fun cdv A outer s H vs Q E hr h => ?_)
  · obtain ⟨c, m, rfl, _⟩ := h
    rfl
  · obtain ⟨c, m, rfl, hm1, hm3, k⟩ := h
    refine ⟨_, pss_cons (ps_set (i := 2) scHands.nd rfl (Or.inr rfl) pe_str)
      (pss_cons (ps_set (i := 3) scHands.nd rfl (Or.inr rfl) (pe_call GS hr rfl mS kS bS .nil pass0 (pa_cons (pv 0) (pa_cons pe_int pa_nil))))
      (pss_cons (ps_set (i := 4) scHands.nd rfl (Or.inr rfl) (pe_join pe_str (pe_lc (own := [("_law_x", 6)]) (g := gName 6) (tt := tYes) rfl scHands.nd
          (pi_list (pe_slice sl_list (pv 3) po_none (po_some pe_int)))
          (blkOk_by (own := [("_law_x", 6)]) (N := nHands) (sc := defScope sHands) (by decide +kernel))
          (fun _ _ _ _ _ => pg_name (i := 6) scHands.nd rfl (Or.inl rfl)) (fun _ _ _ _ _ => pts_nil)
          (fun _ _ _ _ _ => pe_ix ix_str (pv 2) (pe_op op_mod (pv 6) pe_int) (fun _ _ => rfl)))))
      (pss_cons (ps_if (pt_cmpR op_eq (pe_op op_mod (pv 0) pe_int) pe_int (nomark _))
        (pss_one (ps_ret (pe_lc (own := [("_law_k", 7)]) (g := gName 7) (tt := tYes) rfl scHands.nd (pi_range1 (by rfl) T.range (pa_cons (pv 1) pa_nil))
          (blkOk_by (own := [("_law_k", 7)]) (N := nHands) (sc := defScope sHands) (by decide +kernel))
          (fun _ _ _ _ _ => pg_name (i := 7) scHands.nd rfl (Or.inl rfl)) (fun _ _ _ _ _ => pts_nil)
          (fun _ _ _ _ _ => pe_slice sl_str (pv 4) po_none (po_some (pe_op op_add pe_int (pe_op op_mod (pe_op op_add (pv 7) (pe_ix (ixL (K := K)) (pv 3) pe_int (fun _ _ => rfl))) pe_int))))))) pss_nil)
      (pss_cons (ps_set (i := 4) scHands.nd rfl (Or.inr rfl) (pe_slice sl_str (pv 4) po_none (po_some (pe_op op_add pe_int (pe_op op_mod (pe_ix ix_list (pv 3) pe_int (fun _ _ => rfl)) pe_int)))))
      (pss_cons (ps_set (i := 5) scHands.nd rfl (Or.inr rfl) (pe_op op_mod (pe_ix ix_list (pv 3) pe_int (fun _ _ => rfl)) (pe_callB call_len_str (by rfl) T.len PySem.boot_len (pa_cons (pv 4) pa_nil))))
      (pss_one (ps_ret (pe_lc (own := [("_law_k", 7)]) (g := gName 7) (tt := tYes) rfl scHands.nd (pi_range1 (by rfl) T.range (pa_cons (pv 1) pa_nil))
          (blkOk_by (own := [("_law_k", 7)]) (N := nHands) (sc := defScope sHands) (by decide +kernel))
          (fun _ _ _ _ _ => pg_name (i := 7) scHands.nd rfl (Or.inl rfl)) (fun _ _ _ _ _ => pts_nil)
          (fun _ _ _ _ _ => pe_op op_add_str (pe_op op_add_str (pe_slice sl_str (pv 4) po_none (po_some (pv 5)))
            (pe_ix ix_str (pv 2) (pe_op op_mod (pe_op op_add (pe_op op_fdiv (pe_ix (ixL (K := K)) (pv 3) pe_int (fun _ _ => rfl)) pe_int) (pe_op op_mul pe_int (pv 7))) pe_int) (fun _ _ => rfl)))
            (pe_slice sl_str (pv 4) (po_some (pe_op op_add (pv 5) pe_int)) po_none)))))))))), ?_⟩
    -- xs = stream(cell, 10)
    refine ⟨_, rfl, c, 10, rfl, by decide, fun x ns H1 k1 _ hx1 hnl hns => ?_⟩
    -- stem = "".join([..])
    refine ⟨⟨_, rfl⟩, _, rfl, _, rfl, x, _, rfl, SqL.of hx1, fun q2 hq2 => ?_⟩
    have ec : cutV (ns.map V.int) none (some (8 : Int)) = (ns.take 8).map V.int := by
      rw [show (8 : Int) = ((8 : Nat) : Int) from rfl, cutV_upto, List.map_take]
    rw [ec]
    have k2 : Kp [] H1 (upd H1 q2 (.lst ((ns.take 8).map V.int))) := Kp.new hq2
    have hx2 : (upd H1 q2 (.lst ((ns.take 8).map V.int))) x = some (.lst (ns.map V.int)) := k2.same _ _ hx1
    have hq22 : (upd H1 q2 (.lst ((ns.take 8).map V.int))) q2 = some (.lst ((ns.take 8).map V.int)) := upd_same
    have k12 := k1.trans k2
    generalize upd H1 q2 (.lst ((ns.take 8).map V.int)) = H2 at k12 hx2 hq22 ⊢
    refine ⟨q2, rfl, ⟨_, SqL.of hq22⟩, fun D hD => lc_list (K := K) (a := q2) (xs := (ns.take 8).map V.int) (fun i H3 => ∃ ys : List Str, H3 D = some (.lst (ys.map V.str)) ∧ ys.length = i ∧ (∀ y ∈ ys, y.length = 1 ∧ okS y) ∧ Kp [] H2 H3) ⟨[], upd_same, rfl, (fun y hy => by cases hy), Kp.new hD⟩ (fun i H3 _ ⟨_, _, _, _, k3⟩ => SqL.of (k3.same _ _ hq22)) ?_ ?_⟩
    · rintro i v H3 hv ⟨ys, hD3, hyl, hys, k3⟩
      rw [List.getElem?_map] at hv
      cases hz : (ns.take 8)[i]? with
      | none => rw [hz] at hv; cases hv
      | some z =>
        rw [hz] at hv
        cases hv
        obtain ⟨cc, hcc, hlt⟩ := letter_at (z := z % 26) (Int.emod_nonneg _ (by decide)) (Int.emod_lt_of_pos _ (by decide))
        refine ⟨rfl, _, rfl, _, rfl, _, _, rfl, rfl, (by show (0 : Int) < 26; decide), letters, _, cc, rfl, rfl, small_line (by rw [letters_len2]; decide), hcc, ys.map V.str, hD3, ?_, ys ++ [⟨#[cc]⟩], ?_, ?_, ?_, k3.over hD⟩
        · have hi : i < (ns.take 8).length := (List.getElem?_eq_some_iff.mp hz).1
          rw [List.length_take] at hi
          rw [List.length_map]
          exact Nat.lt_of_le_of_lt (show ys.length ≤ 1000 by omega) (by decide)
        · rw [List.map_append]
          exact upd_same
        · rw [List.length_append, hyl]
          rfl
        · intro y hy
          rcases List.mem_append.mp hy with h | h
          · exact hys y h
          · rw [List.mem_singleton.mp h]
            exact ⟨rfl, okS_one hlt⟩
    · rintro H3 ⟨ys, hD3, hyl, hys, k3⟩
      rw [List.length_map, List.length_take, hnl] at hyl
      have hyl : ys.length = 8 := hyl
      have hx3 := k3.same _ _ hx2
      have k13 := k12.trans k3
      obtain ⟨hjl, hjo⟩ := join_ones hys
      refine ⟨"", D, ys, rfl, rfl, .inl (SqL.of hD3), ?_, ?_⟩
      · rw [sum_ones ys fun y hy => (hys y hy).1, hyl]
        decide
      rw [hyl] at hjl
      -- if cell % 3 == 0
      refine ⟨_, rfl, _, _, rfl, rfl, (by show (0 : Int) < 3; decide), rfl, _, rfl, ?_⟩
      have mlo : (-(2 ^ 62) : Int) ≤ (m : Int) := by omega
      have mhi : (m : Int) < 2 ^ 62 := by omega
      refine ite2 (fun _ => ?_) (fun _ => ?_)
      · refine ⟨_, rfl, _, rfl, mlo, mhi, fun D2 hD2 => lc_range (lo := 0) (n := (m : Int).toNat) (fun i H4 => ∃ zs : List Str, H4 D2 = some (.lst (zs.map V.str)) ∧ zs.length = i ∧ (∀ z ∈ zs, HandOk z) ∧ Kp [] H3 H4) ⟨[], upd_same, rfl, (fun y hy => by cases hy), Kp.new hD2⟩ ?_ ?_⟩
        · rintro i H4 hi ⟨zs, hD4, hzl, hzs, k4⟩
          obtain ⟨x8, hx8, _⟩ := at_int (ns := ns) (j := 8) 8 rfl (by omega)
          refine ⟨rfl, _, rfl, _, rfl, _, rfl, x, _, _, _, rfl, rfl, SqL.of (k4.same _ _ hx3), hx8, _, _, rfl, rfl, _, _, rfl, rfl, (by show (0 : Int) < 8; decide), _, _, rfl, rfl, _, rfl, _, rfl, small_line (show (Txt.join "" ys).length ≤ 1000 by omega), ?_⟩
          refine ⟨zs.map V.str, hD4, ?_, zs ++ [cutS (Txt.join "" ys) none (some (1 + (0 + (i : Int) + x8) % 8))], ?_, ?_, ?_, k4.over hD2⟩
          · rw [List.length_map]
            exact Nat.lt_of_le_of_lt (show zs.length ≤ 1000 by omega) (by decide)
          · rw [List.map_append]
            exact upd_same
          · rw [List.length_append, hzl]
            rfl
          · intro z hz
            rcases List.mem_append.mp hz with h | h
            · exact hzs z h
            · rw [List.mem_singleton.mp h]
              exact ⟨okS_cut hjo, Nat.le_trans cutS_len (by omega)⟩
        · rintro H4 ⟨zs, hD4, hzl, hzs, k4⟩
          exact k D2 zs H4 (k13.trans k4) (k13.free hD2) hD4 (by rw [hzl]; exact Int.toNat_natCast m) hzs
      · -- stem = stem[:1 + xs[8] % 8]
        obtain ⟨x8, hx8, _⟩ := at_int (ns := ns) (j := 8) 8 rfl (by omega)
        obtain ⟨x9, hx9, _⟩ := at_int (ns := ns) (j := 9) 9 rfl (by omega)
        refine ⟨_, rfl, _, rfl, x, _, _, _, rfl, rfl, SqL.of hx3, hx8, _, _, rfl, rfl, (by show (0 : Int) < 8; decide), _, _, rfl, rfl, _, rfl, _, rfl, small_line (show (Txt.join "" ys).length ≤ 1000 by omega), ?_⟩
        have h8 : 0 ≤ x8 % 8 := Int.emod_nonneg _ (by decide)
        obtain ⟨r, hr8⟩ : ∃ r : Nat, 1 + x8 % 8 = ((r + 1 : Nat) : Int) := ⟨(x8 % 8).toNat, by omega⟩
        rw [hr8]
        have hsl := cut_upto (Txt.join "" ys) (r + 1)
        have hso : okS (cutS (Txt.join "" ys) none (some ((r + 1 : Nat) : Int))) := okS_cut hjo
        rw [hjl] at hsl
        generalize cutS (Txt.join "" ys) none (some ((r + 1 : Nat) : Int)) = stem at hsl hso
        have hs1 : 1 ≤ stem.length ∧ stem.length ≤ 8 := by omega
        -- at = xs[9] % len(stem)
        refine ⟨_, rfl, x, _, _, _, rfl, rfl, SqL.of hx3, hx9, _, rfl, _, rfl, small_line (by omega), _, _, rfl, rfl, (by show (0 : Int) < (stem.length : Int); omega), ?_⟩
        refine ⟨_, rfl, _, rfl, mlo, mhi, fun D2 hD2 => lc_range (lo := 0) (n := (m : Int).toNat) (fun i H4 => ∃ zs : List Str, H4 D2 = some (.lst (zs.map V.str)) ∧ zs.length = i ∧ (∀ z ∈ zs, HandOk z) ∧ Kp [] H3 H4) ⟨[], upd_same, rfl, (fun y hy => by cases hy), Kp.new hD2⟩ ?_ ?_⟩
        · rintro i H4 hi ⟨zs, hD4, hzl, hzs, k4⟩
          obtain ⟨cc, hcc, hlt⟩ := letter_at (z := (x9 / 8 + 5 * (0 + (i : Int))) % 26) (Int.emod_nonneg _ (by decide)) (Int.emod_lt_of_pos _ (by decide))
          have hline : stem.length ≤ sizeLine := small_line (by omega)
          refine ⟨rfl, _, rfl, _, rfl, _, rfl, _, rfl, hline, _, rfl, _, rfl, x, _, _, _, rfl, rfl, SqL.of (k4.same _ _ hx3), hx9, _, _, rfl, rfl, ⟨by decide, by decide⟩, _, rfl, _, _, rfl, rfl, .inl (by decide), _, _, rfl, rfl, _, _, rfl, rfl, (by show (0 : Int) < 26; decide), letters, _, cc, rfl, rfl, small_line (by rw [letters_len2]; decide), hcc, ?_⟩
          have l1 : (cutS stem none (some (x9 % (stem.length : Int)))).length ≤ stem.length := cutS_len
          have o1 : okS (cutS stem none (some (x9 % (stem.length : Int)))) := okS_cut hso
          have l2 : (cutS stem (some (x9 % (stem.length : Int) + 1)) none).length ≤ stem.length := cutS_len
          have o2 : okS (cutS stem (some (x9 % (stem.length : Int) + 1)) none) := okS_cut hso
          have l3 : (⟨#[cc]⟩ : Str).length = 1 := rfl
          refine ⟨_, _, rfl, rfl, small_line (by omega), _, rfl, _, rfl, _, _, rfl, rfl, _, rfl, _, rfl, hline, _, _, rfl, rfl, small_line (by rw [app_len]; omega), ?_⟩
          refine ⟨zs.map V.str, hD4, ?_, zs ++ [cutS stem none (some (x9 % (stem.length : Int))) ++ ⟨#[cc]⟩ ++ cutS stem (some (x9 % (stem.length : Int) + 1)) none], ?_, ?_, ?_, k4.over hD2⟩
          · rw [List.length_map]
            exact Nat.lt_of_le_of_lt (show zs.length ≤ 1000 by omega) (by decide)
          · rw [List.map_append]
            exact upd_same
          · rw [List.length_append, hzl]
            rfl
          · intro z hz
            rcases List.mem_append.mp hz with h | h
            · exact hzs z h
            · rw [List.mem_singleton.mp h]
              exact ⟨okS_app (okS_app o1 (okS_one hlt)) o2, by rw [app_len, app_len]; omega⟩
        · rintro H4 ⟨zs, hD4, hzl, hzs, k4⟩
          exact k D2 zs H4 (k13.trans k4) (k13.free hD2) hD4 (by rw [hzl]; exact Int.toNat_natCast m) hzs
end
end CM
/-! The law's own helpers: an act. -/
namespace CM
open PySem L2
/-- what the law keeps of the names made so far: their kinds -/
structure KindsIs (kvs : List (List Key × V)) : Prop where
  all : ∀ p ∈ kvs, ∃ (n : Nm) (k : Str), p.1 = keyN n ∧ okS n.1 ∧ p.2 = .str k ∧ okS k
  some : 0 < kvs.length
theorem valV_mem {kvs : List (List Key × V)} {k : List Key} {v : V} (h : valV kvs k = some v) : ∃ p ∈ kvs, p.1 = k ∧ p.2 = v := by
  unfold valV at h
  obtain ⟨p, hp, e⟩ := Option.map_eq_some_iff.mp h
  have := List.find?_some hp
  exact ⟨p, List.mem_of_find?_eq_some hp, of_decide_eq_true this, e⟩
theorem valV_of_mem {kvs : List (List Key × V)} {k : List Key} (h : ∃ p ∈ kvs, p.1 = k) : ∃ v, valV kvs k = some v := by
  cases e : valV kvs k with
  | some v => exact ⟨v, rfl⟩
  | none =>
    obtain ⟨p, hp, e2⟩ := h
    exact absurd (List.mem_map.mpr ⟨p, hp, e2⟩) (valV_not e)
/-- an item of the list of keys: a name, its kind -/
theorem keys_at {H : Hp} {kvs : List (List Key × V)} {bs : List Addr} (K : KindsIs kvs) (hk : IsKeys H kvs bs) {z : Int} (h0 : 0 ≤ z) (h1 : z < bs.length) :
    ∃ v n k, atI (bs.map V.ref) z = some v ∧ NameIs H v n ∧ valV kvs (keyN n) = some (.str k) ∧ okS k := by
  obtain ⟨v, e, hm, hg⟩ := at_in (xs := bs.map V.ref) h0 (by rw [List.length_map]; exact h1)
  rw [List.getElem?_map] at hg
  cases hb : bs[z.toNat]? with
  | none => rw [hb] at hg; cases hg
  | some b =>
    rw [hb] at hg
    cases hg
    obtain ⟨p, hp, hHb⟩ := DX.pget hk hb
    have hpm := List.mem_of_getElem? hp
    obtain ⟨n, k, e1, ok, _⟩ := K.all p hpm
    obtain ⟨u, hu⟩ := valV_of_mem (k := keyN n) ⟨p, hpm, e1⟩
    obtain ⟨p2, hp2, e2, e3⟩ := valV_mem hu
    obtain ⟨n2, k2, _, _, e4, ok2⟩ := K.all p2 hp2
    exact ⟨_, n, k2, e, ⟨b, rfl, by rw [← e1]; exact hHb, ok⟩, by rw [hu, ← e3, e4], ok2⟩
section
variable {P : Program} {w : World} {K : PySem.W.Frag} {mg : Str → Option Value} {base : Heap}
def spAct : Sp := fun vs H Q _ => ∃ (a d b : Addr) (ns : List Int) (kvs : List (List Key × V)) (hs : List Str), vs = [.ref a, .ref d, .ref b] ∧ H a = some (.lst (ns.map V.int)) ∧ ns.length = 6 ∧
  H d = some (.dT kvs) ∧ KindsIs kvs ∧ H b = some (.lst (hs.map V.str)) ∧ 0 < hs.length ∧ (∀ x ∈ hs, HandOk x) ∧
  ∀ (v : V) (c : Act) (H' : Hp), Kp [] H H' → ActIs H' v c → Q v H'
abbrev nAct : List Str := ["_law_xs", "_law_kinds", "_law_hands_here", "_law_names", "_law_thing", "_law_holder", "_law_spot", "_law_kind"]
theorem scAct : FnScope nAct ["_law_xs", "_law_kinds", "_law_hands_here"] (defScope sAct) := ⟨rfl, rfl, rfl, by decide +kernel, rfl, by decide +kernel, by decide +kernel⟩
theorem ok_act {f C R : Addr} {fd : FuncData} (F : Fun K "_law_act" "_law_act" sAct f fd) (T : Txt K mg C R) : FnOk P w K mg base CX0 1 f fd ["_law_xs", "_law_kinds", "_law_hands_here"] spAct := by
  refine F.ok scAct (fun vs H Q E h => ?_) (fun cdv A outer s H vs Q E hr h => ?_)
  · obtain ⟨a, d, b, ns, kvs, hs, rfl, _⟩ := h
    rfl
  · obtain ⟨a, d, b, ns, kvs, hs, rfl, ha, hnl, hd, KI, hb, hs0, hhs, k⟩ := h
    have hu := hu_of hr
    refine ⟨_, pss_cons (ps_set (i := 3) scAct.nd rfl (Or.inl rfl) (pe_callTy (call_list_dT rfl) (by rfl) T.list (by decide +kernel) (pa_cons (pv 1) pa_nil)))
      (pss_cons (ps_set (i := 4) scAct.nd rfl (Or.inl rfl) (pe_ix ix_list (pv 3) (pe_op op_mod (pe_ix ix_list (pv 0) pe_int (fun _ _ => rfl)) (pe_callB call_len_seq (by rfl) T.len PySem.boot_len (pa_cons (pv 3) pa_nil))) (fun _ _ => rfl)))
      (pss_cons (ps_set (i := 5) scAct.nd rfl (Or.inl rfl) (pe_ix ix_list (pv 3) (pe_op op_mod (pe_ix ix_list (pv 0) pe_int (fun _ _ => rfl)) (pe_callB call_len_seq (by rfl) T.len PySem.boot_len (pa_cons (pv 3) pa_nil))) (fun _ _ => rfl)))
      (pss_cons (ps_set (i := 6) scAct.nd rfl (Or.inl rfl) (pe_ix ix_list (pe_lst (pa_cons pe_str (pa_cons pe_str (pa_cons pe_str pa_nil)))) (pe_op op_mod (pe_ix ix_list (pv 0) pe_int (fun _ _ => rfl)) pe_int) (fun _ _ => rfl)))
      (C8.pss_cut (ps_if (pt_cmpR op_eq (pe_dget hu (pv 1) (pv 5) (fun _ _ => rfl)) pe_str (nomark _))
        (pss_one (ps_set (i := 6) scAct.nd rfl (Or.inl rfl) (pe_tup (pa_cons (pe_tup (pa_cons (pe_tup (pa_cons pe_int (pa_cons (pe_ix ix_list (pv 2) (pe_op op_mod (pe_ix ix_list (pv 0) pe_int (fun _ _ => rfl)) (pe_callB call_len_seq (by rfl) T.len PySem.boot_len (pa_cons (pv 2) pa_nil))) (fun _ _ => rfl))
          (pa_cons (pe_op op_add pe_int (pe_op op_mod (pe_ix ix_list (pv 0) pe_int (fun _ _ => rfl)) pe_int)) (pa_cons pe_int pa_nil))))) pa_nil))
          (pa_cons (pe_op op_sub (pe_op op_mul (pe_op op_mod (pe_op op_fdiv (pe_ix ix_list (pv 0) pe_int (fun _ _ => rfl)) pe_int) pe_int) pe_int) pe_int) pa_nil))))) pss_nil)
      (pss_cons (ps_if (pt_cmpR op_lt (pe_op op_mod (pe_ix ix_list (pv 0) pe_int (fun _ _ => rfl)) pe_int) pe_int (nomark _))
        (pss_cons (ps_set (i := 7) scAct.nd rfl (Or.inl rfl) (pe_ix ix_list (pe_lst (pa_cons pe_str (pa_cons pe_str (pa_cons pe_str (pa_cons pe_str (pa_cons pe_str (pa_cons pe_str (pa_cons pe_str (pa_cons pe_str pa_nil))))))))) (pe_op op_mod (pe_ix ix_list (pv 0) pe_int (fun _ _ => rfl)) pe_int) (fun _ _ => rfl)))
        (pss_one (ps_ret (pe_tup (pa_cons pe_str (pa_cons (pv 7) (pa_cons (pv 5) (pa_cons (pv 6) pa_nil)))))))) pss_nil)
      (pss_cons (ps_if (pt_cmpR op_lt (pe_op op_mod (pe_ix ix_list (pv 0) pe_int (fun _ _ => rfl)) pe_int) pe_int (nomark _))
        (pss_one (ps_ret (pe_tup (pa_cons pe_str (pa_cons (pv 4) (pa_cons (pv 5) (pa_cons (pv 6) pa_nil))))))) pss_nil)
      (pss_one (ps_ret (pe_tup (pa_cons pe_str (pa_cons (pv 4) pa_nil))))))))))), ?_⟩
    obtain ⟨x1, hx1, _⟩ := at_int (ns := ns) (j := 1) 1 rfl (by omega)
    obtain ⟨x2, hx2, _⟩ := at_int (ns := ns) (j := 2) 2 rfl (by omega)
    obtain ⟨x3, hx3, _⟩ := at_int (ns := ns) (j := 3) 3 rfl (by omega)
    obtain ⟨x4, hx4, _⟩ := at_int (ns := ns) (j := 4) 4 rfl (by omega)
    obtain ⟨x5, hx5, _⟩ := at_int (ns := ns) (j := 5) 5 rfl (by omega)
    -- names = list(kinds)
    refine ⟨_, rfl, d, kvs, rfl, .inl hd, fun p bs hp hks => ?_⟩
    have k1 : Kp [] H (upd H p (.lst (bs.map V.ref))) := Kp.new hp
    have hp1 : (upd H p (.lst (bs.map V.ref))) p = some (.lst (bs.map V.ref)) := upd_same
    generalize upd H p (.lst (bs.map V.ref)) = H1 at k1 hp1 ⊢
    have hbl : bs.length = kvs.length := (Paired.length hks).symm
    have hb0 : (0 : Int) < (bs.length : Int) := by have := KI.some; omega
    have ha1 := SqL.of (K := K) (k1.same _ _ ha)
    have hlen : (0 : Int) < (((bs.map V.ref).length : Nat) : Int) := by rw [List.length_map]; exact hb0
    obtain ⟨tv, tn, tk, ht1, ht2, ht3, ht4⟩ := keys_at KI hks (z := x2 % ((bs.map V.ref).length : Int)) (Int.emod_nonneg _ (by omega)) (by have := Int.emod_lt_of_pos x2 hlen; rw [List.length_map] at this ⊢; exact this)
    obtain ⟨hv, hn, hk, hh1, hh2, hh3, hh4⟩ := keys_at KI hks (z := x3 % ((bs.map V.ref).length : Int)) (Int.emod_nonneg _ (by omega)) (by have := Int.emod_lt_of_pos x3 hlen; rw [List.length_map] at this ⊢; exact this)
    refine ⟨_, rfl, _, rfl, a, _, _, _, rfl, rfl, ha1, hx2, _, rfl, p, _, rfl, .inl (SqL.of hp1), _, _, rfl, rfl, hlen, p, _, _, _, rfl, rfl, SqL.of hp1, ht1, ?_⟩
    refine ⟨_, rfl, _, rfl, a, _, _, _, rfl, rfl, ha1, hx3, _, rfl, p, _, rfl, .inl (SqL.of hp1), _, _, rfl, rfl, hlen, p, _, _, _, rfl, rfl, SqL.of hp1, hh1, ?_⟩
    -- spot = ['a', 'ab', 'key'][xs[4] % 3]
    obtain ⟨sv, hs1, hs2, _⟩ := at_in (xs := [V.str "a", V.str "ab", V.str "key"]) (z := x4 % 3) (Int.emod_nonneg _ (by decide)) (Int.emod_lt_of_pos _ (by decide))
    have hsk : ∃ sk, sv = .str sk ∧ okS sk := by
      rcases List.mem_cons.mp hs2 with e | hs2
      · exact ⟨_, e, by decide +kernel⟩
      rcases List.mem_cons.mp hs2 with e | hs2
      · exact ⟨_, e, by decide +kernel⟩
      exact ⟨_, List.mem_singleton.mp hs2, by decide +kernel⟩
    obtain ⟨sk, rfl, hsk⟩ := hsk
    refine ⟨(by show 3 ≤ sizeLine; decide), fun q hq => ?_⟩
    have k2 : Kp [] H1 (upd H1 q (.lst [V.str "a", V.str "ab", V.str "key"])) := Kp.new hq
    have hq2 : (upd H1 q (.lst [V.str "a", V.str "ab", V.str "key"])) q = some (.lst [V.str "a", V.str "ab", V.str "key"]) := upd_same
    have k12 := k1.trans k2
    generalize upd H1 q (.lst [V.str "a", V.str "ab", V.str "key"]) = H2 at k12 hq2 ⊢
    have ha2 := SqL.of (K := K) (k12.same _ _ ha)
    refine ⟨_, rfl, a, _, _, _, rfl, rfl, ha2, hx4, _, _, rfl, rfl, (by show (0 : Int) < 3; decide), q, _, _, _, rfl, rfl, SqL.of hq2, hs1, ?_⟩
    -- if kinds[holder] == 'row'
    have hd2 := k12.same _ _ hd
    have hh2' := hh2.keep k12.tp
    refine ⟨fun σ' H' => ∃ (pv' : V) (sp : Spot), σ' = [some (.ref a), some (.ref d), some (.ref b), some (.ref p), some tv, some hv, some pv', none] ∧ Kp [] H H' ∧ SpotIs H' pv' sp, ?_, ?_⟩
    · refine ⟨_, rfl, _, rfl, d, _, rfl, hh3 ▸ dget_nm hd2 hh2', rfl, _, rfl, ?_⟩
      refine ite2 (fun _ => ?_) (fun _ => ?_)
      · have hb2 := SqL.of (K := K) (k12.same _ _ hb)
        have hl : (0 : Int) < (((hs.map V.str).length : Nat) : Int) := by rw [List.length_map]; omega
        obtain ⟨hv3, he1, he2, _⟩ := at_in (xs := hs.map V.str) (z := x4 % ((hs.map V.str).length : Int)) (Int.emod_nonneg _ (by omega)) (Int.emod_lt_of_pos _ hl)
        obtain ⟨hd3, hm3, rfl⟩ := List.mem_map.mp he2
        refine ⟨_, rfl, _, rfl, a, _, _, _, rfl, rfl, ha2, hx4, _, rfl, b, _, rfl, .inl hb2, _, _, rfl, rfl, hl, b, _, _, _, rfl, rfl, hb2, he1, _, rfl, a, _, _, _, rfl, rfl, ha2, hx5, _, _, rfl, rfl, (by show (0 : Int) < 9; decide), _, _, rfl, rfl, (by show 4 ≤ sizeLine; decide), fun t1 ht1' => ?_⟩
        refine ⟨(by show 1 ≤ sizeLine; decide), fun t2 ht2' => ?_⟩
        have k3 := k12.trans (Kp.new (S := []) (o := .tup [V.int 1, V.str hd3, V.int (1 + x5 % 9), V.int 0]) ht1')
        have k4 := k3.trans (Kp.new (S := []) (o := .tup [V.ref t1]) ht2')
        refine ⟨_, rfl, a, _, _, _, rfl, rfl, SqL.of (k4.same _ _ ha), hx5, _, _, rfl, rfl, ⟨by decide, by decide⟩, _, _, rfl, rfl, (by show (0 : Int) < 2; decide), _, _, rfl, rfl, .inr (by decide), _, _, rfl, rfl, (by show 2 ≤ sizeLine; decide), fun t3 ht3' => ?_⟩
        have n3 : Tk (upd (upd H2 t1 (.tup [V.int 1, V.str hd3, V.int (1 + x5 % 9), V.int 0])) t2 (.tup [V.ref t1])) _ := (Kp.new (S := []) (o := .tup [V.ref t2, V.int (x5 / 16 % 2 * 2 - 1)]) ht3').tp
        have n2 : Tk (upd H2 t1 (.tup [V.int 1, V.str hd3, V.int (1 + x5 % 9), V.int 0])) _ := (Kp.new (S := []) (o := .tup [V.ref t1]) ht2').tp
        exact ⟨.ref t3, .pair [.tuple [.int 1, .str hd3, .int (1 + x5 % 9), .int 0]] (x5 / 16 % 2 * 2 - 1), rfl, k4.trans (Kp.new ht3'), t3, t2, [V.ref t1], rfl, upd_same, n3 _ _ upd_same, .cons (.tup (n3 _ _ (n2 _ _ upd_same)) (.cons (.int _) (.cons (.str (hhs _ hm3).1) (.cons (.int _) (.cons (.int _) .nil))))) .nil, (by show 1 ≤ 2; decide), (fun z => by cases z), (by show 1 ≤ 1000; decide)⟩
      · exact ⟨.str sk, .key sk, rfl, k12, rfl, hsk⟩
    · rintro σ' H' ⟨pv', sp, rfl, k5, hsp⟩
      have ha5 := SqL.of (K := K) (k5.same _ _ ha)
      have ht5 := ht2.keep k5.tp
      have hh5 := hh2.keep k5.tp
      refine ⟨_, rfl, a, _, _, _, rfl, rfl, ha5, hx1, _, _, rfl, rfl, (by show (0 : Int) < 8; decide), _, _, rfl, rfl, _, rfl, ?_⟩
      refine ite2 (fun _ => ?_) (fun _ => ?_)
      · obtain ⟨kv, hk1, hk2, _⟩ := at_in (xs := [V.str "map", V.str "row", V.str "map", V.str "row", V.str "count", V.str "choice", V.str "bag", V.str "text"]) (z := x2 % 8) (Int.emod_nonneg _ (by decide)) (Int.emod_lt_of_pos _ (by decide))
        have hkk : ∃ kd, kv = .str kd ∧ okS kd := by
          rcases List.mem_cons.mp hk2 with e | hk2
          · exact ⟨_, e, by decide +kernel⟩
          rcases List.mem_cons.mp hk2 with e | hk2
          · exact ⟨_, e, by decide +kernel⟩
          rcases List.mem_cons.mp hk2 with e | hk2
          · exact ⟨_, e, by decide +kernel⟩
          rcases List.mem_cons.mp hk2 with e | hk2
          · exact ⟨_, e, by decide +kernel⟩
          rcases List.mem_cons.mp hk2 with e | hk2
          · exact ⟨_, e, by decide +kernel⟩
          rcases List.mem_cons.mp hk2 with e | hk2
          · exact ⟨_, e, by decide +kernel⟩
          rcases List.mem_cons.mp hk2 with e | hk2
          · exact ⟨_, e, by decide +kernel⟩
          exact ⟨_, List.mem_singleton.mp hk2, by decide +kernel⟩
        obtain ⟨kd, rfl, hkd⟩ := hkk
        refine ⟨(by show 8 ≤ sizeLine; decide), fun q5 hq5 => ?_⟩
        have k6 := k5.trans (Kp.new (S := []) (o := .lst [V.str "map", V.str "row", V.str "map", V.str "row", V.str "count", V.str "choice", V.str "bag", V.str "text"]) hq5)
        have n6 : Tk H' _ := (Kp.new (S := []) (o := .lst [V.str "map", V.str "row", V.str "map", V.str "row", V.str "count", V.str "choice", V.str "bag", V.str "text"]) hq5).tp
        refine ⟨_, rfl, a, _, _, _, rfl, rfl, SqL.of (k6.same _ _ ha), hx2, _, _, rfl, rfl, (by show (0 : Int) < 8; decide), q5, _, _, _, rfl, rfl, SqL.of upd_same, hk1, ?_⟩
        refine ⟨_, rfl, _, rfl, _, rfl, (by show 4 ≤ sizeLine; decide), fun q6 hq6 => ?_⟩
        have n7 := (Kp.new (S := []) (o := .tup [V.str "make", V.str kd, hv, pv']) hq6)
        exact k (.ref q6) (.make kd hn sp) _ (k6.trans n7) ⟨q6, hv, pv', rfl, upd_same, hkd, (hh5.keep n6).keep n7.tp, (hsp.keep n6).keep n7.tp⟩
      · refine ⟨_, rfl, a, _, _, _, rfl, rfl, ha5, hx1, _, _, rfl, rfl, (by show (0 : Int) < 8; decide), _, _, rfl, rfl, _, rfl, ?_⟩
        refine ite2 (fun _ => ?_) (fun _ => ?_)
        · refine ⟨_, rfl, _, rfl, _, rfl, (by show 4 ≤ sizeLine; decide), fun q6 hq6 => ?_⟩
          have n7 := (Kp.new (S := []) (o := .tup [V.str "move", tv, hv, pv']) hq6)
          exact k (.ref q6) (.move tn hn sp) _ (k5.trans n7) ⟨q6, tv, hv, pv', rfl, upd_same, ht5.keep n7.tp, hh5.keep n7.tp, hsp.keep n7.tp⟩
        · refine ⟨_, rfl, (by show 2 ≤ sizeLine; decide), fun q6 hq6 => ?_⟩
          have n7 := (Kp.new (S := []) (o := .tup [V.str "drop", tv]) hq6)
          exact k (.ref q6) (.drop tn) _ (k5.trans n7) ⟨q6, tv, rfl, upd_same, ht5.keep n7.tp⟩
end
end CM
/-! The law's own helpers: the deeds. -/
namespace CM
open PySem L2
theorem putK_mem {kvs : List (List Key × V)} {k : List Key} {v : V} {p : List Key × V} (h : p ∈ putK kvs k v) : p ∈ kvs ∨ (p.1 = k ∧ p.2 = v) := by
  unfold putK at h
  split at h
  · obtain ⟨q, hq, e⟩ := List.mem_map.mp h
    by_cases c : q.1 = k
    · rw [if_pos c] at e
      exact .inr ⟨e ▸ c, e ▸ rfl⟩
    · rw [if_neg c] at e
      exact .inl (e ▸ hq)
  · rcases List.mem_append.mp h with h | h
    · exact .inl h
    · rw [List.mem_singleton.mp h]
      exact .inr ⟨rfl, rfl⟩
theorem putK_len {kvs : List (List Key × V)} {k : List Key} {v : V} (h : 0 < kvs.length) : 0 < (putK kvs k v).length := by
  unfold putK
  split
  · rw [List.length_map]; exact h
  · rw [List.length_append]; omega
theorem KindsIs.put {kvs : List (List Key × V)} {n : Nm} {k : Str} (h : KindsIs kvs) (hn : okS n.1) (hk : okS k) : KindsIs (putK kvs (keyN n) (.str k)) :=
  ⟨fun p hp => (putK_mem hp).elim (h.all p) fun e => ⟨n, k, e.1, hn, e.2, hk⟩, putK_len h.some⟩
section
variable {P : Program} {w : World} {K : PySem.W.Frag} {mg : Str → Option Value} {base : Heap}
def spDeeds : Sp := fun vs H Q _ => ∃ (a b : Addr) (cs : List Int) (hs : List Str), vs = [.ref a, .ref b] ∧ H a = some (.lst (cs.map V.int)) ∧ cs.length ≤ 40 ∧ H b = some (.lst (hs.map V.str)) ∧ 0 < hs.length ∧ (∀ x ∈ hs, HandOk x) ∧
  ∀ (q : Addr) (ws : List V) (ds : List Deed) (H' : Hp), Kp [] H H' → H q = none → H' q = some (.lst ws) → DeedsIs H' ws ds → Numbered ds → ds.length ≤ 40 → Q (.ref q) H'
abbrev nDeeds : List Str := ["_law_cells", "_law_hands_here", "_law_kinds", "_law_rows", "_law_cell", "_law_xs", "_law_hand", "_law_name", "_law_seen", "_law_act_here", "_law_deed"]
theorem scDeeds : FnScope nDeeds ["_law_cells", "_law_hands_here"] (defScope sDeeds) := ⟨rfl, rfl, rfl, by decide +kernel, rfl, by decide +kernel, by decide +kernel⟩
theorem ok_deeds {f fS fA C R : Addr} {fd fdS fdA : FuncData} (F : Fun K "_law_deeds" "_law_deeds" sDeeds f fd) (T : Txt K mg C R)
    (GS : FnOk P w K mg base CX0 1 fS fdS ["_law_cell", "_law_many"] spStream) (bS : Binds K fdS ["_law_cell", "_law_many"] []) (mS : mg "_law_stream" = some (.ref fS)) (kS : PySem.W.keepIn K (.ref fS) = true)
    (GA : FnOk P w K mg base CX0 1 fA fdA ["_law_xs", "_law_kinds", "_law_hands_here"] spAct) (bA : Binds K fdA ["_law_xs", "_law_kinds", "_law_hands_here"] []) (mA : mg "_law_act" = some (.ref fA)) (kA : PySem.W.keepIn K (.ref fA) = true) :
    FnOk P w K mg base CX0 2 f fd ["_law_cells", "_law_hands_here"] spDeeds := by
  refine F.ok scDeeds (fun vs H Q E h => ?_) (fun cdv A outer s H vs Q E hr h => ?_)
  · obtain ⟨a, b, cs, hs, rfl, _⟩ := h
    rfl
  · obtain ⟨a, b, cs, hs, rfl, ha, hcl, hb, hs0, hhs, k⟩ := h
    have hu := hu_of hr
    refine ⟨_, pss_cons (ps_set (i := 2) scDeeds.nd rfl (Or.inl rfl) (pe_dispT hu (pe_tup (pa_cons pe_str (pa_cons pe_int pa_nil))) pe_str))
      (pss_cons (ps_set (i := 3) scDeeds.nd rfl (Or.inl rfl) (pe_lst pa_nil))
      (pss_cons (ps_for PassesOwn.never rfl (pi_list (pv 0)) (pg_name (i := 4) scDeeds.nd rfl (Or.inl rfl))
        (pss_cons (ps_set (i := 5) scDeeds.nd rfl (Or.inl rfl) (pe_call GS hr rfl mS kS bS .nil pass0 (pa_cons (pv 4) (pa_cons pe_int pa_nil))))
        (pss_cons (ps_set (i := 6) scDeeds.nd rfl (Or.inr rfl) (pe_ix ix_list (pv 1) (pe_op op_mod (pe_ix ix_list (pv 5) pe_int (fun _ _ => rfl)) (pe_callB call_len_seq (by rfl) T.len PySem.boot_len (pa_cons (pv 1) pa_nil))) (fun _ _ => rfl)))
        (pss_cons (ps_set (i := 7) scDeeds.nd rfl (Or.inl rfl) (pe_tup (pa_cons (pv 6) (pa_cons (pe_op op_add pe_int (pe_callB call_len_seq (by rfl) T.len PySem.boot_len (pa_cons
            (pe_lc (own := [("_law_deed", 10)]) (g := gName 10) rfl scDeeds.nd (pi_list (pv 3)) (blkOk_by (own := [("_law_deed", 10)]) (N := nDeeds) (sc := defScope sDeeds) (by decide +kernel))
              (fun _ _ _ _ _ => pg_name (i := 10) scDeeds.nd rfl (Or.inl rfl))
              (fun _ _ _ _ _ => pts_one (pt_cmpR op_eq (pe_ix (ixK (K := K)) (pe_ix (ixK (K := K)) (pv 10) pe_int (fun _ _ => rfl)) pe_int (fun _ _ => rfl)) (pv 6) (nomark _)))
              (fun _ _ _ _ _ => pv 10)) pa_nil))) pa_nil))))
        (pss_cons (ps_set (i := 8) scDeeds.nd rfl (Or.inl rfl) (pe_tup pa_nil))
        (C8.pss_cut (ps_if (pt_cmpR op_gt (pe_ix ix_tup (pv 7) pe_int (fun _ _ => rfl)) pe_int (nomark _))
          (pss_one (ps_set (i := 8) scDeeds.nd rfl (Or.inl rfl) (pe_tup (pa_cons (pe_tup (pa_cons (pv 6) (pa_cons (pe_op op_sub (pe_ix ix_tup (pv 7) pe_int (fun _ _ => rfl)) pe_int) pa_nil))) pa_nil)))) pss_nil)
        (pss_cons (ps_set (i := 9) scDeeds.nd rfl (Or.inl rfl) (pe_call GA hr rfl mA kA bA .nil pass0 (pa_cons (pv 5) (pa_cons (pv 2) (pa_cons (pv 1) pa_nil)))))
        (C8.pss_cut (ps_if (pt_cmpR op_eq (pe_ix ix_tup (pv 9) pe_int (fun _ _ => rfl)) pe_str (nomark _))
          (pss_one (ps_dput hu (pv 2) (pv 7) (pe_ix ix_tup (pv 9) pe_int (fun _ _ => rfl)) rfl)) pss_nil)
        (pss_one (ps_expr (pe_bm PySem.F.plainAttrs_list PySem.F.slot_list_append PySem.F.type_list_append mt_append (pv 3) (pa_cons (pe_tup (pa_cons (pv 7) (pa_cons (pv 8) (pa_cons (pv 9) pa_nil)))) pa_nil))))))))))))
      (pss_one (ps_ret (pv 3))))), ?_⟩
    -- kinds = {('', 0): 'map'}; rows = []
    intro d hd
    refine ⟨(by show 2 ≤ sizeLine; decide), fun t0 ht0 => ?_⟩
    have ndt : t0 ≠ d := fun z => by rw [z, upd_same] at ht0; cases ht0
    refine ⟨by rw [upd_ne ndt.symm, upd_same], t0, keyN ROOT, rfl, upd_same, ?_⟩
    have k0 : Kp [] H (upd (upd (upd H d (.dT [])) t0 (.tup [V.str "", V.int 0])) d (.dT [(keyN ROOT, V.str "map")])) := ((Kp.new hd).trans (Kp.new ht0)).over hd
    have hd0 : (upd (upd (upd H d (.dT [])) t0 (.tup [V.str "", V.int 0])) d (.dT [(keyN ROOT, V.str "map")])) d = some (.dT [(keyN ROOT, V.str "map")]) := upd_same
    generalize upd (upd (upd H d (.dT [])) t0 (.tup [V.str "", V.int 0])) d (.dT [(keyN ROOT, V.str "map")]) = H0 at k0 hd0 ⊢
    have KI0 : KindsIs [(keyN ROOT, V.str "map")] := ⟨fun p hp => ⟨ROOT, "map", by rw [List.mem_singleton.mp hp], okEmpty, by rw [List.mem_singleton.mp hp], okMap⟩, Nat.zero_lt_one⟩
    refine ⟨(by show 0 ≤ sizeLine; decide), fun r hr0 => ?_⟩
    have ndr : d ≠ r := ne_of_none hd0 hr0
    have hrH : H r = none := k0.free hr0
    refine ⟨_, rfl, a, rfl, ⟨_, SqL.of ((k0.trans (Kp.new hr0)).same _ _ ha)⟩, for_list (K := K) (a := a) (xs := cs.map V.int) (fun i σ H2 => ∃ (kvs : List (List Key × V)) (ws : List V) (ds : List Deed) (v4 v5 v6 v7 v8 v9 : Option V),
      σ = [some (.ref a), some (.ref b), some (.ref d), some (.ref r), v4, v5, v6, v7, v8, v9, none] ∧ Kp [] H H2 ∧ H2 d = some (.dT kvs) ∧ KindsIs kvs ∧ kvs.length ≤ i + 1 ∧ H2 r = some (.lst ws) ∧ DeedsIs H2 ws ds ∧ Numbered ds ∧ ds.length = i) ?_ ?_ ?_ ?_⟩
    · exact ⟨_, [], [], none, none, none, none, none, none, rfl, k0.trans (Kp.new hr0), by rw [upd_ne ndr]; exact hd0, KI0, Nat.le_refl _, upd_same, .nil, .nil, rfl⟩
    · rintro i σ H2 _ ⟨_, _, _, _, _, _, _, _, _, _, k2, _⟩
      exact SqL.of (k2.same _ _ ha)
    · rintro i x σ H2 hx ⟨kvs, ws, ds, v4, v5, v6, v7, v8, v9, rfl, k2, hd2, KI, hkl, hr2, hds, hN, hdl⟩
      have hi : i < (cs.map V.int).length := (List.getElem?_eq_some_iff.mp hx).1
      rw [List.length_map] at hi
      rw [List.getElem?_map] at hx
      cases hz : cs[i]? with
      | none => rw [hz] at hx; cases hx
      | some z =>
        rw [hz] at hx
        cases hx
        have hwl : ws.length = i := by rw [Paired.length hds, hdl]
        -- xs = stream(cell, 6)
        refine ⟨_, rfl, z, 6, rfl, by decide, fun xa ns H3 k3 _ hx3 hnl hns => ?_⟩
        have k23 := k2.trans k3
        have hb3 := SqL.of (K := K) (k23.same _ _ hb)
        obtain ⟨x0, hx0, _⟩ := at_int (ns := ns) (j := 0) 0 rfl (by omega)
        have hl : (0 : Int) < (((hs.map V.str).length : Nat) : Int) := by rw [List.length_map]; omega
        obtain ⟨hv3, he1, he2, _⟩ := at_in (xs := hs.map V.str) (z := x0 % ((hs.map V.str).length : Int)) (Int.emod_nonneg _ (by omega)) (Int.emod_lt_of_pos _ hl)
        obtain ⟨hand, hm3, rfl⟩ := List.mem_map.mp he2
        have hho := (hhs _ hm3).1
        -- hand
        refine ⟨_, rfl, _, rfl, xa, _, _, _, rfl, rfl, SqL.of hx3, hx0, _, rfl, b, _, rfl, .inl hb3, _, _, rfl, rfl, hl, b, _, _, _, rfl, rfl, hb3, he1, ?_⟩
        -- name
        have hr3 := k3.same _ _ hr2
        have hd3 := k3.same _ _ hd2
        have hds3 := hds.keep k3.tp
        refine ⟨_, rfl, _, rfl, r, rfl, ⟨_, SqL.of hr3⟩, fun D hD => lc_list (K := K) (a := r) (xs := ws) (fun j H4 => ∃ acc : List V, H4 D = some (.lst acc) ∧ acc.length = cnt (ds.take j) hand ∧ Kp [] H3 H4) ⟨[], upd_same, rfl, Kp.new hD⟩ (fun j H4 _ ⟨_, _, _, k4⟩ => SqL.of (k4.same _ _ hr3)) ?_ ?_⟩
        · rintro j x H4 hxj ⟨acc, hacc, hal, k4⟩
          obtain ⟨e, he, c, nv, sv, av, rfl, hc, hnv, hav⟩ := paired_get hds3 hxj
          obtain ⟨na, rfl, hna, _⟩ := hnv
          have hjl : j < ds.length := (List.getElem?_eq_some_iff.mp he).1
          refine ⟨rfl, _, rfl, c, _, _, _, rfl, rfl, SqT.of (k4.same _ _ hc), at_of (j := 0) rfl rfl, na, _, _, _, rfl, rfl, SqT.of (k4.same _ _ hna), at_of (j := 0) rfl rfl, _, rfl, rfl, _, rfl, ?_⟩
          have ecn : cnt (ds.take (j + 1)) hand = cnt (ds.take j) hand + if e.name.1 = hand then 1 else 0 := by
            rw [List.take_add_one, he]
            exact cnt_snoc _ _ _
          refine ite2 (fun hc2 => ?_) (fun hc2 => ?_)
          · have e1 : e.name.1 = hand := by
              have := of_decide_eq_true hc2
              injection this
            refine ⟨_, rfl, acc, hacc, ?_, _, upd_same, ?_, k4.over hD⟩
            · have : acc.length ≤ j := by
                rw [hal]
                exact Nat.le_trans (List.length_filter_le _ _) (by rw [List.length_take]; omega)
              exact Nat.lt_of_le_of_lt (show acc.length ≤ 1000 by omega) (by decide)
            · rw [List.length_append, hal, ecn, if_pos e1]
              rfl
          · have e1 : ¬ e.name.1 = hand := fun z => hc2 (decide_eq_true (by show V.str e.name.1 = V.str hand; rw [z]))
            exact ⟨acc, hacc, by rw [hal, ecn, if_neg e1]; rfl, k4⟩
        · rintro H4 ⟨acc, hacc, hal, k4⟩
          rw [hwl, ← hdl, List.take_of_length_le (Nat.le_refl _)] at hal
          refine ⟨D, acc, rfl, .inl (SqL.of hacc), _, _, rfl, rfl, (by show 2 ≤ sizeLine; decide), fun t ht => ?_⟩
          have k5 := k4.trans (Kp.new (S := []) (o := .tup [V.str hand, V.int (1 + (acc.length : Int))]) ht)
          have hnm : NameIs (upd H4 t (.tup [V.str hand, V.int (1 + (acc.length : Int))])) (.ref t) (hand, 1 + (acc.length : Int)) := ⟨t, rfl, upd_same, hho⟩
          have hct : (1 + (acc.length : Int)) = 1 + (cnt ds hand : Int) := by rw [hal]
          have k25 := k23.trans k5
          have hd5 := k5.same _ _ hd3
          have hr5 := k5.same _ _ hr3
          have hx5 := k5.same _ _ hx3
          have hds5 := hds3.keep k5.tp
          generalize upd H4 t (.tup [V.str hand, V.int (1 + (acc.length : Int))]) = H5 at k5 hnm k25 hd5 hr5 hx5 hds5 ⊢
          rw [hct] at hnm
          -- seen = ()
          refine ⟨(by show 0 ≤ sizeLine; decide), fun t2 ht2 => ?_⟩
          have k6 : Kp [] H5 (upd H5 t2 (.tup [])) := Kp.new ht2
          refine ⟨fun σ' H6 => ∃ sv : V, σ' = [some (.ref a), some (.ref b), some (.ref d), some (.ref r), some (.int z), some (.ref xa), some (.str hand), some (.ref t), some sv, v9, none] ∧ Kp [] H5 H6, ?_, ?_⟩
          · obtain ⟨t', e', ht5, _⟩ := hnm
            cases e'
            refine ⟨_, rfl, t, _, _, _, rfl, rfl, SqT.of (k6.same _ _ ht5), at_of (j := 1) rfl rfl, _, _, rfl, rfl, _, rfl, ?_⟩
            refine ite2 (fun _ => ?_) (fun _ => ?_)
            · refine ⟨_, rfl, _, rfl, t, _, _, _, rfl, rfl, SqT.of (k6.same _ _ ht5), at_of (j := 1) rfl rfl, _, _, rfl, rfl, (by show 2 ≤ sizeLine; decide), fun t3 ht3 => ⟨(by show 1 ≤ sizeLine; decide), fun t4 ht4 => ?_⟩⟩
              exact ⟨.ref t4, rfl, (k6.trans (Kp.new ht3)).trans (Kp.new ht4)⟩
            · exact ⟨.ref t2, rfl, k6⟩
          · rintro σ' H6 ⟨sv, rfl, k6⟩
            -- act
            have k26 := k25.trans k6
            refine ⟨_, rfl, _, rfl, _, rfl, xa, d, b, ns, kvs, hs, rfl, k6.same _ _ hx5, hnl, k6.same _ _ hd5, KI, k26.same _ _ hb, hs0, hhs, fun av c H7 k7 hav => ?_⟩
            have k27 := k26.trans k7
            have hnm7 := hnm.keep (k6.trans k7).tp
            have hd7 := k7.same _ _ (k6.same _ _ hd5)
            have hr7 := k7.same _ _ (k6.same _ _ hr5)
            have hds7 := hds5.keep (k6.trans k7).tp
            refine ⟨fun σ' H8 => ∃ kvs', σ' = [some (.ref a), some (.ref b), some (.ref d), some (.ref r), some (.int z), some (.ref xa), some (.str hand), some (.ref t), some sv, some av, none] ∧ Kp [] H H8 ∧ Tk H7 H8 ∧ H8 d = some (.dT kvs') ∧ KindsIs kvs' ∧ kvs'.length ≤ i + 2 ∧ H8 r = some (.lst ws), ?_, ?_⟩
            · have stay : ∃ kvs', [some (V.ref a), some (.ref b), some (.ref d), some (.ref r), some (.int z), some (.ref xa), some (.str hand), some (.ref t), some sv, some av, none] = [some (.ref a), some (.ref b), some (.ref d), some (.ref r), some (.int z), some (.ref xa), some (.str hand), some (.ref t), some sv, some av, none] ∧ Kp [] H H7 ∧ Tk H7 H7 ∧ H7 d = some (.dT kvs') ∧ KindsIs kvs' ∧ kvs'.length ≤ i + 2 ∧ H7 r = some (.lst ws) :=
                ⟨kvs, rfl, k27, fun _ _ e => e, hd7, KI, by omega, hr7⟩
              cases c with
              | make kd h sp =>
                obtain ⟨c1, hv, pv', rfl, hc1, hkd, _⟩ := hav
                refine ⟨_, rfl, c1, _, _, _, rfl, rfl, SqT.of hc1, at_of (j := 0) rfl rfl, rfl, _, rfl, ?_⟩
                refine iteY (by decide +kernel) ?_
                refine ⟨_, rfl, c1, _, _, _, rfl, rfl, SqT.of hc1, at_of (j := 1) rfl rfl, _, rfl, _, rfl, d, _, rfl, dput_nm hd7 hnm7 (Nat.lt_of_le_of_lt (show kvs.length ≤ 1000 by omega) (by decide)), ?_⟩
                have nrd : r ≠ d := ndr.symm
                refine ⟨_, rfl, k27.over hd, (Kp.set (S := [d]) hd7 (fun xs z => by cases z) (by simp)).tp, upd_same, KI.put hho hkd, ?_, by rw [upd_ne nrd]; exact hr7⟩
                have := length_putK kvs (keyN (hand, 1 + (cnt ds hand : Int))) (V.str kd)
                omega
              | move t1 h sp =>
                obtain ⟨c1, tv, hv, pv', rfl, hc1, _⟩ := hav
                refine ⟨_, rfl, c1, _, _, _, rfl, rfl, SqT.of hc1, at_of (j := 0) rfl rfl, rfl, _, rfl, ?_⟩
                refine iteN (by decide +kernel) ?_
                exact stay
              | drop t1 =>
                obtain ⟨c1, tv, rfl, hc1, _⟩ := hav
                refine ⟨_, rfl, c1, _, _, _, rfl, rfl, SqT.of hc1, at_of (j := 0) rfl rfl, rfl, _, rfl, ?_⟩
                refine iteN (by decide +kernel) ?_
                exact stay
            · rintro σ' H8 ⟨kvs', rfl, k28, t78, hd8, KI8, hkl8, hr8⟩
              -- rows.append((name, seen, act))
              refine ⟨_, rfl, .inl ⟨rfl, _, SqL.of hr8⟩, _, rfl, _, rfl, _, rfl, (by show 3 ≤ sizeLine; decide), fun u hu8 => ?_⟩
              have k9 : Kp [] H8 (upd H8 u (.tup [V.ref t, sv, av])) := Kp.new hu8
              have hr9 := k9.same _ _ hr8
              refine ⟨r, _, _, rfl, rfl, hr9, Nat.lt_of_le_of_lt (show ws.length ≤ 1000 by omega) (by decide), ?_⟩
              have k10 : Kp [r] (upd H8 u (.tup [V.ref t, sv, av])) (upd (upd H8 u (.tup [V.ref t, sv, av])) r (.lst (ws ++ [V.ref u]))) := Kp.set hr9 (fun xs z => by cases z) (by simp)
              have t10 : Tk H7 (upd (upd H8 u (.tup [V.ref t, sv, av])) r (.lst (ws ++ [V.ref u]))) := fun b xs e => k10.tp _ _ (k9.tp _ _ (t78 _ _ e))
              refine ⟨kvs', _, ds ++ [⟨(hand, 1 + (cnt ds hand : Int)), c⟩], _, _, _, _, _, _, rfl, (k28.trans k9).over hrH, ?_, KI8, by omega, upd_same, ?_, hN.snoc rfl, by rw [List.length_append, hdl]; rfl⟩
              · rw [upd_ne ndr]
                exact k9.same _ _ hd8
              · exact Paired.snoc (hds7.keep t10) ⟨u, .ref t, sv, av, rfl, k10.tp _ _ upd_same, hnm7.keep t10, hav.keep t10⟩
    · rintro σ H2 ⟨kvs, ws, ds, v4, v5, v6, v7, v8, v9, rfl, k2, hd2, KI, hkl, hr2, hds, hN, hdl⟩
      rw [List.length_map] at hdl
      exact ⟨_, rfl, k r ws ds H2 k2 hrH hr2 hds hN (by omega)⟩
end
end CM
/-! The law: what it needs beside the walk. -/
namespace CM
open PySem L2
/-! ### apart -/
def Sep (xs ys : List Addr) : Prop := ∀ x ∈ xs, x ∉ ys
theorem Sep.sub {xs ys zs ws : List Addr} (h : Sep xs ys) (h1 : ∀ z ∈ zs, z ∈ xs) (h2 : ∀ z ∈ ws, z ∈ ys) : Sep zs ws := fun x hx hw => h x (h1 x hx) (h2 x hw)
theorem sep_new {H : Hp} {xs ys : List Addr} (h1 : ∀ x ∈ xs, ∃ o, H x = some o) (h2 : ∀ y ∈ ys, H y = none) : Sep xs ys ∧ Sep ys xs := by
  have ne : ∀ x ∈ xs, ∀ y ∈ ys, x ≠ y := fun x hx y hy e => by
    obtain ⟨o, ho⟩ := h1 x hx
    have := h2 y hy
    rw [← e, ho] at this
    cases this
  exact ⟨fun x hx hy => ne x hx x hy rfl, fun y hy hx => ne y hx y hy rfl⟩
theorem TreeAt.there {C : Addr} {H : Hp} {p d l : Addr} {s : TSt} {n : Nat} (x : TreeAt C H p d l s n) : ∀ y ∈ [p, d, l], ∃ o, H y = some o := by
  obtain ⟨⟨dx, h1⟩, ⟨kvs, h2, _⟩, ws, h3, _⟩ := x
  intro y hy
  simp only [List.mem_cons, List.not_mem_nil, or_false] at hy
  rcases hy with rfl | rfl | rfl
  · exact ⟨_, h1⟩
  · exact ⟨_, h2⟩
  · exact ⟨_, h3⟩
theorem TreeAt.keepS {C : Addr} {S : List Addr} {H H' : Hp} {p d l : Addr} {s : TSt} {n : Nat} (x : TreeAt C H p d l s n) (k : Kp S H H') (h : Sep [p, d, l] S) : TreeAt C H' p d l s n :=
  x.keep k (h p (by simp)) (h d (by simp)) (h l (by simp))
theorem Kp.born {x : Addr} {S : List Addr} {H H' : Hp} (k : Kp (x :: S) H H') (h : H x = none) : Kp S H H' :=
  ⟨fun b o e hn => k.at' b o e (by
    intro hb
    rcases List.mem_cons.mp hb with e2 | hb
    · rw [e2, h] at e; cases e
    · exact hn hb), k.tp, k.dom⟩
/-- a new instance and its __init__ -/
theorem made_kp {C x dx : Addr} {H H1 : Hp} (nx : H x = none) (nd : H dx = none) (ne : dx ≠ x) (k : Kp [x] (upd (upd H dx (.own x)) x (.ins C dx [])) H1) : Kp [] H H1 := by
  have k1 : Kp [x] H (upd H dx (.own x)) := Kp.new nd
  have k2 : Kp [x] (upd H dx (.own x)) (upd (upd H dx (.own x)) x (.ins C dx [])) := Kp.new (by rw [upd_ne ne.symm]; exact nx)
  exact ((k1.trans k2).trans k).born nx
theorem made_free {C x dx : Addr} {H : Hp} {z : Addr} (hz : upd (upd H dx (.own x)) x (.ins C dx []) z = none) : H z = none := by
  have h1 : z ≠ x := fun e => by rw [e, upd_same] at hz; cases hz
  have h2 : z ≠ dx := fun e => by rw [upd_ne h1, e, upd_same] at hz; cases hz
  rw [upd_ne h1, upd_ne h2] at hz
  exact hz
theorem three_free {H : Hp} {p d l : Addr} (h1 : H p = none) (h2 : H d = none) (h3 : H l = none) : ∀ y ∈ [p, d, l], H y = none := by
  intro y hy
  simp only [List.mem_cons, List.not_mem_nil, or_false] at hy
  rcases hy with rfl | rfl | rfl
  · exact h1
  · exact h2
  · exact h3
theorem one_there {H : Hp} {a : Addr} {o : HO} (h : H a = some o) : ∀ y ∈ [a], ∃ o, H y = some o := fun y hy => ⟨o, by
  have e := List.mem_singleton.mp hy
  subst e
  exact h⟩
/-! ### lists -/
theorem cut_1_41 (ns : List Int) : ∃ cs : List Int, cutV (ns.map V.int) (some 1) (some 41) = cs.map V.int ∧ cs.length ≤ 40 := by
  refine ⟨(ns.drop (min 1 ns.length)).take (min 41 ns.length - min 1 ns.length), ?_, ?_⟩
  · unfold cutV
    rw [show HT.sIx (ns.map V.int).length 0 (some 1) = min 1 (ns.map V.int).length from HT.sIx_nat _ _ 1, show HT.sIx (ns.map V.int).length (ns.map V.int).length (some 41) = min 41 (ns.map V.int).length from HT.sIx_nat _ _ 41, List.length_map, List.map_take, List.map_drop]
  · rw [List.length_take]
    omega
theorem cutV_from (xs : List V) (r : Nat) : cutV xs (some ((r : Nat) : Int)) none = xs.drop r := by
  unfold cutV
  rw [show HT.sIx xs.length xs.length none = xs.length from rfl, HT.sIx_nat]
  by_cases h : r ≤ xs.length
  · rw [Nat.min_eq_left h]
    refine List.take_of_length_le ?_
    rw [List.length_drop]
    exact Nat.le_refl _
  · rw [Nat.min_eq_right (by omega), List.drop_of_length_le (by omega), List.drop_of_length_le (by omega), List.take_nil]
theorem nodup_le {α : Type} [DecidableEq α] : ∀ {l m : List α}, l.Nodup → (∀ x ∈ l, x ∈ m) → l.length ≤ m.length
  | [], _, _, _ => Nat.zero_le _
  | x :: l, m, hn, h => by
    obtain ⟨h1, h2⟩ := List.nodup_cons.mp hn
    have ih := nodup_le (l := l) (m := m.filter fun y => decide (y ≠ x)) h2 fun y hy => List.mem_filter.mpr ⟨h y (List.mem_cons_of_mem _ hy), decide_eq_true fun e => h1 (e ▸ hy)⟩
    have := filter_out (h x List.mem_cons_self)
    show l.length + 1 ≤ m.length
    omega
abbrev four : List Str := ["a", "b", "c", "d"]
theorem four_nd : four.Nodup := by decide +kernel
theorem four_ok : ∀ x ∈ four, okS x := by decide +kernel
theorem four_free {hs : List Str} (h : hs.length ≤ 3) : 0 < (four.filter fun x => !decide (x ∈ hs)).length := by
  refine Nat.pos_of_ne_zero fun e => ?_
  have e := List.length_eq_zero_iff.mp e
  have all : ∀ x ∈ four, x ∈ hs := fun x hx => by
    by_cases c : x ∈ hs
    · exact c
    · have : x ∈ four.filter fun x => !decide (x ∈ hs) := List.mem_filter.mpr ⟨hx, by simp [c]⟩
      rw [e] at this
      cases this
  have := nodup_le four_nd all
  have : four.length = 4 := rfl
  omega
theorem inV_str (x : Str) : ∀ hs : List Str, inV (.str x) (hs.map V.str) = decide (x ∈ hs)
  | [] => rfl
  | y :: hs => by
    have ih := inV_str x hs
    unfold inV at ih ⊢
    rw [List.map_cons, List.any_cons, ih]
    show (y == x || decide (x ∈ hs)) = decide (x ∈ y :: hs)
    by_cases e : y = x
    · subst e
      simp
    · have e' : ¬ x = y := fun z => e z.symm
      simp [e, e']
theorem flat_strs (hs : List Str) : (hs.map V.str).all flatV = true := by
  rw [List.all_eq_true]
  intro v hv
  obtain ⟨x, _, rfl⟩ := List.mem_map.mp hv
  rfl
theorem notInK {X : Cx} {K : PySem.W.Frag} (h : X.K = K := by rfl) : OpR X (compareOp .NotIn) (rIn K true) := h ▸ op_notIn_seq
/-! ### words -/
theorem wrd_ok (ds : List Deed) (i : Nat) : okS (wrd ds i) := by
  have h : ∀ s d, okS (tstep s d).1 := fun s d => by
    obtain ⟨n, c⟩ := d
    have o1 : okS sDone := by decide +kernel
    have o2 : okS sIdle := by decide +kernel
    have o3 : okS sLost := by decide +kernel
    cases c with
    | make k h sp =>
      by_cases z : fits s.1 h sp
      · rw [step_make_yes z]; exact o1
      · rw [step_make_no z]; exact o2
    | drop t =>
      cases e : s.1 t with
      | none => rw [step_drop_no e]; exact o2
      | some r => rw [step_drop_yes e]; exact o1
    | move t h sp =>
      cases e : s.1 t with
      | none => rw [step_move_none e]; exact o2
      | some r =>
        by_cases z : fits s.1 h sp
        · by_cases u : Up s.1 t h
          · rw [step_move_lost e z u]; exact o3
          · rw [step_move_done e z u]; exact o1
        · rw [step_move_idle e z]; exact o2
  unfold wrd
  split
  · exact h _ _
  · exact okEmpty
/-- the words from deed c on, n of them -/
noncomputable def wrds (ds : List Deed) (c n : Nat) : List V := (List.range n).map fun j => V.str (wrd ds (c + j))
theorem wrds_len (ds : List Deed) (c n : Nat) : (wrds ds c n).length = n := by
  unfold wrds
  rw [List.length_map, List.length_range]
theorem wrds_snoc (ds : List Deed) (c n : Nat) : wrds ds c (n + 1) = wrds ds c n ++ [V.str (wrd ds (c + n))] := by
  unfold wrds
  rw [List.range_succ, List.map_append]
  rfl
theorem wrds_drop (ds : List Deed) (c n : Nat) (h : c ≤ n) : (wrds ds 0 n).drop c = wrds ds c (n - c) := by
  apply List.ext_getElem?
  intro j
  unfold wrds
  rw [List.getElem?_drop, List.getElem?_map, List.getElem?_map]
  by_cases hj : j < n - c
  · rw [List.getElem?_range (by omega), List.getElem?_range hj]
    show some (V.str (wrd ds (0 + (c + j)))) = some (V.str (wrd ds (c + j)))
    rw [Nat.zero_add]
  · rw [List.getElem?_eq_none (by rw [List.length_range]; omega), List.getElem?_eq_none (by rw [List.length_range]; omega)]
    rfl
noncomputable def dWrds (ds : List Deed) (c n : Nat) : PyData := .list ((List.range n).map fun j => .str (wrd ds (c + j)))
theorem dWrds_dp {K : PySem.W.Frag} {H : Hp} {a : Addr} {ds : List Deed} {c n : Nat} (h : H a = some (.lst (wrds ds c n))) : Dp K H (.ref a) (dWrds ds c n) := by
  refine .lst (SqL.of h) ?_
  unfold wrds
  generalize List.range n = l
  induction l with
  | nil => exact .nil
  | cons j l ih => exact .cons (.str _) ih
theorem dWrds_can (ds : List Deed) (c n : Nat) : (dWrds ds c n).canLay0 = true := by
  show PyData.canLayAll0 _ = true
  generalize List.range n = l
  induction l with
  | nil => rfl
  | cons j l ih =>
    show (PyData.strOk (wrd ds (c + j)) && PyData.canLayAll0 _) = true
    rw [show PyData.strOk (wrd ds (c + j)) = true from wrd_ok ds (c + j), ih]
    rfl
theorem dWrds_shaped (ds : List Deed) (c n : Nat) : SeqAt.shaped (dWrds ds c n) = true := by
  refine shaped_of (dWrds_can ds c n) ?_
  have := depthAll_map (fun j => PyData.str (wrd ds (c + j))) 0 (List.range n) fun j _ => Nat.le_refl _
  show PyData.depthAll _ + 1 ≤ 64
  omega
theorem ne_self {d : PyData} (h : d.canLay0 = true) : (!PyData.eqv d d) = false := by
  rw [SeqAt.eqv_refl d h]
  rfl
theorem pair_can {a b : PyData} (h1 : a.canLay0 = true) (h2 : b.canLay0 = true) : (PyData.tuple [a, b]).canLay0 = true := by
  show (PyData.canLay0 a && (PyData.canLay0 b && true)) = true
  rw [h1, h2]
  rfl
theorem pair_shaped {a b : PyData} (h1 : a.canLay0 = true) (h2 : b.canLay0 = true) (d1 : a.depth ≤ 11) (d2 : b.depth ≤ 11) : SeqAt.shaped (PyData.tuple [a, b]) = true := by
  refine shaped_of (pair_can h1 h2) ?_
  show max a.depth (max b.depth 0) + 1 ≤ 64
  omega
end CM
/-! The law. -/
namespace CM
open PySem L2
section
variable {P : Program} {w : World} {K : PySem.W.Frag} {mg : Str → Option Value} {base : Heap}
def spLaw (K : PySem.W.Frag) : Sp := fun vs H Q _ => ∃ (a : Addr) (ns : List Int), vs = [.ref a] ∧ SqL K H a (ns.map V.int) ∧ ns.length ≤ 63 ∧ ∀ H', Q (.bl true) H'
abbrev nLaw : List Str := ["_law_script", "_law_first", "_law_hands_here", "_law_deeds_here", "_law_cut", "_law_whole", "_law_part", "_law_again", "_law_own", "_law_deed", "_law_words", "_law_rows", "_law_lost", "_law_handed", "_law_hand"]
theorem scLaw : FnScope nLaw ["_law_script"] (defScope sLaw) := ⟨rfl, rfl, rfl, by decide +kernel, rfl, by decide +kernel, by decide +kernel⟩
/-- a def of the module, ready to be called -/
structure Def (P : Program) (w : World) (K : PySem.W.Frag) (mg : Str → Option Value) (base : Heap) (k : Nat) (x : Str) (ps : List Str) (sp : Sp) (f : Addr) (fd : FuncData) : Prop where
  ok : FnOk P w K mg base CX0 k f fd ps sp
  bi : Binds K fd ps []
  at' : mg x = some (.ref f)
  kp : PySem.W.keepIn K (.ref f) = true
/-- a method of the class, ready to be called -/
structure Mth (P : Program) (w : World) (K : PySem.W.Frag) (mg : Str → Option Value) (base : Heap) (k : Nat) (C : Addr) (x : Str) (ps : List Str) (sp : Sp) (f : Addr) (fd : FuncData) : Prop where
  ok : FnOk P w K mg base CX0 k f fd ps sp
  bi : Binds K fd ps []
  me : Meth K C x f
theorem ok_law {f fC fH fD fI fHe fF fRw fL C R : Addr} {fd fdC fdH fdD fdI fdHe fdF fdRw fdL : FuncData} (F : Fun K "law" "law" sLaw f fd) (T : Txt K mg C R)
    (DC : Def P w K mg base 1 "_law_cell_at" ["_law_script", "_law_k"] (spCell K) fC fdC)
    (DH : Def P w K mg base 2 "_law_hands" ["_law_cell", "_law_many"] spHands fH fdH)
    (DD : Def P w K mg base 2 "_law_deeds" ["_law_cells", "_law_hands_here"] spDeeds fD fdD)
    (M : Mk K C fI) (GI : FnOk P w K mg base CX0 1 fI fdI ["self"] (spInit C)) (bI : Binds K fdI ["self"] [])
    (MH : Mth P w K mg base 3 C "hear" ["self", "deed"] (spHear C) fHe fdHe)
    (MF : Mth P w K mg base 1 C "fill" ["self", "rows", "lost"] (spFill C) fF fdF)
    (MR : Mth P w K mg base 1 C "rows" ["self"] (spRows C) fRw fdRw)
    (ML : Mth P w K mg base 1 C "lost" ["self"] (spLost C) fL fdL) :
    FnOk P w K mg base CX0 4 f fd ["_law_script"] (spLaw K) := by
  refine F.ok scLaw (fun vs H Q E h => ?_) (fun cdv A outer s H vs Q E hr h => ?_)
  · obtain ⟨a, ns, rfl, _⟩ := h
    rfl
  · obtain ⟨a, ns, rfl, hS, hlen, k⟩ := h
    have hu := hu_of hr
    have hr2 : Room 2 _ := hr.mono (by decide)
    have hr1 : Room 1 _ := hr.mono (by decide)
    refine ⟨_, pss_cons (ps_set (i := 1) scLaw.nd rfl (Or.inl rfl) (pe_call DC.ok hr1 rfl DC.at' DC.kp DC.bi .nil pass0 (pa_cons (pv 0) (pa_cons pe_int pa_nil))))
      (pss_cons (ps_set (i := 2) scLaw.nd rfl (Or.inr rfl) (pe_call DH.ok hr2 rfl DH.at' DH.kp DH.bi .nil pass0 (pa_cons (pv 1) (pa_cons (pe_op op_add pe_int (pe_op op_mod (pe_op op_fdiv (pv 1) pe_int) pe_int)) pa_nil))))
      (pss_cons (ps_set (i := 3) scLaw.nd rfl (Or.inl rfl) (pe_call DD.ok hr2 rfl DD.at' DD.kp DD.bi .nil pass0 (pa_cons (pe_slice sl_list (pv 0) (po_some pe_int) (po_some pe_int)) (pa_cons (pv 2) pa_nil))))
      (pss_cons (ps_set (i := 4) scLaw.nd rfl (Or.inl rfl) (pe_op op_mod (pe_op op_fdiv (pv 1) pe_int) (pe_op op_add (pe_callB call_len_seq (by rfl) T.len PySem.boot_len (pa_cons (pv 3) pa_nil)) pe_int)))
      (pss_cons (ps_set (i := 5) scLaw.nd rfl (Or.inr rfl) (pe_make0 M GI hr2 rfl T.mgC bI .nil pass0))
      (pss_cons (ps_set (i := 6) scLaw.nd rfl (Or.inl rfl) (pe_make0 M GI hr2 rfl T.mgC bI .nil pass0))
      (pss_cons (ps_set (i := 7) scLaw.nd rfl (Or.inr rfl) (pe_make0 M GI hr2 rfl T.mgC bI .nil pass0))
      (pss_cons (ps_set (i := 8) scLaw.nd rfl (Or.inl rfl) (pe_tup (pa_cons (pe_ix ix_list (pe_lc (own := [("_law_hand", 14)]) (g := gName 14) rfl scLaw.nd (pi_list (pe_lst (pa_cons pe_str (pa_cons pe_str (pa_cons pe_str (pa_cons pe_str pa_nil))))))
          (blkOk_by (own := [("_law_hand", 14)]) (N := nLaw) (sc := defScope sLaw) (by decide +kernel)) (fun _ _ _ _ _ => pg_name (i := 14) scLaw.nd rfl (Or.inl rfl))
          (fun _ _ _ _ _ => pts_one (pt_cmpR (notInK (K := K)) (pv 14) (pv 2) (by rfl))) (fun _ _ _ _ _ => pv 14)) pe_int (fun _ _ => rfl)) (pa_cons pe_int pa_nil))))
      (pss_cons (ps_expr (pe_meth (pv 7) T.cl MH.me MH.ok hr MH.bi .nil pass0 (pa_cons (pe_tup (pa_cons (pv 8) (pa_cons (pe_tup pa_nil) (pa_cons (pe_tup (pa_cons pe_str (pa_cons pe_str (pa_cons (pe_tup (pa_cons pe_str (pa_cons pe_int pa_nil))) (pa_cons pe_str pa_nil))))) pa_nil)))) pa_nil)))
      (pss_cons (ps_expr (pe_meth (pv 7) T.cl MH.me MH.ok hr MH.bi .nil pass0 (pa_cons (pe_tup (pa_cons (pe_tup (pa_cons (pe_ix ix_tup (pv 8) pe_int (fun _ _ => rfl)) (pa_cons pe_int pa_nil))) (pa_cons (pe_tup (pa_cons (pv 8) pa_nil)) (pa_cons (pe_tup (pa_cons pe_str (pa_cons (pv 8) (pa_cons (pv 8) (pa_cons pe_str pa_nil))))) pa_nil)))) pa_nil)))
      (pss_cons (ps_setLc (i := 10) (own := [("_law_deed", 9)]) (g := gName 9) (tt := tYes) rfl scLaw.nd rfl rfl (sw_true rfl rfl rfl (by decide +kernel)) (pi_list (pv 3))
          (blkOk_by (own := [("_law_deed", 9)]) (N := nLaw) (sc := defScope sLaw) (by decide +kernel)) (fun _ _ _ _ _ => pg_name (i := 9) scLaw.nd rfl (Or.inl rfl)) (fun _ _ _ _ _ => pts_nil)
          (fun _ _ _ _ _ => pe_meth (pv 5) T.cl MH.me MH.ok hr MH.bi .nil pass0 (pa_cons (pv 9) pa_nil)))
      (pss_cons (ps_for PassesOwn.never rfl (pi_list (pe_slice sl_list (pv 3) po_none (po_some (pv 4)))) (pg_name (i := 9) scLaw.nd rfl (Or.inl rfl))
          (pss_one (ps_expr (pe_meth (pv 6) T.cl MH.me MH.ok hr MH.bi .nil pass0 (pa_cons (pv 9) pa_nil)))))
      (pss_cons (ps_set (i := 11) scLaw.nd rfl (Or.inl rfl) (pe_meth0 (pv 6) T.cl MR.me MR.ok hr1 MR.bi .nil pass0))
      (pss_cons (ps_set (i := 12) scLaw.nd rfl (Or.inl rfl) (pe_meth0 (pv 6) T.cl ML.me ML.ok hr1 ML.bi .nil pass0))
      (pss_cons (ps_set (i := 13) scLaw.nd rfl (Or.inl rfl) (pe_tup (pa_cons (pe_callTy call_list_of (by rfl) T.list (by decide +kernel) (pa_cons (pv 11) pa_nil)) (pa_cons (pe_callTy call_list_of (by rfl) T.list (by decide +kernel) (pa_cons (pv 12) pa_nil)) pa_nil))))
      (pss_cons (ps_expr (pe_meth (pv 7) T.cl MF.me MF.ok hr1 MF.bi .nil pass0 (pa_cons (pe_ix ix_tup (pv 13) pe_int (fun _ _ => rfl)) (pa_cons (pe_ix ix_tup (pv 13) pe_int (fun _ _ => rfl)) pa_nil))))
      (pss_cons (ps_if (PW.pt (pw_or (pt_cmpR (op_neD hr.units) (pv 13) (pe_tup (pa_cons (pv 11) (pa_cons (pv 12) pa_nil))) (nomark _))
          (pw_or (pt_cmpR (op_neD hr.units) (pe_meth0 (pv 7) T.cl MR.me MR.ok hr1 MR.bi .nil pass0) (pv 11) (nomark _))
          (pw_or1 (pt_cmpR (op_neD hr.units) (pe_meth0 (pv 7) T.cl ML.me ML.ok hr1 ML.bi .nil pass0) (pv 12) (nomark _)))))) (pss_one (ps_ret pe_bl)) pss_nil)
      (pss_cons (ps_expr (pe_bm0 PySem.F.plainAttrs_list PySem.F.slot_list_clear PySem.F.type_list_clear mt_clear (pe_ix ix_tup (pv 13) pe_int (fun _ _ => rfl))))
      (pss_cons (ps_expr (pe_bm PySem.F.plainAttrs_list PySem.F.slot_list_append PySem.F.type_list_append mt_append (pe_ix ix_tup (pv 13) pe_int (fun _ _ => rfl)) (pa_cons (pv 8) pa_nil)))
      (pss_cons (ps_if (pt_cmpR (op_neD hr.units) (pe_lc (own := [("_law_deed", 9)]) (g := gName 9) (tt := tYes) rfl scLaw.nd (pi_list (pe_slice sl_list (pv 3) (po_some (pv 4)) po_none))
          (blkOk_by (own := [("_law_deed", 9)]) (N := nLaw) (sc := defScope sLaw) (by decide +kernel)) (fun _ _ _ _ _ => pg_name (i := 9) scLaw.nd rfl (Or.inl rfl)) (fun _ _ _ _ _ => pts_nil)
          (fun _ _ _ _ _ => pe_meth (pv 7) T.cl MH.me MH.ok hr MH.bi .nil pass0 (pa_cons (pv 9) pa_nil)))
          (pe_slice sl_list (pv 10) (po_some (pv 4)) po_none) (nomark _)) (pss_one (ps_ret pe_bl)) pss_nil)
      (pss_one (ps_ret (pe_and (pe_cmpR (op_eqD hr.units) (pe_meth0 (pv 7) T.cl MR.me MR.ok hr1 MR.bi .nil pass0) (pe_meth0 (pv 5) T.cl MR.me MR.ok hr1 MR.bi .nil pass0) (nomark _))
          (pe_one (pe_cmpR (op_eqD hr.units) (pe_meth0 (pv 7) T.cl ML.me ML.ok hr1 ML.bi .nil pass0) (pe_meth0 (pv 5) T.cl ML.me ML.ok hr1 ML.bi .nil pass0) (nomark _))))))))))))))))))))))))), ?_⟩
    -- first, hands, deeds
    refine ⟨_, rfl, a, ns, 0, rfl, hS, fun first => ?_⟩
    obtain ⟨m, hm⟩ : ∃ m : Nat, 1 + first / 24 % 3 = (m : Int) := ⟨(1 + first / 24 % 3).toNat, by have := Int.emod_nonneg (first / 24) (show (3 : Int) ≠ 0 by decide); omega⟩
    have hm3 : 1 ≤ m ∧ m ≤ 3 := by
      have h1 := Int.emod_nonneg (first / 24) (show (3 : Int) ≠ 0 by decide)
      have h2 := Int.emod_lt_of_pos (first / 24) (show (0 : Int) < 3 by decide)
      omega
    refine ⟨_, rfl, _, rfl, _, _, rfl, rfl, ⟨by decide, by decide⟩, _, _, rfl, rfl, (by show (0 : Int) < 3; decide), _, _, rfl, rfl, first, m, congrArg (fun z => [V.int first, V.int z]) hm, hm3.1, hm3.2, fun qh hs H1 k1 _ hqh hhl hho => ?_⟩
    obtain ⟨cs, hcs, hcl⟩ := cut_1_41 ns
    refine ⟨_, rfl, _, rfl, _, rfl, a, _, rfl, k1.seq (by simp) hS, fun sl hsl => ?_⟩
    rw [hcs]
    have k2 : Kp [] H1 (upd H1 sl (.lst (cs.map V.int))) := Kp.new hsl
    refine ⟨_, rfl, sl, qh, cs, hs, rfl, upd_same, hcl, k2.same _ _ hqh, by omega, hho, fun a3 ws ds H2 k3 _ ha3 hds hN hdl => ?_⟩
    have hqh2 := k3.same _ _ (k2.same _ _ hqh)
    have hwl : ws.length = ds.length := Paired.length hds
    have hnm := hN.names
    -- cut
    obtain ⟨c, hc⟩ : ∃ c : Nat, first / 72 % ((ws.length : Int) + 1) = (c : Int) := ⟨(first / 72 % ((ws.length : Int) + 1)).toNat, by have := Int.emod_nonneg (first / 72) (show (ws.length : Int) + 1 ≠ 0 by omega); omega⟩
    have hcw : c ≤ ws.length := by
      have := Int.emod_lt_of_pos (first / 72) (show (0 : Int) < (ws.length : Int) + 1 by omega)
      omega
    refine ⟨_, rfl, _, _, rfl, rfl, ⟨by decide, by decide⟩, _, rfl, a3, _, rfl, .inl (SqL.of ha3), _, _, rfl, rfl, _, _, rfl, rfl, (by show (0 : Int) < (ws.length : Int) + 1; omega), ?_⟩
    have hqh2' : H2 qh = some (.lst (hs.map V.str)) := hqh2
    -- three trees
    intro pw dxw nw1 nw2 nw3
    refine ⟨pw, dxw, rfl, upd_same, fun dw lw H3 W hdw hlw kw => ⟨rfl, ?_⟩⟩
    have kW : Kp [] H2 H3 := made_kp nw1 nw2 nw3 kw
    have fW := three_free nw1 (made_free hdw) (made_free hlw)
    intro pp dxp np1 np2 np3
    refine ⟨pp, dxp, rfl, upd_same, fun dp lp H4 Pt hdp hlp kp => ⟨rfl, ?_⟩⟩
    have kP : Kp [] H3 H4 := made_kp np1 np2 np3 kp
    have fP := three_free np1 (made_free hdp) (made_free hlp)
    intro pa dxa na1 na2 na3
    refine ⟨pa, dxa, rfl, upd_same, fun da la H5 At hda hla ka => ⟨rfl, ?_⟩⟩
    have kA : Kp [] H4 H5 := made_kp na1 na2 na3 ka
    have fA := three_free na1 (made_free hda) (made_free hla)
    have ha3' := kW.same _ _ ha3
    have ha4 := kP.same _ _ ha3'
    have sDW := (sep_new (one_there ha3) fW).1
    have sDP := (sep_new (one_there ha3') fP).1
    have sDA := (sep_new (one_there ha4) fA).1
    have sWP := sep_new W.there fP
    have W4 := W.same kP
    have sWA := sep_new W4.there fA
    have sPA := sep_new Pt.there fA
    have W5 := W4.same kA
    have P5 := Pt.same kA
    have ha5 := kA.same _ _ ha4
    have hds5 := hds.keep ((kW.trans kP).trans kA).tp
    have hqh5 := ((kW.trans kP).trans kA).same _ _ hqh2
    -- own
    refine ⟨(by show 4 ≤ sizeLine; decide), fun q4 hq4 => ?_⟩
    have k54 : Kp [] H5 (upd H5 q4 (.lst [V.str "a", V.str "b", V.str "c", V.str "d"])) := Kp.new hq4
    have hq44 : (upd H5 q4 (.lst [V.str "a", V.str "b", V.str "c", V.str "d"])) q4 = some (.lst [V.str "a", V.str "b", V.str "c", V.str "d"]) := upd_same
    have hqh54 := k54.same _ _ hqh5
    generalize upd H5 q4 (.lst [V.str "a", V.str "b", V.str "c", V.str "d"]) = H54 at k54 hq44 hqh54 ⊢
    have hq44 : H54 q4 = some (.lst (four.map V.str)) := hq44
    refine ⟨q4, rfl, ⟨_, SqL.of hq44⟩, fun D hD => lc_list (K := K) (a := q4) (xs := four.map V.str) (fun i H9 => H9 D = some (.lst (((four.take i).filter fun x => !decide (x ∈ hs)).map V.str)) ∧ Kp [] H54 H9) ⟨upd_same, Kp.new hD⟩ (fun i H9 _ z => SqL.of (z.2.same _ _ hq44)) ?_ ?_⟩
    · rintro i x H9 hx ⟨hD9, k9⟩
      rw [List.getElem?_map] at hx
      cases hz : four[i]? with
      | none => rw [hz] at hx; cases hx
      | some y =>
        rw [hz] at hx
        cases hx
        have hi : i < 4 := (List.getElem?_eq_some_iff.mp hz).1
        refine ⟨rfl, _, rfl, _, rfl, qh, _, rfl, .inl (SqL.of (k9.same _ _ hqh54)), rfl, flat_strs hs, _, rfl, ?_⟩
        have et : four.take (i + 1) = four.take i ++ [y] := by rw [List.take_add_one, hz]; rfl
        have ei : (if true = true then !inV (.str y) (hs.map V.str) else inV (.str y) (hs.map V.str)) = !decide (y ∈ hs) := by rw [if_pos rfl, inV_str]
        rw [ei]
        refine ite2 (fun hc2 => ?_) (fun hc2 => ?_)
        · refine ⟨_, rfl, _, hD9, ?_, ?_, k9.over hD⟩
          · rw [List.length_map]
            refine Nat.lt_of_le_of_lt (Nat.le_trans (List.length_filter_le _ _) (show (four.take i).length ≤ 1000 by rw [List.length_take]; omega)) (by decide)
          · rw [et, List.filter_append, List.filter_cons_of_pos (p := fun x => !decide (x ∈ hs)) hc2, List.filter_nil, List.map_append]
            exact upd_same
        · refine ⟨?_, k9⟩
          rw [et, List.filter_append, List.filter_cons_of_neg (p := fun x => !decide (x ∈ hs)) hc2]
          simpa using hD9
    · rintro H9 ⟨hD9, k9⟩
      have e4 : four.take (four.map V.str).length = four := rfl
      rw [e4] at hD9
      have hpos := four_free (hs := hs) (by omega)
      obtain ⟨ov, ho1, ho2, _⟩ := at_in (xs := (four.filter fun x => !decide (x ∈ hs)).map V.str) (z := 0) (by decide) (by rw [List.length_map]; omega)
      obtain ⟨own, hom, rfl⟩ := List.mem_map.mp ho2
      have hok : okS own := four_ok own (List.mem_filter.mp hom).1
      refine ⟨D, _, _, _, rfl, rfl, SqL.of hD9, ho1, (by show 2 ≤ sizeLine; decide), fun tow htow => ?_⟩
      have k59 : Kp [] H5 (upd H9 tow (.tup [V.str own, V.int 1])) := (k54.trans k9).trans (Kp.new htow)
      have hown : (upd H9 tow (.tup [V.str own, V.int 1])) tow = some (.tup [V.str own, V.int 1]) := upd_same
      generalize upd H9 tow (.tup [V.str own, V.int 1]) = H6 at k59 hown
      have A6 := At.same k59
      have W6 := W5.same k59
      have P6 := P5.same k59
      have ha6 := k59.same _ _ ha5
      have hds6 := hds5.keep k59.tp
      -- again hears a make of its own
      obtain ⟨⟨dx6, hpa6⟩, _⟩ := id A6
      refine ⟨_, rfl, pa, dx6, _, rfl, hpa6, flds_no _ _ (by decide +kernel) (by decide +kernel), _, rfl, (by show 0 ≤ sizeLine; decide), fun e0 he0 => ?_⟩
      refine ⟨(by show 2 ≤ sizeLine; decide), fun rt hrt => ?_⟩
      refine ⟨(by show 4 ≤ sizeLine; decide), fun am ham => ?_⟩
      refine ⟨(by show 3 ≤ sizeLine; decide), fun dm hdm => ?_⟩
      have j1 : Kp [] H6 (upd H6 e0 (.tup [])) := Kp.new he0
      have j2 : Kp [] (upd H6 e0 (.tup [])) (upd (upd H6 e0 (.tup [])) rt (.tup [V.str "", V.int 0])) := Kp.new hrt
      have hrt2 : (upd (upd H6 e0 (.tup [])) rt (.tup [V.str "", V.int 0])) rt = some (.tup [V.str "", V.int 0]) := upd_same
      generalize upd (upd H6 e0 (.tup [])) rt (.tup [V.str "", V.int 0]) = J2 at j2 hrt2 ham hdm ⊢
      have j3 : Kp [] J2 (upd J2 am (.tup [V.str "make", V.str "map", V.ref rt, V.str "own"])) := Kp.new ham
      have ham2 : (upd J2 am (.tup [V.str "make", V.str "map", V.ref rt, V.str "own"])) am = some (.tup [V.str "make", V.str "map", V.ref rt, V.str "own"]) := upd_same
      generalize upd J2 am (.tup [V.str "make", V.str "map", V.ref rt, V.str "own"]) = J3 at j3 ham2 hdm ⊢
      have j4 : Kp [] J3 (upd J3 dm (.tup [V.ref tow, V.ref e0, V.ref am])) := Kp.new hdm
      have hdm2 : (upd J3 dm (.tup [V.ref tow, V.ref e0, V.ref am])) dm = some (.tup [V.ref tow, V.ref e0, V.ref am]) := upd_same
      generalize upd J3 dm (.tup [V.ref tow, V.ref e0, V.ref am]) = J4 at j4 hdm2 ⊢
      have j14 : Kp [] H6 J4 := ((j1.trans j2).trans j3).trans j4
      have hown4 := j14.same _ _ hown
      have okOwn : okS "own" := by decide +kernel
      have DA : DeedIs J4 (.ref dm) ⟨(own, 1), .make "map" ROOT (.key "own")⟩ := ⟨dm, .ref tow, .ref e0, .ref am, rfl, hdm2, ⟨tow, rfl, hown4, hok⟩, am, .ref rt, .str "own", rfl, j4.tp _ _ ham2, okMap, ⟨rt, rfl, (j3.trans j4).tp _ _ hrt2, okEmpty⟩, rfl, okOwn⟩
      have n1 : ((own, 1) : Nm) ≠ ROOT := fun z => by
        injection z with _ z2
        cases z2
      refine ⟨pa, da, la, .ref dm, _, empty, 0, rfl, A6.same j14, by omega, DA, .empty, fun H7 A7 k7 => ?_⟩
      have G1 := step_good (s := empty) (d := ⟨(own, 1), .make "map" ROOT (.key "own")⟩) .empty ⟨n1, rfl⟩
      generalize (tstep empty ⟨(own, 1), .make "map" ROOT (.key "own")⟩).2 = s1 at A7 G1
      have k67 : Kp [da, la] H6 H7 := (j14.mono (by simp)).trans k7
      have sub1 : ∀ z ∈ [da, la], z ∈ [pa, da, la] := by intro z hz; simp only [List.mem_cons, List.not_mem_nil, or_false] at hz ⊢; exact .inr hz
      have subP : ∀ z ∈ [dp, lp], z ∈ [pp, dp, lp] := by intro z hz; simp only [List.mem_cons, List.not_mem_nil, or_false] at hz ⊢; exact .inr hz
      have subW : ∀ z ∈ [dw, lw], z ∈ [pw, dw, lw] := by intro z hz; simp only [List.mem_cons, List.not_mem_nil, or_false] at hz ⊢; exact .inr hz
      -- .. and a move that loses
      obtain ⟨⟨dx7, hpa7⟩, _⟩ := id A7
      have hown7 := k67.tp _ _ hown
      refine ⟨_, rfl, pa, dx7, _, rfl, hpa7, flds_no _ _ (by decide +kernel) (by decide +kernel), _, rfl, tow, _, _, _, rfl, rfl, SqT.of hown7, at_of (j := 0) rfl rfl, (by show 2 ≤ sizeLine; decide), fun nb hnb => ?_⟩
      refine ⟨_, rfl, (by show 1 ≤ sizeLine; decide), fun sb hsb => ?_⟩
      refine ⟨_, rfl, _, rfl, (by show 4 ≤ sizeLine; decide), fun mb hmb => ?_⟩
      refine ⟨(by show 3 ≤ sizeLine; decide), fun db hdb => ?_⟩
      have i1 : Kp [] H7 (upd H7 nb (.tup [V.str own, V.int 2])) := Kp.new hnb
      have hnb2 : (upd H7 nb (.tup [V.str own, V.int 2])) nb = some (.tup [V.str own, V.int 2]) := upd_same
      generalize upd H7 nb (.tup [V.str own, V.int 2]) = J5 at i1 hnb2 hsb hmb hdb ⊢
      have i2 : Kp [] J5 (upd J5 sb (.tup [V.ref tow])) := Kp.new hsb
      generalize upd J5 sb (.tup [V.ref tow]) = J6 at i2 hmb hdb ⊢
      have i3 : Kp [] J6 (upd J6 mb (.tup [V.str "move", V.ref tow, V.ref tow, V.str "own"])) := Kp.new hmb
      have hmb2 : (upd J6 mb (.tup [V.str "move", V.ref tow, V.ref tow, V.str "own"])) mb = some (.tup [V.str "move", V.ref tow, V.ref tow, V.str "own"]) := upd_same
      generalize upd J6 mb (.tup [V.str "move", V.ref tow, V.ref tow, V.str "own"]) = J7 at i3 hmb2 hdb ⊢
      have i4 : Kp [] J7 (upd J7 db (.tup [V.ref nb, V.ref sb, V.ref mb])) := Kp.new hdb
      have hdb2 : (upd J7 db (.tup [V.ref nb, V.ref sb, V.ref mb])) db = some (.tup [V.ref nb, V.ref sb, V.ref mb]) := upd_same
      generalize upd J7 db (.tup [V.ref nb, V.ref sb, V.ref mb]) = J8 at i4 hdb2 ⊢
      have i14 : Kp [] H7 J8 := ((i1.trans i2).trans i3).trans i4
      have hownJ8 := i14.same _ _ hown7
      have DB : DeedIs J8 (.ref db) ⟨(own, 2), .move (own, 1) (own, 1) (.key "own")⟩ := ⟨db, .ref nb, .ref sb, .ref mb, rfl, hdb2, ⟨nb, rfl, ((i2.trans i3).trans i4).tp _ _ hnb2, hok⟩, mb, .ref tow, .ref tow, .str "own", rfl, i4.tp _ _ hmb2, ⟨tow, rfl, hownJ8, hok⟩, ⟨tow, rfl, hownJ8, hok⟩, rfl, okOwn⟩
      refine ⟨pa, da, la, .ref db, _, s1, 1, rfl, A7.same i14, by omega, DB, G1, fun H8 A8 k8 => ?_⟩
      generalize (tstep s1 ⟨(own, 2), .move (own, 1) (own, 1) (.key "own")⟩).2 = s2 at A8
      have k68 : Kp [da, la] H6 H8 := k67.trans ((i14.mono (by simp)).trans k8)
      have W8 := W6.keepS k68 (sWA.1.sub (fun _ z => z) sub1)
      have P8 := P6.keepS k68 (sPA.1.sub (fun _ z => z) sub1)
      have ha8 := k68.at' _ _ ha6 (fun z => sDA a3 (by simp) (sub1 _ z))
      have hds8 := hds6.keep k68.tp
      have hown8 := k68.tp _ _ hown
      -- words
      refine ⟨_, rfl, a3, rfl, ⟨_, SqL.of ha8⟩, fun qw hqw => lc_list (K := K) (a := a3) (xs := ws) (fun i H9 => TreeAt C H9 pw dw lw (stt ds i) i ∧ H9 qw = some (.lst (wrds ds 0 i)) ∧ Kp [dw, lw] H8 H9) ⟨W8.same (Kp.new hqw), upd_same, Kp.new hqw⟩ (fun i H9 _ z => SqL.of (z.2.2.at' _ _ ha8 (fun z => sDW a3 (by simp) (subW _ z)))) ?_ ?_⟩
      · rintro i x H9 hx ⟨W9, hqw9, k9⟩
        obtain ⟨e, he, hde⟩ := paired_get hds8 hx
        obtain ⟨⟨dx9, hpw9⟩, _⟩ := id W9
        have hi : i < ds.length := (List.getElem?_eq_some_iff.mp he).1
        refine ⟨rfl, ?_⟩
        refine ⟨_, rfl, pw, dx9, _, rfl, hpw9, flds_no _ _ (by decide +kernel) (by decide +kernel), _, rfl, pw, dw, lw, x, e, stt ds i, i, rfl, W9, by omega, hde.keep k9.tp, stt_good hnm i, fun H10 W10 k10 => ?_⟩
        have sQ := (sep_new (H := H8) (xs := [pw, dw, lw]) W8.there (fun y hy => by rw [List.mem_singleton.mp hy]; exact hqw : ∀ y ∈ [qw], H8 y = none))
        have hqw10 := k10.at' _ _ hqw9 (fun z => sQ.2 qw (by simp) (subW _ z))
        refine ⟨_, hqw10, ?_, ?_, ?_, (k9.trans k10).over hqw⟩
        · rw [wrds_len]
          exact Nat.lt_of_le_of_lt (show i ≤ 1000 by omega) (by decide)
        · rw [stt_succ he]
          exact W10.keepS (Kp.set (S := [qw]) hqw10 (fun xs z => by cases z) (by simp)) sQ.1
        · rw [wrds_snoc, Nat.zero_add, wrd_at he]
          exact upd_same
      · rintro H9 ⟨W9, hqw9, k9⟩
        rw [hwl] at W9 hqw9
        have P9 := P8.keepS k9 (sWP.2.sub (fun _ z => z) subW)
        have A9 := A8.keepS k9 (sWA.2.sub (fun _ z => z) subW)
        have ha9 := k9.at' _ _ ha8 (fun z => sDW a3 (by simp) (subW _ z))
        have hds9 := hds8.keep k9.tp
        have hown9 := k9.tp _ _ hown8
        have sQP := (sep_new P8.there (fun y hy => by rw [List.mem_singleton.mp hy]; exact hqw : ∀ y ∈ [qw], H8 y = none))
        have sQA := (sep_new A8.there (fun y hy => by rw [List.mem_singleton.mp hy]; exact hqw : ∀ y ∈ [qw], H8 y = none))
        -- the part
        refine ⟨_, rfl, _, rfl, _, rfl, a3, _, rfl, SqL.of ha9, fun s5 hs5 => ?_⟩
        rw [hc, cutV_upto]
        have k10 : Kp [] H9 (upd H9 s5 (.lst (ws.take c))) := Kp.new hs5
        have hs52 : (upd H9 s5 (.lst (ws.take c))) s5 = some (.lst (ws.take c)) := upd_same
        have sS5 := (sep_new P9.there (fun y hy => by rw [List.mem_singleton.mp hy]; exact hs5 : ∀ y ∈ [s5], H9 y = none))
        generalize upd H9 s5 (.lst (ws.take c)) = H10 at k10 hs52 ⊢
        have P10 := P9.same k10
        have hds10 := hds9.keep k10.tp
        refine ⟨s5, rfl, ⟨_, SqL.of hs52⟩, for_list (K := K) (a := s5) (xs := ws.take c) (fun i σ H' => ∃ v9, σ = [some (.ref a), some (.int first), some (.ref qh), some (.ref a3), some (.int c), some (.ref pw), some (.ref pp), some (.ref pa), some (.ref tow), v9, some (.ref qw), none, none, none, none] ∧
          TreeAt C H' pp dp lp (stt ds i) i ∧ Kp [dp, lp] H10 H') ⟨none, congrArg (fun z => [some (V.ref a), some (V.int first), some (V.ref qh), some (V.ref a3), some (V.int z), some (V.ref pw), some (V.ref pp), some (V.ref pa), some (V.ref tow), none, some (V.ref qw), none, none, none, none]) hc, P10, Kp.refl _ _⟩ (fun i σ H' _ z => by obtain ⟨_, _, _, k'⟩ := z; exact SqL.of (k'.at' _ _ hs52 (fun z => sS5.2 s5 (by simp) (subP _ z)))) ?_ ?_⟩
        · rintro i x σ H11 hx ⟨v9, rfl, P11, k11⟩
          have hic : i < c := by
            have := (List.getElem?_eq_some_iff.mp hx).1
            rw [List.length_take] at this
            omega
          rw [List.getElem?_take_of_lt hic] at hx
          obtain ⟨e, he, hde⟩ := paired_get hds10 hx
          obtain ⟨⟨dx11, hpp11⟩, _⟩ := id P11
          refine ⟨_, rfl, pp, dx11, _, rfl, hpp11, flds_no _ _ (by decide +kernel) (by decide +kernel), _, rfl, pp, dp, lp, x, e, stt ds i, i, rfl, P11, by omega, hde.keep k11.tp, stt_good hnm i, fun H12 P12 k12 => ?_⟩
          refine ⟨_, rfl, ?_, k11.trans k12⟩
          rw [stt_succ he]
          exact P12
        · rintro σ H11 ⟨v9, rfl, P11, k11⟩
          have ecl : (ws.take c).length = c := by rw [List.length_take]; omega
          rw [ecl] at P11
          have W11 := (W9.same k10).keepS k11 (sWP.1.sub (fun _ z => z) subP)
          have A11 := (A9.same k10).keepS k11 (sPA.2.sub (fun _ z => z) subP)
          have ha11 := k11.at' _ _ (k10.same _ _ ha9) (fun z => sDP a3 (by simp) (subP _ z))
          have hds11 := hds10.keep k11.tp
          have hown11 := k11.tp _ _ (k10.tp _ _ hown9)
          have hqw11 := k11.at' _ _ (k10.same _ _ hqw9) (fun z => sQP.2 qw (by simp) (subP _ z))
          have hc40 : c ≤ 40 := by omega
          -- rows, lost
          obtain ⟨⟨dx11, hpp11⟩, _⟩ := id P11
          refine ⟨_, rfl, pp, dx11, _, rfl, hpp11, flds_no _ _ (by decide +kernel) (by decide +kernel), pp, dp, lp, stt ds c, c, rfl, P11, by omega, fun qr us rs H12 k12 _ hqr hrs hof hul => ?_⟩
          have P12 := P11.same k12
          obtain ⟨⟨dx12, hpp12⟩, _, ls0, hls0, hln0, hlc0⟩ := id P12
          refine ⟨_, rfl, pp, dx12, _, rfl, hpp12, flds_no _ _ (by decide +kernel) (by decide +kernel), pp, dp, lp, stt ds c, c, rfl, P12, fun ql wl H13 k13 _ hql hnl => ?_⟩
          have hwlc : wl.length ≤ c := by
            rw [Paired.length hnl, ← Paired.length hln0]
            exact hlc0
          have hqr13 := k13.same _ _ hqr
          have hrs13 := hrs.keep k13.tp
          -- handed = (list(rows), list(lost))
          refine ⟨_, rfl, qr, us, rfl, .inl (SqL.of hqr13), fun h0 hh0 => ?_⟩
          have k14 : Kp [] H13 (upd H13 h0 (.lst us)) := Kp.new hh0
          have hh02 : (upd H13 h0 (.lst us)) h0 = some (.lst us) := upd_same
          have k1114 := (k12.trans k13).trans k14
          have hqr14 := k14.same _ _ hqr13
          have hql14 := k14.same _ _ hql
          have hrs14 := hrs13.keep k14.tp
          have hnl14 := hnl.keep k14.tp
          have hh0n : H11 h0 = none := (k12.trans k13).free hh0
          generalize upd H13 h0 (.lst us) = H14 at k1114 hh02 hqr14 hql14 hrs14 hnl14 ⊢
          refine ⟨_, rfl, ql, wl, rfl, .inl (SqL.of hql14), fun h1 hh1 => ?_⟩
          have k15 : Kp [] H14 (upd H14 h1 (.lst wl)) := Kp.new hh1
          have hh12 : (upd H14 h1 (.lst wl)) h1 = some (.lst wl) := upd_same
          have hh1n : H14 h1 = none := hh1
          generalize upd H14 h1 (.lst wl) = H15 at k15 hh12 ⊢
          refine ⟨(by show 2 ≤ sizeLine; decide), fun th hth => ?_⟩
          have k16 : Kp [] H15 (upd H15 th (.tup [V.ref h0, V.ref h1])) := Kp.new hth
          have hth2 : (upd H15 th (.tup [V.ref h0, V.ref h1])) th = some (.tup [V.ref h0, V.ref h1]) := upd_same
          generalize upd H15 th (.tup [V.ref h0, V.ref h1]) = H16 at k16 hth2 ⊢
          have k1416 := k15.trans k16
          have k1116 := k1114.trans k1416
          have A16 := A11.same k1116
          have W16 := W11.same k1116
          have ha16 := k1116.same _ _ ha11
          have hqw16 := k1116.same _ _ hqw11
          have hh016 := k1416.same _ _ hh02
          have hh116 := k16.same _ _ hh12
          have hqr16 := k1416.same _ _ hqr14
          have hql16 := k1416.same _ _ hql14
          have hrs16 := hrs14.keep k1416.tp
          have hnl16 := hnl14.keep k1416.tp
          -- fill
          obtain ⟨⟨dx16, hpa16⟩, _⟩ := id A16
          refine ⟨_, rfl, pa, dx16, _, rfl, hpa16, flds_no _ _ (by decide +kernel) (by decide +kernel), _, rfl, th, _, _, _, rfl, rfl, SqT.of hth2, at_of (j := 0) rfl rfl, _, rfl, th, _, _, _, rfl, rfl, SqT.of hth2, at_of (j := 1) rfl rfl,
            pa, da, la, h0, h1, s2, 1 + 1, c, us, wl, rs, (stt ds c).1, (stt ds c).2, rfl, A16, hh016, hrs16, hof, hul, hh116, hnl16, hwlc, by omega, fun da2 la2 H17 A17 hda2 hla2 k17 => ?_⟩
          have A17 : TreeAt C H17 pa da2 la2 (stt ds c) c := A17
          have atl : ∀ b xs, H16 b = some (.lst xs) → H17 b = some (.lst xs) := fun b xs e => k17.at' _ _ e (fun z => ne_of e hpa16 (by intro z; cases z) (List.mem_singleton.mp z))
          have W17 := W16.keepS k17 (sWA.1.sub (fun _ z => z) (by intro z hz; rw [List.mem_singleton.mp hz]; simp))
          have nw2 : ∀ y ∈ [da2, la2], H16 y = none := by
            intro y hy
            simp only [List.mem_cons, List.not_mem_nil, or_false] at hy
            rcases hy with rfl | rfl
            · exact hda2
            · exact hla2
          have sWn := (sep_new W16.there nw2).1
          have sDn := (sep_new (one_there ha16) nw2).1
          have sQn := (sep_new (one_there hqw16) nw2).1
          have hold : ∀ y ∈ [h0, h1], H11 y = none := by
            intro y hy
            simp only [List.mem_cons, List.not_mem_nil, or_false] at hy
            rcases hy with rfl | rfl
            · exact hh0n
            · exact k1114.free hh1n
          have sWh := (sep_new W11.there hold).1
          have sAh := (sep_new A11.there hold).1
          have sDh := (sep_new (one_there ha11) hold).1
          have sQh := (sep_new (one_there hqw11) hold).1
          have hhs16 : ∀ y ∈ [h0, h1], ∃ o, H16 y = some o := by
            intro y hy
            simp only [List.mem_cons, List.not_mem_nil, or_false] at hy
            rcases hy with rfl | rfl
            · exact ⟨_, hh016⟩
            · exact ⟨_, hh116⟩
          have snh := (sep_new hhs16 nw2).2
          have sA2h : Sep [pa, da2, la2] [h0, h1] := by
            intro y hy
            rcases List.mem_cons.mp hy with rfl | hy
            · exact sAh _ (by simp)
            · exact snh y hy
          have n01 : h1 ≠ h0 := fun z => by rw [z, hh02] at hh1n; cases hh1n
          -- if handed != (rows, lost)
          refine ⟨_, rfl, _, rfl, _, rfl, (by show 2 ≤ sizeLine; decide), fun tt htt => ?_⟩
          have k18 : Kp [] H17 (upd H17 tt (.tup [V.ref qr, V.ref ql])) := Kp.new htt
          have htt2 : (upd H17 tt (.tup [V.ref qr, V.ref ql])) tt = some (.tup [V.ref qr, V.ref ql]) := upd_same
          generalize upd H17 tt (.tup [V.ref qr, V.ref ql]) = H18 at k18 htt2 ⊢
          have t1618 : Tk H16 H18 := fun b xs e => k18.tp _ _ (k17.tp _ _ e)
          have hth18 := t1618 _ _ hth2
          have hh018 := k18.same _ _ (atl _ _ hh016)
          have hh118 := k18.same _ _ (atl _ _ hh116)
          have hqr18 := k18.same _ _ (atl _ _ hqr16)
          have hql18 := k18.same _ _ (atl _ _ hql16)
          have hrs18 := hrs16.keep t1618
          have hnl18 := hnl16.keep t1618
          obtain ⟨shR, caR, deR⟩ := dRows_shaped hrs18
          obtain ⟨shN, caN, deN⟩ := dNames_shaped hnl18
          refine ⟨.tuple [dRows rs, dNames (stt ds c).2], .tuple [dRows rs, dNames (stt ds c).2], .tup (SqT.of hth18) (.cons (dRows_dp hh018 hrs18) (.cons (dNames_dp hh118 hnl18) .nil)), .tup (SqT.of htt2) (.cons (dRows_dp hqr18 hrs18) (.cons (dNames_dp hql18 hnl18) .nil)), pair_shaped caR caN deR deN, pair_shaped caR caN deR deN, _, rfl, ?_⟩
          rw [ne_self (pair_can caR caN)]
          refine iteF ?_
          -- again.rows() != rows
          have A18 := A17.same k18
          obtain ⟨⟨dx18, hpa18⟩, _⟩ := id A18
          refine ⟨_, rfl, pa, dx18, _, rfl, hpa18, flds_no _ _ (by decide +kernel) (by decide +kernel), pa, da2, la2, stt ds c, c, rfl, A18, by omega, fun q2 us2 rs2 H19 k19 _ hq2 hrs2 hof2 _ => ?_⟩
          rw [hof2.one hof] at hrs2
          refine ⟨_, rfl, dRows rs, dRows rs, dRows_dp hq2 hrs2, dRows_dp (k19.same _ _ hqr18) (hrs18.keep k19.tp), shR, shR, _, rfl, ?_⟩
          rw [ne_self caR]
          refine iteF ?_
          -- again.lost() != lost
          have A19 := A18.same k19
          obtain ⟨⟨dx19, hpa19⟩, _⟩ := id A19
          refine ⟨_, rfl, pa, dx19, _, rfl, hpa19, flds_no _ _ (by decide +kernel) (by decide +kernel), pa, da2, la2, stt ds c, c, rfl, A19, fun q3 wl3 H20 k20 _ hq3 hnl3 => ?_⟩
          have k1820 := k19.trans k20
          refine ⟨_, rfl, dNames (stt ds c).2, dNames (stt ds c).2, dNames_dp hq3 hnl3, dNames_dp (k1820.same _ _ hql18) (hnl18.keep k1820.tp), shN, shN, _, rfl, ?_⟩
          rw [ne_self caN]
          refine iteF ?_
          -- handed[0].clear(); handed[1].append(own)
          have k1720 := k18.trans k1820
          have A20 := A19.same k20
          have W20 := W17.same k1720
          have ha20 := k1720.same _ _ (atl _ _ ha16)
          have hqw20 := k1720.same _ _ (atl _ _ hqw16)
          have hth20 := k1820.same _ _ hth18
          have hh020 := k1820.same _ _ hh018
          have hh120 := k1820.same _ _ hh118
          refine ⟨_, rfl, th, _, _, _, rfl, rfl, SqT.of hth20, at_of (j := 0) rfl rfl, .inl ⟨rfl, _, SqL.of hh020⟩, h0, _, rfl, rfl, hh020, ?_⟩
          have k21 : Kp [h0, h1] H20 (upd H20 h0 (.lst [])) := Kp.set hh020 (fun xs z => by cases z) (by simp)
          have hh121 : (upd H20 h0 (.lst [])) h1 = some (.lst wl) := by rw [upd_ne n01]; exact hh120
          generalize upd H20 h0 (.lst []) = H21 at k21 hh121 ⊢
          refine ⟨_, rfl, th, _, _, _, rfl, rfl, SqT.of (k21.tp _ _ hth20), at_of (j := 1) rfl rfl, .inl ⟨rfl, _, SqL.of hh121⟩, _, rfl, h1, _, _, rfl, rfl, hh121, Nat.lt_of_le_of_lt (show wl.length ≤ 1000 by omega) (by decide), ?_⟩
          have k22 : Kp [h0, h1] H20 (upd H21 h1 (.lst (wl ++ [V.ref tow]))) := k21.trans (Kp.set hh121 (fun xs z => by cases z) (by simp))
          generalize upd H21 h1 (.lst (wl ++ [V.ref tow])) = H22 at k22 ⊢
          have A22 := A20.keepS k22 sA2h
          have W22 := W20.keepS k22 sWh
          have ha22 := k22.at' _ _ ha20 (sDh a3 (by simp))
          have hqw22 := k22.at' _ _ hqw20 (sQh qw (by simp))
          have hds22 : DeedsIs H22 ws ds := hds11.keep (fun b xs e => k22.tp _ _ (k1720.tp _ _ (k17.tp _ _ (k1116.tp _ _ e))))
          -- the rest of the deeds
          refine ⟨_, rfl, _, rfl, _, rfl, a3, _, rfl, SqL.of ha22, fun s6 hs6 => ?_⟩
          rw [cutV_from]
          have k23 : Kp [] H22 (upd H22 s6 (.lst (ws.drop c))) := Kp.new hs6
          have hs62 : (upd H22 s6 (.lst (ws.drop c))) s6 = some (.lst (ws.drop c)) := upd_same
          have sS6 := (sep_new A22.there (fun y hy => by rw [List.mem_singleton.mp hy]; exact hs6 : ∀ y ∈ [s6], H22 y = none))
          generalize upd H22 s6 (.lst (ws.drop c)) = H23 at k23 hs62 ⊢
          have A23 := A22.same k23
          have W23 := W22.same k23
          have hds23 := hds22.keep k23.tp
          have hqw23 := k23.same _ _ hqw22
          have sub2 : ∀ z ∈ [da2, la2], z ∈ [pa, da2, la2] := by intro z hz; simp only [List.mem_cons, List.not_mem_nil, or_false] at hz ⊢; exact .inr hz
          refine ⟨s6, rfl, ⟨_, SqL.of hs62⟩, fun qx hqx => lc_list (K := K) (a := s6) (xs := ws.drop c) (fun i H' => TreeAt C H' pa da2 la2 (stt ds (c + i)) (c + i) ∧ H' qx = some (.lst (wrds ds c i)) ∧ Kp [da2, la2] H23 H') ⟨A23.same (Kp.new hqx), upd_same, Kp.new hqx⟩ (fun i H' _ z => SqL.of (z.2.2.at' _ _ hs62 (fun z => sS6.2 s6 (by simp) (sub2 _ z)))) ?_ ?_⟩
          · rintro i x H24 hx ⟨A24, hqx24, k24⟩
            rw [List.getElem?_drop] at hx
            obtain ⟨e, he, hde⟩ := paired_get hds23 hx
            obtain ⟨⟨dx24, hpa24⟩, _⟩ := id A24
            have hi : c + i < ds.length := (List.getElem?_eq_some_iff.mp he).1
            refine ⟨rfl, ?_⟩
            refine ⟨_, rfl, pa, dx24, _, rfl, hpa24, flds_no _ _ (by decide +kernel) (by decide +kernel), _, rfl, pa, da2, la2, x, e, stt ds (c + i), c + i, rfl, A24, by omega, hde.keep k24.tp, stt_good hnm (c + i), fun H25 A25 k25 => ?_⟩
            have sX := (sep_new A23.there (fun y hy => by rw [List.mem_singleton.mp hy]; exact hqx : ∀ y ∈ [qx], H23 y = none))
            have hqx25 := k25.at' _ _ hqx24 (fun z => sX.2 qx (by simp) (sub2 _ z))
            refine ⟨_, hqx25, ?_, ?_, ?_, (k24.trans k25).over hqx⟩
            · rw [wrds_len]
              exact Nat.lt_of_le_of_lt (show i ≤ 1000 by omega) (by decide)
            · rw [← Nat.add_assoc, stt_succ he]
              exact A25.keepS (Kp.set (S := [qx]) hqx25 (fun xs z => by cases z) (by simp)) sX.1
            · rw [wrds_snoc, wrd_at he]
              exact upd_same
          · rintro H24 ⟨A24, hqx24, k24⟩
            have el : (ws.drop c).length = ds.length - c := by rw [List.length_drop, hwl]
            rw [el] at A24 hqx24
            have ec : c + (ds.length - c) = ds.length := by omega
            rw [ec] at A24
            have W24 := W23.keepS k24 sWn
            have hqw24 := k24.at' _ _ hqw23 (sQn qw (by simp))
            -- words[cut:]
            refine ⟨_, rfl, _, rfl, _, rfl, qw, _, rfl, SqL.of hqw24, fun s7 hs7 => ?_⟩
            rw [cutV_from, wrds_drop _ _ _ (by omega)]
            have k25 : Kp [] H24 (upd H24 s7 (.lst (wrds ds c (ds.length - c)))) := Kp.new hs7
            refine ⟨dWrds ds c (ds.length - c), dWrds ds c (ds.length - c), dWrds_dp (k25.same _ _ hqx24), dWrds_dp upd_same, dWrds_shaped _ _ _, dWrds_shaped _ _ _, _, rfl, ?_⟩
            rw [ne_self (dWrds_can _ _ _)]
            refine iteF ?_
            generalize upd H24 s7 (.lst (wrds ds c (ds.length - c))) = H25 at k25 ⊢
            have A25 := A24.same k25
            have W25 := W24.same k25
            -- both tell the same
            obtain ⟨⟨dx25, hpa25⟩, _⟩ := id A25
            refine ⟨_, rfl, pa, dx25, _, rfl, hpa25, flds_no _ _ (by decide +kernel) (by decide +kernel), pa, da2, la2, stt ds ds.length, ds.length, rfl, A25, by omega, fun r1 u1 rs1 H26 k26 _ hr1' hrw1 hof1 _ => ?_⟩
            have W26 := W25.same k26
            obtain ⟨⟨dx26, hpw26⟩, _⟩ := id W26
            refine ⟨_, rfl, pw, dx26, _, rfl, hpw26, flds_no _ _ (by decide +kernel) (by decide +kernel), pw, dw, lw, stt ds ds.length, ds.length, rfl, W26, by omega, fun r2 u2 rs3 H27 k27 _ hr2' hrw2 hof3 _ => ?_⟩
            rw [hof3.one hof1] at hrw2
            obtain ⟨sh1, ca1, _⟩ := dRows_shaped hrw2
            refine ⟨dRows rs1, dRows rs1, dRows_dp (k27.same _ _ hr1') (hrw1.keep k27.tp), dRows_dp hr2' hrw2, sh1, sh1, _, rfl, ?_⟩
            rw [SeqAt.eqv_refl _ ca1]
            refine iteT ?_
            have A27 := A25.same (k26.trans k27)
            obtain ⟨⟨dx27, hpa27⟩, _⟩ := id A27
            refine ⟨_, rfl, pa, dx27, _, rfl, hpa27, flds_no _ _ (by decide +kernel) (by decide +kernel), pa, da2, la2, stt ds ds.length, ds.length, rfl, A27, fun l1 v1 H28 k28 _ hl1 hn1 => ?_⟩
            have W28 := W26.same (k27.trans k28)
            obtain ⟨⟨dx28, hpw28⟩, _⟩ := id W28
            refine ⟨_, rfl, pw, dx28, _, rfl, hpw28, flds_no _ _ (by decide +kernel) (by decide +kernel), pw, dw, lw, stt ds ds.length, ds.length, rfl, W28, fun l2 v2 H29 k29 _ hl2 hn2 => ?_⟩
            obtain ⟨sh2, ca2, _⟩ := dNames_shaped hn2
            refine ⟨dNames (stt ds ds.length).2, dNames (stt ds ds.length).2, dNames_dp (k29.same _ _ hl1) (hn1.keep k29.tp), dNames_dp hl2 hn2, sh2, sh2, ?_⟩
            rw [SeqAt.eqv_refl _ ca2]
            exact k H29
end
end CM
/-! What the top has left; the law's end. -/
namespace CM
open PySem L2
theorem all_mk {l : PySem.W.OpenLaw} {w : World} {K : PySem.W.Frag} {h : Heap} {mg : Str → Option Value} {fa C R : Addr} (X : K.In h) (G : h.Ns mainGlobals mg) (hfa : mg "law" = some (.ref fa))
    {f_init f_fill f_rows f_lost f_kind f_ring f_fits f_put f_hear f_place f_cell f_stream f_hands f_act f_deeds f_law : Addr}
    {od_init an_init od_fill an_fill od_rows an_rows od_lost an_lost od_kind an_kind od_ring an_ring od_fits an_fits od_put an_put od_hear an_hear od_place an_place od_cell an_cell od_stream an_stream od_hands an_hands od_act an_act od_deeds an_deeds od_law an_law odR : Option Addr} {sl_init sl_fill sl_rows sl_lost sl_kind sl_ring sl_fits sl_put sl_hear sl_place sl_cell sl_stream sl_hands sl_act sl_deeds sl_law slR : Array (Option Value)} {nR : Nat} {tR uR : Tok}
    {oc_init kV_init dc_init pm_init cd_init ct_init oc_fill kV_fill dc_fill pm_fill cd_fill ct_fill oc_rows kV_rows dc_rows pm_rows cd_rows ct_rows oc_lost kV_lost dc_lost pm_lost cd_lost ct_lost oc_kind kV_kind dc_kind pm_kind cd_kind ct_kind oc_ring kV_ring dc_ring pm_ring cd_ring ct_ring oc_fits kV_fits dc_fits pm_fits cd_fits ct_fits oc_put kV_put dc_put pm_put cd_put ct_put oc_hear kV_hear dc_hear pm_hear cd_hear ct_hear oc_place kV_place dc_place pm_place cd_place ct_place oc_cell kV_cell dc_cell pm_cell cd_cell ct_cell oc_stream kV_stream dc_stream pm_stream cd_stream ct_stream oc_hands kV_hands dc_hands pm_hands cd_hands ct_hands oc_act kV_act dc_act pm_act cd_act ct_act oc_deeds kV_deeds dc_deeds pm_deeds cd_deeds ct_deeds oc_law kV_law dc_law pm_law cd_law ct_law : Value}
    (aC : PySem.W.nsIn K mainGlobals "Tree" = some (some (.ref C)))
    (a_init : PySem.W.findIn K (.ref C) "__init__" = some (some (.ref f_init)))
    (i_init : PySem.W.isFn K (.ref f_init) = true)
    (l_init : K.lookup f_init = some ⟨oc_init, od_init, .func (PySem.W.fnOf "__init__" "Tree.__init__" (defArgs sInit) (defBody sInit) (defScope sInit) .none kV_init dc_init pm_init an_init cd_init ct_init), sl_init⟩)
    (c_init : PySem.W.codeIn K cd_init "Tree.__init__" = true)
    (k_init : PySem.W.keepIn K (.ref f_init) = true)
    (a_fill : PySem.W.findIn K (.ref C) "fill" = some (some (.ref f_fill)))
    (i_fill : PySem.W.isFn K (.ref f_fill) = true)
    (l_fill : K.lookup f_fill = some ⟨oc_fill, od_fill, .func (PySem.W.fnOf "fill" "Tree.fill" (defArgs sFill) (defBody sFill) (defScope sFill) .none kV_fill dc_fill pm_fill an_fill cd_fill ct_fill), sl_fill⟩)
    (c_fill : PySem.W.codeIn K cd_fill "Tree.fill" = true)
    (k_fill : PySem.W.keepIn K (.ref f_fill) = true)
    (a_rows : PySem.W.findIn K (.ref C) "rows" = some (some (.ref f_rows)))
    (i_rows : PySem.W.isFn K (.ref f_rows) = true)
    (l_rows : K.lookup f_rows = some ⟨oc_rows, od_rows, .func (PySem.W.fnOf "rows" "Tree.rows" (defArgs sRows) (defBody sRows) (defScope sRows) .none kV_rows dc_rows pm_rows an_rows cd_rows ct_rows), sl_rows⟩)
    (c_rows : PySem.W.codeIn K cd_rows "Tree.rows" = true)
    (k_rows : PySem.W.keepIn K (.ref f_rows) = true)
    (a_lost : PySem.W.findIn K (.ref C) "lost" = some (some (.ref f_lost)))
    (i_lost : PySem.W.isFn K (.ref f_lost) = true)
    (l_lost : K.lookup f_lost = some ⟨oc_lost, od_lost, .func (PySem.W.fnOf "lost" "Tree.lost" (defArgs sLostM) (defBody sLostM) (defScope sLostM) .none kV_lost dc_lost pm_lost an_lost cd_lost ct_lost), sl_lost⟩)
    (c_lost : PySem.W.codeIn K cd_lost "Tree.lost" = true)
    (k_lost : PySem.W.keepIn K (.ref f_lost) = true)
    (a_kind : PySem.W.findIn K (.ref C) "kind_of" = some (some (.ref f_kind)))
    (i_kind : PySem.W.isFn K (.ref f_kind) = true)
    (l_kind : K.lookup f_kind = some ⟨oc_kind, od_kind, .func (PySem.W.fnOf "kind_of" "Tree.kind_of" (defArgs sKind) (defBody sKind) (defScope sKind) .none kV_kind dc_kind pm_kind an_kind cd_kind ct_kind), sl_kind⟩)
    (c_kind : PySem.W.codeIn K cd_kind "Tree.kind_of" = true)
    (k_kind : PySem.W.keepIn K (.ref f_kind) = true)
    (a_ring : PySem.W.findIn K (.ref C) "ring" = some (some (.ref f_ring)))
    (i_ring : PySem.W.isFn K (.ref f_ring) = true)
    (l_ring : K.lookup f_ring = some ⟨oc_ring, od_ring, .func (PySem.W.fnOf "ring" "Tree.ring" (defArgs sRing) (defBody sRing) (defScope sRing) .none kV_ring dc_ring pm_ring an_ring cd_ring ct_ring), sl_ring⟩)
    (c_ring : PySem.W.codeIn K cd_ring "Tree.ring" = true)
    (k_ring : PySem.W.keepIn K (.ref f_ring) = true)
    (a_fits : PySem.W.findIn K (.ref C) "fits" = some (some (.ref f_fits)))
    (i_fits : PySem.W.isFn K (.ref f_fits) = true)
    (l_fits : K.lookup f_fits = some ⟨oc_fits, od_fits, .func (PySem.W.fnOf "fits" "Tree.fits" (defArgs sFits) (defBody sFits) (defScope sFits) .none kV_fits dc_fits pm_fits an_fits cd_fits ct_fits), sl_fits⟩)
    (c_fits : PySem.W.codeIn K cd_fits "Tree.fits" = true)
    (k_fits : PySem.W.keepIn K (.ref f_fits) = true)
    (a_put : PySem.W.findIn K (.ref C) "put_at" = some (some (.ref f_put)))
    (i_put : PySem.W.isFn K (.ref f_put) = true)
    (l_put : K.lookup f_put = some ⟨oc_put, od_put, .func (PySem.W.fnOf "put_at" "Tree.put_at" (defArgs sPutAt) (defBody sPutAt) (defScope sPutAt) .none kV_put dc_put pm_put an_put cd_put ct_put), sl_put⟩)
    (c_put : PySem.W.codeIn K cd_put "Tree.put_at" = true)
    (k_put : PySem.W.keepIn K (.ref f_put) = true)
    (a_hear : PySem.W.findIn K (.ref C) "hear" = some (some (.ref f_hear)))
    (i_hear : PySem.W.isFn K (.ref f_hear) = true)
    (l_hear : K.lookup f_hear = some ⟨oc_hear, od_hear, .func (PySem.W.fnOf "hear" "Tree.hear" (defArgs sHear) (defBody sHear) (defScope sHear) .none kV_hear dc_hear pm_hear an_hear cd_hear ct_hear), sl_hear⟩)
    (c_hear : PySem.W.codeIn K cd_hear "Tree.hear" = true)
    (k_hear : PySem.W.keepIn K (.ref f_hear) = true)
    (a_place : PySem.W.nsIn K mainGlobals "place_of" = some (some (.ref f_place)))
    (l_place : K.lookup f_place = some ⟨oc_place, od_place, .func (PySem.W.fnOf "place_of" "place_of" (defArgs sPlace) (defBody sPlace) (defScope sPlace) .none kV_place dc_place pm_place an_place cd_place ct_place), sl_place⟩)
    (c_place : PySem.W.codeIn K cd_place "place_of" = true)
    (k_place : PySem.W.keepIn K (.ref f_place) = true)
    (a_cell : PySem.W.nsIn K mainGlobals "_law_cell_at" = some (some (.ref f_cell)))
    (l_cell : K.lookup f_cell = some ⟨oc_cell, od_cell, .func (PySem.W.fnOf "_law_cell_at" "_law_cell_at" (defArgs sCell) (defBody sCell) (defScope sCell) .none kV_cell dc_cell pm_cell an_cell cd_cell ct_cell), sl_cell⟩)
    (c_cell : PySem.W.codeIn K cd_cell "_law_cell_at" = true)
    (k_cell : PySem.W.keepIn K (.ref f_cell) = true)
    (a_stream : PySem.W.nsIn K mainGlobals "_law_stream" = some (some (.ref f_stream)))
    (l_stream : K.lookup f_stream = some ⟨oc_stream, od_stream, .func (PySem.W.fnOf "_law_stream" "_law_stream" (defArgs sStream) (defBody sStream) (defScope sStream) .none kV_stream dc_stream pm_stream an_stream cd_stream ct_stream), sl_stream⟩)
    (c_stream : PySem.W.codeIn K cd_stream "_law_stream" = true)
    (k_stream : PySem.W.keepIn K (.ref f_stream) = true)
    (a_hands : PySem.W.nsIn K mainGlobals "_law_hands" = some (some (.ref f_hands)))
    (l_hands : K.lookup f_hands = some ⟨oc_hands, od_hands, .func (PySem.W.fnOf "_law_hands" "_law_hands" (defArgs sHands) (defBody sHands) (defScope sHands) .none kV_hands dc_hands pm_hands an_hands cd_hands ct_hands), sl_hands⟩)
    (c_hands : PySem.W.codeIn K cd_hands "_law_hands" = true)
    (k_hands : PySem.W.keepIn K (.ref f_hands) = true)
    (a_act : PySem.W.nsIn K mainGlobals "_law_act" = some (some (.ref f_act)))
    (l_act : K.lookup f_act = some ⟨oc_act, od_act, .func (PySem.W.fnOf "_law_act" "_law_act" (defArgs sAct) (defBody sAct) (defScope sAct) .none kV_act dc_act pm_act an_act cd_act ct_act), sl_act⟩)
    (c_act : PySem.W.codeIn K cd_act "_law_act" = true)
    (k_act : PySem.W.keepIn K (.ref f_act) = true)
    (a_deeds : PySem.W.nsIn K mainGlobals "_law_deeds" = some (some (.ref f_deeds)))
    (l_deeds : K.lookup f_deeds = some ⟨oc_deeds, od_deeds, .func (PySem.W.fnOf "_law_deeds" "_law_deeds" (defArgs sDeeds) (defBody sDeeds) (defScope sDeeds) .none kV_deeds dc_deeds pm_deeds an_deeds cd_deeds ct_deeds), sl_deeds⟩)
    (c_deeds : PySem.W.codeIn K cd_deeds "_law_deeds" = true)
    (k_deeds : PySem.W.keepIn K (.ref f_deeds) = true)
    (a_law : PySem.W.nsIn K mainGlobals "law" = some (some (.ref f_law)))
    (l_law : K.lookup f_law = some ⟨oc_law, od_law, .func (PySem.W.fnOf "law" "law" (defArgs sLaw) (defBody sLaw) (defScope sLaw) .none kV_law dc_law pm_law an_law cd_law ct_law), sl_law⟩)
    (c_law : PySem.W.codeIn K cd_law "law" = true)
    (k_law : PySem.W.keepIn K (.ref f_law) = true)
    (pg : PySem.W.plainGet K C Str.empty = true)
    (hd : PySem.W.hasDictIn K C = true)
    (po : PySem.W.plainOver K C = true)
    (sa : PySem.W.findIn K (.ref C) "__setattr__" = some (some (.builtin "object.__setattr__")))
    (mk : PySem.W.makesIn K C = true)
    (kc : PySem.W.keepIn K (.ref C) = true)
    (nS : PySem.W.findIn K (.ref C) "spots" = some none)
    (nL : PySem.W.findIn K (.ref C) "losers" = some none)
    (aR : PySem.W.nsIn K mainGlobals "ROOT" = some (some (.ref R)))
    (lR : K.lookup R = some ⟨.type "tuple", odR, .seq #[.str "" tR, .int 0 uR] nR, slR⟩)
    (z_len : PySem.W.nsIn K mainGlobals "len" = some none)
    (z_list : PySem.W.nsIn K mainGlobals "list" = some none)
    (z_sorted : PySem.W.nsIn K mainGlobals "sorted" = some none)
    (z_range : PySem.W.nsIn K mainGlobals "range" = some none)
    (z_isinstance : PySem.W.nsIn K mainGlobals "isinstance" = some none)
    (z_str : PySem.W.nsIn K mainGlobals "str" = some none)
    :
    ∃ fd : FuncData, (∀ (s : Shared) (v : Value), BindsTo s fd ⟨[v], []⟩ [("_law_script", v)]) ∧ ∀ base : Heap, K.In base → base.Ns mainGlobals mg → FnOk l.prog w K mg base CX0 4 fa fd ["_law_script"] (spLaw K) := by
  have e := hfa.symm.trans (PySem.W.mg_of X G a_law)
  cases e
  have T : Txt K mg C R := ⟨⟨pg, hd, po, sa⟩, nS, nL, PySem.W.mg_of X G aC, PySem.W.mg_of X G aR, fun H => .inr ⟨_, _, nR, lR, rfl, rfl, (by show 2 ≤ sizeLine; decide), .cons ⟨tR, rfl⟩ (.cons ⟨uR, rfl⟩ .nil)⟩, PySem.W.mg_none_of X G z_len, PySem.W.mg_none_of X G z_list, PySem.W.mg_none_of X G z_sorted, PySem.W.mg_none_of X G z_range, PySem.W.mg_none_of X G z_isinstance, PySem.W.mg_none_of X G z_str⟩
  have F_init := fun_mk (st := sInit) l_init c_init k_init
  have b_init := F_init.binds (ps := ["self"]) fun _ _ _ _ _ _ us hl => match us, hl with | [_], _ => rfl
  have F_fill := fun_mk (st := sFill) l_fill c_fill k_fill
  have b_fill := F_fill.binds (ps := ["self", "rows", "lost"]) fun _ _ _ _ _ _ us hl => match us, hl with | [_, _, _], _ => rfl
  have F_rows := fun_mk (st := sRows) l_rows c_rows k_rows
  have b_rows := F_rows.binds (ps := ["self"]) fun _ _ _ _ _ _ us hl => match us, hl with | [_], _ => rfl
  have F_lost := fun_mk (st := sLostM) l_lost c_lost k_lost
  have b_lost := F_lost.binds (ps := ["self"]) fun _ _ _ _ _ _ us hl => match us, hl with | [_], _ => rfl
  have F_kind := fun_mk (st := sKind) l_kind c_kind k_kind
  have b_kind := F_kind.binds (ps := ["self", "thing"]) fun _ _ _ _ _ _ us hl => match us, hl with | [_, _], _ => rfl
  have F_ring := fun_mk (st := sRing) l_ring c_ring k_ring
  have b_ring := F_ring.binds (ps := ["self", "thing", "holder"]) fun _ _ _ _ _ _ us hl => match us, hl with | [_, _, _], _ => rfl
  have F_fits := fun_mk (st := sFits) l_fits c_fits k_fits
  have b_fits := F_fits.binds (ps := ["self", "holder", "spot"]) fun _ _ _ _ _ _ us hl => match us, hl with | [_, _, _], _ => rfl
  have F_put := fun_mk (st := sPutAt) l_put c_put k_put
  have b_put := F_put.binds (ps := ["self", "thing", "kind", "holder", "spot", "name"]) fun _ _ _ _ _ _ us hl => match us, hl with | [_, _, _, _, _, _], _ => rfl
  have F_hear := fun_mk (st := sHear) l_hear c_hear k_hear
  have b_hear := F_hear.binds (ps := ["self", "deed"]) fun _ _ _ _ _ _ us hl => match us, hl with | [_, _], _ => rfl
  have F_place := fun_mk (st := sPlace) l_place c_place k_place
  have b_place := F_place.binds (ps := ["spot", "name"]) fun _ _ _ _ _ _ us hl => match us, hl with | [_, _], _ => rfl
  have F_cell := fun_mk (st := sCell) l_cell c_cell k_cell
  have b_cell := F_cell.binds (ps := ["_law_script", "_law_k"]) fun _ _ _ _ _ _ us hl => match us, hl with | [_, _], _ => rfl
  have F_stream := fun_mk (st := sStream) l_stream c_stream k_stream
  have b_stream := F_stream.binds (ps := ["_law_cell", "_law_many"]) fun _ _ _ _ _ _ us hl => match us, hl with | [_, _], _ => rfl
  have F_hands := fun_mk (st := sHands) l_hands c_hands k_hands
  have b_hands := F_hands.binds (ps := ["_law_cell", "_law_many"]) fun _ _ _ _ _ _ us hl => match us, hl with | [_, _], _ => rfl
  have F_act := fun_mk (st := sAct) l_act c_act k_act
  have b_act := F_act.binds (ps := ["_law_xs", "_law_kinds", "_law_hands_here"]) fun _ _ _ _ _ _ us hl => match us, hl with | [_, _, _], _ => rfl
  have F_deeds := fun_mk (st := sDeeds) l_deeds c_deeds k_deeds
  have b_deeds := F_deeds.binds (ps := ["_law_cells", "_law_hands_here"]) fun _ _ _ _ _ _ us hl => match us, hl with | [_, _], _ => rfl
  have F_law := fun_mk (st := sLaw) l_law c_law k_law
  have b_law := F_law.binds (ps := ["_law_script"]) fun _ _ _ _ _ _ us hl => match us, hl with | [_], _ => rfl
  refine ⟨PySem.W.fnOf "law" "law" (defArgs sLaw) (defBody sLaw) (defScope sLaw) .none kV_law dc_law pm_law an_law cd_law ct_law, fun s v => .of_eq rfl, fun base _ _ => ?_⟩
  have m_kind : Meth K C "kind_of" f_kind := ⟨a_kind, i_kind, k_kind⟩
  have m_ring : Meth K C "ring" f_ring := ⟨a_ring, i_ring, k_ring⟩
  have m_fits : Meth K C "fits" f_fits := ⟨a_fits, i_fits, k_fits⟩
  have m_put : Meth K C "put_at" f_put := ⟨a_put, i_put, k_put⟩
  have GK : FnOk l.prog w K mg base CX0 1 f_kind _ ["self", "thing"] (spKind C) := ok_kind F_kind T
  have GF : FnOk l.prog w K mg base CX0 2 f_fits _ ["self", "holder", "spot"] (spFits C) := ok_fits F_fits T GK b_kind m_kind
  have GP : FnOk l.prog w K mg base CX0 2 f_put _ ["self", "thing", "kind", "holder", "spot", "name"] (spPut C) := ok_put F_put T (ok_place F_place) b_place (PySem.W.mg_of X G a_place) k_place
  have GR : FnOk l.prog w K mg base CX0 1 f_ring _ ["self", "thing", "holder"] (spRing C) := ok_ring F_ring T
  have GH : FnOk l.prog w K mg base CX0 3 f_hear _ ["self", "deed"] (spHear C) := ok_hear F_hear T GF b_fits m_fits GP b_put m_put GR b_ring m_ring
  have GS : FnOk l.prog w K mg base CX0 1 f_stream _ ["_law_cell", "_law_many"] spStream := ok_stream F_stream T
  have mS := PySem.W.mg_of X G a_stream
  exact ok_law F_law T ⟨ok_cell F_cell T, b_cell, PySem.W.mg_of X G a_cell, k_cell⟩ ⟨ok_hands F_hands T GS b_stream mS k_stream, b_hands, PySem.W.mg_of X G a_hands, k_hands⟩
    ⟨ok_deeds F_deeds T GS b_stream mS k_stream (ok_act F_act T) b_act (PySem.W.mg_of X G a_act) k_act, b_deeds, PySem.W.mg_of X G a_deeds, k_deeds⟩
    ⟨mk, a_init, i_init, kc⟩ (ok_init F_init T) b_init ⟨GH, b_hear, a_hear, i_hear, k_hear⟩ ⟨ok_fill F_fill T, b_fill, a_fill, i_fill, k_fill⟩ ⟨ok_rows F_rows T, b_rows, a_rows, i_rows, k_rows⟩ ⟨ok_lost F_lost T, b_lost, a_lost, i_lost, k_lost⟩
theorem walk {l : PySem.W.OpenLaw} {q : Program} {loose : List Str} {XP : (Str → Option Value) → Heap → Prop} {YP : World → Heap → Prop} {d : DefRec} {K : Params → PySem.W.Frag} (hn : l.most = some 63) (hdf : d.params.defaults = [])
    (hY : ∀ (w : World) (h : Heap), YP w h → (K w.params).In h)
    (F : ∀ (w : World) (mg : Str → Option Value) (fa : Addr) (h : Heap), (K w.params).In h → h.Ns mainGlobals mg → mg d.name = some (.ref fa) →
      ∃ fd : FuncData, (∀ (s : Shared) (u : Value), BindsTo s fd ⟨[u], []⟩ [("_law_script", u)]) ∧ ∀ base : Heap, (K w.params).In base → base.Ns mainGlobals mg → FnOk l.prog w (K w.params) mg base CX0 4 fa fd ["_law_script"] (spLaw (K w.params))) :
    PySem.W.WalkO q loose XP YP l.row.toRowW d [] (fun f vs => PySem.call f vs) :=
  L2.walk_of (n := 63) (k := 4) (x := "_law_script") (CX := fun _ => CX0) (sp := fun w => spLaw (K w.params)) hn (by decide) hdf ⟨rfl, by decide, by decide⟩ hY F (fun _ _ a ns hl _ hS => ⟨a, ns, rfl, hS, hl, fun _ => rfl⟩) fun _ _ _ _ _ z => z
end CM
open PySem PySem.W PyProof.Rows
set_option maxRecDepth 100000 in
set_option maxHeartbeats 0 in
theorem PySem.Challenge.cw_copymeet_k57_a_tree_filled_holds : PySem.Challenge.rw_copymeet_k57_a_tree_filled.Holds := by
  w_on; o_law; k_head; (case hw => w_witness2)
  k_fill
  refine CM.walk (l := PySem.Challenge.rw_copymeet_k57_a_tree_filled) rfl rfl (fun w h Y => PySem.W.kIn_of Y) ?F
  case F =>
    intro w mg fa h KX G hmg
    refine' CM.all_mk KX G hmg ?aC ?a_init ?i_init ?l_init ?c_init ?k_init ?a_fill ?i_fill ?l_fill ?c_fill ?k_fill ?a_rows ?i_rows ?l_rows ?c_rows ?k_rows ?a_lost ?i_lost ?l_lost ?c_lost ?k_lost ?a_kind ?i_kind ?l_kind ?c_kind ?k_kind ?a_ring ?i_ring ?l_ring ?c_ring ?k_ring ?a_fits ?i_fits ?l_fits ?c_fits ?k_fits ?a_put ?i_put ?l_put ?c_put ?k_put ?a_hear ?i_hear ?l_hear ?c_hear ?k_hear ?a_place ?l_place ?c_place ?k_place ?a_cell ?l_cell ?c_cell ?k_cell ?a_stream ?l_stream ?c_stream ?k_stream ?a_hands ?l_hands ?c_hands ?k_hands ?a_act ?l_act ?c_act ?k_act ?a_deeds ?l_deeds ?c_deeds ?k_deeds ?a_law ?l_law ?c_law ?k_law ?pg ?hd ?po ?sa ?mk ?kc ?nS ?nL ?aR ?lR ?z_len ?z_list ?z_sorted ?z_range ?z_isinstance ?z_str
    (case aC => k_is); (case a_init => k_is); (case i_init => k_is); (case l_init => k_is); (case c_init => k_is); (case k_init => k_is)
    (case a_fill => k_is); (case i_fill => k_is); (case l_fill => k_is); (case c_fill => k_is); (case k_fill => k_is); (case a_rows => k_is)
    (case i_rows => k_is); (case l_rows => k_is); (case c_rows => k_is); (case k_rows => k_is); (case a_lost => k_is); (case i_lost => k_is)
    (case l_lost => k_is); (case c_lost => k_is); (case k_lost => k_is); (case a_kind => k_is); (case i_kind => k_is); (case l_kind => k_is)
    (case c_kind => k_is); (case k_kind => k_is); (case a_ring => k_is); (case i_ring => k_is); (case l_ring => k_is); (case c_ring => k_is)
    (case k_ring => k_is); (case a_fits => k_is); (case i_fits => k_is); (case l_fits => k_is); (case c_fits => k_is); (case k_fits => k_is)
    (case a_put => k_is); (case i_put => k_is); (case l_put => k_is); (case c_put => k_is); (case k_put => k_is); (case a_hear => k_is)
    (case i_hear => k_is); (case l_hear => k_is); (case c_hear => k_is); (case k_hear => k_is); (case a_place => k_is); (case l_place => k_is)
    (case c_place => k_is); (case k_place => k_is); (case a_cell => k_is); (case l_cell => k_is); (case c_cell => k_is); (case k_cell => k_is)
    (case a_stream => k_is); (case l_stream => k_is); (case c_stream => k_is); (case k_stream => k_is); (case a_hands => k_is); (case l_hands => k_is)
    (case c_hands => k_is); (case k_hands => k_is); (case a_act => k_is); (case l_act => k_is); (case c_act => k_is); (case k_act => k_is)
    (case a_deeds => k_is); (case l_deeds => k_is); (case c_deeds => k_is); (case k_deeds => k_is); (case a_law => k_is); (case l_law => k_is)
    (case c_law => k_is); (case k_law => k_is); (case pg => k_is); (case hd => k_is); (case po => k_is); (case sa => k_is)
    (case mk => k_is); (case kc => k_is); (case nS => k_is); (case nL => k_is); (case aR => k_is); (case lR => k_is)
    (case z_len => k_is); (case z_list => k_is); (case z_sorted => k_is); (case z_range => k_is); (case z_isinstance => k_is); (case z_str => k_is)
#print axioms PySem.Challenge.cw_copymeet_k57_a_tree_filled_holds
