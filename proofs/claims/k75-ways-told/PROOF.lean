import PyProof.Rows.All
import Wide.All
import OpenK.AllK
import Wide.FinOn
import KE.KStateDown
import Lean
import HandS.Base
import HandS.Call
import HandS.List
import HandS.Comp
import HandS.Dict
import HandS.Iter
import HandS.Text
import HandS.Ends
import HandS.SortInts
import HandS.IsInst
import HandS.Style
import HandS.Zip
import HandS.Replace
import HandS.Conv
import HandS.Deep
import HandS.Wide
import KE.KDictZip
import KE.DataMinMax
import PyProof.ReprRoads
import Wide.Once
import HandS.More
import HandS.Words
import HandS.WordsList
import HandS.WordsDict
import HandS.WordsExc
import HandS.Defaults
import HandS.Head0
import HandS.Head1
import HandS.Head2
import HandS.HeadEnd
import HandS.HeadHook1
import HandS.HeadHook2
import HandS.HeadHook3
import HandS.HeadHook4
import PySem.Challenge.RW_decidebook_k75_ways_told
import HandS.SortKw
import KE.KEqDeep
import PyProof.Rows.RegFStrParts
set_option Elab.async false
set_option linter.all false
set_option maxRecDepth 100000
set_option maxHeartbeats 4000000
/-! Rooms of decisions: their meaning, plain. -/
namespace DB
variable {α : Type} [DecidableEq α]

abbrev Rw (α : Type) := α × Nat × Nat

/-- what a room leads to -/
def ev (rows : List (Rw α)) (n : Nat) (e : α → Bool) : Bool :=
  if n < 2 then n == 1 else
    match rows[n - 2]? with
    | none => false
    | some r => if h : (if e r.1 then r.2.2 else r.2.1) < n then ev rows (if e r.1 then r.2.2 else r.2.1) e else false
termination_by n

/-- the place of a room's mark -/
def lv (marks : List α) (rows : List (Rw α)) (n : Nat) : Nat :=
  if n < 2 then marks.length else
    match rows[n - 2]? with
    | none => marks.length
    | some r => marks.idxOf r.1

/-- every mark below a room is one of p -/
def sup (rows : List (Rw α)) (p : α → Bool) (n : Nat) : Bool :=
  if n < 2 then true else
    match rows[n - 2]? with
    | none => true
    | some r => p r.1 && (if h : r.2.1 < n then sup rows p r.2.1 else false) && (if h : r.2.2 < n then sup rows p r.2.2 else false)
termination_by n

structure Wf (marks : List α) (rows : List (Rw α)) : Prop where
  mem : ∀ (i : Nat) (m : α) (lo hi : Nat), rows[i]? = some (m, lo, hi) → m ∈ marks
  llt : ∀ (i : Nat) (m : α) (lo hi : Nat), rows[i]? = some (m, lo, hi) → lo < i + 2
  hlt : ∀ (i : Nat) (m : α) (lo hi : Nat), rows[i]? = some (m, lo, hi) → hi < i + 2
  red : ∀ (i : Nat) (m : α) (lo hi : Nat), rows[i]? = some (m, lo, hi) → lo ≠ hi
  lol : ∀ (i : Nat) (m : α) (lo hi : Nat), rows[i]? = some (m, lo, hi) → marks.idxOf m < lv marks rows lo
  hil : ∀ (i : Nat) (m : α) (lo hi : Nat), rows[i]? = some (m, lo, hi) → marks.idxOf m < lv marks rows hi

/-- put a mark to a value -/
def up (e : α → Bool) (m : α) (v : Bool) : α → Bool := fun x => if x = m then v else e x
theorem up_same (e : α → Bool) (m : α) (v : Bool) : up e m v m = v := by simp [up]
theorem up_ne (e : α → Bool) {m x : α} (v : Bool) (h : x ≠ m) : up e m v x = e x := by simp [up, h]

variable {marks : List α} {rows mo : List (Rw α)}

theorem ev_zero (e : α → Bool) : ev rows 0 e = false := by rw [ev]; simp
theorem ev_one (e : α → Bool) : ev rows 1 e = true := by rw [ev]; simp
theorem ev_node (W : Wf marks rows) {n : Nat} {m : α} {lo hi : Nat} (h2 : 2 ≤ n) (h : rows[n - 2]? = some (m, lo, hi)) (e : α → Bool) :
    ev rows n e = if e m then ev rows hi e else ev rows lo e := by
  have a := W.llt _ _ _ _ h
  have b := W.hlt _ _ _ _ h
  rw [ev, if_neg (by omega), h]
  by_cases c : e m = true
  · simp only [c, if_true]
    rw [dif_pos (by omega)]
  · simp only [c]
    rw [dif_pos (by simp; omega)]
    simp
theorem ev_small {n : Nat} (h : n < 2) (e : α → Bool) : ev rows n e = (n == 1) := by rw [ev, if_pos h]
theorem lv_small {n : Nat} (h : n < 2) : lv marks rows n = marks.length := by rw [lv, if_pos h]
theorem lv_node {n : Nat} {m : α} {lo hi : Nat} (h2 : 2 ≤ n) (h : rows[n - 2]? = some (m, lo, hi)) : lv marks rows n = marks.idxOf m := by
  rw [lv, if_neg (by omega), h]
theorem sup_small {p : α → Bool} {n : Nat} (h : n < 2) : sup rows p n = true := by rw [sup, if_pos h]
theorem sup_node (W : Wf marks rows) {p : α → Bool} {n : Nat} {m : α} {lo hi : Nat} (h2 : 2 ≤ n) (h : rows[n - 2]? = some (m, lo, hi)) :
    sup rows p n = (p m && sup rows p lo && sup rows p hi) := by
  have a := W.llt _ _ _ _ h
  have b := W.hlt _ _ _ _ h
  rw [sup, if_neg (by omega), h]
  show (p m && (if h : lo < n then sup rows p lo else false) && (if h : hi < n then sup rows p hi else false)) = _
  rw [dif_pos (by omega), dif_pos (by omega)]

/-- a room of the book is no, yes, or has its row -/
theorem node_of {n : Nat} (h2 : 2 ≤ n) (h : n < rows.length + 2) : ∃ m lo hi, rows[n - 2]? = some (m, lo, hi) := by
  have q : n - 2 < rows.length := by omega
  exact ⟨rows[n-2].1, rows[n-2].2.1, rows[n-2].2.2, by rw [List.getElem?_eq_getElem q]⟩
theorem lv_le (W : Wf marks rows) (n : Nat) : lv marks rows n ≤ marks.length := by
  rw [lv]
  split
  · exact Nat.le_refl _
  · split
    · exact Nat.le_refl _
    · exact List.idxOf_le_length
theorem lv_lt (W : Wf marks rows) {n : Nat} (h2 : 2 ≤ n) (h : n < rows.length + 2) : lv marks rows n < marks.length := by
  obtain ⟨m, lo, hi, e⟩ := node_of h2 h
  rw [lv_node h2 e]
  exact List.idxOf_lt_length_of_mem (W.mem _ _ _ _ e)

/-! ### a book that has grown -/
theorem get_more {n : Nat} {r : Rw α} (h : rows[n]? = some r) : (rows ++ mo)[n]? = some r := by
  rw [List.getElem?_append_left (by exact (List.getElem?_eq_some_iff.mp h).1)]
  exact h
theorem ev_more (W : Wf marks rows) (W' : Wf marks (rows ++ mo)) (e : α → Bool) : ∀ n, n < rows.length + 2 → ev (rows ++ mo) n e = ev rows n e := by
  intro n
  induction n using Nat.strongRecOn with
  | _ n ih =>
    intro hn
    by_cases h2 : n < 2
    · rw [ev_small h2, ev_small h2]
    · obtain ⟨m, lo, hi, q⟩ := node_of (by omega) hn
      have a := W.llt _ _ _ _ q
      have b := W.hlt _ _ _ _ q
      rw [ev_node W (by omega) q, ev_node W' (by omega) (get_more q), ih lo (by omega) (by omega), ih hi (by omega) (by omega)]
theorem lv_more (W : Wf marks rows) {n : Nat} (hn : n < rows.length + 2) : lv marks (rows ++ mo) n = lv marks rows n := by
  by_cases h2 : n < 2
  · rw [lv_small h2, lv_small h2]
  · obtain ⟨m, lo, hi, q⟩ := node_of (by omega) hn
    rw [lv_node (by omega) q, lv_node (by omega) (get_more q)]
theorem sup_more (W : Wf marks rows) (W' : Wf marks (rows ++ mo)) (p : α → Bool) : ∀ n, n < rows.length + 2 → sup (rows ++ mo) p n = sup rows p n := by
  intro n
  induction n using Nat.strongRecOn with
  | _ n ih =>
    intro hn
    by_cases h2 : n < 2
    · rw [sup_small h2, sup_small h2]
    · obtain ⟨m, lo, hi, q⟩ := node_of (by omega) hn
      have a := W.llt _ _ _ _ q
      have b := W.hlt _ _ _ _ q
      rw [sup_node W (by omega) q, sup_node W' (by omega) (get_more q), ih lo (by omega) (by omega), ih hi (by omega) (by omega)]

/-! ### meaning hangs on the marks below alone -/
theorem ev_sup (W : Wf marks rows) {p : α → Bool} {e e' : α → Bool} (he : ∀ m, p m = true → e m = e' m) : ∀ n, n < rows.length + 2 → sup rows p n = true → ev rows n e = ev rows n e' := by
  intro n
  induction n using Nat.strongRecOn with
  | _ n ih =>
    intro hn hs
    by_cases h2 : n < 2
    · rw [ev_small h2, ev_small h2]
    · obtain ⟨m, lo, hi, q⟩ := node_of (by omega) hn
      have a := W.llt _ _ _ _ q
      have b := W.hlt _ _ _ _ q
      rw [sup_node W (by omega) q, Bool.and_eq_true, Bool.and_eq_true] at hs
      rw [ev_node W (by omega) q, ev_node W (by omega) q, ih lo (by omega) (by omega) hs.1.2, ih hi (by omega) (by omega) hs.2, he m hs.1.1]
/-- below a room stand marks from its level on -/
theorem sup_lv (W : Wf marks rows) : ∀ n, n < rows.length + 2 → ∀ i, i ≤ lv marks rows n → sup rows (fun x => decide (i ≤ marks.idxOf x)) n = true := by
  intro n
  induction n using Nat.strongRecOn with
  | _ n ih =>
    intro hn i hi'
    by_cases h2 : n < 2
    · rw [sup_small h2]
    · obtain ⟨m, lo, hi, q⟩ := node_of (by omega) hn
      have a := W.llt _ _ _ _ q
      have b := W.hlt _ _ _ _ q
      have c := W.lol _ _ _ _ q
      have d := W.hil _ _ _ _ q
      rw [lv_node (by omega) q] at hi'
      rw [sup_node W (by omega) q, ih lo (by omega) (by omega) i (by omega), ih hi (by omega) (by omega) i (by omega)]
      simp; omega
/-- a mark ahead of a room's level does not matter -/
theorem ev_up (W : Wf marks rows) {n : Nat} (hn : n < rows.length + 2) {m : α} (hm : marks.idxOf m < lv marks rows n) (e : α → Bool) (v : Bool) : ev rows n (up e m v) = ev rows n e := by
  refine ev_sup W (fun x hx => ?_) n hn (sup_lv W n hn (lv marks rows n) (Nat.le_refl _))
  have hx : lv marks rows n ≤ marks.idxOf x := by simpa using hx
  refine up_ne e v fun z => ?_
  rw [z] at hx
  omega
/-- a room that is never yes is no -/
theorem zero_of (W : Wf marks rows) : ∀ n, n < rows.length + 2 → (∀ e, ev rows n e = false) → n = 0 := by
  intro n
  induction n using Nat.strongRecOn with
  | _ n ih =>
    intro hn hz
    by_cases h2 : n < 2
    · have := hz (fun _ => false)
      rw [ev_small h2] at this
      have : n ≠ 1 := by simpa using this
      omega
    · obtain ⟨m, lo, hi, q⟩ := node_of (by omega) hn
      have a := W.llt _ _ _ _ q
      have b := W.hlt _ _ _ _ q
      have c := W.lol _ _ _ _ q
      have d := W.hil _ _ _ _ q
      have zl : lo = 0 := ih lo (by omega) (by omega) fun e => by
        have := hz (up e m false)
        rw [ev_node W (by omega) q, up_same] at this
        rw [← ev_up W (by omega) c e false]
        simpa using this
      have zh : hi = 0 := ih hi (by omega) (by omega) fun e => by
        have := hz (up e m true)
        rw [ev_node W (by omega) q, up_same] at this
        rw [← ev_up W (by omega) d e true]
        simpa using this
      exact absurd (zl.trans zh.symm) (W.red _ _ _ _ q)

/-! ### a room is found or made -/
/-- what stands for a mark and two goings -/
theorem dec_old (W : Wf marks rows) {i : Nat} {m : α} {lo hi : Nat} (h : rows[i]? = some (m, lo, hi)) :
    i + 2 < rows.length + 2 ∧ (∀ e, ev rows (i + 2) e = if e m then ev rows hi e else ev rows lo e) ∧ lv marks rows (i + 2) = marks.idxOf m ∧
      ∀ p, sup rows p (i + 2) = (p m && sup rows p lo && sup rows p hi) := by
  have q : i < rows.length := (List.getElem?_eq_some_iff.mp h).1
  exact ⟨by omega, fun e => ev_node W (by omega) h e, lv_node (by omega) h, fun p => sup_node W (by omega) h⟩
theorem lv_snoc {r : Rw α} {n : Nat} (hn : n < rows.length + 2) : lv marks (rows ++ [r]) n = lv marks rows n := by
  by_cases h2 : n < 2
  · rw [lv_small h2, lv_small h2]
  · obtain ⟨m, lo, hi, q⟩ := node_of (by omega) hn
    rw [lv_node (by omega) q, lv_node (by omega) (get_more q)]
theorem wf_snoc (W : Wf marks rows) {m : α} {lo hi : Nat} (hm : m ∈ marks) (hl : lo < rows.length + 2) (hh : hi < rows.length + 2) (hne : lo ≠ hi)
    (h1 : marks.idxOf m < lv marks rows lo) (h2 : marks.idxOf m < lv marks rows hi) : Wf marks (rows ++ [(m, lo, hi)]) := by
  have key : ∀ i x a b, (rows ++ [(m, lo, hi)])[i]? = some (x, a, b) → rows[i]? = some (x, a, b) ∨ (i = rows.length ∧ x = m ∧ a = lo ∧ b = hi) := by
    intro i x a b h
    by_cases c : i < rows.length
    · rw [List.getElem?_append_left c] at h
      exact .inl h
    · rw [List.getElem?_append_right (by omega)] at h
      have : i - rows.length = 0 := by
        cases k : i - rows.length with
        | zero => rfl
        | succ k' => rw [k] at h; simp at h
      rw [this] at h
      simp at h
      exact .inr ⟨by omega, h.1.symm, h.2.1.symm, h.2.2.symm⟩
  have lt : ∀ i x a b, rows[i]? = some (x, a, b) → i < rows.length := fun i x a b h => (List.getElem?_eq_some_iff.mp h).1
  refine ⟨fun i x a b h => ?_, fun i x a b h => ?_, fun i x a b h => ?_, fun i x a b h => ?_, fun i x a b h => ?_, fun i x a b h => ?_⟩ <;>
    rcases key i x a b h with z | ⟨rfl, rfl, rfl, rfl⟩
  · exact W.mem _ _ _ _ z
  · exact hm
  · exact W.llt _ _ _ _ z
  · exact hl
  · exact W.hlt _ _ _ _ z
  · exact hh
  · exact W.red _ _ _ _ z
  · exact hne
  · have l1 := lt _ _ _ _ z
    have l2 := W.llt _ _ _ _ z
    rw [lv_snoc (by omega)]
    exact W.lol _ _ _ _ z
  · rw [lv_snoc hl]; exact h1
  · have l1 := lt _ _ _ _ z
    have l2 := W.hlt _ _ _ _ z
    rw [lv_snoc (by omega)]
    exact W.hil _ _ _ _ z
  · rw [lv_snoc hh]; exact h2

/-! ### what a room of joining is -/
/-- r is the room of f of a and b -/
structure Jn (f : Bool → Bool → Bool) (marks : List α) (rows : List (Rw α)) (a b r : Nat) : Prop where
  la : a < rows.length + 2
  lb : b < rows.length + 2
  lt : r < rows.length + 2
  sem : ∀ e, ev rows r e = f (ev rows a e) (ev rows b e)
  lev : min (lv marks rows a) (lv marks rows b) ≤ lv marks rows r
  sp : ∀ p, sup rows p a = true → sup rows p b = true → sup rows p r = true
theorem Jn.more {f : Bool → Bool → Bool} {a b r : Nat} (W : Wf marks rows) (W' : Wf marks (rows ++ mo)) (j : Jn f marks rows a b r) : Jn f marks (rows ++ mo) a b r := by
  have hl : (rows ++ mo).length = rows.length + mo.length := List.length_append
  have := j.la
  have := j.lb
  have := j.lt
  refine ⟨by omega, by omega, by omega, fun e => ?_, ?_, fun p h1 h2 => ?_⟩
  · rw [ev_more W W' e r j.lt, ev_more W W' e a j.la, ev_more W W' e b j.lb]; exact j.sem e
  · rw [lv_more W j.lt, lv_more W j.la, lv_more W j.lb]; exact j.lev
  · rw [sup_more W W' p r j.lt]
    rw [sup_more W W' p a j.la] at h1
    rw [sup_more W W' p b j.lb] at h2
    exact j.sp p h1 h2
/-- r is the room a with the mark m held at v -/
structure Fx (m : α) (v : Bool) (marks : List α) (rows : List (Rw α)) (a r : Nat) : Prop where
  la : a < rows.length + 2
  lt : r < rows.length + 2
  sem : ∀ e, ev rows r e = ev rows a (up e m v)
  lev : lv marks rows a ≤ lv marks rows r
  sp : ∀ p, sup rows p a = true → sup rows p r = true
theorem Fx.more {m : α} {v : Bool} {a r : Nat} (W : Wf marks rows) (W' : Wf marks (rows ++ mo)) (j : Fx m v marks rows a r) : Fx m v marks (rows ++ mo) a r := by
  have hl : (rows ++ mo).length = rows.length + mo.length := List.length_append
  have := j.la
  have := j.lt
  refine ⟨by omega, by omega, fun e => ?_, ?_, fun p h1 => ?_⟩
  · rw [ev_more W W' e r j.lt, ev_more W W' _ a j.la]; exact j.sem e
  · rw [lv_more W j.lt, lv_more W j.la]; exact j.lev
  · rw [sup_more W W' p r j.lt]
    rw [sup_more W W' p a j.la] at h1
    exact j.sp p h1

/-- the two goings of a room at a place -/
def gg (marks : List α) (rows : List (Rw α)) (n t : Nat) : Nat × Nat :=
  if lv marks rows n = t then (match rows[n - 2]? with | some r => (r.2.1, r.2.2) | none => (n, n)) else (n, n)
theorem gg_node {n : Nat} {m : α} {lo hi : Nat} (h : rows[n - 2]? = some (m, lo, hi)) : gg marks rows n (lv marks rows n) = (lo, hi) := by
  unfold gg
  rw [if_pos rfl, h]
theorem gg_ne {n t : Nat} (h : lv marks rows n ≠ t) : gg marks rows n t = (n, n) := by
  unfold gg
  rw [if_neg h]
theorem gg_ok (W : Wf marks rows) {n t : Nat} (hn : n < rows.length + 2) (ht : t ≤ lv marks rows n) {mk : α} (hm : marks[t]? = some mk) :
    (gg marks rows n t).1 < rows.length + 2 ∧ (gg marks rows n t).2 < rows.length + 2 ∧ t < lv marks rows (gg marks rows n t).1 ∧ t < lv marks rows (gg marks rows n t).2 ∧
      (∀ e, ev rows n e = if e mk then ev rows (gg marks rows n t).2 e else ev rows (gg marks rows n t).1 e) ∧
      ∀ p, sup rows p n = true → sup rows p (gg marks rows n t).1 = true ∧ sup rows p (gg marks rows n t).2 = true := by
  by_cases h : lv marks rows n = t
  · have h2 : 2 ≤ n := by
      refine Nat.le_of_not_lt fun z => ?_
      rw [lv_small z] at h
      have := (List.getElem?_eq_some_iff.mp hm).1
      omega
    obtain ⟨m, lo, hi, q⟩ := node_of h2 hn
    have a := W.llt _ _ _ _ q
    have b := W.hlt _ _ _ _ q
    have c := W.lol _ _ _ _ q
    have d := W.hil _ _ _ _ q
    have eg := gg_node (marks := marks) q
    rw [h] at eg
    rw [eg]
    have hl := lv_node (marks := marks) h2 q
    have em : mk = m := by
      have hmem := W.mem _ _ _ _ q
      have z := List.getElem_idxOf (List.idxOf_lt_length_of_mem hmem)
      have et : t = marks.idxOf m := by omega
      rw [et, List.getElem?_eq_getElem (List.idxOf_lt_length_of_mem hmem), z] at hm
      exact (Option.some.inj hm).symm
    refine ⟨by show lo < _; omega, by show hi < _; omega, by show t < lv marks rows lo; omega, by show t < lv marks rows hi; omega, fun e => ?_, fun p hp => ?_⟩
    · rw [em]; exact ev_node W h2 q e
    · rw [sup_node W h2 q, Bool.and_eq_true, Bool.and_eq_true] at hp
      exact ⟨hp.1.2, hp.2⟩
  · rw [gg_ne h]
    refine ⟨hn, hn, by show t < lv marks rows n; omega, by show t < lv marks rows n; omega, fun e => ?_, fun p hp => ⟨hp, hp⟩⟩
    split <;> rfl

/-! ### a book grows -/
structure Grow (marks : List α) (rows rows' : List (Rw α)) : Prop where
  pre : ∃ mo, rows' = rows ++ mo
  w : Wf marks rows
  w' : Wf marks rows'
section
variable {rows' rows₁ rows₂ rows₃ : List (Rw α)} {f : Bool → Bool → Bool}
theorem Grow.refl (W : Wf marks rows) : Grow marks rows rows := ⟨⟨[], by simp⟩, W, W⟩
theorem Grow.trans (a : Grow marks rows rows₁) (b : Grow marks rows₁ rows₂) : Grow marks rows rows₂ := by
  obtain ⟨m1, rfl⟩ := a.pre
  obtain ⟨m2, rfl⟩ := b.pre
  exact ⟨⟨m1 ++ m2, by simp⟩, a.w, b.w'⟩
theorem Grow.len (g : Grow marks rows rows') : rows.length ≤ rows'.length := by
  obtain ⟨mo, rfl⟩ := g.pre
  simp
theorem Grow.ev (g : Grow marks rows rows') {n : Nat} (h : n < rows.length + 2) (e : α → Bool) : DB.ev rows' n e = DB.ev rows n e := by
  obtain ⟨mo, rfl⟩ := g.pre
  exact ev_more g.w g.w' e n h
theorem Grow.lv (g : Grow marks rows rows') {n : Nat} (h : n < rows.length + 2) : DB.lv marks rows' n = DB.lv marks rows n := by
  obtain ⟨mo, rfl⟩ := g.pre
  exact lv_more g.w h
theorem Grow.sup (g : Grow marks rows rows') {n : Nat} (h : n < rows.length + 2) (p : α → Bool) : DB.sup rows' p n = DB.sup rows p n := by
  obtain ⟨mo, rfl⟩ := g.pre
  exact sup_more g.w g.w' p n h
theorem Grow.jn (g : Grow marks rows rows') {a b r : Nat} (j : Jn f marks rows a b r) : Jn f marks rows' a b r := by
  obtain ⟨mo, rfl⟩ := g.pre
  exact j.more g.w g.w'
theorem Grow.fx (g : Grow marks rows rows') {m : α} {v : Bool} {a r : Nat} (j : Fx m v marks rows a r) : Fx m v marks rows' a r := by
  obtain ⟨mo, rfl⟩ := g.pre
  exact j.more g.w g.w'
theorem Grow.get (g : Grow marks rows rows') {i : Nat} {r : Rw α} (h : rows[i]? = some r) : rows'[i]? = some r := by
  obtain ⟨mo, rfl⟩ := g.pre
  exact get_more h

/-- r stands for the mark m and the goings lo, hi -/
structure Dc (m : α) (marks : List α) (rows : List (Rw α)) (lo hi r : Nat) : Prop where
  lt : r < rows.length + 2
  sem : ∀ e, ev rows r e = if e m then ev rows hi e else ev rows lo e
  lev : marks.idxOf m ≤ lv marks rows r
  sp : ∀ p, p m = true → sup rows p lo = true → sup rows p hi = true → sup rows p r = true
theorem dc_eq (W : Wf marks rows) {m : α} {lo : Nat} (hl : lo < rows.length + 2) (h1 : marks.idxOf m < lv marks rows lo) : Dc m marks rows lo lo lo :=
  ⟨hl, fun e => by split <;> rfl, by omega, fun p _ h _ => h⟩
theorem dc_old (W : Wf marks rows) {i : Nat} {m : α} {lo hi : Nat} (h : rows[i]? = some (m, lo, hi)) : Dc m marks rows lo hi (i + 2) := by
  obtain ⟨a, b, c, d⟩ := dec_old W h
  exact ⟨a, b, by omega, fun p h0 h1 h2 => by rw [d, h0, h1, h2]; rfl⟩
theorem dc_new (W : Wf marks rows) {m : α} {lo hi : Nat} (hm : m ∈ marks) (hl : lo < rows.length + 2) (hh : hi < rows.length + 2) (hne : lo ≠ hi)
    (h1 : marks.idxOf m < lv marks rows lo) (h2 : marks.idxOf m < lv marks rows hi) :
    Grow marks rows (rows ++ [(m, lo, hi)]) ∧ Dc m marks (rows ++ [(m, lo, hi)]) lo hi (rows.length + 2) := by
  have W' := wf_snoc W hm hl hh hne h1 h2
  have q : (rows ++ [(m, lo, hi)])[rows.length]? = some (m, lo, hi) := by simp
  exact ⟨⟨⟨_, rfl⟩, W, W'⟩, dc_old W' q⟩

/-- no and yes joined -/
theorem jn_base (W : Wf marks rows) {a b : Nat} (ha : a < 2) (hb : b < 2) : Jn f marks rows a b (if f (a == 1) (b == 1) then 1 else 0) := by
  have hr : (if f (a == 1) (b == 1) then 1 else 0) < 2 := by split <;> omega
  refine ⟨by omega, by omega, by omega, fun e => ?_, ?_, fun p _ _ => ?_⟩
  · rw [ev_small hr, ev_small ha, ev_small hb]
    cases f (a == 1) (b == 1) <;> rfl
  · rw [lv_small hr, lv_small ha, lv_small hb]; omega
  · rw [sup_small hr]
/-- two rooms joined by the joined goings -/
theorem jn_step (W : Wf marks rows) {one other t : Nat} {m : α} (h1 : one < rows.length + 2) (h2 : other < rows.length + 2) (ht : t = min (lv marks rows one) (lv marks rows other)) (hm : marks[t]? = some m) (nd : marks.Nodup)
    (g1 : Grow marks rows rows₁) {low high r : Nat} (jl : Jn f marks rows₁ (gg marks rows one t).1 (gg marks rows other t).1 low)
    (g2 : Grow marks rows₁ rows₂) (jh : Jn f marks rows₂ (gg marks rows one t).2 (gg marks rows other t).2 high)
    (g3 : Grow marks rows₂ rows₃) (d : Dc m marks rows₃ low high r) (hsup : ∀ p, sup rows p one = true → sup rows p other = true → p m = true) : Jn f marks rows₃ one other r := by
  obtain ⟨a1, a2, a3, a4, a5, a6⟩ := gg_ok W h1 (t := t) (by omega) hm
  obtain ⟨b1, b2, b3, b4, b5, b6⟩ := gg_ok W h2 (t := t) (by omega) hm
  have gA := g1.trans (g2.trans g3)
  have gl := gA.len
  have JL := (g2.trans g3).jn jl
  have JH := g3.jn jh
  have hi : marks.idxOf m = t := by
    obtain ⟨hlt, he⟩ := List.getElem?_eq_some_iff.mp hm
    rw [← he]
    exact List.Nodup.idxOf_getElem nd t hlt
  refine ⟨by omega, by omega, d.lt, fun e => ?_, ?_, fun p p1 p2 => ?_⟩
  · rw [d.sem, JL.sem, JH.sem, gA.ev a1, gA.ev a2, gA.ev b1, gA.ev b2, gA.ev h1, gA.ev h2, a5 e, b5 e]
    cases e m <;> rfl
  · rw [gA.lv h1, gA.lv h2]
    have := d.lev
    omega
  · rw [gA.sup h1] at p1
    rw [gA.sup h2] at p2
    obtain ⟨q1, q2⟩ := a6 p p1
    obtain ⟨q3, q4⟩ := b6 p p2
    exact d.sp p (hsup p p1 p2) (JL.sp p (by rw [gA.sup a1]; exact q1) (by rw [gA.sup b1]; exact q3)) (JH.sp p (by rw [gA.sup a2]; exact q2) (by rw [gA.sup b2]; exact q4))
/-- the mark of the first of two rooms is among those below them -/
theorem sup_min (W : Wf marks rows) {one other t : Nat} {m : α} (nd : marks.Nodup) (h1 : one < rows.length + 2) (h2 : other < rows.length + 2) (ht : t = min (lv marks rows one) (lv marks rows other)) (hm : marks[t]? = some m) :
    ∀ p, sup rows p one = true → sup rows p other = true → p m = true := by
  have key : ∀ n, n < rows.length + 2 → lv marks rows n = t → ∀ p, sup rows p n = true → p m = true := fun n hn hl p hp => by
    have hlt := (List.getElem?_eq_some_iff.mp hm).1
    have n2 : 2 ≤ n := by
      refine Nat.le_of_not_lt fun z => ?_
      rw [lv_small z] at hl
      omega
    obtain ⟨x, lo, hi, q⟩ := node_of n2 hn
    rw [sup_node W n2 q, Bool.and_eq_true, Bool.and_eq_true] at hp
    rw [lv_node n2 q] at hl
    have hx := W.mem _ _ _ _ q
    have : marks[marks.idxOf x]? = some x := by
      rw [List.getElem?_eq_getElem (List.idxOf_lt_length_of_mem hx), List.getElem_idxOf]
    rw [hl, hm] at this
    rw [Option.some.inj this]
    exact hp.1.1
  intro p p1 p2
  by_cases c : lv marks rows one ≤ lv marks rows other
  · exact key one h1 (by omega) p p1
  · exact key other h2 (by omega) p p2

/-- held: the mark stands further up -/
theorem fx_above (W : Wf marks rows) {n t : Nat} {m : α} {v : Bool} (hn : n < rows.length + 2) (hm : marks.idxOf m = t) (h : t < lv marks rows n) : Fx m v marks rows n n :=
  ⟨hn, hn, fun e => by rw [ev_up W hn (by omega)], Nat.le_refl _, fun _ h => h⟩
/-- held: the mark is the room's own -/
theorem fx_here (W : Wf marks rows) {n : Nat} {m : α} {v : Bool} {lo hi : Nat} (h2 : 2 ≤ n) (q : rows[n - 2]? = some (m, lo, hi)) : Fx m v marks rows n (if v then hi else lo) := by
  have a := W.llt _ _ _ _ q
  have b := W.hlt _ _ _ _ q
  have c := W.lol _ _ _ _ q
  have d := W.hil _ _ _ _ q
  have l := (List.getElem?_eq_some_iff.mp q).1
  refine ⟨by omega, by split <;> omega, fun e => ?_, ?_, fun p hp => ?_⟩
  · rw [ev_node W h2 q, up_same]
    cases v
    · simp only [Bool.false_eq_true, if_false]; rw [ev_up W (by omega) c]
    · simp only [if_true]; rw [ev_up W (by omega) d]
  · rw [lv_node h2 q]; split <;> omega
  · rw [sup_node W h2 q, Bool.and_eq_true, Bool.and_eq_true] at hp
    split
    · exact hp.2
    · exact hp.1.2
/-- held: the mark stands further down -/
theorem fx_step (W : Wf marks rows) {n : Nat} {m x : α} {v : Bool} {lo hi : Nat} (h2 : 2 ≤ n) (q : rows[n - 2]? = some (x, lo, hi)) (hne : x ≠ m)
    (g1 : Grow marks rows rows₁) {low high r : Nat} (jl : Fx m v marks rows₁ lo low) (g2 : Grow marks rows₁ rows₂) (jh : Fx m v marks rows₂ hi high)
    (g3 : Grow marks rows₂ rows₃) (d : Dc x marks rows₃ low high r) : Fx m v marks rows₃ n r := by
  have a := W.llt _ _ _ _ q
  have b := W.hlt _ _ _ _ q
  have l := (List.getElem?_eq_some_iff.mp q).1
  have gA := g1.trans (g2.trans g3)
  have gl := gA.len
  have JL := (g2.trans g3).fx jl
  have JH := g3.fx jh
  refine ⟨by omega, d.lt, fun e => ?_, ?_, fun p hp => ?_⟩
  · rw [d.sem, JL.sem, JH.sem, gA.ev (by omega), gA.ev (by omega), gA.ev (by omega), ev_node W h2 q, up_ne e v hne]
  · rw [gA.lv (by omega), lv_node h2 q]; exact d.lev
  · rw [gA.sup (by omega), sup_node W h2 q, Bool.and_eq_true, Bool.and_eq_true] at hp
    exact d.sp p hp.1.1 (JL.sp p (by rw [gA.sup (by omega)]; exact hp.1.2)) (JH.sp p (by rw [gA.sup (by omega)]; exact hp.2))
end

/-! ### sentences -/
inductive Op where
  | and | or | either | iff
  deriving DecidableEq
def Op.fn : Op → Bool → Bool → Bool
  | .and, a, b => a && b
  | .or, a, b => a || b
  | .either, a, b => xor a b
  | .iff, a, b => !a || b
inductive Sn (α : Type) where
  | tt (b : Bool)
  | mk (m : α)
  | no (s : Sn α)
  | bin (o : Op) (s t : Sn α)
  | qu (b : Bool) (m : α) (s : Sn α)
/-- the worth of a sentence -/
def sv : Sn α → (α → Bool) → Bool
  | .tt b, _ => b
  | .mk m, e => e m
  | .no s, e => !sv s e
  | .bin o s t, e => o.fn (sv s e) (sv t e)
  | .qu true m s, e => sv s (up e m false) || sv s (up e m true)
  | .qu false m s, e => sv s (up e m false) && sv s (up e m true)
def Sn.cnt : Sn α → Nat
  | .tt _ => 1
  | .mk _ => 1
  | .no s => 1 + s.cnt
  | .bin _ s t => 1 + s.cnt + t.cnt
  | .qu _ _ s => 1 + s.cnt
def Sn.dep : Sn α → Nat
  | .tt _ => 1
  | .mk _ => 1
  | .no s => 1 + s.dep
  | .bin _ s t => 1 + max s.dep t.dep
  | .qu _ _ s => 1 + s.dep
/-- all its letters are of p -/
def Sn.all (p : α → Bool) : Sn α → Bool
  | .tt _ => true
  | .mk m => p m
  | .no s => s.all p
  | .bin _ s t => s.all p && t.all p
  | .qu _ m s => p m && s.all p
theorem sv_all {p : α → Bool} : ∀ (s : Sn α), s.all p = true → ∀ e e' : α → Bool, (∀ m, p m = true → e m = e' m) → sv s e = sv s e'
  | .tt _, _, _, _, _ => rfl
  | .mk m, h, e, e', he => he m h
  | .no s, h, e, e', he => by simp only [sv]; rw [sv_all s h e e' he]
  | .bin o s t, h, e, e', he => by
    have h : (s.all p && t.all p) = true := h
    rw [Bool.and_eq_true] at h
    simp only [sv]; rw [sv_all s h.1 e e' he, sv_all t h.2 e e' he]
  | .qu b m s, h, e, e', he => by
    have h : (p m && s.all p) = true := h
    rw [Bool.and_eq_true] at h
    have k : ∀ v, sv s (up e m v) = sv s (up e' m v) := fun v => sv_all s h.2 _ _ fun x hx => by
      by_cases c : x = m
      · subst c; rw [up_same, up_same]
      · rw [up_ne e v c, up_ne e' v c]; exact he x hx
    cases b <;> simp only [sv, k]
end DB

set_option maxHeartbeats 4000000
/-! Rows of now, the rounds, ways: plain. -/
namespace DB

abbrev Ro := List Bool
/-- all rows with n values, as lists are ordered -/
def allR : Nat → List Ro
  | 0 => [[]]
  | n + 1 => (allR n).flatMap fun r => [r ++ [false], r ++ [true]]
theorem mem_allR : ∀ {n : Nat} {r : Ro}, r ∈ allR n ↔ r.length = n
  | 0, r => by simp [allR]
  | n + 1, r => by
    simp only [allR, List.mem_flatMap]
    constructor
    · rintro ⟨q, hq, hr⟩
      have := (mem_allR (n := n)).mp hq
      rcases List.mem_cons.mp hr with rfl | hr
      · simp [this]
      · rcases List.mem_cons.mp hr with rfl | hr
        · simp [this]
        · cases hr
    · intro h
      have hne : r ≠ [] := fun z => by subst z; simp at h
      refine ⟨r.dropLast, mem_allR.mpr (by rw [List.length_dropLast]; omega), ?_⟩
      have e := List.dropLast_concat_getLast hne
      cases c : r.getLast hne with
      | false => rw [c] at e; rw [e]; exact List.mem_cons_self
      | true => rw [c] at e; rw [e]; exact List.mem_cons_of_mem _ List.mem_cons_self
theorem len_two : ∀ l : List Ro, (l.flatMap fun r => [r ++ [false], r ++ [true]]).length = 2 * l.length
  | [] => rfl
  | a :: l => by
    rw [List.flatMap_cons, List.length_append, len_two l, List.length_cons]
    simp; omega
theorem len_allR : ∀ n, (allR n).length = 2 ^ n
  | 0 => rfl
  | n + 1 => by
    simp only [allR]
    rw [len_two, len_allR n, Nat.pow_succ]
    omega
theorem nodup_allR : ∀ n, (allR n).Nodup
  | 0 => by simp [allR]
  | n + 1 => by
    simp only [allR, List.Nodup]
    rw [List.pairwise_flatMap]
    refine ⟨fun r _ => by simp, ?_⟩
    refine (nodup_allR n).imp fun {a b} hab => ?_
    intro x hx y hy hxy
    subst hxy
    have key : ∀ (r : Ro), x ∈ [r ++ [false], r ++ [true]] → x.dropLast = r := fun r h => by
      rcases List.mem_cons.mp h with rfl | h
      · simp
      · rcases List.mem_cons.mp h with rfl | h
        · simp
        · cases h
    exact hab ((key a hx).symm.trans (key b hy))
theorem any_allR {n : Nat} {f : Ro → Bool} : (allR n).any f = true ↔ ∃ r : Ro, r.length = n ∧ f r = true := by
  rw [List.any_eq_true]
  exact ⟨fun ⟨r, h, q⟩ => ⟨r, mem_allR.mp h, q⟩, fun ⟨r, h, q⟩ => ⟨r, mem_allR.mpr h, q⟩⟩
theorem any_allR_false {n : Nat} {f : Ro → Bool} : (allR n).any f = false ↔ ∀ r : Ro, r.length = n → f r = false := by
  rw [List.any_eq_false]
  exact ⟨fun h r hr => by have := h r (mem_allR.mpr hr); simpa using this, fun h r hr => by rw [h r (mem_allR.mp hr)]; simp⟩

/-- a row at which f is yes, if there is one: by its values, 0 ahead of 1 -/
def gre : Nat → (Ro → Bool) → Ro
  | 0, _ => []
  | n + 1, f => if (allR n).any (fun r => f (false :: r)) then false :: gre n (fun r => f (false :: r)) else true :: gre n (fun r => f (true :: r))
theorem len_gre : ∀ (n : Nat) (f : Ro → Bool), (gre n f).length = n
  | 0, _ => rfl
  | n + 1, f => by
    unfold gre
    split
    · rw [List.length_cons, len_gre n]
    · rw [List.length_cons, len_gre n]
theorem gre_ok : ∀ (n : Nat) (f : Ro → Bool), (allR n).any f = true → f (gre n f) = true
  | 0, f, h => by
    obtain ⟨r, hr, q⟩ := any_allR.mp h
    rw [List.length_eq_zero_iff.mp hr] at q
    exact q
  | n + 1, f, h => by
    unfold gre
    by_cases c : (allR n).any (fun r => f (false :: r)) = true
    · rw [if_pos c]
      exact gre_ok n (fun r => f (false :: r)) c
    · rw [if_neg c]
      refine gre_ok n (fun r => f (true :: r)) ?_
      obtain ⟨r, hr, q⟩ := any_allR.mp h
      cases r with
      | nil => simp at hr
      | cons b r =>
        have hr' : r.length = n := by simpa using hr
        cases b with
        | true => exact any_allR.mpr ⟨r, hr', q⟩
        | false => exact absurd (any_allR.mpr ⟨r, hr', q⟩) c

/-! ### the rounds -/
section
variable (m : Nat) (E : Ro → Ro → Bool) (S G : Ro → Bool)
def img (f : Ro → Bool) : Ro → Bool := fun y => (allR m).any fun x => E x y && f x
/-- the round k, and what is told by the ones ahead -/
def rs : Nat → (Ro → Bool) × (Ro → Bool)
  | 0 => (S, fun _ => false)
  | k + 1 => (fun y => img m E (rs k).1 y && !((rs k).2 y || (rs k).1 y), fun y => (rs k).2 y || (rs k).1 y)
def ne (f : Ro → Bool) : Bool := (allR m).any f
variable {m E S}
theorem rs_apart : ∀ (k : Nat) (y : Ro), (rs m E S k).1 y = true → (rs m E S k).2 y = false
  | 0, y, _ => rfl
  | k + 1, y, h => by
    simp only [rs] at h ⊢
    rw [Bool.and_eq_true] at h
    simpa using h.2
/-- how many rows are still ahead -/
def left (m : Nat) (E : Ro → Ro → Bool) (S : Ro → Bool) (k : Nat) : Nat := (allR m).countP fun y => !(rs m E S k).2 y
theorem countP_lt {α : Type} {p q : α → Bool} : ∀ {l : List α}, (∀ x ∈ l, p x = true → q x = true) → (∃ x ∈ l, q x = true ∧ p x = false) → l.countP p < l.countP q
  | [], _, ⟨x, h, _⟩ => nomatch h
  | a :: l, h, ⟨x, hx, h1, h2⟩ => by
    rw [List.countP_cons, List.countP_cons]
    have le : l.countP p ≤ l.countP q := List.countP_mono_left fun y hy => h y (List.mem_cons_of_mem _ hy)
    rcases List.mem_cons.mp hx with rfl | hx
    · rw [h1, h2]; simp; omega
    · have ih := countP_lt (l := l) (p := p) (q := q) (fun y hy => h y (List.mem_cons_of_mem _ hy)) ⟨x, hx, h1, h2⟩
      by_cases c : p a = true
      · rw [if_pos c, if_pos (h a List.mem_cons_self c)]; omega
      · rw [if_neg c]; split <;> omega
theorem left_lt {k : Nat} (h : ne m (rs m E S k).1 = true) : left m E S (k + 1) < left m E S k := by
  obtain ⟨y, hy, q⟩ := any_allR.mp h
  refine countP_lt (fun x _ hx => ?_) ⟨y, mem_allR.mpr hy, ?_, ?_⟩
  · simp only [rs] at hx
    simp at hx
    simp [hx.1]
  · rw [rs_apart k y q]; rfl
  · simp only [rs]; rw [q]; simp
/-- the number of the rounds -/
def IsK (m : Nat) (E : Ro → Ro → Bool) (S : Ro → Bool) (K : Nat) : Prop := (∀ i, i < K → ne m (rs m E S i).1 = true) ∧ ne m (rs m E S K).1 = false
theorem ex_from : ∀ (c k : Nat), left m E S k ≤ c → (∀ i, i < k → ne m (rs m E S i).1 = true) → ∃ K, k ≤ K ∧ K ≤ k + c ∧ IsK m E S K
  | c, k, hc, hk => by
    by_cases h : ne m (rs m E S k).1 = true
    · have l := left_lt h
      cases c with
      | zero => omega
      | succ c =>
        obtain ⟨K, h1, h2, h3⟩ := ex_from c (k + 1) (by omega) (fun i hi => by
          by_cases c : i < k
          · exact hk i c
          · have : i = k := by omega
            rw [this]; exact h)
        exact ⟨K, by omega, by omega, h3⟩
    · exact ⟨k, Nat.le_refl _, by omega, hk, by simpa using h⟩
theorem ex_K (m : Nat) (E : Ro → Ro → Bool) (S : Ro → Bool) : ∃ K, K ≤ 2 ^ m ∧ IsK m E S K := by
  have h0 : left m E S 0 ≤ 2 ^ m := by
    have := List.countP_le_length (p := fun y => !(rs m E S 0).2 y) (l := allR m)
    rw [len_allR] at this
    exact this
  obtain ⟨K, _, h2, h3⟩ := ex_from (m := m) (E := E) (S := S) _ 0 h0 (fun i hi => by omega)
  exact ⟨K, by omega, h3⟩
theorem K_one {K K' : Nat} (a : IsK m E S K) (b : IsK m E S K') : K = K' := by
  refine Nat.le_antisymm (Nat.le_of_not_lt fun h => ?_) (Nat.le_of_not_lt fun h => ?_)
  · have := a.1 K' h; rw [b.2] at this; cases this
  · have := b.1 K h; rw [a.2] at this; cases this

/-- the rows of a way, from its end -/
def bkl (m : Nat) (E : Ro → Ro → Bool) (S : Ro → Bool) : Nat → Ro → List Ro → List Ro
  | 0, y, acc => y :: acc
  | k + 1, y, acc => bkl m E S k (gre m fun x => (rs m E S k).1 x && E x y) (y :: acc)
/-- a way -/
inductive Path (E : Ro → Ro → Bool) : List Ro → Prop
  | one (y : Ro) : Path E [y]
  | cons (x y : Ro) (r : List Ro) : E x y = true → Path E (y :: r) → Path E (x :: y :: r)
theorem bkl_ok : ∀ (k : Nat) (y : Ro) (acc : List Ro), y.length = m → (rs m E S k).1 y = true → Path E (y :: acc) → (∀ r ∈ acc, r.length = m) →
    ∃ x r, bkl m E S k y acc = x :: r ∧ S x = true ∧ Path E (x :: r) ∧ (∀ z ∈ x :: r, z.length = m) ∧ (x :: r).length = k + 1 + acc.length ∧ ∃ pre, x :: r = pre ++ y :: acc
  | 0, y, acc, hl, hy, hp, ha => ⟨y, acc, rfl, hy, hp, fun z hz => by rcases List.mem_cons.mp hz with rfl | hz; exact hl; exact ha z hz, by simp; omega, [], rfl⟩
  | k + 1, y, acc, hl, hy, hp, ha => by
    simp only [rs] at hy
    rw [Bool.and_eq_true] at hy
    obtain ⟨x0, hx0, q⟩ := any_allR.mp hy.1
    rw [Bool.and_eq_true] at q
    have g := gre_ok m (fun x => (rs m E S k).1 x && E x y) (any_allR.mpr ⟨x0, hx0, by rw [q.1, q.2]; rfl⟩)
    have gl := len_gre m (fun x => (rs m E S k).1 x && E x y)
    rw [Bool.and_eq_true] at g
    obtain ⟨x, r, e1, e2, e3, e4, e5, pre, e6⟩ := bkl_ok k _ (y :: acc) gl g.1 (.cons _ _ _ g.2 hp) (fun z hz => by rcases List.mem_cons.mp hz with rfl | hz; exact hl; exact ha z hz)
    exact ⟨x, r, e1, e2, e3, e4, by rw [e5, List.length_cons]; omega, pre ++ [gre m fun x => (rs m E S k).1 x && E x y], by rw [e6]; simp⟩

/-! ### the same by numbers, as a law looks at it -/
section
variable (gr : List (List Nat)) (pl : List Nat)
def ts (gr : List (List Nat)) (pl : List Nat) : Nat → List Nat × List Nat
  | 0 => (pl, [])
  | k + 1 => (((List.range gr.length).filter fun j => decide (0 < ((ts gr pl k).1.filter fun i => decide (j ∈ gr.getD i [])).length)).filter fun j => !decide (j ∈ (ts gr pl k).2 ++ (ts gr pl k).1), (ts gr pl k).2 ++ (ts gr pl k).1)
structure Looks (m : Nat) (E : Ro → Ro → Bool) (gr : List (List Nat)) : Prop where
  len : gr.length = 2 ^ m
  mem : ∀ i j : Nat, i < 2 ^ m → (j ∈ gr.getD i [] ↔ ∃ h : i < (allR m).length ∧ j < (allR m).length, E ((allR m)[i]'h.1) ((allR m)[j]'h.2) = true)
structure Sees (m : Nat) (S : Ro → Bool) (pl : List Nat) : Prop where
  mem : ∀ j : Nat, j ∈ pl ↔ ∃ h : j < (allR m).length, S ((allR m)[j]) = true
theorem ts_ok {gr : List (List Nat)} {pl : List Nat} (L : Looks m E gr) (P : Sees m S pl) : ∀ k, Sees m (rs m E S k).1 (ts gr pl k).1 ∧ Sees m (rs m E S k).2 (ts gr pl k).2
  | 0 => ⟨P, ⟨fun j => ⟨fun h => (nomatch h), fun ⟨_, h⟩ => (by cases h)⟩⟩⟩
  | k + 1 => by
    obtain ⟨a, b⟩ := ts_ok L P k
    have hsn : ∀ j, j ∈ (ts gr pl k).2 ++ (ts gr pl k).1 ↔ ∃ h : j < (allR m).length, ((rs m E S k).2 (allR m)[j] || (rs m E S k).1 (allR m)[j]) = true := fun j => by
      rw [List.mem_append, a.mem, b.mem]
      constructor
      · rintro (⟨h, q⟩ | ⟨h, q⟩)
        · exact ⟨h, by rw [q]; rfl⟩
        · exact ⟨h, by rw [q]; simp⟩
      · rintro ⟨h, q⟩
        rw [Bool.or_eq_true] at q
        rcases q with q | q
        · exact .inl ⟨h, q⟩
        · exact .inr ⟨h, q⟩
    refine ⟨⟨fun j => ?_⟩, ⟨fun j => hsn j⟩⟩
    simp only [ts, rs]
    rw [List.mem_filter, List.mem_filter, List.mem_range, L.len, ← len_allR m]
    constructor
    · rintro ⟨⟨hj, h1⟩, h2⟩
      refine ⟨hj, ?_⟩
      have h1 := of_decide_eq_true h1
      have h2 : ¬ j ∈ (ts gr pl k).2 ++ (ts gr pl k).1 := by
        intro z
        rw [decide_eq_true z] at h2
        cases h2
      rw [Bool.and_eq_true]
      constructor
      · obtain ⟨i, hi⟩ := List.exists_mem_of_length_pos h1
        rw [List.mem_filter] at hi
        obtain ⟨li, qi⟩ := (a.mem i).mp hi.1
        have hg := of_decide_eq_true hi.2
        obtain ⟨hh, he⟩ := (L.mem i j (by rw [← len_allR m]; exact li)).mp hg
        exact any_allR.mpr ⟨(allR m)[i], mem_allR.mp (List.getElem_mem _), by rw [he, qi]; rfl⟩
      · cases c : ((rs m E S k).2 (allR m)[j] || (rs m E S k).1 (allR m)[j]) with
        | false => rfl
        | true => exact absurd ((hsn j).mpr ⟨hj, c⟩) h2
    · rintro ⟨hj, h⟩
      rw [Bool.and_eq_true] at h
      refine ⟨⟨hj, ?_⟩, ?_⟩
      · refine decide_eq_true ?_
        obtain ⟨x, hx, q⟩ := any_allR.mp h.1
        rw [Bool.and_eq_true] at q
        obtain ⟨i, hi, e⟩ := List.getElem_of_mem (mem_allR.mpr hx)
        refine List.length_pos_of_mem (a := i) (List.mem_filter.mpr ⟨(a.mem i).mpr ⟨hi, by rw [e]; exact q.2⟩, decide_eq_true ?_⟩)
        exact (L.mem i j (by rw [← len_allR m]; exact hi)).mpr ⟨⟨hi, hj⟩, by rw [e]; exact q.1⟩
      · have : ¬ j ∈ (ts gr pl k).2 ++ (ts gr pl k).1 := fun z => by
          obtain ⟨_, q⟩ := (hsn j).mp z
          rw [q] at h
          cases h.2
        rw [decide_eq_false this]; rfl
theorem sees_ne {f : Ro → Bool} {l : List Nat} (a : Sees m f l) : ne m f = true ↔ l ≠ [] := by
  constructor
  · intro h z
    obtain ⟨r, hr, q⟩ := any_allR.mp h
    obtain ⟨i, hi, e⟩ := List.getElem_of_mem (mem_allR.mpr hr)
    have := (a.mem i).mpr ⟨hi, by rw [e]; exact q⟩
    rw [z] at this; cases this
  · intro h
    obtain ⟨i, hi⟩ := List.exists_mem_of_ne_nil _ h
    obtain ⟨hi, q⟩ := (a.mem i).mp hi
    exact any_allR.mpr ⟨_, mem_allR.mp (List.getElem_mem _), q⟩
theorem sees_meet {f g : Ro → Bool} {l k : List Nat} (a : Sees m f l) (b : Sees m g k) : (l.any fun i => decide (i ∈ k)) = (allR m).any fun r => f r && g r := by
  rw [Bool.eq_iff_iff, List.any_eq_true, any_allR]
  constructor
  · rintro ⟨i, hi, q⟩
    obtain ⟨h1, q1⟩ := (a.mem i).mp hi
    obtain ⟨h2, q2⟩ := (b.mem i).mp (of_decide_eq_true q)
    exact ⟨_, mem_allR.mp (List.getElem_mem h1), by rw [q1, q2]; rfl⟩
  · rintro ⟨r, hr, q⟩
    rw [Bool.and_eq_true] at q
    obtain ⟨i, hi, e⟩ := List.getElem_of_mem (mem_allR.mpr hr)
    exact ⟨i, (a.mem i).mpr ⟨hi, by rw [e]; exact q.1⟩, decide_eq_true ((b.mem i).mpr ⟨hi, by rw [e]; exact q.2⟩)⟩
end
end
end DB
namespace DB
theorem bkl_len (m : Nat) (E : Ro → Ro → Bool) (S : Ro → Bool) : ∀ (k : Nat) (y : Ro) (acc : List Ro), (bkl m E S k y acc).length = k + 1 + acc.length
  | 0, y, acc => by simp [bkl]; omega
  | k + 1, y, acc => by
    rw [bkl, bkl_len m E S k]
    simp; omega
end DB

set_option maxHeartbeats 4000000
/-! the text by places, each def's datum, what is looked up behind the top (printed by gen_text.py) -/
namespace DW
open PySem L2
def top (i : Nat) : Stmt := PySem.Challenge.pw_decidebook_k75_ways_told.main.body.getD i (.Pass ⟨0, 0, 0, 0⟩)
abbrev sfheld : Stmt := top 10
abbrev sffor_some : Stmt := top 11
abbrev sfput : Stmt := top 12
abbrev sfnow_marks : Stmt := top 16
abbrev sfthen_of : Stmt := top 17
abbrev sfask_now : Stmt := top 18
abbrev sfmark_room : Stmt := top 19
abbrev sfas_then : Stmt := top 20
abbrev sfas_now : Stmt := top 21
abbrev sfsteps_from : Stmt := top 22
abbrev sfsteps_to : Stmt := top 23
abbrev sfrounds : Stmt := top 24
abbrev sfrow_room : Stmt := top 25
abbrev sffirst_row : Stmt := top 26
abbrev sfway_to : Stmt := top 27
abbrev sfis_step : Stmt := top 28
abbrev sfway_shows : Stmt := top 29
abbrev sfis_mark : Stmt := top 35
abbrev sfis_order : Stmt := top 36
abbrev sfask_order : Stmt := top 37
abbrev sfpieces_of : Stmt := top 38
abbrev sfwell_made : Stmt := top 39
abbrev sfcount : Stmt := top 40
abbrev sfdeep : Stmt := top 41
abbrev sfis_sentence : Stmt := top 42
abbrev sfask_sentence : Stmt := top 43
abbrev sfnamed : Stmt := top 44
abbrev sfmarks_of : Stmt := top 45
abbrev sfask_marks : Stmt := top 46
abbrev sm___init__ : Stmt := inClass (top 49) 0
abbrev sm_order : Stmt := inClass (top 49) 1
abbrev sm_ask_room : Stmt := inClass (top 49) 3
abbrev sm_ask_mark : Stmt := inClass (top 49) 4
abbrev sm_level : Stmt := inClass (top 49) 6
abbrev sm_goings : Stmt := inClass (top 49) 7
abbrev sm_decided : Stmt := inClass (top 49) 8
abbrev sm_join : Stmt := inClass (top 49) 9
abbrev sm_fix : Stmt := inClass (top 49) 10
abbrev sm_entered : Stmt := inClass (top 49) 11
abbrev sm_enter : Stmt := inClass (top 49) 12
abbrev sm_below : Stmt := inClass (top 49) 14
abbrev sf_law_cell_at : Stmt := top 51
abbrev sf_law_draw : Stmt := top 52
abbrev sf_law_sentence : Stmt := top 53
abbrev sf_law_rows : Stmt := top 54
abbrev sf_law_value : Stmt := top 55
abbrev sf_law_whole : Stmt := top 56
abbrev sf_law_numbers : Stmt := top 57
abbrev sf_law_world : Stmt := top 58
abbrev sf_law_now : Stmt := top 59
abbrev sf_law_pair : Stmt := top 60
abbrev sf_law_graph : Stmt := top 61
abbrev sf_law_places : Stmt := top 62
abbrev sf_law_into : Stmt := top 63
abbrev sf_law_turns : Stmt := top 64
abbrev sf_law_counting : Stmt := top 65
abbrev sf_law_single : Stmt := top 66
abbrev sf_law_both : Stmt := top 67
abbrev sf_law_told_place : Stmt := top 68
abbrev sf_law_is_way : Stmt := top 69
abbrev sf_law_asked : Stmt := top 70
abbrev sflaw : Stmt := top 71
def dfheld : He.DefD := ⟨("held", none), "held", "held", defArgs sfheld, defBody sfheld, defScope sfheld, [], []⟩
def dffor_some : He.DefD := ⟨("for_some", none), "for_some", "for_some", defArgs sffor_some, defBody sffor_some, defScope sffor_some, [], []⟩
def dfput : He.DefD := ⟨("put", none), "put", "put", defArgs sfput, defBody sfput, defScope sfput, [], []⟩
def dfnow_marks : He.DefD := ⟨("now_marks", none), "now_marks", "now_marks", defArgs sfnow_marks, defBody sfnow_marks, defScope sfnow_marks, [], []⟩
def dfthen_of : He.DefD := ⟨("then_of", none), "then_of", "then_of", defArgs sfthen_of, defBody sfthen_of, defScope sfthen_of, [], []⟩
def dfask_now : He.DefD := ⟨("ask_now", none), "ask_now", "ask_now", defArgs sfask_now, defBody sfask_now, defScope sfask_now, [], []⟩
def dfmark_room : He.DefD := ⟨("mark_room", none), "mark_room", "mark_room", defArgs sfmark_room, defBody sfmark_room, defScope sfmark_room, [], []⟩
def dfas_then : He.DefD := ⟨("as_then", none), "as_then", "as_then", defArgs sfas_then, defBody sfas_then, defScope sfas_then, [], []⟩
def dfas_now : He.DefD := ⟨("as_now", none), "as_now", "as_now", defArgs sfas_now, defBody sfas_now, defScope sfas_now, [], []⟩
def dfsteps_from : He.DefD := ⟨("steps_from", none), "steps_from", "steps_from", defArgs sfsteps_from, defBody sfsteps_from, defScope sfsteps_from, [], []⟩
def dfsteps_to : He.DefD := ⟨("steps_to", none), "steps_to", "steps_to", defArgs sfsteps_to, defBody sfsteps_to, defScope sfsteps_to, [], []⟩
def dfrounds : He.DefD := ⟨("rounds", none), "rounds", "rounds", defArgs sfrounds, defBody sfrounds, defScope sfrounds, [], []⟩
def dfrow_room : He.DefD := ⟨("row_room", none), "row_room", "row_room", defArgs sfrow_room, defBody sfrow_room, defScope sfrow_room, [], []⟩
def dffirst_row : He.DefD := ⟨("first_row", none), "first_row", "first_row", defArgs sffirst_row, defBody sffirst_row, defScope sffirst_row, [], []⟩
def dfway_to : He.DefD := ⟨("way_to", none), "way_to", "way_to", defArgs sfway_to, defBody sfway_to, defScope sfway_to, [], []⟩
def dfis_step : He.DefD := ⟨("is_step", none), "is_step", "is_step", defArgs sfis_step, defBody sfis_step, defScope sfis_step, [], []⟩
def dfway_shows : He.DefD := ⟨("way_shows", none), "way_shows", "way_shows", defArgs sfway_shows, defBody sfway_shows, defScope sfway_shows, [], []⟩
def dfis_mark : He.DefD := ⟨("is_mark", none), "is_mark", "is_mark", defArgs sfis_mark, defBody sfis_mark, defScope sfis_mark, [], []⟩
def dfis_order : He.DefD := ⟨("is_order", none), "is_order", "is_order", defArgs sfis_order, defBody sfis_order, defScope sfis_order, [], []⟩
def dfask_order : He.DefD := ⟨("ask_order", none), "ask_order", "ask_order", defArgs sfask_order, defBody sfask_order, defScope sfask_order, [], []⟩
def dfpieces_of : He.DefD := ⟨("pieces_of", none), "pieces_of", "pieces_of", defArgs sfpieces_of, defBody sfpieces_of, defScope sfpieces_of, [], []⟩
def dfwell_made : He.DefD := ⟨("well_made", none), "well_made", "well_made", defArgs sfwell_made, defBody sfwell_made, defScope sfwell_made, [], []⟩
def dfcount : He.DefD := ⟨("count", none), "count", "count", defArgs sfcount, defBody sfcount, defScope sfcount, [], []⟩
def dfdeep : He.DefD := ⟨("deep", none), "deep", "deep", defArgs sfdeep, defBody sfdeep, defScope sfdeep, [], []⟩
def dfis_sentence : He.DefD := ⟨("is_sentence", none), "is_sentence", "is_sentence", defArgs sfis_sentence, defBody sfis_sentence, defScope sfis_sentence, [], []⟩
def dfask_sentence : He.DefD := ⟨("ask_sentence", none), "ask_sentence", "ask_sentence", defArgs sfask_sentence, defBody sfask_sentence, defScope sfask_sentence, [], []⟩
def dfnamed : He.DefD := ⟨("named", none), "named", "named", defArgs sfnamed, defBody sfnamed, defScope sfnamed, [], []⟩
def dfmarks_of : He.DefD := ⟨("marks_of", none), "marks_of", "marks_of", defArgs sfmarks_of, defBody sfmarks_of, defScope sfmarks_of, [], []⟩
def dfask_marks : He.DefD := ⟨("ask_marks", none), "ask_marks", "ask_marks", defArgs sfask_marks, defBody sfask_marks, defScope sfask_marks, [], []⟩
def dm___init__ : He.DefD := ⟨("Book", some "__init__"), "__init__", "Book.__init__", defArgs sm___init__, defBody sm___init__, defScope sm___init__, [], []⟩
def dm_order : He.DefD := ⟨("Book", some "order"), "order", "Book.order", defArgs sm_order, defBody sm_order, defScope sm_order, [], []⟩
def dm_ask_room : He.DefD := ⟨("Book", some "ask_room"), "ask_room", "Book.ask_room", defArgs sm_ask_room, defBody sm_ask_room, defScope sm_ask_room, [], []⟩
def dm_ask_mark : He.DefD := ⟨("Book", some "ask_mark"), "ask_mark", "Book.ask_mark", defArgs sm_ask_mark, defBody sm_ask_mark, defScope sm_ask_mark, [], []⟩
def dm_level : He.DefD := ⟨("Book", some "level"), "level", "Book.level", defArgs sm_level, defBody sm_level, defScope sm_level, [], []⟩
def dm_goings : He.DefD := ⟨("Book", some "goings"), "goings", "Book.goings", defArgs sm_goings, defBody sm_goings, defScope sm_goings, [], []⟩
def dm_decided : He.DefD := ⟨("Book", some "decided"), "decided", "Book.decided", defArgs sm_decided, defBody sm_decided, defScope sm_decided, [], []⟩
def dm_join : He.DefD := ⟨("Book", some "join"), "join", "Book.join", defArgs sm_join, defBody sm_join, defScope sm_join, [], []⟩
def dm_fix : He.DefD := ⟨("Book", some "fix"), "fix", "Book.fix", defArgs sm_fix, defBody sm_fix, defScope sm_fix, [], []⟩
def dm_entered : He.DefD := ⟨("Book", some "entered"), "entered", "Book.entered", defArgs sm_entered, defBody sm_entered, defScope sm_entered, [], []⟩
def dm_enter : He.DefD := ⟨("Book", some "enter"), "enter", "Book.enter", defArgs sm_enter, defBody sm_enter, defScope sm_enter, [], []⟩
def dm_below : He.DefD := ⟨("Book", some "below"), "below", "Book.below", defArgs sm_below, defBody sm_below, defScope sm_below, [], []⟩
def df_law_cell_at : He.DefD := ⟨("_law_cell_at", none), "_law_cell_at", "_law_cell_at", defArgs sf_law_cell_at, defBody sf_law_cell_at, defScope sf_law_cell_at, [], []⟩
def df_law_draw : He.DefD := ⟨("_law_draw", none), "_law_draw", "_law_draw", defArgs sf_law_draw, defBody sf_law_draw, defScope sf_law_draw, [], []⟩
def df_law_sentence : He.DefD := ⟨("_law_sentence", none), "_law_sentence", "_law_sentence", defArgs sf_law_sentence, defBody sf_law_sentence, defScope sf_law_sentence, [], []⟩
def df_law_rows : He.DefD := ⟨("_law_rows", none), "_law_rows", "_law_rows", defArgs sf_law_rows, defBody sf_law_rows, defScope sf_law_rows, [], []⟩
def df_law_value : He.DefD := ⟨("_law_value", none), "_law_value", "_law_value", defArgs sf_law_value, defBody sf_law_value, defScope sf_law_value, [], []⟩
def df_law_whole : He.DefD := ⟨("_law_whole", none), "_law_whole", "_law_whole", defArgs sf_law_whole, defBody sf_law_whole, defScope sf_law_whole, [], []⟩
def df_law_numbers : He.DefD := ⟨("_law_numbers", none), "_law_numbers", "_law_numbers", defArgs sf_law_numbers, defBody sf_law_numbers, defScope sf_law_numbers, [], []⟩
def df_law_world : He.DefD := ⟨("_law_world", none), "_law_world", "_law_world", defArgs sf_law_world, defBody sf_law_world, defScope sf_law_world, [], []⟩
def df_law_now : He.DefD := ⟨("_law_now", none), "_law_now", "_law_now", defArgs sf_law_now, defBody sf_law_now, defScope sf_law_now, [], []⟩
def df_law_pair : He.DefD := ⟨("_law_pair", none), "_law_pair", "_law_pair", defArgs sf_law_pair, defBody sf_law_pair, defScope sf_law_pair, [], []⟩
def df_law_graph : He.DefD := ⟨("_law_graph", none), "_law_graph", "_law_graph", defArgs sf_law_graph, defBody sf_law_graph, defScope sf_law_graph, [], []⟩
def df_law_places : He.DefD := ⟨("_law_places", none), "_law_places", "_law_places", defArgs sf_law_places, defBody sf_law_places, defScope sf_law_places, [], []⟩
def df_law_into : He.DefD := ⟨("_law_into", none), "_law_into", "_law_into", defArgs sf_law_into, defBody sf_law_into, defScope sf_law_into, [], []⟩
def df_law_turns : He.DefD := ⟨("_law_turns", none), "_law_turns", "_law_turns", defArgs sf_law_turns, defBody sf_law_turns, defScope sf_law_turns, [], []⟩
def df_law_counting : He.DefD := ⟨("_law_counting", none), "_law_counting", "_law_counting", defArgs sf_law_counting, defBody sf_law_counting, defScope sf_law_counting, [], []⟩
def df_law_single : He.DefD := ⟨("_law_single", none), "_law_single", "_law_single", defArgs sf_law_single, defBody sf_law_single, defScope sf_law_single, [], []⟩
def df_law_both : He.DefD := ⟨("_law_both", none), "_law_both", "_law_both", defArgs sf_law_both, defBody sf_law_both, defScope sf_law_both, [], []⟩
def df_law_told_place : He.DefD := ⟨("_law_told_place", none), "_law_told_place", "_law_told_place", defArgs sf_law_told_place, defBody sf_law_told_place, defScope sf_law_told_place, [], []⟩
def df_law_is_way : He.DefD := ⟨("_law_is_way", none), "_law_is_way", "_law_is_way", defArgs sf_law_is_way, defBody sf_law_is_way, defScope sf_law_is_way, [], []⟩
def df_law_asked : He.DefD := ⟨("_law_asked", none), "_law_asked", "_law_asked", defArgs sf_law_asked, defBody sf_law_asked, defScope sf_law_asked, [], []⟩
def dflaw : He.DefD := ⟨("law", none), "law", "law", defArgs sflaw, defBody sflaw, defScope sflaw, [], []⟩
def fn0 : List (He.DefD) := [dfheld, dffor_some, dfput, dfnow_marks, dfthen_of, dfask_now, dfmark_room, dfas_then, dfas_now, dfsteps_from, dfsteps_to, dfrounds, dfrow_room, dffirst_row, dfway_to, dfis_step, dfway_shows, dfis_mark, dfis_order, dfask_order, dfpieces_of, dfwell_made, dfcount, dfdeep, dfis_sentence, dfask_sentence, dfnamed, dfmarks_of, dfask_marks, dm___init__]
def fn1 : List (He.DefD) := [dm_order, dm_ask_room, dm_ask_mark, dm_level, dm_goings, dm_decided, dm_join, dm_fix, dm_entered, dm_enter, dm_below, df_law_cell_at, df_law_draw, df_law_sentence, df_law_rows, df_law_value, df_law_whole, df_law_numbers, df_law_world, df_law_now, df_law_pair, df_law_graph, df_law_places, df_law_into, df_law_turns, df_law_counting, df_law_single, df_law_both, df_law_told_place, df_law_is_way]
def fn2 : List (He.DefD) := [df_law_asked, dflaw]
def fn : List (He.DefD) := fn0 ++ (fn1 ++ (fn2))
def fa0 : List (He.Fa) := [.glo "held", .glo "for_some", .glo "put", .glo "now_marks", .glo "then_of", .glo "ask_now", .glo "mark_room", .glo "as_then", .glo "as_now", .glo "steps_from", .glo "steps_to", .glo "rounds", .glo "row_room", .glo "first_row", .glo "way_to", .glo "is_step", .glo "way_shows", .glo "is_mark", .glo "is_order", .glo "ask_order", .glo "pieces_of", .glo "well_made", .glo "count", .glo "deep", .glo "is_sentence", .glo "ask_sentence", .glo "named", .glo "marks_of", .glo "ask_marks", .glo "_law_cell_at"]
def fa1 : List (He.Fa) := [.glo "_law_draw", .glo "_law_sentence", .glo "_law_rows", .glo "_law_value", .glo "_law_whole", .glo "_law_numbers", .glo "_law_world", .glo "_law_now", .glo "_law_pair", .glo "_law_graph", .glo "_law_places", .glo "_law_into", .glo "_law_turns", .glo "_law_counting", .glo "_law_single", .glo "_law_both", .glo "_law_told_place", .glo "_law_is_way", .glo "_law_asked", .glo "law", .free "len", .free "range", .free "zip", .free "int", .free "isinstance", .free "str", .free "tuple", .free "bool", .free "list", .free "dict"]
def fa2 : List (He.Fa) := [.free "set", .free "all", .free "any", .free "sum", .free "max", .free "min", .free "sorted", .free "reversed", .free "repr", .glo "Book", .glo "TABLES", .glo "PIECES", .str "NOW" "abcd", .str "THEN" "efgh", .str "LETTERS" "abcdefgh", .int "MOST_WORDS" 200, .int "MOST_DEEP" 24, .cls "Book", .mkr "Book", .noat "Book" "marks", .noat "Book" "rows", .noat "Book" "places", .meth "Book" "order", .meth "Book" "ask_room", .meth "Book" "ask_mark", .meth "Book" "level", .meth "Book" "goings", .meth "Book" "decided", .meth "Book" "join", .meth "Book" "fix"]
def fa3 : List (He.Fa) := [.meth "Book" "entered", .meth "Book" "enter", .meth "Book" "below"]
def fa : List (He.Fa) := fa0 ++ (fa1 ++ (fa2 ++ (fa3)))
def ts : List He.Tab := [(fun K => He.ga K "TABLES", ["and", "or", "either", "if"]), (fun K => He.ga K "PIECES", ["yes", "no", "not", "and", "or", "either", "if"])]
def tTables : List (Str × He.Dv) := [("and", .str "0001"), ("or", .str "0111"), ("either", .str "0110"), ("if", .str "1101")]
def tPieces : List (Str × He.Dv) := [("yes", .int 0), ("no", .int 0), ("not", .int 1), ("and", .int 2), ("or", .int 2), ("either", .int 2), ("if", .int 2)]
def exB (K : PySem.W.Frag) : Bool := He.valsB K (He.ga K "TABLES") tTables && He.valsB K (He.ga K "PIECES") tPieces
def names0 : List (Str) := ["_wall", "BookError", "NoOrder", "NoSentence", "NoMark", "NoRoom", "NoRow", "NoNumber", "held", "for_some", "put", "NOW", "THEN", "now_marks", "then_of", "ask_now", "mark_room", "as_then", "as_now", "steps_from", "steps_to", "rounds", "row_room", "first_row", "way_to", "is_step", "way_shows", "LETTERS", "MOST_WORDS", "MOST_DEEP"]
def names1 : List (Str) := ["PIECES", "is_mark", "is_order", "ask_order", "pieces_of", "well_made", "count", "deep", "is_sentence", "ask_sentence", "named", "marks_of", "ask_marks", "TABLES", "Book", "_law_cell_at", "_law_draw", "_law_sentence", "_law_rows", "_law_value", "_law_whole", "_law_numbers", "_law_world", "_law_now", "_law_pair", "_law_graph", "_law_places", "_law_into", "_law_turns", "_law_counting"]
def names2 : List (Str) := ["_law_single", "_law_both", "_law_told_place", "_law_is_way", "_law_asked"]
def names : List (Str) := names0 ++ (names1 ++ (names2))
abbrev R : PySem.W.OpenRow := PySem.W.OpenLaw.row PySem.Challenge.rw_decidebook_k75_ways_told
abbrev hk : PySem.W.Hook := He.hookX 5 fa fn ts [] exB
def ob (s : PySem.W.SharedT) : He.AlX := He.obsX 5 fa fn ts [] exB (HandSHeadRun.getT s)
theorem ob_eq (s : PySem.W.SharedT) : ob s = hk.obs s.abs := He.obsX_eq (HandSHeadRun.getT_eq s)
end DW

set_option maxHeartbeats 0
namespace DW
open PySem L2
theorem run0 (w : World) : HandSHeadRun.RunEq R (PySem.W.view R.prog [71]) hk ob 6000 names (w.withFollow "special-get-raises" false) := by
  intro os
  kernel_rfl
theorem run1 (w : World) : HandSHeadRun.RunEq R (PySem.W.view R.prog [71]) hk ob 6000 names (w.withFollow "special-get-raises" true) := by
  intro os
  kernel_rfl
theorem run (w : World) : HandSHeadRun.RunEq R (PySem.W.view R.prog [71]) hk ob 6000 names w :=
  PySem.W.byRow2 "special-get-raises" (P := fun w => HandSHeadRun.RunEq R (PySem.W.view R.prog [71]) hk ob 6000 names w) run0 run1 w
end DW

set_option maxHeartbeats 4000000
/-! Marks of now and of then: what the loops over them make, plain. -/
namespace DB
variable {α : Type} [DecidableEq α]

theorem drop_cons {as : List α} {i : Nat} {m : α} (h : as[i]? = some m) : as.drop i = m :: as.drop (i + 1) := by
  obtain ⟨hl, he⟩ := List.getElem?_eq_some_iff.mp h
  rw [← he]
  exact List.drop_eq_getElem_cons hl
theorem take_snoc {as : List α} {i : Nat} {m : α} (h : as[i]? = some m) : as.take (i + 1) = as.take i ++ [m] := by
  rw [List.take_add_one, h]
  rfl
theorem map_up_out {as : List α} {e : α → Bool} {m : α} {v : Bool} (h : m ∉ as) : as.map (up e m v) = as.map e :=
  List.map_congr_left fun x hx => up_ne e v fun z => h (z ▸ hx)
theorem not_mem_rest {as : List α} {i : Nat} {m : α} (nd : as.Nodup) (h : as[i]? = some m) : m ∉ as.drop (i + 1) := by
  have := nd.sublist (List.drop_sublist i as)
  rw [drop_cons h] at this
  exact (List.nodup_cons.mp this).1
theorem map_up_drop {as : List α} {e : α → Bool} {i : Nat} {m : α} {v : Bool} (nd : as.Nodup) (h : as[i]? = some m) : (as.drop i).map (up e m v) = v :: (as.drop (i + 1)).map e := by
  rw [drop_cons h, List.map_cons, up_same, map_up_out (not_mem_rest nd h)]
/-- values for marks -/
theorem env_of : ∀ {as : List α} (r : List Bool), as.Nodup → r.length = as.length → ∃ e : α → Bool, as.map e = r
  | [], r, _, h => ⟨fun _ => false, by simpa using (List.length_eq_zero_iff.mp h).symm⟩
  | a :: as, [], _, h => by simp at h
  | a :: as, v :: r, nd, h => by
    obtain ⟨n1, n2⟩ := List.nodup_cons.mp nd
    obtain ⟨e, he⟩ := env_of (as := as) r n2 (by simpa using h)
    exact ⟨up e a v, by rw [List.map_cons, up_same, map_up_out n1, he]⟩

/-! ### some, mark by mark -/
def exq (as bs : List α) (G : List Bool → List Bool → Bool) (i : Nat) (e : α → Bool) : Bool := (allR i).any fun x => G (x ++ (as.drop i).map e) (bs.map e)
theorem exq_zero (as bs : List α) (G : List Bool → List Bool → Bool) (e : α → Bool) : exq as bs G 0 e = G (as.map e) (bs.map e) := by simp [exq, allR]
theorem exq_step {as bs : List α} {G : List Bool → List Bool → Bool} {i : Nat} {m : α} (nd : as.Nodup) (hb : m ∉ bs) (h : as[i]? = some m) (e : α → Bool) :
    (exq as bs G i (up e m false) || exq as bs G i (up e m true)) = exq as bs G (i + 1) e := by
  simp only [exq, map_up_drop nd h, map_up_out hb, allR, List.any_flatMap]
  generalize allR i = l
  induction l with
  | nil => rfl
  | cons x r ih =>
    simp only [List.any_cons, List.any_nil, Bool.or_false, List.append_assoc, List.singleton_append] at ih ⊢
    rw [← ih]
    generalize G (x ++ false :: _) _ = p
    generalize G (x ++ true :: _) _ = q
    generalize List.any r _ = s
    generalize List.any r _ = t
    cases p <;> cases q <;> cases s <;> cases t <;> rfl
theorem exq_end {as bs : List α} {G : List Bool → List Bool → Bool} {n : Nat} (h : as.length = n) (e : α → Bool) : exq as bs G n e = (allR n).any fun x => G x (bs.map e) := by
  simp only [exq]
  rw [List.drop_eq_nil_of_le (by omega)]
  simp

/-! ### one list of marks put for another -/
def sbq (as bs : List α) (f : List Bool → Bool) (i : Nat) (e : α → Bool) : Bool := f ((bs.take i).map e ++ (as.drop i).map e)
theorem sbq_zero (as bs : List α) (f : List Bool → Bool) (e : α → Bool) : sbq as bs f 0 e = f (as.map e) := by simp [sbq]
theorem sbq_step {as bs : List α} {f : List Bool → Bool} {i : Nat} {a b : α} (nd : as.Nodup) (hb : a ∉ bs) (h : as[i]? = some a) (h' : bs[i]? = some b) (e : α → Bool) :
    sbq as bs f i (up e a (e b)) = sbq as bs f (i + 1) e := by
  simp only [sbq]
  rw [map_up_drop nd h, map_up_out (fun z => hb (List.mem_of_mem_take z)), take_snoc h']
  simp
theorem sbq_end {as bs : List α} {f : List Bool → Bool} {n : Nat} (h : as.length = n) (h' : bs.length = n) (e : α → Bool) : sbq as bs f n e = f (bs.map e) := by
  simp only [sbq]
  rw [List.drop_eq_nil_of_le (by omega), List.take_of_length_le (by omega)]
  simp

/-! ### the room of a row -/
def roq (as : List α) (r : List Bool) (i : Nat) (e : α → Bool) : Bool := decide ((as.take i).map e = r.take i)
theorem roq_zero (as : List α) (r : List Bool) (e : α → Bool) : roq as r 0 e = true := by simp [roq]
theorem roq_step {as : List α} {r : List Bool} {i : Nat} {a : α} {v : Bool} (h : as[i]? = some a) (h' : r[i]? = some v) (e : α → Bool) : (decide (e a = v) && roq as r i e) = roq as r (i + 1) e := by
  simp only [roq]
  have l : ((as.take i).map e).length = (r.take i).length := by
    have := (List.getElem?_eq_some_iff.mp h).1
    have := (List.getElem?_eq_some_iff.mp h').1
    simp; omega
  have : r.take (i + 1) = r.take i ++ [v] := by rw [List.take_add_one, h']; rfl
  rw [take_snoc h, this, List.map_append, List.map_singleton]
  rw [Bool.eq_iff_iff, Bool.and_eq_true, decide_eq_true_eq, decide_eq_true_eq, decide_eq_true_eq]
  constructor
  · rintro ⟨h1, h2⟩
    rw [h1, h2]
  · intro z
    obtain ⟨h1, h2⟩ := List.append_inj z l
    exact ⟨by simpa using h2, h1⟩
theorem roq_end {as : List α} {r : List Bool} {n : Nat} (h : as.length = n) (h' : r.length = n) (e : α → Bool) : roq as r n e = decide (as.map e = r) := by
  simp only [roq]
  rw [List.take_of_length_le (by omega), List.take_of_length_le (by omega)]

/-! ### the first row -/
def fiq (as : List α) (f : List Bool → Bool) (pre : List Bool) (i : Nat) (e : α → Bool) : Bool := f (pre ++ (as.drop i).map e)
theorem fiq_zero (as : List α) (f : List Bool → Bool) (e : α → Bool) : fiq as f [] 0 e = f (as.map e) := by simp [fiq]
theorem fiq_step {as : List α} {f : List Bool → Bool} {pre : List Bool} {i : Nat} {a : α} {v : Bool} (nd : as.Nodup) (h : as[i]? = some a) (e : α → Bool) : fiq as f pre i (up e a v) = fiq as f (pre ++ [v]) (i + 1) e := by
  simp only [fiq]
  rw [map_up_drop nd h]
  simp
theorem fiq_some {as : List α} {f : List Bool → Bool} {pre : List Bool} {i : Nat} (nd : as.Nodup) : (∃ e, fiq as f pre i e = true) ↔ (allR (as.length - i)).any (fun r => f (pre ++ r)) = true := by
  rw [any_allR]
  constructor
  · rintro ⟨e, h⟩
    exact ⟨(as.drop i).map e, by simp, h⟩
  · rintro ⟨r, hl, h⟩
    obtain ⟨e, he⟩ := env_of (as := as.drop i) r (nd.sublist (List.drop_sublist i as)) (by rw [hl]; simp)
    exact ⟨e, by show f (pre ++ (as.drop i).map e) = true; rw [he]; exact h⟩
theorem gre_step {n : Nat} {f : List Bool → Bool} {pre : List Bool} : gre (n + 1) (fun r => f (pre ++ r)) =
    (!(allR n).any fun r => f ((pre ++ [false]) ++ r)) :: gre n (fun r => f ((pre ++ [!(allR n).any fun r => f ((pre ++ [false]) ++ r)]) ++ r)) := by
  have e : ∀ v : Bool, (fun r : List Bool => f ((pre ++ [v]) ++ r)) = fun r => f (pre ++ v :: r) := fun v => by funext r; simp
  rw [e, e]
  show (if (allR n).any (fun r => f (pre ++ false :: r)) then false :: gre n (fun r => f (pre ++ false :: r)) else true :: gre n (fun r => f (pre ++ true :: r))) = _
  cases c : (allR n).any (fun r => f (pre ++ false :: r)) <;> simp

/-! ### a world of marks -/
structure Wd (marks now thn : List α) : Prop where
  len : thn.length = now.length
  nn : now.Nodup
  nt : thn.Nodup
  ap : ∀ m ∈ now, m ∉ thn
  mem : ∀ m, m ∈ marks ↔ m ∈ now ∨ m ∈ thn
def pe (now thn : List α) (x y : List Bool) (m : α) : Bool := if m ∈ now then x.getD (now.idxOf m) false else y.getD (thn.idxOf m) false
variable {marks now thn : List α}
theorem map_getD : ∀ {as : List α} {x : List Bool}, as.Nodup → x.length = as.length → as.map (fun m => x.getD (as.idxOf m) false) = x := by
  intro as x nd hl
  refine List.ext_getElem (by simp [hl]) fun i h1 h2 => ?_
  rw [List.getElem_map]
  have hi : i < as.length := by simpa using h1
  rw [List.Nodup.idxOf_getElem nd i hi, List.getD_eq_getElem?_getD, List.getElem?_eq_getElem h2]
  rfl
theorem pe_now (W : Wd marks now thn) {x y : List Bool} (hx : x.length = now.length) : now.map (pe now thn x y) = x := by
  rw [← map_getD W.nn hx]
  refine List.map_congr_left fun m hm => ?_
  rw [map_getD W.nn hx]
  exact if_pos hm
theorem pe_thn (W : Wd marks now thn) {x y : List Bool} (hy : y.length = now.length) : thn.map (pe now thn x y) = y := by
  rw [← map_getD W.nt (hy.trans W.len.symm)]
  refine List.map_congr_left fun m hm => ?_
  rw [map_getD W.nt (hy.trans W.len.symm)]
  exact if_neg fun z => W.ap m z hm
theorem pe_all (W : Wd marks now thn) (e : α → Bool) {m : α} (hm : m ∈ marks) : pe now thn (now.map e) (thn.map e) m = e m := by
  have at_ : ∀ {as : List α}, m ∈ as → (as.map e).getD (as.idxOf m) false = e m := fun {as} h => by
    rw [List.getD_eq_getElem?_getD, List.getElem?_map, List.getElem?_eq_getElem (List.idxOf_lt_length_of_mem h), List.getElem_idxOf]
    rfl
  unfold pe
  by_cases c : m ∈ now
  · rw [if_pos c]; exact at_ c
  · rw [if_neg c]; exact at_ (((W.mem m).mp hm).resolve_left c)
/-- what hangs on the marks alone is a matter of the two rows -/
theorem by_rows (W : Wd marks now thn) {F : (α → Bool) → Bool} (h : ∀ e e', (∀ m ∈ marks, e m = e' m) → F e = F e') (e : α → Bool) : F e = F (pe now thn (now.map e) (thn.map e)) :=
  h _ _ fun m hm => (pe_all W e hm).symm
/-- .. of the marks of now alone -/
theorem by_now (W : Wd marks now thn) {F : (α → Bool) → Bool} (h : ∀ e e', (∀ m ∈ now, e m = e' m) → F e = F e') (e : α → Bool) (y : List Bool) : F e = F (pe now thn (now.map e) y) :=
  h _ _ fun m hm => by
    unfold pe
    rw [if_pos hm, List.getD_eq_getElem?_getD, List.getElem?_map, List.getElem?_eq_getElem (List.idxOf_lt_length_of_mem hm), List.getElem_idxOf]
    rfl
end DB

set_option maxHeartbeats 4000000
/-! The walk's ground: defs with promises, the book in the heap, sentences in the heap. -/
namespace DW
open PySem PySem.Spec PyProof.Rows L2

/-! ### a def (a method) where it stands, and with its promise -/
structure Has (K : PySem.W.Frag) (mg : Str → Option Value) (x : Str) (st : Stmt) : Prop where
  ex : ∃ (f : Addr) (fd : FuncData), mg x = some (.ref f) ∧ FunD K x x (defArgs st) (defBody st) (defScope st) [] [] f fd
structure HasM (K : PySem.W.Frag) (C : Addr) (x qual : Str) (st : Stmt) : Prop where
  ex : ∃ (f : Addr) (fd : FuncData), Meth K C x f ∧ FunD K x qual (defArgs st) (defBody st) (defScope st) [] [] f fd
structure Df (P : Program) (w : World) (K : PySem.W.Frag) (mg : Str → Option Value) (base : Heap) (x : Str) (k : Nat) (ps : List Str) (sp : Sp) : Prop where
  ex : ∃ (f : Addr) (fd : FuncData), mg x = some (.ref f) ∧ PySem.W.keepIn K (.ref f) = true ∧ Binds K fd ps [] ∧ FnOk P w K mg base CX0 k f fd ps sp
structure Md (P : Program) (w : World) (K : PySem.W.Frag) (mg : Str → Option Value) (base : Heap) (C : Addr) (x : Str) (k : Nat) (ps : List Str) (sp : Sp) : Prop where
  ex : ∃ (f : Addr) (fd : FuncData), Meth K C x f ∧ Binds K fd ps [] ∧ FnOk P w K mg base CX0 k f fd ps sp
section
variable {P : Program} {w : World} {K : PySem.W.Frag} {mg : Str → Option Value} {base : Heap} {x qual : Str} {st : Stmt} {N ps : List Str} {k : Nat} {sp : Sp} {C : Addr}
theorem Df.of (A : Has K mg x st) (S : FnScope N ps (defScope st)) (len : ∀ vs H Q E, sp vs H Q E → vs.length = ps.length)
    (hb : ∀ (kV doc pm : Value) (an : Option Addr) (cdv ct : Value) (us : List Value), us.length = ps.length → bindArgs (PySem.W.fnOf x x (defArgs st) (defBody st) (defScope st) .none kV doc pm an cdv ct) ⟨us, []⟩ = pure (ps.zip us))
    (body : ∀ (f : Addr) (cdv : Value) (A : Around) (outer : List Env) (s : Shared) (H : Hp) (vs : List V) (Q : VK) (E : XK), Room k (A.deeper (envOfC x (defScope st) s.heap.objs.size f cdv)) → sp vs H Q E →
      ∃ t, PSs (cxOf CX0 P w K mg base N x (defScope st) f cdv A outer s H E).nox (defBody st) t ∧ t { nx := fun _ H' => Q .non H', rt := Q } (start N vs) H) : Df P w K mg base x (k + 1) ps sp := by
  obtain ⟨f, fd, hm, F⟩ := A.ex
  refine ⟨f, fd, hm, F.kp, F.bindsN hb, F.ok S len fun cdv A outer s H vs Q E hr h => ?_⟩
  obtain ⟨t, h1, h2⟩ := body f cdv A outer s H vs Q E hr h
  exact ⟨t, h1.nox, h2⟩
theorem Md.of (A : HasM K C x qual st) (S : FnScope N ps (defScope st)) (len : ∀ vs H Q E, sp vs H Q E → vs.length = ps.length)
    (hb : ∀ (kV doc pm : Value) (an : Option Addr) (cdv ct : Value) (us : List Value), us.length = ps.length → bindArgs (PySem.W.fnOf x qual (defArgs st) (defBody st) (defScope st) .none kV doc pm an cdv ct) ⟨us, []⟩ = pure (ps.zip us))
    (body : ∀ (f : Addr) (cdv : Value) (A : Around) (outer : List Env) (s : Shared) (H : Hp) (vs : List V) (Q : VK) (E : XK), Room k (A.deeper (envOfC qual (defScope st) s.heap.objs.size f cdv)) → sp vs H Q E →
      ∃ t, PSs (cxOf CX0 P w K mg base N qual (defScope st) f cdv A outer s H E).nox (defBody st) t ∧ t { nx := fun _ H' => Q .non H', rt := Q } (start N vs) H) : Md P w K mg base C x (k + 1) ps sp := by
  obtain ⟨f, fd, hm, F⟩ := A.ex
  refine ⟨f, fd, hm, F.bindsN hb, F.ok S len fun cdv A outer s H vs Q E hr h => ?_⟩
  obtain ⟨t, h1, h2⟩ := body f cdv A outer s H vs Q E hr h
  exact ⟨t, h1.nox, h2⟩
/-- nothing can be asked of it -/
theorem Df.never (A : Has K mg x st) (hb : ∀ (kV doc pm : Value) (an : Option Addr) (cdv ct : Value) (us : List Value), us.length = ps.length → bindArgs (PySem.W.fnOf x x (defArgs st) (defBody st) (defScope st) .none kV doc pm an cdv ct) ⟨us, []⟩ = pure (ps.zip us))
    (no : ∀ vs H Q E, ¬ sp vs H Q E) : Df P w K mg base x 0 ps sp := by
  obtain ⟨f, fd, hm, F⟩ := A.ex
  exact ⟨f, fd, hm, F.kp, F.bindsN hb, fun vs H Q E h => absurd h (no vs H Q E), fun A outer s H args us vs Q E _ _ _ _ h => absurd h (no vs H Q E)⟩
theorem Md.never (A : HasM K C x qual st) (hb : ∀ (kV doc pm : Value) (an : Option Addr) (cdv ct : Value) (us : List Value), us.length = ps.length → bindArgs (PySem.W.fnOf x qual (defArgs st) (defBody st) (defScope st) .none kV doc pm an cdv ct) ⟨us, []⟩ = pure (ps.zip us))
    (no : ∀ vs H Q E, ¬ sp vs H Q E) : Md P w K mg base C x 0 ps sp := by
  obtain ⟨f, fd, hm, F⟩ := A.ex
  exact ⟨f, fd, hm, F.bindsN hb, fun vs H Q E h => absurd h (no vs H Q E), fun A outer s H args us vs Q E _ _ _ _ h => absurd h (no vs H Q E)⟩
end
section
variable {X : Cx} {k : Nat} {C : Addr} {ps : List Str} {sp : Sp} {x m : Str} {p pos apos : Pos} {e o : Expr} {es : List Expr} {ta : TE} {t : TA}
/-- f(e, ..) -/
theorem pe_df (D : Df X.prog X.w X.K X.mg X.base x k ps sp) (hr : Room k X.A) (ha : PA X (e :: es) t) (hg : Gl X x := by rfl)
    (hdb : (x == ("__debug__" : Str)) = false := by decide) (he : starEach (e :: es) X.env = (false, eval e X.env) :: starEach es X.env := by rfl) (hpl : (backTo pos (starEach es X.env)).any (·.1) = false := by rfl) :
    PE X (.Call (.Name x p) (e :: es) [] pos) (tCall sp [] E0 t) := by
  obtain ⟨f, fd, hm, hk, hb, F⟩ := D.ex
  exact pe_call F hr hg hm hk hb .nil pass0 ha hdb he hpl
/-- o.m(e, ..) -/
theorem pe_md {pl : Sem Bool} (D : Md X.prog X.w X.K X.mg X.base C m k ps sp) (c : Cls X.K C) (hr : Room k X.A) (he : PE X o ta) (ha : PA X (e :: es) t)
    (hst : starEach (e :: es) X.env = (false, eval e X.env) :: starEach es X.env := by rfl) (hpl : (backTo pos (starEach es X.env)).any (·.1) = false := by rfl)
    (ht : eval (.Call (.Attribute o m apos) (e :: es) [] pos) X.env = (do
      let ov ← eval o X.env
      standAt apos.atName
      let (f, first) ← holding [ov] (getMethod ov m pl)
      callWith pos f first (backTo pos (starEach (e :: es) X.env)) (backToKw pos (keywordEach [] X.env))) := by rfl) :
    PE X (.Call (.Attribute o m apos) (e :: es) [] pos) (tMeth C m sp [] E0 ta t) := by
  obtain ⟨f, fd, hm, hb, F⟩ := D.ex
  exact pe_meth he c hm F hr hb .nil pass0 ha hst hpl ht
/-- o.m() -/
theorem pe_md0 {pl : Sem Bool} (D : Md X.prog X.w X.K X.mg X.base C m k ps sp) (c : Cls X.K C) (hr : Room k X.A) (he : PE X o ta)
    (ht : eval (.Call (.Attribute o m apos) [] [] pos) X.env = (do
      let ov ← eval o X.env
      standAt apos.atName
      let (f, first) ← holding [ov] (getMethod ov m pl)
      callWith pos f first (backTo pos (starEach [] X.env)) (backToKw pos (keywordEach [] X.env))) := by rfl) :
    PE X (.Call (.Attribute o m apos) [] [] pos) (tMeth C m sp [] E0 ta tNil) := by
  obtain ⟨f, fd, hm, hb, F⟩ := D.ex
  exact pe_meth0 he c hm F hr hb .nil pass0 ht
/-- a module's constant -/
def GlV (mg : Str → Option Value) (x : Str) (v : V) : Prop := ∃ u, mg x = some u ∧ RelV v u
theorem pe_gl {v : V} (h : GlV X.mg x v) (hg : Gl X x := by rfl) (hd : (x == ("__debug__" : Str)) = false := by decide) : PE X (.Name x pos) (tC v) := by
  obtain ⟨u, hm, r⟩ := h
  exact pe_glob hg hm r hd
end

/-! ### what the top has left -/
structure Tx (w : World) (K : PySem.W.Frag) (mg : Str → Option Value) (C : Addr) : Prop where
  cl : Cls K C
  nMarks : NoAttr K C "marks"
  nRows : NoAttr K C "rows"
  nPlaces : NoAttr K C "places"
  mgC : mg "Book" = some (.ref C)
  mkC : ∃ f, Mk K C f
  NOW : GlV mg "NOW" (.str "abcd")
  THEN : GlV mg "THEN" (.str "efgh")
  LETTERS : GlV mg "LETTERS" (.str "abcdefgh")
  WORDS : GlV mg "MOST_WORDS" (.int 200)
  DEEP : GlV mg "MOST_DEEP" (.int 24)
  tabs : ∃ a es n, mg "TABLES" = some (.ref a) ∧ KDict K w a es n ∧ ∀ q ∈ tTables, ∃ u, PySem.W.nsIn K a q.1 = some (some u) ∧ RelV (q.2.v K) u
  pcs : ∃ a es n, mg "PIECES" = some (.ref a) ∧ KDict K w a es n ∧ ∀ q ∈ tPieces, ∃ u, PySem.W.nsIn K a q.1 = some (some u) ∧ RelV (q.2.v K) u
  len : mg "len" = none
  range : mg "range" = none
  zip : mg "zip" = none
  int : mg "int" = none
  isi : mg "isinstance" = none
  str : mg "str" = none
  tuple : mg "tuple" = none
  bool : mg "bool" = none
  list : mg "list" = none
  dict : mg "dict" = none
  set : mg "set" = none
  all : mg "all" = none
  any : mg "any" = none
  sum : mg "sum" = none
  max : mg "max" = none
  min : mg "min" = none
  sorted : mg "sorted" = none
  reversed : mg "reversed" = none
  repr : mg "repr" = none

/-! ### heaps -/
/-- all but the book's rooms and places stays -/
def K2 (rl pl : Addr) (H H' : Hp) : Prop := ∀ a o, H a = some o → a ≠ rl → a ≠ pl → H' a = some o
/-- .. and but q -/
def K3 (rl pl q : Addr) (H H' : Hp) : Prop := ∀ a o, H a = some o → a ≠ rl → a ≠ pl → a ≠ q → H' a = some o
section
variable {rl pl q : Addr} {H H1 H2 H' : Hp}
theorem K2.of (s : Same H H') : K2 rl pl H H' := fun a o h _ _ => s a o h
theorem K2.refl : K2 rl pl H H := fun _ _ h _ _ => h
theorem K2.trans (a : K2 rl pl H H1) (b : K2 rl pl H1 H2) : K2 rl pl H H2 := fun c o h n1 n2 => b c o (a c o h n1 n2) n1 n2
theorem K3.of (s : K2 rl pl H H') : K3 rl pl q H H' := fun a o h n1 n2 _ => s a o h n1 n2
theorem K3.refl : K3 rl pl q H H := fun _ _ h _ _ _ => h
theorem K3.trans (a : K3 rl pl q H H1) (b : K3 rl pl q H1 H2) : K3 rl pl q H H2 := fun c o h n1 n2 n3 => b c o (a c o h n1 n2 n3) n1 n2 n3
theorem Same.new {p : Addr} (h : H p = none) (o : HO) : Same H (upd H p o) := fun b u q => by rw [upd_ne (ne_of_none q h)]; exact q
/-- what was done with a new object at q -/
theorem K3.fresh {o : HO} (h : H q = none) (k : K3 rl pl q (upd H q o) H') : K2 rl pl H H' := fun a u ha n1 n2 =>
  k a u (by rw [upd_ne (ne_of_none ha h)]; exact ha) n1 n2 (ne_of_none ha h)
theorem free_of {a p : Addr} {o : HO} (s : H a = some o) (h : H p = none) : a ≠ p := ne_of_none s h
end

/-! ### the book -/
abbrev Rw := DB.Rw Str
structure Bk where
  p : Addr
  dx : Addr
  ml : Addr
  rl : Addr
  pl : Addr
  marks : List Str
def bf (ml rl pl : Addr) : List (Str × V) := [("marks", .ref ml), ("rows", .ref rl), ("places", .ref pl)]
def rowK (r : Rw) : List Key := [.inr r.1, .inl (r.2.1 : Nat), .inl (r.2.2 : Nat)]
def rowV (r : Rw) : List V := [.str r.1, .int (r.2.1 : Nat), .int (r.2.2 : Nat)]
theorem rowKV (r : Rw) : (rowK r).map kV = rowV r := rfl
theorem rowK_inj {r s : Rw} (h : rowK r = rowK s) : r = s := by
  obtain ⟨a, b, c⟩ := r
  obtain ⟨d, e, f⟩ := s
  simp only [rowK, List.cons.injEq, Sum.inr.injEq, Sum.inl.injEq] at h
  obtain ⟨h1, h2, h3, _⟩ := h
  have h2 : b = e := by omega
  have h3 : c = f := by omega
  rw [h1, h2, h3]
/-- the places of rooms, from the n-th on -/
def plF : Nat → List Rw → List (List Key × V)
  | _, [] => []
  | n, r :: rs => (rowK r, .int (n : Nat)) :: plF (n + 1) rs
theorem plF_len : ∀ (n : Nat) (rs : List Rw), (plF n rs).length = rs.length
  | _, [] => rfl
  | n, r :: rs => by simp [plF, plF_len (n + 1) rs]
theorem plF_snoc : ∀ (n : Nat) (rs : List Rw) (r : Rw), plF n (rs ++ [r]) = plF n rs ++ [(rowK r, .int ((n + rs.length : Nat) : Int))]
  | n, [], r => by simp [plF]
  | n, s :: rs, r => by
    show (rowK s, V.int (n : Nat)) :: plF (n + 1) (rs ++ [r]) = _
    rw [plF_snoc (n + 1) rs r]
    have : n + 1 + rs.length = n + (s :: rs).length := by simp; omega
    rw [this]
    rfl
theorem plF_get : ∀ (n : Nat) (rs : List Rw) (k : List Key) (v : V), valV (plF n rs) k = some v → ∃ i r, rs[i]? = some r ∧ k = rowK r ∧ v = .int ((n + i : Nat) : Int)
  | n, [], k, v, h => by rw [plF, valV_nil] at h; cases h
  | n, r :: rs, k, v, h => by
    by_cases e : rowK r = k
    · have q := valV_pos (p := (rowK r, V.int (n : Nat))) (r := plF (n + 1) rs) e
      rw [plF, q] at h
      exact ⟨0, r, rfl, e.symm, (Option.some.inj h).symm⟩
    · have q := valV_neg (p := (rowK r, V.int (n : Nat))) (r := plF (n + 1) rs) e
      rw [plF, q] at h
      obtain ⟨i, s, h1, h2, h3⟩ := plF_get (n + 1) rs k v h
      exact ⟨i + 1, s, h1, h2, by rw [h3]; congr 2; omega⟩
/-- the tuples of the rooms -/
def TupsAt (H : Hp) (ts : List Addr) (rows : List Rw) : Prop := ts.length = rows.length ∧ ∀ (i : Nat) (r : Rw), rows[i]? = some r → ∃ t : Addr, ts[i]? = some t ∧ H t = some (.tup (rowV r))
structure BkAt (C : Addr) (b : Bk) (H : Hp) (rows : List Rw) : Prop where
  ob : H b.p = some (.ins C b.dx (bf b.ml b.rl b.pl))
  ml : H b.ml = some (.lst (b.marks.map V.str))
  rl : ∃ ts : List Addr, H b.rl = some (.lst (.non :: .non :: ts.map V.ref)) ∧ TupsAt H ts rows
  pl : H b.pl = some (.dT (plF 2 rows))
  wf : DB.Wf b.marks rows
  nd : b.marks.Nodup
  few : b.marks.length ≤ 8
def LIM : Nat := 16000000
theorem lim_lt {n : Nat} (h : n ≤ LIM) : n + 2 < sizeLine := by rw [sizeLine_eq]; unfold LIM at h; omega
section
variable {C : Addr} {b : Bk} {H H' : Hp} {rows rows' : List Rw}
theorem BkAt.mono (B : BkAt C b H rows) (s : Same H H') : BkAt C b H' rows := by
  obtain ⟨ts, h1, h2, h3⟩ := B.rl
  exact ⟨s _ _ B.ob, s _ _ B.ml, ⟨ts, s _ _ h1, h2, fun i r h => let ⟨t, a, c⟩ := h3 i r h; ⟨t, a, s _ _ c⟩⟩, s _ _ B.pl, B.wf, B.nd, B.few⟩
theorem BkAt.new (B : BkAt C b H rows) {p : Addr} (h : H p = none) (o : HO) : BkAt C b (upd H p o) rows := B.mono (Same.new h o)
theorem BkAt.ne_p (B : BkAt C b H rows) : b.p ≠ b.rl ∧ b.p ≠ b.pl := by
  obtain ⟨ts, h1, _⟩ := B.rl
  exact ⟨ne_of B.ob h1 (by intro z; cases z), ne_of B.ob B.pl (by intro z; cases z)⟩
theorem BkAt.rl_pl (B : BkAt C b H rows) : b.rl ≠ b.pl := by
  obtain ⟨ts, h1, _⟩ := B.rl
  exact ne_of h1 B.pl (by intro z; cases z)
theorem BkAt.tup_ne (B : BkAt C b H rows) {a : Addr} {xs : List V} (h : H a = some (.tup xs)) : a ≠ b.rl ∧ a ≠ b.pl := by
  obtain ⟨ts, h1, _⟩ := B.rl
  exact ⟨ne_of h h1 (by intro z; cases z), ne_of h B.pl (by intro z; cases z)⟩
theorem K2.tup (k : K2 b.rl b.pl H H') (B : BkAt C b H rows) {a : Addr} {xs : List V} (h : H a = some (.tup xs)) : H' a = some (.tup xs) :=
  k a _ h (B.tup_ne h).1 (B.tup_ne h).2
theorem BkAt.none_ne (B : BkAt C b H rows) {q : Addr} (h : H q = none) : q ≠ b.p ∧ q ≠ b.ml ∧ q ≠ b.rl ∧ q ≠ b.pl := by
  obtain ⟨ts, h1, _⟩ := B.rl
  exact ⟨(ne_of_none B.ob h).symm, (ne_of_none B.ml h).symm, (ne_of_none h1 h).symm, (ne_of_none B.pl h).symm⟩
end
theorem bf_marks (a b c : Addr) : (bf a b c).lookup ("marks" : Str) = some (.ref a) := rfl
theorem bf_rows (a b c : Addr) : (bf a b c).lookup ("rows" : Str) = some (.ref b) := by
  show (match ("rows" : Str) == "marks" with | true => some (V.ref a) | false => (match ("rows" : Str) == "rows" with | true => some (V.ref b) | false => (match ("rows" : Str) == "places" with | true => some (V.ref c) | false => none))) = _
  rw [show (("rows" : Str) == "marks") = false by decide +kernel, show (("rows" : Str) == "rows") = true by decide +kernel]
theorem bf_places (a b c : Addr) : (bf a b c).lookup ("places" : Str) = some (.ref c) := by
  show (match ("places" : Str) == "marks" with | true => some (V.ref a) | false => (match ("places" : Str) == "rows" with | true => some (V.ref b) | false => (match ("places" : Str) == "places" with | true => some (V.ref c) | false => none))) = _
  rw [show (("places" : Str) == "marks") = false by decide +kernel, show (("places" : Str) == "rows") = false by decide +kernel, show (("places" : Str) == "places") = true by decide +kernel]
theorem bf_no (a b c : Addr) {m : Str} (h1 : (m == "marks") = false) (h2 : (m == "rows") = false) (h3 : (m == "places") = false) : (bf a b c).lookup m = none := by
  show (match m == "marks" with | true => some (V.ref a) | false => (match m == "rows" with | true => some (V.ref b) | false => (match m == "places" with | true => some (V.ref c) | false => none))) = _
  rw [h1, h2, h3]

/-! ### what a book's operation promises -/
/-- ahead: a book with rooms rows, and room for c more -/
def Pre (C : Addr) (b : Bk) (H : Hp) (rows : List Rw) (c : Nat) : Prop := BkAt C b H rows ∧ rows.length + c ≤ LIM
/-- behind: at most c rooms more, a room r with R -/
def Bp (C : Addr) (b : Bk) (H : Hp) (rows : List Rw) (c : Nat) (R : List Rw → Nat → Prop) (Q : VK) : Prop :=
  ∀ (r : Nat) (rows' : List Rw) (H' : Hp), DB.Grow b.marks rows rows' → BkAt C b H' rows' → K2 b.rl b.pl H H' → rows'.length ≤ rows.length + c → R rows' r → Q (.int (r : Nat)) H'
/-- room r means f -/
def Is (rows : List Rw) (r : Nat) (f : (Str → Bool) → Bool) : Prop := r < rows.length + 2 ∧ ∀ e, DB.ev rows r e = f e
theorem Is.up {marks : List Str} {rows rows' : List Rw} {r : Nat} {f : (Str → Bool) → Bool} (h : Is rows r f) (g : DB.Grow marks rows rows') : Is rows' r f :=
  ⟨by have := g.len; have := h.1; omega, fun e => by rw [g.ev h.1]; exact h.2 e⟩

/-! ### rules with the written part by name (within a comprehension's block) -/
section
variable {X : Cx} {K : PySem.W.Frag}
theorem op_in_seqK (h : X.K = K) : OpR X (compareOp .In) (rIn K false) := by subst h; exact op_in_seq
theorem op_notIn_seqK (h : X.K = K) : OpR X (compareOp .NotIn) (rIn K true) := by subst h; exact op_notIn_seq
theorem ix_listK (h : X.K = K) : IxR X (rIxL K) := by subst h; exact ix_list
theorem pe_fldK {e : Expr} {ta : TE} {f : Str} {pos : Pos} (h : X.K = K) (he : PE X e ta) (hb : attributeBase e f X.env (eval e X.env) = eval e X.env) : PE X (.Attribute e f pos) (tFld K ta f) := by subst h; exact pe_fld he hb
theorem call_len_seqK (h : X.K = K) : CallR X (.builtin "len") (fun xs H Q => ∃ p ys, xs = [.ref p] ∧ (SqL K H p ys ∨ SqT K H p ys) ∧ Q (.int ys.length) H) := by subst h; exact call_len_seq
theorem pi_listK {tg l : Expr} {tl : TE} (h : X.K = K) (hl : PE X l tl) : PI X tg l (iList K tl) := by subst h; exact pi_list hl
theorem cr_anyK (h : X.K = K) (hc : X.calm = true) : CallR X (.builtin "any") (rAny K) := by subst h; exact cr_any hc
theorem call_isiK' (h : X.K = K) : CallR X (.builtin "isinstance") (rIsi K) := by subst h; exact call_isi
theorem op_inDK (h : X.K = K) (hu : X.A.units + 65 < cLine) : OpR X (compareOp .In) (rInD K) := by subst h; exact op_inD hu
theorem call_list_ofK (h : X.K = K) : CallR X (.type "list") (fun xs H Q => ∃ p ys, xs = [.ref p] ∧ (SqL K H p ys ∨ SqT K H p ys) ∧ ∀ l, H l = none → Q (.ref l) (upd H l (.lst ys))) := by subst h; exact call_list_of
theorem mt_indexDK (h : X.K = K) (hu : X.A.units + 65 < cLine) : MtR X "list.index" (rIndexD K) := by subst h; exact mt_indexD hu
theorem pe_bmK {o e : Expr} {es : List Expr} {to : TE} {t : TA} {name : Str} {apos cpos : Pos} {T id : String} {r : V → List V → Hp → VK → Prop} (h : X.K = K) (pa : PlainAttrs T) (slot : Slot T name id) (hty : typeOf (.builtin id) = pure (.type "method_descriptor")) (hm : MtR X id r) (ho : PE X o to) (ha : PA X (e :: es) t)
    (hbase : attributeBase o name X.env (eval o X.env) = eval o X.env := by rfl)
    (hfew : ((backTo cpos (starEach (e :: es) X.env)).all (fun x => !x.1) && (backToKw cpos (keywordEach [] X.env)).all (fun x => x.1.isSome)
      && decide ((e :: es).length + ([] : List Keyword).length + (if ([] : List Keyword).isEmpty then 0 else 1) < 30)) = true := by rfl)
    (hline : (apos.endLine == cpos.line) = true := by rfl) (hs : starEach (e :: es) X.env = (false, eval e X.env) :: starEach es X.env := by rfl) (hplain : (backTo cpos (starEach es X.env)).any (·.1) = false := by rfl) :
    PE X (.Call (.Attribute o name apos) (e :: es) [] cpos) (tBM K T r to t) := by
  subst h
  exact pe_bm pa slot hty hm ho ha hbase hfew hline hs hplain
end
end DW

set_option maxHeartbeats 4000000
/-! Book's small methods. -/
namespace DW
open PySem PySem.Spec PyProof.Rows L2
theorem scm_ask_room : FnScope ["self", "number"] ["self", "number"] (defScope sm_ask_room) := ⟨rfl, rfl, rfl, by decide +kernel, rfl, by decide +kernel, by decide +kernel⟩
theorem scm_ask_mark : FnScope ["self", "mark"] ["self", "mark"] (defScope sm_ask_mark) := ⟨rfl, rfl, rfl, by decide +kernel, rfl, by decide +kernel, by decide +kernel⟩
theorem scm_level : FnScope ["self", "number"] ["self", "number"] (defScope sm_level) := ⟨rfl, rfl, rfl, by decide +kernel, rfl, by decide +kernel, by decide +kernel⟩
theorem scm_goings : FnScope ["self", "number", "at"] ["self", "number", "at"] (defScope sm_goings) := ⟨rfl, rfl, rfl, by decide +kernel, rfl, by decide +kernel, by decide +kernel⟩
theorem scm_decided : FnScope ["self", "at", "low", "high", "row"] ["self", "at", "low", "high"] (defScope sm_decided) := ⟨rfl, rfl, rfl, by decide +kernel, rfl, by decide +kernel, by decide +kernel⟩
theorem scm_order : FnScope ["self"] ["self"] (defScope sm_order) := ⟨rfl, rfl, rfl, by decide +kernel, rfl, by decide +kernel, by decide +kernel⟩
def spAskRoom (C : Addr) : Sp := fun vs H Q _ => ∃ (b : Bk) (rows : List Rw) (n : Nat), vs = [.ref b.p, .int (n : Nat)] ∧ BkAt C b H rows ∧ n < rows.length + 2 ∧ Q .non H
def spAskMark (C : Addr) : Sp := fun vs H Q _ => ∃ (b : Bk) (rows : List Rw) (m : Str), vs = [.ref b.p, .str m] ∧ BkAt C b H rows ∧ m ∈ b.marks ∧ Q .non H
def spOrder (C : Addr) : Sp := fun vs H Q _ => ∃ (b : Bk) (rows : List Rw), vs = [.ref b.p] ∧ BkAt C b H rows ∧ ∀ p, H p = none → Q (.ref p) (upd H p (.lst (b.marks.map V.str)))
def spLevel (C : Addr) : Sp := fun vs H Q _ => ∃ (b : Bk) (rows : List Rw) (n : Nat), vs = [.ref b.p, .int (n : Nat)] ∧ BkAt C b H rows ∧ n < rows.length + 2 ∧ Q (.int (DB.lv b.marks rows n : Nat)) H
def spGoings (C : Addr) : Sp := fun vs H Q _ => ∃ (b : Bk) (rows : List Rw) (n t : Nat), vs = [.ref b.p, .int (n : Nat), .int (t : Nat)] ∧ BkAt C b H rows ∧ n < rows.length + 2 ∧ t < b.marks.length ∧
  ∀ p, H p = none → Q (.ref p) (upd H p (.tup [.int ((DB.gg b.marks rows n t).1 : Nat), .int ((DB.gg b.marks rows n t).2 : Nat)]))
def spDecided (C : Addr) : Sp := fun vs H Q _ => ∃ (b : Bk) (rows : List Rw) (t lo hi : Nat) (m : Str), vs = [.ref b.p, .int (t : Nat), .int (lo : Nat), .int (hi : Nat)] ∧ BkAt C b H rows ∧ rows.length + 1 ≤ LIM ∧ b.marks[t]? = some m ∧
  lo < rows.length + 2 ∧ hi < rows.length + 2 ∧ t < DB.lv b.marks rows lo ∧ t < DB.lv b.marks rows hi ∧ Bp C b H rows 1 (fun rows' r => DB.Dc m b.marks rows' lo hi r) Q
/-- the row that stands at a room's number -/
theorem BkAt.room {C : Addr} {b : Bk} {H : Hp} {rows : List Rw} (B : BkAt C b H rows) {n : Nat} {r : Rw} (h2 : 2 ≤ n) (h : rows[n - 2]? = some r) :
    ∃ xs t, H b.rl = some (.lst xs) ∧ atI xs (n : Nat) = some (.ref t) ∧ H t = some (.tup (rowV r)) := by
  obtain ⟨ts, h1, _, h3⟩ := B.rl
  obtain ⟨t, h4, h5⟩ := h3 _ _ h
  refine ⟨_, t, h1, atI_nat ?_, h5⟩
  obtain ⟨k, rfl⟩ : ∃ k, n = k + 2 := ⟨n - 2, by omega⟩
  show (ts.map V.ref)[k]? = _
  rw [List.getElem?_map]
  have : k + 2 - 2 = k := by omega
  rw [this] at h4
  rw [h4]
  rfl
theorem BkAt.rlen {C : Addr} {b : Bk} {H : Hp} {rows : List Rw} (B : BkAt C b H rows) : ∃ xs, H b.rl = some (.lst xs) ∧ xs.length = rows.length + 2 := by
  obtain ⟨ts, h1, h2, _⟩ := B.rl
  exact ⟨_, h1, by simp [h2]⟩
theorem idx_marks {ms : List Str} {m : Str} (h : m ∈ ms) : (ms.map V.str)[ms.idxOf m]? = some (.str m) := by
  rw [List.getElem?_map, List.getElem?_eq_getElem (List.idxOf_lt_length_of_mem h), List.getElem_idxOf]
  rfl
theorem flat_marks (ms : List Str) : (ms.map V.str).all flatV = true := by
  rw [List.all_map]
  exact List.all_eq_true.mpr fun _ _ => rfl
theorem idx_first {ms : List Str} {m : Str} (k : Nat) (z : V) (hk : k < ms.idxOf m) (hz : (ms.map V.str)[k]? = some z) : eqV z (.str m) = false := by
  rw [List.getElem?_map] at hz
  obtain ⟨y, hy, rfl⟩ := Option.map_eq_some_iff.mp hz
  obtain ⟨hl, e⟩ := List.getElem?_eq_some_iff.mp hy
  have := List.not_of_lt_findIdx (p := (· == m)) (xs := ms) (i := k) hk
  show (y == m) = false
  rw [← e]
  simpa using this
theorem inV_marks {ms : List Str} {m : Str} (h : m ∈ ms) : inV (.str m) (ms.map V.str) = true := by
  unfold inV
  rw [List.any_map, List.any_eq_true]
  exact ⟨m, h, by show (m == m) = true; simp⟩
theorem inV_marks_iff {ms : List Str} {m : Str} : inV (.str m) (ms.map V.str) = decide (m ∈ ms) := by
  by_cases h : m ∈ ms
  · rw [inV_marks h, decide_eq_true h]
  · rw [decide_eq_false h]
    unfold inV
    rw [List.any_map, List.any_eq_false]
    intro x hx
    show ¬ (x == m) = true
    intro e
    have e : x = m := by simpa using e
    exact h (e ▸ hx)
section
variable {P : Program} {w : World} {K : PySem.W.Frag} {mg : Str → Option Value} {base : Heap} {C : Addr}
theorem d_ask_room (T : Tx w K mg C) (A : HasM K C "ask_room" "Book.ask_room" sm_ask_room) : Md P w K mg base C "ask_room" 1 ["self", "number"] (spAskRoom C) := by
  refine Md.of A scm_ask_room (fun vs H Q E h => ?_) (fun _ _ _ _ _ _ us hl => match us, hl with | [_, _], _ => rfl) (fun f cdv A outer s H vs Q E hr h => ?_)
  · obtain ⟨b, rows, n, rfl, _⟩ := h; rfl
  obtain ⟨b, rows, n, rfl, B, hn, q⟩ := h
  refine ⟨_, (pss_one (ps_if (pt_not (pt_chain op_le op_lt pe_int (pv 1) (pe_callB call_len_seq (by rfl) T.len (by decide +kernel) (pa_cons (pe_fld (pv 0) rfl) pa_nil)))) (pss_one ps_never) pss_nil)), ?_⟩
  obtain ⟨xs, hx, hl⟩ := B.rlen
  refine ⟨_, rfl, _, _, rfl, rfl, true, congrArg V.bl (decide_eq_true (by omega)), ?_⟩
  refine iteT ⟨_, rfl, b.p, C, b.dx, _, _, rfl, B.ob, T.cl, T.nRows, bf_rows _ _ _, b.rl, xs, rfl, .inl (SqL.of hx), _, _, rfl, rfl, true, ?_, ?_⟩
  · exact congrArg V.bl (decide_eq_true (by omega))
  · exact q
theorem d_ask_mark (T : Tx w K mg C) (A : HasM K C "ask_mark" "Book.ask_mark" sm_ask_mark) : Md P w K mg base C "ask_mark" 1 ["self", "mark"] (spAskMark C) := by
  refine Md.of A scm_ask_mark (fun vs H Q E h => ?_) (fun _ _ _ _ _ _ us hl => match us, hl with | [_, _], _ => rfl) (fun f cdv A outer s H vs Q E hr h => ?_)
  · obtain ⟨b, rows, n, rfl, _⟩ := h; rfl
  obtain ⟨b, rows, m, rfl, B, hm, q⟩ := h
  refine ⟨_, (pss_one (ps_if (pt_cmpR op_notIn_seq (pv 1) (pe_fld (pv 0) rfl) (by rfl)) (pss_one ps_never) pss_nil)), ?_⟩
  refine ⟨_, rfl, _, rfl, b.p, C, b.dx, _, _, rfl, B.ob, T.cl, T.nMarks, bf_marks _ _ _, b.ml, _, rfl, .inl (SqL.of B.ml), rfl, flat_marks _, _, rfl, ?_⟩
  rw [inV_marks hm]
  exact q
theorem d_order (T : Tx w K mg C) (A : HasM K C "order" "Book.order" sm_order) : Md P w K mg base C "order" 1 ["self"] (spOrder C) := by
  refine Md.of A scm_order (fun vs H Q E h => ?_) (fun _ _ _ _ _ _ us hl => match us, hl with | [_], _ => rfl) (fun f cdv A outer s H vs Q E hr h => ?_)
  · obtain ⟨b, rows, rfl, _⟩ := h; rfl
  obtain ⟨b, rows, rfl, B, q⟩ := h
  refine ⟨_, (pss_one (ps_ret (pe_callTy call_list_of (by rfl) T.list (by decide +kernel) (pa_cons (pe_fld (pv 0) rfl) pa_nil)))), ?_⟩
  exact ⟨_, rfl, b.p, C, b.dx, _, _, rfl, B.ob, T.cl, T.nMarks, bf_marks _ _ _, b.ml, _, rfl, .inl (SqL.of B.ml), fun l hl => q l hl⟩
theorem d_level (T : Tx w K mg C) (A : HasM K C "level" "Book.level" sm_level) : Md P w K mg base C "level" 1 ["self", "number"] (spLevel C) := by
  refine Md.of A scm_level (fun vs H Q E h => ?_) (fun _ _ _ _ _ _ us hl => match us, hl with | [_, _], _ => rfl) (fun f cdv A outer s H vs Q E hr h => ?_)
  · obtain ⟨b, rows, n, rfl, _⟩ := h; rfl
  obtain ⟨b, rows, n, rfl, B, hn, q⟩ := h
  refine ⟨_, (pss_cons (ps_if (pt_cmpR op_lt (pv 1) pe_int (nomark _)) (pss_one (ps_ret (pe_callB call_len_seq (by rfl) T.len (by decide +kernel) (pa_cons (pe_fld (pv 0) rfl) pa_nil)))) pss_nil)
      (pss_one (ps_ret (pe_bm PySem.F.plainAttrs_list PySem.F.slot_list_index PySem.F.type_list_index mt_index (pe_fld (pv 0) rfl) (pa_cons (pe_ix ix_tup (pe_ix ix_list (pe_fld (pv 0) rfl) (pv 1) (fun _ _ => rfl)) pe_int (fun _ _ => rfl)) pa_nil))))), ?_⟩
  refine ⟨_, rfl, _, _, rfl, rfl, _, rfl, ?_⟩
  refine ite2 (fun c => ?_) (fun c => ?_)
  · have c' : n < 2 := by have := of_decide_eq_true c; omega
    refine ⟨_, rfl, b.p, C, b.dx, _, _, rfl, B.ob, T.cl, T.nMarks, bf_marks _ _ _, b.ml, _, rfl, .inl (SqL.of B.ml), ?_⟩
    rw [DB.lv_small c'] at q
    rw [List.length_map]
    exact q
  · have c' : 2 ≤ n := by have := of_decide_eq_false (Bool.eq_false_iff.mpr c); omega
    obtain ⟨m, lo, hi, e⟩ := DB.node_of c' hn
    obtain ⟨xs, t, h1, h2, h3⟩ := B.room c' e
    have hm := B.wf.mem _ _ _ _ e
    refine ⟨_, rfl, b.p, C, b.dx, _, _, rfl, B.ob, T.cl, T.nMarks, bf_marks _ _ _, .inl ⟨rfl, _, SqL.of B.ml⟩, ?_⟩
    refine ⟨_, rfl, b.p, C, b.dx, _, _, rfl, B.ob, T.cl, T.nRows, bf_rows _ _ _, _, rfl, b.rl, xs, _, _, rfl, rfl, SqL.of h1, h2, t, _, _, _, rfl, rfl, SqT.of h3, rfl, ?_⟩
    refine ⟨b.ml, _, .str m, b.marks.idxOf m, .str m, rfl, rfl, SqL.of B.ml, rfl, flat_marks _, idx_marks hm, (by show (m == m) = true; simp), fun k z hk hz => idx_first k z hk hz, ?_⟩
    rw [DB.lv_node c' e] at q
    exact q
theorem d_goings (T : Tx w K mg C) (A : HasM K C "goings" "Book.goings" sm_goings) (d_level : Md P w K mg base C "level" 1 ["self", "number"] (spLevel C)) : Md P w K mg base C "goings" 2 ["self", "number", "at"] (spGoings C) := by
  refine Md.of A scm_goings (fun vs H Q E h => ?_) (fun _ _ _ _ _ _ us hl => match us, hl with | [_, _, _], _ => rfl) (fun f cdv A outer s H vs Q E hr h => ?_)
  · obtain ⟨b, rows, n, t, rfl, _⟩ := h; rfl
  obtain ⟨b, rows, n, t, rfl, B, hn, ht, q⟩ := h
  refine ⟨_, (pss_cons (ps_if (pt_cmpR op_eq (pe_md d_level T.cl (hr.mono (by omega)) (pv 0) (pa_cons (pv 1) pa_nil)) (pv 2) (nomark _)) (pss_one (ps_ret (pe_tup (pa_cons (pe_ix ix_tup (pe_ix ix_list (pe_fld (pv 0) rfl) (pv 1) (fun _ _ => rfl)) pe_int (fun _ _ => rfl)) (pa_cons (pe_ix ix_tup (pe_ix ix_list (pe_fld (pv 0) rfl) (pv 1) (fun _ _ => rfl)) pe_int (fun _ _ => rfl)) pa_nil))))) pss_nil)
      (pss_one (ps_ret (pe_tup (pa_cons (pv 1) (pa_cons (pv 1) pa_nil)))))), ?_⟩
  refine ⟨_, rfl, b.p, b.dx, _, rfl, B.ob, bf_no _ _ _ (by decide +kernel) (by decide +kernel) (by decide +kernel), _, rfl, b, rows, n, rfl, B, hn, _, rfl, rfl, _, rfl, ?_⟩
  refine ite2 (fun c => ?_) (fun c => ?_)
  · have c' : DB.lv b.marks rows n = t := by have := V.int.inj (of_decide_eq_true c); omega
    have h2 : 2 ≤ n := by
      refine Nat.le_of_not_lt fun z => ?_
      rw [DB.lv_small z] at c'
      omega
    obtain ⟨m, lo, hi, e⟩ := DB.node_of h2 hn
    obtain ⟨xs, u, h1, h2', h3⟩ := B.room h2 e
    refine ⟨_, rfl, b.p, C, b.dx, _, _, rfl, B.ob, T.cl, T.nRows, bf_rows _ _ _, _, rfl, b.rl, xs, _, _, rfl, rfl, SqL.of h1, h2', u, _, _, _, rfl, rfl, SqT.of h3, rfl, ?_⟩
    refine ⟨_, rfl, b.p, C, b.dx, _, _, rfl, B.ob, T.cl, T.nRows, bf_rows _ _ _, _, rfl, b.rl, xs, _, _, rfl, rfl, SqL.of h1, h2', u, _, _, _, rfl, rfl, SqT.of h3, rfl, ?_⟩
    refine ⟨(by show 2 ≤ sizeLine; decide), fun p hp => ?_⟩
    have eg := DB.gg_node (marks := b.marks) e
    rw [c'] at eg
    have q := q p hp
    rw [eg] at q
    exact q
  · have c' : DB.lv b.marks rows n ≠ t := fun z => c (decide_eq_true (by rw [z]))
    refine ⟨_, rfl, _, rfl, (by show 2 ≤ sizeLine; decide), fun p hp => ?_⟩
    have q := q p hp
    rw [DB.gg_ne c'] at q
    exact q
theorem d_decided (T : Tx w K mg C) (A : HasM K C "decided" "Book.decided" sm_decided) : Md P w K mg base C "decided" 1 ["self", "at", "low", "high"] (spDecided C) := by
  refine Md.of A scm_decided (fun vs H Q E h => ?_) (fun _ _ _ _ _ _ us hl => match us, hl with | [_, _, _, _], _ => rfl) (fun f cdv A outer s H vs Q E hr h => ?_)
  · obtain ⟨b, rows, t, lo, hi, m, rfl, _⟩ := h; rfl
  obtain ⟨b, rows, t, lo, hi, m, rfl, B, hlim, hm, hlo, hhi, l1, l2, q⟩ := h
  refine ⟨_, (pss_cons (ps_if (pt_cmpR op_eq (pv 2) (pv 3) (nomark _)) (pss_one (ps_ret (pv 2))) pss_nil)
      (pss_cons (ps_set (i := 4) scm_decided.nd rfl (Or.inl rfl) (pe_tup (pa_cons (pe_ix ix_list (pe_fld (pv 0) rfl) (pv 1) (fun _ _ => rfl)) (pa_cons (pv 2) (pa_cons (pv 3) pa_nil)))))
      (pss_cons (ps_if (pt_cmp (pc_dnotin (hu_of hr) (pv 4) (pe_fld (pv 0) rfl))) (pss_cons (ps_dput (hu_of hr) (pe_fld (pv 0) rfl) (pv 4) (pe_callB call_len_seq (by rfl) T.len (by decide +kernel) (pa_cons (pe_fld (pv 0) rfl) pa_nil)) rfl)
      (pss_one (ps_expr (pe_bm PySem.F.plainAttrs_list PySem.F.slot_list_append PySem.F.type_list_append mt_append (pe_fld (pv 0) rfl) (pa_cons (pv 4) pa_nil))))) pss_nil)
      (pss_one (ps_ret (pe_dget (hu_of hr) (pe_fld (pv 0) rfl) (pv 4) (fun _ _ => rfl))))))), ?_⟩
  obtain ⟨htl, hte⟩ := List.getElem?_eq_some_iff.mp hm
  have im : b.marks.idxOf m = t := by
    rw [← hte]
    exact List.Nodup.idxOf_getElem B.nd t htl
  have mm : m ∈ b.marks := List.mem_of_getElem? hm
  refine ⟨_, rfl, _, rfl, rfl, _, rfl, ?_⟩
  refine ite2 (fun c => ?_) (fun c => ?_)
  · have c' : lo = hi := by have := V.int.inj (of_decide_eq_true c); omega
    subst c'
    exact ⟨_, rfl, q lo rows H (.refl B.wf) B K2.refl (by omega) (DB.dc_eq B.wf hlo (by omega))⟩
  have hne : lo ≠ hi := fun z => c (decide_eq_true (by rw [z]))
  have am : atI (b.marks.map V.str) ((t : Nat) : Int) = some (.str m) := atI_nat (by rw [List.getElem?_map, hm]; rfl)
  refine ⟨_, rfl, b.p, C, b.dx, _, _, rfl, B.ob, T.cl, T.nMarks, bf_marks _ _ _, _, rfl, b.ml, _, _, _, rfl, rfl, SqL.of B.ml, am, _, rfl, _, rfl, (by show 3 ≤ sizeLine; decide), fun p hp => ?_⟩
  have B1 : BkAt C b (upd H p (.tup [.str m, .int (lo : Nat), .int (hi : Nat)])) rows := B.new hp _
  have hp1 : upd H p (.tup [.str m, .int (lo : Nat), .int (hi : Nat)]) p = some (.tup ((rowK (m, lo, hi)).map kV)) := upd_same
  have s1 : Same H (upd H p (.tup [.str m, .int (lo : Nat), .int (hi : Nat)])) := Same.new hp _
  show tSeq _ _ _ _ (upd H p (.tup [.str m, .int (lo : Nat), .int (hi : Nat)]))
  generalize upd H p (.tup [.str m, .int (lo : Nat), .int (hi : Nat)]) = H1 at B1 hp1 s1 ⊢
  refine ⟨_, rfl, _, rfl, b.p, C, b.dx, _, _, rfl, B1.ob, T.cl, T.nPlaces, bf_places _ _ _, b.pl, _, rfl, DGet.t B1.pl hp1, _, rfl, ?_⟩
  cases e : valV (plF 2 rows) (rowK (m, lo, hi)) with
  | some v =>
    refine iteF ?_
    obtain ⟨i, r, h1, h2, h3⟩ := plF_get _ _ _ _ e
    have hr' := rowK_inj h2
    subst hr'
    refine ⟨_, rfl, b.p, C, b.dx, _, _, rfl, B1.ob, T.cl, T.nPlaces, bf_places _ _ _, _, rfl, b.pl, v, rfl, ?_, ?_⟩
    · rw [← e]; exact DGet.t B1.pl hp1
    · rw [h3]
      have ei : 2 + i = i + 2 := by omega
      rw [ei]
      exact q (i + 2) rows _ (.refl B.wf) B1 (K2.of s1) (by omega) (DB.dc_old B.wf h1)
  | none =>
    refine iteT ?_
    obtain ⟨xs, hx, hxl⟩ := B1.rlen
    obtain ⟨ts, t1, t2, t3⟩ := B1.rl
    have hnp := B.none_ne hp
    have nrp := B.ne_p
    have nrl := B.rl_pl
    have hpl : (plF 2 rows).length < sizeLine := by have := lim_lt hlim; rw [plF_len]; omega
    refine ⟨_, rfl, b.p, C, b.dx, _, _, rfl, B1.ob, T.cl, T.nRows, bf_rows _ _ _, b.rl, _, rfl, .inl (SqL.of t1), ?_⟩
    refine ⟨_, rfl, b.p, C, b.dx, _, _, rfl, B1.ob, T.cl, T.nPlaces, bf_places _ _ _, _, rfl, b.pl, _, rfl, DPut.t B1.pl hp1 hpl, ?_⟩
    have el : (V.non :: V.non :: ts.map V.ref).length = rows.length + 2 := by simp [t2]
    have ep : putK (plF 2 rows) (rowK (m, lo, hi)) (V.int (((V.non :: V.non :: ts.map V.ref).length : Nat) : Int)) = plF 2 (rows ++ [(m, lo, hi)]) := by
      rw [putK_new _ e, plF_snoc, el]
      have : rows.length + 2 = 2 + rows.length := by omega
      rw [this]
    rw [ep]
    have ob2 : (upd H1 b.pl (.dT (plF 2 (rows ++ [(m, lo, hi)])))) b.p = some (.ins C b.dx (bf b.ml b.rl b.pl)) := by rw [upd_ne nrp.2]; exact B1.ob
    have rl2 : (upd H1 b.pl (.dT (plF 2 (rows ++ [(m, lo, hi)])))) b.rl = some (.lst (.non :: .non :: ts.map V.ref)) := by rw [upd_ne nrl]; exact t1
    refine ⟨_, rfl, b.p, C, b.dx, _, _, rfl, ob2, T.cl, T.nRows, bf_rows _ _ _, .inl ⟨rfl, _, SqL.of rl2⟩, _, rfl, b.rl, _, _, rfl, rfl, rl2, by rw [el]; exact Nat.lt_of_le_of_lt (by omega) (lim_lt hlim), ?_⟩
    have W := DB.dc_new B.wf mm hlo hhi hne (by omega) (by omega)
    generalize hH3 : upd (upd H1 b.pl (.dT (plF 2 (rows ++ [(m, lo, hi)])))) b.rl (.lst (.non :: .non :: ts.map V.ref ++ [.ref p])) = H3
    have at3 : ∀ a, a ≠ b.rl → a ≠ b.pl → H3 a = H1 a := fun a n1 n2 => by rw [← hH3, upd_ne n1, upd_ne n2]
    have mlne : b.ml ≠ b.rl ∧ b.ml ≠ b.pl := by
      refine ⟨fun z => ?_, ne_of B1.ml B1.pl (by intro z; cases z)⟩
      have := B1.ml
      rw [z, t1] at this
      have := HO.lst.inj (Option.some.inj this)
      cases hmk : b.marks with
      | nil => rw [hmk] at htl; simp at htl
      | cons a r => rw [hmk] at this; simp at this
    have B3 : BkAt C b H3 (rows ++ [(m, lo, hi)]) := by
      refine ⟨by rw [at3 _ nrp.1 nrp.2]; exact B1.ob, by rw [at3 _ mlne.1 mlne.2]; exact B1.ml, ⟨ts ++ [p], by rw [← hH3, upd_same]; simp, by simp [t2], fun i r hi' => ?_⟩, by rw [← hH3, upd_ne nrl.symm, upd_same], W.1.w', B.nd, B.few⟩
      by_cases c : i < rows.length
      · rw [List.getElem?_append_left c] at hi'
        obtain ⟨u, h1, h2⟩ := t3 _ _ hi'
        refine ⟨u, by rw [List.getElem?_append_left (by omega)]; exact h1, ?_⟩
        have := B1.tup_ne h2
        rw [at3 _ this.1 this.2]
        exact h2
      · rw [List.getElem?_append_right (by omega)] at hi'
        have i0 : i - rows.length = 0 := by
          cases k : i - rows.length with
          | zero => rfl
          | succ k' => rw [k] at hi'; simp at hi'
        rw [i0] at hi'
        have er : (m, lo, hi) = r := by simpa using hi'
        subst er
        refine ⟨p, by rw [List.getElem?_append_right (by omega), t2, i0]; rfl, ?_⟩
        rw [at3 _ hnp.2.2.1 hnp.2.2.2]
        exact hp1
    have hp3 : H3 p = some (.tup ((rowK (m, lo, hi)).map kV)) := by rw [at3 _ hnp.2.2.1 hnp.2.2.2]; exact hp1
    have vz : valV (plF 2 (rows ++ [(m, lo, hi)])) (rowK (m, lo, hi)) = some (.int ((rows.length + 2 : Nat) : Int)) := by
      rw [plF_snoc, valV_snoc _ _ _ _ e, if_pos rfl]
      have : 2 + rows.length = rows.length + 2 := by omega
      rw [this]
    refine ⟨_, rfl, b.p, C, b.dx, _, _, rfl, B3.ob, T.cl, T.nPlaces, bf_places _ _ _, _, rfl, b.pl, _, rfl, by rw [← vz]; exact DGet.t B3.pl hp3, ?_⟩
    refine q (rows.length + 2) _ H3 W.1 B3 (fun a o ha n1 n2 => by rw [at3 _ n1 n2]; exact s1 a o ha) (by simp) W.2
end
end DW


set_option maxHeartbeats 4000000
/-! join and fix. -/
namespace DW
open PySem PySem.Spec PyProof.Rows L2
theorem scm_join : FnScope ["self", "table", "one", "other", "known", "at", "left", "right", "low"] ["self", "table", "one", "other", "known"] (defScope sm_join) := ⟨rfl, rfl, rfl, by decide +kernel, rfl, by decide +kernel, by decide +kernel⟩
theorem scm_fix : FnScope ["self", "one", "at", "value", "known", "low"] ["self", "one", "at", "value", "known"] (defScope sm_fix) := ⟨rfl, rfl, rfl, by decide +kernel, rfl, by decide +kernel, by decide +kernel⟩
theorem Md.mono {P : Program} {w : World} {K : PySem.W.Frag} {mg : Str → Option Value} {base : Heap} {x : Str} {j k : Nat} {ps : List Str} {sp : Sp} {C : Addr} (D : Md P w K mg base C x j ps sp) (h : j ≤ k) : Md P w K mg base C x k ps sp := by
  obtain ⟨f, fd, a, b, F⟩ := D.ex
  exact ⟨f, fd, a, b, F.mono h⟩
theorem Md.imp {P : Program} {w : World} {K : PySem.W.Frag} {mg : Str → Option Value} {base : Heap} {x : Str} {k : Nat} {ps : List Str} {sp sp' : Sp} {C : Addr} (D : Md P w K mg base C x k ps sp) (h : ∀ vs H Q E, sp' vs H Q E → sp vs H Q E) : Md P w K mg base C x k ps sp' := by
  obtain ⟨f, fd, a, b, F⟩ := D.ex
  exact ⟨f, fd, a, b, F.imp h⟩
/-- what a table of four signs says -/
structure Tab (tb : Str) (f : Bool → Bool → Bool) : Prop where
  at_ : ∀ x y : Nat, x < 2 → y < 2 → atI tb.cps.toList ((2 * x + y : Nat) : Int) = some (if f (x == 1) (y == 1) then 49 else 48)
  len : tb.length ≤ sizeLine
def KnJ (f : Bool → Bool → Bool) (marks : List Str) (rows : List Rw) (kvs : List (List Key × V)) : Prop :=
  ∀ (a b : Nat) (v : V), valV kvs [.inl (a : Nat), .inl (b : Nat)] = some v → ∃ r : Nat, v = .int (r : Nat) ∧ DB.Jn f marks rows a b r
theorem KnJ.up {f : Bool → Bool → Bool} {marks : List Str} {rows rows' : List Rw} {kvs : List (List Key × V)} (k : KnJ f marks rows kvs) (g : DB.Grow marks rows rows') : KnJ f marks rows' kvs := fun a b v h => by
  obtain ⟨r, h1, h2⟩ := k a b v h
  exact ⟨r, h1, g.jn h2⟩
theorem KnJ.put {f : Bool → Bool → Bool} {marks : List Str} {rows : List Rw} {kvs : List (List Key × V)} (k : KnJ f marks rows kvs) {a b r : Nat} (j : DB.Jn f marks rows a b r) : KnJ f marks rows (putK kvs [.inl (a : Nat), .inl (b : Nat)] (.int (r : Nat))) := fun x y v h => by
  rw [valV_put] at h
  by_cases e : ([Sum.inl ((x : Nat) : Int), Sum.inl ((y : Nat) : Int)] : List Key) = [Sum.inl ((a : Nat) : Int), Sum.inl ((b : Nat) : Int)]
  · rw [if_pos e] at h
    simp only [List.cons.injEq, Sum.inl.injEq] at e
    have e1 : x = a := by omega
    have e2 : y = b := by omega
    subst e1 e2
    exact ⟨r, (Option.some.inj h).symm, j⟩
  · rw [if_neg e] at h
    exact k x y v h
theorem KnJ.nil {f : Bool → Bool → Bool} {marks : List Str} {rows : List Rw} : KnJ f marks rows [] := fun a b v h => by rw [valV_nil] at h; cases h
def spJoin (C : Addr) : Nat → Sp
  | 0 => fun _ _ _ _ => False
  | n + 1 => fun vs H Q _ => ∃ (b : Bk) (rows : List Rw) (tb : Str) (f : Bool → Bool → Bool) (one other : Nat) (q : Addr) (kvs : List (List Key × V)),
    vs = [.ref b.p, .str tb, .int (one : Nat), .int (other : Nat), .ref q] ∧ BkAt C b H rows ∧ H q = some (.dT kvs) ∧ q ≠ b.pl ∧ Tab tb f ∧ KnJ f b.marks rows kvs ∧ one < rows.length + 2 ∧ other < rows.length + 2 ∧
    b.marks.length ≤ n + min (DB.lv b.marks rows one) (DB.lv b.marks rows other) ∧ rows.length + (2 ^ n - 1) ≤ LIM ∧ kvs.length + (2 ^ n - 1) ≤ LIM ∧
    ∀ (r : Nat) (rows' : List Rw) (kvs' : List (List Key × V)) (H' : Hp), DB.Grow b.marks rows rows' → BkAt C b H' rows' → H' q = some (.dT kvs') → K3 b.rl b.pl q H H' → KnJ f b.marks rows' kvs' →
      rows'.length ≤ rows.length + (2 ^ n - 1) → kvs'.length ≤ kvs.length + (2 ^ n - 1) → DB.Jn f b.marks rows' one other r → Q (.int (r : Nat)) H'
theorem two_pos (n : Nat) : 1 ≤ 2 ^ n := Nat.one_le_two_pow
theorem int_text (c : Bool) : PySem.intText? ⟨#[if c then 49 else 48]⟩ = some (if c then 1 else 0) := by cases c <;> decide +kernel
section
variable {P : Program} {w : World} {K : PySem.W.Frag} {mg : Str → Option Value} {base : Heap} {C : Addr}
theorem d_join1 (n : Nat) (T : Tx w K mg C) (A : HasM K C "join" "Book.join" sm_join) (d_level : Md P w K mg base C "level" 1 ["self", "number"] (spLevel C)) (d_goings : Md P w K mg base C "goings" 2 ["self", "number", "at"] (spGoings C))
    (d_decided : Md P w K mg base C "decided" 1 ["self", "at", "low", "high"] (spDecided C)) (d_join : Md P w K mg base C "join" (n + 2) ["self", "table", "one", "other", "known"] (spJoin C n)) : Md P w K mg base C "join" (n + 3) ["self", "table", "one", "other", "known"] (spJoin C (n + 1)) := by
  refine Md.of A scm_join (fun vs H Q E h => ?_) (fun _ _ _ _ _ _ us hl => match us, hl with | [_, _, _, _, _], _ => rfl) (fun f cdv A outer s H vs Q E hr h => ?_)
  · obtain ⟨b, rows, tb, f, one, other, q, kvs, rfl, _⟩ := h; rfl
  obtain ⟨b, rows, tb, f, one, other, q, kvs, rfl, B, hq, nqp, tab, kn, h1, h2, hd, lim1, lim2, k⟩ := h
  refine ⟨_, (pss_cons (ps_if (PW.pt (pw_and (pt_cmpR op_lt (pv 2) pe_int (nomark _)) (pw_and1 (pt_cmpR op_lt (pv 3) pe_int (nomark _))))) (pss_one (ps_ret (pe_callTy call_int_str (by rfl) T.int (by decide +kernel) (pa_cons (pe_ix ix_str (pv 1) (pe_op op_add (pe_op op_mul pe_int (pv 2)) (pv 3)) (fun _ _ => rfl)) pa_nil)))) pss_nil)
      (pss_cons (ps_if (pt_cmp (pc_dnotin (hu_of hr) (pe_tup (pa_cons (pv 2) (pa_cons (pv 3) pa_nil))) (pv 4))) (pss_cons (ps_set (i := 5) scm_join.nd rfl (Or.inl rfl) (pe_callB (call_min2 rfl) (by rfl) T.min (by decide +kernel) (pa_cons (pe_md d_level T.cl (hr.mono (by omega)) (pv 0) (pa_cons (pv 2) pa_nil)) (pa_cons (pe_md d_level T.cl (hr.mono (by omega)) (pv 0) (pa_cons (pv 3) pa_nil)) pa_nil))))
      (pss_cons (ps_set (i := 6) scm_join.nd rfl (Or.inl rfl) (pe_md d_goings T.cl (hr.mono (by omega)) (pv 0) (pa_cons (pv 2) (pa_cons (pv 5) pa_nil))))
      (pss_cons (ps_set (i := 7) scm_join.nd rfl (Or.inl rfl) (pe_md d_goings T.cl (hr.mono (by omega)) (pv 0) (pa_cons (pv 3) (pa_cons (pv 5) pa_nil))))
      (pss_cons (ps_set (i := 8) scm_join.nd rfl (Or.inl rfl) (pe_md d_join T.cl (hr.mono (by omega)) (pv 0) (pa_cons (pv 1) (pa_cons (pe_ix ix_tup (pv 6) pe_int (fun _ _ => rfl)) (pa_cons (pe_ix ix_tup (pv 7) pe_int (fun _ _ => rfl)) (pa_cons (pv 4) pa_nil))))))
      (pss_one (ps_dput (hu_of hr) (pv 4) (pe_tup (pa_cons (pv 2) (pa_cons (pv 3) pa_nil))) (pe_md d_decided T.cl (hr.mono (by omega)) (pv 0) (pa_cons (pv 5) (pa_cons (pv 8) (pa_cons (pe_md d_join T.cl (hr.mono (by omega)) (pv 0) (pa_cons (pv 1) (pa_cons (pe_ix ix_tup (pv 6) pe_int (fun _ _ => rfl)) (pa_cons (pe_ix ix_tup (pv 7) pe_int (fun _ _ => rfl)) (pa_cons (pv 4) pa_nil))))) pa_nil)))) rfl)))))) pss_nil)
      (pss_one (ps_ret (pe_dget (hu_of hr) (pv 4) (pe_tup (pa_cons (pv 2) (pa_cons (pv 3) pa_nil))) (fun _ _ => rfl)))))), ?_⟩
  have nm : ∀ m : Str, (m == "marks") = false → (m == "rows") = false → (m == "places") = false → (bf b.ml b.rl b.pl).lookup m = none := fun m a c d => bf_no _ _ _ a c d
  have nqr : q ≠ b.rl := by
    obtain ⟨ts, t1, _⟩ := B.rl
    exact ne_of hq t1 (by intro z; cases z)
  by_cases both : one < 2 ∧ other < 2
  · -- both no or yes
    refine ⟨_, rfl, _, _, rfl, rfl, true, congrArg V.bl (decide_eq_true (by omega)), ?_⟩
    refine iteT ⟨_, rfl, _, _, rfl, rfl, true, congrArg V.bl (decide_eq_true (by omega)), ?_⟩
    refine iteT ⟨_, rfl, _, rfl, _, _, rfl, rfl, .inr (by show (-(2 ^ 64) < (one : Int) ∧ (one : Int) < 2 ^ 64); omega), _, rfl, _, _, rfl, rfl, tb, _, _, rfl, rfl, tab.len, tab.at_ one other both.1 both.2, ?_⟩
    refine ⟨_, _, rfl, int_text _, (by show 1 ≤ 640; decide), ?_⟩
    have j := DB.jn_base (f := f) B.wf both.1 both.2
    have := k _ rows kvs H (.refl B.wf) B hq K3.refl kn (by omega) (by omega) j
    cases hc : f (one == 1) (other == 1) <;> (rw [hc] at this; exact this)
  -- a test that is not met
  have skip : ∀ {t : TS} {D : Ends} {σ : L2.St}, σ[2]? = some (some (V.int (one : Nat))) → σ[3]? = some (some (V.int (other : Nat))) → D.nx σ H →
      tIfS (tAnd (tTest (tOp (rI0 fun i j => .bl (decide (i < j))) (tVar 2) (tC (.int 2)))) (tTest (tOp (rI0 fun i j => .bl (decide (i < j))) (tVar 3) (tC (.int 2))))) t tNext D σ H := fun {t D σ} s2 s3 hn => by
    by_cases c1 : one < 2
    · refine ⟨_, s2, _, _, rfl, rfl, true, congrArg V.bl (decide_eq_true (by omega)), ?_⟩
      refine iteT ⟨_, s3, _, _, rfl, rfl, false, congrArg V.bl (decide_eq_false (by omega)), ?_⟩
      exact iteF hn
    · refine ⟨_, s2, _, _, rfl, rfl, false, congrArg V.bl (decide_eq_false (by omega)), ?_⟩
      exact iteF (iteF hn)
  refine skip rfl rfl ?_
  have key : ∀ {H' : Hp} {p : Addr}, H' p = some (.tup [.int (one : Nat), .int (other : Nat)]) → H' p = some (.tup (([.inl (one : Nat), .inl (other : Nat)] : List Key).map kV)) := fun h => h
  refine ⟨_, rfl, _, rfl, (by show 2 ≤ sizeLine; decide), fun p hp => ?_⟩
  have s1 : Same H (upd H p (.tup [.int (one : Nat), .int (other : Nat)])) := Same.new hp _
  have p1 : upd H p (.tup [.int (one : Nat), .int (other : Nat)]) p = some (.tup (([.inl (one : Nat), .inl (other : Nat)] : List Key).map kV)) := upd_same
  generalize upd H p (.tup [.int (one : Nat), .int (other : Nat)]) = H1 at s1 p1 ⊢
  refine ⟨_, rfl, q, _, rfl, DGet.t (s1 _ _ hq) p1, _, rfl, ?_⟩
  -- the end: known[one, other]
  have fin : ∀ {r : Nat} {rows' : List Rw} {kvs' : List (List Key × V)} {H' : Hp} {σ : L2.St}, σ[2]? = some (some (V.int (one : Nat))) → σ[3]? = some (some (V.int (other : Nat))) → σ[4]? = some (some (V.ref q)) →
      DB.Grow b.marks rows rows' → BkAt C b H' rows' → H' q = some (.dT kvs') → K3 b.rl b.pl q H H' → KnJ f b.marks rows' kvs' → rows'.length ≤ rows.length + (2 ^ n - 1) → kvs'.length ≤ kvs.length + (2 ^ n - 1) →
      valV kvs' [.inl (one : Nat), .inl (other : Nat)] = some (.int (r : Nat)) → DB.Jn f b.marks rows' one other r →
      tRet (tDGet (tVar 4) (tTup (tCons (tVar 2) (tCons (tVar 3) tNil)))) { nx := fun _ H' => Q .non H', rt := Q } σ H' := fun {r rows' kvs' H' σ} s2 s3 s4 g B' hq' k3 kn' l1 l2 hv j => by
    refine ⟨_, s4, _, s2, _, s3, (by show 2 ≤ sizeLine; decide), fun p hp => ⟨q, .int (r : Nat), rfl, ?_, ?_⟩⟩
    · rw [← hv]
      exact DGet.t (by rw [upd_ne (ne_of_none hq' hp)]; exact hq') (key upd_same)
    · exact k r rows' kvs' _ g (B'.new hp _) (by rw [upd_ne (ne_of_none hq' hp)]; exact hq') (k3.trans (K3.of (K2.of (Same.new hp _)))) kn' l1 l2 j
  cases e : valV kvs [.inl (one : Nat), .inl (other : Nat)] with
  | some v =>
    obtain ⟨r, rfl, j⟩ := kn _ _ _ e
    exact iteF (fin rfl rfl rfl (.refl B.wf) (B.mono s1) (s1 _ _ hq) (K3.of (K2.of s1)) kn (by omega) (by omega) e j)
  | none =>
    refine iteT ?_
    -- at least one is a room with a mark
    have lvl : min (DB.lv b.marks rows one) (DB.lv b.marks rows other) < b.marks.length := by
      by_cases c : one < 2
      · have := DB.lv_lt B.wf (n := other) (by omega) h2
        omega
      · have := DB.lv_lt B.wf (n := one) (by omega) h1
        omega
    obtain ⟨n', rfl⟩ : ∃ n', n = n' + 1 := ⟨n - 1, by omega⟩
    generalize ht : min (DB.lv b.marks rows one) (DB.lv b.marks rows other) = t at lvl hd
    have hm : b.marks[t]? = some b.marks[t] := List.getElem?_eq_getElem lvl
    have B1 := B.mono s1
    refine ⟨_, rfl, b.p, b.dx, _, rfl, B1.ob, nm _ (by decide +kernel) (by decide +kernel) (by decide +kernel), _, rfl, b, rows, one, rfl, B1, h1, ?_⟩
    refine ⟨_, rfl, b.p, b.dx, _, rfl, B1.ob, nm _ (by decide +kernel) (by decide +kernel) (by decide +kernel), _, rfl, b, rows, other, rfl, B1, h2, _, _, rfl, ?_⟩
    have et : (if ((DB.lv b.marks rows other : Nat) : Int) < ((DB.lv b.marks rows one : Nat) : Int) then ((DB.lv b.marks rows other : Nat) : Int) else ((DB.lv b.marks rows one : Nat) : Int)) = ((t : Nat) : Int) := by
      split <;> omega
    rw [et]
    obtain ⟨a1, a2, a3, a4, a5, a6⟩ := DB.gg_ok B.wf h1 (t := t) (by omega) hm
    obtain ⟨c1, c2, c3, c4, c5, c6⟩ := DB.gg_ok B.wf h2 (t := t) (by omega) hm
    -- left, right
    refine ⟨_, rfl, b.p, b.dx, _, rfl, B1.ob, nm _ (by decide +kernel) (by decide +kernel) (by decide +kernel), _, rfl, _, rfl, b, rows, one, t, rfl, B1, h1, lvl, fun pl hpl => ?_⟩
    have s2 := Same.new hpl (.tup [.int ((DB.gg b.marks rows one t).1 : Nat), .int ((DB.gg b.marks rows one t).2 : Nat)])
    have p2 : upd H1 pl (.tup [.int ((DB.gg b.marks rows one t).1 : Nat), .int ((DB.gg b.marks rows one t).2 : Nat)]) pl = some (.tup [.int ((DB.gg b.marks rows one t).1 : Nat), .int ((DB.gg b.marks rows one t).2 : Nat)]) := upd_same
    generalize upd H1 pl (.tup [.int ((DB.gg b.marks rows one t).1 : Nat), .int ((DB.gg b.marks rows one t).2 : Nat)]) = H2 at s2 p2 ⊢
    have B2 := B1.mono s2
    refine ⟨_, rfl, b.p, b.dx, _, rfl, B2.ob, nm _ (by decide +kernel) (by decide +kernel) (by decide +kernel), _, rfl, _, rfl, b, rows, other, t, rfl, B2, h2, lvl, fun pr hpr => ?_⟩
    have s3 := Same.new hpr (.tup [.int ((DB.gg b.marks rows other t).1 : Nat), .int ((DB.gg b.marks rows other t).2 : Nat)])
    have p3 : upd H2 pr (.tup [.int ((DB.gg b.marks rows other t).1 : Nat), .int ((DB.gg b.marks rows other t).2 : Nat)]) pr = some (.tup [.int ((DB.gg b.marks rows other t).1 : Nat), .int ((DB.gg b.marks rows other t).2 : Nat)]) := upd_same
    generalize upd H2 pr (.tup [.int ((DB.gg b.marks rows other t).1 : Nat), .int ((DB.gg b.marks rows other t).2 : Nat)]) = H3 at s3 p3 ⊢
    have B3 := B2.mono s3
    have s13 : Same H H3 := s1.trans (s2.trans s3)
    have p2' := s3 _ _ p2
    have q3 := s13 _ _ hq
    have pw := two_pos n'
    have pe : 2 ^ (n' + 1) = 2 * 2 ^ n' := by rw [Nat.pow_succ]; omega
    -- low
    refine ⟨_, rfl, b.p, b.dx, _, rfl, B3.ob, nm _ (by decide +kernel) (by decide +kernel) (by decide +kernel), _, rfl, _, rfl, pl, _, _, _, rfl, rfl, SqT.of p2', rfl, _, rfl, pr, _, _, _, rfl, rfl, SqT.of p3, rfl, _, rfl, ?_⟩
    refine ⟨b, rows, tb, f, _, _, q, kvs, rfl, B3, q3, nqp, tab, kn, a1, c1, by omega, by omega, by omega, fun low rows1 kvs1 H4 g1 B4 q4 k4 kn4 l4 m4 j4 => ?_⟩
    have tupK : ∀ {H4 : Hp} {a : Addr} {xs : List V}, H3 a = some (.tup xs) → K3 b.rl b.pl q H3 H4 → H4 a = some (.tup xs) := fun {H4 a xs} h kk =>
      kk a _ h (B3.tup_ne h).1 (B3.tup_ne h).2 (ne_of h q3 (by intro z; cases z))
    have gl1 := g1.len
    -- known[..] = decided(at, low, join(..))
    refine ⟨_, rfl, b.p, b.dx, _, rfl, B4.ob, nm _ (by decide +kernel) (by decide +kernel) (by decide +kernel), _, rfl, _, rfl, ?_⟩
    refine ⟨_, rfl, b.p, b.dx, _, rfl, B4.ob, nm _ (by decide +kernel) (by decide +kernel) (by decide +kernel), _, rfl, _, rfl, pl, _, _, _, rfl, rfl, SqT.of (tupK p2' k4), rfl, _, rfl, pr, _, _, _, rfl, rfl, SqT.of (tupK p3 k4), rfl, _, rfl, ?_⟩
    refine ⟨b, rows1, tb, f, _, _, q, kvs1, rfl, B4, q4, nqp, tab, kn4, by omega, by omega, by rw [g1.lv a2, g1.lv c2]; omega, by omega, by omega, fun high rows2 kvs2 H5 g2 B5 q5 k5 kn5 l5 m5 j5 => ?_⟩
    have gl2 := g2.len
    have jl2 := g2.jn j4
    have lvl4 : t < DB.lv b.marks rows2 low := by
      have := jl2.lev
      rw [(g1.trans g2).lv a1, (g1.trans g2).lv c1] at this
      omega
    have lvl5 : t < DB.lv b.marks rows2 high := by
      have := j5.lev
      rw [(g1.trans g2).lv a2, (g1.trans g2).lv c2] at this
      omega
    refine ⟨b, rows2, t, low, high, _, rfl, B5, by omega, hm, jl2.lt, j5.lt, lvl4, lvl5, fun r rows3 H6 g3 B6 k6 l6 d6 => ?_⟩
    have q6 : H6 q = some (.dT kvs2) := k6 _ _ q5 nqr nqp
    have g13 := g1.trans (g2.trans g3)
    refine ⟨_, rfl, _, rfl, _, rfl, (by show 2 ≤ sizeLine; decide), fun p' hp' => ?_⟩
    have s7 := Same.new hp' (.tup [.int (one : Nat), .int (other : Nat)])
    have p7 : upd H6 p' (.tup [.int (one : Nat), .int (other : Nat)]) p' = some (.tup (([.inl (one : Nat), .inl (other : Nat)] : List Key).map kV)) := upd_same
    generalize upd H6 p' (.tup [.int (one : Nat), .int (other : Nat)]) = H7 at s7 p7 ⊢
    have B7 := B6.mono s7
    have q7 := s7 _ _ q6
    refine ⟨q, _, rfl, DPut.t q7 p7 (by have := lim_lt lim2; omega), ?_⟩
    have jn := DB.jn_step B.wf h1 h2 ht.symm hm B.nd g1 j4 g2 j5 g3 d6 (DB.sup_min B.wf B.nd h1 h2 ht.symm hm)
    have at8 : ∀ a, a ≠ q → upd H7 q (.dT (putK kvs2 [.inl (one : Nat), .inl (other : Nat)] (.int (r : Nat)))) a = H7 a := fun a ha => upd_ne ha
    have B8 : BkAt C b (upd H7 q (.dT (putK kvs2 [.inl (one : Nat), .inl (other : Nat)] (.int (r : Nat))))) rows3 := by
      obtain ⟨ts, t1, t2, t3⟩ := B7.rl
      refine ⟨by rw [at8 _ (ne_of B7.ob q7 (by intro z; cases z))]; exact B7.ob, by rw [at8 _ (ne_of B7.ml q7 (by intro z; cases z))]; exact B7.ml, ⟨ts, by rw [at8 _ nqr.symm]; exact t1, t2, fun i r hi => ?_⟩, by rw [at8 _ nqp.symm]; exact B7.pl, B7.wf, B7.nd, B7.few⟩
      obtain ⟨u, u1, u2⟩ := t3 i r hi
      exact ⟨u, u1, by rw [at8 _ (ne_of u2 q7 (by intro z; cases z))]; exact u2⟩
    refine fin (r := r) rfl rfl rfl g13 B8 upd_same ?_ ((kn5.up g3).put jn) (by omega) ?_ (by rw [valV_put, if_pos rfl]) jn
    · intro a o ha n1 n2 n3
      rw [at8 a n3]
      exact s7 _ _ (k6 _ _ (k5 _ _ (k4 _ _ (s13 _ _ ha) n1 n2 n3) n1 n2 n3) n1 n2)
    · have := length_putK kvs2 [.inl (one : Nat), .inl (other : Nat)] (.int (r : Nat))
      omega
theorem d_joins (T : Tx w K mg C) (A : HasM K C "join" "Book.join" sm_join) (d_level : Md P w K mg base C "level" 1 ["self", "number"] (spLevel C)) (d_goings : Md P w K mg base C "goings" 2 ["self", "number", "at"] (spGoings C))
    (d_decided : Md P w K mg base C "decided" 1 ["self", "at", "low", "high"] (spDecided C)) : ∀ n, Md P w K mg base C "join" (n + 2) ["self", "table", "one", "other", "known"] (spJoin C n)
  | 0 => (Md.never A (fun _ _ _ _ _ _ us hl => match us, hl with | [_, _, _, _, _], _ => rfl) fun _ _ _ _ h => h).mono (Nat.zero_le _)
  | n + 1 => d_join1 n T A d_level d_goings d_decided (d_joins T A d_level d_goings d_decided n)
end
end DW


set_option maxHeartbeats 4000000
/-! fix. -/
namespace DW
open PySem PySem.Spec PyProof.Rows L2
def KnF (m : Str) (v : Bool) (marks : List Str) (rows : List Rw) (kvs : List (Key × V)) : Prop :=
  ∀ (a : Nat) (x : V), valV kvs (.inl (a : Nat)) = some x → ∃ r : Nat, x = .int (r : Nat) ∧ DB.Fx m v marks rows a r
theorem KnF.up {m : Str} {v : Bool} {marks : List Str} {rows rows' : List Rw} {kvs : List (Key × V)} (k : KnF m v marks rows kvs) (g : DB.Grow marks rows rows') : KnF m v marks rows' kvs := fun a x h => by
  obtain ⟨r, h1, h2⟩ := k a x h
  exact ⟨r, h1, g.fx h2⟩
theorem KnF.put {m : Str} {v : Bool} {marks : List Str} {rows : List Rw} {kvs : List (Key × V)} (k : KnF m v marks rows kvs) {a r : Nat} (j : DB.Fx m v marks rows a r) : KnF m v marks rows (putK kvs (.inl (a : Nat)) (.int (r : Nat))) := fun y x h => by
  rw [valV_put] at h
  by_cases e : (Sum.inl ((y : Nat) : Int) : Key) = Sum.inl ((a : Nat) : Int)
  · rw [if_pos e] at h
    have e1 : y = a := by have := Sum.inl.inj e; omega
    subst e1
    exact ⟨r, (Option.some.inj h).symm, j⟩
  · rw [if_neg e] at h
    exact k y x h
theorem KnF.nil {m : Str} {v : Bool} {marks : List Str} {rows : List Rw} : KnF m v marks rows [] := fun a x h => by rw [valV_nil] at h; cases h
def bI (v : Bool) : Int := if v then 1 else 0
def spFix (C : Addr) : Nat → Sp
  | 0 => fun _ _ _ _ => False
  | n + 1 => fun vs H Q _ => ∃ (b : Bk) (rows : List Rw) (one t : Nat) (v : Bool) (q : Addr) (kvs : List (Key × V)) (m : Str),
    vs = [.ref b.p, .int (one : Nat), .int (t : Nat), .int (bI v), .ref q] ∧ BkAt C b H rows ∧ H q = some (.dK kvs) ∧ b.marks[t]? = some m ∧ KnF m v b.marks rows kvs ∧ one < rows.length + 2 ∧
    b.marks.length ≤ n + DB.lv b.marks rows one ∧ rows.length + (2 ^ n - 1) ≤ LIM ∧ kvs.length + (2 ^ n - 1) ≤ LIM ∧
    ∀ (r : Nat) (rows' : List Rw) (kvs' : List (Key × V)) (H' : Hp), DB.Grow b.marks rows rows' → BkAt C b H' rows' → H' q = some (.dK kvs') → K3 b.rl b.pl q H H' → KnF m v b.marks rows' kvs' →
      rows'.length ≤ rows.length + (2 ^ n - 1) → kvs'.length ≤ kvs.length + (2 ^ n - 1) → DB.Fx m v b.marks rows' one r → Q (.int (r : Nat)) H'
section
variable {P : Program} {w : World} {K : PySem.W.Frag} {mg : Str → Option Value} {base : Heap} {C : Addr}
theorem d_fix1 (n : Nat) (T : Tx w K mg C) (A : HasM K C "fix" "Book.fix" sm_fix) (d_level : Md P w K mg base C "level" 1 ["self", "number"] (spLevel C))
    (d_decided : Md P w K mg base C "decided" 1 ["self", "at", "low", "high"] (spDecided C)) (d_fix : Md P w K mg base C "fix" (n + 1) ["self", "one", "at", "value", "known"] (spFix C n)) : Md P w K mg base C "fix" (n + 2) ["self", "one", "at", "value", "known"] (spFix C (n + 1)) := by
  refine Md.of A scm_fix (fun vs H Q E h => ?_) (fun _ _ _ _ _ _ us hl => match us, hl with | [_, _, _, _, _], _ => rfl) (fun f cdv A outer s H vs Q E hr h => ?_)
  · obtain ⟨b, rows, one, t, v, q, kvs, m, rfl, _⟩ := h; rfl
  obtain ⟨b, rows, one, t, v, q, kvs, m, rfl, B, hq, hm, kn, h1, hd, lim1, lim2, k⟩ := h
  refine ⟨_, (pss_cons (ps_if (pt_cmpR op_gt (pe_md d_level T.cl (hr.mono (by omega)) (pv 0) (pa_cons (pv 1) pa_nil)) (pv 2) (nomark _)) (pss_one (ps_ret (pv 1))) pss_nil)
      (pss_cons (ps_if (pt_cmpR op_eq (pe_md d_level T.cl (hr.mono (by omega)) (pv 0) (pa_cons (pv 1) pa_nil)) (pv 2) (nomark _)) (pss_one (ps_ret (pe_ix ix_tup (pe_ix ix_list (pe_fld (pv 0) rfl) (pv 1) (fun _ _ => rfl)) (pe_op op_add pe_int (pv 3)) (fun _ _ => rfl)))) pss_nil)
      (pss_cons (ps_if (pt_cmp (pc_dnotin (hu_of hr) (pv 1) (pv 4))) (pss_cons (ps_set (i := 5) scm_fix.nd rfl (Or.inl rfl) (pe_md d_fix T.cl (hr.mono (by omega)) (pv 0) (pa_cons (pe_ix ix_tup (pe_ix ix_list (pe_fld (pv 0) rfl) (pv 1) (fun _ _ => rfl)) pe_int (fun _ _ => rfl)) (pa_cons (pv 2) (pa_cons (pv 3) (pa_cons (pv 4) pa_nil))))))
      (pss_one (ps_dput (hu_of hr) (pv 4) (pv 1) (pe_md d_decided T.cl (hr.mono (by omega)) (pv 0) (pa_cons (pe_md d_level T.cl (hr.mono (by omega)) (pv 0) (pa_cons (pv 1) pa_nil)) (pa_cons (pv 5) (pa_cons (pe_md d_fix T.cl (hr.mono (by omega)) (pv 0) (pa_cons (pe_ix ix_tup (pe_ix ix_list (pe_fld (pv 0) rfl) (pv 1) (fun _ _ => rfl)) pe_int (fun _ _ => rfl)) (pa_cons (pv 2) (pa_cons (pv 3) (pa_cons (pv 4) pa_nil))))) pa_nil)))) rfl))) pss_nil)
      (pss_one (ps_ret (pe_dget (hu_of hr) (pv 4) (pv 1) (fun _ _ => rfl))))))), ?_⟩
  have nm : ∀ m : Str, (m == "marks") = false → (m == "rows") = false → (m == "places") = false → (bf b.ml b.rl b.pl).lookup m = none := fun m a c d => bf_no _ _ _ a c d
  have nqr : q ≠ b.rl := by
    obtain ⟨ts, t1, _⟩ := B.rl
    exact ne_of hq t1 (by intro z; cases z)
  have nqp : q ≠ b.pl := ne_of hq B.pl (by intro z; cases z)
  obtain ⟨htl, hte⟩ := List.getElem?_eq_some_iff.mp hm
  have im : b.marks.idxOf m = t := by
    rw [← hte]
    exact List.Nodup.idxOf_getElem B.nd t htl
  refine ⟨_, rfl, b.p, b.dx, _, rfl, B.ob, nm _ (by decide +kernel) (by decide +kernel) (by decide +kernel), _, rfl, b, rows, one, rfl, B, h1, _, rfl, _, _, rfl, rfl, _, rfl, ?_⟩
  refine ite2 (fun c => ?_) (fun c => ?_)
  · have c' : t < DB.lv b.marks rows one := by have := of_decide_eq_true c; omega
    exact ⟨_, rfl, k one rows kvs H (.refl B.wf) B hq K3.refl kn (by omega) (by omega) (DB.fx_above B.wf h1 im c')⟩
  have c' : DB.lv b.marks rows one ≤ t := by have := of_decide_eq_false (Bool.eq_false_iff.mpr c); omega
  have h2 : 2 ≤ one := by
    refine Nat.le_of_not_lt fun z => ?_
    rw [DB.lv_small z] at c'
    omega
  obtain ⟨x, lo, hi, e⟩ := DB.node_of h2 h1
  have el := DB.lv_node (marks := b.marks) h2 e
  have hx := B.wf.mem _ _ _ _ e
  obtain ⟨xs, u, r1, r2, r3⟩ := B.room h2 e
  refine ⟨_, rfl, b.p, b.dx, _, rfl, B.ob, nm _ (by decide +kernel) (by decide +kernel) (by decide +kernel), _, rfl, b, rows, one, rfl, B, h1, _, rfl, rfl, _, rfl, ?_⟩
  refine ite2 (fun d => ?_) (fun d => ?_)
  · have d' : DB.lv b.marks rows one = t := by have := V.int.inj (of_decide_eq_true d); omega
    have ex : x = m := by
      have := List.getElem_idxOf (List.idxOf_lt_length_of_mem hx)
      rw [← this, ← hte]
      congr 1
      omega
    subst ex
    have fx := DB.fx_here (v := v) B.wf h2 e
    refine ⟨_, rfl, b.p, C, b.dx, _, _, rfl, B.ob, T.cl, T.nRows, bf_rows _ _ _, _, rfl, b.rl, xs, _, _, rfl, rfl, SqL.of r1, r2, _, rfl, _, _, rfl, rfl, u, _, _, .int ((if v then hi else lo : Nat) : Int), rfl, rfl, SqT.of r3, ?_, ?_⟩
    · cases v <;> rfl
    · exact k _ rows kvs H (.refl B.wf) B hq K3.refl kn (by omega) (by omega) fx
  have d' : DB.lv b.marks rows one ≠ t := fun z => d (decide_eq_true (by rw [z]))
  have hne : x ≠ m := fun z => by subst z; omega
  -- the end
  have fin : ∀ {r : Nat} {rows' : List Rw} {kvs' : List (Key × V)} {H' : Hp} {σ : L2.St}, σ[1]? = some (some (V.int (one : Nat))) → σ[4]? = some (some (V.ref q)) →
      DB.Grow b.marks rows rows' → BkAt C b H' rows' → H' q = some (.dK kvs') → K3 b.rl b.pl q H H' → KnF m v b.marks rows' kvs' → rows'.length ≤ rows.length + (2 ^ n - 1) → kvs'.length ≤ kvs.length + (2 ^ n - 1) →
      valV kvs' (.inl ((one : Nat) : Int)) = some (.int (r : Nat)) → DB.Fx m v b.marks rows' one r →
      tRet (tDGet (tVar 4) (tVar 1)) { nx := fun _ H' => Q .non H', rt := Q } σ H' := fun {r rows' kvs' H' σ} s1 s4 g B' hq' k3 kn' l1 l2 hv j =>
    ⟨_, s4, _, s1, q, .int (r : Nat), rfl, by rw [← hv]; exact DGet.k (k := .inl ((one : Nat) : Int)) hq', k r rows' kvs' _ g B' hq' k3 kn' l1 l2 j⟩
  refine ⟨_, rfl, _, rfl, q, _, rfl, DGet.k (k := .inl ((one : Nat) : Int)) hq, _, rfl, ?_⟩
  cases ev : valV kvs (.inl ((one : Nat) : Int)) with
  | some y =>
    obtain ⟨r, rfl, j⟩ := kn _ _ ev
    exact iteF (fin rfl rfl (.refl B.wf) B hq K3.refl kn (by omega) (by omega) ev j)
  | none =>
    refine iteT ?_
    obtain ⟨n', rfl⟩ : ∃ n', n = n' + 1 := ⟨n - 1, by omega⟩
    have pw := two_pos n'
    have pe : 2 ^ (n' + 1) = 2 * 2 ^ n' := by rw [Nat.pow_succ]; omega
    have a1 := B.wf.llt _ _ _ _ e
    have a2 := B.wf.hlt _ _ _ _ e
    have a3 := B.wf.lol _ _ _ _ e
    have a4 := B.wf.hil _ _ _ _ e
    have a5 := (List.getElem?_eq_some_iff.mp e).1
    -- low
    refine ⟨_, rfl, b.p, b.dx, _, rfl, B.ob, nm _ (by decide +kernel) (by decide +kernel) (by decide +kernel), _, rfl, b.p, C, b.dx, _, _, rfl, B.ob, T.cl, T.nRows, bf_rows _ _ _, _, rfl, b.rl, xs, _, _, rfl, rfl, SqL.of r1, r2, u, _, _, _, rfl, rfl, SqT.of r3, rfl, _, rfl, _, rfl, _, rfl, ?_⟩
    refine ⟨b, rows, lo, t, v, q, kvs, m, rfl, B, hq, hm, kn, by omega, by omega, by omega, by omega, fun low rows1 kvs1 H4 g1 B4 q4 k4 kn4 l4 m4 j4 => ?_⟩
    have gl1 := g1.len
    obtain ⟨xs4, u4, s1, s2, s3⟩ := B4.room h2 (g1.get e)
    -- known[one] = decided(level(one), low, fix(..))
    refine ⟨_, rfl, b.p, b.dx, _, rfl, B4.ob, nm _ (by decide +kernel) (by decide +kernel) (by decide +kernel), _, rfl, b.p, b.dx, _, rfl, B4.ob, nm _ (by decide +kernel) (by decide +kernel) (by decide +kernel), _, rfl, b, rows1, one, rfl, B4, by omega, _, rfl, ?_⟩
    refine ⟨_, rfl, b.p, b.dx, _, rfl, B4.ob, nm _ (by decide +kernel) (by decide +kernel) (by decide +kernel), _, rfl, b.p, C, b.dx, _, _, rfl, B4.ob, T.cl, T.nRows, bf_rows _ _ _, _, rfl, b.rl, xs4, _, _, rfl, rfl, SqL.of s1, s2, u4, _, _, _, rfl, rfl, SqT.of s3, rfl, _, rfl, _, rfl, _, rfl, ?_⟩
    refine ⟨b, rows1, hi, t, v, q, kvs1, m, rfl, B4, q4, hm, kn4, by omega, by rw [g1.lv (by omega)]; omega, by omega, by omega, fun high rows2 kvs2 H5 g2 B5 q5 k5 kn5 l5 m5 j5 => ?_⟩
    have gl2 := g2.len
    have jl2 := g2.fx j4
    have g12 := g1.trans g2
    have lvl4 : b.marks.idxOf x < DB.lv b.marks rows2 low := by
      have := jl2.lev
      rw [g12.lv (by omega)] at this
      omega
    have lvl5 : b.marks.idxOf x < DB.lv b.marks rows2 high := by
      have := j5.lev
      rw [g12.lv (by omega)] at this
      omega
    have hxm : b.marks[b.marks.idxOf x]? = some x := by rw [List.getElem?_eq_getElem (List.idxOf_lt_length_of_mem hx), List.getElem_idxOf]
    refine ⟨b, rows2, b.marks.idxOf x, low, high, x, by rw [g1.lv (by omega), el]; rfl, B5, by omega, hxm, jl2.lt, j5.lt, lvl4, lvl5, fun r rows3 H6 g3 B6 k6 l6 d6 => ?_⟩
    have q6 : H6 q = some (.dK kvs2) := k6 _ _ q5 nqr nqp
    have g13 := g1.trans (g2.trans g3)
    refine ⟨_, rfl, _, rfl, q, _, rfl, DPut.k (k := .inl ((one : Nat) : Int)) q6 (by have := lim_lt lim2; omega), ?_⟩
    have jn := DB.fx_step B.wf h2 e hne g1 j4 g2 j5 g3 d6
    have at8 : ∀ a, a ≠ q → upd H6 q (.dK (putK kvs2 (.inl ((one : Nat) : Int)) (.int (r : Nat)))) a = H6 a := fun a ha => upd_ne ha
    have B8 : BkAt C b (upd H6 q (.dK (putK kvs2 (.inl ((one : Nat) : Int)) (.int (r : Nat))))) rows3 := by
      obtain ⟨ts, t1, t2, t3⟩ := B6.rl
      refine ⟨by rw [at8 _ (ne_of B6.ob q6 (by intro z; cases z))]; exact B6.ob, by rw [at8 _ (ne_of B6.ml q6 (by intro z; cases z))]; exact B6.ml, ⟨ts, by rw [at8 _ nqr.symm]; exact t1, t2, fun i r hi => ?_⟩, by rw [at8 _ nqp.symm]; exact B6.pl, B6.wf, B6.nd, B6.few⟩
      obtain ⟨y, u1, u2⟩ := t3 i r hi
      exact ⟨y, u1, by rw [at8 _ (ne_of u2 q6 (by intro z; cases z))]; exact u2⟩
    refine fin (r := r) rfl rfl g13 B8 upd_same ?_ ((kn5.up g3).put jn) (by omega) ?_ (by rw [valV_put, if_pos rfl]) jn
    · intro a o ha n1 n2 n3
      rw [at8 a n3]
      exact k6 _ _ (k5 _ _ (k4 _ _ ha n1 n2 n3) n1 n2 n3) n1 n2
    · have := length_putK kvs2 (.inl ((one : Nat) : Int)) (.int (r : Nat))
      omega
theorem d_fixs (T : Tx w K mg C) (A : HasM K C "fix" "Book.fix" sm_fix) (d_level : Md P w K mg base C "level" 1 ["self", "number"] (spLevel C))
    (d_decided : Md P w K mg base C "decided" 1 ["self", "at", "low", "high"] (spDecided C)) : ∀ n, Md P w K mg base C "fix" (n + 1) ["self", "one", "at", "value", "known"] (spFix C n)
  | 0 => (Md.never A (fun _ _ _ _ _ _ us hl => match us, hl with | [_, _, _, _, _], _ => rfl) fun _ _ _ _ h => h).mono (Nat.zero_le _)
  | n + 1 => d_fix1 n T A d_level d_decided (d_fixs T A d_level d_decided n)
/-! ### the forms that callers use: a new dict is handed over, eight marks at most -/
def spJoinN (C : Addr) : Sp := fun vs H Q _ => ∃ (b : Bk) (rows : List Rw) (tb : Str) (f : Bool → Bool → Bool) (one other : Nat) (q : Addr),
  vs = [.ref b.p, .str tb, .int (one : Nat), .int (other : Nat), .ref q] ∧ BkAt C b H rows ∧ H q = some (.dT []) ∧ q ≠ b.pl ∧ Tab tb f ∧ one < rows.length + 2 ∧ other < rows.length + 2 ∧ rows.length + 255 ≤ LIM ∧
  ∀ (r : Nat) (rows' : List Rw) (H' : Hp), DB.Grow b.marks rows rows' → BkAt C b H' rows' → K3 b.rl b.pl q H H' → rows'.length ≤ rows.length + 255 → DB.Jn f b.marks rows' one other r → Q (.int (r : Nat)) H'
def spFixN (C : Addr) : Sp := fun vs H Q _ => ∃ (b : Bk) (rows : List Rw) (one t : Nat) (v : Bool) (q : Addr) (m : Str),
  vs = [.ref b.p, .int (one : Nat), .int (t : Nat), .int (bI v), .ref q] ∧ BkAt C b H rows ∧ H q = some (.dK []) ∧ b.marks[t]? = some m ∧ one < rows.length + 2 ∧ rows.length + 255 ≤ LIM ∧
  ∀ (r : Nat) (rows' : List Rw) (H' : Hp), DB.Grow b.marks rows rows' → BkAt C b H' rows' → K3 b.rl b.pl q H H' → rows'.length ≤ rows.length + 255 → DB.Fx m v b.marks rows' one r → Q (.int (r : Nat)) H'
theorem d_joinN (T : Tx w K mg C) (A : HasM K C "join" "Book.join" sm_join) (d_level : Md P w K mg base C "level" 1 ["self", "number"] (spLevel C)) (d_goings : Md P w K mg base C "goings" 2 ["self", "number", "at"] (spGoings C))
    (d_decided : Md P w K mg base C "decided" 1 ["self", "at", "low", "high"] (spDecided C)) : Md P w K mg base C "join" 11 ["self", "table", "one", "other", "known"] (spJoinN C) :=
  (d_joins T A d_level d_goings d_decided 9).imp fun vs H Q E h => by
    obtain ⟨b, rows, tb, f, one, other, q, rfl, B, hq, nq, tab, h1, h2, lim, k⟩ := h
    exact ⟨b, rows, tb, f, one, other, q, [], rfl, B, hq, nq, tab, KnJ.nil, h1, h2, Nat.le_trans B.few (Nat.le_add_right 8 _), by show rows.length + (2 ^ 8 - 1) ≤ LIM; exact lim, by show 0 + (2 ^ 8 - 1) ≤ LIM; unfold LIM; omega,
      fun r rows' kvs' H' g B' hq' k3 kn' l1 l2 j => k r rows' H' g B' k3 l1 j⟩
theorem d_fixN (T : Tx w K mg C) (A : HasM K C "fix" "Book.fix" sm_fix) (d_level : Md P w K mg base C "level" 1 ["self", "number"] (spLevel C))
    (d_decided : Md P w K mg base C "decided" 1 ["self", "at", "low", "high"] (spDecided C)) : Md P w K mg base C "fix" 10 ["self", "one", "at", "value", "known"] (spFixN C) :=
  (d_fixs T A d_level d_decided 9).imp fun vs H Q E h => by
    obtain ⟨b, rows, one, t, v, q, m, rfl, B, hq, hm, h1, lim, k⟩ := h
    exact ⟨b, rows, one, t, v, q, [], m, rfl, B, hq, hm, KnF.nil, h1, Nat.le_trans B.few (Nat.le_add_right 8 _), by show rows.length + (2 ^ 8 - 1) ≤ LIM; exact lim, by show 0 + (2 ^ 8 - 1) ≤ LIM; unfold LIM; omega,
      fun r rows' kvs' H' g B' hq' k3 kn' l1 l2 j => k r rows' H' g B' k3 l1 j⟩
end
end DW


set_option maxHeartbeats 4000000
/-! held, for_some, put. -/
namespace DW
open PySem PySem.Spec PyProof.Rows L2
theorem scfheld : FnScope ["book", "one", "mark", "value"] ["book", "one", "mark", "value"] (defScope sfheld) := ⟨rfl, rfl, rfl, by decide +kernel, rfl, by decide +kernel, by decide +kernel⟩
theorem scffor_some : FnScope ["book", "mark", "one"] ["book", "mark", "one"] (defScope sffor_some) := ⟨rfl, rfl, rfl, by decide +kernel, rfl, by decide +kernel, by decide +kernel⟩
theorem scfput : FnScope ["book", "one", "mark", "other", "yes", "no"] ["book", "one", "mark", "other"] (defScope sfput) := ⟨rfl, rfl, rfl, by decide +kernel, rfl, by decide +kernel, by decide +kernel⟩
theorem scfmark_room : FnScope ["book", "mark"] ["book", "mark"] (defScope sfmark_room) := ⟨rfl, rfl, rfl, by decide +kernel, rfl, by decide +kernel, by decide +kernel⟩
theorem tab_of {tb : Str} {f : Bool → Bool → Bool} (h : ∀ x y : Bool, atI tb.cps.toList ((2 * x.toNat + y.toNat : Nat) : Int) = some (if f x y then 49 else 48)) (l : tb.length ≤ sizeLine) : Tab tb f := by
  refine ⟨fun x y hx hy => ?_, l⟩
  rcases (by omega : x = 0 ∨ x = 1) with rfl | rfl <;> rcases (by omega : y = 0 ∨ y = 1) with rfl | rfl
  · exact h false false
  · exact h false true
  · exact h true false
  · exact h true true
theorem tab_and : Tab "0001" (fun a b => a && b) := tab_of (by intro x y; cases x <;> cases y <;> decide +kernel) (by decide +kernel)
theorem tab_or : Tab "0111" (fun a b => a || b) := tab_of (by intro x y; cases x <;> cases y <;> decide +kernel) (by decide +kernel)
theorem tab_xor : Tab "0110" (fun a b => xor a b) := tab_of (by intro x y; cases x <;> cases y <;> decide +kernel) (by decide +kernel)
theorem tab_if : Tab "1101" (fun a b => !a || b) := tab_of (by intro x y; cases x <;> cases y <;> decide +kernel) (by decide +kernel)
theorem tab_nand : Tab "0100" (fun a b => !a && b) := tab_of (by intro x y; cases x <;> cases y <;> decide +kernel) (by decide +kernel)
theorem tab_diff : Tab "0010" (fun a b => a && !b) := tab_of (by intro x y; cases x <;> cases y <;> decide +kernel) (by decide +kernel)
theorem tab_not : Tab "1100" (fun a _ => !a) := tab_of (by intro x y; cases x <;> cases y <;> decide +kernel) (by decide +kernel)
theorem nmA (b : Bk) (m : Str) (h : ((m == "marks") || (m == "rows") || (m == "places")) = false) : (bf b.ml b.rl b.pl).lookup m = none := by
  rw [Bool.or_eq_false_iff, Bool.or_eq_false_iff] at h
  exact bf_no _ _ _ h.1.1 h.1.2 h.2
/-- join with a new dict, by what the rooms mean -/
def spJoinI (C : Addr) : Sp := fun vs H Q _ => ∃ (b : Bk) (rows : List Rw) (H0 : Hp) (tb : Str) (f : Bool → Bool → Bool) (one other : Nat) (q : Addr) (u v : (Str → Bool) → Bool),
  vs = [.ref b.p, .str tb, .int (one : Nat), .int (other : Nat), .ref q] ∧ H = upd H0 q (.dT []) ∧ H0 q = none ∧ BkAt C b H0 rows ∧ Tab tb f ∧ Is rows one u ∧ Is rows other v ∧ rows.length + 255 ≤ LIM ∧
  ∀ (r : Nat) (rows' : List Rw) (H' : Hp), DB.Grow b.marks rows rows' → BkAt C b H' rows' → K2 b.rl b.pl H0 H' → rows'.length ≤ rows.length + 255 → Is rows' r (fun e => f (u e) (v e)) → DB.Jn f b.marks rows' one other r → Q (.int (r : Nat)) H'
def spFixI (C : Addr) : Sp := fun vs H Q _ => ∃ (b : Bk) (rows : List Rw) (H0 : Hp) (one t : Nat) (v : Bool) (q : Addr) (m : Str),
  vs = [.ref b.p, .int (one : Nat), .int (t : Nat), .int (bI v), .ref q] ∧ H = upd H0 q (.dK []) ∧ H0 q = none ∧ BkAt C b H0 rows ∧ b.marks[t]? = some m ∧ one < rows.length + 2 ∧ rows.length + 255 ≤ LIM ∧
  ∀ (r : Nat) (rows' : List Rw) (H' : Hp), DB.Grow b.marks rows rows' → BkAt C b H' rows' → K2 b.rl b.pl H0 H' → rows'.length ≤ rows.length + 255 → DB.Fx m v b.marks rows' one r → Q (.int (r : Nat)) H'
theorem joinI {C : Addr} {vs : List V} {H : Hp} {Q : VK} {E : XK} (h : spJoinI C vs H Q E) : spJoinN C vs H Q E := by
  obtain ⟨b, rows, H0, tb, f, one, other, q, u, v, rfl, rfl, hq, B, tab, h1, h2, lim, k⟩ := h
  exact ⟨b, rows, tb, f, one, other, q, rfl, B.new hq _, upd_same, (B.none_ne hq).2.2.2, tab, h1.1, h2.1, lim, fun r rows' H' g B' k3 l j => k r rows' H' g B' (K3.fresh hq k3) l ⟨j.lt, fun e => by rw [j.sem, (h1.up g).2, (h2.up g).2]⟩ j⟩
theorem fixI {C : Addr} {vs : List V} {H : Hp} {Q : VK} {E : XK} (h : spFixI C vs H Q E) : spFixN C vs H Q E := by
  obtain ⟨b, rows, H0, one, t, v, q, m, rfl, rfl, hq, B, hm, h1, lim, k⟩ := h
  exact ⟨b, rows, one, t, v, q, m, rfl, B.new hq _, upd_same, hm, h1, lim, fun r rows' H' g B' k3 l j => k r rows' H' g B' (K3.fresh hq k3) l j⟩
def spHeld (C : Addr) : Sp := fun vs H Q _ => ∃ (b : Bk) (rows : List Rw) (one : Nat) (m : Str) (v : Bool), vs = [.ref b.p, .int (one : Nat), .str m, .int (bI v)] ∧ BkAt C b H rows ∧ rows.length + 255 ≤ LIM ∧ one < rows.length + 2 ∧ m ∈ b.marks ∧
  Bp C b H rows 255 (fun rows' r => DB.Fx m v b.marks rows' one r) Q
def spForSome (C : Addr) : Sp := fun vs H Q _ => ∃ (b : Bk) (rows : List Rw) (one : Nat) (m : Str) (f : (Str → Bool) → Bool), vs = [.ref b.p, .str m, .int (one : Nat)] ∧ BkAt C b H rows ∧ rows.length + 765 ≤ LIM ∧ m ∈ b.marks ∧ Is rows one f ∧
  Bp C b H rows 765 (fun rows' r => Is rows' r (fun e => f (DB.up e m false) || f (DB.up e m true))) Q
def spPut (C : Addr) : Sp := fun vs H Q _ => ∃ (b : Bk) (rows : List Rw) (one other : Nat) (m : Str) (f g : (Str → Bool) → Bool), vs = [.ref b.p, .int (one : Nat), .str m, .int (other : Nat)] ∧ BkAt C b H rows ∧ rows.length + 1275 ≤ LIM ∧ m ∈ b.marks ∧
  Is rows one f ∧ Is rows other g ∧ Bp C b H rows 1275 (fun rows' r => Is rows' r (fun e => f (DB.up e m (g e)))) Q
def spMarkRoom (C : Addr) : Sp := fun vs H Q _ => ∃ (b : Bk) (rows : List Rw) (m : Str), vs = [.ref b.p, .str m] ∧ BkAt C b H rows ∧ rows.length + 1 ≤ LIM ∧ m ∈ b.marks ∧
  Bp C b H rows 1 (fun rows' r => Is rows' r (fun e => e m)) Q
theorem fx_is {marks : List Str} {rows : List Rw} {m : Str} {v : Bool} {a r : Nat} {f : (Str → Bool) → Bool} (h : Is rows a f) (j : DB.Fx m v marks rows a r) : Is rows r (fun e => f (DB.up e m v)) := ⟨j.lt, fun e => by rw [j.sem, h.2]⟩
section
variable {P : Program} {w : World} {K : PySem.W.Frag} {mg : Str → Option Value} {base : Heap} {C : Addr}
theorem d_joinI (T : Tx w K mg C) (A : HasM K C "join" "Book.join" sm_join) (d_level : Md P w K mg base C "level" 1 ["self", "number"] (spLevel C)) (d_goings : Md P w K mg base C "goings" 2 ["self", "number", "at"] (spGoings C))
    (d_decided : Md P w K mg base C "decided" 1 ["self", "at", "low", "high"] (spDecided C)) : Md P w K mg base C "join" 11 ["self", "table", "one", "other", "known"] (spJoinI C) := (d_joinN T A d_level d_goings d_decided).imp fun vs H Q E h => joinI h
theorem d_fixI (T : Tx w K mg C) (A : HasM K C "fix" "Book.fix" sm_fix) (d_level : Md P w K mg base C "level" 1 ["self", "number"] (spLevel C))
    (d_decided : Md P w K mg base C "decided" 1 ["self", "at", "low", "high"] (spDecided C)) : Md P w K mg base C "fix" 10 ["self", "one", "at", "value", "known"] (spFixI C) := (d_fixN T A d_level d_decided).imp fun vs H Q E h => fixI h
theorem d_held (T : Tx w K mg C) (A : Has K mg "held" sfheld) (d_ask_mark : Md P w K mg base C "ask_mark" 1 ["self", "mark"] (spAskMark C)) (d_ask_room : Md P w K mg base C "ask_room" 1 ["self", "number"] (spAskRoom C))
    (d_fix : Md P w K mg base C "fix" 10 ["self", "one", "at", "value", "known"] (spFixI C)) : Df P w K mg base "held" 11 ["book", "one", "mark", "value"] (spHeld C) := by
  refine Df.of A scfheld (fun vs H Q E h => ?_) (fun _ _ _ _ _ _ us hl => match us, hl with | [_, _, _, _], _ => rfl) (fun f cdv A outer s H vs Q E hr h => ?_)
  · obtain ⟨b, rows, one, m, v, rfl, _⟩ := h; rfl
  obtain ⟨b, rows, one, m, v, rfl, B, lim, h1, hm, k⟩ := h
  refine ⟨_, (pss_cons (ps_expr (pe_md d_ask_mark T.cl (hr.mono (by omega)) (pv 0) (pa_cons (pv 2) pa_nil)))
      (pss_cons (ps_expr (pe_md d_ask_room T.cl (hr.mono (by omega)) (pv 0) (pa_cons (pv 1) pa_nil)))
      (pss_cons (ps_if (pt_cmpR op_notIn_seq (pv 3) (pe_tup (pa_cons pe_int (pa_cons pe_int pa_nil))) (by rfl)) (pss_one ps_never) pss_nil)
      (pss_one (ps_ret (pe_md d_fix T.cl (hr.mono (by omega)) (pv 0) (pa_cons (pv 1) (pa_cons (pe_bm PySem.F.plainAttrs_list PySem.F.slot_list_index PySem.F.type_list_index mt_index (pe_fld (pv 0) rfl) (pa_cons (pv 2) pa_nil)) (pa_cons (pv 3) (pa_cons pe_dnewK pa_nil)))))))))), ?_⟩
  refine ⟨_, rfl, b.p, b.dx, _, rfl, B.ob, nmA _ _ (by decide +kernel), _, rfl, b, rows, m, rfl, B, hm, ?_⟩
  refine ⟨_, rfl, b.p, b.dx, _, rfl, B.ob, nmA _ _ (by decide +kernel), _, rfl, b, rows, one, rfl, B, h1, ?_⟩
  refine ⟨_, rfl, (by show 2 ≤ sizeLine; decide), fun p hp => ⟨p, _, rfl, .inr (SqT.of upd_same), rfl, rfl, _, rfl, ?_⟩⟩
  have e : inV (.int (bI v)) [.int 0, .int 1] = true := by cases v <;> rfl
  rw [e]
  refine iteF ?_
  have B1 := B.new hp (.tup [.int 0, .int 1])
  have s1 := Same.new hp (.tup [.int 0, .int 1])
  generalize upd H p (.tup [.int 0, .int 1]) = H1 at B1 s1 ⊢
  refine ⟨_, rfl, b.p, b.dx, _, rfl, B1.ob, nmA _ _ (by decide +kernel), _, rfl, _, rfl, b.p, C, b.dx, _, _, rfl, B1.ob, T.cl, T.nMarks, bf_marks _ _ _, .inl ⟨rfl, _, SqL.of B1.ml⟩, _, rfl, ?_⟩
  refine ⟨b.ml, _, .str m, b.marks.idxOf m, .str m, rfl, rfl, SqL.of B1.ml, rfl, flat_marks _, idx_marks hm, (by show (m == m) = true; simp), fun k z hk hz => idx_first k z hk hz, _, rfl, ?_⟩
  have hx : b.marks[b.marks.idxOf m]? = some m := by rw [List.getElem?_eq_getElem (List.idxOf_lt_length_of_mem hm), List.getElem_idxOf]
  exact fun q hq => ⟨b, rows, _, one, _, v, q, m, rfl, rfl, hq, B1, hx, h1, lim, fun r rows' H' g B' k2 l j => k r rows' H' g B' ((K2.of s1).trans k2) l j⟩
theorem d_for_some (T : Tx w K mg C) (A : Has K mg "for_some" sffor_some) (d_held : Df P w K mg base "held" 11 ["book", "one", "mark", "value"] (spHeld C)) (d_join : Md P w K mg base C "join" 11 ["self", "table", "one", "other", "known"] (spJoinI C)) : Df P w K mg base "for_some" 12 ["book", "mark", "one"] (spForSome C) := by
  refine Df.of A scffor_some (fun vs H Q E h => ?_) (fun _ _ _ _ _ _ us hl => match us, hl with | [_, _, _], _ => rfl) (fun f cdv A outer s H vs Q E hr h => ?_)
  · obtain ⟨b, rows, one, m, f, rfl, _⟩ := h; rfl
  obtain ⟨b, rows, one, m, f, rfl, B, lim, hm, h1, k⟩ := h
  refine ⟨_, (pss_one (ps_ret (pe_md d_join T.cl (hr.mono (by omega)) (pv 0) (pa_cons pe_str (pa_cons (pe_df d_held (hr.mono (by omega)) (pa_cons (pv 0) (pa_cons (pv 2) (pa_cons (pv 1) (pa_cons pe_int pa_nil))))) (pa_cons (pe_df d_held (hr.mono (by omega)) (pa_cons (pv 0) (pa_cons (pv 2) (pa_cons (pv 1) (pa_cons pe_int pa_nil))))) (pa_cons pe_dnewT pa_nil))))))), ?_⟩
  refine ⟨_, rfl, b.p, b.dx, _, rfl, B.ob, nmA _ _ (by decide +kernel), _, rfl, _, rfl, _, rfl, b, rows, one, m, false, rfl, B, by omega, h1.1, hm, fun r1 rows1 H1 g1 B1 k1 l1 j1 => ?_⟩
  have h1' := h1.up g1
  refine ⟨_, rfl, _, rfl, _, rfl, b, rows1, one, m, true, rfl, B1, by omega, h1'.1, hm, fun r2 rows2 H2 g2 B2 k2 l2 j2 => ?_⟩
  exact fun q hq => ⟨b, rows2, _, _, _, _, _, q, _, _, rfl, rfl, hq, B2, tab_or, (fx_is h1' j1).up g2, fx_is (h1'.up g2) j2, by omega, fun r rows' H' g B' k3 l j _ => k r rows' H' (g1.trans (g2.trans g)) B' (k1.trans (k2.trans k3)) (by omega) j⟩
theorem d_put (T : Tx w K mg C) (A : Has K mg "put" sfput) (d_ask_mark : Md P w K mg base C "ask_mark" 1 ["self", "mark"] (spAskMark C)) (d_ask_room : Md P w K mg base C "ask_room" 1 ["self", "number"] (spAskRoom C))
    (d_held : Df P w K mg base "held" 11 ["book", "one", "mark", "value"] (spHeld C)) (d_join : Md P w K mg base C "join" 11 ["self", "table", "one", "other", "known"] (spJoinI C)) : Df P w K mg base "put" 12 ["book", "one", "mark", "other"] (spPut C) := by
  refine Df.of A scfput (fun vs H Q E h => ?_) (fun _ _ _ _ _ _ us hl => match us, hl with | [_, _, _, _], _ => rfl) (fun f cdv A outer s H vs Q E hr h => ?_)
  · obtain ⟨b, rows, one, other, m, f, g, rfl, _⟩ := h; rfl
  obtain ⟨b, rows, one, other, m, f, g, rfl, B, lim, hm, h1, h2, k⟩ := h
  refine ⟨_, (pss_cons (ps_expr (pe_md d_ask_mark T.cl (hr.mono (by omega)) (pv 0) (pa_cons (pv 2) pa_nil)))
      (pss_cons (ps_expr (pe_md d_ask_room T.cl (hr.mono (by omega)) (pv 0) (pa_cons (pv 1) pa_nil)))
      (pss_cons (ps_expr (pe_md d_ask_room T.cl (hr.mono (by omega)) (pv 0) (pa_cons (pv 3) pa_nil)))
      (pss_cons (ps_set (i := 4) scfput.nd rfl (Or.inl rfl) (pe_md d_join T.cl (hr.mono (by omega)) (pv 0) (pa_cons pe_str (pa_cons (pv 3) (pa_cons (pe_df d_held (hr.mono (by omega)) (pa_cons (pv 0) (pa_cons (pv 1) (pa_cons (pv 2) (pa_cons pe_int pa_nil))))) (pa_cons pe_dnewT pa_nil))))))
      (pss_cons (ps_set (i := 5) scfput.nd rfl (Or.inl rfl) (pe_md d_join T.cl (hr.mono (by omega)) (pv 0) (pa_cons pe_str (pa_cons (pv 3) (pa_cons (pe_df d_held (hr.mono (by omega)) (pa_cons (pv 0) (pa_cons (pv 1) (pa_cons (pv 2) (pa_cons pe_int pa_nil))))) (pa_cons pe_dnewT pa_nil))))))
      (pss_one (ps_ret (pe_md d_join T.cl (hr.mono (by omega)) (pv 0) (pa_cons pe_str (pa_cons (pv 4) (pa_cons (pv 5) (pa_cons pe_dnewT pa_nil)))))))))))), ?_⟩
  refine ⟨_, rfl, b.p, b.dx, _, rfl, B.ob, nmA _ _ (by decide +kernel), _, rfl, b, rows, m, rfl, B, hm, ?_⟩
  refine ⟨_, rfl, b.p, b.dx, _, rfl, B.ob, nmA _ _ (by decide +kernel), _, rfl, b, rows, one, rfl, B, h1.1, ?_⟩
  refine ⟨_, rfl, b.p, b.dx, _, rfl, B.ob, nmA _ _ (by decide +kernel), _, rfl, b, rows, other, rfl, B, h2.1, ?_⟩
  -- yes
  refine ⟨_, rfl, b.p, b.dx, _, rfl, B.ob, nmA _ _ (by decide +kernel), _, rfl, _, rfl, _, rfl, _, rfl, b, rows, one, m, true, rfl, B, by omega, h1.1, hm, fun r1 rows1 H1 g1 B1 k1 l1 j1 => ?_⟩
  refine fun q hq => ⟨b, rows1, _, _, _, _, _, q, _, _, rfl, rfl, hq, B1, tab_and, h2.up g1, fx_is (h1.up g1) j1, by omega, fun r2 rows2 H2 g2 B2 k2 l2 j2 _ => ?_⟩
  -- no
  have h1' := (h1.up g1).up g2
  have h2' := (h2.up g1).up g2
  refine ⟨_, rfl, b.p, b.dx, _, rfl, B2.ob, nmA _ _ (by decide +kernel), _, rfl, _, rfl, _, rfl, _, rfl, b, rows2, one, m, false, rfl, B2, by omega, h1'.1, hm, fun r3 rows3 H3 g3 B3 k3 l3 j3 => ?_⟩
  refine fun q hq => ⟨b, rows3, _, _, _, _, _, q, _, _, rfl, rfl, hq, B3, tab_nand, h2'.up g3, fx_is (h1'.up g3) j3, by omega, fun r4 rows4 H4 g4 B4 k4 l4 j4 _ => ?_⟩
  refine ⟨_, rfl, b.p, b.dx, _, rfl, B4.ob, nmA _ _ (by decide +kernel), _, rfl, _, rfl, ?_⟩
  refine fun q hq => ⟨b, rows4, _, _, _, _, _, q, _, _, rfl, rfl, hq, B4, tab_or, (j2.up g3).up g4, j4, by omega, fun r rows' H' g5 B' k5 l5 j _ => ?_⟩
  refine k r rows' H' (g1.trans (g2.trans (g3.trans (g4.trans g5)))) B' (k1.trans (k2.trans (k3.trans (k4.trans k5)))) (by omega) ⟨j.1, fun e => ?_⟩
  rw [j.2]
  show (g e && f (DB.up e m true) || !g e && f (DB.up e m false)) = f (DB.up e m (g e))
  generalize g e = x
  cases x <;> simp
theorem d_mark_room (T : Tx w K mg C) (A : Has K mg "mark_room" sfmark_room) (d_decided : Md P w K mg base C "decided" 1 ["self", "at", "low", "high"] (spDecided C)) : Df P w K mg base "mark_room" 2 ["book", "mark"] (spMarkRoom C) := by
  refine Df.of A scfmark_room (fun vs H Q E h => ?_) (fun _ _ _ _ _ _ us hl => match us, hl with | [_, _], _ => rfl) (fun f cdv A outer s H vs Q E hr h => ?_)
  · obtain ⟨b, rows, m, rfl, _⟩ := h; rfl
  obtain ⟨b, rows, m, rfl, B, lim, hm, k⟩ := h
  refine ⟨_, (pss_one (ps_ret (pe_md d_decided T.cl (hr.mono (by omega)) (pv 0) (pa_cons (pe_bm PySem.F.plainAttrs_list PySem.F.slot_list_index PySem.F.type_list_index mt_index (pe_fld (pv 0) rfl) (pa_cons (pv 1) pa_nil)) (pa_cons pe_int (pa_cons pe_int pa_nil)))))), ?_⟩
  refine ⟨_, rfl, b.p, b.dx, _, rfl, B.ob, nmA _ _ (by decide +kernel), _, rfl, b.p, C, b.dx, _, _, rfl, B.ob, T.cl, T.nMarks, bf_marks _ _ _, .inl ⟨rfl, _, SqL.of B.ml⟩, _, rfl, ?_⟩
  refine ⟨b.ml, _, .str m, b.marks.idxOf m, .str m, rfl, rfl, SqL.of B.ml, rfl, flat_marks _, idx_marks hm, (by show (m == m) = true; simp), fun k z hk hz => idx_first k z hk hz, ?_⟩
  have hl := List.idxOf_lt_length_of_mem hm
  have hx : b.marks[b.marks.idxOf m]? = some m := by rw [List.getElem?_eq_getElem hl, List.getElem_idxOf]
  refine ⟨b, rows, b.marks.idxOf m, 0, 1, m, rfl, B, lim, hx, by omega, by omega, by rw [DB.lv_small (by omega)]; exact hl, by rw [DB.lv_small (by omega)]; exact hl, fun r rows' H' g B' k2 l d => ?_⟩
  refine k r rows' H' g B' k2 l ⟨d.lt, fun e => ?_⟩
  rw [d.sem, DB.ev_zero, DB.ev_one]
  show (if e m = true then true else false) = e m
  cases e m <;> rfl
end
end DW


set_option maxHeartbeats 4000000
/-! below, now_marks, then_of, ask_now. -/
namespace DW
open PySem PySem.Spec PyProof.Rows L2
theorem scm_below : FnScope ["self", "number", "found", "at", "there"] ["self", "number"] (defScope sm_below) := ⟨rfl, rfl, rfl, by decide +kernel, rfl, by decide +kernel, by decide +kernel⟩
theorem scfnow_marks : FnScope ["book", "mark"] ["book"] (defScope sfnow_marks) := ⟨rfl, rfl, rfl, by decide +kernel, rfl, by decide +kernel, by decide +kernel⟩
theorem scfthen_of : FnScope ["mark"] ["mark"] (defScope sfthen_of) := ⟨rfl, rfl, rfl, by decide +kernel, rfl, by decide +kernel, by decide +kernel⟩
theorem scfask_now : FnScope ["book", "rooms", "room", "number"] ["book", "rooms"] (defScope sfask_now) := ⟨rfl, rfl, rfl, by decide +kernel, rfl, by decide +kernel, by decide +kernel⟩
/-! ### the marks -/
def mS (i : Nat) : Str := ⟨#[97 + i]⟩
def thnOf (m : Str) : Str := ⟨#[m.cps.getD 0 0 + 4]⟩
theorem thn_mk (i : Nat) : thnOf (mS i) = mS (i + 4) := by
  show (⟨#[97 + i + 4]⟩ : Str) = ⟨#[97 + (i + 4)]⟩
  rw [Nat.add_assoc]
theorem mk_inj {i j : Nat} (h : mS i = mS j) : i = j := by
  have h := congrArg (fun s : Str => s.cps.toList) h
  have h : [97 + i] = [97 + j] := h
  have := (List.cons.inj h).1
  omega
def nowL (marks : List Str) : List Str := ([0, 1, 2, 3].map mS).filter fun m => decide (m ∈ marks)
def thnL (marks : List Str) : List Str := (nowL marks).map thnOf
structure WdS (marks : List Str) : Prop where
  sg : ∀ m ∈ marks, ∃ i, i < 8 ∧ m = mS i
  pair : ∀ i, i < 4 → (DW.mS i ∈ marks ↔ DW.mS (i + 4) ∈ marks)
  nd : marks.Nodup
theorem mem_nowL {marks : List Str} {m : Str} : m ∈ nowL marks ↔ ∃ i, i < 4 ∧ m = mS i ∧ m ∈ marks := by
  unfold nowL
  rw [List.mem_filter]
  constructor
  · rintro ⟨h, q⟩
    obtain ⟨i, hi, rfl⟩ := List.mem_map.mp h
    refine ⟨i, ?_, rfl, of_decide_eq_true q⟩
    simp only [List.mem_cons, List.not_mem_nil, or_false] at hi
    omega
  · rintro ⟨i, hi, rfl, q⟩
    refine ⟨List.mem_map.mpr ⟨i, ?_, rfl⟩, decide_eq_true q⟩
    simp only [List.mem_cons, List.not_mem_nil, or_false]
    omega
theorem nowL_few (marks : List Str) : (nowL marks).length ≤ 4 := by
  have := List.length_filter_le (fun m => decide (m ∈ marks)) ([0, 1, 2, 3].map mS)
  exact this
theorem nowL_nd (marks : List Str) : (nowL marks).Nodup := by
  unfold nowL
  refine List.Nodup.sublist List.filter_sublist ?_
  decide +kernel
theorem WdS.wd {marks : List Str} (W : WdS marks) : DB.Wd marks (nowL marks) (thnL marks) := by
  refine ⟨by simp [thnL], nowL_nd marks, ?_, fun m h1 h2 => ?_, fun m => ⟨fun h => ?_, fun h => ?_⟩⟩
  · unfold thnL
    refine List.pairwise_map.mpr ((nowL_nd marks).imp_of_mem fun {a b} ha hb hab h => hab ?_)
    obtain ⟨i, _, rfl, _⟩ := mem_nowL.mp ha
    obtain ⟨j, _, rfl, _⟩ := mem_nowL.mp hb
    rw [thn_mk, thn_mk] at h
    have := mk_inj h
    rw [show i = j by omega]
  · obtain ⟨i, hi, rfl, _⟩ := mem_nowL.mp h1
    obtain ⟨y, hy, e⟩ := List.mem_map.mp h2
    obtain ⟨j, hj, rfl, _⟩ := mem_nowL.mp hy
    rw [thn_mk] at e
    have := mk_inj e
    omega
  · obtain ⟨i, hi, rfl⟩ := W.sg m h
    by_cases c : i < 4
    · exact .inl (mem_nowL.mpr ⟨i, c, rfl, h⟩)
    · obtain ⟨j, rfl⟩ : ∃ j, i = j + 4 := ⟨i - 4, by omega⟩
      refine .inr (List.mem_map.mpr ⟨mS j, mem_nowL.mpr ⟨j, by omega, rfl, (W.pair j (by omega)).mpr h⟩, thn_mk j⟩)
  · rcases h with h | h
    · obtain ⟨i, _, _, q⟩ := mem_nowL.mp h; exact q
    · obtain ⟨y, hy, rfl⟩ := List.mem_map.mp h
      obtain ⟨j, hj, rfl, q⟩ := mem_nowL.mp hy
      rw [thn_mk]
      exact (WdS.pair W j hj).mp q
theorem thnL_at {marks : List Str} {i : Nat} {m : Str} (h : (nowL marks)[i]? = some m) : (thnL marks)[i]? = some (thnOf m) := by
  unfold thnL
  rw [List.getElem?_map, h]
  rfl
theorem thn_mem {marks : List Str} (W : WdS marks) {m : Str} (h : m ∈ nowL marks) : thnOf m ∈ marks := by
  rw [W.wd.mem]
  exact .inr (List.mem_map_of_mem h)
theorem now_mem {marks : List Str} {m : Str} (h : m ∈ nowL marks) : m ∈ marks := by
  obtain ⟨i, _, _, q⟩ := mem_nowL.mp h
  exact q
theorem now_occ : ∀ i : Fin 4, Builtin.Str.occurrences ("abcd" : Str) (mS i) 0 ("abcd" : Str).length 1 = [i.val] := by decide +kernel
theorem thn_occ : ∀ i : Fin 4, Builtin.Str.occurrences ("efgh" : Str) (mS (i + 4)) 0 ("efgh" : Str).length 1 = [i.val] := by decide +kernel
theorem now_at : ∀ i : Fin 4, atI ("abcd" : Str).cps.toList ((i.val : Nat) : Int) = some (97 + i.val) := by decide +kernel
theorem thn_at : ∀ i : Fin 4, atI ("efgh" : Str).cps.toList ((i.val : Nat) : Int) = some (97 + (i.val + 4)) := by decide +kernel
theorem now_in : ∀ i : Fin 8, decide (97 + i.val ∈ ("abcd" : Str).cps.toList) = decide (i.val < 4) := by decide +kernel
theorem thn_in : ∀ i : Fin 8, decide (97 + i.val ∈ ("efgh" : Str).cps.toList) = decide (4 ≤ i.val) := by decide +kernel
theorem abcd_len : ("abcd" : Str).length ≤ sizeLine := by decide +kernel
theorem efgh_len : ("efgh" : Str).length ≤ sizeLine := by decide +kernel
/-! ### promises -/
def spBelow (C : Addr) : Sp := fun vs H Q _ => ∃ (b : Bk) (rows : List Rw) (n : Nat), vs = [.ref b.p, .int (n : Nat)] ∧ BkAt C b H rows ∧ n < rows.length + 2 ∧ rows.length ≤ LIM ∧
  ∀ (p : Addr) (H' : Hp) (ks : List Nat), Same H H' → H p = none → H' p = some (.lst (ks.map fun k => V.int (k : Nat))) → (∀ k ∈ ks, k < rows.length + 2) → (∀ pr, DB.sup rows pr n = true → ∀ k ∈ ks, DB.sup rows pr k = true) → Q (.ref p) H'
def spNowMarks (C : Addr) : Sp := fun vs H Q _ => ∃ (b : Bk) (rows : List Rw), vs = [.ref b.p] ∧ BkAt C b H rows ∧ WdS b.marks ∧
  ∀ (p : Addr) (H' : Hp), Same H H' → H p = none → H' p = some (.lst ((nowL b.marks).map V.str)) → Q (.ref p) H'
def spThenOf : Sp := fun vs H Q _ => ∃ (i : Nat), vs = [.str (mS i)] ∧ i < 4 ∧ Q (.str (mS (i + 4))) H
def spAskNow (K : PySem.W.Frag) (C : Addr) : Sp := fun vs H Q _ => ∃ (b : Bk) (rows : List Rw) (a : Addr) (ns : List Nat), vs = [.ref b.p, .ref a] ∧ BkAt C b H rows ∧ WdS b.marks ∧ rows.length ≤ LIM ∧ SqL K H a (ns.map fun n => V.int (n : Nat)) ∧
  (∀ n ∈ ns, n < rows.length + 2 ∧ DB.sup rows (fun m => decide (m ∈ nowL b.marks)) n = true) ∧ ∀ H', Same H H' → Q .non H'
theorem inV_nat {k : Nat} {ks : List Nat} : inV (.int (k : Nat)) (ks.map fun n => V.int (n : Nat)) = decide (k ∈ ks) := by
  unfold inV
  rw [List.any_map]
  by_cases h : k ∈ ks
  · rw [decide_eq_true h, List.any_eq_true]
    exact ⟨k, h, by show ((k : Int) == (k : Int)) = true; simp⟩
  · rw [decide_eq_false h, List.any_eq_false]
    intro x hx e
    have e : ((x : Int) == (k : Int)) = true := e
    have e : (x : Int) = (k : Int) := by simpa using e
    exact h (by have : x = k := by omega
                exact this ▸ hx)
theorem flat_nats (ks : List Nat) : (ks.map fun n => V.int (n : Nat)).all flatV = true := by
  rw [List.all_map]
  exact List.all_eq_true.mpr fun _ _ => rfl
theorem map_nat_at {ks : List Nat} {i : Nat} {y : V} (h : (ks.map fun n => V.int (n : Nat))[i]? = some y) : ∃ k, ks[i]? = some k ∧ y = .int (k : Nat) := by
  rw [List.getElem?_map] at h
  obtain ⟨k, h1, h2⟩ := Option.map_eq_some_iff.mp h
  exact ⟨k, h1, h2.symm⟩
/-- a comprehension over a text's signs -/
theorem lc_str {z : Str} {g : TG} {tt : TT} {te : TE} {vs : List Nat} {σ : L2.St} {H1 : Hp} {D : Addr} {Qd : Hp → Prop} (Pv : Nat → Hp → Prop) (h0 : Pv 0 (upd H1 D (.lst [])))
    (hs : ∀ i c H, i < z.cps.size → z.cps[i]? = some c → Pv i H → g (.str ⟨#[c]⟩) (wipe σ vs) H fun σ2 H2 => wipe σ2 vs = wipe σ vs ∧ tt σ2 H2 fun b H3 =>
      if b = true then te σ2 H3 fun y H4 => ∃ acc, H4 D = some (.lst acc) ∧ acc.length < sizeLine ∧ Pv (i + 1) (upd H4 D (.lst (acc ++ [y]))) else Pv (i + 1) H3) (hd : ∀ H, Pv z.cps.size H → Qd H) :
    ∃ W : Nat → Nat → Hp → Prop, (∃ m, W 0 m (upd H1 D (.lst []))) ∧ ∀ i m H, W i m H →
      ((Its z).stop i H ∧ Qd H) ∨ ((Its z).go i H ∧ ∃ Nx : Hp → Prop, (∀ H', Nx H' → ∃ m', m' < m ∧ W (i + 1) m' H') ∧ ∀ x H', (Its z).yld i H x H' → g x (wipe σ vs) H' fun σ2 H2 => wipe σ2 vs = wipe σ vs ∧ tt σ2 H2 fun b H3 =>
        if b = true then te σ2 H3 fun y H4 => ∃ acc, H4 D = some (.lst acc) ∧ acc.length < sizeLine ∧ Nx (upd H4 D (.lst (acc ++ [y]))) else Nx H3) := by
  refine ⟨fun i m H => m + i = z.cps.size ∧ Pv i H, ⟨z.cps.size, by simp, h0⟩, ?_⟩
  rintro i m H ⟨hm, p⟩
  by_cases lt : i < z.cps.size
  · refine .inr ⟨lt, Pv (i + 1), fun H' p' => ⟨m - 1, by omega, by omega, p'⟩, fun x H' y => ?_⟩
    obtain ⟨e, c, hc, ex⟩ := y
    subst e ex
    exact hs i c _ lt hc p
  · have e : i = z.cps.size := by omega
    subst e
    exact .inl ⟨Nat.le_refl _, hd H p⟩
/-- numbers below n, each once -/
theorem nodup_le : ∀ {n : Nat} {ks : List Nat}, ks.Nodup → (∀ k ∈ ks, k < n) → ks.length ≤ n
  | 0, ks, _, h => by
    cases ks with
    | nil => exact Nat.le_refl _
    | cons a r => exact absurd (h a List.mem_cons_self) (Nat.not_lt_zero _)
  | n + 1, ks, nd, h => by
    have ih := nodup_le (n := n) (ks := ks.erase n) (nd.erase n) fun k hk => by
      have h1 := h k (List.mem_of_mem_erase hk)
      have h2 : k ≠ n := ((List.Nodup.mem_erase_iff nd).mp hk).1
      omega
    have := List.length_erase (a := n) (l := ks)
    split at this <;> omega
section
variable {P : Program} {w : World} {K : PySem.W.Frag} {mg : Str → Option Value} {base : Heap} {C : Addr}
theorem d_below (T : Tx w K mg C) (A : HasM K C "below" "Book.below" sm_below) (d_ask_room : Md P w K mg base C "ask_room" 1 ["self", "number"] (spAskRoom C)) : Md P w K mg base C "below" 2 ["self", "number"] (spBelow C) := by
  refine Md.of A scm_below (fun vs H Q E h => ?_) (fun _ _ _ _ _ _ us hl => match us, hl with | [_, _], _ => rfl) (fun f cdv A outer s H vs Q E hr h => ?_)
  · obtain ⟨b, rows, n, rfl, _⟩ := h; rfl
  obtain ⟨b, rows, n, rfl, B, hn, lim, k⟩ := h
  refine ⟨_, (pss_cons (ps_expr (pe_md d_ask_room T.cl (hr.mono (by omega)) (pv 0) (pa_cons (pv 1) pa_nil)))
      (pss_cons (ps_set (i := 2) scm_below.nd rfl (Or.inr rfl) (pe_lst (pa_cons (pv 1) pa_nil)))
      (pss_cons (ps_set (i := 3) scm_below.nd rfl (Or.inl rfl) pe_int)
      (pss_cons (ps_while PassesOwn.never (pt_cmpR op_lt (pv 3) (pe_callB call_len_seq (by rfl) T.len (by decide +kernel) (pa_cons (pv 2) pa_nil)) (nomark _)) (pss_cons (ps_if (pt_cmpR op_gt (pe_ix ix_list (pv 2) (pv 3) (fun _ _ => rfl)) pe_int (nomark _)) (pss_one (ps_expr (pe_bm PySem.F.plainAttrs_list PySem.F.slot_list_extend PySem.F.type_list_extend mt_extend (pv 2) (pa_cons (pe_lc (own := [("there", 4)]) (g := gName 4) rfl scm_below.nd (pi_tup (pe_slice sl_tup (pe_ix ix_list (pe_fld (pv 0) rfl) (pe_ix ix_list (pv 2) (pv 3) (fun _ _ => rfl)) (fun _ _ => rfl)) (po_some pe_int) po_none)) (blkOk_by (own := [("there", 4)]) (N := ["self", "number", "found", "at", "there"]) (sc := defScope sm_below) (by decide +kernel)) (fun _ _ _ _ _ => pg_name (i := 4) scm_below.nd rfl (Or.inl rfl)) (fun _ _ _ _ _ => (pts_one (pt_cmpR (op_notIn_seqK (K := K) rfl) (pv 4) (pv 2) (by rfl)))) (fun _ _ _ _ _ => (pv 4))) pa_nil)))) pss_nil)
      (pss_one (ps_set (i := 3) scm_below.nd rfl (Or.inl rfl) (pe_op op_add (pv 3) pe_int)))))
      (pss_one (ps_ret (pe_callB cr_sortedI (by rfl) T.sorted (by decide +kernel) (pa_cons (pv 2) pa_nil)))))))), ?_⟩
  refine ⟨_, rfl, b.p, b.dx, _, rfl, B.ob, nmA _ _ (by decide +kernel), _, rfl, b, rows, n, rfl, B, hn, ?_⟩
  refine ⟨_, rfl, (by show 1 ≤ sizeLine; decide), fun p hp => ?_⟩
  have s0 : Same H (upd H p (.lst [.int (n : Nat)])) := Same.new hp _
  have p0 : upd H p (.lst [.int (n : Nat)]) p = some (.lst ([n].map fun k => V.int (k : Nat))) := upd_same
  generalize upd H p (.lst [.int (n : Nat)]) = H0 at s0 p0 ⊢
  have big : ∀ {ks : List Nat}, ks.Nodup → (∀ k ∈ ks, k < rows.length + 2) → ks.length ≤ rows.length + 2 := fun nd h => nodup_le nd h
  refine ⟨fun m σ H' => ∃ (at_ : Nat) (ks : List Nat), σ = [some (.ref b.p), some (.int (n : Nat)), some (.ref p), some (.int (at_ : Nat)), none] ∧ Same H H' ∧ H' p = some (.lst (ks.map fun k => V.int (k : Nat))) ∧ ks.Nodup ∧
    (∀ k ∈ ks, k < rows.length + 2) ∧ (∀ pr, DB.sup rows pr n = true → ∀ k ∈ ks, DB.sup rows pr k = true) ∧ at_ ≤ ks.length ∧ m + at_ = rows.length + 2,
    ⟨rows.length + 2, 0, [n], rfl, s0, p0, by simp, by simpa using hn, by simp, by simp, rfl⟩, ?_⟩
  rintro m σ H1 ⟨at_, ks, rfl, s1, p1, nd, hk, hs, ha, hm⟩
  have hl := big nd hk
  refine ⟨_, rfl, _, rfl, p, _, rfl, .inl (SqL.of p1), _, _, rfl, rfl, _, rfl, ?_⟩
  rw [List.length_map]
  refine ite2 (fun c => ?_) (fun c => ?_)
  · have c' : at_ < ks.length := by have := of_decide_eq_true c; omega
    obtain ⟨x, hx⟩ : ∃ x, ks[at_]? = some x := ⟨ks[at_], List.getElem?_eq_getElem c'⟩
    have hxm := List.mem_of_getElem? hx
    have ax : atI (ks.map fun k => V.int (k : Nat)) ((at_ : Nat) : Int) = some (.int (x : Nat)) := atI_nat (by rw [List.getElem?_map, hx]; rfl)
    refine ⟨fun σ' H' => ∃ (ks : List Nat), σ' = [some (.ref b.p), some (.int (n : Nat)), some (.ref p), some (.int ((at_ + 1 : Nat) : Int)), none] ∧ Same H H' ∧ H' p = some (.lst (ks.map fun k => V.int (k : Nat))) ∧ ks.Nodup ∧
      (∀ k ∈ ks, k < rows.length + 2) ∧ (∀ pr, DB.sup rows pr n = true → ∀ k ∈ ks, DB.sup rows pr k = true) ∧ at_ + 1 ≤ ks.length, ?_, ?_⟩
    · rintro σ' H' ⟨ks', rfl, a1, a2, a3, a4, a5, a6⟩
      have := big a3 a4
      exact ⟨m - 1, by omega, at_ + 1, ks', rfl, a1, a2, a3, a4, a5, a6, by omega⟩
    refine ⟨_, rfl, _, rfl, p, _, _, _, rfl, rfl, SqL.of p1, ax, _, _, rfl, rfl, _, rfl, ?_⟩
    refine ite2 (fun d => ?_) (fun d => ?_)
    · have d' : 2 ≤ x := by have := of_decide_eq_true d; omega
      have B1 := B.mono s1
      obtain ⟨mm, lo, hi, e⟩ := DB.node_of d' (hk x hxm)
      obtain ⟨xs, t, r1, r2, r3⟩ := B1.room d' e
      have a1 := B.wf.llt _ _ _ _ e
      have a2 := B.wf.hlt _ _ _ _ e
      have a3 := B.wf.red _ _ _ _ e
      have a4 := (List.getElem?_eq_some_iff.mp e).1
      refine ⟨_, rfl, .inl ⟨rfl, _, SqL.of p1⟩, _, rfl, b.p, C, b.dx, _, _, rfl, B1.ob, T.cl, T.nRows, bf_rows _ _ _, _, rfl, _, rfl, p, _, _, _, rfl, rfl, SqL.of p1, ax, b.rl, xs, _, _, rfl, rfl, SqL.of r1, r2, _, rfl, t, _, rfl, SqT.of r3, (fun z => absurd (show (1 : Nat) = 0 from z.1) (by decide)), fun u hu => ?_⟩
      have su : Same H1 (upd H1 u (.tup [.int (lo : Nat), .int (hi : Nat)])) := Same.new hu _
      refine ⟨u, rfl, ⟨_, SqT.of upd_same⟩, fun D hD => ?_⟩
      have pu : upd H1 u (.tup [.int (lo : Nat), .int (hi : Nat)]) u = some (.tup [.int (lo : Nat), .int (hi : Nat)]) := upd_same
      show ∃ W : Nat → Nat → Hp → Prop, (∃ m, W 0 m (upd (upd H1 u (.tup [.int (lo : Nat), .int (hi : Nat)])) D (.lst []))) ∧ _
      have hD : upd H1 u (.tup [.int (lo : Nat), .int (hi : Nat)]) D = none := hD
      generalize upd H1 u (.tup [.int (lo : Nat), .int (hi : Nat)]) = H2 at su pu hD ⊢
      have p2 := su _ _ p1
      refine lc_tup (K := K) (a := u) (xs := [.int (lo : Nat), .int (hi : Nat)]) (fun i H' => Same H2 H' ∧ H' D = some (.lst ((([lo, hi].take i).filter fun z => !decide (z ∈ ks)).map fun k => V.int (k : Nat)))) ⟨Same.new hD _, upd_same⟩ (fun i H' _ h => SqT.of (h.1 _ _ pu)) ?_ ?_
      · rintro i y H3 hy ⟨s3, d3⟩
        obtain ⟨z, hz, rfl⟩ : ∃ z, [lo, hi][i]? = some z ∧ y = .int (z : Nat) := map_nat_at (ks := [lo, hi]) hy
        refine ⟨rfl, _, rfl, _, rfl, p, _, rfl, .inl (SqL.of (s3 _ _ p2)), rfl, flat_nats ks, _, rfl, ?_⟩
        have et : [lo, hi].take (i + 1) = [lo, hi].take i ++ [z] := DB.take_snoc hz
        rw [if_pos rfl, inV_nat, et, List.filter_append]
        cases q : decide (z ∈ ks) with
        | true =>
          refine iteF ⟨s3, ?_⟩
          rw [d3, List.filter_cons, q]
          simp
        | false =>
          refine iteT ⟨_, rfl, _, d3, ?_, ?_, ?_⟩
          · have := List.length_filter_le (fun z => !decide (z ∈ ks)) ([lo, hi].take i)
            have h2 : ([lo, hi].take i).length ≤ 2 := List.length_take_le' i [lo, hi]
            rw [List.length_map]
            exact small1000 (by omega)
          · intro a o hao
            rw [upd_ne (ne_of_none hao hD)]
            exact s3 a o hao
          · rw [upd_same, List.filter_cons, q]
            simp
      · rintro H3 ⟨s3, d3⟩
        have d3 : H3 D = some (.lst (([lo, hi].filter fun z => !decide (z ∈ ks)).map fun k => V.int (k : Nat))) := d3
        have p3 := s3 _ _ p2
        have fl := List.length_filter_le (fun z => !decide (z ∈ ks)) [lo, hi]
        have fl : ([lo, hi].filter fun z => !decide (z ∈ ks)).length ≤ 2 := fl
        have hx : H p = none := hp
        refine ⟨p, D, _, _, rfl, rfl, p3, d3, ?_, ?_⟩
        · rw [List.length_map, List.length_map]
          have := lim_lt lim
          have : (2 : Nat) ^ 20 ≤ sizeLine := by decide
          unfold LIM at lim
          rw [sizeLine_eq]
          omega
        refine ⟨_, rfl, _, _, rfl, rfl, ks ++ [lo, hi].filter (fun z => !decide (z ∈ ks)), rfl, fun a o hao => ?_, by rw [upd_same, List.map_append], ?_, ?_, ?_, by simp; omega⟩
        · rw [upd_ne (ne_of_none hao hx)]
          exact s3 _ _ (su _ _ (s1 a o hao))
        · refine List.nodup_append.mpr ⟨nd, ?_, fun a ha b hb hab => ?_⟩
          · refine List.Nodup.sublist List.filter_sublist ?_
            simp [a3]
          · have := (List.mem_filter.mp hb).2
            rw [← hab, decide_eq_true ha] at this
            cases this
        · intro z hz
          rcases List.mem_append.mp hz with hz | hz
          · exact hk z hz
          · have := (List.mem_filter.mp hz).1
            simp at this
            omega
        · intro pr hpr z hz
          rcases List.mem_append.mp hz with hz | hz
          · exact hs pr hpr z hz
          · have hz := (List.mem_filter.mp hz).1
            have sx := hs pr hpr x hxm
            rw [DB.sup_node B.wf d' e, Bool.and_eq_true, Bool.and_eq_true] at sx
            simp at hz
            rcases hz with rfl | rfl
            · exact sx.1.2
            · exact sx.2
    · refine ⟨_, rfl, _, _, rfl, rfl, ks, rfl, s1, p1, nd, hk, hs, by omega⟩
  · refine ⟨_, rfl, p, ks.map fun k => ((k : Nat) : Int), rfl, ?_, fun ns' p' perm _ hp' => ?_⟩
    · rw [List.map_map]; exact SqL.of p1
    · have each : ∀ x ∈ ns', ∃ y ∈ ks, x = ((y : Nat) : Int) := fun x hx => by
        obtain ⟨y, hy, e⟩ := List.mem_map.mp (perm.mem_iff.mp hx)
        exact ⟨y, hy, e.symm⟩
      have e1 : ns'.map V.int = (ns'.map Int.toNat).map fun k => V.int (k : Nat) := by
        rw [List.map_map]
        refine List.map_congr_left fun x hx => ?_
        obtain ⟨y, _, rfl⟩ := each x hx
        rfl
      have mem : ∀ z ∈ ns'.map Int.toNat, z ∈ ks := fun z hz => by
        obtain ⟨x, hx, rfl⟩ := List.mem_map.mp hz
        obtain ⟨y, hy, rfl⟩ := each x hx
        exact hy
      refine k p' _ (ns'.map Int.toNat) (fun a o hao => ?_) ?_ (by rw [upd_same, e1]) (fun z hz => hk z (mem z hz)) fun pr hpr z hz => hs pr hpr z (mem z hz)
      · have := s1 a o hao
        rw [upd_ne (ne_of_none this hp')]
        exact this
      · cases q : H p' with
        | none => rfl
        | some o => rw [s1 _ _ q] at hp'; cases hp'
end
end DW


set_option maxHeartbeats 4000000
/-! now_marks, then_of, ask_now. -/
namespace DW
open PySem PySem.Spec PyProof.Rows L2
section
variable {P : Program} {w : World} {K : PySem.W.Frag} {mg : Str → Option Value} {base : Heap} {C : Addr}
theorem d_then_of (T : Tx w K mg C) (A : Has K mg "then_of" sfthen_of) : Df P w K mg base "then_of" 1 ["mark"] spThenOf := by
  refine Df.of A scfthen_of (fun vs H Q E h => ?_) (fun _ _ _ _ _ _ us hl => match us, hl with | [_], _ => rfl) (fun f cdv A outer s H vs Q E hr h => ?_)
  · obtain ⟨i, rfl, _⟩ := h; rfl
  obtain ⟨i, rfl, hi, k⟩ := h
  refine ⟨_, (pss_one (ps_ret (pe_ix ix_str (pe_gl T.THEN) (pe_bm PySem.F.plainAttrs_str PySem.F.slot_str_index PySem.F.type_str_index mt_sindex (pe_gl T.NOW) (pa_cons (pv 0) pa_nil)) (fun _ _ => rfl)))), ?_⟩
  exact ⟨rfl, _, rfl, _, _, i, [], rfl, rfl, now_occ ⟨i, hi⟩, _, _, _, rfl, rfl, efgh_len, thn_at ⟨i, hi⟩, k⟩
theorem d_now_marks (T : Tx w K mg C) (A : Has K mg "now_marks" sfnow_marks) : Df P w K mg base "now_marks" 1 ["book"] (spNowMarks C) := by
  refine Df.of A scfnow_marks (fun vs H Q E h => ?_) (fun _ _ _ _ _ _ us hl => match us, hl with | [_], _ => rfl) (fun f cdv A outer s H vs Q E hr h => ?_)
  · obtain ⟨b, rows, rfl, _⟩ := h; rfl
  obtain ⟨b, rows, rfl, B, W, k⟩ := h
  refine ⟨_, (pss_cons (ps_for PassesOwn.never rfl (pi_list (pe_fld (pv 0) rfl)) (pg_name (i := 1) scfnow_marks.nd rfl (Or.inl rfl)) (pss_cons (ps_if (PW.pt (pw_and (pt_cmpR op_in_sign (pv 1) (pe_gl T.NOW) (by rfl)) (pw_and1 (pt_cmpR op_notIn_seq (pe_ix ix_str (pe_gl T.THEN) (pe_bm PySem.F.plainAttrs_str PySem.F.slot_str_index PySem.F.type_str_index mt_sindex (pe_gl T.NOW) (pa_cons (pv 1) pa_nil)) (fun _ _ => rfl)) (pe_fld (pv 0) rfl) (by rfl))))) (pss_one ps_never) pss_nil)
      (pss_one (ps_if (PW.pt (pw_and (pt_cmpR op_in_sign (pv 1) (pe_gl T.THEN) (by rfl)) (pw_and1 (pt_cmpR op_notIn_seq (pe_ix ix_str (pe_gl T.NOW) (pe_bm PySem.F.plainAttrs_str PySem.F.slot_str_index PySem.F.type_str_index mt_sindex (pe_gl T.THEN) (pa_cons (pv 1) pa_nil)) (fun _ _ => rfl)) (pe_fld (pv 0) rfl) (by rfl))))) (pss_one ps_never) pss_nil))))
      (pss_one (ps_ret (pe_lc (own := [("mark", 1)]) (g := gName 1) rfl scfnow_marks.nd (pi_str (pe_gl T.NOW)) (blkOk_by (own := [("mark", 1)]) (N := ["book", "mark"]) (sc := defScope sfnow_marks) (by decide +kernel)) (fun _ _ _ _ _ => pg_name (i := 1) scfnow_marks.nd rfl (Or.inl rfl)) (fun _ _ _ _ _ => (pts_one (pt_cmpR (op_in_seqK (K := K) rfl) (pv 1) (pe_fldK (K := K) rfl (pv 0) rfl) (by rfl)))) (fun _ _ _ _ _ => (pv 1)))))), ?_⟩
  refine ⟨_, rfl, b.p, C, b.dx, _, _, rfl, B.ob, T.cl, T.nMarks, bf_marks _ _ _, b.ml, rfl, ⟨_, SqL.of B.ml⟩, for_list (K := K) (a := b.ml) (xs := b.marks.map V.str) (fun i σ H' => ∃ v, σ = [some (.ref b.p), v] ∧ H' = H) ⟨none, rfl, rfl⟩ (fun i σ H' _ ⟨_, _, e⟩ => e ▸ SqL.of B.ml) ?_ ?_⟩
  · rintro i y σ H' hy ⟨v, rfl, rfl⟩
    rw [List.getElem?_map] at hy
    obtain ⟨m, hm, rfl⟩ := Option.map_eq_some_iff.mp hy
    have hmm := List.mem_of_getElem? hm
    obtain ⟨j, hj, rfl⟩ := W.sg m hmm
    -- a mark of now: its mark of then is there
    refine ⟨_, rfl, 97 + j, _, rfl, rfl, _, rfl, ?_⟩
    rw [now_in ⟨j, hj⟩]
    by_cases c : j < 4
    · rw [decide_eq_true (show (⟨j, hj⟩ : Fin 8).val < 4 from c)]
      refine iteT ⟨rfl, _, rfl, _, _, j, [], rfl, rfl, now_occ ⟨j, c⟩, _, _, _, rfl, rfl, efgh_len, thn_at ⟨j, c⟩, _, rfl, b.p, C, b.dx, _, _, rfl, B.ob, T.cl, T.nMarks, bf_marks _ _ _, b.ml, _, rfl, .inl (SqL.of B.ml), rfl, flat_marks _, _, rfl, ?_⟩
      have e : inV (.str (mS (j + 4))) (b.marks.map V.str) = true := inV_marks ((W.pair j c).mp hmm)
      have e : inV (.str ⟨#[97 + (j + 4)]⟩) (b.marks.map V.str) = true := e
      rw [e]
      refine iteF ?_
      refine ⟨_, rfl, 97 + j, _, rfl, rfl, _, rfl, ?_⟩
      rw [thn_in ⟨j, hj⟩, decide_eq_false (show ¬ 4 ≤ (⟨j, hj⟩ : Fin 8).val from by show ¬ 4 ≤ j; omega)]
      exact iteF (iteF ⟨_, rfl, rfl⟩)
    · rw [decide_eq_false (show ¬ (⟨j, hj⟩ : Fin 8).val < 4 from c)]
      refine iteF (iteF ?_)
      obtain ⟨l, rfl⟩ : ∃ l, j = l + 4 := ⟨j - 4, by omega⟩
      have hl : l < 4 := by omega
      refine ⟨_, rfl, 97 + (l + 4), _, rfl, rfl, _, rfl, ?_⟩
      rw [thn_in ⟨l + 4, hj⟩, decide_eq_true (show 4 ≤ (⟨l + 4, hj⟩ : Fin 8).val from by show 4 ≤ l + 4; omega)]
      refine iteT ⟨rfl, _, rfl, _, _, l, [], rfl, rfl, thn_occ ⟨l, hl⟩, _, _, _, rfl, rfl, abcd_len, now_at ⟨l, hl⟩, _, rfl, b.p, C, b.dx, _, _, rfl, B.ob, T.cl, T.nMarks, bf_marks _ _ _, b.ml, _, rfl, .inl (SqL.of B.ml), rfl, flat_marks _, _, rfl, ?_⟩
      have e : inV (.str (mS l)) (b.marks.map V.str) = true := inV_marks ((W.pair l hl).mpr hmm)
      have e : inV (.str ⟨#[97 + l]⟩) (b.marks.map V.str) = true := e
      rw [e]
      exact iteF ⟨_, rfl, rfl⟩
  · rintro σ H' ⟨v, rfl, rfl⟩
    refine ⟨_, rfl, fun D hD => ?_⟩
    refine lc_str (fun i H1 => Same H' H1 ∧ H1 D = some (.lst (((([0, 1, 2, 3].map mS).take i).filter fun m => decide (m ∈ b.marks)).map V.str))) ⟨Same.new hD _, upd_same⟩ ?_ ?_
    · rintro i c H1 hi hc ⟨s1, d1⟩
      have h4 : i < 4 := hi
      have ec : c = 97 + i := by
        have := now_at ⟨i, h4⟩
        obtain ⟨j, hj, hv, _⟩ := atI_get this
        rcases (by omega : i = 0 ∨ i = 1 ∨ i = 2 ∨ i = 3) with rfl | rfl | rfl | rfl <;> (have := hc.symm; cases this; rfl)
      subst ec
      have B1 := B.mono s1
      refine ⟨rfl, _, rfl, _, rfl, b.p, C, b.dx, _, _, rfl, B1.ob, T.cl, T.nMarks, bf_marks _ _ _, b.ml, _, rfl, .inl (SqL.of B1.ml), rfl, flat_marks _, _, rfl, ?_⟩
      have ei : inV (.str ⟨#[97 + i]⟩) (b.marks.map V.str) = decide (mS i ∈ b.marks) := inV_marks_iff (m := mS i)
      have et : ([0, 1, 2, 3].map mS).take (i + 1) = ([0, 1, 2, 3].map mS).take i ++ [mS i] := by
        refine DB.take_snoc ?_
        rw [List.getElem?_map]
        rcases (by omega : i = 0 ∨ i = 1 ∨ i = 2 ∨ i = 3) with rfl | rfl | rfl | rfl <;> rfl
      rw [if_neg (by decide), ei, et, List.filter_append]
      cases q : decide (mS i ∈ b.marks) with
      | false =>
        refine iteF ⟨s1, ?_⟩
        rw [d1, List.filter_cons, q]
        simp
      | true =>
        refine iteT ⟨_, rfl, _, d1, ?_, ?_, ?_⟩
        · have h1 := List.length_filter_le (fun m => decide (m ∈ b.marks)) (([0, 1, 2, 3].map mS).take i)
          have h2 : (([0, 1, 2, 3].map mS).take i).length ≤ 4 := List.length_take_le' i _
          rw [List.length_map]
          exact small1000 (by omega)
        · intro a o hao
          rw [upd_ne (ne_of_none hao hD)]
          exact s1 a o hao
        · rw [upd_same, List.filter_cons, q]
          simp
          rfl
    · rintro H1 ⟨s1, d1⟩
      exact k D H1 s1 hD d1
theorem d_ask_now (T : Tx w K mg C) (A : Has K mg "ask_now" sfask_now) (d_ask_room : Md P w K mg base C "ask_room" 1 ["self", "number"] (spAskRoom C)) (d_below : Md P w K mg base C "below" 2 ["self", "number"] (spBelow C)) : Df P w K mg base "ask_now" 3 ["book", "rooms"] (spAskNow K C) := by
  refine Df.of A scfask_now (fun vs H Q E h => ?_) (fun _ _ _ _ _ _ us hl => match us, hl with | [_, _], _ => rfl) (fun f cdv A outer s H vs Q E hr h => ?_)
  · obtain ⟨b, rows, a, ns, rfl, _⟩ := h; rfl
  obtain ⟨b, rows, a, ns, rfl, B, W, lim, hS, hns, k⟩ := h
  refine ⟨_, (pss_cons (ps_for PassesOwn.never rfl (pi_list (pv 1)) (pg_name (i := 2) scfask_now.nd rfl (Or.inl rfl)) (pss_one (ps_expr (pe_md d_ask_room T.cl (hr.mono (by omega)) (pv 0) (pa_cons (pv 2) pa_nil)))))
      (pss_one (ps_for PassesOwn.never rfl (pi_list (pv 1)) (pg_name (i := 2) scfask_now.nd rfl (Or.inl rfl)) (pss_one (ps_for PassesOwn.never rfl (pi_list (pe_md d_below T.cl (hr.mono (by omega)) (pv 0) (pa_cons (pv 2) pa_nil))) (pg_name (i := 3) scfask_now.nd rfl (Or.inl rfl)) (pss_one (ps_if (PW.pt (pw_and (pt_cmpR op_gt (pv 3) pe_int (nomark _)) (pw_and1 (pt_cmpR op_in_sign (pe_ix ix_tup (pe_ix ix_list (pe_fld (pv 0) rfl) (pv 3) (fun _ _ => rfl)) pe_int (fun _ _ => rfl)) (pe_gl T.THEN) (by rfl))))) (pss_one ps_never) pss_nil))))))), ?_⟩
  refine ⟨_, rfl, a, rfl, ⟨_, hS⟩, for_list (K := K) (a := a) (xs := ns.map fun n => V.int (n : Nat)) (fun i σ H' => ∃ v, σ = [some (.ref b.p), some (.ref a), v, none] ∧ H' = H) ⟨none, rfl, rfl⟩ (fun i σ H' _ ⟨_, _, e⟩ => e ▸ hS) ?_ ?_⟩
  · rintro i y σ H' hy ⟨v, rfl, rfl⟩
    obtain ⟨n, hn, rfl⟩ := map_nat_at hy
    exact ⟨_, rfl, b.p, b.dx, _, rfl, B.ob, nmA _ _ (by decide +kernel), _, rfl, b, rows, n, rfl, B, (hns n (List.mem_of_getElem? hn)).1, _, rfl, rfl⟩
  · rintro σ H' ⟨v, rfl, rfl⟩
    refine ⟨_, rfl, a, rfl, ⟨_, hS⟩, for_list (K := K) (a := a) (xs := ns.map fun n => V.int (n : Nat)) (fun i σ H1 => ∃ v u, σ = [some (.ref b.p), some (.ref a), v, u] ∧ Same H' H1) ⟨_, _, rfl, Same.refl _⟩ (fun i σ H1 _ ⟨_, _, _, e⟩ => e.seq hS) ?_ ?_⟩
    · rintro i y σ H1 hy ⟨v, u, rfl, s1⟩
      obtain ⟨n, hn, rfl⟩ := map_nat_at hy
      obtain ⟨n1, n2⟩ := hns n (List.mem_of_getElem? hn)
      have B1 := B.mono s1
      refine ⟨_, rfl, b.p, b.dx, _, rfl, B1.ob, nmA _ _ (by decide +kernel), _, rfl, b, rows, n, rfl, B1, n1, lim, fun p H2 ks s2 hp p2 hk hs => ?_⟩
      have hs := hs _ n2
      refine ⟨p, rfl, ⟨_, SqL.of p2⟩, for_list (K := K) (a := p) (xs := ks.map fun n => V.int (n : Nat)) (fun i σ H3 => ∃ u, σ = [some (.ref b.p), some (.ref a), some (.int (n : Nat)), u] ∧ H3 = H2) ⟨_, rfl, rfl⟩ (fun i σ H3 _ ⟨_, _, e⟩ => e ▸ SqL.of p2) ?_ ?_⟩
      · rintro i' y' σ' H3 hy' ⟨u', rfl, rfl⟩
        obtain ⟨x, hx, rfl⟩ := map_nat_at hy'
        have hxm := List.mem_of_getElem? hx
        have B3 := B1.mono s2
        refine ⟨_, rfl, _, _, rfl, rfl, _, rfl, ?_⟩
        refine ite2 (fun c => ?_) (fun c => ?_)
        · have c' : 2 ≤ x := by have := of_decide_eq_true c; omega
          obtain ⟨m, lo, hi, e⟩ := DB.node_of c' (hk x hxm)
          obtain ⟨xs, t, r1, r2, r3⟩ := B3.room c' e
          have sx := hs x hxm
          rw [DB.sup_node B.wf c' e, Bool.and_eq_true, Bool.and_eq_true] at sx
          obtain ⟨j, hj, rfl, _⟩ := mem_nowL.mp (of_decide_eq_true sx.1.1)
          refine ⟨_, rfl, b.p, C, b.dx, _, _, rfl, B3.ob, T.cl, T.nRows, bf_rows _ _ _, _, rfl, b.rl, xs, _, _, rfl, rfl, SqL.of r1, r2, t, _, _, _, rfl, rfl, SqT.of r3, rfl, 97 + j, _, rfl, rfl, _, rfl, ?_⟩
          rw [thn_in ⟨j, by omega⟩, decide_eq_false (show ¬ 4 ≤ (⟨j, by omega⟩ : Fin 8).val from by show ¬ 4 ≤ j; omega)]
          exact iteF ⟨_, rfl, rfl⟩
        · exact iteF ⟨_, rfl, rfl⟩
      · rintro σ' H3 ⟨u', rfl, rfl⟩
        exact ⟨_, _, rfl, s1.trans s2⟩
    · rintro σ H1 ⟨v, u, rfl, s1⟩
      exact k H1 s1
end
end DW


set_option maxHeartbeats 4000000
/-! as_then, as_now, steps_from, steps_to, row_room, first_row. -/
namespace DW
open PySem PySem.Spec PyProof.Rows L2
theorem scfas_then : FnScope ["book", "room", "mark"] ["book", "room"] (defScope sfas_then) := ⟨rfl, rfl, rfl, by decide +kernel, rfl, by decide +kernel, by decide +kernel⟩
theorem scfas_now : FnScope ["book", "room", "mark"] ["book", "room"] (defScope sfas_now) := ⟨rfl, rfl, rfl, by decide +kernel, rfl, by decide +kernel, by decide +kernel⟩
theorem scfsteps_from : FnScope ["book", "steps", "room", "found", "mark"] ["book", "steps", "room"] (defScope sfsteps_from) := ⟨rfl, rfl, rfl, by decide +kernel, rfl, by decide +kernel, by decide +kernel⟩
theorem scfsteps_to : FnScope ["book", "steps", "room", "found", "mark"] ["book", "steps", "room"] (defScope sfsteps_to) := ⟨rfl, rfl, rfl, by decide +kernel, rfl, by decide +kernel, by decide +kernel⟩
theorem scfrow_room : FnScope ["book", "row", "found", "mark", "value"] ["book", "row"] (defScope sfrow_room) := ⟨rfl, rfl, rfl, by decide +kernel, rfl, by decide +kernel, by decide +kernel⟩
theorem scffirst_row : FnScope ["book", "room", "row", "mark", "there", "value"] ["book", "room"] (defScope sffirst_row) := ⟨rfl, rfl, rfl, by decide +kernel, rfl, by decide +kernel, by decide +kernel⟩
theorem Is.congr {rows : List Rw} {r : Nat} {f g : (Str → Bool) → Bool} (h : Is rows r f) (e : ∀ x, f x = g x) : Is rows r g := ⟨h.1, fun x => (h.2 x).trans (e x)⟩
theorem K2.lst {b : Bk} {C : Addr} {H H' : Hp} {rows : List Rw} (k : K2 b.rl b.pl H H') (B : BkAt C b H rows) {a : Addr} {xs : List V} (h : H a = some (.lst xs)) (n : a ≠ b.rl) : H' a = some (.lst xs) :=
  k a _ h n (ne_of h B.pl (by intro z; cases z))
theorem now_at' {marks : List Str} {i : Nat} {y : V} (h : ((nowL marks).map V.str)[i]? = some y) : ∃ j, j < 4 ∧ y = .str (mS j) ∧ (nowL marks)[i]? = some (mS j) ∧ mS j ∈ marks ∧ i < (nowL marks).length := by
  rw [List.getElem?_map] at h
  obtain ⟨m, h1, rfl⟩ := Option.map_eq_some_iff.mp h
  obtain ⟨j, hj, rfl, q⟩ := mem_nowL.mp (List.mem_of_getElem? h1)
  exact ⟨j, hj, rfl, h1, q, (List.getElem?_eq_some_iff.mp h1).1⟩
abbrev nw (b : Bk) (e : Str → Bool) : List Bool := (nowL b.marks).map e
abbrev tn (b : Bk) (e : Str → Bool) : List Bool := (thnL b.marks).map e
abbrev nm (b : Bk) : Nat := (nowL b.marks).length
def prm (m : Nat) (E : DB.Ro → DB.Ro → Bool) (f : DB.Ro → Bool) : DB.Ro → Bool := fun x => (DB.allR m).any fun y => E x y && f y
def rowB (r : List Bool) : List V := r.map fun v => V.int (bI v)
def spAsThen (C : Addr) : Sp := fun vs H Q _ => ∃ (b : Bk) (rows : List Rw) (n : Nat) (f : DB.Ro → Bool), vs = [.ref b.p, .int (n : Nat)] ∧ BkAt C b H rows ∧ WdS b.marks ∧ rows.length + 5104 ≤ LIM ∧ Is rows n (fun e => f (nw b e)) ∧
  Bp C b H rows 5104 (fun rows' r => Is rows' r (fun e => f (tn b e))) Q
def spAsNow (C : Addr) : Sp := fun vs H Q _ => ∃ (b : Bk) (rows : List Rw) (n : Nat) (f : DB.Ro → Bool), vs = [.ref b.p, .int (n : Nat)] ∧ BkAt C b H rows ∧ WdS b.marks ∧ rows.length + 5104 ≤ LIM ∧ Is rows n (fun e => f (tn b e)) ∧
  Bp C b H rows 5104 (fun rows' r => Is rows' r (fun e => f (nw b e))) Q
def spStepsFrom (C : Addr) : Sp := fun vs H Q _ => ∃ (b : Bk) (rows : List Rw) (st n : Nat) (E : DB.Ro → DB.Ro → Bool) (f : DB.Ro → Bool), vs = [.ref b.p, .int (st : Nat), .int (n : Nat)] ∧ BkAt C b H rows ∧ WdS b.marks ∧ rows.length + 8419 ≤ LIM ∧
  Is rows st (fun e => E (nw b e) (tn b e)) ∧ Is rows n (fun e => f (nw b e)) ∧ Bp C b H rows 8419 (fun rows' r => Is rows' r (fun e => DB.img (nm b) E f (nw b e))) Q
def spStepsTo (C : Addr) : Sp := fun vs H Q _ => ∃ (b : Bk) (rows : List Rw) (st n : Nat) (E : DB.Ro → DB.Ro → Bool) (f : DB.Ro → Bool), vs = [.ref b.p, .int (st : Nat), .int (n : Nat)] ∧ BkAt C b H rows ∧ WdS b.marks ∧ rows.length + 8419 ≤ LIM ∧
  Is rows st (fun e => E (nw b e) (tn b e)) ∧ Is rows n (fun e => f (nw b e)) ∧ Bp C b H rows 8419 (fun rows' r => Is rows' r (fun e => prm (nm b) E f (nw b e))) Q
def spRowRoom (C : Addr) : Sp := fun vs H Q _ => ∃ (b : Bk) (rows : List Rw) (a : Addr) (r : List Bool), vs = [.ref b.p, .ref a] ∧ BkAt C b H rows ∧ WdS b.marks ∧ rows.length + 1024 ≤ LIM ∧ H a = some (.lst (rowB r)) ∧ a ≠ b.rl ∧ r.length = nm b ∧
  Bp C b H rows 1024 (fun rows' n => Is rows' n (fun e => decide (nw b e = r))) Q
def spFirstRow (C : Addr) : Sp := fun vs H Q _ => ∃ (b : Bk) (rows : List Rw) (n : Nat) (f : DB.Ro → Bool), vs = [.ref b.p, .int (n : Nat)] ∧ BkAt C b H rows ∧ WdS b.marks ∧ rows.length + 2040 ≤ LIM ∧ Is rows n (fun e => f (nw b e)) ∧
  ∀ (p : Addr) (rows' : List Rw) (H' : Hp), DB.Grow b.marks rows rows' → BkAt C b H' rows' → K2 b.rl b.pl H H' → rows'.length ≤ rows.length + 2040 → H p = none → H' p = some (.lst (rowB (DB.gre (nm b) f))) → Q (.ref p) H'
section
variable {P : Program} {w : World} {K : PySem.W.Frag} {mg : Str → Option Value} {base : Heap} {C : Addr}
theorem d_as_then (T : Tx w K mg C) (A : Has K mg "as_then" sfas_then) (d_now_marks : Df P w K mg base "now_marks" 1 ["book"] (spNowMarks C)) (d_then_of : Df P w K mg base "then_of" 1 ["mark"] spThenOf)
    (d_mark_room : Df P w K mg base "mark_room" 2 ["book", "mark"] (spMarkRoom C)) (d_put : Df P w K mg base "put" 12 ["book", "one", "mark", "other"] (spPut C)) : Df P w K mg base "as_then" 13 ["book", "room"] (spAsThen C) := by
  refine Df.of A scfas_then (fun vs H Q E h => ?_) (fun _ _ _ _ _ _ us hl => match us, hl with | [_, _], _ => rfl) (fun f cdv A outer s H vs Q E hr h => ?_)
  · obtain ⟨b, rows, n, f, rfl, _⟩ := h; rfl
  obtain ⟨b, rows, n, f, rfl, B, W, lim, hn, k⟩ := h
  refine ⟨_, (pss_cons (ps_for PassesOwn.never rfl (pi_list (pe_df d_now_marks (hr.mono (by omega)) (pa_cons (pv 0) pa_nil))) (pg_name (i := 2) scfas_then.nd rfl (Or.inl rfl)) (pss_one (ps_set (i := 1) scfas_then.nd rfl (Or.inl rfl) (pe_df d_put (hr.mono (by omega)) (pa_cons (pv 0) (pa_cons (pv 1) (pa_cons (pv 2) (pa_cons (pe_df d_mark_room (hr.mono (by omega)) (pa_cons (pv 0) (pa_cons (pe_df d_then_of (hr.mono (by omega)) (pa_cons (pv 2) pa_nil)) pa_nil))) pa_nil))))))))
      (pss_one (ps_ret (pv 1)))), ?_⟩
  have D := W.wd
  have few := nowL_few b.marks
  refine ⟨_, rfl, b, rows, rfl, B, W, fun p H1 s1 hp p1 => ?_⟩
  have B1 := B.mono s1
  have pne := B.none_ne hp
  refine ⟨p, rfl, ⟨_, SqL.of p1⟩, for_list (K := K) (a := p) (xs := (nowL b.marks).map V.str) (fun i σ H' => ∃ (r : Nat) (rows' : List Rw) (v : Option V), σ = [some (.ref b.p), some (.int (r : Nat)), v] ∧ DB.Grow b.marks rows rows' ∧ BkAt C b H' rows' ∧ K2 b.rl b.pl H1 H' ∧
    rows'.length ≤ rows.length + 1276 * i ∧ Is rows' r (DB.sbq (nowL b.marks) (thnL b.marks) f i)) ⟨n, rows, none, rfl, .refl B.wf, B1, K2.refl, by omega, hn.congr fun e => (DB.sbq_zero _ _ _ _).symm⟩
    (fun i σ H' _ ⟨_, _, _, _, _, _, k2, _⟩ => SqL.of (k2.lst B1 p1 pne.2.2.1)) ?_ ?_⟩
  · rintro i y σ H2 hy ⟨r, rows2, v, rfl, g2, B2, k2, l2, hr2⟩
    obtain ⟨j, hj, rfl, hx, hm, hil⟩ := now_at' hy
    have tm : mS (j + 4) ∈ b.marks := (W.pair j hj).mp hm
    have ht : (thnL b.marks)[i]? = some (mS (j + 4)) := by rw [← thn_mk]; exact thnL_at hx
    refine ⟨_, rfl, _, rfl, _, rfl, _, rfl, _, rfl, j, rfl, hj, b, rows2, mS (j + 4), rfl, B2, by omega, tm, fun r3 rows3 H3 g3 B3 k3 l3 h3 => ?_⟩
    refine ⟨b, rows3, r, r3, mS j, _, _, rfl, B3, by omega, hm, hr2.up g3, h3, fun r4 rows4 H4 g4 B4 k4 l4 h4 => ?_⟩
    exact ⟨r4, rows4, _, rfl, g2.trans (g3.trans g4), B4, k2.trans (k3.trans k4), by omega, h4.congr fun e => DB.sbq_step D.nn (D.ap _ (List.mem_of_getElem? hx)) hx ht e⟩
  · rintro σ H2 ⟨r, rows2, v, rfl, g2, B2, k2, l2, hr2⟩
    rw [List.length_map] at l2 hr2
    exact ⟨_, rfl, k r rows2 H2 g2 B2 ((K2.of s1).trans k2) (by omega) (hr2.congr fun e => DB.sbq_end rfl D.len e)⟩
theorem d_as_now (T : Tx w K mg C) (A : Has K mg "as_now" sfas_now) (d_now_marks : Df P w K mg base "now_marks" 1 ["book"] (spNowMarks C)) (d_then_of : Df P w K mg base "then_of" 1 ["mark"] spThenOf)
    (d_mark_room : Df P w K mg base "mark_room" 2 ["book", "mark"] (spMarkRoom C)) (d_put : Df P w K mg base "put" 12 ["book", "one", "mark", "other"] (spPut C)) : Df P w K mg base "as_now" 13 ["book", "room"] (spAsNow C) := by
  refine Df.of A scfas_now (fun vs H Q E h => ?_) (fun _ _ _ _ _ _ us hl => match us, hl with | [_, _], _ => rfl) (fun f cdv A outer s H vs Q E hr h => ?_)
  · obtain ⟨b, rows, n, f, rfl, _⟩ := h; rfl
  obtain ⟨b, rows, n, f, rfl, B, W, lim, hn, k⟩ := h
  refine ⟨_, (pss_cons (ps_for PassesOwn.never rfl (pi_list (pe_df d_now_marks (hr.mono (by omega)) (pa_cons (pv 0) pa_nil))) (pg_name (i := 2) scfas_now.nd rfl (Or.inl rfl)) (pss_one (ps_set (i := 1) scfas_now.nd rfl (Or.inl rfl) (pe_df d_put (hr.mono (by omega)) (pa_cons (pv 0) (pa_cons (pv 1) (pa_cons (pe_df d_then_of (hr.mono (by omega)) (pa_cons (pv 2) pa_nil)) (pa_cons (pe_df d_mark_room (hr.mono (by omega)) (pa_cons (pv 0) (pa_cons (pv 2) pa_nil))) pa_nil))))))))
      (pss_one (ps_ret (pv 1)))), ?_⟩
  have D := W.wd
  have few := nowL_few b.marks
  refine ⟨_, rfl, b, rows, rfl, B, W, fun p H1 s1 hp p1 => ?_⟩
  have B1 := B.mono s1
  have pne := B.none_ne hp
  refine ⟨p, rfl, ⟨_, SqL.of p1⟩, for_list (K := K) (a := p) (xs := (nowL b.marks).map V.str) (fun i σ H' => ∃ (r : Nat) (rows' : List Rw) (v : Option V), σ = [some (.ref b.p), some (.int (r : Nat)), v] ∧ DB.Grow b.marks rows rows' ∧ BkAt C b H' rows' ∧ K2 b.rl b.pl H1 H' ∧
    rows'.length ≤ rows.length + 1276 * i ∧ Is rows' r (DB.sbq (thnL b.marks) (nowL b.marks) f i)) ⟨n, rows, none, rfl, .refl B.wf, B1, K2.refl, by omega, hn.congr fun e => (DB.sbq_zero _ _ _ _).symm⟩
    (fun i σ H' _ ⟨_, _, _, _, _, _, k2, _⟩ => SqL.of (k2.lst B1 p1 pne.2.2.1)) ?_ ?_⟩
  · rintro i y σ H2 hy ⟨r, rows2, v, rfl, g2, B2, k2, l2, hr2⟩
    obtain ⟨j, hj, rfl, hx, hm, hil⟩ := now_at' hy
    have tm : mS (j + 4) ∈ b.marks := (W.pair j hj).mp hm
    have ht : (thnL b.marks)[i]? = some (mS (j + 4)) := by rw [← thn_mk]; exact thnL_at hx
    refine ⟨_, rfl, _, rfl, _, rfl, j, rfl, hj, _, rfl, _, rfl, b, rows2, mS j, rfl, B2, by omega, hm, fun r3 rows3 H3 g3 B3 k3 l3 h3 => ?_⟩
    refine ⟨b, rows3, r, r3, mS (j + 4), _, _, rfl, B3, by omega, tm, hr2.up g3, h3, fun r4 rows4 H4 g4 B4 k4 l4 h4 => ?_⟩
    exact ⟨r4, rows4, _, rfl, g2.trans (g3.trans g4), B4, k2.trans (k3.trans k4), by omega, h4.congr fun e => DB.sbq_step D.nt (fun z => D.ap _ z (List.mem_of_getElem? ht)) ht hx e⟩
  · rintro σ H2 ⟨r, rows2, v, rfl, g2, B2, k2, l2, hr2⟩
    rw [List.length_map] at l2 hr2
    exact ⟨_, rfl, k r rows2 H2 g2 B2 ((K2.of s1).trans k2) (by omega) (hr2.congr fun e => DB.sbq_end D.len rfl e)⟩
theorem d_steps_from (T : Tx w K mg C) (A : Has K mg "steps_from" sfsteps_from) (d_now_marks : Df P w K mg base "now_marks" 1 ["book"] (spNowMarks C)) (d_join : Md P w K mg base C "join" 11 ["self", "table", "one", "other", "known"] (spJoinI C))
    (d_for_some : Df P w K mg base "for_some" 12 ["book", "mark", "one"] (spForSome C)) (d_as_now : Df P w K mg base "as_now" 13 ["book", "room"] (spAsNow C)) : Df P w K mg base "steps_from" 14 ["book", "steps", "room"] (spStepsFrom C) := by
  refine Df.of A scfsteps_from (fun vs H Q E h => ?_) (fun _ _ _ _ _ _ us hl => match us, hl with | [_, _, _], _ => rfl) (fun f cdv A outer s H vs Q E hr h => ?_)
  · obtain ⟨b, rows, st, n, E, f, rfl, _⟩ := h; rfl
  obtain ⟨b, rows, st, n, E, f, rfl, B, W, lim, hst, hn, k⟩ := h
  refine ⟨_, (pss_cons (ps_set (i := 3) scfsteps_from.nd rfl (Or.inl rfl) (pe_md d_join T.cl (hr.mono (by omega)) (pv 0) (pa_cons pe_str (pa_cons (pv 1) (pa_cons (pv 2) (pa_cons pe_dnewT pa_nil))))))
      (pss_cons (ps_for PassesOwn.never rfl (pi_list (pe_df d_now_marks (hr.mono (by omega)) (pa_cons (pv 0) pa_nil))) (pg_name (i := 4) scfsteps_from.nd rfl (Or.inl rfl)) (pss_one (ps_set (i := 3) scfsteps_from.nd rfl (Or.inl rfl) (pe_df d_for_some (hr.mono (by omega)) (pa_cons (pv 0) (pa_cons (pv 4) (pa_cons (pv 3) pa_nil)))))))
      (pss_one (ps_ret (pe_df d_as_now (hr.mono (by omega)) (pa_cons (pv 0) (pa_cons (pv 3) pa_nil))))))), ?_⟩
  have D := W.wd
  have few := nowL_few b.marks
  refine ⟨_, rfl, b.p, b.dx, _, rfl, B.ob, nmA _ _ (by decide +kernel), _, rfl, _, rfl, fun q hq => ⟨b, rows, _, _, _, _, _, q, _, _, rfl, rfl, hq, B, tab_and, hst, hn, by omega, fun r1 rows1 H1 g1 B1 k1 l1 h1 _ => ?_⟩⟩
  refine ⟨_, rfl, b, rows1, rfl, B1, W, fun p H2 s2 hp p2 => ?_⟩
  have B2 := B1.mono s2
  have pne := B1.none_ne hp
  refine ⟨p, rfl, ⟨_, SqL.of p2⟩, for_list (K := K) (a := p) (xs := (nowL b.marks).map V.str) (fun i σ H' => ∃ (r : Nat) (rows' : List Rw) (v : Option V), σ = [some (.ref b.p), some (.int (st : Nat)), some (.int (n : Nat)), some (.int (r : Nat)), v] ∧ DB.Grow b.marks rows1 rows' ∧ BkAt C b H' rows' ∧ K2 b.rl b.pl H2 H' ∧
    rows'.length ≤ rows1.length + 765 * i ∧ Is rows' r (DB.exq (nowL b.marks) (thnL b.marks) (fun x y => E x y && f x) i)) ⟨r1, rows1, none, rfl, .refl B1.wf, B2, K2.refl, by omega, h1.congr fun e => (DB.exq_zero (nowL b.marks) (thnL b.marks) (fun x y => E x y && f x) e).symm⟩
    (fun i σ H' _ ⟨_, _, _, _, _, _, k2, _⟩ => SqL.of (k2.lst B2 p2 pne.2.2.1)) ?_ ?_⟩
  · rintro i y σ H3 hy ⟨r, rows3, v, rfl, g3, B3, k3, l3, h3⟩
    obtain ⟨j, hj, rfl, hx, hm, hil⟩ := now_at' hy
    refine ⟨_, rfl, _, rfl, _, rfl, b, rows3, r, mS j, _, rfl, B3, by omega, hm, h3, fun r4 rows4 H4 g4 B4 k4 l4 h4 => ?_⟩
    exact ⟨r4, rows4, _, rfl, g3.trans g4, B4, k3.trans k4, by omega, h4.congr fun e => DB.exq_step D.nn (D.ap _ (List.mem_of_getElem? hx)) hx e⟩
  · rintro σ H3 ⟨r, rows3, v, rfl, g3, B3, k3, l3, h3⟩
    rw [List.length_map] at l3 h3
    refine ⟨_, rfl, _, rfl, b, rows3, r, DB.img (nm b) E f, rfl, B3, W, by omega, h3.congr fun e => DB.exq_end rfl e, fun r4 rows4 H4 g4 B4 k4 l4 h4 => ?_⟩
    exact k r4 rows4 H4 (g1.trans (g3.trans g4)) B4 (k1.trans ((K2.of s2).trans (k3.trans k4))) (by omega) h4
theorem d_steps_to (T : Tx w K mg C) (A : Has K mg "steps_to" sfsteps_to) (d_now_marks : Df P w K mg base "now_marks" 1 ["book"] (spNowMarks C)) (d_then_of : Df P w K mg base "then_of" 1 ["mark"] spThenOf) (d_join : Md P w K mg base C "join" 11 ["self", "table", "one", "other", "known"] (spJoinI C))
    (d_for_some : Df P w K mg base "for_some" 12 ["book", "mark", "one"] (spForSome C)) (d_as_then : Df P w K mg base "as_then" 13 ["book", "room"] (spAsThen C)) : Df P w K mg base "steps_to" 14 ["book", "steps", "room"] (spStepsTo C) := by
  refine Df.of A scfsteps_to (fun vs H Q E h => ?_) (fun _ _ _ _ _ _ us hl => match us, hl with | [_, _, _], _ => rfl) (fun f cdv A outer s H vs Q E hr h => ?_)
  · obtain ⟨b, rows, st, n, E, f, rfl, _⟩ := h; rfl
  obtain ⟨b, rows, st, n, E, f, rfl, B, W, lim, hst, hn, k⟩ := h
  refine ⟨_, (pss_cons (ps_set (i := 3) scfsteps_to.nd rfl (Or.inl rfl) (pe_md d_join T.cl (hr.mono (by omega)) (pv 0) (pa_cons pe_str (pa_cons (pv 1) (pa_cons (pe_df d_as_then (hr.mono (by omega)) (pa_cons (pv 0) (pa_cons (pv 2) pa_nil))) (pa_cons pe_dnewT pa_nil))))))
      (pss_cons (ps_for PassesOwn.never rfl (pi_list (pe_df d_now_marks (hr.mono (by omega)) (pa_cons (pv 0) pa_nil))) (pg_name (i := 4) scfsteps_to.nd rfl (Or.inl rfl)) (pss_one (ps_set (i := 3) scfsteps_to.nd rfl (Or.inl rfl) (pe_df d_for_some (hr.mono (by omega)) (pa_cons (pv 0) (pa_cons (pe_df d_then_of (hr.mono (by omega)) (pa_cons (pv 4) pa_nil)) (pa_cons (pv 3) pa_nil)))))))
      (pss_one (ps_ret (pv 3))))), ?_⟩
  have D := W.wd
  have few := nowL_few b.marks
  refine ⟨_, rfl, b.p, b.dx, _, rfl, B.ob, nmA _ _ (by decide +kernel), _, rfl, _, rfl, _, rfl, b, rows, n, f, rfl, B, W, by omega, hn, fun r0 rows0 H0 g0 B0 k0 l0 h0 => ?_⟩
  refine fun q hq => ⟨b, rows0, _, _, _, _, _, q, _, _, rfl, rfl, hq, B0, tab_and, hst.up g0, h0, by omega, fun r1 rows1 H1 g1 B1 k1 l1 h1 _ => ?_⟩
  refine ⟨_, rfl, b, rows1, rfl, B1, W, fun p H2 s2 hp p2 => ?_⟩
  have B2 := B1.mono s2
  have pne := B1.none_ne hp
  refine ⟨p, rfl, ⟨_, SqL.of p2⟩, for_list (K := K) (a := p) (xs := (nowL b.marks).map V.str) (fun i σ H' => ∃ (r : Nat) (rows' : List Rw) (v : Option V), σ = [some (.ref b.p), some (.int (st : Nat)), some (.int (n : Nat)), some (.int (r : Nat)), v] ∧ DB.Grow b.marks rows1 rows' ∧ BkAt C b H' rows' ∧ K2 b.rl b.pl H2 H' ∧
    rows'.length ≤ rows1.length + 765 * i ∧ Is rows' r (DB.exq (thnL b.marks) (nowL b.marks) (fun y x => E x y && f y) i)) ⟨r1, rows1, none, rfl, .refl B1.wf, B2, K2.refl, by omega, h1.congr fun e => (DB.exq_zero (thnL b.marks) (nowL b.marks) (fun y x => E x y && f y) e).symm⟩
    (fun i σ H' _ ⟨_, _, _, _, _, _, k2, _⟩ => SqL.of (k2.lst B2 p2 pne.2.2.1)) ?_ ?_⟩
  · rintro i y σ H3 hy ⟨r, rows3, v, rfl, g3, B3, k3, l3, h3⟩
    obtain ⟨j, hj, rfl, hx, hm, hil⟩ := now_at' hy
    have tm : mS (j + 4) ∈ b.marks := (W.pair j hj).mp hm
    have ht : (thnL b.marks)[i]? = some (mS (j + 4)) := by rw [← thn_mk]; exact thnL_at hx
    refine ⟨_, rfl, _, rfl, j, rfl, hj, _, rfl, b, rows3, r, mS (j + 4), _, rfl, B3, by omega, tm, h3, fun r4 rows4 H4 g4 B4 k4 l4 h4 => ?_⟩
    exact ⟨r4, rows4, _, rfl, g3.trans g4, B4, k3.trans k4, by omega, h4.congr fun e => DB.exq_step D.nt (fun z => D.ap _ z (List.mem_of_getElem? ht)) ht e⟩
  · rintro σ H3 ⟨r, rows3, v, rfl, g3, B3, k3, l3, h3⟩
    rw [List.length_map] at l3 h3
    exact ⟨_, rfl, k r rows3 H3 (g0.trans (g1.trans g3)) B3 (k0.trans (k1.trans ((K2.of s2).trans k3))) (by omega) (h3.congr fun e => DB.exq_end D.len e)⟩
theorem d_row_room (T : Tx w K mg C) (A : Has K mg "row_room" sfrow_room) (d_now_marks : Df P w K mg base "now_marks" 1 ["book"] (spNowMarks C)) (d_mark_room : Df P w K mg base "mark_room" 2 ["book", "mark"] (spMarkRoom C))
    (d_join : Md P w K mg base C "join" 11 ["self", "table", "one", "other", "known"] (spJoinI C)) : Df P w K mg base "row_room" 12 ["book", "row"] (spRowRoom C) := by
  refine Df.of A scfrow_room (fun vs H Q E h => ?_) (fun _ _ _ _ _ _ us hl => match us, hl with | [_, _], _ => rfl) (fun f cdv A outer s H vs Q E hr h => ?_)
  · obtain ⟨b, rows, a, r, rfl, _⟩ := h; rfl
  obtain ⟨b, rows, a, r, rfl, B, W, lim, ha, hne, hl, k⟩ := h
  refine ⟨_, (pss_cons (ps_set (i := 2) scfrow_room.nd rfl (Or.inl rfl) pe_int)
      (pss_cons (ps_for PassesOwn.never rfl (pi_zip (by rfl) T.zip (pa_cons (pe_df d_now_marks (hr.mono (by omega)) (pa_cons (pv 0) pa_nil)) (pa_cons (pv 1) pa_nil))) (pg_tup rfl (pgs_cons (pg_name (i := 3) scfrow_room.nd rfl (Or.inl rfl)) (pgs_cons (pg_name (i := 4) scfrow_room.nd rfl (Or.inl rfl)) pgs_nil))) (pss_one (ps_set (i := 2) scfrow_room.nd rfl (Or.inl rfl) (pe_md d_join T.cl (hr.mono (by omega)) (pv 0) (pa_cons (pe_ix ix_list (pe_lst (pa_cons pe_str (pa_cons pe_str pa_nil))) (pv 4) (fun _ _ => rfl)) (pa_cons (pe_df d_mark_room (hr.mono (by omega)) (pa_cons (pv 0) (pa_cons (pv 3) pa_nil))) (pa_cons (pv 2) (pa_cons pe_dnewT pa_nil))))))))
      (pss_one (ps_ret (pv 2))))), ?_⟩
  have D := W.wd
  have few := nowL_few b.marks
  refine ⟨_, rfl, b, rows, rfl, B, W, fun p H1 s1 hp p1 => ?_⟩
  have B1 := B.mono s1
  have pne := B.none_ne hp
  have a1 := s1 _ _ ha
  refine ⟨_, rfl, p, a, _, _, rfl, SqL.of p1, SqL.of a1, RZ.for_zipL (K := K) (a := p) (b := a) (by rw [List.length_map]; unfold rowB; rw [List.length_map]; exact hl.symm) (fun i σ H' => ∃ (n : Nat) (rows' : List Rw) (v u : Option V), σ = [some (.ref b.p), some (.ref a), some (.int (n : Nat)), v, u] ∧ DB.Grow b.marks rows rows' ∧ BkAt C b H' rows' ∧ K2 b.rl b.pl H1 H' ∧
    rows'.length ≤ rows.length + 256 * i ∧ Is rows' n (DB.roq (nowL b.marks) r i)) ⟨1, rows, none, none, rfl, .refl B.wf, B1, K2.refl, by omega, ⟨by omega, fun e => by rw [DB.ev_one, DB.roq_zero]⟩⟩
    (fun i σ H' ⟨_, _, _, _, _, _, _, k2, _⟩ => ⟨SqL.of (k2.lst B1 p1 pne.2.2.1), SqL.of (k2.lst B1 a1 hne)⟩) ?_ ?_⟩
  · rintro i x y t σ H2 hx hy ⟨n, rows2, v, u, rfl, g2, B2, k2, l2, h2⟩ ht
    obtain ⟨j, hj, rfl, hjx, hm, hil⟩ := now_at' hx
    unfold rowB at hy
    rw [List.getElem?_map] at hy
    obtain ⟨c, hc, rfl⟩ := Option.map_eq_some_iff.mp hy
    have s3 := Same.new ht (.tup [.str (mS j), .int (bI c)])
    have t3 : upd H2 t (.tup [.str (mS j), .int (bI c)]) t = some (.tup [.str (mS j), .int (bI c)]) := upd_same
    generalize upd H2 t (.tup [.str (mS j), .int (bI c)]) = H3 at s3 t3 ⊢
    have B3 := B2.mono s3
    refine ⟨t, _, rfl, SqT.of t3, rfl, _, _, rfl, _, _, rfl, rfl, ?_⟩
    refine ⟨_, rfl, b.p, b.dx, _, rfl, B3.ob, nmA _ _ (by decide +kernel), (by show 2 ≤ sizeLine; decide), fun z hz => ?_⟩
    have s4 := Same.new hz (.lst [.str "0100", .str "0001"])
    have z4 : upd H3 z (.lst [.str "0100", .str "0001"]) z = some (.lst [.str "0100", .str "0001"]) := upd_same
    generalize upd H3 z (.lst [.str "0100", .str "0001"]) = H4 at s4 z4 ⊢
    have B4 := B3.mono s4
    refine ⟨_, rfl, z, _, _, .str (if c then "0001" else "0100"), rfl, rfl, SqL.of z4, by cases c <;> rfl, ?_⟩
    refine ⟨_, rfl, _, rfl, b, rows2, mS j, rfl, B4, by omega, hm, fun r5 rows5 H5 g5 B5 k5 l5 h5 => ?_⟩
    have tab : Tab (if c then "0001" else "0100") (fun x y => decide (x = c) && y) := by
      cases c
      · exact ⟨fun x y hx hy => by rw [show (if false = true then ("0001" : Str) else "0100") = "0100" from rfl, tab_nand.at_ x y hx hy]; cases (x == 1) <;> rfl, tab_nand.len⟩
      · exact ⟨fun x y hx hy => by rw [show (if true = true then ("0001" : Str) else "0100") = "0001" from rfl, tab_and.at_ x y hx hy]; cases (x == 1) <;> rfl, tab_and.len⟩
    refine ⟨_, rfl, fun q hq => ⟨b, rows5, _, _, _, _, _, q, _, _, rfl, rfl, hq, B5, tab, h5, h2.up g5, by omega, fun r6 rows6 H6 g6 B6 k6 l6 h6 _ => ?_⟩⟩
    exact ⟨r6, rows6, _, _, rfl, g2.trans (g5.trans g6), B6, k2.trans ((K2.of (s3.trans s4)).trans (k5.trans k6)), by omega, h6.congr fun e => DB.roq_step hjx hc e⟩
  · rintro σ H2 ⟨n, rows2, v, u, rfl, g2, B2, k2, l2, h2⟩
    rw [List.length_map] at l2 h2
    exact ⟨_, rfl, k n rows2 H2 g2 B2 ((K2.of s1).trans k2) (by omega) (h2.congr fun e => DB.roq_end rfl hl e)⟩
theorem d_first_row (T : Tx w K mg C) (A : Has K mg "first_row" sffirst_row) (d_now_marks : Df P w K mg base "now_marks" 1 ["book"] (spNowMarks C)) (d_held : Df P w K mg base "held" 11 ["book", "one", "mark", "value"] (spHeld C)) : Df P w K mg base "first_row" 12 ["book", "room"] (spFirstRow C) := by
  refine Df.of A scffirst_row (fun vs H Q E h => ?_) (fun _ _ _ _ _ _ us hl => match us, hl with | [_, _], _ => rfl) (fun f cdv A outer s H vs Q E hr h => ?_)
  · obtain ⟨b, rows, n, f, rfl, _⟩ := h; rfl
  obtain ⟨b, rows, n, f, rfl, B, W, lim, hn, k⟩ := h
  refine ⟨_, (pss_cons (ps_set (i := 2) scffirst_row.nd rfl (Or.inl rfl) (pe_lst pa_nil))
      (pss_cons (ps_for PassesOwn.never rfl (pi_list (pe_df d_now_marks (hr.mono (by omega)) (pa_cons (pv 0) pa_nil))) (pg_name (i := 3) scffirst_row.nd rfl (Or.inl rfl)) (pss_cons (ps_set (i := 4) scffirst_row.nd rfl (Or.inl rfl) (pe_df d_held (hr.mono (by omega)) (pa_cons (pv 0) (pa_cons (pv 1) (pa_cons (pv 3) (pa_cons pe_int pa_nil))))))
      (pss_cons (ps_set (i := 5) scffirst_row.nd rfl (Or.inl rfl) (pe_callTy call_int1 (by rfl) T.int (by decide +kernel) (pa_cons (pe_cmpR op_eq (pv 4) pe_int (nomark _)) pa_nil)))
      (pss_cons (ps_expr (pe_bm PySem.F.plainAttrs_list PySem.F.slot_list_append PySem.F.type_list_append mt_append (pv 2) (pa_cons (pv 5) pa_nil)))
      (pss_one (ps_set (i := 1) scffirst_row.nd rfl (Or.inl rfl) (pe_df d_held (hr.mono (by omega)) (pa_cons (pv 0) (pa_cons (pv 1) (pa_cons (pv 3) (pa_cons (pv 5) pa_nil)))))))))))
      (pss_one (ps_ret (pv 2))))), ?_⟩
  have D := W.wd
  have few := nowL_few b.marks
  refine ⟨(by show 0 ≤ sizeLine; exact Nat.zero_le _), fun o ho => ?_⟩
  have s0 := Same.new ho (.lst [])
  have o0 : upd H o (.lst []) o = some (.lst (rowB [])) := upd_same
  generalize upd H o (.lst []) = H0 at s0 o0 ⊢
  have B0 := B.mono s0
  have one := B.none_ne ho
  refine ⟨_, rfl, b, rows, rfl, B0, W, fun p H1 s1 hp p1 => ?_⟩
  have B1 := B0.mono s1
  have pne := B0.none_ne hp
  have npo : p ≠ o := fun z => by rw [z, o0] at hp; cases hp
  refine ⟨p, rfl, ⟨_, SqL.of p1⟩, for_list (K := K) (a := p) (xs := (nowL b.marks).map V.str) (fun i σ H' => ∃ (r : Nat) (pre : List Bool) (rows' : List Rw) (v u x : Option V), σ = [some (.ref b.p), some (.int (r : Nat)), some (.ref o), v, u, x] ∧ DB.Grow b.marks rows rows' ∧ BkAt C b H' rows' ∧ K2 b.rl b.pl H H' ∧
    H' p = some (.lst ((nowL b.marks).map V.str)) ∧ H' o = some (.lst (rowB pre)) ∧ pre.length = i ∧ rows'.length ≤ rows.length + 510 * i ∧ i ≤ nm b ∧ Is rows' r (DB.fiq (nowL b.marks) f pre i) ∧ DB.gre (nm b) f = pre ++ DB.gre (nm b - i) (fun r => f (pre ++ r)))
    ⟨n, [], rows, none, none, none, rfl, .refl B.wf, B1, K2.of (s0.trans s1), p1, s1 _ _ o0, rfl, by omega, Nat.zero_le _, hn.congr fun e => (DB.fiq_zero _ _ _).symm, by simp⟩
    (fun i σ H' _ ⟨_, _, _, _, _, _, _, _, _, _, h, _⟩ => SqL.of h) ?_ ?_⟩
  · rintro i y σ H2 hy ⟨r, pre, rows2, v, u, x, rfl, g2, B2, k2, p2, o2, hpre, l2, hi, h2, hg⟩
    obtain ⟨j, hj, rfl, hx, hm, hil⟩ := now_at' hy
    refine ⟨_, rfl, _, rfl, _, rfl, b, rows2, r, mS j, false, rfl, B2, by omega, h2.1, hm, fun r3 rows3 H3 g3 B3 k3 l3 j3 => ?_⟩
    have h3 : Is rows3 r3 (DB.fiq (nowL b.marks) f (pre ++ [false]) (i + 1)) := (fx_is (h2.up g3) j3).congr fun e => DB.fiq_step D.nn hx e
    -- the value
    have zero : decide (V.int ((r3 : Nat) : Int) = V.int 0) = !((DB.allR (nm b - (i + 1))).any fun r => f ((pre ++ [false]) ++ r)) := by
      cases c : (DB.allR (nm b - (i + 1))).any fun r => f ((pre ++ [false]) ++ r) with
      | true =>
        obtain ⟨e, he⟩ := (DB.fiq_some (as := nowL b.marks) (i := i + 1) D.nn).mpr c
        refine decide_eq_false fun z => ?_
        have z : r3 = 0 := by have := V.int.inj z; omega
        have := h3.2 e
        rw [z, DB.ev_zero, he] at this
        cases this
      | false =>
        have z : r3 = 0 := DB.zero_of B3.wf r3 h3.1 fun e => by
          cases q : DB.ev rows3 r3 e with
          | false => rfl
          | true =>
            rw [h3.2] at q
            have := (DB.fiq_some (as := nowL b.marks) (i := i + 1) D.nn).mp ⟨e, q⟩
            rw [c] at this
            cases this
        exact decide_eq_true (by rw [z]; rfl)
    generalize hv : (!((DB.allR (nm b - (i + 1))).any fun r => f ((pre ++ [false]) ++ r))) = c at zero
    refine ⟨_, rfl, rfl, .inr ⟨_, rfl, ?_⟩⟩
    rw [zero]
    have o3 := k3.lst B2 o2 one.2.2.1
    have p3 := k3.lst B2 p2 pne.2.2.1
    refine ⟨_, rfl, .inl ⟨rfl, _, SqL.of o3⟩, _, rfl, o, _, _, rfl, rfl, o3, by unfold rowB; rw [List.length_map]; exact small1000 (by omega), ?_⟩
    have B4 : BkAt C b (upd H3 o (.lst (rowB pre ++ [.int (if c = true then 1 else 0)]))) rows3 := by
      have at4 : ∀ a, a ≠ o → upd H3 o (.lst (rowB pre ++ [.int (if c = true then 1 else 0)])) a = H3 a := fun a ha => upd_ne ha
      obtain ⟨ts, t1, t2, t3⟩ := B3.rl
      refine ⟨by rw [at4 _ one.1.symm]; exact B3.ob, by rw [at4 _ one.2.1.symm]; exact B3.ml, ⟨ts, by rw [at4 _ one.2.2.1.symm]; exact t1, t2, fun i r hi => ?_⟩, by rw [at4 _ one.2.2.2.symm]; exact B3.pl, B3.wf, B3.nd, B3.few⟩
      obtain ⟨z, u1, u2⟩ := t3 i r hi
      exact ⟨z, u1, by rw [at4 _ (ne_of u2 o3 (by intro z; cases z))]; exact u2⟩
    have o4 : upd H3 o (.lst (rowB pre ++ [.int (if c = true then 1 else 0)])) o = some (.lst (rowB (pre ++ [c]))) := by
      rw [upd_same]
      unfold rowB
      rw [List.map_append]
      rfl
    have p4 : upd H3 o (.lst (rowB pre ++ [.int (if c = true then 1 else 0)])) p = some (.lst ((nowL b.marks).map V.str)) := by rw [upd_ne npo]; exact p3
    have k4 : K2 b.rl b.pl H (upd H3 o (.lst (rowB pre ++ [.int (if c = true then 1 else 0)]))) := fun a oo hao n1 n2 => by
      rw [upd_ne (ne_of_none hao ho)]
      exact k3 _ _ (k2 _ _ hao n1 n2) n1 n2
    generalize upd H3 o (.lst (rowB pre ++ [.int (if c = true then 1 else 0)])) = H4 at B4 o4 p4 k4 ⊢
    have h2' := h2.up g3
    refine ⟨_, rfl, _, rfl, _, rfl, _, rfl, b, rows3, r, mS j, c, rfl, B4, by omega, h2'.1, hm, fun r5 rows5 H5 g5 B5 k5 l5 j5 => ?_⟩
    have en : nm b - i = (nm b - (i + 1)) + 1 := by have : i < nm b := hil; omega
    refine ⟨r5, pre ++ [c], rows5, _, _, _, rfl, g2.trans (g3.trans g5), B5, k4.trans k5, k5.lst B4 p4 pne.2.2.1, k5.lst B4 o4 one.2.2.1, by simp [hpre], by omega, hil, (fx_is (h2'.up g5) j5).congr fun e => DB.fiq_step D.nn hx e, ?_⟩
    rw [hg, en, DB.gre_step, hv]
    simp
  · rintro σ H2 ⟨r, pre, rows2, v, u, x, rfl, g2, B2, k2, p2, o2, hpre, l2, hi, h2, hg⟩
    rw [List.length_map] at hpre l2
    rw [List.length_map, Nat.sub_self] at hg
    refine ⟨_, rfl, k o rows2 H2 g2 B2 k2 (by omega) ho ?_⟩
    rw [hg, o2]
    show _ = some (HO.lst (rowB (pre ++ [])))
    rw [List.append_nil]
end
end DW


set_option maxHeartbeats 4000000
/-! rounds, way_to. -/
namespace DW
open PySem PySem.Spec PyProof.Rows L2
theorem scfrounds : FnScope ["book", "steps", "start", "found", "seen", "fresh"] ["book", "steps", "start"] (defScope sfrounds) := ⟨rfl, rfl, rfl, by decide +kernel, rfl, by decide +kernel, by decide +kernel⟩
theorem scfway_to : FnScope ["book", "steps", "start", "goal", "met", "fresh", "rows", "elder", "back"] ["book", "steps", "start", "goal"] (defScope sfway_to) := ⟨rfl, rfl, rfl, by decide +kernel, rfl, by decide +kernel, by decide +kernel⟩
/-- a for over reversed(list), the list left as it is -/
theorem for_back {K : PySem.W.Frag} {a : Addr} {xs : List V} {g : TG} {tb : TS} {D : Ends} {σ : L2.St} {H : Hp} (Pv : Nat → L2.St → Hp → Prop) (h0 : Pv 0 σ H) (hq : ∀ i σ H, Pv i σ H → SqL K H a xs)
    (hs : ∀ i x σ H, i < xs.length → xs[xs.length - 1 - i]? = some x → Pv i σ H → g x σ H fun σ2 H2 => tb { D with nx := Pv (i + 1), ct := Pv (i + 1), bk := D.nx } σ2 H2) (hd : ∀ σ H, Pv xs.length σ H → D.nx σ H) :
    ∃ W : Nat → Nat → L2.St → Hp → Prop, (∃ m, W 0 m σ H) ∧ ∀ i m σ H, W i m σ H →
      ((Itv K a xs.length).stop i H ∧ D.nx σ H) ∨ ((Itv K a xs.length).go i H ∧ ∃ N : L2.St → Hp → Prop, (∀ σ' H', N σ' H' → ∃ m', m' < m ∧ W (i + 1) m' σ' H') ∧ ∀ x H', (Itv K a xs.length).yld i H x H' → g x σ H' fun σ2 H2 => tb { D with nx := N, ct := N, bk := D.nx } σ2 H2) := by
  refine ⟨fun i m σ H => m + i = xs.length ∧ Pv i σ H, ⟨xs.length, by simp, h0⟩, ?_⟩
  rintro i m σ H ⟨hm, p⟩
  have q := hq i σ H p
  by_cases lt : i < xs.length
  · refine .inr ⟨⟨lt, xs, xs[xs.length - 1 - i], q, List.getElem?_eq_getElem (by omega)⟩, Pv (i + 1), fun σ' H' p' => ⟨m - 1, by omega, by omega, p'⟩, fun x H' y => ?_⟩
    obtain ⟨e, y⟩ := y
    subst e
    exact hs i x σ _ lt (y xs q) p
  · have e : i = xs.length := by omega
    subst e
    exact .inl ⟨Nat.le_refl _, hd σ H p⟩
theorem zero_iff {b : Bk} {C : Addr} {H : Hp} {rows : List Rw} (B : BkAt C b H rows) {r : Nat} {g : DB.Ro → Bool} (h : Is rows r (fun e => g (nw b e))) : r = 0 ↔ DB.ne (nm b) g = false := by
  have nd := nowL_nd b.marks
  constructor
  · intro z
    refine DB.any_allR_false.mpr fun x hx => ?_
    obtain ⟨e, he⟩ := DB.env_of x nd hx
    have := h.2 e
    rw [z, DB.ev_zero] at this
    rw [← he]
    exact this.symm
  · intro z
    refine DB.zero_of B.wf r h.1 fun e => ?_
    rw [h.2]
    exact DB.any_allR_false.mp z _ (by simp)
theorem SqL.lst {K : PySem.W.Frag} {H : Hp} {a : Addr} {xs : List V} (h : H a = some (.lst xs)) : SqL K H a xs := SqL.of h
abbrev nats_ (ks : List Nat) : List V := ks.map fun k => V.int (k : Nat)
theorem nats_snoc (ks : List Nat) (k : Nat) : nats_ ks ++ [.int (k : Nat)] = nats_ (ks ++ [k]) := by simp [nats_]
/-- a book's list changes that is not the book's -/
theorem BkAt.upd {C : Addr} {b : Bk} {H : Hp} {rows : List Rw} (B : BkAt C b H rows) {o : Addr} {xs : List V} {u : HO} (h : H o = some (.lst xs)) (n1 : o ≠ b.rl) (n2 : o ≠ b.ml) : BkAt C b (upd H o u) rows := by
  have at4 : ∀ a, a ≠ o → L2.upd H o u a = H a := fun a ha => upd_ne ha
  obtain ⟨ts, t1, t2, t3⟩ := B.rl
  refine ⟨by rw [at4 _ (ne_of B.ob h (by intro z; cases z))]; exact B.ob, by rw [at4 _ n2.symm]; exact B.ml, ⟨ts, by rw [at4 _ n1.symm]; exact t1, t2, fun i r hi => ?_⟩, by rw [at4 _ (ne_of B.pl h (by intro z; cases z))]; exact B.pl, B.wf, B.nd, B.few⟩
  obtain ⟨z, u1, u2⟩ := t3 i r hi
  exact ⟨z, u1, by rw [at4 _ (ne_of u2 h (by intro z; cases z))]; exact u2⟩
theorem K2.mut {rl pl : Addr} {H H' : Hp} (k : K2 rl pl H H') {o : Addr} {u : HO} (h : H o = none) : K2 rl pl H (upd H' o u) := fun a oo ha n1 n2 => by
  rw [upd_ne (ne_of_none ha h)]
  exact k a oo ha n1 n2
def NowRoom (b : Bk) (rows : List Rw) (n : Nat) : Prop := n < rows.length + 2 ∧ DB.sup rows (fun m => decide (m ∈ nowL b.marks)) n = true
theorem NowRoom.up {b : Bk} {rows rows' : List Rw} {n : Nat} (h : NowRoom b rows n) (g : DB.Grow b.marks rows rows') : NowRoom b rows' n := ⟨by have := g.len; have := h.1; omega, by rw [g.sup h.1]; exact h.2⟩
def spRounds (K : PySem.W.Frag) (C : Addr) : Sp := fun vs H Q _ => ∃ (b : Bk) (rows : List Rw) (st n : Nat) (E : DB.Ro → DB.Ro → Bool) (f : DB.Ro → Bool), vs = [.ref b.p, .int (st : Nat), .int (n : Nat)] ∧ BkAt C b H rows ∧ WdS b.marks ∧ rows.length + 142864 ≤ LIM ∧
  Is rows st (fun e => E (nw b e) (tn b e)) ∧ Is rows n (fun e => f (nw b e)) ∧ NowRoom b rows n ∧
  ∀ (p : Addr) (rows' : List Rw) (H' : Hp) (rl : List Nat), DB.Grow b.marks rows rows' → BkAt C b H' rows' → K2 b.rl b.pl H H' → rows'.length ≤ rows.length + 142864 → H p = none → H' p = some (.lst (nats_ rl)) → DB.IsK (nm b) E f rl.length →
    rl.length ≤ 16 → (∀ (i : Nat) (r : Nat), rl[i]? = some r → Is rows' r (fun e => (DB.rs (nm b) E f i).1 (nw b e))) → Q (.ref p) H'
theorem pow_now (b : Bk) : 2 ^ nm b ≤ 16 := by
  have := nowL_few b.marks
  have : nm b ≤ 4 := this
  calc 2 ^ nm b ≤ 2 ^ 4 := Nat.pow_le_pow_right (by omega) this
    _ = 16 := rfl
section
variable {P : Program} {w : World} {K : PySem.W.Frag} {mg : Str → Option Value} {base : Heap} {C : Addr}
theorem d_rounds (T : Tx w K mg C) (A : Has K mg "rounds" sfrounds) (d_now_marks : Df P w K mg base "now_marks" 1 ["book"] (spNowMarks C)) (d_ask_room : Md P w K mg base C "ask_room" 1 ["self", "number"] (spAskRoom C)) (d_ask_now : Df P w K mg base "ask_now" 3 ["book", "rooms"] (spAskNow K C))
    (d_join : Md P w K mg base C "join" 11 ["self", "table", "one", "other", "known"] (spJoinI C)) (d_steps_from : Df P w K mg base "steps_from" 14 ["book", "steps", "room"] (spStepsFrom C)) : Df P w K mg base "rounds" 15 ["book", "steps", "start"] (spRounds K C) := by
  refine Df.of A scfrounds (fun vs H Q E h => ?_) (fun _ _ _ _ _ _ us hl => match us, hl with | [_, _, _], _ => rfl) (fun f cdv A outer s H vs Q E hr h => ?_)
  · obtain ⟨b, rows, st, n, E, f, rfl, _⟩ := h; rfl
  obtain ⟨b, rows, st, n, E, f, rfl, B, W, lim, hst, hn, nr, k⟩ := h
  refine ⟨_, (pss_cons (ps_expr (pe_df d_now_marks (hr.mono (by omega)) (pa_cons (pv 0) pa_nil)))
      (pss_cons (ps_expr (pe_md d_ask_room T.cl (hr.mono (by omega)) (pv 0) (pa_cons (pv 1) pa_nil)))
      (pss_cons (ps_expr (pe_df d_ask_now (hr.mono (by omega)) (pa_cons (pv 0) (pa_cons (pe_lst (pa_cons (pv 2) pa_nil)) pa_nil))))
      (pss_cons (ps_set (i := 3) scfrounds.nd rfl (Or.inl rfl) (pe_lst pa_nil))
      (pss_cons (ps_set (i := 4) scfrounds.nd rfl (Or.inl rfl) pe_int)
      (pss_cons (ps_set (i := 5) scfrounds.nd rfl (Or.inl rfl) (pv 2))
      (pss_cons (ps_while PassesOwn.never (pt_cmpR op_ne (pv 5) pe_int (nomark _)) (pss_cons (ps_expr (pe_bm PySem.F.plainAttrs_list PySem.F.slot_list_append PySem.F.type_list_append mt_append (pv 3) (pa_cons (pv 5) pa_nil)))
      (pss_cons (ps_set (i := 4) scfrounds.nd rfl (Or.inl rfl) (pe_md d_join T.cl (hr.mono (by omega)) (pv 0) (pa_cons pe_str (pa_cons (pv 4) (pa_cons (pv 5) (pa_cons pe_dnewT pa_nil))))))
      (pss_one (ps_set (i := 5) scfrounds.nd rfl (Or.inl rfl) (pe_md d_join T.cl (hr.mono (by omega)) (pv 0) (pa_cons pe_str (pa_cons (pe_df d_steps_from (hr.mono (by omega)) (pa_cons (pv 0) (pa_cons (pv 1) (pa_cons (pv 5) pa_nil)))) (pa_cons (pv 4) (pa_cons pe_dnewT pa_nil))))))))))
      (pss_one (ps_ret (pv 3)))))))))), ?_⟩
  refine ⟨_, rfl, b, rows, rfl, B, W, fun p0 H0 s0 hp0 _ => ?_⟩
  have B0 := B.mono s0
  refine ⟨_, rfl, b.p, b.dx, _, rfl, B0.ob, nmA _ _ (by decide +kernel), _, rfl, b, rows, st, rfl, B0, hst.1, ?_⟩
  refine ⟨_, rfl, _, rfl, (by show 1 ≤ sizeLine; decide), fun p1 hp1 => ?_⟩
  have s1 := Same.new hp1 (.lst [.int (n : Nat)])
  have q1 : upd H0 p1 (.lst [.int (n : Nat)]) p1 = some (.lst (nats_ [n])) := upd_same
  generalize upd H0 p1 (.lst [.int (n : Nat)]) = H1 at s1 q1 ⊢
  have B1 := B0.mono s1
  refine ⟨b, rows, p1, [n], rfl, B1, W, by omega, SqL.of q1, fun x hx => by rw [List.mem_singleton.mp hx]; exact nr, fun H2 s2 => ?_⟩
  have B2 := B1.mono s2
  refine ⟨Nat.zero_le _, fun o ho => ?_⟩
  have s3 := Same.new ho (.lst [])
  have o3 : upd H2 o (.lst []) o = some (.lst (nats_ [])) := upd_same
  generalize upd H2 o (.lst []) = H3 at s3 o3 ⊢
  have s03 : Same H H3 := s0.trans (s1.trans (s2.trans s3))
  have hoH : H o = none := by
    cases q : H o with
    | none => rfl
    | some u => rw [(s0.trans (s1.trans s2)) _ _ q] at ho; cases ho
  have one := B2.none_ne ho
  have B3 := B2.mono s3
  refine ⟨_, rfl, ?_⟩
  obtain ⟨KK, hK1, hK⟩ := DB.ex_K (nm b) E f
  have hK1 : KK ≤ 16 := Nat.le_trans hK1 (pow_now b)
  refine ⟨fun mm σ H' => ∃ (i fr sn : Nat) (rl : List Nat) (rows' : List Rw), σ = [some (.ref b.p), some (.int (st : Nat)), some (.int (n : Nat)), some (.ref o), some (.int (sn : Nat)), some (.int (fr : Nat))] ∧ mm + i = KK ∧ rl.length = i ∧
    DB.Grow b.marks rows rows' ∧ BkAt C b H' rows' ∧ K2 b.rl b.pl H H' ∧ rows'.length ≤ rows.length + 8929 * i ∧ H' o = some (.lst (nats_ rl)) ∧ Is rows' fr (fun e => (DB.rs (nm b) E f i).1 (nw b e)) ∧ Is rows' sn (fun e => (DB.rs (nm b) E f i).2 (nw b e)) ∧
    ∀ (j r : Nat), rl[j]? = some r → Is rows' r (fun e => (DB.rs (nm b) E f j).1 (nw b e)), ⟨KK, 0, n, 0, [], rows, rfl, rfl, rfl, .refl B.wf, B3, K2.of s03, by omega, o3, hn, ⟨by omega, fun e => DB.ev_zero e⟩, fun j r h => by simp at h⟩, ?_⟩
  rintro mm σ H4 ⟨i, fr, sn, rl, rows4, rfl, hmm, hrl, g4, B4, k4, l4, o4, hf, hs, hall⟩
  have zi := zero_iff B4 hf
  refine ⟨_, rfl, rfl, _, rfl, ?_⟩
  by_cases z : fr = 0
  · -- the last one
    refine iteNS (show V.int ((fr : Nat) : Int) = V.int 0 from by rw [z]; rfl) ?_
    have ie : i = KK := by
      refine Nat.le_antisymm (by omega) (Nat.le_of_not_lt fun c => ?_)
      have := hK.1 i c
      rw [zi.mp z] at this
      cases this
    exact ⟨_, rfl, k o rows4 H4 rl g4 B4 k4 (by omega) hoH o4 (by rw [hrl, ie]; exact hK) (by omega) hall⟩
  · have ib : i < KK := by
      refine Nat.lt_of_le_of_ne (by omega) fun c => z (zi.mpr ?_)
      rw [c]
      exact hK.2
    rw [show (!decide (V.int ((fr : Nat) : Int) = V.int 0)) = true from by rw [decide_eq_false (fun q => z (by have := V.int.inj q; omega))]; rfl]
    refine iteT ⟨fun σ' H' => ∃ (fr sn : Nat) (rl : List Nat) (rows' : List Rw), σ' = [some (.ref b.p), some (.int (st : Nat)), some (.int (n : Nat)), some (.ref o), some (.int (sn : Nat)), some (.int (fr : Nat))] ∧ rl.length = i + 1 ∧
      DB.Grow b.marks rows rows' ∧ BkAt C b H' rows' ∧ K2 b.rl b.pl H H' ∧ rows'.length ≤ rows.length + 8929 * (i + 1) ∧ H' o = some (.lst (nats_ rl)) ∧ Is rows' fr (fun e => (DB.rs (nm b) E f (i + 1)).1 (nw b e)) ∧ Is rows' sn (fun e => (DB.rs (nm b) E f (i + 1)).2 (nw b e)) ∧
      ∀ (j r : Nat), rl[j]? = some r → Is rows' r (fun e => (DB.rs (nm b) E f j).1 (nw b e)), ?_, ?_⟩
    · rintro σ' H' ⟨fr', sn', rl', rows', rfl, h⟩
      exact ⟨mm - 1, by omega, i + 1, fr', sn', rl', rows', rfl, by omega, h⟩
    refine ⟨_, rfl, .inl ⟨rfl, _, SqL.of o4⟩, _, rfl, o, _, _, rfl, rfl, o4, by rw [List.length_map]; exact small1000 (by omega), ?_⟩
    rw [nats_snoc]
    have B5 := B4.upd (u := .lst (nats_ (rl ++ [fr]))) o4 one.2.2.1 one.2.1
    have o5 : upd H4 o (.lst (nats_ (rl ++ [fr]))) o = some (.lst (nats_ (rl ++ [fr]))) := upd_same
    have k5 : K2 b.rl b.pl H (upd H4 o (.lst (nats_ (rl ++ [fr])))) := k4.mut hoH
    generalize upd H4 o (.lst (nats_ (rl ++ [fr]))) = H5 at B5 o5 k5 ⊢
    -- seen, fresh
    refine ⟨_, rfl, b.p, b.dx, _, rfl, B5.ob, nmA _ _ (by decide +kernel), _, rfl, _, rfl, fun q hq => ⟨b, rows4, _, _, _, _, _, q, _, _, rfl, rfl, hq, B5, tab_or, hs, hf, by omega, fun r6 rows6 H6 g6 B6 k6 l6 h6 _ => ?_⟩⟩
    refine ⟨_, rfl, b.p, b.dx, _, rfl, B6.ob, nmA _ _ (by decide +kernel), _, rfl, _, rfl, _, rfl, b, rows6, st, fr, E, _, rfl, B6, W, by omega, (hst.up g4).up g6, hf.up g6, fun r7 rows7 H7 g7 B7 k7 l7 h7 => ?_⟩
    refine ⟨_, rfl, fun q hq => ⟨b, rows7, _, _, _, _, _, q, _, _, rfl, rfl, hq, B7, tab_diff, h7, h6.up g7, by omega, fun r8 rows8 H8 g8 B8 k8 l8 h8 _ => ?_⟩⟩
    have g68 := g6.trans (g7.trans g8)
    refine ⟨r8, r6, rl ++ [fr], rows8, rfl, by simp [hrl], g4.trans g68, B8, k5.trans (k6.trans (k7.trans k8)), by omega, (k6.trans (k7.trans k8)).lst B5 o5 one.2.2.1, h8, (h6.up g7).up g8, fun j r hj => ?_⟩
    by_cases c : j < rl.length
    · rw [List.getElem?_append_left c] at hj
      exact (hall j r hj).up g68
    · rw [List.getElem?_append_right (by omega)] at hj
      have j0 : j - rl.length = 0 := by
        cases kk : j - rl.length with
        | zero => rfl
        | succ k' => rw [kk] at hj; simp at hj
      rw [j0] at hj
      have er : fr = r := by simpa using hj
      have ej : j = i := by omega
      subst er ej
      exact hf.up g68
/-! ### way_to -/
end
/-- at p a list of rows, all new behind H0 -/
structure LL (H0 H : Hp) (p : Addr) (as : List Addr) (ws : List DB.Ro) : Prop where
  at_ : H p = some (.lst (as.map V.ref))
  len : as.length = ws.length
  row : ∀ (i : Nat) (a : Addr) (r : DB.Ro), as[i]? = some a → ws[i]? = some r → H a = some (.lst (rowB r))
  newp : H0 p = none
  new : ∀ a ∈ as, H0 a = none
  out : p ∉ as
end DW


set_option maxHeartbeats 4000000
/-! way_to. -/
namespace DW
open PySem PySem.Spec PyProof.Rows L2
theorem cut_last (xs : List V) (y : V) : cutV (xs ++ [y]) none (some (-1)) = xs := by
  unfold cutV
  have e0 : HT.sIx (xs ++ [y]).length 0 none = 0 := rfl
  have e1 : HT.sIx (xs ++ [y]).length (xs ++ [y]).length (some (-1)) = xs.length := by
    simp [HT.sIx]
    omega
  rw [e0, e1]
  simp
theorem K2.none {rl pl : Addr} {b : Bk} {C : Addr} {H H' : Hp} {rows : List Rw} (k : K2 b.rl b.pl H H') (B : BkAt C b H' rows) {p : Addr} (h : H' p = Option.none) : H p = Option.none := by
  cases q : H p with
  | none => rfl
  | some o =>
    have ne := B.none_ne h
    rw [k p o q ne.2.2.1 ne.2.2.2] at h
    cases h
theorem prm_one {m : Nat} {E : DB.Ro → DB.Ro → Bool} {y : DB.Ro} (h : y.length = m) (x : DB.Ro) : prm m E (fun z => decide (z = y)) x = E x y := by
  unfold prm
  rw [Bool.eq_iff_iff, DB.any_allR]
  constructor
  · rintro ⟨r, _, q⟩
    rw [Bool.and_eq_true, decide_eq_true_eq] at q
    rw [← q.2]; exact q.1
  · intro q
    exact ⟨y, h, by rw [q]; show (true && decide (y = y)) = true; simp⟩
theorem LL.up {b : Bk} {C : Addr} {H0 H H' : Hp} {rows rows0 : List Rw} {p : Addr} {as : List Addr} {ws : List DB.Ro} (L : LL H0 H p as ws) (k : K2 b.rl b.pl H H') (B0 : BkAt C b H0 rows0) (B : BkAt C b H rows) : LL H0 H' p as ws :=
  ⟨k.lst B L.at_ (B0.none_ne L.newp).2.2.1, L.len, fun i a r h1 h2 => k.lst B (L.row i a r h1 h2) (B0.none_ne (L.new a (List.mem_of_getElem? h1))).2.2.1, L.newp, L.new, L.out⟩
def mee (m : Nat) (E : DB.Ro → DB.Ro → Bool) (f g : DB.Ro → Bool) (i : Nat) : Bool := DB.ne m fun x => (DB.rs m E f i).1 x && g x
def wyr (m : Nat) (E : DB.Ro → DB.Ro → Bool) (f g : DB.Ro → Bool) (i : Nat) : List DB.Ro := DB.bkl m E f i (DB.gre m fun x => (DB.rs m E f i).1 x && g x) []
def spWayTo (K : PySem.W.Frag) (C : Addr) : Sp := fun vs H Q _ => ∃ (b : Bk) (rows : List Rw) (st n go : Nat) (E : DB.Ro → DB.Ro → Bool) (f g : DB.Ro → Bool), vs = [.ref b.p, .int (st : Nat), .int (n : Nat), .int (go : Nat)] ∧ BkAt C b H rows ∧ WdS b.marks ∧ rows.length + 326000 ≤ LIM ∧
  Is rows st (fun e => E (nw b e) (tn b e)) ∧ Is rows n (fun e => f (nw b e)) ∧ Is rows go (fun e => g (nw b e)) ∧ NowRoom b rows n ∧ NowRoom b rows go ∧
  (∀ (KK : Nat) (rows' : List Rw) (H' : Hp), DB.Grow b.marks rows rows' → BkAt C b H' rows' → K2 b.rl b.pl H H' → rows'.length ≤ rows.length + 326000 → DB.IsK (nm b) E f KK → (∀ i, i < KK → mee (nm b) E f g i = false) → Q .non H') ∧
  (∀ (KK i : Nat) (rows' : List Rw) (H' : Hp) (p : Addr) (as : List Addr), DB.Grow b.marks rows rows' → BkAt C b H' rows' → K2 b.rl b.pl H H' → rows'.length ≤ rows.length + 326000 → DB.IsK (nm b) E f KK → i < KK → KK ≤ 16 → (∀ j, j < i → mee (nm b) E f g j = false) → mee (nm b) E f g i = true →
    LL H H' p as (wyr (nm b) E f g i) → Q (.ref p) H')
section
variable {P : Program} {w : World} {K : PySem.W.Frag} {mg : Str → Option Value} {base : Heap} {C : Addr}
theorem d_way_to (T : Tx w K mg C) (A : Has K mg "way_to" sfway_to) (d_now_marks : Df P w K mg base "now_marks" 1 ["book"] (spNowMarks C)) (d_ask_room : Md P w K mg base C "ask_room" 1 ["self", "number"] (spAskRoom C)) (d_ask_now : Df P w K mg base "ask_now" 3 ["book", "rooms"] (spAskNow K C))
    (d_join : Md P w K mg base C "join" 11 ["self", "table", "one", "other", "known"] (spJoinI C)) (d_rounds : Df P w K mg base "rounds" 15 ["book", "steps", "start"] (spRounds K C)) (d_first_row : Df P w K mg base "first_row" 12 ["book", "room"] (spFirstRow C))
    (d_steps_to : Df P w K mg base "steps_to" 14 ["book", "steps", "room"] (spStepsTo C)) (d_row_room : Df P w K mg base "row_room" 12 ["book", "row"] (spRowRoom C)) : Df P w K mg base "way_to" 16 ["book", "steps", "start", "goal"] (spWayTo K C) := by
  refine Df.of A scfway_to (fun vs H Q E h => ?_) (fun _ _ _ _ _ _ us hl => match us, hl with | [_, _, _, _], _ => rfl) (fun f cdv A outer s H vs Q E hr h => ?_)
  · obtain ⟨b, rows, st, n, go, E, f, g, rfl, _⟩ := h; rfl
  obtain ⟨b, rows, st, n, go, E, f, g, rfl, B, W, lim, hst, hn, hgo, nr, ng, kN, kW⟩ := h
  refine ⟨_, (pss_cons (ps_expr (pe_df d_now_marks (hr.mono (by omega)) (pa_cons (pv 0) pa_nil)))
      (pss_cons (ps_expr (pe_md d_ask_room T.cl (hr.mono (by omega)) (pv 0) (pa_cons (pv 1) pa_nil)))
      (pss_cons (ps_expr (pe_df d_ask_now (hr.mono (by omega)) (pa_cons (pv 0) (pa_cons (pe_lst (pa_cons (pv 2) (pa_cons (pv 3) pa_nil))) pa_nil))))
      (pss_cons (ps_set (i := 4) scfway_to.nd rfl (Or.inl rfl) (pe_lst pa_nil))
      (pss_cons (ps_for PassesOwn.never rfl (pi_list (pe_df d_rounds (hr.mono (by omega)) (pa_cons (pv 0) (pa_cons (pv 1) (pa_cons (pv 2) pa_nil))))) (pg_name (i := 5) scfway_to.nd rfl (Or.inl rfl)) (pss_cons (ps_expr (pe_bm PySem.F.plainAttrs_list PySem.F.slot_list_append PySem.F.type_list_append mt_append (pv 4) (pa_cons (pv 5) pa_nil)))
      (pss_one (ps_if (pt_cmpR op_ne (pe_md d_join T.cl (hr.mono (by omega)) (pv 0) (pa_cons pe_str (pa_cons (pv 5) (pa_cons (pv 3) (pa_cons pe_dnewT pa_nil))))) pe_int (nomark _)) (pss_cons (ps_set (i := 6) scfway_to.nd rfl (Or.inl rfl) (pe_lst (pa_cons (pe_df d_first_row (hr.mono (by omega)) (pa_cons (pv 0) (pa_cons (pe_md d_join T.cl (hr.mono (by omega)) (pv 0) (pa_cons pe_str (pa_cons (pv 5) (pa_cons (pv 3) (pa_cons pe_dnewT pa_nil))))) pa_nil))) pa_nil)))
      (pss_cons (ps_for PassesOwn.never rfl (pi_reversed (by rfl) T.reversed (pa_cons (pe_slice sl_list (pv 4) po_none (po_some (pe_un un_neg pe_int))) pa_nil)) (pg_name (i := 7) scfway_to.nd rfl (Or.inl rfl)) (pss_cons (ps_set (i := 8) scfway_to.nd rfl (Or.inl rfl) (pe_df d_steps_to (hr.mono (by omega)) (pa_cons (pv 0) (pa_cons (pv 1) (pa_cons (pe_df d_row_room (hr.mono (by omega)) (pa_cons (pv 0) (pa_cons (pe_ix ix_list (pv 6) pe_int (fun _ _ => rfl)) pa_nil))) pa_nil)))))
      (pss_one (ps_expr (pe_bm PySem.F.plainAttrs_list PySem.F.slot_list_insert PySem.F.type_list_insert mt_insert (pv 6) (pa_cons pe_int (pa_cons (pe_df d_first_row (hr.mono (by omega)) (pa_cons (pv 0) (pa_cons (pe_md d_join T.cl (hr.mono (by omega)) (pv 0) (pa_cons pe_str (pa_cons (pv 7) (pa_cons (pv 8) (pa_cons pe_dnewT pa_nil))))) pa_nil))) pa_nil)))))))
      (pss_one (ps_ret (pv 6))))) pss_nil))))
      (pss_one (ps_ret pe_non))))))), ?_⟩
  refine ⟨_, rfl, b, rows, rfl, B, W, fun p0 H0 s0 hp0 _ => ?_⟩
  have B0 := B.mono s0
  refine ⟨_, rfl, b.p, b.dx, _, rfl, B0.ob, nmA _ _ (by decide +kernel), _, rfl, b, rows, st, rfl, B0, hst.1, ?_⟩
  refine ⟨_, rfl, _, rfl, _, rfl, (by show 2 ≤ sizeLine; decide), fun p1 hp1 => ?_⟩
  have s1 := Same.new hp1 (.lst [.int (n : Nat), .int (go : Nat)])
  have q1 : upd H0 p1 (.lst [.int (n : Nat), .int (go : Nat)]) p1 = some (.lst (nats_ [n, go])) := upd_same
  generalize upd H0 p1 (.lst [.int (n : Nat), .int (go : Nat)]) = H1 at s1 q1 ⊢
  have B1 := B0.mono s1
  refine ⟨b, rows, p1, [n, go], rfl, B1, W, by omega, SqL.of q1, fun x hx => by rcases List.mem_cons.mp hx with rfl | hx; exact nr; rw [List.mem_singleton.mp hx]; exact ng, fun H2 s2 => ?_⟩
  have B2 := B1.mono s2
  refine ⟨Nat.zero_le _, fun o ho => ?_⟩
  have s3 := Same.new ho (.lst [])
  have o3 : upd H2 o (.lst []) o = some (.lst (nats_ [])) := upd_same
  generalize upd H2 o (.lst []) = H3 at s3 o3 ⊢
  have s03 : Same H H3 := s0.trans (s1.trans (s2.trans s3))
  have hoH : H o = none := by
    cases q : H o with
    | none => rfl
    | some u => rw [(s0.trans (s1.trans s2)) _ _ q] at ho; cases ho
  have one := B2.none_ne ho
  have B3 := B2.mono s3
  refine ⟨_, rfl, _, rfl, _, rfl, b, rows, st, n, E, f, rfl, B3, W, by omega, hst, hn, nr, fun pR rowsR HR rl gR BR kR lR hpR pRl isK few16 hall => ?_⟩
  have pne := B3.none_ne hpR
  have npo : pR ≠ o := fun z => by rw [z, o3] at hpR; cases hpR
  have oR := kR.lst B3 o3 one.2.2.1
  have goR := hgo.up gR
  refine ⟨pR, rfl, ⟨_, SqL.of pRl⟩, for_list (K := K) (a := pR) (xs := nats_ rl) (fun i σ H' => ∃ (v : Option V) (rows' : List Rw), σ = [some (.ref b.p), some (.int (st : Nat)), some (.int (n : Nat)), some (.int (go : Nat)), some (.ref o), v, none, none, none] ∧ DB.Grow b.marks rowsR rows' ∧ BkAt C b H' rows' ∧
    K2 b.rl b.pl H H' ∧ rows'.length ≤ rowsR.length + 255 * i ∧ H' o = some (.lst (nats_ (rl.take i))) ∧ H' pR = some (.lst (nats_ rl)) ∧ ∀ j, j < i → mee (nm b) E f g j = false) ⟨none, rowsR, rfl, .refl BR.wf, BR, (K2.of s03).trans kR, by omega, oR, pRl, fun j hj => absurd hj (Nat.not_lt_zero _)⟩
    (fun i σ H' _ ⟨_, _, _, _, _, _, _, _, h, _⟩ => SqL.of h) ?_ ?_⟩
  · rintro i y σ H4 hy ⟨v, rows4, rfl, g4, B4, k4, l4, o4, p4, hno⟩
    obtain ⟨fr, hfr, rfl⟩ := map_nat_at hy
    have il := (List.getElem?_eq_some_iff.mp hfr).1
    have hF := (hall i fr hfr).up g4
    have hG := goR.up g4
    have tk : rl.take (i + 1) = rl.take i ++ [fr] := DB.take_snoc hfr
    refine ⟨_, rfl, .inl ⟨rfl, _, SqL.of o4⟩, _, rfl, o, _, _, rfl, rfl, o4, by rw [List.length_map]; have := List.length_take_le i rl; exact small1000 (by omega), ?_⟩
    rw [nats_snoc, ← tk]
    have B5 := B4.upd (u := .lst (nats_ (rl.take (i + 1)))) o4 one.2.2.1 one.2.1
    have o5 : upd H4 o (.lst (nats_ (rl.take (i + 1)))) o = some (.lst (nats_ (rl.take (i + 1)))) := upd_same
    have p5 : upd H4 o (.lst (nats_ (rl.take (i + 1)))) pR = some (.lst (nats_ rl)) := by rw [upd_ne npo]; exact p4
    have k5 : K2 b.rl b.pl H (upd H4 o (.lst (nats_ (rl.take (i + 1))))) := k4.mut hoH
    generalize upd H4 o (.lst (nats_ (rl.take (i + 1)))) = H5 at B5 o5 p5 k5 ⊢
    refine ⟨_, rfl, b.p, b.dx, _, rfl, B5.ob, nmA _ _ (by decide +kernel), _, rfl, _, rfl, fun q hq => ⟨b, rows4, _, _, _, _, _, q, _, _, rfl, rfl, hq, B5, tab_and, hF, hG, by omega, fun r6 rows6 H6 g6 B6 k6 l6 h6 _ => ?_⟩⟩
    have z6 := zero_iff (g := fun x => (DB.rs (nm b) E f i).1 x && g x) B6 h6
    have o6 := k6.lst B5 o5 one.2.2.1
    have p6 := k6.lst B5 p5 pne.2.2.1
    refine ⟨rfl, _, rfl, ?_⟩
    by_cases z : r6 = 0
    · refine iteNS (show V.int ((r6 : Nat) : Int) = V.int 0 from by rw [z]; rfl) ?_
      refine ⟨_, rows6, rfl, g4.trans g6, B6, k5.trans k6, by omega, o6, p6, fun j hj => ?_⟩
      by_cases c : j < i
      · exact hno j c
      · have : j = i := by omega
        rw [this]
        exact z6.mp z
    rw [show (!decide (V.int ((r6 : Nat) : Int) = V.int 0)) = true from by rw [decide_eq_false (fun q => z (by have := V.int.inj q; omega))]; rfl]
    have hmee : mee (nm b) E f g i = true := by
      cases q : mee (nm b) E f g i with
      | true => rfl
      | false => exact absurd (z6.mpr q) z
    refine iteT ?_
    -- rows = [first_row(..)]
    refine ⟨_, rfl, _, rfl, b.p, b.dx, _, rfl, B6.ob, nmA _ _ (by decide +kernel), _, rfl, _, rfl, fun q hq => ⟨b, rows6, _, _, _, _, _, q, _, _, rfl, rfl, hq, B6, tab_and, hF.up g6, hG.up g6, by omega, fun r7 rows7 H7 g7 B7 k7 l7 h7 _ => ?_⟩⟩
    refine ⟨b, rows7, r7, fun x => (DB.rs (nm b) E f i).1 x && g x, rfl, B7, W, by omega, h7, fun a8 rows8 H8 g8 B8 k8 l8 ha8 a8l => ?_⟩
    refine ⟨(by show 1 ≤ sizeLine; decide), fun u hu => ?_⟩
    have k08 : K2 b.rl b.pl H H8 := k5.trans (k6.trans (k7.trans k8))
    have s9 := Same.new hu (.lst [.ref a8])
    have u9 : upd H8 u (.lst [.ref a8]) u = some (.lst ([a8].map V.ref)) := upd_same
    have a9 := s9 _ _ a8l
    generalize upd H8 u (.lst [.ref a8]) = H9 at s9 u9 a9 ⊢
    have B9 := B8.mono s9
    have k09 : K2 b.rl b.pl H H9 := k08.trans (K2.of s9)
    have k07 : K2 b.rl b.pl H H7 := k5.trans (k6.trans k7)
    have L9 : LL H H9 u [a8] [DB.gre (nm b) fun x => (DB.rs (nm b) E f i).1 x && g x] := by
      refine ⟨u9, rfl, fun j a r h1 h2 => ?_, k08.none (rl := b.rl) (pl := b.pl) B8 hu, fun a ha => ?_, fun z => ?_⟩
      · cases j with
        | zero =>
          have e1 : a8 = a := by simpa using h1
          have e2 := Option.some.inj (show some (DB.gre (nm b) fun x => (DB.rs (nm b) E f i).1 x && g x) = some r from h2)
          rw [← e1, ← e2]
          exact a9
        | succ j => simp at h1
      · rw [List.mem_singleton.mp ha]
        exact k07.none (rl := b.rl) (pl := b.pl) B7 ha8
      · rw [List.mem_singleton.mp z, a8l] at hu
        cases hu
    have o9 := (k7.trans (k8.trans (K2.of s9))).lst B6 o6 one.2.2.1
    -- reversed(met[:-1])
    refine ⟨_, rfl, _, rfl, _, rfl, o, _, rfl, SqL.of o9, fun c hc => ?_⟩
    have ecut : cutV (nats_ (rl.take (i + 1))) none (some (-1)) = nats_ (rl.take i) := by
      rw [tk, ← nats_snoc]
      exact cut_last _ _
    rw [show (-1 : Int) = -1 from rfl] at *
    rw [ecut]
    have s10 := Same.new hc (.lst (nats_ (rl.take i)))
    have c10 : upd H9 c (.lst (nats_ (rl.take i))) c = some (.lst (nats_ (rl.take i))) := upd_same
    generalize upd H9 c (.lst (nats_ (rl.take i))) = H10 at s10 c10 ⊢
    have B10 := B9.mono s10
    have k010 : K2 b.rl b.pl H H10 := k09.trans (K2.of s10)
    have cne := B9.none_ne hc
    have L10 := L9.up (K2.of s10) B B9
    have lt : (nats_ (rl.take i)).length = i := by rw [List.length_map, List.length_take]; omega
    have g610 := g4.trans (g6.trans (g7.trans g8))
    refine ⟨c, _, rfl, SqL.of c10, for_back (K := K) (a := c) (xs := nats_ (rl.take i)) (fun j σ H' => ∃ (y : DB.Ro) (acc : List DB.Ro) (as : List Addr) (rows' : List Rw) (v7 v8 : Option V), σ = [some (.ref b.p), some (.int (st : Nat)), some (.int (n : Nat)), some (.int (go : Nat)), some (.ref o), some (.int (fr : Nat)), some (.ref u), v7, v8] ∧
      DB.Grow b.marks rows8 rows' ∧ BkAt C b H' rows' ∧ K2 b.rl b.pl H H' ∧ rows'.length ≤ rows8.length + 11738 * j ∧ H' c = some (.lst (nats_ (rl.take i))) ∧ LL H H' u as (y :: acc) ∧ y.length = nm b ∧ j ≤ i ∧ wyr (nm b) E f g i = DB.bkl (nm b) E f (i - j) y acc)
      ⟨_, [], [a8], rows8, none, none, rfl, .refl B8.wf, B10, k010, by omega, c10, L10, DB.len_gre _ _, Nat.zero_le _, rfl⟩ (fun j σ H' ⟨_, _, _, _, _, _, _, _, _, _, _, h, _⟩ => SqL.of h) ?_ ?_⟩
    · rintro j z σ H11 hj hz ⟨y, acc, as, rows11, v7, v8, rfl, g11, B11, k11, l11, c11, L11, hyl, hji, hw⟩
      rw [lt] at hj hz
      obtain ⟨el, hel, rfl⟩ := map_nat_at hz
      rw [List.getElem?_take] at hel
      have hel : rl[i - 1 - j]? = some el := by
        split at hel
        · exact hel
        · cases hel
      have hE := ((hall _ el hel).up g610).up g11
      obtain ⟨a0, as', rfl⟩ : ∃ a0 as', as = a0 :: as' := by
        cases as with
        | nil => have := L11.len; simp at this
        | cons a0 as' => exact ⟨a0, as', rfl⟩
      have a0l := L11.row 0 a0 y rfl rfl
      have a0n := L11.new a0 List.mem_cons_self
      -- back = steps_to(book, steps, row_room(book, rows[0]))
      refine ⟨_, rfl, _, rfl, _, rfl, _, rfl, u, _, _, .ref a0, rfl, rfl, SqL.of L11.at_, (atI_nat (xs := (a0 :: as').map V.ref) (j := 0) rfl), b, rows11, a0, y, rfl, B11, W, by omega, a0l, (B.none_ne a0n).2.2.1, hyl, fun r12 rows12 H12 g12 B12 k12 l12 h12 => ?_⟩
      refine ⟨b, rows12, st, r12, E, fun x => decide (x = y), rfl, B12, W, by omega, (((hst.up gR).up g610).up g11).up g12, h12, fun r13 rows13 H13 g13 B13 k13 l13 h13 => ?_⟩
      have k1113 := k12.trans k13
      have L13 := L11.up k1113 B B11
      -- rows.insert(0, first_row(..))
      refine ⟨_, rfl, .inl ⟨rfl, _, SqL.of L13.at_⟩, _, rfl, _, rfl, b.p, b.dx, _, rfl, B13.ob, nmA _ _ (by decide +kernel), _, rfl, _, rfl, fun q hq => ⟨b, rows13, _, _, _, _, _, q, _, _, rfl, rfl, hq, B13, tab_and, (hE.up g12).up g13, h13, by omega, fun r14 rows14 H14 g14 B14 k14 l14 h14 _ => ?_⟩⟩
      refine ⟨b, rows14, r14, fun x => (DB.rs (nm b) E f (i - 1 - j)).1 x && prm (nm b) E (fun z => decide (z = y)) x, rfl, B14, W, by omega, h14, fun a15 rows15 H15 g15 B15 k15 l15 ha15 a15l => ?_⟩
      have L14 := L13.up k14 B B13
      have L15 := L14.up k15 B B14
      have ef : (fun x => (DB.rs (nm b) E f (i - 1 - j)).1 x && prm (nm b) E (fun z => decide (z = y)) x) = fun x => (DB.rs (nm b) E f (i - 1 - j)).1 x && E x y := by
        funext x
        rw [prm_one hyl]
      rw [ef] at a15l
      have na15 : H a15 = none := (k11.trans (k1113.trans k14)).none (rl := b.rl) (pl := b.pl) B14 ha15
      have une := B.none_ne L15.newp
      refine ⟨u, _, _, _, rfl, rfl, L15.at_, ?_, Int.le_refl 0, by decide, ?_⟩
      · rw [List.length_map, L15.len]
        have := congrArg List.length hw
        have hb := DB.bkl_len (nm b) E f (i - j) y acc
        have hb2 := DB.bkl_len (nm b) E f i (DB.gre (nm b) fun x => (DB.rs (nm b) E f i).1 x && g x) []
        unfold wyr at this
        rw [hb, hb2] at this
        simp at this
        exact small1000 (by simp; omega)
      have eins : ((a0 :: as').map V.ref).take (0 : Int).toNat ++ [V.ref a15] ++ ((a0 :: as').map V.ref).drop (0 : Int).toNat = (a15 :: a0 :: as').map V.ref := rfl
      rw [eins]
      have B16 := B15.upd (u := .lst ((a15 :: a0 :: as').map V.ref)) L15.at_ une.2.2.1 une.2.1
      have k16 : K2 b.rl b.pl H (upd H15 u (.lst ((a15 :: a0 :: as').map V.ref))) := (k11.trans (k1113.trans (k14.trans k15))).mut L15.newp
      have ncu : c ≠ u := fun zz => by
        have := L11.at_
        rw [← zz, c11] at this
        have := HO.lst.inj (Option.some.inj this)
        cases hh : rl.take i with
        | nil => rw [hh] at this; simp at this
        | cons x xs => rw [hh] at this; simp at this
      have c16 : upd H15 u (.lst ((a15 :: a0 :: as').map V.ref)) c = some (.lst (nats_ (rl.take i))) := by
        rw [upd_ne ncu]
        exact (k1113.trans (k14.trans k15)).lst B11 c11 cne.2.2.1
      have nau : a15 ≠ u := fun zz => by
        have := L14.at_
        rw [← zz, ha15] at this
        cases this
      have L16 : LL H (upd H15 u (.lst ((a15 :: a0 :: as').map V.ref))) u (a15 :: a0 :: as') ((DB.gre (nm b) fun x => (DB.rs (nm b) E f (i - 1 - j)).1 x && E x y) :: y :: acc) := by
        refine ⟨upd_same, by simp [L15.len], fun t a r h1 h2 => ?_, L15.newp, fun a ha => ?_, fun zz => ?_⟩
        · cases t with
          | zero =>
            have e1 : a15 = a := by simpa using h1
            have e2 := Option.some.inj (show some (DB.gre (nm b) fun x => (DB.rs (nm b) E f (i - 1 - j)).1 x && E x y) = some r from h2)
            rw [← e1, ← e2, upd_ne nau]
            exact a15l
          | succ t =>
            have := L15.row t a r h1 h2
            have an : a ≠ u := fun zz => L15.out (zz ▸ (List.mem_of_getElem? (l := a0 :: as') (i := t) h1))
            rw [upd_ne an]
            exact this
        · rcases List.mem_cons.mp ha with rfl | ha
          · exact na15
          · exact L15.new a ha
        · rcases List.mem_cons.mp zz with zz | zz
          · exact nau zz.symm
          · exact L15.out zz
      refine ⟨_, _, _, rows15, _, _, rfl, g11.trans (g12.trans (g13.trans (g14.trans g15))), B16, k16, by omega, c16, L16, DB.len_gre _ _, by omega, ?_⟩
      rw [hw]
      have : i - j = (i - 1 - j) + 1 := by omega
      rw [this]
      show DB.bkl (nm b) E f (i - 1 - j) _ _ = DB.bkl (nm b) E f (i - (j + 1)) _ _
      have : i - 1 - j = i - (j + 1) := by omega
      rw [this]
    · rintro σ H11 ⟨y, acc, as, rows11, v7, v8, rfl, g11, B11, k11, l11, c11, L11, hyl, hji, hw⟩
      rw [lt] at l11 hw
      rw [Nat.sub_self] at hw
      have hw : wyr (nm b) E f g i = y :: acc := hw
      have := few16
      refine ⟨_, rfl, kW rl.length i rows11 H11 u as (gR.trans (g610.trans g11)) B11 k11 (by omega) isK il few16 hno hmee (by rw [hw]; exact L11)⟩
  · rintro σ H4 ⟨v, rows4, rfl, g4, B4, k4, l4, o4, p4, hno⟩
    rw [List.length_map] at l4 hno
    exact kN rl.length rows4 H4 (gR.trans g4) B4 k4 (by omega) isK hno
end
end DW


set_option maxHeartbeats 4000000
/-! is_step, way_shows. -/
namespace DW
open PySem PySem.Spec PyProof.Rows L2
theorem scfis_step : FnScope ["book", "steps", "row", "other", "there", "both"] ["book", "steps", "row", "other"] (defScope sfis_step) := ⟨rfl, rfl, rfl, by decide +kernel, rfl, by decide +kernel, by decide +kernel⟩
theorem scfway_shows : FnScope ["book", "steps", "start", "goal", "rows", "marks", "row", "value", "k"] ["book", "steps", "start", "goal", "rows"] (defScope sfway_shows) := ⟨rfl, rfl, rfl, by decide +kernel, rfl, by decide +kernel, by decide +kernel⟩
theorem tYif {σ : L2.St} {H : Hp} {A B : Hp → Prop} (h : A H) : tYes σ H (fun b H' => if b = true then A H' else B H') := by
  show if true = true then A H else B H
  rw [if_pos rfl]
  exact h
def spIsStep (C : Addr) : Sp := fun vs H Q _ => ∃ (b : Bk) (rows : List Rw) (st : Nat) (a1 a2 : Addr) (r1 r2 : DB.Ro) (E : DB.Ro → DB.Ro → Bool), vs = [.ref b.p, .int (st : Nat), .ref a1, .ref a2] ∧ BkAt C b H rows ∧ WdS b.marks ∧ rows.length + 7662 ≤ LIM ∧
  Is rows st (fun e => E (nw b e) (tn b e)) ∧ H a1 = some (.lst (rowB r1)) ∧ a1 ≠ b.rl ∧ r1.length = nm b ∧ H a2 = some (.lst (rowB r2)) ∧ a2 ≠ b.rl ∧ r2.length = nm b ∧
  ∀ (rows' : List Rw) (H' : Hp), DB.Grow b.marks rows rows' → BkAt C b H' rows' → K2 b.rl b.pl H H' → rows'.length ≤ rows.length + 7662 → Q (.bl (E r1 r2)) H'
def spWayShows (K : PySem.W.Frag) (C : Addr) : Sp := fun vs H Q _ => ∃ (b : Bk) (rows : List Rw) (st n go : Nat) (p : Addr) (as : List Addr) (ws : List DB.Ro) (y0 y1 : DB.Ro) (E : DB.Ro → DB.Ro → Bool) (f g : DB.Ro → Bool), vs = [.ref b.p, .int (st : Nat), .int (n : Nat), .int (go : Nat), .ref p] ∧ BkAt C b H rows ∧ WdS b.marks ∧ rows.length + 120000 ≤ LIM ∧
  Is rows st (fun e => E (nw b e) (tn b e)) ∧ Is rows n (fun e => f (nw b e)) ∧ Is rows go (fun e => g (nw b e)) ∧ NowRoom b rows n ∧ NowRoom b rows go ∧
  H p = some (.lst (as.map V.ref)) ∧ p ≠ b.rl ∧ as.length = ws.length ∧ ws.length ≤ 16 ∧ (∀ (i : Nat) (a : Addr) (r : DB.Ro), as[i]? = some a → ws[i]? = some r → H a = some (.lst (rowB r)) ∧ a ≠ b.rl) ∧ (∀ r ∈ ws, r.length = nm b) ∧
  ws[0]? = some y0 ∧ f y0 = true ∧ ws[ws.length - 1]? = some y1 ∧ g y1 = true ∧ (∀ (i : Nat) (x y : DB.Ro), ws[i]? = some x → ws[i + 1]? = some y → E x y = true) ∧
  ∀ (rows' : List Rw) (H' : Hp), DB.Grow b.marks rows rows' → BkAt C b H' rows' → K2 b.rl b.pl H H' → rows'.length ≤ rows.length + 120000 → Q (.bl true) H'
section
variable {P : Program} {w : World} {K : PySem.W.Frag} {mg : Str → Option Value} {base : Heap} {C : Addr}
theorem d_is_step (T : Tx w K mg C) (A : Has K mg "is_step" sfis_step) (d_as_then : Df P w K mg base "as_then" 13 ["book", "room"] (spAsThen C)) (d_row_room : Df P w K mg base "row_room" 12 ["book", "row"] (spRowRoom C))
    (d_join : Md P w K mg base C "join" 11 ["self", "table", "one", "other", "known"] (spJoinI C)) : Df P w K mg base "is_step" 14 ["book", "steps", "row", "other"] (spIsStep C) := by
  refine Df.of A scfis_step (fun vs H Q E h => ?_) (fun _ _ _ _ _ _ us hl => match us, hl with | [_, _, _, _], _ => rfl) (fun f cdv A outer s H vs Q E hr h => ?_)
  · obtain ⟨b, rows, st, a1, a2, r1, r2, E, rfl, _⟩ := h; rfl
  obtain ⟨b, rows, st, a1, a2, r1, r2, E, rfl, B, W, lim, hst, h1, n1, l1, h2, n2, l2, k⟩ := h
  refine ⟨_, (pss_cons (ps_set (i := 4) scfis_step.nd rfl (Or.inl rfl) (pe_df d_as_then (hr.mono (by omega)) (pa_cons (pv 0) (pa_cons (pe_df d_row_room (hr.mono (by omega)) (pa_cons (pv 0) (pa_cons (pv 3) pa_nil))) pa_nil))))
      (pss_cons (ps_set (i := 5) scfis_step.nd rfl (Or.inl rfl) (pe_md d_join T.cl (hr.mono (by omega)) (pv 0) (pa_cons pe_str (pa_cons (pe_df d_row_room (hr.mono (by omega)) (pa_cons (pv 0) (pa_cons (pv 2) pa_nil))) (pa_cons (pv 4) (pa_cons pe_dnewT pa_nil))))))
      (pss_one (ps_ret (pe_cmpR op_ne (pe_md d_join T.cl (hr.mono (by omega)) (pv 0) (pa_cons pe_str (pa_cons (pv 1) (pa_cons (pv 5) (pa_cons pe_dnewT pa_nil))))) pe_int (nomark _)))))), ?_⟩
  have D := W.wd
  refine ⟨_, rfl, _, rfl, _, rfl, b, rows, a2, r2, rfl, B, W, by omega, h2, n2, l2, fun r3 rows3 H3 g3 B3 k3 q3 h3 => ?_⟩
  refine ⟨b, rows3, r3, fun x => decide (x = r2), rfl, B3, W, by omega, h3, fun r4 rows4 H4 g4 B4 k4 q4 h4 => ?_⟩
  have k04 := k3.trans k4
  refine ⟨_, rfl, b.p, b.dx, _, rfl, B4.ob, nmA _ _ (by decide +kernel), _, rfl, _, rfl, b, rows4, a1, r1, rfl, B4, W, by omega, k04.lst B h1 n1, n1, l1, fun r5 rows5 H5 g5 B5 k5 q5 h5 => ?_⟩
  refine ⟨_, rfl, fun q hq => ⟨b, rows5, _, _, _, _, _, q, _, _, rfl, rfl, hq, B5, tab_and, h5, h4.up g5, by omega, fun r6 rows6 H6 g6 B6 k6 q6 h6 _ => ?_⟩⟩
  have g06 := g3.trans (g4.trans (g5.trans g6))
  refine ⟨_, rfl, b.p, b.dx, _, rfl, B6.ob, nmA _ _ (by decide +kernel), _, rfl, _, rfl, fun q hq => ⟨b, rows6, _, _, _, _, _, q, _, _, rfl, rfl, hq, B6, tab_and, hst.up g06, h6, by omega, fun r7 rows7 H7 g7 B7 k7 q7 h7 _ => ?_⟩⟩
  refine ⟨rfl, ?_⟩
  have e : (!decide (V.int ((r7 : Nat) : Int) = V.int 0)) = E r1 r2 := by
    by_cases z : r7 = 0
    · rw [decide_eq_true (by rw [z]; rfl)]
      have : DB.ev rows7 r7 (DB.pe (nowL b.marks) (thnL b.marks) r1 r2) = (E (nw b (DB.pe (nowL b.marks) (thnL b.marks) r1 r2)) (tn b (DB.pe (nowL b.marks) (thnL b.marks) r1 r2)) && (decide (nw b (DB.pe (nowL b.marks) (thnL b.marks) r1 r2) = r1) && decide (tn b (DB.pe (nowL b.marks) (thnL b.marks) r1 r2) = r2))) := h7.2 _
      rw [z, DB.ev_zero] at this
      have e1 : nw b (DB.pe (nowL b.marks) (thnL b.marks) r1 r2) = r1 := DB.pe_now D l1
      have e2 : tn b (DB.pe (nowL b.marks) (thnL b.marks) r1 r2) = r2 := DB.pe_thn D l2
      rw [e1, e2, decide_eq_true rfl, decide_eq_true rfl] at this
      rw [show E r1 r2 = false by simpa using this.symm]
      rfl
    · rw [decide_eq_false (fun q => z (by have := V.int.inj q; omega))]
      cases c : E r1 r2 with
      | true => rfl
      | false =>
        refine absurd (DB.zero_of B7.wf r7 h7.1 fun e => ?_) z
        rw [h7.2]
        show (E (nw b e) (tn b e) && (decide (nw b e = r1) && decide (tn b e = r2))) = false
        by_cases c1 : nw b e = r1
        · by_cases c2 : tn b e = r2
          · rw [c1, c2, c]; rfl
          · rw [decide_eq_false c2]; simp
        · rw [decide_eq_false c1]; simp
  rw [e]
  exact k rows7 H7 (g06.trans g7) B7 (k04.trans (k5.trans (k6.trans k7))) (by omega)
theorem d_way_shows (T : Tx w K mg C) (A : Has K mg "way_shows" sfway_shows) (d_now_marks : Df P w K mg base "now_marks" 1 ["book"] (spNowMarks C)) (d_ask_room : Md P w K mg base C "ask_room" 1 ["self", "number"] (spAskRoom C)) (d_ask_now : Df P w K mg base "ask_now" 3 ["book", "rooms"] (spAskNow K C))
    (d_join : Md P w K mg base C "join" 11 ["self", "table", "one", "other", "known"] (spJoinI C)) (d_row_room : Df P w K mg base "row_room" 12 ["book", "row"] (spRowRoom C)) (d_is_step : Df P w K mg base "is_step" 14 ["book", "steps", "row", "other"] (spIsStep C)) : Df P w K mg base "way_shows" 15 ["book", "steps", "start", "goal", "rows"] (spWayShows K C) := by
  refine Df.of A scfway_shows (fun vs H Q E h => ?_) (fun _ _ _ _ _ _ us hl => match us, hl with | [_, _, _, _, _], _ => rfl) (fun f cdv A outer s H vs Q E hr h => ?_)
  · obtain ⟨b, rows, st, n, go, p, as, ws, y0, y1, E, f, g, rfl, _⟩ := h; rfl
  obtain ⟨b, rows, st, n, go, p, as, ws, y0, y1, E, f, g, rfl, B, W, lim, hst, hn, hgo, nr, ng, hp, pne, hlen, few, hrow, hwl, e0, f0, e1, g1, hE, k⟩ := h
  refine ⟨_, (pss_cons (ps_set (i := 5) scfway_shows.nd rfl (Or.inl rfl) (pe_df d_now_marks (hr.mono (by omega)) (pa_cons (pv 0) pa_nil)))
      (pss_cons (ps_expr (pe_md d_ask_room T.cl (hr.mono (by omega)) (pv 0) (pa_cons (pv 1) pa_nil)))
      (pss_cons (ps_expr (pe_df d_ask_now (hr.mono (by omega)) (pa_cons (pv 0) (pa_cons (pe_lst (pa_cons (pv 2) (pa_cons (pv 3) pa_nil))) pa_nil))))
      (pss_cons (ps_for PassesOwn.never rfl (pi_list (pv 4)) (pg_name (i := 6) scfway_shows.nd rfl (Or.inl rfl)) (pss_one (ps_if (PW.pt (pw_or (pt_cmpR op_ne (pe_callB call_len_seq (by rfl) T.len (by decide +kernel) (pa_cons (pv 6) pa_nil)) (pe_callB call_len_seq (by rfl) T.len (by decide +kernel) (pa_cons (pv 5) pa_nil)) (nomark _)) (pw_or1 (pt_not (pt_val (pe_callB (cr_all rfl) (by rfl) T.all (by decide +kernel) (pa_cons (pe_lc (own := [("value", 7)]) (g := gName 7) (tt := tYes) rfl scfway_shows.nd (pi_list (pv 6)) (blkOk_by (own := [("value", 7)]) (N := ["book", "steps", "start", "goal", "rows", "marks", "row", "value", "k"]) (sc := defScope sfway_shows) (by decide +kernel)) (fun _ _ _ _ _ => pg_name (i := 7) scfway_shows.nd rfl (Or.inl rfl)) (fun _ _ _ _ _ => pts_nil) (fun _ _ _ _ _ => (pe_cmpR (op_in_seqK (K := K) rfl) (pv 7) (pe_tup (pa_cons pe_int (pa_cons pe_int pa_nil))) (by rfl)))) pa_nil))))))) (pss_one ps_never) pss_nil)))
      (pss_cons (ps_if (pt_cmpR op_eq (pe_callB call_len_seq (by rfl) T.len (by decide +kernel) (pa_cons (pv 4) pa_nil)) pe_int (nomark _)) (pss_one (ps_ret pe_bl)) pss_nil)
      (pss_cons (ps_if (pt_cmpR op_eq (pe_md d_join T.cl (hr.mono (by omega)) (pv 0) (pa_cons pe_str (pa_cons (pv 2) (pa_cons (pe_df d_row_room (hr.mono (by omega)) (pa_cons (pv 0) (pa_cons (pe_ix ix_list (pv 4) pe_int (fun _ _ => rfl)) pa_nil))) (pa_cons pe_dnewT pa_nil))))) pe_int (nomark _)) (pss_one (ps_ret pe_bl)) pss_nil)
      (pss_cons (ps_if (pt_cmpR op_eq (pe_md d_join T.cl (hr.mono (by omega)) (pv 0) (pa_cons pe_str (pa_cons (pv 3) (pa_cons (pe_df d_row_room (hr.mono (by omega)) (pa_cons (pv 0) (pa_cons (pe_ix ix_list (pv 4) (pe_un un_neg pe_int) (fun _ _ => rfl)) pa_nil))) (pa_cons pe_dnewT pa_nil))))) pe_int (nomark _)) (pss_one (ps_ret pe_bl)) pss_nil)
      (pss_one (ps_ret (pe_callB (cr_all rfl) (by rfl) T.all (by decide +kernel) (pa_cons (pe_lc (own := [("k", 8)]) (g := gName 8) (tt := tYes) rfl scfway_shows.nd (pi_range1 (by rfl) T.range (pa_cons (pe_op op_sub (pe_callB call_len_seq (by rfl) T.len (by decide +kernel) (pa_cons (pv 4) pa_nil)) pe_int) pa_nil)) (blkOk_by (own := [("k", 8)]) (N := ["book", "steps", "start", "goal", "rows", "marks", "row", "value", "k"]) (sc := defScope sfway_shows) (by decide +kernel)) (fun _ _ _ _ _ => pg_name (i := 8) scfway_shows.nd rfl (Or.inl rfl)) (fun _ _ _ _ _ => pts_nil) (fun _ _ _ _ _ => (pe_df d_is_step (hr.mono (by omega)) (pa_cons (pv 0) (pa_cons (pv 1) (pa_cons (pe_ix (ix_listK (K := K) rfl) (pv 4) (pv 8) (fun _ _ => rfl)) (pa_cons (pe_ix (ix_listK (K := K) rfl) (pv 4) (pe_op op_add (pv 8) pe_int) (fun _ _ => rfl)) pa_nil))))))) pa_nil))))))))))), ?_⟩
  have D := W.wd
  have fewm := nowL_few b.marks
  refine ⟨_, rfl, b, rows, rfl, B, W, fun m0 H0 s0 hm0 m0l => ?_⟩
  have B0 := B.mono s0
  refine ⟨_, rfl, b.p, b.dx, _, rfl, B0.ob, nmA _ _ (by decide +kernel), _, rfl, b, rows, st, rfl, B0, hst.1, ?_⟩
  refine ⟨_, rfl, _, rfl, _, rfl, (by show 2 ≤ sizeLine; decide), fun p1 hp1 => ?_⟩
  have s1 := Same.new hp1 (.lst [.int (n : Nat), .int (go : Nat)])
  have q1 : upd H0 p1 (.lst [.int (n : Nat), .int (go : Nat)]) p1 = some (.lst (nats_ [n, go])) := upd_same
  generalize upd H0 p1 (.lst [.int (n : Nat), .int (go : Nat)]) = H1 at s1 q1 ⊢
  have B1 := B0.mono s1
  refine ⟨b, rows, p1, [n, go], rfl, B1, W, by omega, SqL.of q1, fun x hx => by rcases List.mem_cons.mp hx with rfl | hx; exact nr; rw [List.mem_singleton.mp hx]; exact ng, fun H2 s2 => ?_⟩
  have s12 := s1.trans s2
  have s02 := s0.trans s12
  have m2 := s12 _ _ m0l
  have p2 := s02 _ _ hp
  have rowAt : ∀ i a, as[i]? = some a → ∃ r, ws[i]? = some r ∧ r.length = nm b ∧ H a = some (.lst (rowB r)) ∧ a ≠ b.rl := fun i a ha => by
    have il := (List.getElem?_eq_some_iff.mp ha).1
    have hw := List.getElem?_eq_getElem (l := ws) (i := i) (by omega)
    exact ⟨_, hw, hwl _ (List.mem_of_getElem? hw), hrow i a _ ha hw⟩
  refine ⟨_, rfl, p, rfl, ⟨_, SqL.of p2⟩, for_list (K := K) (a := p) (xs := as.map V.ref) (fun i σ H' => ∃ v, σ = [some (.ref b.p), some (.int (st : Nat)), some (.int (n : Nat)), some (.int (go : Nat)), some (.ref p), some (.ref m0), v, none, none] ∧ Same H2 H') ⟨none, rfl, Same.refl _⟩ (fun i σ H' _ ⟨_, _, e⟩ => SqL.of (e _ _ p2)) ?_ ?_⟩
  · rintro i y σ H3 hy ⟨v, rfl, s3⟩
    rw [List.getElem?_map] at hy
    obtain ⟨a, ha, rfl⟩ := Option.map_eq_some_iff.mp hy
    obtain ⟨r, hr1, hr2, hr3, hr4⟩ := rowAt i a ha
    have a3 := s3 _ _ (s02 _ _ hr3)
    refine ⟨_, rfl, a, _, rfl, .inl (SqL.of a3), _, rfl, m0, _, rfl, .inl (SqL.of (s3 _ _ m2)), rfl, ?_⟩
    have el : (!decide (V.int (((rowB r).length : Nat) : Int) = V.int ((((nowL b.marks).map V.str).length : Nat) : Int))) = false := by
      rw [decide_eq_true (by unfold rowB; rw [List.length_map, List.length_map, hr2])]; rfl
    rw [el]
    refine ⟨_, rfl, iteF ?_⟩
    refine ⟨_, rfl, a, rfl, ⟨_, SqL.of a3⟩, fun Dd hD => ?_⟩
    refine lc_list (K := K) (a := a) (xs := rowB r) (fun j H' => Same H3 H' ∧ H' Dd = some (.lst ((List.replicate j true).map V.bl))) ⟨Same.new hD _, upd_same⟩ (fun j H' _ h => SqL.of (h.1 _ _ a3)) ?_ ?_
    · rintro j z H4 hz ⟨s4, d4⟩
      unfold rowB at hz
      rw [List.getElem?_map] at hz
      obtain ⟨c, hc, rfl⟩ := Option.map_eq_some_iff.mp hz
      have jl := (List.getElem?_eq_some_iff.mp hc).1
      refine ⟨rfl, tYif ?_⟩
      refine ⟨_, rfl, ?_⟩
      refine ⟨by decide, fun u hu => ?_⟩
      have s5 := Same.new hu (.tup [.int 0, .int 1])
      have u5 : upd H4 u (.tup [.int 0, .int 1]) u = some (.tup [.int 0, .int 1]) := upd_same
      generalize upd H4 u (.tup [.int 0, .int 1]) = H5 at s5 u5 ⊢
      refine ⟨u, _, rfl, .inr (SqT.of u5), rfl, rfl, _, s5 _ _ d4, ?_, ?_, ?_⟩
      · rw [List.length_map, List.length_replicate]
        have : nm b ≤ 4 := fewm
        exact small1000 (by omega)
      · intro x o hx
        rw [upd_ne (ne_of_none hx hD)]
        exact s5 _ _ (s4 _ _ hx)
      · rw [upd_same, List.replicate_succ', List.map_append]
        cases c <;> rfl
    · rintro H4 ⟨s4, d4⟩
      refine ⟨Dd, _, rfl, SqL.of d4, ?_⟩
      have : ((List.replicate (rowB r).length true).all id) = true := by simp
      rw [this]
      exact ⟨_, rfl, iteF ⟨_, rfl, s3.trans s4⟩⟩
  · rintro σ H3 ⟨v, rfl, s3⟩
    have s03 := s02.trans s3
    have p3 := s3 _ _ p2
    have B3 := B.mono s03
    obtain ⟨w0, hw0⟩ : ∃ l, ws.length = l + 1 := by
      cases ws with
      | nil => cases e0
      | cons a l => exact ⟨l.length, rfl⟩
    refine ⟨_, rfl, p, _, rfl, .inl (SqL.of p3), rfl, ?_⟩
    rw [show decide (V.int (((as.map V.ref).length : Nat) : Int) = V.int 0) = false from decide_eq_false fun z => by
      have := V.int.inj z
      rw [List.length_map, hlen, hw0] at this
      omega]
    refine ⟨_, rfl, iteF ?_⟩
    -- the first row
    obtain ⟨a0, ha0⟩ : ∃ a, as[0]? = some a := ⟨as[0]'(by omega), List.getElem?_eq_getElem (by omega)⟩
    obtain ⟨al, hal⟩ : ∃ a, as[ws.length - 1]? = some a := ⟨as[ws.length - 1]'(by omega), List.getElem?_eq_getElem (by omega)⟩
    have r0 := hrow 0 a0 y0 ha0 e0
    have rl := hrow (ws.length - 1) al y1 hal e1
    have nz : ∀ {rows' : List Rw} {H' : Hp} {r : Nat} {F : DB.Ro → Bool} {y : DB.Ro}, Is rows' r (fun e => F (nw b e) && decide (nw b e = y)) → y.length = nm b → F y = true → decide (V.int ((r : Nat) : Int) = V.int 0) = false := fun {rows' H' r F y} h hl hf => by
      refine decide_eq_false fun z => ?_
      have z : r = 0 := by have := V.int.inj z; omega
      obtain ⟨e, he⟩ := DB.env_of y (nowL_nd b.marks) hl
      have he : nw b e = y := he
      have : DB.ev rows' r e = (F (nw b e) && decide (nw b e = y)) := h.2 e
      rw [z, DB.ev_zero, he, hf, decide_eq_true rfl] at this
      cases this
    refine ⟨_, rfl, b.p, b.dx, _, rfl, B3.ob, nmA _ _ (by decide +kernel), _, rfl, _, rfl, _, rfl, p, _, _, .ref a0, rfl, rfl, SqL.of p3, atI_nat (xs := as.map V.ref) (j := 0) (by rw [List.getElem?_map, ha0]; rfl), b, rows, a0, y0, rfl, B3, W, by omega, s03 _ _ r0.1, r0.2, hwl _ (List.mem_of_getElem? e0), fun r4 rows4 H4 g4 B4 k4 l4 h4 => ?_⟩
    refine fun q hq => ⟨b, rows4, _, _, _, _, _, q, _, _, rfl, rfl, hq, B4, tab_and, hn.up g4, h4, by omega, fun r5 rows5 H5 g5 B5 k5 l5 h5 _ => ?_⟩
    refine ⟨rfl, ?_⟩
    rw [nz (H' := H5) h5 (hwl _ (List.mem_of_getElem? e0)) f0]
    refine ⟨_, rfl, iteF ?_⟩
    have k05 : K2 b.rl b.pl H H5 := (K2.of s03).trans (k4.trans k5)
    have p5 := k05.lst B hp pne
    -- the last row
    refine ⟨_, rfl, b.p, b.dx, _, rfl, B5.ob, nmA _ _ (by decide +kernel), _, rfl, _, rfl, _, rfl, _, rfl, p, _, _, .ref al, rfl, rfl, SqL.of p5, ?_, b, rows5, al, y1, rfl, B5, W, by omega, k05.lst B rl.1 rl.2, rl.2, hwl _ (List.mem_of_getElem? e1), fun r6 rows6 H6 g6 B6 k6 l6 h6 => ?_⟩
    · show atI (as.map V.ref) (-1) = some (.ref al)
      have hne : as ≠ [] := fun z => by rw [z] at ha0; cases ha0
      have e := List.dropLast_concat_getLast hne
      have el : as.getLast hne = al := by
        rw [List.getLast_eq_getElem]
        refine (List.getElem_eq_iff _).mpr ?_
        rw [hlen]
        exact hal
      rw [← e, el, List.map_append]
      exact atI_last _ _
    refine fun q hq => ⟨b, rows6, _, _, _, _, _, q, _, _, rfl, rfl, hq, B6, tab_and, ((hgo.up g4).up g5).up g6, h6, by omega, fun r7 rows7 H7 g7 B7 k7 l7 h7 _ => ?_⟩
    refine ⟨rfl, ?_⟩
    rw [nz (H' := H7) h7 (hwl _ (List.mem_of_getElem? e1)) g1]
    refine ⟨_, rfl, iteF ?_⟩
    have k07 := k05.trans (k6.trans k7)
    have p7 := k07.lst B hp pne
    have g07 := g4.trans (g5.trans (g6.trans g7))
    refine ⟨_, rfl, p, _, rfl, .inl (SqL.of p7), _, _, rfl, rfl, _, rfl, by rw [List.length_map]; omega, by rw [List.length_map]; omega, fun Dd hD => ?_⟩
    rw [List.length_map, hlen]
    have en : (((ws.length : Nat) : Int) - 1).toNat = w0 := by omega
    rw [en]
    have dne := B7.none_ne hD
    refine lc_range (fun j H' => ∃ rows', DB.Grow b.marks rows7 rows' ∧ BkAt C b H' rows' ∧ K2 b.rl b.pl H H' ∧ rows'.length ≤ rows7.length + 7662 * j ∧ H' Dd = some (.lst ((List.replicate j true).map V.bl))) ⟨rows7, .refl B7.wf, B7.new hD _, k07.trans (K2.of (Same.new hD _)), by omega, upd_same⟩ ?_ ?_
    · rintro j H8 hj ⟨rows8, g8, B8, k8, l8, d8⟩
      refine ⟨rfl, tYif ?_⟩
      have p8 := k8.lst B hp pne
      obtain ⟨a1, ha1⟩ : ∃ a, as[j]? = some a := ⟨as[j]'(by omega), List.getElem?_eq_getElem (by omega)⟩
      obtain ⟨a2, ha2⟩ : ∃ a, as[j + 1]? = some a := ⟨as[j + 1]'(by omega), List.getElem?_eq_getElem (by omega)⟩
      obtain ⟨x1, u1, u2, u3, u4⟩ := rowAt j a1 ha1
      obtain ⟨x2, v1, v2, v3, v4⟩ := rowAt (j + 1) a2 ha2
      have i1 : atI (as.map V.ref) (0 + (j : Int)) = some (.ref a1) := by rw [Int.zero_add]; exact atI_nat (by rw [List.getElem?_map, ha1]; rfl)
      have i2 : atI (as.map V.ref) (0 + (j : Int) + 1) = some (.ref a2) := by rw [Int.zero_add]; exact atI_nat (xs := as.map V.ref) (j := j + 1) (by rw [List.getElem?_map, ha2]; rfl)
      refine ⟨_, rfl, _, rfl, _, rfl, _, rfl, p, _, _, _, rfl, rfl, SqL.of p8, i1, _, rfl, _, rfl, _, _, rfl, rfl, p, _, _, _, rfl, rfl, SqL.of p8, i2, b, rows8, st, a1, a2, x1, x2, E, rfl, B8, W, by omega, (hst.up g07).up g8, k8.lst B u3 u4, u4, u2, k8.lst B v3 v4, v4, v2, fun rows9 H9 g9 B9 k9 l9 => ?_⟩
      have d9 := k9.lst B8 d8 dne.2.2.1
      refine ⟨_, d9, by rw [List.length_map, List.length_replicate]; exact small1000 (by omega), rows9, g8.trans g9, B9.upd d9 dne.2.2.1 dne.2.1, ?_, by omega, ?_⟩
      · exact (k8.trans k9).mut (k07.none (rl := b.rl) (pl := b.pl) B7 hD)
      · rw [upd_same, List.replicate_succ', List.map_append, hE j x1 x2 u1 v1]
        rfl
    · rintro H8 ⟨rows8, g8, B8, k8, l8, d8⟩
      refine ⟨Dd, _, rfl, SqL.of d8, ?_⟩
      have : ((List.replicate w0 true).all id) = true := by simp
      rw [this]
      exact k rows8 H8 (g07.trans g8) B8 k8 (by omega)
end
end DW


set_option maxHeartbeats 4000000
/-! Rules that are not in the kit: max(xs, default=d), dict(zip(xs, ys)), len(set(xs)) of texts, repr of data. -/
namespace DW
open PySem PySem.Spec PyProof.Rows L2
theorem dp_ints {K : PySem.W.Frag} {H : Hp} : ∀ ns : List Int, DpAll K H (ns.map V.int) (ns.map PyData.int)
  | [] => .nil
  | n :: ns => .cons (.int n) (dp_ints ns)
theorem depth_ints : ∀ ns : List Int, PyData.depthAll (ns.map PyData.int) ≤ 1
  | [] => by decide
  | n :: ns => by
    have := depth_ints ns
    show max (PyData.depth (.int n)) (PyData.depthAll (ns.map PyData.int)) ≤ 1
    have h : PyData.depth (.int n) ≤ 1 := by show (0 : Nat) ≤ 1 ; omega
    omega
/-- max(xs, default=d) of a list of ints -/
def rMaxDef (K : PySem.W.Frag) : List V → List V → Hp → VK → Prop := fun vs zs H Q => ∃ (a : Addr) (ns : List Int) (d : Int), vs = [.ref a] ∧ zs = [.int d] ∧ SqL K H a (ns.map V.int) ∧ Q (.int (match ns with | [] => d | n :: r => r.foldl max n)) H
theorem cr_maxDef {X : Cx} (hc : X.calm = true) (hu : X.A.units + 64 < cLine) : CallRK X (.builtin "max") [Str.ofString "default"] (rMaxDef X.K) := by
  intro pins s σ H xs zs us ws Q I r rz h
  obtain ⟨a, ns, d, rfl, rfl, hs, q⟩ := h
  obtain ⟨u, eu, ru⟩ := vals1 r
  obtain ⟨v, ev, rv⟩ := vals1 rz
  subst eu ev
  cases ru
  obtain ⟨t, rfl⟩ := rv
  obtain ⟨its, rl, hl, _⟩ := I.list hs
  obtain ⟨as, hr⟩ := Dp.readsAll I (ns.map PyData.int) _ its (dp_ints ns) rl
  have dep := depth_ints ns
  show wpAny _ _ (call (.builtin "max") [.ref a] [(Str.ofString "default", .int d t)]) _ _ _
  refine PySem.W.max_list_default (I.ok.hd hc) hl.isList (by simpa using hr) ⟨fun x hx y hy => ?_, fun x hx e => ?_⟩ (by omega) (fun e h' tk hk => ?_) (fun y ys i v h' tk bs e hi hrd hk => ?_)
  · obtain ⟨n, _, rfl⟩ := List.mem_map.mp hx
    obtain ⟨m, _, rfl⟩ := List.mem_map.mp hy
    rfl
  · obtain ⟨n, _, rfl⟩ := List.mem_map.mp hx
    cases e
  · have e : ns = [] := List.map_eq_nil_iff.mp e
    subst e
    exact ⟨.int d, H, I.kept hk, ⟨t, rfl⟩, q⟩
  · cases ns with
    | nil => cases e
    | cons n r =>
      obtain ⟨rfl, rfl⟩ := List.cons.inj e
      rw [PySem.W.maxD_ints] at hrd
      refine ⟨.int (r.foldl max n), H, I.kept hk, ?_, q⟩
      cases hrd
      exact ⟨_, rfl⟩
/-- dict(zip(ks, vs)) of two lists of one length -/
def rDictZip (K : PySem.W.Frag) (Q : VK) : List V → Hp → Prop := fun xs H2 => ∃ (a b : Addr) (ks : List Key) (vs : List V), xs = [.ref a, .ref b] ∧ SqL K H2 a (ks.map kV) ∧ SqL K H2 b vs ∧ ks.length = vs.length ∧
  ∀ p, H2 p = none → Q (.ref p) (upd H2 p (.dK (mergeK [] (ks.zip vs))))
def tDictZip (K : PySem.W.Frag) (ta tb : TE) : TE := fun σ H Q => tCons ta (tCons tb tNil) σ H (rDictZip K Q)
theorem kv_zip : ∀ {ks : List Key} {vs : List V} {us : List Value}, Vals vs us → KV (ks.zip vs) (ks.zip us)
  | [], _, _, _ => by rw [List.zip_nil_left, List.zip_nil_left]; exact .nil
  | _ :: _, _, _, .nil => .nil
  | k :: ks, _, _, .cons r t => .cons ⟨rfl, r⟩ (kv_zip t)
theorem pe_dictZip {X : Cx} {a b : Expr} {ta tb : TE} {p p2 q pos : Pos} (hc : X.calm = true) (hg : Gl X "dict") (hm : X.mg "dict" = none) (hg2 : Gl X "zip") (hm2 : X.mg "zip" = none) (ha : PE X a ta) (hb : PE X b tb)
    (na : starEach [a, b] X.env = (false, eval a X.env) :: starEach [b] X.env := by rfl) (nb : (backTo q (starEach [b] X.env)).any (·.1) = false := by rfl) (nc : starEach [b] X.env = (false, eval b X.env) :: starEach [] X.env := by rfl) :
    PE X (.Call (.Name "dict" p) [.Call (.Name "zip" p2) [a, b] [] q] [] pos) (tDictZip X.K ta tb) := by
  refine ⟨fun pins s σ H Q I h => ?_⟩
  refine Call_ (ld_blt I hg hm PyProof.Rows.boot_dict (PyProof.Rows.callWith_type1 (PyProof.Rows.args_cons ?_ rfl) rfl rfl))
  refine Call_ (ld_blt I hg2 hm2 PyProof.Rows.boot_zip (PyProof.Rows.callWith_type1 (thn ((pa_cons ha (pa_cons hb pa_nil nc) na).run q pins s σ H _ I h) fun us s1 ⟨zs, H1, I1, r1, q1⟩ => ?_) na nb))
  obtain ⟨a, b, ks, vs, rfl, hqx, hqy, hlen, q1⟩ := q1
  obtain ⟨u, v, eu, ru, rv⟩ := vals2 r1
  subst eu
  cases ru
  cases rv
  obtain ⟨its, rx, p1, z1⟩ := I1.list hqx
  obtain ⟨its2, ry, p2, z2⟩ := I1.list hqy
  have la : a < s1.heap.objs.size := p1.lt
  have lb : b < s1.heap.objs.size := p2.lt
  have n1 : its.length = ks.length := by rw [← rx.length, List.length_map]
  have n2 : its2.length = vs.length := ry.length.symm
  refine call_zip_2 p1.isList p2.isList fun h' hz hTI hTO h1 h2 hsz hk => PyProof.Rows.args_nil ?_
  have l1 : h'.IsList a its.toArray := p1.isList.at fun o e => hk _ o e
  have l2 : h'.IsList b its2.toArray := p2.isList.at fun o e => hk _ o e
  refine PySem.call_dict_pairs (knd := mixKind X.prog X.w) (kvs := ks.zip its2) (PySem.PairArg.zip _ _ _ _ _ a b (PySem.W.ktu_apart s1.heap.objs.size a b la lb) its.toArray its2.toArray) (I1.ok.hd hc) ⟨hz, hTI, ⟨_, _, hTO⟩, h1, h2, l1, l2⟩ ⟨?_, fun i k v ⟨e1, e2⟩ => ?_⟩ ?_ fun h'' tk hd' hk2 => ?_
  · rw [List.length_zip, List.size_toArray, List.size_toArray, n1]
  · have e1 : its[i]? = some k := by simpa using e1
    have e2 : its2[i]? = some v := by simpa using e2
    have il : i < ks.length := by rw [← n1]; exact (List.getElem?_eq_some_iff.mp e1).1
    obtain ⟨u, hu, r⟩ := rx.get (i := i) (x := kV ks[i]) (by rw [List.getElem?_map, List.getElem?_eq_getElem il]; rfl)
    rw [e1] at hu
    cases hu
    refine ⟨ks[i], ?_, kV_is r⟩
    rw [List.getElem?_zip_eq_some]
    exact ⟨List.getElem?_eq_getElem il, e2⟩
  · rw [List.size_toArray, List.size_toArray]
    exact Nat.le_trans (Nat.min_le_left _ _) (by omega)
  · have k1 : ∀ b o, s1.heap.get? b = some o → h''.get? b = some o := fun b o e => by
      have lt := Heap.lt_size e
      refine hk2 b o (fun hm => ?_) (hk b o e)
      simp only [List.mem_cons, List.not_mem_nil, or_false] at hm
      have : s1.heap.objs.size ≤ b := by
        rcases hm with z | z | z | z
        · rw [z]; exact Nat.le_add_right _ _
        · rw [z]; exact Nat.le_add_right _ _
        · rw [z]; exact Nat.le_refl _
        · rw [z]; exact Nat.le_add_right _ _
      exact absurd lt (Nat.not_lt.mpr this)
    have le : s1.heap.objs.size ≤ h'.objs.size := by rw [hsz]; exact Nat.le_add_right _ _
    have hm : (h'.objs.size == sysModules) = false := beq_eq_false_iff_ne.mpr (Nat.ne_of_gt (Nat.lt_of_lt_of_le I1.big le))
    have rel : KV (ks.zip vs) (ks.zip its2) := kv_zip ry
    have hl2 : (mergeK [] (ks.zip vs)).length ≤ sizeLine := by
      refine Nat.le_trans (length_mergeK (ks.zip vs) []) ?_
      rw [List.length_nil, Nat.zero_add, List.length_zip]
      exact Nat.le_trans (Nat.min_le_right _ _) (by omega)
    refine ⟨.ref h'.objs.size, upd H1 h'.objs.size (.dK (mergeK [] (ks.zip vs))), I1.laid (t' := tk) k1 le (show ObjOk X.prog X.w _ _ _ (.dK (mergeK [] (ks.zip vs))) from ⟨hl2, hm, merged [] (ks.zip its2), KV.merge rel .nil, hd'⟩), rfl, q1 _ (I1.hok.fresh le)⟩
/-- repr(x) of data -/
def rReprD (K : PySem.W.Frag) : List V → Hp → VK → Prop := fun xs H Q => ∃ (a : Addr) (d : PyData), xs = [.ref a] ∧ Dp K H (.ref a) d ∧ d.showable = true ∧ d.hasDict = false ∧ d.depth ≤ 8 ∧ d.shown.length ≤ sizeLine ∧ Q (.str d.shown) H
theorem call_reprD {X : Cx} (hg : X.A.guards = some []) (hu : X.A.units + 64 < cLine) : CallR X (.builtin "repr") (rReprD X.K) := by
  intro pins s σ H xs us Q I r h
  obtain ⟨a, d, rfl, hd, h1, h2, h3, h4, q⟩ := h
  obtain ⟨u, eu, ru⟩ := vals1 r
  subst eu
  obtain ⟨as, hr⟩ := Dp.reads I d _ u hd ru
  cases ru
  exact PySem.repr_of_reads' hr h1 (PySem.PyData.noDict_hsm h2) hg (by omega) (fun _ _ e => e) (fun h' u tk hk => ⟨.str d.shown, H, I.kept hk, ⟨u, rfl⟩, q⟩) h4
/-! set(xs) of texts, each once -/
theorem str_in : ∀ {us : List Value} {xs : List Str}, PyProof.Rows.StrsAre us xs → ∀ (i : Nat) (v : Value), us[i]? = some v → ∃ x t, xs[i]? = some x ∧ v = .str x t
  | _, _, .nil, i, v, h => by simp at h
  | _, _, .cons x t _, 0, v, h => ⟨x, t, rfl, (Option.some.inj h).symm⟩
  | _, _, .cons _ _ r, i + 1, v, h => str_in r i v h
section
variable {prog : Program} {w : World} {A : Around} {E : Value → Shared → Prop} {s : Shared}
abbrev SetTx (prog : Program) (w : World) (h : Heap) (a : Addr) (xs : List Str) : Prop := h.SetOf (PySem.strKind prog w) a (fun k => decide (k ∈ xs)) xs.length
theorem SetTx.at {h h' : Heap} {a : Addr} {xs : List Str} (q : SetTx prog w h a xs) (k : ∀ o, h.get? a = some o → h'.get? a = some o) : SetTx prog w h' a xs := let ⟨o, es, ep, t, ho, r⟩ := q; ⟨o, es, ep, t, k _ ho, r⟩
theorem SetTx.more {h : Heap} {a : Addr} {xs : List Str} {x : Str} (n : x ∉ xs) (q : h.SetOf (PySem.strKind prog w) a (fun k => decide (k ∈ xs) || decide (k = x)) (if decide (x ∈ xs) then xs.length else xs.length + 1)) : SetTx prog w h a (xs ++ [x]) := by
  refine PyProof.Rows.SetOf_congr q (fun k => ?_) ?_
  · rw [Bool.eq_iff_iff]; simp
  · rw [decide_eq_false n, List.length_append]; rfl
theorem set_loop {R : Result → Shared → Prop} {I S : Addr} {fp wr : List Addr} {G : Array GenState → Array GenState → Prop} {n : Nat} {Pv : Nat → Value → Prop} {St : Nat → Shared → Prop} (W : WalksS prog w A.in1 I fp wr G n Pv St) (out : S ∉ fp) (xs : List Str) (len : xs.length = n) (nd : xs.Nodup) (few : n < 1000)
    (val : ∀ i v, Pv i v → ∃ x t, xs[i]? = some x ∧ v = .str x t) : ∀ (m i : Nat) (s : Shared), m + i = n → St i s → SetTx prog w s.heap S (xs.take i) → (∀ s', Moved (S :: wr) G s s' → SetTx prog w s'.heap S xs → R (.ok (.ret .none)) s') →
      codeAny (model prog w) A (.builtin "set.update.loop" ⟨[.ref S, .ref I], []⟩) R s
  | 0, i, s, hm, st, now, fin => by
    have off : S ∉ wr := fun z => out (W.sub _ z)
    have e : i = n := (Nat.zero_add i).symm.trans hm
    refine codeAny_builtin F.entry_set_update_loop ?_ ; rw [Around.under_plainId F.plain_set_update_loop _]
    refine wpAny_bind (m := pyNext (.ref I)) (W.done s _ _ (e ▸ st) fun s' mv => wpAny_pure (fin s' (mv.mono fun b z => .tail _ z) ?_))
    rw [e, ← len, List.take_length] at now
    exact now.at fun o q => mv.heap S o off q
  | m + 1, i, s, hm, st, now, fin => by
    have off : S ∉ wr := fun z => out (W.sub _ z)
    refine codeAny_builtin F.entry_set_update_loop ?_ ; rw [Around.under_plainId F.plain_set_update_loop _]
    refine wpAny_bind (m := pyNext (.ref I)) (W.item i s _ _ (by omega) st fun v s' hv st' mv => ?_)
    obtain ⟨x, t, hx, rfl⟩ := val i v hv
    have tk : xs.take (i + 1) = xs.take i ++ [x] := DB.take_snoc hx
    have nx : x ∉ xs.take i := fun z => by
      have := nd.sublist (List.take_sublist (i + 1) xs)
      rw [tk] at this
      exact (List.nodup_append.mp this).2.2 x z x List.mem_cons_self rfl
    have il : (xs.take i).length = i := by have := (List.getElem?_eq_some_iff.mp hx).1; rw [List.length_take]; omega
    refine wpAny_bind (m := holding [Value.str x t] (setAdd S (.str x t))) (wpAny_holding (wpAny_holding (wpAny_bind ((PySem.strKind prog w).pyHash (k := x) (strKind_is _ _ _ _) ?_))))
    refine wpAny_setAddHashed_of (knd := PySem.strKind prog w) (s := { s' with toks := s'.toks + 1 }) (strKind_is _ _ _ _) rfl (now.at fun o q => mv.heap S o off q) (by rw [il]; unfold scanBound; omega) fun h' same got => ?_
    have next : SetTx prog w h' S (xs.take (i + 1)) := by rw [tk]; exact SetTx.more nx got
    have keep : ∀ b o, b ≠ S → s'.heap.get? b = some o → h'.get? b = some o := fun b o z q => (same.2 b z).trans q
    refine wpAny_pure ⟨plainId_quiet F.plain_set_update_loop _, set_loop W out xs len nd few val m (i + 1) _ (by omega) (W.frame _ s' _ _ st' (Nat.le_succ _) fun b z o q => keep b o (fun y => out (y ▸ z)) q) next fun s'' mv2 done => fin s'' (Moved.trans W.gtrans (Moved.then_heap (mv.mono fun b z => .tail _ z) (Nat.le_succ _) fun b o z q => keep b o (fun y => z (y ▸ .head _)) q) mv2) done⟩
/-- what a new set leaves -/
def SetNew (prog : Program) (w : World) (s : Shared) (xs : List Str) (s' : Shared) : Prop := ∃ h' tk, s' = { s with heap := h', toks := tk } ∧ SetTx prog w h' s.heap.objs.size xs ∧ ∀ b o, s.heap.get? b = some o → h'.get? b = some o
abbrev newSet (led : Bool) : Obj := { cls := .type "set", dict := none, data := .set #[] 0 (.fresh 0 0 led) }
abbrev iterAt (l : Addr) : Obj := { cls := .type "list_iterator", data := .fields #[.ref l, .int 0 0] }
theorem set_fill {B : Around} {R : Result → Shared → Prop} {l : Addr} {items : Array Value} {xs : List Str} {led : Bool} {lo : Obj} (hh : B.in1.handled = none) (ol : s.heap.get? l = some lo) (lls : (s.heap.push (newSet led)).IsList l items) (hx : PyProof.Rows.StrsAre items.toList xs) (nd : xs.Nodup) (few : xs.length < 1000)
    (fin : ∀ s', SetNew prog w s xs s' → R (.ok (.ret .none)) s') : codeAny (model prog w) B (.builtin "set.update.loop" ⟨[.ref s.heap.objs.size, .ref (s.heap.push (newSet led)).objs.size], []⟩) R { s with heap := (s.heap.push (newSet led)).push (iterAt l) } := by
  have lt : l < s.heap.objs.size := Heap.lt_size ol
  have sz : (s.heap.push (newSet led)).objs.size = s.heap.objs.size + 1 := Heap.size_push _ _
  have ne1 : l ≠ (s.heap.push (newSet led)).objs.size := Nat.ne_of_lt (by rw [sz]; exact Nat.lt_succ_of_lt lt)
  have ne2 : s.heap.objs.size ≠ (s.heap.push (newSet led)).objs.size := Nat.ne_of_lt (by rw [sz]; exact Nat.lt_succ_self _)
  have ne3 : s.heap.objs.size ≠ l := (Nat.ne_of_lt lt).symm
  have out : s.heap.objs.size ∉ [(s.heap.push (newSet led)).objs.size, l] := fun z => by
    rcases List.mem_cons.mp z with z | z
    · exact ne2 z
    · exact ne3 (List.mem_singleton.mp z)
  have len : xs.length = items.size := by rw [← PyProof.Rows.StrsAre.len_eq hx, Array.length_toList]
  have there : ((s.heap.push (newSet led)).push (iterAt l)).get? s.heap.objs.size = some (newSet led) := Heap.get?_push_of_some _ (Heap.get?_push_size _ rfl)
  refine set_loop (w := w) (Walks.list (A := B.in1) hh _ l ne1 items).toS out xs len nd (by omega) (fun i v hv => ?_) items.size 0 _ (Nat.add_zero _) ⟨⟨_, Heap.get?_push_size _ rfl, rfl, rfl⟩, lls.push _⟩ ?_ fun s' mv got => fin s' ?_
  · exact str_in hx i v (by rw [Array.getElem?_toList]; exact hv)
  · exact PyProof.Rows.SetOf_congr ((PyProof.Rows.setObjOf_fresh (knd := PySem.strKind prog w) led).setOf there (by unfold scanBound; decide)) (fun k => by simp) rfl
  · obtain ⟨h', g', d', tk', os'⟩ := s'
    have e1 : g' = s.gens := mv.gens
    have e2 : d' = s.drawn := mv.drawn
    have e3 : os' = s.os := mv.os
    subst e1 e2 e3
    refine ⟨h', tk', rfl, got, fun b o e => mv.heap b o (fun z => ?_) (Heap.get?_push_of_some _ (Heap.get?_push_of_some _ e))⟩
    have lt := Heap.lt_size e
    rcases List.mem_cons.mp z with z | z
    · exact absurd lt (by rw [z]; exact Nat.lt_irrefl _)
    · have z : b = (s.heap.push (newSet led)).objs.size := by simpa using z
      exact absurd lt (by rw [z, sz]; exact Nat.not_lt.mpr (Nat.le_succ _))
set_option maxHeartbeats 8000000 in
theorem call_setT {l : Addr} {items : Array Value} {xs : List Str} {Q : Value → Shared → Prop} (hh : A.handled = none) (hl : s.heap.IsList l items) (hx : PyProof.Rows.StrsAre items.toList xs) (nd : xs.Nodup) (few : xs.length < 1000)
    (fin : ∀ s', SetNew prog w s xs s' → Q (.ref s.heap.objs.size) s') : wpAny (model prog w) A (call (.type "set") [.ref l]) Q E s := by
  have made := PySem.F.called_set.made; have sub := PySem.F.called_set.sub; have nty := PySem.F.called_set.notType; have cre := PySem.F.called_set.canCreate; have chk := PySem.F.typeCall_set_1 (.ref l)
  obtain ⟨c, tl, mro⟩ := PySem.F.called_set.mro
  refine wpAny_call (codeAny_of_tree ?_) ; show wpAny (model prog w) _ (callAny (.type "set") ⟨[.ref l], []⟩) _ _ s
  refine wpAny_pure ⟨Code.quiet_builtin _ (by decide +kernel), codeAny_builtin PySem.F.entry_type_call ?_⟩ ; rw [Around.under_plain (weight_type_call_type "set" [.ref l] []) rfl]
  repeat (any_goals (first | assumption | wp_step))
  refine codeAny_mono (code_set_new_1 (.ref l) (E := E) (Q₁ := fun v s₁ => ∃ led : Bool, v = .ref s.heap.objs.size ∧ s₁ = { s with heap := s.heap.push (newSet led) }) fun led => ⟨led, rfl, rfl⟩) fun r s₁ hr => ?_
  cases r with
  | error e => exact hr
  | ok fl =>
    cases fl with
    | ret v =>
      obtain ⟨led, rfl, rfl⟩ := hr
      have there : (s.heap.push (newSet led)).get? s.heap.objs.size = some (newSet led) := Heap.get?_push_size _ rfl
      have isSet : Shared.TypeIs { s with heap := s.heap.push (newSet led) } (.ref s.heap.objs.size) "set" := ⟨_, there, rfl⟩
      have look := PySem.F.called_set.init.lookup; have bnd := PySem.F.called_set.init.bind (.ref s.heap.objs.size)
      repeat (any_goals (first | assumption | wp_step))
      refine codeAny_mono (codeAny_call_builtin (R := wants (fun r s₂ => r = .none ∧ SetNew prog w s xs s₂) E) PySem.F.called_set.init.plain PySem.F.entry_set_init (check_set_init_1 isSet ?_)) fun r₂ s₂ hr₂ => ?_
      · obtain ⟨⟨cl, dd, dt, sl⟩, ol, hcl, nl, hdl⟩ := hl
        simp only at hcl hdl
        subst hcl hdl
        have lat : (s.heap.push (newSet led)).get? l = some { cls := .type "list", dict := dd, data := .seq items nl, slots := sl } := Heap.get?_push_of_some _ ol
        have lls : (s.heap.push (newSet led)).IsList l items := ⟨_, lat, rfl, nl, rfl⟩
        have s1 := PySem.F.sub_list_set; have s2 := PySem.F.sub_list_frozenset; have s3 : (Value.type "list" == Value.type "dict") = false := by decide
        unfold Builtin.«set.__init__» noKeywords Builtin.Frozenset.updateFrom
        generalize hit : pyIter = itr
        wp_walk
        subst hit
        refine wpAny_pyIter_list lls (wpAny_bind (wpAny_runValue (set_fill (by simp [hh]) ol lls hx nd few fun s' got => ?_)))
        exact wpAny_pure (wpAny_pure ⟨rfl, got⟩)
      · cases r₂ with
        | error e => exact hr₂
        | ok fl₂ =>
          cases fl₂ with
          | ret r =>
            obtain ⟨rfl, q⟩ := hr₂
            repeat (any_goals (first | assumption | wp_step))
            exact fin _ q
          | _ => exact hr₂.elim
    | _ => exact hr.elim
end
end DW


set_option maxHeartbeats 4000000
/-! len(set(xs)) of texts, each once. -/
namespace DW
open PySem PySem.Spec PyProof.Rows L2
theorem strs_are : ∀ {ys : List Str} {us : List Value}, Vals (ys.map V.str) us → PyProof.Rows.StrsAre us ys
  | [], _, .nil => .nil
  | y :: ys, _, .cons r t => by
    obtain ⟨k, rfl⟩ := r
    exact .cons y k (strs_are t)
def tLenSetS (K : PySem.W.Frag) (ta : TE) : TE := fun σ H Q => ta σ H fun x H1 => ∃ (l : Addr) (xs : List Str), x = .ref l ∧ SqL K H1 l (xs.map V.str) ∧ xs.Nodup ∧ xs.length < 1000 ∧ Q (.int (xs.length : Nat)) H1
theorem pe_lenSetS {X : Cx} {a : Expr} {ta : TE} {p p2 q pos : Pos} (hc : X.calm = true) (hg : Gl X "len") (hm : X.mg "len" = none) (hg2 : Gl X "set") (hm2 : X.mg "set" = none) (ha : PE X a ta)
    (na : starEach [a] X.env = (false, eval a X.env) :: starEach [] X.env := by rfl) : PE X (.Call (.Name "len" p) [.Call (.Name "set" p2) [a] [] q] [] pos) (tLenSetS X.K ta) := by
  refine ⟨fun pins s σ H Q I h => Call_ (ld_blt I hg hm boot_len (PyProof.Rows.callWith_builtin1 (PyProof.Rows.args_cons ?_ rfl) rfl rfl))⟩
  refine Call_ (ld_blt I hg2 hm2 boot_set (PyProof.Rows.callWith_type1 (PyProof.Rows.args_cons (thn (ha.run pins s σ H _ I h) fun v s1 ⟨x, H1, I1, r1, q1⟩ => PyProof.Rows.args_nil ?_) na) na rfl))
  obtain ⟨l, xs, rfl, hq, nd, few, q1⟩ := q1
  cases r1
  obtain ⟨its, r, pl, hz⟩ := I1.list hq
  refine call_setT (I1.ok.hd hc) pl.isList (by simpa using strs_are r) nd few fun s2 ⟨h', tk, e, got, keep⟩ => PyProof.Rows.args_nil ?_
  subst e
  obtain ⟨o, es, ep, t, ho, hex, hd, _, _, _, hf, hn⟩ := got
  have I2 : Inv X pins σ H1 { s1 with heap := h', toks := tk } := I1.kept keep
  exact call_len_set ho hex hd hf (by rw [hn]; omega) ⟨.int xs.length, H1, I2.tok _, ⟨_, by rw [hn]⟩, q1⟩
end DW


set_option maxHeartbeats 4000000
/-! Sentences: is_mark, is_order, ask_order, pieces_of, count, deep. -/
namespace DW
open PySem PySem.Spec PyProof.Rows L2
theorem scfis_mark : FnScope ["text"] ["text"] (defScope sfis_mark) := ⟨rfl, rfl, rfl, by decide +kernel, rfl, by decide +kernel, by decide +kernel⟩
theorem scfis_order : FnScope ["order", "mark"] ["order"] (defScope sfis_order) := ⟨rfl, rfl, rfl, by decide +kernel, rfl, by decide +kernel, by decide +kernel⟩
theorem scfask_order : FnScope ["order"] ["order"] (defScope sfask_order) := ⟨rfl, rfl, rfl, by decide +kernel, rfl, by decide +kernel, by decide +kernel⟩
theorem scfpieces_of : FnScope ["sentence"] ["sentence"] (defScope sfpieces_of) := ⟨rfl, rfl, rfl, by decide +kernel, rfl, by decide +kernel, by decide +kernel⟩
theorem scfcount : FnScope ["sentence", "piece"] ["sentence"] (defScope sfcount) := ⟨rfl, rfl, rfl, by decide +kernel, rfl, by decide +kernel, by decide +kernel⟩
theorem scfdeep : FnScope ["sentence", "piece"] ["sentence"] (defScope sfdeep) := ⟨rfl, rfl, rfl, by decide +kernel, rfl, by decide +kernel, by decide +kernel⟩
theorem Df.mono {P : Program} {w : World} {K : PySem.W.Frag} {mg : Str → Option Value} {base : Heap} {x : Str} {j k : Nat} {ps : List Str} {sp : Sp} (D : Df P w K mg base x j ps sp) (h : j ≤ k) : Df P w K mg base x k ps sp := by
  obtain ⟨f, fd, a, b, c, F⟩ := D.ex
  exact ⟨f, fd, a, b, c, F.mono h⟩
abbrev Sn := DB.Sn Str
def wTt (b : Bool) : Str := if b then "yes" else "no"
def wOp : DB.Op → Str
  | .and => "and"
  | .or => "or"
  | .either => "either"
  | .iff => "if"
def wQu (b : Bool) : Str := if b then "some" else "each"
/-- the sentence s stands at a -/
def SenAt (H : Hp) : Sn → Addr → Prop
  | .tt b, a => H a = some (.tup [.str (wTt b)])
  | .mk m, a => H a = some (.tup [.str "mark", .str m])
  | .no s, a => ∃ a1 : Addr, H a = some (.tup [.str "not", .ref a1]) ∧ SenAt H s a1
  | .bin o s t, a => ∃ a1 a2 : Addr, H a = some (.tup [.str (wOp o), .ref a1, .ref a2]) ∧ SenAt H s a1 ∧ SenAt H t a2
  | .qu b m s, a => ∃ a1 : Addr, H a = some (.tup [.str (wQu b), .str m, .ref a1]) ∧ SenAt H s a1
theorem SenAt.keep {H H' : Hp} (k : ∀ (a : Addr) (xs : List V), H a = some (.tup xs) → H' a = some (.tup xs)) : ∀ {s : Sn} {a : Addr}, SenAt H s a → SenAt H' s a
  | .tt _, _, h => k _ _ h
  | .mk _, _, h => k _ _ h
  | .no _, _, ⟨a1, h, h1⟩ => ⟨a1, k _ _ h, SenAt.keep k h1⟩
  | .bin _ _ _, _, ⟨a1, a2, h, h1, h2⟩ => ⟨a1, a2, k _ _ h, SenAt.keep k h1, SenAt.keep k h2⟩
  | .qu _ _ _, _, ⟨a1, h, h1⟩ => ⟨a1, k _ _ h, SenAt.keep k h1⟩
theorem SenAt.mono {H H' : Hp} (s : Same H H') {t : Sn} {a : Addr} (h : SenAt H t a) : SenAt H' t a := h.keep fun a _ h => s a _ h
theorem SenAt.k2 {b : Bk} {C : Addr} {H H' : Hp} {rows : List Rw} (k : K2 b.rl b.pl H H') (B : BkAt C b H rows) {t : Sn} {a : Addr} (h : SenAt H t a) : SenAt H' t a := h.keep fun _ _ h => k.tup B h
def kids : Sn → List Sn
  | .tt _ => []
  | .mk _ => []
  | .no s => [s]
  | .bin _ s t => [s, t]
  | .qu _ _ s => [s]
/-- the first word -/
inductive Wk where
  | yes | no | mark | not | and | or | either | iff | some | each
  deriving DecidableEq
def wS : Wk → Str
  | .yes => "yes"
  | .no => "no"
  | .mark => "mark"
  | .not => "not"
  | .and => "and"
  | .or => "or"
  | .either => "either"
  | .iff => "if"
  | .some => "some"
  | .each => "each"
def wk : Sn → Wk
  | .tt true => .yes
  | .tt false => .no
  | .mk _ => .mark
  | .no _ => .not
  | .bin .and _ _ => .and
  | .bin .or _ _ => .or
  | .bin .either _ _ => .either
  | .bin .iff _ _ => .iff
  | .qu true _ _ => .some
  | .qu false _ _ => .each
theorem SenAt.tup {H : Hp} {s : Sn} {a : Addr} (h : SenAt H s a) : ∃ r, H a = Option.some (.tup (.str (wS (wk s)) :: r)) := by
  cases s with
  | tt b => cases b <;> exact ⟨_, h⟩
  | mk m => exact ⟨_, h⟩
  | no s => obtain ⟨a1, h, _⟩ := h; exact ⟨_, h⟩
  | bin o s t => obtain ⟨a1, a2, h, _⟩ := h; cases o <;> exact ⟨_, h⟩
  | qu b m s => obtain ⟨a1, h, _⟩ := h; cases b <;> exact ⟨_, h⟩
theorem wk_mark : ∀ k : Wk, decide (V.str (wS k) = V.str "mark") = decide (k = .mark) := by intro k; cases k <;> decide +kernel
theorem wk_qu : ∀ k : Wk, inV (.str (wS k)) [.str "some", .str "each"] = decide (k = .some ∨ k = .each) := by intro k; cases k <;> decide +kernel
theorem wk_tt : ∀ k : Wk, inV (.str (wS k)) [.str "yes", .str "no"] = decide (k = .yes ∨ k = .no) := by intro k; cases k <;> decide +kernel
theorem wk_let : ∀ k : Wk, inV (.str (wS k)) [.str "mark", .str "some", .str "each"] = decide (k = .mark ∨ k = .some ∨ k = .each) := by intro k; cases k <;> decide +kernel
theorem wk_not : ∀ k : Wk, decide (V.str (wS k) = V.str "not") = decide (k = .not) := by intro k; cases k <;> decide +kernel
theorem wk_yes : ∀ k : Wk, decide (V.str (wS k) = V.str "yes") = decide (k = .yes) := by intro k; cases k <;> decide +kernel
theorem wk_some : ∀ k : Wk, decide (V.str (wS k) = V.str "some") = decide (k = .some) := by intro k; cases k <;> decide +kernel
def PcsAt (H : Hp) (s : Sn) (as : List Addr) : Prop := as.length = (kids s).length ∧ ∀ (i : Nat) (a : Addr), as[i]? = some a → ∃ t, (kids s)[i]? = some t ∧ SenAt H t a
theorem dep_pos : ∀ s : Sn, 1 ≤ s.dep
  | .tt _ => Nat.le_refl _
  | .mk _ => Nat.le_refl _
  | .no _ => Nat.le_add_right _ _
  | .bin _ _ _ => Nat.le_add_right _ _
  | .qu _ _ _ => Nat.le_add_right _ _
theorem kid_dep {s t : Sn} (h : t ∈ kids s) : t.dep + 1 ≤ s.dep := by
  cases s with
  | tt b => cases h
  | mk m => cases h
  | no s => rw [List.mem_singleton.mp h]; simp only [DB.Sn.dep]; omega
  | bin o s t =>
    simp only [DB.Sn.dep]
    rcases List.mem_cons.mp h with rfl | h
    · omega
    · rw [List.mem_singleton.mp h]; omega
  | qu b m s => rw [List.mem_singleton.mp h]; simp only [DB.Sn.dep]; omega
theorem kid_all {p : Str → Bool} {s t : Sn} (h : t ∈ kids s) (q : s.all p = true) : t.all p = true := by
  cases s with
  | tt b => cases h
  | mk m => cases h
  | no s => rw [List.mem_singleton.mp h]; exact q
  | bin o s t =>
    simp only [DB.Sn.all, Bool.and_eq_true] at q
    rcases List.mem_cons.mp h with rfl | h
    · exact q.1
    · rw [List.mem_singleton.mp h]; exact q.2
  | qu b m s =>
    simp only [DB.Sn.all, Bool.and_eq_true] at q
    rw [List.mem_singleton.mp h]; exact q.2
theorem kid_few (s : Sn) : (kids s).length ≤ 2 := by cases s <;> simp [kids]
theorem cnt_kids (s : Sn) : (1 : Int) + ((kids s).map fun t => ((t.cnt : Nat) : Int)).sum = ((s.cnt : Nat) : Int) := by
  cases s <;> simp [kids, DB.Sn.cnt] <;> omega
theorem dep_kids (s : Sn) : (1 : Int) + (match (kids s).map fun t => ((t.dep : Nat) : Int) with | [] => 0 | n :: r => r.foldl max n) = ((s.dep : Nat) : Int) := by
  cases s with
  | bin o s t =>
    show (1 : Int) + max ((s.dep : Nat) : Int) ((t.dep : Nat) : Int) = ((1 + max s.dep t.dep : Nat) : Int)
    rw [Int.max_def, Nat.max_def]
    split <;> split <;> omega
  | _ => simp [kids, DB.Sn.dep]
theorem at0 {α : Type} (v : α) (r : List α) : atI (v :: r) 0 = some v := atI_nat (xs := v :: r) (j := 0) rfl
theorem at1 {α : Type} (v u : α) (r : List α) : atI (v :: u :: r) 1 = some u := atI_nat (xs := v :: u :: r) (j := 1) rfl
theorem at2 {α : Type} (v u x : α) (r : List α) : atI (v :: u :: x :: r) 2 = some x := atI_nat (xs := v :: u :: x :: r) (j := 2) rfl
theorem isi_str {K : PySem.W.Frag} {H : Hp} {z : Str} {Q : VK} (q : Q (.bl true) H) : rIsi K [.str z, .ty "str"] H Q := ⟨.str z, .ty "str", .type "str", .type "str", true, rfl, .ty "str", .base (.str z), if_pos (beq_self_eq_true _), q⟩
theorem isi_tup {K : PySem.W.Frag} {H : Hp} {a : Addr} {xs : List V} (h : H a = some (.tup xs)) {Q : VK} (q : Q (.bl true) H) : rIsi K [.ref a, .ty "tuple"] H Q := ⟨.ref a, .ty "tuple", .type "tuple", .type "tuple", true, rfl, .ty "tuple", .base (.tup h), if_pos (beq_self_eq_true _), q⟩
/-! promises -/
def isL (m : Str) : Bool := decide (m ∈ [0, 1, 2, 3, 4, 5, 6, 7].map mS)
theorem isL_get {m : Str} (h : isL m = true) : ∃ i, i < 8 ∧ m = mS i := by
  obtain ⟨i, hi, rfl⟩ := List.mem_map.mp (of_decide_eq_true h)
  refine ⟨i, ?_, rfl⟩
  simp only [List.mem_cons, List.not_mem_nil, or_false] at hi
  omega
theorem lett_in : ∀ i : Fin 8, decide (97 + i.val ∈ ("abcdefgh" : Str).cps.toList) = true := by decide +kernel
def spIsMark : Sp := fun vs H Q _ => ∃ m : Str, vs = [.str m] ∧ isL m = true ∧ Q (.bl true) H
def spIsOrder (K : PySem.W.Frag) : Sp := fun vs H Q _ => ∃ (a : Addr) (ms : List Str), vs = [.ref a] ∧ SqL K H a (ms.map V.str) ∧ ms.Nodup ∧ ms ≠ [] ∧ ms.length ≤ 8 ∧ (∀ m ∈ ms, isL m = true) ∧ ∀ H', Same H H' → Q (.bl true) H'
def spAskOrder (K : PySem.W.Frag) : Sp := fun vs H Q _ => ∃ (a : Addr) (ms : List Str), vs = [.ref a] ∧ SqL K H a (ms.map V.str) ∧ ms.Nodup ∧ ms ≠ [] ∧ ms.length ≤ 8 ∧ (∀ m ∈ ms, isL m = true) ∧ ∀ H', Same H H' → Q .non H'
def spPieces : Sp := fun vs H Q _ => ∃ (a : Addr) (s : Sn), vs = [.ref a] ∧ SenAt H s a ∧ ∀ (p : Addr) (as : List Addr) (H' : Hp), Same H H' → H p = none → H' p = some (.lst (as.map V.ref)) → PcsAt H' s as → Q (.ref p) H'
def spCount (n : Nat) : Sp := fun vs H Q _ => ∃ (a : Addr) (s : Sn), vs = [.ref a] ∧ SenAt H s a ∧ s.dep ≤ n ∧ ∀ H', Same H H' → Q (.int (s.cnt : Nat)) H'
def spDeep (n : Nat) : Sp := fun vs H Q _ => ∃ (a : Addr) (s : Sn), vs = [.ref a] ∧ SenAt H s a ∧ s.dep ≤ n ∧ ∀ H', Same H H' → Q (.int (s.dep : Nat)) H'
section
variable {P : Program} {w : World} {K : PySem.W.Frag} {mg : Str → Option Value} {base : Heap} {C : Addr}
theorem d_is_mark (T : Tx w K mg C) (A : Has K mg "is_mark" sfis_mark) : Df P w K mg base "is_mark" 1 ["text"] spIsMark := by
  refine Df.of A scfis_mark (fun vs H Q E h => ?_) (fun _ _ _ _ _ _ us hl => match us, hl with | [_], _ => rfl) (fun f cdv A outer s H vs Q E hr h => ?_)
  · obtain ⟨m, rfl, _⟩ := h; rfl
  obtain ⟨m, rfl, hm, k⟩ := h
  obtain ⟨i, hi, rfl⟩ := isL_get hm
  refine ⟨_, (pss_one (ps_ret (pe_and (pe_cmpR op_eq (pe_callB call_len_str (by rfl) T.len (by decide +kernel) (pa_cons (pv 0) pa_nil)) pe_int (nomark _)) (pe_one (pe_cmpR op_in_sign (pv 0) (pe_gl T.LETTERS) (by rfl)))))), ?_⟩
  refine ⟨_, rfl, _, rfl, (by show 1 ≤ sizeLine; decide), rfl, true, congrArg V.bl (decide_eq_true rfl), iteT ?_⟩
  refine ⟨_, rfl, 97 + i, _, rfl, rfl, ?_⟩
  have := lett_in ⟨i, hi⟩
  show Q (.bl (decide (97 + i ∈ ("abcdefgh" : Str).cps.toList))) H
  rw [this]
  exact k
theorem d_is_order (T : Tx w K mg C) (A : Has K mg "is_order" sfis_order) (d_is_mark : Df P w K mg base "is_mark" 1 ["text"] spIsMark) : Df P w K mg base "is_order" 2 ["order"] (spIsOrder K) := by
  refine Df.of A scfis_order (fun vs H Q E h => ?_) (fun _ _ _ _ _ _ us hl => match us, hl with | [_], _ => rfl) (fun f cdv A outer s H vs Q E hr h => ?_)
  · obtain ⟨a, ms, rfl, _⟩ := h; rfl
  obtain ⟨a, ms, rfl, hS, nd, ne, few, hl, k⟩ := h
  refine ⟨_, (pss_cons (ps_if (PW.pt (pw_or (pt_cmpR op_eq (pe_callB call_len_seq (by rfl) T.len (by decide +kernel) (pa_cons (pv 0) pa_nil)) pe_int (nomark _)) (pw_or1 (pt_not (pt_val (pe_callB (cr_all rfl) (by rfl) T.all (by decide +kernel) (pa_cons (pe_lc (own := [("mark", 1)]) (g := gName 1) (tt := tYes) rfl scfis_order.nd (pi_list (pv 0)) (blkOk_by (own := [("mark", 1)]) (N := ["order", "mark"]) (sc := defScope sfis_order) (by decide +kernel)) (fun _ _ _ _ _ => pg_name (i := 1) scfis_order.nd rfl (Or.inl rfl)) (fun _ _ _ _ _ => pts_nil) (fun _ _ _ _ _ => (pe_df d_is_mark (hr.mono (by omega)) (pa_cons (pv 1) pa_nil)))) pa_nil))))))) (pss_one (ps_ret pe_bl)) pss_nil)
      (pss_one (ps_ret (pe_cmpR op_eq (pe_lenSetS rfl (by rfl) T.len (by rfl) T.set (pv 0)) (pe_callB call_len_seq (by rfl) T.len (by decide +kernel) (pa_cons (pv 0) pa_nil)) (nomark _))))), ?_⟩
  refine ⟨_, rfl, a, _, rfl, .inl hS, rfl, ?_⟩
  have n0 : 0 < ms.length := List.length_pos_iff.mpr ne
  rw [show decide (V.int (((ms.map V.str).length : Nat) : Int) = V.int 0) = false from decide_eq_false fun z => by
    have := V.int.inj z
    rw [List.length_map] at this
    omega]
  refine ⟨_, rfl, iteF ⟨_, rfl, a, rfl, ⟨_, hS⟩, fun D hD => ?_⟩⟩
  refine lc_list (K := K) (a := a) (xs := ms.map V.str) (fun i H' => Same H H' ∧ H' D = some (.lst ((List.replicate i true).map V.bl))) ⟨Same.new hD _, upd_same⟩ (fun i H' _ h => h.1.seq hS) ?_ ?_
  · rintro i y H1 hy ⟨s1, d1⟩
    rw [List.getElem?_map] at hy
    obtain ⟨m, hm, rfl⟩ := Option.map_eq_some_iff.mp hy
    have il := (List.getElem?_eq_some_iff.mp hm).1
    refine ⟨rfl, tYif ⟨_, rfl, m, rfl, hl m (List.mem_of_getElem? hm), _, d1, ?_, fun x o hx => ?_, ?_⟩⟩
    · rw [List.length_map, List.length_replicate]; exact small1000 (by omega)
    · rw [upd_ne (ne_of_none hx hD)]; exact s1 x o hx
    · rw [upd_same, List.replicate_succ', List.map_append]; rfl
  · rintro H1 ⟨s1, d1⟩
    refine ⟨D, _, rfl, SqL.of d1, ?_⟩
    have : ((List.replicate (ms.map V.str).length true).all id) = true := by simp
    rw [this]
    refine ⟨_, rfl, iteF ?_⟩
    refine ⟨_, rfl, a, ms, rfl, s1.seq hS, nd, by omega, _, rfl, a, _, rfl, .inl (s1.seq hS), rfl, ?_⟩
    rw [decide_eq_true (by rw [List.length_map])]
    exact k H1 s1
theorem d_ask_order (T : Tx w K mg C) (A : Has K mg "ask_order" sfask_order) (d_is_order : Df P w K mg base "is_order" 2 ["order"] (spIsOrder K)) : Df P w K mg base "ask_order" 3 ["order"] (spAskOrder K) := by
  refine Df.of A scfask_order (fun vs H Q E h => ?_) (fun _ _ _ _ _ _ us hl => match us, hl with | [_], _ => rfl) (fun f cdv A outer s H vs Q E hr h => ?_)
  · obtain ⟨a, ms, rfl, _⟩ := h; rfl
  obtain ⟨a, ms, rfl, hS, nd, ne, few, hl, k⟩ := h
  refine ⟨_, (pss_one (ps_if (pt_not (pt_val (pe_df d_is_order (hr.mono (by omega)) (pa_cons (pv 0) pa_nil)))) (pss_one ps_never) pss_nil)), ?_⟩
  exact ⟨_, rfl, a, ms, rfl, hS, nd, ne, few, hl, fun H' s' => ⟨_, rfl, iteF (k H' s')⟩⟩
theorem d_pieces_of (T : Tx w K mg C) (A : Has K mg "pieces_of" sfpieces_of) : Df P w K mg base "pieces_of" 1 ["sentence"] spPieces := by
  refine Df.of A scfpieces_of (fun vs H Q E h => ?_) (fun _ _ _ _ _ _ us hl => match us, hl with | [_], _ => rfl) (fun f cdv A outer s H vs Q E hr h => ?_)
  · obtain ⟨a, t, rfl, _⟩ := h; rfl
  obtain ⟨a, t, rfl, hs, k⟩ := h
  refine ⟨_, (pss_cons (ps_if (pt_cmpR op_eq (pe_ix ix_tup (pv 0) pe_int (fun _ _ => rfl)) pe_str (nomark _)) (pss_one (ps_ret (pe_lst pa_nil))) pss_nil)
      (pss_cons (ps_if (pt_cmpR op_in_seq (pe_ix ix_tup (pv 0) pe_int (fun _ _ => rfl)) (pe_tup (pa_cons pe_str (pa_cons pe_str pa_nil))) (by rfl)) (pss_one (ps_ret (pe_lst (pa_cons (pe_ix ix_tup (pv 0) pe_int (fun _ _ => rfl)) pa_nil)))) pss_nil)
      (pss_one (ps_ret (pe_callTy call_list_of (by rfl) T.list (by decide +kernel) (pa_cons (pe_slice sl_tup (pv 0) (po_some pe_int) po_none) pa_nil)))))), ?_⟩
  obtain ⟨r, ht⟩ := hs.tup
  refine ⟨_, rfl, a, _, _, .str (wS (wk t)), rfl, rfl, SqT.of ht, at0 _ _, rfl, ?_⟩
  rw [wk_mark]
  have nw : ∀ {H1 : Hp} {p : Addr}, Same H H1 → H1 p = none → H p = none := fun {H1 p} s1 hp => by
    cases q : H p with
    | none => rfl
    | some o => rw [s1 _ _ q] at hp; cases hp
  by_cases c : wk t = .mark
  · rw [decide_eq_true c]
    refine ⟨_, rfl, iteT ⟨Nat.zero_le _, fun p hp => ?_⟩⟩
    refine k p [] _ (Same.new hp _) hp upd_same ⟨?_, fun i a h => by simp at h⟩
    cases t with
    | mk m => rfl
    | tt b => cases b <;> cases c
    | no s => cases c
    | bin o s t => cases o <;> cases c
    | qu b m s => cases b <;> cases c
  rw [decide_eq_false c]
  refine ⟨_, rfl, iteF ?_⟩
  refine ⟨_, rfl, a, _, _, .str (wS (wk t)), rfl, rfl, SqT.of ht, at0 _ _, by decide, fun u hu => ?_⟩
  have s1 := Same.new hu (.tup [.str "some", .str "each"])
  have u1 : upd H u (.tup [.str "some", .str "each"]) u = some (.tup [.str "some", .str "each"]) := upd_same
  generalize upd H u (.tup [.str "some", .str "each"]) = H1 at s1 u1 ⊢
  have h1 := hs.mono s1
  refine ⟨u, _, rfl, .inr (SqT.of u1), rfl, rfl, ?_⟩
  rw [if_neg Bool.false_ne_true, wk_qu]
  by_cases d : wk t = .some ∨ wk t = .each
  · rw [decide_eq_true d]
    refine ⟨_, rfl, iteT ?_⟩
    cases t with
    | qu b m t =>
      obtain ⟨a1, h2, h3⟩ := h1
      refine ⟨_, rfl, a, _, _, .ref a1, rfl, rfl, SqT.of h2, at2 _ _ _ _, (by show 1 ≤ sizeLine; decide), fun p hp => ?_⟩
      refine k p [a1] _ (s1.trans (Same.new hp _)) (nw s1 hp) upd_same ⟨rfl, fun i x hx => ?_⟩
      cases i with
      | zero =>
        have e : a1 = x := by simpa using hx
        exact ⟨t, rfl, e ▸ h3.mono (Same.new hp _)⟩
      | succ i => simp at hx
    | mk m => exact absurd rfl c
    | tt b => cases b <;> rcases d with d | d <;> cases d
    | no s => rcases d with d | d <;> cases d
    | bin o s t => cases o <;> rcases d with d | d <;> cases d
  · rw [decide_eq_false d]
    refine ⟨_, rfl, iteF ?_⟩
    -- list(sentence[1:])
    have rest : ∀ (as : List Addr), PcsAt H1 t as → ∀ u2, H1 u2 = none → ∀ p, upd H1 u2 (.tup (as.map V.ref)) p = none → Q (.ref p) (upd (upd H1 u2 (.tup (as.map V.ref))) p (.lst (as.map V.ref))) := fun as hp u2 hu2 p hp2 => by
      have s2 := Same.new hu2 (.tup (as.map V.ref))
      have s3 := Same.new hp2 (.lst (as.map V.ref))
      refine k p as _ (s1.trans (s2.trans s3)) (nw (s1.trans s2) hp2) upd_same ⟨hp.1, fun i x hx => ?_⟩
      obtain ⟨t', q1, q2⟩ := hp.2 i x hx
      exact ⟨t', q1, q2.mono (s2.trans s3)⟩
    cases t with
    | mk m => exact absurd rfl c
    | qu b m t => exact absurd (by cases b <;> simp [wk]) d
    | tt b =>
      have h2 : H1 a = some (.tup [.str (wTt b)]) := h1
      refine ⟨_, rfl, _, rfl, a, _, rfl, SqT.of h2, (fun z => absurd (show (1 : Nat) = 0 from z.1) (by decide)), fun u2 hu2 => ?_⟩
      exact ⟨u2, [], rfl, .inr (SqT.of upd_same), fun p hp => rest [] ⟨rfl, fun i a h => by simp at h⟩ u2 hu2 p hp⟩
    | no t =>
      obtain ⟨a1, h2, h3⟩ := h1
      refine ⟨_, rfl, _, rfl, a, _, rfl, SqT.of h2, (fun z => absurd (show (1 : Nat) = 0 from z.1) (by decide)), fun u2 hu2 => ?_⟩
      refine ⟨u2, [.ref a1], rfl, .inr (SqT.of upd_same), fun p hp => rest [a1] ⟨rfl, fun i x hx => ?_⟩ u2 hu2 p hp⟩
      cases i with
      | zero =>
        have e : a1 = x := by simpa using hx
        exact ⟨t, rfl, e ▸ h3⟩
      | succ i => simp at hx
    | bin o t1 t2 =>
      obtain ⟨a1, a2, h2, h3, h4⟩ := h1
      refine ⟨_, rfl, _, rfl, a, _, rfl, SqT.of h2, (fun z => absurd (show (1 : Nat) = 0 from z.1) (by decide)), fun u2 hu2 => ?_⟩
      refine ⟨u2, [.ref a1, .ref a2], rfl, .inr (SqT.of upd_same), fun p hp => rest [a1, a2] ⟨rfl, fun i x hx => ?_⟩ u2 hu2 p hp⟩
      cases i with
      | zero =>
        have e : a1 = x := by simpa using hx
        exact ⟨t1, rfl, e ▸ h3⟩
      | succ i =>
        cases i with
        | zero =>
          have e : a2 = x := by simpa using hx
          exact ⟨t2, rfl, e ▸ h4⟩
        | succ i => simp at hx
theorem d_count1 (n : Nat) (T : Tx w K mg C) (A : Has K mg "count" sfcount) (d_pieces_of : Df P w K mg base "pieces_of" 1 ["sentence"] spPieces) (d_count : Df P w K mg base "count" (n + 1) ["sentence"] (spCount n)) : Df P w K mg base "count" (n + 2) ["sentence"] (spCount (n + 1)) := by
  refine Df.of A scfcount (fun vs H Q E h => ?_) (fun _ _ _ _ _ _ us hl => match us, hl with | [_], _ => rfl) (fun f cdv A outer s H vs Q E hr h => ?_)
  · obtain ⟨a, t, rfl, _⟩ := h; rfl
  obtain ⟨a, t, rfl, hs, hd, k⟩ := h
  refine ⟨_, (pss_one (ps_ret (pe_op op_add pe_int (pe_callB (cr_sum rfl) (by rfl) T.sum (by decide +kernel) (pa_cons (pe_lc (own := [("piece", 1)]) (g := gName 1) (tt := tYes) rfl scfcount.nd (pi_list (pe_df d_pieces_of (hr.mono (by omega)) (pa_cons (pv 0) pa_nil))) (blkOk_by (own := [("piece", 1)]) (N := ["sentence", "piece"]) (sc := defScope sfcount) (by decide +kernel)) (fun _ _ _ _ _ => pg_name (i := 1) scfcount.nd rfl (Or.inl rfl)) (fun _ _ _ _ _ => pts_nil) (fun _ _ _ _ _ => (pe_df d_count (hr.mono (by omega)) (pa_cons (pv 1) pa_nil)))) pa_nil))))), ?_⟩
  refine ⟨_, rfl, a, t, rfl, hs, fun p as H1 s1 hp p1 pcs => ?_⟩
  refine ⟨p, rfl, ⟨_, SqL.of p1⟩, fun D hD => ?_⟩
  refine lc_list (K := K) (a := p) (xs := as.map V.ref) (fun i H' => Same H1 H' ∧ H' D = some (.lst ((((kids t).take i).map fun t => ((t.cnt : Nat) : Int)).map V.int))) ⟨Same.new hD _, upd_same⟩ (fun i H' _ h => SqL.of (h.1 _ _ p1)) ?_ ?_
  · rintro i y H2 hy ⟨s2, d2⟩
    rw [List.getElem?_map] at hy
    obtain ⟨x, hx, rfl⟩ := Option.map_eq_some_iff.mp hy
    obtain ⟨u, q1, q2⟩ := pcs.2 i x hx
    have := kid_dep (List.mem_of_getElem? q1)
    refine ⟨rfl, tYif ⟨_, rfl, x, u, rfl, q2.mono s2, by omega, fun H3 s3 => ⟨_, s3 _ _ d2, ?_, fun b o hb => ?_, ?_⟩⟩⟩
    · rw [List.length_map, List.length_map]
      have := kid_few t
      have := List.length_take_le i (kids t)
      exact small1000 (by have := List.length_take_le' i (kids t); omega)
    · rw [upd_ne (ne_of_none hb hD)]; exact s3 _ _ (s2 _ _ hb)
    · rw [upd_same, List.take_add_one, q1, List.map_append, List.map_append]; rfl
  · rintro H2 ⟨s2, d2⟩
    refine ⟨D, _, rfl, SqL.of d2, _, _, rfl, rfl, ?_⟩
    rw [List.length_map, pcs.1, List.take_length]
    exact cast (congrArg (fun z => Q (V.int z) H2) (cnt_kids t).symm) (k H2 (s1.trans s2))
theorem d_deep1 (n : Nat) (T : Tx w K mg C) (A : Has K mg "deep" sfdeep) (d_pieces_of : Df P w K mg base "pieces_of" 1 ["sentence"] spPieces) (d_deep : Df P w K mg base "deep" (n + 1) ["sentence"] (spDeep n)) : Df P w K mg base "deep" (n + 2) ["sentence"] (spDeep (n + 1)) := by
  refine Df.of A scfdeep (fun vs H Q E h => ?_) (fun _ _ _ _ _ _ us hl => match us, hl with | [_], _ => rfl) (fun f cdv A outer s H vs Q E hr h => ?_)
  · obtain ⟨a, t, rfl, _⟩ := h; rfl
  obtain ⟨a, t, rfl, hs, hd, k⟩ := h
  refine ⟨_, (pss_one (ps_ret (pe_op op_add pe_int (pe_callBK (cr_maxDef rfl hr.units) (by rfl) T.max (by decide +kernel) (pa_cons (pe_lc (own := [("piece", 1)]) (g := gName 1) (tt := tYes) rfl scfdeep.nd (pi_list (pe_df d_pieces_of (hr.mono (by omega)) (pa_cons (pv 0) pa_nil))) (blkOk_by (own := [("piece", 1)]) (N := ["sentence", "piece"]) (sc := defScope sfdeep) (by decide +kernel)) (fun _ _ _ _ _ => pg_name (i := 1) scfdeep.nd rfl (Or.inl rfl)) (fun _ _ _ _ _ => pts_nil) (fun _ _ _ _ _ => (pe_df d_deep (hr.mono (by omega)) (pa_cons (pv 1) pa_nil)))) pa_nil) (pk_cons pe_int pk_nil))))), ?_⟩
  refine ⟨_, rfl, a, t, rfl, hs, fun p as H1 s1 hp p1 pcs => ?_⟩
  refine ⟨p, rfl, ⟨_, SqL.of p1⟩, fun D hD => ?_⟩
  refine lc_list (K := K) (a := p) (xs := as.map V.ref) (fun i H' => Same H1 H' ∧ H' D = some (.lst ((((kids t).take i).map fun t => ((t.dep : Nat) : Int)).map V.int))) ⟨Same.new hD _, upd_same⟩ (fun i H' _ h => SqL.of (h.1 _ _ p1)) ?_ ?_
  · rintro i y H2 hy ⟨s2, d2⟩
    rw [List.getElem?_map] at hy
    obtain ⟨x, hx, rfl⟩ := Option.map_eq_some_iff.mp hy
    obtain ⟨u, q1, q2⟩ := pcs.2 i x hx
    have := kid_dep (List.mem_of_getElem? q1)
    refine ⟨rfl, tYif ⟨_, rfl, x, u, rfl, q2.mono s2, by omega, fun H3 s3 => ⟨_, s3 _ _ d2, ?_, fun b o hb => ?_, ?_⟩⟩⟩
    · rw [List.length_map, List.length_map]
      have := kid_few t
      exact small1000 (by have := List.length_take_le' i (kids t); omega)
    · rw [upd_ne (ne_of_none hb hD)]; exact s3 _ _ (s2 _ _ hb)
    · rw [upd_same, List.take_add_one, q1, List.map_append, List.map_append]; rfl
  · rintro H2 ⟨s2, d2⟩
    refine ⟨D, _, 0, rfl, rfl, SqL.of d2, _, _, rfl, rfl, ?_⟩
    rw [List.length_map, pcs.1, List.take_length]
    exact cast (congrArg (fun z => Q (V.int z) H2) (dep_kids t).symm) (k H2 (s1.trans s2))
theorem d_counts (T : Tx w K mg C) (A : Has K mg "count" sfcount) (d_pieces_of : Df P w K mg base "pieces_of" 1 ["sentence"] spPieces) : ∀ n, Df P w K mg base "count" (n + 1) ["sentence"] (spCount n)
  | 0 => (Df.never A (fun _ _ _ _ _ _ us hl => match us, hl with | [_], _ => rfl) (fun vs H Q E ⟨a, t, _, _, h, _⟩ => by have := dep_pos t; omega)).mono (Nat.zero_le _)
  | n + 1 => d_count1 n T A d_pieces_of (d_counts T A d_pieces_of n)
theorem d_deeps (T : Tx w K mg C) (A : Has K mg "deep" sfdeep) (d_pieces_of : Df P w K mg base "pieces_of" 1 ["sentence"] spPieces) : ∀ n, Df P w K mg base "deep" (n + 1) ["sentence"] (spDeep n)
  | 0 => (Df.never A (fun _ _ _ _ _ _ us hl => match us, hl with | [_], _ => rfl) (fun vs H Q E ⟨a, t, _, _, h, _⟩ => by have := dep_pos t; omega)).mono (Nat.zero_le _)
  | n + 1 => d_deep1 n T A d_pieces_of (d_deeps T A d_pieces_of n)
end
end DW


set_option maxHeartbeats 4000000
/-! Sentences: well_made, is_sentence, ask_sentence, named, marks_of, ask_marks. -/
namespace DW
open PySem PySem.Spec PyProof.Rows L2
theorem scfwell_made : FnScope ["some", "piece"] ["some"] (defScope sfwell_made) := ⟨rfl, rfl, rfl, by decide +kernel, rfl, by decide +kernel, by decide +kernel⟩
theorem scfis_sentence : FnScope ["some"] ["some"] (defScope sfis_sentence) := ⟨rfl, rfl, rfl, by decide +kernel, rfl, by decide +kernel, by decide +kernel⟩
theorem scfask_sentence : FnScope ["sentence"] ["sentence"] (defScope sfask_sentence) := ⟨rfl, rfl, rfl, by decide +kernel, rfl, by decide +kernel, by decide +kernel⟩
theorem scfnamed : FnScope ["sentence", "found", "piece"] ["sentence"] (defScope sfnamed) := ⟨rfl, rfl, rfl, by decide +kernel, rfl, by decide +kernel, by decide +kernel⟩
theorem scfmarks_of : FnScope ["sentence", "mark"] ["sentence"] (defScope sfmarks_of) := ⟨rfl, rfl, rfl, by decide +kernel, rfl, by decide +kernel, by decide +kernel⟩
theorem scfask_marks : FnScope ["sentence", "order", "mark"] ["sentence", "order"] (defScope sfask_marks) := ⟨rfl, rfl, rfl, by decide +kernel, rfl, by decide +kernel, by decide +kernel⟩
theorem SenAt.pcs {H : Hp} {t : Sn} {a : Addr} (h : SenAt H t a) (c : wk t ≠ .mark) (d : ¬ (wk t = .some ∨ wk t = .each)) : ∃ as : List Addr, H a = some (.tup (.str (wS (wk t)) :: as.map V.ref)) ∧ PcsAt H t as ∧ (wS (wk t), He.Dv.int ((as.length : Nat) : Int)) ∈ tPieces := by
  cases t with
  | mk m => exact absurd rfl c
  | qu b m t => exact absurd (by cases b <;> simp [wk]) d
  | tt b =>
    refine ⟨[], ?_, ⟨rfl, fun i a h => by simp at h⟩, ?_⟩
    · cases b <;> exact h
    · cases b
      · exact List.mem_of_getElem? (i := 1) rfl
      · exact List.mem_of_getElem? (i := 0) rfl
  | no t =>
    obtain ⟨a1, h2, h3⟩ := h
    refine ⟨[a1], h2, ⟨rfl, fun i x hx => ?_⟩, List.mem_of_getElem? (i := 2) rfl⟩
    cases i with
    | zero =>
      have e : a1 = x := by simpa using hx
      exact ⟨t, rfl, e ▸ h3⟩
    | succ i => simp at hx
  | bin o t1 t2 =>
    obtain ⟨a1, a2, h2, h3, h4⟩ := h
    refine ⟨[a1, a2], by cases o <;> exact h2, ⟨rfl, fun i x hx => ?_⟩, ?_⟩
    · cases i with
      | zero =>
        have e : a1 = x := by simpa using hx
        exact ⟨t1, rfl, e ▸ h3⟩
      | succ i =>
        cases i with
        | zero =>
          have e : a2 = x := by simpa using hx
          exact ⟨t2, rfl, e ▸ h4⟩
        | succ i => simp at hx
    · cases o
      · exact List.mem_of_getElem? (i := 3) rfl
      · exact List.mem_of_getElem? (i := 4) rfl
      · exact List.mem_of_getElem? (i := 5) rfl
      · exact List.mem_of_getElem? (i := 6) rfl
theorem mark_of {t : Sn} (c : wk t = .mark) : ∃ m, t = .mk m := by
  cases t with
  | mk m => exact ⟨m, rfl⟩
  | tt b => cases b <;> cases c
  | no s => cases c
  | bin o s t => cases o <;> cases c
  | qu b m s => cases b <;> cases c
theorem qu_of {t : Sn} (d : wk t = .some ∨ wk t = .each) : ∃ b m s, t = .qu b m s := by
  cases t with
  | qu b m s => exact ⟨b, m, s, rfl⟩
  | mk m => rcases d with d | d <;> cases d
  | tt b => cases b <;> rcases d with d | d <;> cases d
  | no s => rcases d with d | d <;> cases d
  | bin o s t => cases o <;> rcases d with d | d <;> cases d
def spWell (n : Nat) : Sp := fun vs H Q _ => ∃ (a : Addr) (s : Sn), vs = [.ref a] ∧ SenAt H s a ∧ s.dep ≤ n ∧ s.all isL = true ∧ ∀ H', Same H H' → Q (.bl true) H'
def spIsSen : Sp := fun vs H Q _ => ∃ (a : Addr) (s : Sn), vs = [.ref a] ∧ SenAt H s a ∧ s.dep ≤ 24 ∧ s.cnt ≤ 200 ∧ s.all isL = true ∧ ∀ H', Same H H' → Q (.bl true) H'
def spAskSen : Sp := fun vs H Q _ => ∃ (a : Addr) (s : Sn), vs = [.ref a] ∧ SenAt H s a ∧ s.dep ≤ 24 ∧ s.cnt ≤ 200 ∧ s.all isL = true ∧ ∀ H', Same H H' → Q .non H'
def spNamed (n : Nat) : Sp := fun vs H Q _ => ∃ (a : Addr) (s : Sn), vs = [.ref a] ∧ SenAt H s a ∧ s.dep ≤ n ∧ s.cnt ≤ 200 ∧ ∀ (p : Addr) (ms : List Str) (H' : Hp), Same H H' → H p = none → H' p = some (.lst (ms.map V.str)) → ms.length ≤ s.cnt → (∀ pr : Str → Bool, s.all pr = true → ∀ m ∈ ms, pr m = true) → Q (.ref p) H'
def spMarksOf : Sp := fun vs H Q _ => ∃ (a : Addr) (s : Sn), vs = [.ref a] ∧ SenAt H s a ∧ s.dep ≤ 24 ∧ s.cnt ≤ 200 ∧ s.all isL = true ∧ ∀ (p : Addr) (ms : List Str) (H' : Hp), Same H H' → H p = none → H' p = some (.lst (ms.map V.str)) → (∀ pr : Str → Bool, s.all pr = true → ∀ m ∈ ms, pr m = true) → Q (.ref p) H'
def spAskMarks (K : PySem.W.Frag) : Sp := fun vs H Q _ => ∃ (a o : Addr) (s : Sn) (ms : List Str), vs = [.ref a, .ref o] ∧ SenAt H s a ∧ s.dep ≤ 24 ∧ s.cnt ≤ 200 ∧ s.all isL = true ∧ SqL K H o (ms.map V.str) ∧ s.all (fun m => decide (m ∈ ms)) = true ∧ ∀ H', Same H H' → Q .non H'
theorem merge {N Pv : Hp → Prop} {G : Prop} (h : (∀ H, Pv H → N H) → G) (tail : ∀ H, Pv H → N H) : G := h tail
theorem six_one (x : V) (r : List V) : HT.sIx (x :: r).length 0 (some 1) = 1 := by simp [HT.sIx]
theorem cut_tail (x : V) (r : List V) : cutV (x :: r) (some 1) none = r := by
  unfold cutV
  rw [six_one]
  have e1 : HT.sIx (x :: r).length (x :: r).length none = (x :: r).length := rfl
  rw [e1]
  simp
theorem Same.nw {H H1 : Hp} {p : Addr} (s1 : Same H H1) (hp : H1 p = none) : H p = none := by
  cases q : H p with
  | none => rfl
  | some o => rw [s1 _ _ q] at hp; cases hp
section
variable {P : Program} {w : World} {K : PySem.W.Frag} {mg : Str → Option Value} {base : Heap} {C : Addr}
theorem d_well1 (n : Nat) (T : Tx w K mg C) (A : Has K mg "well_made" sfwell_made) (d_is_mark : Df P w K mg base "is_mark" 1 ["text"] spIsMark) (d_well_made : Df P w K mg base "well_made" (n + 1) ["some"] (spWell n)) : Df P w K mg base "well_made" (n + 2) ["some"] (spWell (n + 1)) := by
  obtain ⟨pa, pes, pn, pg, kd_PIECES, hpv⟩ := T.pcs
  have g_PIECES : GlV mg "PIECES" (.ref pa) := ⟨_, pg, rfl⟩
  refine Df.of A scfwell_made (fun vs H Q E h => ?_) (fun _ _ _ _ _ _ us hl => match us, hl with | [_], _ => rfl) (fun f cdv A outer s H vs Q E hr h => ?_)
  · obtain ⟨a, t, rfl, _⟩ := h; rfl
  obtain ⟨a, t, rfl, hs, hd, hal, k⟩ := h
  refine ⟨_, (pss_cons (ps_if (PW.pt (pw_or (pt_cmpR op_eq (pe_callB call_len_seq (by rfl) T.len (by decide +kernel) (pa_cons (pv 0) pa_nil)) pe_int (nomark _)) (pw_or1 (pt_not (pt_val (pe_callB call_isi (by rfl) T.isi (by decide +kernel) (pa_cons (pe_ix ix_tup (pv 0) pe_int (fun _ _ => rfl)) (pa_cons (pe_bltn (v := .ty "str") rfl T.str (by decide +kernel) rfl) pa_nil)))))))) (pss_one (ps_ret pe_bl)) pss_nil)
      (pss_cons (ps_if (pt_cmpR op_eq (pe_ix ix_tup (pv 0) pe_int (fun _ _ => rfl)) pe_str (nomark _)) (pss_one (ps_ret (pe_and (pe_cmpR op_eq (pe_callB call_len_seq (by rfl) T.len (by decide +kernel) (pa_cons (pv 0) pa_nil)) pe_int (nomark _)) (pe_and (pe_callB call_isi (by rfl) T.isi (by decide +kernel) (pa_cons (pe_ix ix_tup (pv 0) pe_int (fun _ _ => rfl)) (pa_cons (pe_bltn (v := .ty "str") rfl T.str (by decide +kernel) rfl) pa_nil))) (pe_one (pe_df d_is_mark (hr.mono (by omega)) (pa_cons (pe_ix ix_tup (pv 0) pe_int (fun _ _ => rfl)) pa_nil))))))) pss_nil)
      (pss_cons (ps_if (pt_cmpR op_in_seq (pe_ix ix_tup (pv 0) pe_int (fun _ _ => rfl)) (pe_tup (pa_cons pe_str (pa_cons pe_str pa_nil))) (by rfl)) (pss_cons (ps_if (PW.pt (pw_or (pt_cmpR op_ne (pe_callB call_len_seq (by rfl) T.len (by decide +kernel) (pa_cons (pv 0) pa_nil)) pe_int (nomark _)) (pw_or (pt_not (pt_val (pe_callB call_isi (by rfl) T.isi (by decide +kernel) (pa_cons (pe_ix ix_tup (pv 0) pe_int (fun _ _ => rfl)) (pa_cons (pe_bltn (v := .ty "str") rfl T.str (by decide +kernel) rfl) pa_nil))))) (pw_or1 (pt_not (pt_val (pe_df d_is_mark (hr.mono (by omega)) (pa_cons (pe_ix ix_tup (pv 0) pe_int (fun _ _ => rfl)) pa_nil)))))))) (pss_one (ps_ret pe_bl)) pss_nil)
      (pss_one (ps_ret (pe_and (pe_callB call_isi (by rfl) T.isi (by decide +kernel) (pa_cons (pe_ix ix_tup (pv 0) pe_int (fun _ _ => rfl)) (pa_cons (pe_bltn (v := .ty "tuple") rfl T.tuple (by decide +kernel) rfl) pa_nil))) (pe_one (pe_df d_well_made (hr.mono (by omega)) (pa_cons (pe_ix ix_tup (pv 0) pe_int (fun _ _ => rfl)) pa_nil))))))) pss_nil)
      (pss_cons (ps_if (PW.pt (pw_or (pt_cmpR (op_notIn_kd kd_PIECES) (pe_ix ix_tup (pv 0) pe_int (fun _ _ => rfl)) (pe_gl g_PIECES) (by rfl)) (pw_or1 (pt_cmpR op_ne (pe_callB call_len_seq (by rfl) T.len (by decide +kernel) (pa_cons (pv 0) pa_nil)) (pe_op op_add (pe_ix ix_kdict (pe_gl g_PIECES) (pe_ix ix_tup (pv 0) pe_int (fun _ _ => rfl)) (fun _ _ => rfl)) pe_int) (nomark _))))) (pss_one (ps_ret pe_bl)) pss_nil)
      (pss_one (ps_ret (pe_callB (cr_all rfl) (by rfl) T.all (by decide +kernel) (pa_cons (pe_lc (own := [("piece", 1)]) (g := gName 1) (tt := tYes) rfl scfwell_made.nd (pi_tup (pe_slice sl_tup (pv 0) (po_some pe_int) po_none)) (blkOk_by (own := [("piece", 1)]) (N := ["some", "piece"]) (sc := defScope sfwell_made) (by decide +kernel)) (fun _ _ _ _ _ => pg_name (i := 1) scfwell_made.nd rfl (Or.inl rfl)) (fun _ _ _ _ _ => pts_nil) (fun _ _ _ _ _ => (pe_and (pe_callB (call_isiK' (K := K) rfl) (by rfl) T.isi (by decide +kernel) (pa_cons (pv 1) (pa_cons (pe_bltn (v := .ty "tuple") rfl T.tuple (by decide +kernel) rfl) pa_nil))) (pe_one (pe_df d_well_made (hr.mono (by omega)) (pa_cons (pv 1) pa_nil)))))) pa_nil)))))))), ?_⟩
  obtain ⟨r, ht⟩ := hs.tup
  refine ⟨_, rfl, a, _, rfl, .inr (SqT.of ht), rfl, ?_⟩
  rw [show decide (V.int (((V.str (wS (wk t)) :: r).length : Nat) : Int) = V.int 0) = false from decide_eq_false fun z => by
    have := V.int.inj z
    rw [List.length_cons] at this
    omega]
  refine ⟨_, rfl, iteF ⟨_, rfl, a, _, _, .str (wS (wk t)), rfl, rfl, SqT.of ht, at0 _ _, .str _, .ty "str", .type "str", .type "str", true, rfl, .ty "str", .base (.str _), if_pos (beq_self_eq_true _), ⟨_, rfl, iteF ?_⟩⟩⟩
  refine ⟨_, rfl, a, _, _, .str (wS (wk t)), rfl, rfl, SqT.of ht, at0 _ _, rfl, ?_⟩
  rw [wk_mark]
  by_cases c : wk t = .mark
  · rw [decide_eq_true c]
    obtain ⟨m, rfl⟩ := mark_of c
    have h2 : H a = some (.tup [.str "mark", .str m]) := hs
    refine ⟨_, rfl, iteT ⟨_, rfl, a, _, rfl, .inr (SqT.of h2), rfl, true, congrArg V.bl (decide_eq_true rfl), iteT ?_⟩⟩
    refine ⟨_, rfl, a, _, _, .str m, rfl, rfl, SqT.of h2, at1 _ _ _, .str _, .ty "str", .type "str", .type "str", true, rfl, .ty "str", .base (.str _), if_pos (beq_self_eq_true _), ⟨true, rfl, iteT ?_⟩⟩
    exact ⟨_, rfl, a, _, _, .str m, rfl, rfl, SqT.of h2, at1 _ _ _, m, rfl, hal, k H (Same.refl _)⟩
  rw [decide_eq_false c]
  refine ⟨_, rfl, iteF ?_⟩
  refine ⟨_, rfl, a, _, _, .str (wS (wk t)), rfl, rfl, SqT.of ht, at0 _ _, by decide, fun u hu => ?_⟩
  have s1 := Same.new hu (.tup [.str "some", .str "each"])
  have u1 : upd H u (.tup [.str "some", .str "each"]) u = some (.tup [.str "some", .str "each"]) := upd_same
  generalize upd H u (.tup [.str "some", .str "each"]) = H1 at s1 u1 ⊢
  have h1 := hs.mono s1
  refine ⟨u, _, rfl, .inr (SqT.of u1), rfl, rfl, ?_⟩
  rw [if_neg Bool.false_ne_true, wk_qu]
  by_cases d : wk t = .some ∨ wk t = .each
  · rw [decide_eq_true d]
    obtain ⟨b, m, t, rfl⟩ := qu_of d
    obtain ⟨a1, h2, h3⟩ := h1
    simp only [DB.Sn.all, Bool.and_eq_true] at hal
    have := kid_dep (s := .qu b m t) List.mem_cons_self
    refine ⟨_, rfl, iteT ?_⟩
    refine ⟨_, rfl, a, _, rfl, .inr (SqT.of h2), rfl, ?_⟩
    refine ⟨false, rfl, iteF ⟨_, rfl, a, _, _, .str m, rfl, rfl, SqT.of h2, at1 _ _ _, .str _, .ty "str", .type "str", .type "str", true, rfl, .ty "str", .base (.str _), if_pos (beq_self_eq_true _), ⟨_, rfl, iteF ?_⟩⟩⟩
    refine ⟨_, rfl, a, _, _, .str m, rfl, rfl, SqT.of h2, at1 _ _ _, m, rfl, hal.1, _, rfl, iteF ?_⟩
    obtain ⟨r3, h4⟩ := h3.tup
    refine ⟨_, rfl, a, _, _, .ref a1, rfl, rfl, SqT.of h2, at2 _ _ _ _, .ref a1, .ty "tuple", .type "tuple", .type "tuple", true, rfl, .ty "tuple", .base (.tup h4), if_pos (beq_self_eq_true _), ⟨true, rfl, iteT ?_⟩⟩
    exact ⟨_, rfl, a, _, _, .ref a1, rfl, rfl, SqT.of h2, at2 _ _ _ _, a1, t, rfl, h3, by omega, hal.2, fun H' s' => k H' (s1.trans s')⟩
  rw [decide_eq_false d]
  refine ⟨_, rfl, iteF ?_⟩
  obtain ⟨as, h2, pcs, hp⟩ := h1.pcs c d
  obtain ⟨v, nv, rv⟩ := hpv _ hp
  refine ⟨_, rfl, a, _, _, .str (wS (wk t)), rfl, rfl, SqT.of h2, at0 _ _, wS (wk t), _, rfl, rfl, nv, false, rfl, iteF ?_⟩
  refine ⟨_, rfl, a, _, rfl, .inr (SqT.of h2), _, rfl, a, _, _, .str (wS (wk t)), rfl, rfl, SqT.of h2, at0 _ _, pa, _, .int ((as.length : Nat) : Int), rfl, rfl, ⟨pes, pn, v, kd_PIECES.at_, kd_PIECES.lit, nv, rv⟩, _, _, rfl, rfl, rfl, ?_⟩
  rw [show (!decide (V.int (((V.str (wS (wk t)) :: as.map V.ref).length : Nat) : Int) = V.int (((as.length : Nat) : Int) + 1))) = false from by
    rw [decide_eq_true (by rw [List.length_cons, List.length_map]; rfl)]; rfl]
  refine ⟨_, rfl, iteF ?_⟩
  refine ⟨_, rfl, _, rfl, a, _, rfl, SqT.of h2, (fun z => ?_), fun u2 hu2 => ?_⟩
  · have e := z.1
    rw [six_one] at e
    cases e
  rw [cut_tail]
  have s2 := Same.new hu2 (.tup (as.map V.ref))
  have u3 : upd H1 u2 (.tup (as.map V.ref)) u2 = some (.tup (as.map V.ref)) := upd_same
  generalize upd H1 u2 (.tup (as.map V.ref)) = H2 at s2 u3 ⊢
  refine ⟨u2, rfl, ⟨_, SqT.of u3⟩, fun D hD => ?_⟩
  refine lc_tup (K := K) (a := u2) (xs := as.map V.ref) (fun i H' => Same H2 H' ∧ H' D = some (.lst ((List.replicate i true).map V.bl))) ⟨Same.new hD _, upd_same⟩ (fun i H' _ h => SqT.of (h.1 _ _ u3)) ?_ ?_
  · rintro i y H3 hy ⟨s3, d3⟩
    rw [List.getElem?_map] at hy
    obtain ⟨x, hx, rfl⟩ := Option.map_eq_some_iff.mp hy
    obtain ⟨t', q1, q2⟩ := pcs.2 i x hx
    have hm := List.mem_of_getElem? q1
    have := kid_dep hm
    have il := (List.getElem?_eq_some_iff.mp hx).1
    have := kid_few t
    have := pcs.1
    have q3 := q2.mono (s2.trans s3)
    obtain ⟨r3, h4⟩ := q3.tup
    refine ⟨rfl, tYif ⟨_, rfl, .ref x, .ty "tuple", .type "tuple", .type "tuple", true, rfl, .ty "tuple", .base (.tup h4), if_pos (beq_self_eq_true _), true, rfl, iteT ?_⟩⟩
    refine ⟨_, rfl, x, t', rfl, q3, by omega, kid_all hm hal, fun H4 s4 => ⟨_, s4 _ _ d3, ?_, fun b o hb => ?_, ?_⟩⟩
    · rw [List.length_map, List.length_replicate]; exact small1000 (by omega)
    · rw [upd_ne (ne_of_none hb hD)]; exact s4 _ _ (s3 _ _ hb)
    · rw [upd_same, List.replicate_succ', List.map_append]; rfl
  · rintro H3 ⟨s3, d3⟩
    refine ⟨D, _, rfl, SqL.of d3, ?_⟩
    have : ((List.replicate (as.map V.ref).length true).all id) = true := by simp
    rw [this]
    exact k H3 (s1.trans (s2.trans s3))
theorem d_wells (T : Tx w K mg C) (A : Has K mg "well_made" sfwell_made) (d_is_mark : Df P w K mg base "is_mark" 1 ["text"] spIsMark) : ∀ n, Df P w K mg base "well_made" (n + 1) ["some"] (spWell n)
  | 0 => (Df.never A (fun _ _ _ _ _ _ us hl => match us, hl with | [_], _ => rfl) (fun vs H Q E ⟨a, t, _, _, h, _⟩ => by have := dep_pos t; omega)).mono (Nat.zero_le _)
  | n + 1 => d_well1 n T A d_is_mark (d_wells T A d_is_mark n)
theorem d_is_sentence (T : Tx w K mg C) (A : Has K mg "is_sentence" sfis_sentence) (d_well_made : Df P w K mg base "well_made" 25 ["some"] (spWell 24)) (d_count : Df P w K mg base "count" 25 ["sentence"] (spCount 24)) (d_deep : Df P w K mg base "deep" 25 ["sentence"] (spDeep 24)) : Df P w K mg base "is_sentence" 26 ["some"] spIsSen := by
  refine Df.of A scfis_sentence (fun vs H Q E h => ?_) (fun _ _ _ _ _ _ us hl => match us, hl with | [_], _ => rfl) (fun f cdv A outer s H vs Q E hr h => ?_)
  · obtain ⟨a, t, rfl, _⟩ := h; rfl
  obtain ⟨a, t, rfl, hs, hd, hc, hal, k⟩ := h
  refine ⟨_, (pss_one (ps_ret (pe_and (pe_df d_well_made (hr.mono (by omega)) (pa_cons (pv 0) pa_nil)) (pe_and (pe_cmpR op_le (pe_df d_count (hr.mono (by omega)) (pa_cons (pv 0) pa_nil)) (pe_gl T.WORDS) (nomark _)) (pe_one (pe_cmpR op_le (pe_df d_deep (hr.mono (by omega)) (pa_cons (pv 0) pa_nil)) (pe_gl T.DEEP) (nomark _))))))), ?_⟩
  refine ⟨_, rfl, a, t, rfl, hs, hd, hal, fun H1 s1 => ⟨true, rfl, iteT ?_⟩⟩
  refine ⟨_, rfl, a, t, rfl, hs.mono s1, hd, fun H2 s2 => ⟨_, _, rfl, rfl, true, congrArg V.bl (decide_eq_true (by omega)), iteT ?_⟩⟩
  refine ⟨_, rfl, a, t, rfl, hs.mono (s1.trans s2), hd, fun H3 s3 => ⟨_, _, rfl, rfl, ?_⟩⟩
  show Q (.bl (decide (((t.dep : Nat) : Int) ≤ 24))) H3
  rw [decide_eq_true (by omega)]
  exact k H3 (s1.trans (s2.trans s3))
theorem d_ask_sentence (T : Tx w K mg C) (A : Has K mg "ask_sentence" sfask_sentence) (d_is_sentence : Df P w K mg base "is_sentence" 26 ["some"] spIsSen) : Df P w K mg base "ask_sentence" 27 ["sentence"] spAskSen := by
  refine Df.of A scfask_sentence (fun vs H Q E h => ?_) (fun _ _ _ _ _ _ us hl => match us, hl with | [_], _ => rfl) (fun f cdv A outer s H vs Q E hr h => ?_)
  · obtain ⟨a, t, rfl, _⟩ := h; rfl
  obtain ⟨a, t, rfl, hs, hd, hc, hal, k⟩ := h
  refine ⟨_, (pss_one (ps_if (pt_not (pt_val (pe_df d_is_sentence (hr.mono (by omega)) (pa_cons (pv 0) pa_nil)))) (pss_one ps_never) pss_nil)), ?_⟩
  exact ⟨_, rfl, a, t, rfl, hs, hd, hc, hal, fun H' s' => ⟨_, rfl, iteF (k H' s')⟩⟩
/-! named -/
theorem cnt_nat (s : Sn) : 1 + ((kids s).map fun t => t.cnt).sum = s.cnt := by
  cases s <;> simp [kids, DB.Sn.cnt] <;> omega
def lets : Sn → List Str
  | .mk m => [m]
  | .qu _ m _ => [m]
  | _ => []
theorem lets_all {p : Str → Bool} {s : Sn} (h : s.all p = true) : ∀ m ∈ lets s, p m = true := fun m hm => by
  cases s with
  | mk x => rw [List.mem_singleton.mp hm]; exact h
  | qu b x t =>
    rw [List.mem_singleton.mp hm]
    simp only [DB.Sn.all, Bool.and_eq_true] at h
    exact h.1
  | _ => cases hm
theorem lets_le (s : Sn) : (lets s).length ≤ 1 := by cases s <;> simp [lets]
theorem lets_at {H : Hp} {s : Sn} {a : Addr} (h : SenAt H s a) (c : wk s = .mark ∨ wk s = .some ∨ wk s = .each) : ∃ m r, H a = some (.tup (.str (wS (wk s)) :: .str m :: r)) ∧ lets s = [m] := by
  rcases c with c | c
  · obtain ⟨m, rfl⟩ := mark_of c
    exact ⟨m, _, h, rfl⟩
  · obtain ⟨b, m, t, rfl⟩ := qu_of c
    obtain ⟨a1, h2, h3⟩ := h
    exact ⟨m, _, by cases b <;> exact h2, rfl⟩
theorem lets_no {s : Sn} (c : ¬ (wk s = .mark ∨ wk s = .some ∨ wk s = .each)) : lets s = [] := by
  cases s with
  | mk m => exact absurd (.inl rfl) c
  | qu b m t => exact absurd (by cases b <;> simp [wk]) c
  | _ => rfl
theorem d_named1 (n : Nat) (T : Tx w K mg C) (A : Has K mg "named" sfnamed) (d_pieces_of : Df P w K mg base "pieces_of" 1 ["sentence"] spPieces) (d_named : Df P w K mg base "named" (n + 1) ["sentence"] (spNamed n)) : Df P w K mg base "named" (n + 2) ["sentence"] (spNamed (n + 1)) := by
  refine Df.of A scfnamed (fun vs H Q E h => ?_) (fun _ _ _ _ _ _ us hl => match us, hl with | [_], _ => rfl) (fun f cdv A outer s H vs Q E hr h => ?_)
  · obtain ⟨a, t, rfl, _⟩ := h; rfl
  obtain ⟨a, t, rfl, hs, hd, hc, k⟩ := h
  refine ⟨_, (pss_cons (ps_set (i := 1) scfnamed.nd rfl (Or.inl rfl) (pe_lst pa_nil))
      (pss_cons (ps_if (pt_cmpR op_in_seq (pe_ix ix_tup (pv 0) pe_int (fun _ _ => rfl)) (pe_tup (pa_cons pe_str (pa_cons pe_str (pa_cons pe_str pa_nil)))) (by rfl)) (pss_one (ps_expr (pe_bm PySem.F.plainAttrs_list PySem.F.slot_list_append PySem.F.type_list_append mt_append (pv 1) (pa_cons (pe_ix ix_tup (pv 0) pe_int (fun _ _ => rfl)) pa_nil)))) pss_nil)
      (pss_cons (ps_for PassesOwn.never rfl (pi_list (pe_df d_pieces_of (hr.mono (by omega)) (pa_cons (pv 0) pa_nil))) (pg_name (i := 2) scfnamed.nd rfl (Or.inl rfl)) (pss_one (ps_expr (pe_bm PySem.F.plainAttrs_list PySem.F.slot_list_extend PySem.F.type_list_extend mt_extend (pv 1) (pa_cons (pe_df d_named (hr.mono (by omega)) (pa_cons (pv 2) pa_nil)) pa_nil)))))
      (pss_one (ps_ret (pv 1)))))), ?_⟩
  refine ⟨Nat.zero_le _, fun o ho => ?_⟩
  have s0 := Same.new ho (.lst [])
  have o0 : upd H o (.lst []) o = some (.lst (([] : List Str).map V.str)) := upd_same
  generalize upd H o (.lst []) = H0 at s0 o0 ⊢
  obtain ⟨r, ht⟩ := (hs.mono s0).tup
  refine ⟨_, rfl, a, _, _, .str (wS (wk t)), rfl, rfl, SqT.of ht, at0 _ _, by decide, fun u hu => ?_⟩
  have s1 := Same.new hu (.tup [.str "mark", .str "some", .str "each"])
  have u1 : upd H0 u (.tup [.str "mark", .str "some", .str "each"]) u = some (.tup [.str "mark", .str "some", .str "each"]) := upd_same
  generalize upd H0 u (.tup [.str "mark", .str "some", .str "each"]) = H1 at s1 u1 ⊢
  have o1 := s1 _ _ o0
  refine ⟨u, _, rfl, .inr (SqT.of u1), rfl, rfl, ?_⟩
  rw [if_neg Bool.false_ne_true, wk_let]
  apply merge (Pv := fun H2 => Same H H2 ∧ H2 o = some (.lst ((lets t).map V.str)))
  · intro hN
    by_cases c : wk t = .mark ∨ wk t = .some ∨ wk t = .each
    · rw [decide_eq_true c]
      obtain ⟨m, r2, h2, hl⟩ := lets_at (hs.mono (s0.trans s1)) c
      refine ⟨_, rfl, iteT ⟨_, rfl, .inl ⟨rfl, _, SqL.of o1⟩, _, rfl, a, _, _, .str m, rfl, rfl, SqT.of h2, at1 _ _ _, o, _, _, rfl, rfl, o1, by decide, ?_⟩⟩
      have s2 : Same H (upd H1 o (.lst ([].map V.str ++ [.str m]))) := fun b x hb => by rw [upd_ne (ne_of_none hb ho)]; exact s1 _ _ (s0 _ _ hb)
      have o2 : upd H1 o (.lst ([].map V.str ++ [.str m])) o = some (.lst ((lets t).map V.str)) := by rw [upd_same, hl]; rfl
      generalize upd H1 o (.lst ([].map V.str ++ [.str m])) = H2 at s2 o2 ⊢
      exact hN H2 ⟨s2, o2⟩
    · rw [decide_eq_false c]
      exact ⟨_, rfl, iteF (hN H1 ⟨s0.trans s1, by rw [o1, lets_no c]⟩)⟩
  · rintro H2 ⟨s2, o2⟩
    refine ⟨_, rfl, a, t, rfl, hs.mono s2, fun p as H3 s3 hp p3 pcs => ?_⟩
    have npo : p ≠ o := fun z => by rw [z, o2] at hp; cases hp
    have o3 := s3 _ _ o2
    refine ⟨p, rfl, ⟨_, SqL.of p3⟩, for_list (K := K) (a := p) (xs := as.map V.ref) (fun i σ H' => ∃ (ms : List Str) (v : Option V), σ = [some (.ref a), some (.ref o), v] ∧ Same H H' ∧ H' p = some (.lst (as.map V.ref)) ∧ H' o = some (.lst (ms.map V.str)) ∧
      ms.length ≤ 1 + (((kids t).take i).map fun t => t.cnt).sum ∧ (∀ pr : Str → Bool, t.all pr = true → ∀ m ∈ ms, pr m = true) ∧ ∀ i x, as[i]? = some x → ∃ t', (kids t)[i]? = some t' ∧ SenAt H' t' x) ⟨lets t, none, rfl, s2.trans s3, p3, o3, by have := lets_le t; simpa using this, fun pr h => lets_all h, pcs.2⟩
      (fun i σ H' _ ⟨_, _, _, _, h, _⟩ => SqL.of h) ?_ ?_⟩
    · rintro i y σ H4 hy ⟨ms, v, rfl, s4, p4, o4, l4, a4, q4⟩
      rw [List.getElem?_map] at hy
      obtain ⟨x, hx, rfl⟩ := Option.map_eq_some_iff.mp hy
      obtain ⟨t', q1, q2⟩ := q4 i x hx
      have hm := List.mem_of_getElem? q1
      have hdk := kid_dep hm
      have tk : (kids t).take (i + 1) = (kids t).take i ++ [t'] := by rw [List.take_add_one, q1]; rfl
      have cn := cnt_nat t
      have sum1 : (((kids t).take i).map fun t => t.cnt).sum + t'.cnt ≤ ((kids t).map fun t => t.cnt).sum := by
        have e : (kids t).map (fun t => t.cnt) = ((kids t).take (i + 1)).map (fun t => t.cnt) ++ ((kids t).drop (i + 1)).map (fun t => t.cnt) := by rw [← List.map_append, List.take_append_drop]
        rw [e, tk, List.sum_append, List.map_append, List.sum_append]
        simp
      refine ⟨_, rfl, .inl ⟨rfl, _, SqL.of o4⟩, _, rfl, x, t', rfl, q2, by omega, by omega, fun z ms2 H5 s5 hz z5 l5 a5 => ?_⟩
      have o5 := s5 _ _ o4
      have nzo : z ≠ o := fun e => by rw [e, o4] at hz; cases hz
      refine ⟨o, z, _, _, rfl, rfl, o5, z5, ?_, ?_⟩
      · rw [List.length_map, List.length_map]
        exact Nat.le_of_lt (small1000 (by omega))
      · rw [← List.map_append]
        refine ⟨ms ++ ms2, _, rfl, fun b xx hb => ?_, by rw [upd_ne npo]; exact s5 _ _ p4, upd_same, ?_, fun pr h m hm2 => ?_, fun j x' hx' => ?_⟩
        · rw [upd_ne (ne_of_none hb ho)]; exact s5 _ _ (s4 _ _ hb)
        · have e2 : (([t'] : List Sn).map fun t => t.cnt).sum = t'.cnt := by simp
          rw [tk, List.length_append, List.map_append, List.sum_append, e2]
          omega
        · rcases List.mem_append.mp hm2 with q | q
          · exact a4 pr h m q
          · exact a5 pr (kid_all hm h) m q
        · obtain ⟨t'', r1, r2⟩ := q4 j x' hx'
          refine ⟨t'', r1, r2.keep fun b xs hb => ?_⟩
          rw [upd_ne (fun e => by rw [e] at hb; rw [o4] at hb; cases hb)]
          exact s5 _ _ hb
    · rintro σ H4 ⟨ms, v, rfl, s4, p4, o4, l4, a4, q4⟩
      rw [List.length_map, pcs.1, List.take_length, cnt_nat] at l4
      exact ⟨_, rfl, k o ms H4 s4 ho o4 l4 a4⟩
theorem d_nameds (T : Tx w K mg C) (A : Has K mg "named" sfnamed) (d_pieces_of : Df P w K mg base "pieces_of" 1 ["sentence"] spPieces) : ∀ n, Df P w K mg base "named" (n + 1) ["sentence"] (spNamed n)
  | 0 => (Df.never A (fun _ _ _ _ _ _ us hl => match us, hl with | [_], _ => rfl) (fun vs H Q E ⟨a, t, _, _, h, _⟩ => by have := dep_pos t; omega)).mono (Nat.zero_le _)
  | n + 1 => d_named1 n T A d_pieces_of (d_nameds T A d_pieces_of n)
/-! marks_of, ask_marks -/
theorem keys_put {kvs : List (Key × V)} {k : Key} {v : V} : (k ∈ kvs.map (·.1) ∧ (putK kvs k v).map (·.1) = kvs.map (·.1)) ∨ (k ∉ kvs.map (·.1) ∧ (putK kvs k v).map (·.1) = kvs.map (·.1) ++ [k]) := by
  unfold putK
  by_cases c : k ∈ kvs.map (·.1)
  · refine .inl ⟨c, ?_⟩
    obtain ⟨q, hq, rfl⟩ := List.mem_map.mp c
    rw [if_pos (List.any_eq_true.mpr ⟨q, hq, decide_eq_true rfl⟩), List.map_map]
    refine List.map_congr_left fun x _ => ?_
    show (if x.1 = q.1 then (x.1, v) else x).1 = x.1
    split <;> rfl
  · refine .inr ⟨c, ?_⟩
    rw [if_neg]
    · rw [List.map_append]; rfl
    · intro z
      obtain ⟨q, hq, e⟩ := List.any_eq_true.mp z
      exact c (List.mem_map.mpr ⟨q, hq, of_decide_eq_true e⟩)
theorem keys_merge : ∀ (more kvs : List (Key × V)), (kvs.map (·.1)).Nodup → ((mergeK kvs more).map (·.1)).Nodup ∧ ∀ k ∈ (mergeK kvs more).map (·.1), k ∈ kvs.map (·.1) ∨ k ∈ more.map (·.1)
  | [], kvs, nd => ⟨nd, fun k h => .inl h⟩
  | q :: more, kvs, nd => by
    have nd2 : ((putK kvs q.1 q.2).map (·.1)).Nodup := by
      rcases keys_put (kvs := kvs) (k := q.1) (v := q.2) with ⟨c, e⟩ | ⟨c, e⟩
      · rw [e]; exact nd
      · rw [e]
        exact List.nodup_append.mpr ⟨nd, by simp, fun a ha b hb e => by rw [List.mem_singleton.mp hb] at e; exact c (e ▸ ha)⟩
    obtain ⟨a, b⟩ := keys_merge more (putK kvs q.1 q.2) nd2
    refine ⟨a, fun k hk => ?_⟩
    rcases b k hk with h | h
    · rcases keys_put (kvs := kvs) (k := q.1) (v := q.2) with ⟨c, e⟩ | ⟨c, e⟩
      · rw [e] at h; exact .inl h
      · rw [e] at h
        rcases List.mem_append.mp h with h | h
        · exact .inl h
        · rw [List.mem_singleton.mp h]; exact .inr List.mem_cons_self
    · exact .inr (List.mem_cons_of_mem _ h)
theorem nd_len {α : Type} [DecidableEq α] : ∀ {l l' : List α}, l.Nodup → (∀ x ∈ l, x ∈ l') → l.length ≤ l'.length
  | [], _, _, _ => Nat.zero_le _
  | a :: l, l', nd, h => by
    obtain ⟨n1, n2⟩ := List.nodup_cons.mp nd
    have h1 := h a List.mem_cons_self
    have := nd_len (l' := l'.erase a) n2 fun x hx => (List.mem_erase_of_ne (fun (e : x = a) => n1 (e ▸ hx))).mpr (h x (List.mem_cons_of_mem _ hx))
    rw [List.length_erase_of_mem h1] at this
    have := List.length_pos_of_mem h1
    rw [List.length_cons]
    omega
theorem paired_of {α β : Type} {F : α → β → Prop} : ∀ {as : List α} {bs : List β}, as.length = bs.length → (∀ (i : Nat) a b, as[i]? = some a → bs[i]? = some b → F a b) → Paired F as bs
  | [], [], _, _ => .nil
  | [], _ :: _, h, _ => by simp at h
  | _ :: _, [], h, _ => by simp at h
  | a :: as, b :: bs, h, f => .cons (f 0 a b rfl rfl) (paired_of (by simpa using h) fun i x y hx hy => f (i + 1) x y hx hy)
theorem strs_of {p : Str → Prop} : ∀ {ks : List Key}, (∀ k ∈ ks, ∃ m, k = .inr m ∧ p m) → ∃ xs : List Str, ks = xs.map Sum.inr ∧ ∀ m ∈ xs, p m
  | [], _ => ⟨[], rfl, fun m h => nomatch h⟩
  | k :: ks, h => by
    obtain ⟨m, rfl, hm⟩ := h k List.mem_cons_self
    obtain ⟨xs, rfl, hx⟩ := strs_of (ks := ks) fun k hk => h k (List.mem_cons_of_mem _ hk)
    exact ⟨m :: xs, rfl, fun y hy => by rcases List.mem_cons.mp hy with rfl | hy; exact hm; exact hx y hy⟩
theorem d_marks_of (T : Tx w K mg C) (A : Has K mg "marks_of" sfmarks_of) (d_ask_sentence : Df P w K mg base "ask_sentence" 27 ["sentence"] spAskSen) (d_named : Df P w K mg base "named" 25 ["sentence"] (spNamed 24)) : Df P w K mg base "marks_of" 28 ["sentence"] spMarksOf := by
  refine Df.of A scfmarks_of (fun vs H Q E h => ?_) (fun _ _ _ _ _ _ us hl => match us, hl with | [_], _ => rfl) (fun f cdv A outer s H vs Q E hr h => ?_)
  · obtain ⟨a, t, rfl, _⟩ := h; rfl
  obtain ⟨a, t, rfl, hs, hd, hc, hal, k⟩ := h
  refine ⟨_, (pss_cons (ps_expr (pe_df d_ask_sentence (hr.mono (by omega)) (pa_cons (pv 0) pa_nil)))
      (pss_one (ps_ret (pe_callB cr_sortedS (by rfl) T.sorted (by decide +kernel) (pa_cons (pe_callTy (call_listD rfl) (by rfl) T.list (by decide +kernel) (pa_cons (pe_callTy (call_dictP rfl) (by rfl) T.dict (by decide +kernel) (pa_cons (pe_lc (own := [("mark", 1)]) (g := gName 1) (tt := tYes) rfl scfmarks_of.nd (pi_list (pe_df d_named (hr.mono (by omega)) (pa_cons (pv 0) pa_nil))) (blkOk_by (own := [("mark", 1)]) (N := ["sentence", "mark"]) (sc := defScope sfmarks_of) (by decide +kernel)) (fun _ _ _ _ _ => pg_name (i := 1) scfmarks_of.nd rfl (Or.inl rfl)) (fun _ _ _ _ _ => pts_nil) (fun _ _ _ _ _ => (pe_tup (pa_cons (pv 1) (pa_cons pe_bl pa_nil))))) pa_nil)) pa_nil)) pa_nil))))), ?_⟩
  refine ⟨_, rfl, a, t, rfl, hs, hd, hc, hal, fun H1 s1 => ?_⟩
  refine ⟨_, rfl, a, t, rfl, hs.mono s1, hd, hc, fun p ms H2 s2 hp p2 l2 a2 => ?_⟩
  refine ⟨p, rfl, ⟨_, SqL.of p2⟩, fun D hD => ?_⟩
  refine lc_list (K := K) (a := p) (xs := ms.map V.str) (fun i H' => ∃ ps : List Addr, Same H2 H' ∧ H' D = some (.lst (ps.map V.ref)) ∧ ps.length = i ∧ ∀ (j : Nat) (q : Addr), ps[j]? = some q → ∃ m, ms[j]? = some m ∧ H' q = some (.tup [.str m, .bl true])) ⟨[], Same.new hD _, upd_same, rfl, fun j q h => by simp at h⟩ (fun i H' _ ⟨_, h, _⟩ => SqL.of (h _ _ p2)) ?_ ?_
  · rintro i y H3 hy ⟨ps, s3, d3, l3, pr⟩
    rw [List.getElem?_map] at hy
    obtain ⟨m, hm, rfl⟩ := Option.map_eq_some_iff.mp hy
    have il := (List.getElem?_eq_some_iff.mp hm).1
    refine ⟨rfl, tYif ⟨_, rfl, (by show 2 ≤ sizeLine; decide), fun u hu => ?_⟩⟩
    have s4 := Same.new hu (.tup [.str m, .bl true])
    have u4 : upd H3 u (.tup [.str m, .bl true]) u = some (.tup [.str m, .bl true]) := upd_same
    generalize upd H3 u (.tup [.str m, .bl true]) = H4 at s4 u4 ⊢
    have d4 := s4 _ _ d3
    have away : ∀ {q : Addr} {xs : List V} {o : HO}, H4 q = some (.tup xs) → upd H4 D o q = some (.tup xs) := fun {q xs o} h => by
      rw [upd_ne (fun e => by rw [e, d4] at h; cases h)]; exact h
    refine ⟨_, d4, ?_, ps ++ [u], fun b o hb => ?_, by rw [upd_same, List.map_append]; rfl, by simp [l3], fun j q hq => ?_⟩
    · rw [List.length_map]; exact small1000 (by omega)
    · rw [upd_ne (ne_of_none hb hD)]; exact s4 _ _ (s3 _ _ hb)
    · by_cases c : j < ps.length
      · rw [List.getElem?_append_left c] at hq
        obtain ⟨x, h1, h2⟩ := pr j q hq
        exact ⟨x, h1, away (s4 _ _ h2)⟩
      · rw [List.getElem?_append_right (by omega)] at hq
        cases kk : j - ps.length with
        | succ k' => rw [kk] at hq; simp at hq
        | zero =>
          rw [kk] at hq
          have e : u = q := by simpa using hq
          have ej : j = i := by omega
          subst e ej
          exact ⟨m, hm, away u4⟩
  · rintro H3 ⟨ps, s3, d3, l3, pr⟩
    rw [List.length_map] at l3
    refine ⟨D, ps, ms.map fun m => ((.inr m : Key), V.bl true), rfl, SqL.of d3, paired_of (by rw [l3, List.length_map]) fun i q kv hq hk => ?_, fun q hq => ?_⟩
    · obtain ⟨m, h1, h2⟩ := pr i q hq
      rw [List.getElem?_map, h1] at hk
      have e : ((.inr m : Key), V.bl true) = kv := Option.some.inj hk
      rw [← e]
      exact SqT.of h2
    obtain ⟨nd, mem⟩ := keys_merge (ms.map fun m => ((.inr m : Key), V.bl true)) [] (by simp)
    generalize mergeK [] (ms.map fun m => ((.inr m : Key), V.bl true)) = kvs at nd mem ⊢
    have s4 := Same.new hq (.dK kvs)
    have q4 : upd H3 q (.dK kvs) q = some (.dK kvs) := upd_same
    generalize upd H3 q (.dK kvs) = H4 at s4 q4 ⊢
    obtain ⟨xs, ex, hx⟩ := strs_of (p := fun m => m ∈ ms) (ks := kvs.map (·.1)) fun key hk => by
      rcases mem key hk with h | h
      · cases h
      · rw [List.map_map] at h
        obtain ⟨m, hm, rfl⟩ := List.mem_map.mp h
        exact ⟨m, rfl, hm⟩
    have lx : kvs.map (fun kv => kV kv.1) = xs.map V.str := by
      have : kvs.map (fun kv => kV kv.1) = (kvs.map (·.1)).map kV := by rw [List.map_map]; rfl
      rw [this, ex, List.map_map]; rfl
    have ndx : xs.Nodup := by
      rw [ex] at nd
      exact (List.pairwise_map.mp nd).imp fun h e => h (by rw [e])
    have few : xs.length ≤ 8 := nd_len (l' := [0, 1, 2, 3, 4, 5, 6, 7].map mS) ndx fun m hm => of_decide_eq_true (a2 isL hal m (hx m hm))
    refine ⟨q, kvs, rfl, .inl q4, fun l hl => ?_⟩
    have s5 := Same.new hl (.lst (kvs.map fun kv => kV kv.1))
    have l5 : upd H4 l (.lst (kvs.map fun kv => kV kv.1)) l = some (.lst (xs.map V.str)) := by rw [upd_same, lx]
    generalize upd H4 l (.lst (kvs.map fun kv => kV kv.1)) = H5 at s5 l5 ⊢
    refine ⟨l, xs, rfl, SqL.of l5, by omega, fun ys z perm _ hz => ?_⟩
    have s6 := Same.new hz (.lst (ys.map V.str))
    have s05 := s1.trans (s2.trans (s3.trans (s4.trans s5)))
    exact k z ys _ (s05.trans s6) (Same.nw s05 hz) upd_same fun pr h m hm => a2 pr h m (hx m (perm.mem_iff.mp hm))
theorem d_ask_marks (T : Tx w K mg C) (A : Has K mg "ask_marks" sfask_marks) (d_marks_of : Df P w K mg base "marks_of" 28 ["sentence"] spMarksOf) : Df P w K mg base "ask_marks" 29 ["sentence", "order"] (spAskMarks K) := by
  refine Df.of A scfask_marks (fun vs H Q E h => ?_) (fun _ _ _ _ _ _ us hl => match us, hl with | [_, _], _ => rfl) (fun f cdv A outer s H vs Q E hr h => ?_)
  · obtain ⟨a, o, t, ms, rfl, _⟩ := h; rfl
  obtain ⟨a, o, t, ms, rfl, hs, hd, hc, hal, ho, hin, k⟩ := h
  refine ⟨_, (pss_one (ps_for PassesOwn.never rfl (pi_list (pe_df d_marks_of (hr.mono (by omega)) (pa_cons (pv 0) pa_nil))) (pg_name (i := 2) scfask_marks.nd rfl (Or.inl rfl)) (pss_one (ps_if (pt_cmpR op_notIn_seq (pv 2) (pv 1) (by rfl)) (pss_one ps_never) pss_nil)))), ?_⟩
  refine ⟨_, rfl, a, t, rfl, hs, hd, hc, hal, fun p xs H1 s1 hp p1 a1 => ?_⟩
  refine ⟨p, rfl, ⟨_, SqL.of p1⟩, for_list (K := K) (a := p) (xs := xs.map V.str) (fun i σ H' => ∃ v, σ = [some (.ref a), some (.ref o), v] ∧ H' = H1) ⟨none, rfl, rfl⟩ (fun i σ H' _ ⟨_, _, e⟩ => e ▸ SqL.of p1) ?_ ?_⟩
  · rintro i y σ H' hy ⟨v, rfl, rfl⟩
    rw [List.getElem?_map] at hy
    obtain ⟨m, hm, rfl⟩ := Option.map_eq_some_iff.mp hy
    have hmm := of_decide_eq_true (a1 _ hin m (List.mem_of_getElem? hm))
    refine ⟨_, rfl, _, rfl, o, _, rfl, .inl (s1.seq ho), rfl, flat_marks _, ?_⟩
    rw [if_pos rfl, show inV (.str m) (ms.map V.str) = true from inV_marks hmm]
    exact ⟨_, rfl, iteF ⟨_, rfl, rfl⟩⟩
  · rintro σ H' ⟨v, rfl, rfl⟩
    exact k H' s1
end
end DW


set_option maxHeartbeats 4000000
/-! entered, enter. -/
namespace DW
open PySem PySem.Spec PyProof.Rows L2
theorem scm_entered : FnScope ["self", "sentence", "word", "inner", "at", "table", "one"] ["self", "sentence"] (defScope sm_entered) := ⟨rfl, rfl, rfl, by decide +kernel, rfl, by decide +kernel, by decide +kernel⟩
theorem scm_enter : FnScope ["self", "sentence"] ["self", "sentence"] (defScope sm_enter) := ⟨rfl, rfl, rfl, by decide +kernel, rfl, by decide +kernel, by decide +kernel⟩
def spEntered (C : Addr) (n : Nat) : Sp := fun vs H Q _ => ∃ (b : Bk) (rows : List Rw) (a : Addr) (s : Sn), vs = [.ref b.p, .ref a] ∧ BkAt C b H rows ∧ SenAt H s a ∧ s.dep ≤ n ∧ s.all (fun m => decide (m ∈ b.marks)) = true ∧ rows.length + s.cnt * 765 ≤ LIM ∧
  Bp C b H rows (s.cnt * 765) (fun rows' r => Is rows' r (DB.sv s) ∧ ∀ p : Str → Bool, s.all p = true → DB.sup rows' p r = true) Q
def spEnter (C : Addr) : Sp := fun vs H Q _ => ∃ (b : Bk) (rows : List Rw) (a : Addr) (s : Sn), vs = [.ref b.p, .ref a] ∧ BkAt C b H rows ∧ SenAt H s a ∧ s.dep ≤ 24 ∧ s.cnt ≤ 200 ∧ s.all isL = true ∧ s.all (fun m => decide (m ∈ b.marks)) = true ∧ rows.length + s.cnt * 765 ≤ LIM ∧
  Bp C b H rows (s.cnt * 765) (fun rows' r => Is rows' r (DB.sv s) ∧ ∀ p : Str → Bool, s.all p = true → DB.sup rows' p r = true) Q
theorem tt_of {t : Sn} (c : wk t = .yes ∨ wk t = .no) : ∃ b, t = .tt b ∧ decide (wk t = .yes) = b := by
  cases t with
  | tt b => exact ⟨b, rfl, by cases b <;> rfl⟩
  | mk m => rcases c with c | c <;> cases c
  | no s => rcases c with c | c <;> cases c
  | bin o s t => cases o <;> rcases c with c | c <;> cases c
  | qu b m s => cases b <;> rcases c with c | c <;> cases c
theorem op_tab (o : DB.Op) : ∃ tb : Str, (wOp o, He.Dv.str tb) ∈ tTables ∧ Tab tb o.fn := by
  cases o
  · exact ⟨_, List.mem_of_getElem? (i := 0) rfl, tab_and⟩
  · exact ⟨_, List.mem_of_getElem? (i := 1) rfl, tab_or⟩
  · exact ⟨_, List.mem_of_getElem? (i := 2) rfl, tab_xor⟩
  · exact ⟨_, List.mem_of_getElem? (i := 3) rfl, tab_if⟩
theorem sup_low {rows : List Rw} {p : Str → Bool} {n : Nat} (h : n < 2) : DB.sup rows p n = true := DB.sup_small h
section
variable {P : Program} {w : World} {K : PySem.W.Frag} {mg : Str → Option Value} {base : Heap} {C : Addr}
theorem d_entered1 (n : Nat) (T : Tx w K mg C) (A : HasM K C "entered" "Book.entered" sm_entered) (d_decided : Md P w K mg base C "decided" 1 ["self", "at", "low", "high"] (spDecided C)) (d_join : Md P w K mg base C "join" 11 ["self", "table", "one", "other", "known"] (spJoinI C)) (d_fix : Md P w K mg base C "fix" 10 ["self", "one", "at", "value", "known"] (spFixI C))
    (d_entered : Md P w K mg base C "entered" (n + 11) ["self", "sentence"] (spEntered C n)) : Md P w K mg base C "entered" (n + 12) ["self", "sentence"] (spEntered C (n + 1)) := by
  obtain ⟨ta, tes, tn, tg, kd_T, htv⟩ := T.tabs
  have g_TABLES : GlV mg "TABLES" (.ref ta) := ⟨_, tg, rfl⟩
  refine Md.of A scm_entered (fun vs H Q E h => ?_) (fun _ _ _ _ _ _ us hl => match us, hl with | [_, _], _ => rfl) (fun f cdv A outer s H vs Q E hr h => ?_)
  · obtain ⟨b, rows, a, t, rfl, _⟩ := h; rfl
  obtain ⟨b, rows, a, t, rfl, B, hs, hd, hal, lim, k⟩ := h
  refine ⟨_, (pss_cons (ps_set (i := 2) scm_entered.nd rfl (Or.inl rfl) (pe_ix ix_tup (pv 1) pe_int (fun _ _ => rfl)))
      (pss_cons (ps_if (pt_cmpR op_in_seq (pv 2) (pe_tup (pa_cons pe_str (pa_cons pe_str pa_nil))) (by rfl)) (pss_one (ps_ret (pe_callTy call_int1 (by rfl) T.int (by decide +kernel) (pa_cons (pe_cmpR op_eq (pv 2) pe_str (nomark _)) pa_nil)))) pss_nil)
      (pss_cons (ps_if (pt_cmpR op_eq (pv 2) pe_str (nomark _)) (pss_one (ps_ret (pe_md d_decided T.cl (hr.mono (by omega)) (pv 0) (pa_cons (pe_bm PySem.F.plainAttrs_list PySem.F.slot_list_index PySem.F.type_list_index mt_index (pe_fld (pv 0) rfl) (pa_cons (pe_ix ix_tup (pv 1) pe_int (fun _ _ => rfl)) pa_nil)) (pa_cons pe_int (pa_cons pe_int pa_nil)))))) pss_nil)
      (pss_cons (ps_if (pt_cmpR op_in_seq (pv 2) (pe_tup (pa_cons pe_str (pa_cons pe_str pa_nil))) (by rfl)) (pss_cons (ps_set (i := 3) scm_entered.nd rfl (Or.inl rfl) (pe_md d_entered T.cl (hr.mono (by omega)) (pv 0) (pa_cons (pe_ix ix_tup (pv 1) pe_int (fun _ _ => rfl)) pa_nil)))
      (pss_cons (ps_set (i := 4) scm_entered.nd rfl (Or.inl rfl) (pe_bm PySem.F.plainAttrs_list PySem.F.slot_list_index PySem.F.type_list_index mt_index (pe_fld (pv 0) rfl) (pa_cons (pe_ix ix_tup (pv 1) pe_int (fun _ _ => rfl)) pa_nil)))
      (pss_cons (ps_set (i := 5) scm_entered.nd rfl (Or.inl rfl) (pe_ix ix_list (pe_lst (pa_cons pe_str (pa_cons pe_str pa_nil))) (pe_callTy call_int1 (by rfl) T.int (by decide +kernel) (pa_cons (pe_cmpR op_eq (pv 2) pe_str (nomark _)) pa_nil)) (fun _ _ => rfl)))
      (pss_one (ps_ret (pe_md d_join T.cl (hr.mono (by omega)) (pv 0) (pa_cons (pv 5) (pa_cons (pe_md d_fix T.cl (hr.mono (by omega)) (pv 0) (pa_cons (pv 3) (pa_cons (pv 4) (pa_cons pe_int (pa_cons pe_dnewK pa_nil))))) (pa_cons (pe_md d_fix T.cl (hr.mono (by omega)) (pv 0) (pa_cons (pv 3) (pa_cons (pv 4) (pa_cons pe_int (pa_cons pe_dnewK pa_nil))))) (pa_cons pe_dnewT pa_nil)))))))))) pss_nil)
      (pss_cons (ps_set (i := 6) scm_entered.nd rfl (Or.inl rfl) (pe_md d_entered T.cl (hr.mono (by omega)) (pv 0) (pa_cons (pe_ix ix_tup (pv 1) pe_int (fun _ _ => rfl)) pa_nil)))
      (pss_cons (ps_if (pt_cmpR op_eq (pv 2) pe_str (nomark _)) (pss_one (ps_ret (pe_md d_join T.cl (hr.mono (by omega)) (pv 0) (pa_cons pe_str (pa_cons (pv 6) (pa_cons pe_int (pa_cons pe_dnewT pa_nil))))))) pss_nil)
      (pss_one (ps_ret (pe_md d_join T.cl (hr.mono (by omega)) (pv 0) (pa_cons (pe_ix ix_kdict (pe_gl g_TABLES) (pv 2) (fun _ _ => rfl)) (pa_cons (pv 6) (pa_cons (pe_md d_entered T.cl (hr.mono (by omega)) (pv 0) (pa_cons (pe_ix ix_tup (pv 1) pe_int (fun _ _ => rfl)) pa_nil)) (pa_cons pe_dnewT pa_nil))))))))))))), ?_⟩
  obtain ⟨r, ht⟩ := hs.tup
  refine ⟨_, rfl, a, _, _, .str (wS (wk t)), rfl, rfl, SqT.of ht, at0 _ _, ?_⟩
  refine ⟨_, rfl, (by show 2 ≤ sizeLine; decide), fun u hu => ?_⟩
  have s1 := Same.new hu (.tup [.str "yes", .str "no"])
  have u1 : upd H u (.tup [.str "yes", .str "no"]) u = some (.tup [.str "yes", .str "no"]) := upd_same
  generalize upd H u (.tup [.str "yes", .str "no"]) = H1 at s1 u1 ⊢
  have h1 := hs.mono s1
  have B1 := B.mono s1
  have k1 : K2 b.rl b.pl H H1 := K2.of s1
  refine ⟨u, _, rfl, .inr (SqT.of u1), rfl, rfl, ?_⟩
  rw [if_neg Bool.false_ne_true, wk_tt]
  by_cases c0 : wk t = .yes ∨ wk t = .no
  · rw [decide_eq_true c0]
    obtain ⟨v, rfl, hv⟩ := tt_of c0
    refine ⟨_, rfl, iteT ⟨_, rfl, rfl, .inr ⟨_, rfl, ?_⟩⟩⟩
    rw [wk_yes, hv]
    have := k (if v then 1 else 0) rows H1 (.refl B.wf) B1 k1 (by omega) ⟨⟨by split <;> omega, fun e => by cases v; exact DB.ev_zero e; exact DB.ev_one e⟩, fun p _ => sup_low (by split <;> omega)⟩
    cases v <;> exact this
  rw [decide_eq_false c0]
  refine ⟨_, rfl, iteF ?_⟩
  refine ⟨_, rfl, rfl, ?_⟩
  rw [wk_mark]
  by_cases c : wk t = .mark
  · rw [decide_eq_true c]
    obtain ⟨m, rfl⟩ := mark_of c
    have h2 : H1 a = some (.tup [.str "mark", .str m]) := h1
    have hm : m ∈ b.marks := of_decide_eq_true hal
    refine ⟨_, rfl, iteT ?_⟩
    refine ⟨_, rfl, b.p, b.dx, _, rfl, B1.ob, nmA _ _ (by decide +kernel), _, rfl, b.p, C, b.dx, _, _, rfl, B1.ob, T.cl, T.nMarks, bf_marks _ _ _, .inl ⟨rfl, _, SqL.of B1.ml⟩, _, rfl, a, _, _, .str m, rfl, rfl, SqT.of h2, at1 _ _ _, ?_⟩
    refine ⟨b.ml, _, .str m, b.marks.idxOf m, .str m, rfl, rfl, SqL.of B1.ml, rfl, flat_marks _, idx_marks hm, (by show (m == m) = true; simp), fun k z hk hz => idx_first k z hk hz, ?_⟩
    have hl := List.idxOf_lt_length_of_mem hm
    have hx : b.marks[b.marks.idxOf m]? = some m := by rw [List.getElem?_eq_getElem hl, List.getElem_idxOf]
    have lim : rows.length + 1 * 765 ≤ LIM := lim
    refine ⟨b, rows, b.marks.idxOf m, 0, 1, m, rfl, B1, by omega, hx, by omega, by omega, by rw [DB.lv_small (by omega)]; exact hl, by rw [DB.lv_small (by omega)]; exact hl, fun r rows' H' g B' k2 l d => ?_⟩
    refine k r rows' H' g B' (k1.trans k2) (by show _ ≤ _ + 1 * 765; omega) ⟨⟨d.lt, fun e => ?_⟩, fun p hp => d.sp p hp (sup_low (by omega)) (sup_low (by omega))⟩
    rw [d.sem, DB.ev_zero, DB.ev_one]
    show (if e m = true then true else false) = e m
    cases e m <;> rfl
  rw [decide_eq_false c]
  refine ⟨_, rfl, iteF ?_⟩
  refine ⟨_, rfl, (by show 2 ≤ sizeLine; decide), fun u2 hu2 => ?_⟩
  have s2 := Same.new hu2 (.tup [.str "some", .str "each"])
  have u3 : upd H1 u2 (.tup [.str "some", .str "each"]) u2 = some (.tup [.str "some", .str "each"]) := upd_same
  generalize upd H1 u2 (.tup [.str "some", .str "each"]) = H2 at s2 u3 ⊢
  have h2 := h1.mono s2
  have B2 := B1.mono s2
  have k2 : K2 b.rl b.pl H H2 := k1.trans (K2.of s2)
  refine ⟨u2, _, rfl, .inr (SqT.of u3), rfl, rfl, ?_⟩
  rw [if_neg Bool.false_ne_true, wk_qu]
  by_cases d : wk t = .some ∨ wk t = .each
  · rw [decide_eq_true d]
    obtain ⟨v, m, t, rfl⟩ := qu_of d
    obtain ⟨a1, h3, h4⟩ := h2
    simp only [DB.Sn.all, Bool.and_eq_true] at hal
    have hm : m ∈ b.marks := of_decide_eq_true hal.1
    have hdk := kid_dep (s := .qu v m t) List.mem_cons_self
    have lim : rows.length + (1 + t.cnt) * 765 ≤ LIM := lim
    refine ⟨_, rfl, iteT ?_⟩
    refine ⟨_, rfl, b.p, b.dx, _, rfl, B2.ob, nmA _ _ (by decide +kernel), _, rfl, a, _, _, .ref a1, rfl, rfl, SqT.of h3, at2 _ _ _ _, b, rows, a1, t, rfl, B2, h4, by omega, hal.2, by omega, fun r5 rows5 H5 g5 B5 k5 l5 ⟨i5, p5⟩ => ?_⟩
    have h5 := k5.tup B2 h3
    refine ⟨_, rfl, b.p, C, b.dx, _, _, rfl, B5.ob, T.cl, T.nMarks, bf_marks _ _ _, .inl ⟨rfl, _, SqL.of B5.ml⟩, _, rfl, a, _, _, .str m, rfl, rfl, SqT.of h5, at1 _ _ _, ?_⟩
    refine ⟨b.ml, _, .str m, b.marks.idxOf m, .str m, rfl, rfl, SqL.of B5.ml, rfl, flat_marks _, idx_marks hm, (by show (m == m) = true; simp), fun k z hk hz => idx_first k z hk hz, ?_⟩
    have hx : b.marks[b.marks.idxOf m]? = some m := by rw [List.getElem?_eq_getElem (List.idxOf_lt_length_of_mem hm), List.getElem_idxOf]
    refine ⟨(by show 2 ≤ sizeLine; decide), fun z hz => ?_⟩
    have s6 := Same.new hz (.lst [.str "0001", .str "0111"])
    have z6 : upd H5 z (.lst [.str "0001", .str "0111"]) z = some (.lst [.str "0001", .str "0111"]) := upd_same
    generalize upd H5 z (.lst [.str "0001", .str "0111"]) = H6 at s6 z6 ⊢
    have B6 := B5.mono s6
    refine ⟨_, rfl, rfl, .inr ⟨_, rfl, ?_⟩⟩
    rw [wk_some, show decide (wk (.qu v m t) = .some) = v from by cases v <;> rfl]
    refine ⟨z, _, _, .str (if v then "0111" else "0001"), rfl, rfl, SqL.of z6, by cases v <;> rfl, ?_⟩
    refine ⟨_, rfl, b.p, b.dx, _, rfl, B6.ob, nmA _ _ (by decide +kernel), _, rfl, _, rfl, b.p, b.dx, _, rfl, B6.ob, nmA _ _ (by decide +kernel), _, rfl, _, rfl, fun q hq => ⟨b, rows5, _, r5, _, false, q, m, rfl, rfl, hq, B6, hx, i5.1, by omega, fun r7 rows7 H7 g7 B7 k7 l7 j7 => ?_⟩⟩
    have i7 := i5.up g7
    refine ⟨_, rfl, b.p, b.dx, _, rfl, B7.ob, nmA _ _ (by decide +kernel), _, rfl, _, rfl, fun q hq => ⟨b, rows7, _, r5, _, true, q, m, rfl, rfl, hq, B7, hx, i7.1, by omega, fun r8 rows8 H8 g8 B8 k8 l8 j8 => ?_⟩⟩
    have tab : Tab (if v then "0111" else "0001") (if v then (fun a b => a || b) else fun a b => a && b) := by
      cases v
      · exact tab_and
      · exact tab_or
    refine fun q hq => ⟨b, rows8, _, _, _, _, _, q, _, _, rfl, rfl, hq, B8, tab, (fx_is i7 j7).up g8, fx_is (i7.up g8) j8, by omega, fun r9 rows9 H9 g9 B9 k9 l9 i9 j9 => ?_⟩
    refine k r9 rows9 H9 (g5.trans (g7.trans (g8.trans g9))) B9 (k2.trans (k5.trans ((K2.of s6).trans (k7.trans (k8.trans k9))))) (by show _ ≤ _ + (1 + t.cnt) * 765; omega) ⟨i9.congr fun e => by cases v <;> rfl, fun p hp => ?_⟩
    simp only [DB.Sn.all, Bool.and_eq_true] at hp
    have q5 := p5 p hp.2
    refine j9.sp p ?_ ?_
    · rw [g9.sup (by have := g8.len; have := j7.lt; omega), g8.sup j7.lt]
      exact j7.sp p (by rw [g7.sup i5.1]; exact q5)
    · rw [g9.sup j8.lt]
      exact j8.sp p (by rw [g8.sup i7.1, g7.sup i5.1]; exact q5)
  rw [decide_eq_false d]
  refine ⟨_, rfl, iteF ?_⟩
  cases t with
  | mk m => exact absurd rfl c
  | qu v m t => exact absurd (by cases v <;> simp [wk]) d
  | tt v => exact absurd (by cases v <;> simp [wk]) c0
  | no t =>
    obtain ⟨a1, h3, h4⟩ := h2
    have hdk := kid_dep (s := .no t) List.mem_cons_self
    have lim : rows.length + (1 + t.cnt) * 765 ≤ LIM := lim
    refine ⟨_, rfl, b.p, b.dx, _, rfl, B2.ob, nmA _ _ (by decide +kernel), _, rfl, a, _, _, .ref a1, rfl, rfl, SqT.of h3, at1 _ _ _, b, rows, a1, t, rfl, B2, h4, by omega, hal, by omega, fun r5 rows5 H5 g5 B5 k5 l5 ⟨i5, p5⟩ => ?_⟩
    refine ⟨_, rfl, rfl, ?_⟩
    rw [show decide (V.str (wS (wk (.no t))) = V.str "not") = true from decide_eq_true rfl]
    refine ⟨_, rfl, iteT ?_⟩
    refine ⟨_, rfl, b.p, b.dx, _, rfl, B5.ob, nmA _ _ (by decide +kernel), _, rfl, fun q hq => ⟨b, rows5, _, _, _, _, 0, q, _, fun _ => false, rfl, rfl, hq, B5, tab_not, i5, ⟨by omega, fun e => DB.ev_zero e⟩, by omega, fun r9 rows9 H9 g9 B9 k9 l9 i9 j9 => ?_⟩⟩
    refine k r9 rows9 H9 (g5.trans g9) B9 (k2.trans (k5.trans k9)) (by show _ ≤ _ + (1 + t.cnt) * 765; omega) ⟨i9, fun p hp => j9.sp p (by rw [g9.sup i5.1]; exact p5 p hp) (sup_low (by omega))⟩
  | bin o t1 t2 =>
    obtain ⟨a1, a2, h3, h4, h5⟩ := h2
    have hd1 := kid_dep (s := .bin o t1 t2) (t := t1) List.mem_cons_self
    have hd2 := kid_dep (s := .bin o t1 t2) (t := t2) (List.mem_cons_of_mem _ List.mem_cons_self)
    simp only [DB.Sn.all, Bool.and_eq_true] at hal
    have lim : rows.length + (1 + t1.cnt + t2.cnt) * 765 ≤ LIM := lim
    refine ⟨_, rfl, b.p, b.dx, _, rfl, B2.ob, nmA _ _ (by decide +kernel), _, rfl, a, _, _, .ref a1, rfl, rfl, SqT.of h3, at1 _ _ _, b, rows, a1, t1, rfl, B2, h4, by omega, hal.1, by omega, fun r5 rows5 H5 g5 B5 k5 l5 ⟨i5, p5⟩ => ?_⟩
    refine ⟨_, rfl, rfl, ?_⟩
    rw [wk_not, show decide (wk (.bin o t1 t2) = .not) = false from by cases o <;> rfl]
    refine ⟨_, rfl, iteF ?_⟩
    obtain ⟨tb, htb, tab⟩ := op_tab o
    obtain ⟨u, nu, ru⟩ := htv _ htb
    have ew : V.str (wS (wk (.bin o t1 t2))) = V.str (wOp o) := by cases o <;> rfl
    refine ⟨_, rfl, b.p, b.dx, _, rfl, B5.ob, nmA _ _ (by decide +kernel), _, rfl, ta, wOp o, .str tb, rfl, ew, ⟨tes, tn, u, kd_T.at_, kd_T.lit, nu, ru⟩, _, rfl, ?_⟩
    refine ⟨_, rfl, b.p, b.dx, _, rfl, B5.ob, nmA _ _ (by decide +kernel), _, rfl, a, _, _, .ref a2, rfl, rfl, SqT.of (k5.tup B2 h3), at2 _ _ _ _, b, rows5, a2, t2, rfl, B5, h5.k2 k5 B2, by omega, hal.2, by omega, fun r6 rows6 H6 g6 B6 k6 l6 ⟨i6, p6⟩ => ?_⟩
    refine fun q hq => ⟨b, rows6, _, _, _, _, _, q, _, _, rfl, rfl, hq, B6, tab, i5.up g6, i6, by omega, fun r9 rows9 H9 g9 B9 k9 l9 i9 j9 => ?_⟩
    refine k r9 rows9 H9 (g5.trans (g6.trans g9)) B9 (k2.trans (k5.trans (k6.trans k9))) (by show _ ≤ _ + (1 + t1.cnt + t2.cnt) * 765; omega) ⟨i9, fun p hp => ?_⟩
    simp only [DB.Sn.all, Bool.and_eq_true] at hp
    refine j9.sp p ?_ ?_
    · rw [g9.sup (by have := g6.len; have := i5.1; omega), g6.sup i5.1]; exact p5 p hp.1
    · rw [g9.sup i6.1]; exact p6 p hp.2
theorem d_entereds (T : Tx w K mg C) (A : HasM K C "entered" "Book.entered" sm_entered) (d_decided : Md P w K mg base C "decided" 1 ["self", "at", "low", "high"] (spDecided C)) (d_join : Md P w K mg base C "join" 11 ["self", "table", "one", "other", "known"] (spJoinI C)) (d_fix : Md P w K mg base C "fix" 10 ["self", "one", "at", "value", "known"] (spFixI C)) :
    ∀ n, Md P w K mg base C "entered" (n + 11) ["self", "sentence"] (spEntered C n)
  | 0 => (Md.never A (fun _ _ _ _ _ _ us hl => match us, hl with | [_, _], _ => rfl) (fun vs H Q E ⟨b, rows, a, t, _, _, _, h, _⟩ => by have := dep_pos t; omega)).mono (Nat.zero_le _)
  | n + 1 => d_entered1 n T A d_decided d_join d_fix (d_entereds T A d_decided d_join d_fix n)
theorem d_enter (T : Tx w K mg C) (A : HasM K C "enter" "Book.enter" sm_enter) (d_ask_marks : Df P w K mg base "ask_marks" 29 ["sentence", "order"] (spAskMarks K)) (d_entered : Md P w K mg base C "entered" 35 ["self", "sentence"] (spEntered C 24)) : Md P w K mg base C "enter" 36 ["self", "sentence"] (spEnter C) := by
  refine Md.of A scm_enter (fun vs H Q E h => ?_) (fun _ _ _ _ _ _ us hl => match us, hl with | [_, _], _ => rfl) (fun f cdv A outer s H vs Q E hr h => ?_)
  · obtain ⟨b, rows, a, t, rfl, _⟩ := h; rfl
  obtain ⟨b, rows, a, t, rfl, B, hs, hd, hc, hl, hal, lim, k⟩ := h
  refine ⟨_, (pss_cons (ps_expr (pe_df d_ask_marks (hr.mono (by omega)) (pa_cons (pv 1) (pa_cons (pe_fld (pv 0) rfl) pa_nil))))
      (pss_one (ps_ret (pe_md d_entered T.cl (hr.mono (by omega)) (pv 0) (pa_cons (pv 1) pa_nil))))), ?_⟩
  refine ⟨_, rfl, _, rfl, b.p, C, b.dx, _, _, rfl, B.ob, T.cl, T.nMarks, bf_marks _ _ _, a, b.ml, t, b.marks, rfl, hs, hd, hc, hl, SqL.of B.ml, hal, fun H1 s1 => ?_⟩
  have B1 := B.mono s1
  exact ⟨_, rfl, b.p, b.dx, _, rfl, B1.ob, nmA _ _ (by decide +kernel), _, rfl, b, rows, a, t, rfl, B1, hs.mono s1, hd, hal, lim, fun r rows' H' g B' k2 l i => k r rows' H' g B' ((K2.of s1).trans k2) l i⟩
end
end DW


set_option maxHeartbeats 4000000
/-! A book is made. -/
namespace DW
open PySem PySem.Spec PyProof.Rows L2
theorem scm___init__ : FnScope ["self", "order"] ["self", "order"] (defScope sm___init__) := ⟨rfl, rfl, rfl, by decide +kernel, rfl, by decide +kernel, by decide +kernel⟩
structure HasMk (K : PySem.W.Frag) (C : Addr) (st : Stmt) : Prop where
  ex : ∃ (f : Addr) (fd : FuncData), Mk K C f ∧ FunD K "__init__" "Book.__init__" (defArgs st) (defBody st) (defScope st) [] [] f fd
structure MkD (P : Program) (w : World) (K : PySem.W.Frag) (mg : Str → Option Value) (base : Heap) (C : Addr) (k : Nat) (ps : List Str) (sp : Sp) : Prop where
  ex : ∃ (f : Addr) (fd : FuncData), Mk K C f ∧ Binds K fd ps [] ∧ FnOk P w K mg base CX0 k f fd ps sp
section
variable {X : Cx} {k : Nat} {C : Addr} {ps : List Str} {sp : Sp} {x : Str} {p pos : Pos} {e : Expr} {es : List Expr} {t : TA}
theorem pe_mk (D : MkD X.prog X.w X.K X.mg X.base C k ps sp) (hr : Room (k + 1) X.A) (hm : X.mg x = some (.ref C)) (ha : PA X (e :: es) t) (hg : Gl X x := by rfl)
    (hdb : (x == ("__debug__" : Str)) = false := by decide) (he : starEach (e :: es) X.env = (false, eval e X.env) :: starEach es X.env := by rfl) (hpl : (backTo pos (starEach es X.env)).any (·.1) = false := by rfl) :
    PE X (.Call (.Name x p) (e :: es) [] pos) (tMake C sp [] E0 t) := by
  obtain ⟨f, fd, M, hb, F⟩ := D.ex
  exact pe_make M F hr hg hm hb .nil pass0 ha hdb he hpl
end
theorem MkD.of {P : Program} {w : World} {K : PySem.W.Frag} {mg : Str → Option Value} {base : Heap} {C : Addr} {st : Stmt} {N ps : List Str} {k : Nat} {sp : Sp} (A : HasMk K C st) (S : FnScope N ps (defScope st)) (len : ∀ vs H Q E, sp vs H Q E → vs.length = ps.length)
    (hb : ∀ (kV doc pm : Value) (an : Option Addr) (cdv ct : Value) (us : List Value), us.length = ps.length → bindArgs (PySem.W.fnOf "__init__" "Book.__init__" (defArgs st) (defBody st) (defScope st) .none kV doc pm an cdv ct) ⟨us, []⟩ = pure (ps.zip us))
    (body : ∀ (f : Addr) (cdv : Value) (A : Around) (outer : List Env) (s : Shared) (H : Hp) (vs : List V) (Q : VK) (E : XK), Room k (A.deeper (envOfC "Book.__init__" (defScope st) s.heap.objs.size f cdv)) → sp vs H Q E →
      ∃ t, PSs (cxOf CX0 P w K mg base N "Book.__init__" (defScope st) f cdv A outer s H E).nox (defBody st) t ∧ t { nx := fun _ H' => Q .non H', rt := Q } (start N vs) H) : MkD P w K mg base C (k + 1) ps sp := by
  obtain ⟨f, fd, M, F⟩ := A.ex
  refine ⟨f, fd, M, F.bindsN hb, F.ok S len fun cdv A outer s H vs Q E hr h => ?_⟩
  obtain ⟨t, h1, h2⟩ := body f cdv A outer s H vs Q E hr h
  exact ⟨t, h1.nox, h2⟩
def spInit (K : PySem.W.Frag) (C : Addr) : Sp := fun vs H Q _ => ∃ (x dx a : Addr) (ms : List Str), vs = [.ref x, .ref a] ∧ H x = some (.ins C dx []) ∧ SqL K H a (ms.map V.str) ∧ ms.Nodup ∧ ms ≠ [] ∧ ms.length ≤ 8 ∧ (∀ m ∈ ms, isL m = true) ∧
  ∀ (b : Bk) (H' : Hp), b.p = x → b.marks = ms → BkAt C b H' [] → (∀ c o, H c = some o → c ≠ x → H' c = some o) → Q .non H'
section
variable {P : Program} {w : World} {K : PySem.W.Frag} {mg : Str → Option Value} {base : Heap} {C : Addr}
theorem d_init (T : Tx w K mg C) (A : HasMk K C sm___init__) (d_ask_order : Df P w K mg base "ask_order" 3 ["order"] (spAskOrder K)) : MkD P w K mg base C 4 ["self", "order"] (spInit K C) := by
  refine MkD.of A scm___init__ (fun vs H Q E h => ?_) (fun _ _ _ _ _ _ us hl => match us, hl with | [_, _], _ => rfl) (fun f cdv A outer s H vs Q E hr h => ?_)
  · obtain ⟨x, dx, a, ms, rfl, _⟩ := h; rfl
  obtain ⟨x, dx, a, ms, rfl, hx, hS, nd, ne, few, hl, k⟩ := h
  refine ⟨_, (pss_cons (ps_expr (pe_df d_ask_order (hr.mono (by omega)) (pa_cons (pv 1) pa_nil)))
      (pss_cons (ps_fld (pv 0) (pe_callTy call_list_of (by rfl) T.list (by decide +kernel) (pa_cons (pv 1) pa_nil)) rfl)
      (pss_cons (ps_fld (pv 0) (pe_lst (pa_cons pe_non (pa_cons pe_non pa_nil))) rfl)
      (pss_one (ps_fld (pv 0) pe_dnewT rfl))))), ?_⟩
  refine ⟨_, rfl, a, ms, rfl, hS, nd, ne, few, hl, fun H1 s1 => ?_⟩
  have x1 := s1 _ _ hx
  refine ⟨_, rfl, a, _, rfl, .inl (s1.seq hS), fun ml hml => ?_⟩
  have s2 := Same.new hml (.lst (ms.map V.str))
  have m2 : upd H1 ml (.lst (ms.map V.str)) ml = some (.lst (ms.map V.str)) := upd_same
  generalize upd H1 ml (.lst (ms.map V.str)) = H2 at s2 m2 ⊢
  have x2 := s2 _ _ x1
  refine ⟨_, rfl, x, C, dx, [], rfl, x2, T.cl, T.nMarks, by decide, ?_⟩
  have up : ∀ {H : Hp} {fs : List (Str × V)} {c : Addr} {o : HO}, H c = some o → c ≠ x → upd H x (.ins C dx fs) c = some o := fun h n => by rw [upd_ne n]; exact h
  have mx : ml ≠ x := fun e => by rw [e, x1] at hml; cases hml
  have k3 : ∀ c o, H c = some o → c ≠ x → upd H2 x (.ins C dx (putF "marks" (.ref ml) [])) c = some o := fun c o h n => up (s2 _ _ (s1 _ _ h)) n
  have m3 : upd H2 x (.ins C dx (putF "marks" (.ref ml) [])) ml = _ := up m2 mx
  have x3 : upd H2 x (.ins C dx (putF "marks" (.ref ml) [])) x = some (.ins C dx [("marks", .ref ml)]) := upd_same
  generalize upd H2 x (.ins C dx (putF "marks" (.ref ml) [])) = H3 at k3 m3 x3 ⊢
  refine ⟨by decide, fun rl hrl => ?_⟩
  have s4 := Same.new hrl (.lst [.non, .non])
  have r4 : upd H3 rl (.lst [.non, .non]) rl = some (.lst [.non, .non]) := upd_same
  generalize upd H3 rl (.lst [.non, .non]) = H4 at s4 r4 ⊢
  have x4 := s4 _ _ x3
  have rx : rl ≠ x := fun e => by rw [e, x3] at hrl; cases hrl
  refine ⟨_, rfl, x, C, dx, _, rfl, x4, T.cl, T.nRows, (by show 1 < 1000; decide), ?_⟩
  have k5 : ∀ c o, H c = some o → c ≠ x → upd H4 x (.ins C dx (putF "rows" (.ref rl) [("marks", .ref ml)])) c = some o := fun c o h n => up (s4 _ _ (k3 c o h n)) n
  have m5 : upd H4 x (.ins C dx (putF "rows" (.ref rl) [("marks", .ref ml)])) ml = _ := up (s4 _ _ m3) mx
  have r5 : upd H4 x (.ins C dx (putF "rows" (.ref rl) [("marks", .ref ml)])) rl = _ := up r4 rx
  have x5 : upd H4 x (.ins C dx (putF "rows" (.ref rl) [("marks", .ref ml)])) x = some (.ins C dx [("marks", .ref ml), ("rows", .ref rl)]) := by
    rw [upd_same]
    have : putF "rows" (.ref rl) [(("marks" : Str), V.ref ml)] = [(("marks" : Str), V.ref ml), (("rows" : Str), V.ref rl)] := by
      show (if ("marks" : Str) = "rows" then _ else _) = _
      rw [if_neg (by decide +kernel)]
      rfl
    rw [this]
  generalize upd H4 x (.ins C dx (putF "rows" (.ref rl) [("marks", .ref ml)])) = H5 at k5 m5 r5 x5 ⊢
  refine fun pl hpl => ?_
  have s6 := Same.new hpl (.dT [])
  have p6 : upd H5 pl (.dT []) pl = some (.dT []) := upd_same
  generalize upd H5 pl (.dT []) = H6 at s6 p6 ⊢
  have x6 := s6 _ _ x5
  have px : pl ≠ x := fun e => by rw [e, x5] at hpl; cases hpl
  refine ⟨_, rfl, x, C, dx, _, rfl, x6, T.cl, T.nPlaces, (by show 2 < 1000; decide), ?_⟩
  have fin : putF "places" (.ref pl) [(("marks" : Str), V.ref ml), ("rows", .ref rl)] = bf ml rl pl := by
    show (if ("marks" : Str) = "places" then _ else (("marks" : Str), V.ref ml) :: (if ("rows" : Str) = "places" then _ else _)) = _
    rw [if_neg (by decide +kernel), if_neg (by decide +kernel)]
    rfl
  rw [fin]
  refine k ⟨x, dx, ml, rl, pl, ms⟩ _ rfl rfl ⟨upd_same, up (s6 _ _ m5) mx, ⟨[], up (s6 _ _ r5) rx, rfl, fun i r h => by simp at h⟩, up p6 px, ⟨?_, ?_, ?_, ?_, ?_, ?_⟩, nd, few⟩ fun c o h n => up (s6 _ _ (k5 c o h n)) n
  all_goals (intro i m lo hi h; simp at h)
end
end DW


set_option maxHeartbeats 4000000
/-! The law's own defs: cells, draws, marks of now, numbers, rows. -/
namespace DW
open PySem PySem.Spec PyProof.Rows L2
theorem scf_law_cell_at : FnScope ["script", "k"] ["script", "k"] (defScope sf_law_cell_at) := ⟨rfl, rfl, rfl, by decide +kernel, rfl, by decide +kernel, by decide +kernel⟩
theorem scf_law_draw : FnScope ["cell", "k", "bound", "left", "j", "stir"] ["cell", "k", "bound"] (defScope sf_law_draw) := ⟨rfl, rfl, rfl, by decide +kernel, rfl, by decide +kernel, by decide +kernel⟩
theorem scf_law_now : FnScope ["order", "mark"] ["order"] (defScope sf_law_now) := ⟨rfl, rfl, rfl, by decide +kernel, rfl, by decide +kernel, by decide +kernel⟩
theorem scf_law_whole : FnScope ["found"] ["found"] (defScope sf_law_whole) := ⟨rfl, rfl, rfl, by decide +kernel, rfl, by decide +kernel, by decide +kernel⟩
theorem scf_law_numbers : FnScope ["found", "due", "number"] ["found", "due"] (defScope sf_law_numbers) := ⟨rfl, rfl, rfl, by decide +kernel, rfl, by decide +kernel, by decide +kernel⟩
theorem scf_law_rows : FnScope ["size", "found", "k", "longer", "row"] ["size"] (defScope sf_law_rows) := ⟨rfl, rfl, rfl, by decide +kernel, rfl, by decide +kernel, by decide +kernel⟩
def spCellAt (K : PySem.W.Frag) : Sp := fun vs H Q _ => ∃ (l : Addr) (ns : List Int) (j : Nat), vs = [.ref l, .int (j : Nat)] ∧ SqL K H l (ns.map V.int) ∧ ∀ c : Int, Q (.int c) H
def spDraw : Sp := fun vs H Q _ => ∃ (c : Int) (k n : Nat), vs = [.int c, .int (k : Nat), .int (n : Nat)] ∧ k ≤ 1000 ∧ 0 < n ∧ n < 100000000 ∧ ∀ r : Nat, r < n → Q (.int (r : Nat)) H
def spLNow (K : PySem.W.Frag) : Sp := fun vs H Q _ => ∃ (a : Addr) (ms : List Str), vs = [.ref a] ∧ SqL K H a (ms.map V.str) ∧ ∀ (p : Addr) (H' : Hp), Same H H' → H p = none → H' p = some (.lst ((nowL ms).map V.str)) → Q (.ref p) H'
def spWhole : Sp := fun vs H Q _ => ∃ n : Int, vs = [.int n] ∧ Q (.bl true) H
def spNumbers : Sp := fun vs H Q _ => ∃ (a b : Addr) (ns : List Int), vs = [.ref a, .ref b] ∧ H a = some (.lst (ns.map V.int)) ∧ H b = some (.lst (ns.map V.int)) ∧ ns.length ≤ 64 ∧ ∀ H', Same H H' → Q (.bl true) H'
def spRows : Sp := fun vs H Q _ => ∃ m : Nat, vs = [.int (m : Nat)] ∧ m ≤ 4 ∧ ∀ (p : Addr) (as : List Addr) (H' : Hp), Same H H' → LL H H' p as (DB.allR m) → Q (.ref p) H'
theorem fm_pos {a b : Int} (h : 0 < b) : ∃ n : Nat, a % b = (n : Int) ∧ (n : Int) < b := ⟨(a % b).toNat, by have := Int.emod_nonneg a (Int.ne_of_gt h); omega, by have := Int.emod_lt_of_pos a h; have := Int.emod_nonneg a (Int.ne_of_gt h); omega⟩
section
variable {P : Program} {w : World} {K : PySem.W.Frag} {mg : Str → Option Value} {base : Heap} {C : Addr}
theorem d_cell_at (T : Tx w K mg C) (A : Has K mg "_law_cell_at" sf_law_cell_at) : Df P w K mg base "_law_cell_at" 1 ["script", "k"] (spCellAt K) := by
  refine Df.of A scf_law_cell_at (fun vs H Q E h => ?_) (fun _ _ _ _ _ _ us hl => match us, hl with | [_, _], _ => rfl) (fun f cdv A outer s H vs Q E hr h => ?_)
  · obtain ⟨l, ns, j, rfl, _⟩ := h; rfl
  obtain ⟨l, ns, j, rfl, hS, k⟩ := h
  refine ⟨_, (pss_cons (ps_if (pt_cmpR op_lt (pv 1) (pe_callB call_len_seq (by rfl) T.len (by decide +kernel) (pa_cons (pv 0) pa_nil)) (nomark _)) (pss_one (ps_ret (pe_ix ix_list (pv 0) (pv 1) (fun _ _ => rfl)))) pss_nil)
      (pss_one (ps_ret pe_int))), ?_⟩
  refine ⟨_, rfl, _, rfl, l, _, rfl, .inl hS, _, _, rfl, rfl, _, rfl, ?_⟩
  rw [List.length_map]
  refine ite2 (fun c => ?_) (fun c => ?_)
  · have c' : j < ns.length := by have := of_decide_eq_true c; omega
    exact ⟨_, rfl, _, rfl, l, _, _, .int ns[j], rfl, rfl, hS, atI_nat (by rw [List.getElem?_map, List.getElem?_eq_getElem c']; rfl), k _⟩
  · exact k 0
theorem d_draw (T : Tx w K mg C) (A : Has K mg "_law_draw" sf_law_draw) : Df P w K mg base "_law_draw" 1 ["cell", "k", "bound"] spDraw := by
  refine Df.of A scf_law_draw (fun vs H Q E h => ?_) (fun _ _ _ _ _ _ us hl => match us, hl with | [_, _, _], _ => rfl) (fun f cdv A outer s H vs Q E hr h => ?_)
  · obtain ⟨c, k, n, rfl, _⟩ := h; rfl
  obtain ⟨c, k, n, rfl, hk, n0, n1, q⟩ := h
  refine ⟨_, (pss_cons (ps_if (pt_cmpR op_ge (pv 0) (pe_op op_pow pe_int pe_int) (nomark _)) (pss_cons (ps_set (i := 3) scf_law_draw.nd rfl (Or.inl rfl) (pv 0))
      (pss_cons (ps_for PassesOwn.never rfl (pi_range1 (by rfl) T.range (pa_cons (pv 1) pa_nil)) (pg_name (i := 4) scf_law_draw.nd rfl (Or.inl rfl)) (pss_one (ps_set (i := 3) scf_law_draw.nd rfl (Or.inl rfl) (pe_op op_fdiv (pv 3) (pv 2)))))
      (pss_one (ps_ret (pe_op op_mod (pv 3) (pv 2)))))) pss_nil)
      (pss_cons (ps_set (i := 5) scf_law_draw.nd rfl (Or.inl rfl) (pe_op op_mod (pe_op op_mul (pe_op op_add (pe_op op_add (pe_op op_mod (pv 0) pe_int) (pe_op op_mul pe_int (pv 1))) pe_int) pe_int) pe_int))
      (pss_cons (ps_set (i := 5) scf_law_draw.nd rfl (Or.inl rfl) (pe_op op_mod (pe_op op_add (pe_op op_add (pe_op op_mul (pv 5) (pv 5)) (pe_op op_mul pe_int (pv 1))) pe_int) pe_int))
      (pss_one (ps_ret (pe_op op_mod (pe_op op_fdiv (pe_op op_mod (pe_op op_mul (pv 5) pe_int) pe_int) pe_int) (pv 2))))))), ?_⟩
  refine ⟨_, rfl, _, _, rfl, rfl, ⟨by decide, by decide, by decide⟩, _, _, rfl, rfl, _, rfl, ?_⟩
  refine ite2 (fun _ => ?_) (fun _ => ?_)
  · refine ⟨_, rfl, _, rfl, _, rfl, by omega, by omega, for_range (fun i σ H' => ∃ (v : Option V) (x : Int), σ = [some (.int c), some (.int (k : Nat)), some (.int (n : Nat)), some (.int x), v, none] ∧ H' = H) ⟨none, c, rfl, rfl⟩ ?_ ?_⟩
    · rintro i σ H' hi ⟨v, x, rfl, rfl⟩
      exact ⟨_, rfl, _, rfl, _, _, rfl, rfl, ⟨by omega, by omega⟩, _, _, rfl, rfl⟩
    · rintro σ H' ⟨v, x, rfl, rfl⟩
      obtain ⟨m, e, l⟩ := fm_pos (a := x) (b := (n : Int)) (by omega)
      refine ⟨_, rfl, _, rfl, _, _, rfl, rfl, (by show (0 : Int) < n; omega), ?_⟩
      show Q (.int (x % (n : Int))) H'
      rw [e]
      exact q m (by omega)
  · refine ⟨_, rfl, _, _, rfl, rfl, (by show (0 : Int) < 1000000007; decide), _, rfl, _, _, rfl, rfl, .inl ⟨by decide, by decide⟩, _, _, rfl, rfl, _, _, rfl, rfl, _, _, rfl, rfl, .inr ⟨by decide, by decide⟩, _, _, rfl, rfl, (by show (0 : Int) < 2147483647; decide), ?_⟩
    obtain ⟨x, ex, lx⟩ := fm_pos (a := (c % 1000000007 + 1009 * (k : Nat) + 17) * 69621) (b := 2147483647) (by decide)
    rw [show ((fun i j => V.int (i % j)) ((c % 1000000007 + 1009 * ((k : Nat) : Int) + 17) * 69621) (2147483647 : Int)) = V.int (x : Nat) from congrArg V.int ex]
    refine ⟨_, rfl, _, rfl, _, _, rfl, rfl, .inl ⟨by omega, by omega⟩, _, rfl, _, _, rfl, rfl, .inl ⟨by decide, by decide⟩, _, _, rfl, rfl, _, _, rfl, rfl, _, _, rfl, rfl, (by show (0 : Int) < 2147483629; decide), ?_⟩
    obtain ⟨y, ey, ly⟩ := fm_pos (a := ((x : Nat) : Int) * (x : Nat) + 40503 * (k : Nat) + 5) (b := 2147483629) (by decide)
    rw [show ((fun i j => V.int (i % j)) (((x : Nat) : Int) * ((x : Nat) : Int) + 40503 * ((k : Nat) : Int) + 5) (2147483629 : Int)) = V.int (y : Nat) from congrArg V.int ey]
    refine ⟨_, rfl, _, _, rfl, rfl, .inr ⟨by decide, by decide⟩, _, _, rfl, rfl, (by show (0 : Int) < 2147483647; decide), _, _, rfl, rfl, ⟨by decide, by decide⟩, _, rfl, _, _, rfl, rfl, (by show (0 : Int) < n; omega), ?_⟩
    obtain ⟨z, ez, lz⟩ := fm_pos (a := ((y : Nat) : Int) * 48271 % 2147483647 / 32) (b := (n : Int)) (by omega)
    show Q (.int (((y : Nat) : Int) * 48271 % 2147483647 / 32 % (n : Int))) H
    rw [ez]
    exact q z (by omega)
theorem d_lnow (T : Tx w K mg C) (A : Has K mg "_law_now" sf_law_now) : Df P w K mg base "_law_now" 1 ["order"] (spLNow K) := by
  refine Df.of A scf_law_now (fun vs H Q E h => ?_) (fun _ _ _ _ _ _ us hl => match us, hl with | [_], _ => rfl) (fun f cdv A outer s H vs Q E hr h => ?_)
  · obtain ⟨a, ms, rfl, _⟩ := h; rfl
  obtain ⟨a, ms, rfl, hS, k⟩ := h
  refine ⟨_, (pss_one (ps_ret (pe_lc (own := [("mark", 1)]) (g := gName 1) rfl scf_law_now.nd (pi_str pe_str) (blkOk_by (own := [("mark", 1)]) (N := ["order", "mark"]) (sc := defScope sf_law_now) (by decide +kernel)) (fun _ _ _ _ _ => pg_name (i := 1) scf_law_now.nd rfl (Or.inl rfl)) (fun _ _ _ _ _ => (pts_one (pt_cmpR (op_in_seqK (K := K) rfl) (pv 1) (pv 0) (by rfl)))) (fun _ _ _ _ _ => (pv 1))))), ?_⟩
  refine ⟨_, rfl, fun D hD => ?_⟩
  refine lc_str (fun i H1 => Same H H1 ∧ H1 D = some (.lst (((([0, 1, 2, 3].map mS).take i).filter fun m => decide (m ∈ ms)).map V.str))) ⟨Same.new hD _, upd_same⟩ ?_ ?_
  · rintro i c H1 hi hc ⟨s1, d1⟩
    have h4 : i < 4 := hi
    have ec : c = 97 + i := by rcases (by omega : i = 0 ∨ i = 1 ∨ i = 2 ∨ i = 3) with rfl | rfl | rfl | rfl <;> (have := hc.symm; cases this; rfl)
    subst ec
    refine ⟨rfl, _, rfl, _, rfl, a, _, rfl, .inl (s1.seq hS), rfl, flat_marks _, _, rfl, ?_⟩
    have ei : inV (.str ⟨#[97 + i]⟩) (ms.map V.str) = decide (mS i ∈ ms) := inV_marks_iff (m := mS i)
    have et : ([0, 1, 2, 3].map mS).take (i + 1) = ([0, 1, 2, 3].map mS).take i ++ [mS i] := by
      refine DB.take_snoc ?_
      rw [List.getElem?_map]
      rcases (by omega : i = 0 ∨ i = 1 ∨ i = 2 ∨ i = 3) with rfl | rfl | rfl | rfl <;> rfl
    rw [if_neg (by decide), ei, et, List.filter_append]
    cases q : decide (mS i ∈ ms) with
    | false =>
      refine iteF ⟨s1, ?_⟩
      rw [d1, List.filter_cons, q]
      simp
    | true =>
      refine iteT ⟨_, rfl, _, d1, ?_, fun b o hb => ?_, ?_⟩
      · have h2 : (([0, 1, 2, 3].map mS).take i).length ≤ 4 := List.length_take_le' i _
        have h1 := List.length_filter_le (fun m => decide (m ∈ ms)) (([0, 1, 2, 3].map mS).take i)
        rw [List.length_map]
        exact small1000 (by omega)
      · rw [upd_ne (ne_of_none hb hD)]; exact s1 b o hb
      · rw [upd_same, List.filter_cons, q]
        simp
        rfl
  · rintro H1 ⟨s1, d1⟩
    exact k D H1 s1 hD d1
theorem d_whole (T : Tx w K mg C) (A : Has K mg "_law_whole" sf_law_whole) : Df P w K mg base "_law_whole" 1 ["found"] spWhole := by
  refine Df.of A scf_law_whole (fun vs H Q E h => ?_) (fun _ _ _ _ _ _ us hl => match us, hl with | [_], _ => rfl) (fun f cdv A outer s H vs Q E hr h => ?_)
  · obtain ⟨n, rfl, _⟩ := h; rfl
  obtain ⟨n, rfl, k⟩ := h
  refine ⟨_, (pss_one (ps_ret (pe_and (pe_callB call_isi (by rfl) T.isi (by decide +kernel) (pa_cons (pv 0) (pa_cons (pe_bltn (v := .ty "int") rfl T.int (by decide +kernel) rfl) pa_nil))) (pe_one (pe_not (pe_callB call_isi (by rfl) T.isi (by decide +kernel) (pa_cons (pv 0) (pa_cons (pe_bltn (v := .ty "bool") rfl T.bool (by decide +kernel) rfl) pa_nil)))))))), ?_⟩
  refine ⟨_, rfl, .int n, .ty "int", .type "int", .type "int", true, rfl, .ty "int", .base (.int n), if_pos (beq_self_eq_true _), true, rfl, iteT ?_⟩
  exact ⟨_, rfl, .int n, .ty "bool", .type "int", .type "bool", false, rfl, .ty "bool", .base (.int n), kit_ty (by decide +kernel), false, rfl, k⟩
theorem d_numbers (T : Tx w K mg C) (A : Has K mg "_law_numbers" sf_law_numbers) (d__law_whole : Df P w K mg base "_law_whole" 1 ["found"] spWhole) : Df P w K mg base "_law_numbers" 2 ["found", "due"] spNumbers := by
  refine Df.of A scf_law_numbers (fun vs H Q E h => ?_) (fun _ _ _ _ _ _ us hl => match us, hl with | [_, _], _ => rfl) (fun f cdv A outer s H vs Q E hr h => ?_)
  · obtain ⟨a, b, ns, rfl, _⟩ := h; rfl
  obtain ⟨a, b, ns, rfl, ha, hb, few, k⟩ := h
  refine ⟨_, (pss_cons (ps_if (PW.pt (pw_or (pt_not (pt_val (pe_callB call_isi (by rfl) T.isi (by decide +kernel) (pa_cons (pv 0) (pa_cons (pe_bltn (v := .ty "list") rfl T.list (by decide +kernel) rfl) pa_nil))))) (pw_or1 (pt_cmpR op_ne (pe_callB call_len_seq (by rfl) T.len (by decide +kernel) (pa_cons (pv 0) pa_nil)) (pe_callB call_len_seq (by rfl) T.len (by decide +kernel) (pa_cons (pv 1) pa_nil)) (nomark _))))) (pss_one (ps_ret pe_bl)) pss_nil)
      (pss_one (ps_ret (pe_and (pe_callB (cr_all rfl) (by rfl) T.all (by decide +kernel) (pa_cons (pe_lc (own := [("number", 2)]) (g := gName 2) (tt := tYes) rfl scf_law_numbers.nd (pi_list (pv 0)) (blkOk_by (own := [("number", 2)]) (N := ["found", "due", "number"]) (sc := defScope sf_law_numbers) (by decide +kernel)) (fun _ _ _ _ _ => pg_name (i := 2) scf_law_numbers.nd rfl (Or.inl rfl)) (fun _ _ _ _ _ => pts_nil) (fun _ _ _ _ _ => (pe_df d__law_whole (hr.mono (by omega)) (pa_cons (pv 2) pa_nil)))) pa_nil)) (pe_one (pe_cmpR (op_eqD hr.units) (pv 0) (pv 1) (nomark _))))))), ?_⟩
  refine ⟨_, rfl, .ref a, .ty "list", .type "list", .type "list", true, rfl, .ty "list", .base (.lst ha), if_pos (beq_self_eq_true _), _, rfl, iteF ?_⟩
  refine ⟨_, rfl, a, _, rfl, .inl (SqL.of ha), _, rfl, b, _, rfl, .inl (SqL.of hb), rfl, ?_⟩
  rw [show (!decide (V.int (((ns.map V.int).length : Nat) : Int) = V.int (((ns.map V.int).length : Nat) : Int))) = false from by rw [decide_eq_true rfl]; rfl]
  refine ⟨_, rfl, iteF ?_⟩
  refine ⟨_, rfl, a, rfl, ⟨_, SqL.of ha⟩, fun D hD => ?_⟩
  refine lc_list (K := K) (a := a) (xs := ns.map V.int) (fun i H' => Same H H' ∧ H' D = some (.lst ((List.replicate i true).map V.bl))) ⟨Same.new hD _, upd_same⟩ (fun i H' _ h => SqL.of (h.1 _ _ ha)) ?_ ?_
  · rintro i y H1 hy ⟨s1, d1⟩
    rw [List.getElem?_map] at hy
    obtain ⟨n, hn, rfl⟩ := Option.map_eq_some_iff.mp hy
    have il := (List.getElem?_eq_some_iff.mp hn).1
    refine ⟨rfl, tYif ⟨_, rfl, n, rfl, _, d1, ?_, fun x o hx => ?_, ?_⟩⟩
    · rw [List.length_map, List.length_replicate]; exact small1000 (by omega)
    · rw [upd_ne (ne_of_none hx hD)]; exact s1 x o hx
    · rw [upd_same, List.replicate_succ', List.map_append]; rfl
  · rintro H1 ⟨s1, d1⟩
    refine ⟨D, _, rfl, SqL.of d1, true, by simp, iteT ?_⟩
    refine ⟨_, rfl, _, rfl, .list (ns.map .int), .list (ns.map .int), .lst (SqL.of (s1 _ _ ha)) (dp_ints ns), .lst (SqL.of (s1 _ _ hb)) (dp_ints ns), PySem.W.ke_shaped_ints ns, PySem.W.ke_shaped_ints ns, ?_⟩
    have : PyData.eqv (.list (ns.map .int)) (.list (ns.map .int)) = true := by
      simp [PyData.eqv, PySem.W.ked_eqvAll]
    rw [this]
    exact k H1 s1
/-! _law_rows -/
theorem LL.same {H0 H H' : Hp} {p : Addr} {as : List Addr} {ws : List DB.Ro} (L : LL H0 H p as ws) (s : Same H H') : LL H0 H' p as ws :=
  ⟨s _ _ L.at_, L.len, fun i a r h1 h2 => s _ _ (L.row i a r h1 h2), L.newp, L.new, L.out⟩
theorem LL.mut {H0 H : Hp} {p q : Addr} {as : List Addr} {ws : List DB.Ro} {o : HO} (L : LL H0 H p as ws) (n1 : q ≠ p) (n2 : q ∉ as) : LL H0 (upd H q o) p as ws :=
  ⟨by rw [upd_ne n1.symm]; exact L.at_, L.len, fun i a r h1 h2 => by have na : a ≠ q := fun z => n2 (z ▸ List.mem_of_getElem? h1); rw [upd_ne na]; exact L.row i a r h1 h2, L.newp, L.new, L.out⟩
theorem LL.nil {H : Hp} {q : Addr} (h : H q = none) : LL H (upd H q (.lst [])) q [] [] := ⟨upd_same, rfl, fun i a r h1 _ => by simp at h1, h, fun a h => (nomatch h), fun h => (nomatch h)⟩
/-- one row more behind -/
theorem LL.snoc {H0 H : Hp} {p a : Addr} {as : List Addr} {ws : List DB.Ro} {r : DB.Ro} (L : LL H0 H p as ws) (ha : H a = some (.lst (rowB r))) (n0 : H0 a = none) (ne : a ≠ p) : LL H0 (upd H p (.lst ((as ++ [a]).map V.ref))) p (as ++ [a]) (ws ++ [r]) := by
  refine ⟨upd_same, by simp [L.len], fun i x r' h1 h2 => ?_, L.newp, fun x hx => ?_, fun z => ?_⟩
  · have nx : x ≠ p := fun z => by
      rcases List.mem_append.mp (List.mem_of_getElem? h1) with h | h
      · exact L.out (z ▸ h)
      · exact ne (List.mem_singleton.mp h ▸ z)
    rw [upd_ne nx]
    by_cases c : i < as.length
    · rw [List.getElem?_append_left c] at h1
      rw [List.getElem?_append_left (by rw [← L.len]; exact c)] at h2
      exact L.row i x r' h1 h2
    · rw [List.getElem?_append_right (by omega)] at h1
      rw [List.getElem?_append_right (by rw [← L.len]; omega)] at h2
      rw [← L.len] at h2
      cases kk : i - as.length with
      | succ k' => rw [kk] at h1; simp at h1
      | zero =>
        rw [kk] at h1 h2
        have e1 : a = x := by simpa using h1
        have e2 : r = r' := by simpa using h2
        rw [← e1, ← e2]
        exact ha
  · rcases List.mem_append.mp hx with h | h
    · exact L.new x h
    · rw [List.mem_singleton.mp h]; exact n0
  · rcases List.mem_append.mp z with h | h
    · exact L.out h
    · exact ne (List.mem_singleton.mp h).symm
theorem rowB_snoc (r : DB.Ro) (v : Bool) : rowB r ++ [.int (bI v)] = rowB (r ++ [v]) := by unfold rowB; rw [List.map_append]; rfl
theorem rows_few : ∀ m, m ≤ 4 → (DB.allR m).length ≤ 16 := fun m hm => by
  rw [DB.len_allR]
  calc 2 ^ m ≤ 2 ^ 4 := Nat.pow_le_pow_right (by omega) hm
    _ = 16 := rfl
theorem row_in {H0 H : Hp} {p a : Addr} {as : List Addr} {ws : List DB.Ro} {i : Nat} (L : LL H0 H p as ws) (h : as[i]? = some a) : ∃ r, ws[i]? = some r ∧ H a = some (.lst (rowB r)) := by
  have il := (List.getElem?_eq_some_iff.mp h).1
  have hw := List.getElem?_eq_getElem (l := ws) (i := i) (by rw [← L.len]; exact il)
  exact ⟨_, hw, L.row i a _ h hw⟩
theorem d_rows (T : Tx w K mg C) (A : Has K mg "_law_rows" sf_law_rows) : Df P w K mg base "_law_rows" 1 ["size"] spRows := by
  refine Df.of A scf_law_rows (fun vs H Q E h => ?_) (fun _ _ _ _ _ _ us hl => match us, hl with | [_], _ => rfl) (fun f cdv A outer s H vs Q E hr h => ?_)
  · obtain ⟨m, rfl, _⟩ := h; rfl
  obtain ⟨m, rfl, hm, k⟩ := h
  refine ⟨_, (pss_cons (ps_set (i := 1) scf_law_rows.nd rfl (Or.inl rfl) (pe_lst (pa_cons (pe_lst pa_nil) pa_nil)))
      (pss_cons (ps_for PassesOwn.never rfl (pi_range1 (by rfl) T.range (pa_cons (pv 0) pa_nil)) (pg_name (i := 2) scf_law_rows.nd rfl (Or.inl rfl)) (pss_cons (ps_set (i := 3) scf_law_rows.nd rfl (Or.inl rfl) (pe_lst pa_nil))
      (pss_cons (ps_for PassesOwn.never rfl (pi_list (pv 1)) (pg_name (i := 4) scf_law_rows.nd rfl (Or.inl rfl)) (pss_one (ps_expr (pe_bm PySem.F.plainAttrs_list PySem.F.slot_list_extend PySem.F.type_list_extend mt_extend (pv 3) (pa_cons (pe_lst (pa_cons (pe_op op_cat (pv 4) (pe_lst (pa_cons pe_int pa_nil))) (pa_cons (pe_op op_cat (pv 4) (pe_lst (pa_cons pe_int pa_nil))) pa_nil))) pa_nil)))))
      (pss_one (ps_set (i := 1) scf_law_rows.nd rfl (Or.inl rfl) (pv 3))))))
      (pss_one (ps_ret (pv 1))))), ?_⟩
  refine ⟨Nat.zero_le _, fun a0 ha0 => ?_⟩
  have s0 := Same.new ha0 (.lst [])
  have e0 : upd H a0 (.lst []) a0 = some (.lst (rowB [])) := upd_same
  generalize upd H a0 (.lst []) = H0 at s0 e0 ⊢
  refine ⟨(by show 1 ≤ sizeLine; decide), fun p0 hp0 => ?_⟩
  have s1 := Same.new hp0 (.lst [.ref a0])
  have L0 : LL H (upd H0 p0 (.lst [.ref a0])) p0 [a0] (DB.allR 0) := by
    refine ⟨upd_same, rfl, fun i x r h1 h2 => ?_, Same.nw s0 hp0, fun x hx => by rw [List.mem_singleton.mp hx]; exact ha0, fun z => by rw [List.mem_singleton.mp z, e0] at hp0; cases hp0⟩
    cases i with
    | zero =>
      have h1 : a0 = x := by simpa using h1
      have h2 : [] = r := Option.some.inj (show some ([] : DB.Ro) = some r from h2)
      rw [← h1, ← h2]
      exact s1 _ _ e0
    | succ i => simp at h1
  generalize upd H0 p0 (.lst [.ref a0]) = H1 at s1 L0 ⊢
  refine ⟨_, rfl, _, rfl, by omega, by omega, for_range (fun i σ H' => ∃ (p : Addr) (as : List Addr) (v1 v2 v3 : Option V), σ = [some (.int (m : Nat)), some (.ref p), v1, v2, v3] ∧ Same H H' ∧ LL H H' p as (DB.allR i)) ⟨p0, [a0], none, none, none, rfl, s0.trans s1, L0⟩ ?_ ?_⟩
  · rintro i σ H2 hi ⟨p, as, v1, v2, v3, rfl, s2, L2⟩
    have hi4 : i < 4 := by omega
    have few := rows_few i (by omega)
    refine ⟨Nat.zero_le _, fun q hq => ?_⟩
    have sq := Same.new hq (.lst [])
    have q3 : upd H2 q (.lst []) q = some (.lst (([] : List Addr).map V.ref)) := upd_same
    generalize upd H2 q (.lst []) = H3 at sq q3 ⊢
    have nqH : H q = none := Same.nw s2 hq
    have npq : q ≠ p := fun z => by rw [z, L2.at_] at hq; cases hq
    have nqa : q ∉ as := fun z => by
      obtain ⟨j, hj, e⟩ := List.getElem_of_mem z
      obtain ⟨r, _, h⟩ := row_in L2 (i := j) (a := q) (by rw [List.getElem?_eq_getElem hj, e])
      rw [h] at hq
      cases hq
    refine ⟨_, rfl, p, rfl, ⟨_, SqL.of (sq _ _ L2.at_)⟩, for_list (K := K) (a := p) (xs := as.map V.ref) (fun j σ H' => ∃ (bs : List Addr) (v : Option V), σ = [some (.int (m : Nat)), some (.ref p), some (.int (0 + (i : Int))), some (.ref q), v] ∧ Same H H' ∧ LL H H' p as (DB.allR i) ∧ LL H H' q bs (((DB.allR i).take j).flatMap fun r => [r ++ [false], r ++ [true]])) ⟨[], _, rfl, s2.trans sq, L2.same sq, ⟨q3, rfl, fun i a r h1 _ => by simp at h1, nqH, fun a h => (nomatch h), fun h => (nomatch h)⟩⟩
      (fun j σ H' _ ⟨_, _, _, _, h, _⟩ => SqL.of h.at_) ?_ ?_⟩
    · rintro j y σ H4 hy ⟨bs, v, rfl, s4, L4, M4⟩
      rw [List.getElem?_map] at hy
      obtain ⟨x, hx, rfl⟩ := Option.map_eq_some_iff.mp hy
      obtain ⟨r, hr1, hr2⟩ := row_in L4 hx
      have jl := (List.getElem?_eq_some_iff.mp hr1).1
      refine ⟨_, rfl, .inl ⟨rfl, _, SqL.of M4.at_⟩, ?_⟩
      have xr : H4 x = some (.lst (rowB r)) := hr2
      have rl : r.length = i := DB.mem_allR.mp (List.mem_of_getElem? hr1)
      -- row + [0]
      refine ⟨_, rfl, (by show 1 ≤ sizeLine; decide), fun t1 ht1 => ?_⟩
      have s5 := Same.new ht1 (.lst [.int 0])
      have t5 : upd H4 t1 (.lst [.int 0]) t1 = some (.lst (rowB [false])) := upd_same
      generalize upd H4 t1 (.lst [.int 0]) = H5 at s5 t5 ⊢
      refine ⟨x, t1, rowB r, _, rfl, rfl, s5 _ _ xr, t5, ?_, fun c1 hc1 => ?_⟩
      · show (rowB r).length + 1 ≤ sizeLine
        unfold rowB
        rw [List.length_map, rl]
        exact Nat.le_of_lt (small1000 (by omega))
      have s6 := Same.new hc1 (.lst (rowB r ++ rowB [false]))
      have c6 : upd H5 c1 (.lst (rowB r ++ rowB [false])) c1 = some (.lst (rowB (r ++ [false]))) := by rw [upd_same]; unfold rowB; rw [List.map_append]
      generalize upd H5 c1 (.lst (rowB r ++ rowB [false])) = H6 at s6 c6 ⊢
      -- row + [1]
      refine ⟨_, rfl, (by show 1 ≤ sizeLine; decide), fun t2 ht2 => ?_⟩
      have s7 := Same.new ht2 (.lst [.int 1])
      have t7 : upd H6 t2 (.lst [.int 1]) t2 = some (.lst (rowB [true])) := upd_same
      generalize upd H6 t2 (.lst [.int 1]) = H7 at s7 t7 ⊢
      refine ⟨x, t2, rowB r, _, rfl, rfl, s7 _ _ (s6 _ _ (s5 _ _ xr)), t7, ?_, fun c2 hc2 => ?_⟩
      · show (rowB r).length + 1 ≤ sizeLine
        unfold rowB
        rw [List.length_map, rl]
        exact Nat.le_of_lt (small1000 (by omega))
      have s8 := Same.new hc2 (.lst (rowB r ++ rowB [true]))
      have c8 : upd H7 c2 (.lst (rowB r ++ rowB [true])) c2 = some (.lst (rowB (r ++ [true]))) := by rw [upd_same]; unfold rowB; rw [List.map_append]
      generalize upd H7 c2 (.lst (rowB r ++ rowB [true])) = H8 at s8 c8 ⊢
      refine ⟨(by show 2 ≤ sizeLine; decide), fun z hz => ?_⟩
      have s9 := Same.new hz (.lst [.ref c1, .ref c2])
      have z9 : upd H8 z (.lst [.ref c1, .ref c2]) z = some (.lst [.ref c1, .ref c2]) := upd_same
      generalize upd H8 z (.lst [.ref c1, .ref c2]) = H9 at s9 z9 ⊢
      have s48 : Same H4 H8 := s5.trans (s6.trans (s7.trans s8))
      have s49 : Same H4 H9 := s48.trans s9
      have M9 := M4.same s49
      have L9 := L4.same s49
      have n1 : H c1 = none := Same.nw (s4.trans s5) hc1
      have n2 : H c2 = none := Same.nw (s4.trans (s5.trans (s6.trans s7))) hc2
      have q1 : c1 ≠ q := fun e => by rw [e, s5 _ _ M4.at_] at hc1; cases hc1
      have q2 : c2 ≠ q := fun e => by rw [e, s7 _ _ (s6 _ _ (s5 _ _ M4.at_))] at hc2; cases hc2
      have N1 := M9.snoc (r := r ++ [false]) (a := c1) (s9 _ _ (s8 _ _ (s7 _ _ c6))) n1 q1
      have N2 := N1.snoc (r := r ++ [true]) (a := c2) (by rw [upd_ne q2]; exact s9 _ _ c8) n2 q2
      refine ⟨q, z, bs.map V.ref, [.ref c1, .ref c2], rfl, rfl, M9.at_, z9, ?_, ?_⟩
      · have h2 : bs.length = 2 * ((DB.allR i).take j).length := by rw [M4.len]; exact DB.len_two _
        have h3 : ((DB.allR i).take j).length ≤ j := List.length_take_le _ _
        rw [List.length_map]
        refine Nat.le_of_lt (small1000 ?_)
        show bs.length + 2 ≤ 1000
        omega
      · have e1 : bs.map V.ref ++ [.ref c1, .ref c2] = ((bs ++ [c1]) ++ [c2]).map V.ref := by simp
        have e2 : ((DB.allR i).take (j + 1)).flatMap (fun r => [r ++ [false], r ++ [true]]) = ((((DB.allR i).take j).flatMap fun r => [r ++ [false], r ++ [true]]) ++ [r ++ [false]]) ++ [r ++ [true]] := by
          rw [List.take_add_one, hr1, List.flatMap_append]; simp
        have e3 : upd (upd H9 q (.lst ((bs ++ [c1]).map V.ref))) q (.lst (((bs ++ [c1]) ++ [c2]).map V.ref)) = upd H9 q (.lst (((bs ++ [c1]) ++ [c2]).map V.ref)) := by
          funext b
          by_cases hb : b = q
          · rw [hb, upd_same, upd_same]
          · rw [upd_ne hb, upd_ne hb, upd_ne hb]
        rw [e3] at N2
        rw [e1]
        have nqa4 : q ∉ as := nqa
        refine ⟨(bs ++ [c1]) ++ [c2], _, rfl, fun b o hb => ?_, L9.mut npq nqa, ?_⟩
        · rw [upd_ne (ne_of_none hb nqH)]; exact s49 _ _ (s4 _ _ hb)
        · rw [e2]; exact N2
    · rintro σ H4 ⟨bs, v, rfl, s4, L4, M4⟩
      rw [List.length_map, L4.len, List.take_length] at M4
      exact ⟨_, rfl, q, bs, _, _, _, rfl, s4, M4⟩
  · rintro σ H2 ⟨p, as, v1, v2, v3, rfl, s2, L2⟩
    exact ⟨_, rfl, k p as H2 s2 L2⟩
end
end DW


set_option maxHeartbeats 4000000
/-! The law's own defs: drawn sentences. -/
namespace DW
open PySem PySem.Spec PyProof.Rows L2
theorem scf_law_sentence : FnScope ["script", "at", "many", "order", "kinds", "made", "k", "cell", "kind", "one", "other", "letter"] ["script", "at", "many", "order"] (defScope sf_law_sentence) := ⟨rfl, rfl, rfl, by decide +kernel, rfl, by decide +kernel, by decide +kernel⟩
theorem wk_no : ∀ k : Wk, decide (V.str (wS k) = V.str "no") = decide (k = .no) := by intro k; cases k <;> decide +kernel
theorem wk_each : ∀ k : Wk, decide (V.str (wS k) = V.str "each") = decide (k = .each) := by intro k; cases k <;> decide +kernel
theorem atI_neg {α : Type} {xs : List α} {j : Nat} (h : j < xs.length) : atI xs (-1 - (j : Int)) = xs[xs.length - 1 - j]? := by
  unfold atI ixN
  rw [if_neg (by omega), if_pos (by omega)]
  show xs[(-1 - (j : Int) + xs.length).toNat]? = _
  congr 1
  omega
def kw : List Wk := [.mark, .mark, .not, .and, .or, .either, .iff, .and, .or, .some, .each, .yes, .no, .mark]
/-- a sentence at a, with bounds -/
def Sok (H : Hp) (ms : List Str) (c d : Nat) (a : Addr) : Prop := ∃ s : Sn, SenAt H s a ∧ s.cnt ≤ c ∧ s.dep ≤ d ∧ s.all (fun m => decide (m ∈ ms)) = true
theorem Sok.keep {H H' : Hp} {ms : List Str} {c d : Nat} {a : Addr} (h : Sok H ms c d a) (k : ∀ (a : Addr) (xs : List V), H a = some (.tup xs) → H' a = some (.tup xs)) : Sok H' ms c d a := let ⟨s, h1, h2⟩ := h; ⟨s, h1.keep k, h2⟩
theorem Sok.mono {H H' : Hp} {ms : List Str} {c d : Nat} {a : Addr} (h : Sok H ms c d a) (s : Same H H') : Sok H' ms c d a := h.keep fun a _ h => s a _ h
theorem Sok.wide {H : Hp} {ms : List Str} {c d c' d' : Nat} {a : Addr} (h : Sok H ms c d a) (hc : c ≤ c') (hd : d ≤ d') : Sok H ms c' d' a := let ⟨s, h1, h2, h3, h4⟩ := h; ⟨s, h1, by omega, by omega, h4⟩
def spSen (K : PySem.W.Frag) : Sp := fun vs H Q _ => ∃ (l o : Addr) (ns : List Int) (ms : List Str) (at_ many : Nat), vs = [.ref l, .int (at_ : Nat), .int (many : Nat), .ref o] ∧ SqL K H l (ns.map V.int) ∧ SqL K H o (ms.map V.str) ∧ ms ≠ [] ∧ ms.length ≤ 8 ∧ 1 ≤ many ∧ many ≤ 7 ∧
  ∀ (a : Addr) (H' : Hp), Same H H' → Sok H' ms 127 7 a → Q (.ref a) H'
theorem pick {α : Type} {xs : List α} (h : xs ≠ []) (r : Nat) : ∃ x, xs[r % xs.length]? = some x ∧ x ∈ xs := by
  have l := Nat.mod_lt r (List.length_pos_iff.mpr h)
  exact ⟨xs[r % xs.length], List.getElem?_eq_getElem l, List.getElem_mem l⟩
section
variable {P : Program} {w : World} {K : PySem.W.Frag} {mg : Str → Option Value} {base : Heap} {C : Addr}
theorem d_sentence (T : Tx w K mg C) (A : Has K mg "_law_sentence" sf_law_sentence) (d__law_cell_at : Df P w K mg base "_law_cell_at" 1 ["script", "k"] (spCellAt K)) (d__law_draw : Df P w K mg base "_law_draw" 1 ["cell", "k", "bound"] spDraw) : Df P w K mg base "_law_sentence" 2 ["script", "at", "many", "order"] (spSen K) := by
  refine Df.of A scf_law_sentence (fun vs H Q E h => ?_) (fun _ _ _ _ _ _ us hl => match us, hl with | [_, _, _, _], _ => rfl) (fun f cdv A outer s H vs Q E hr h => ?_)
  · obtain ⟨l, o, ns, ms, at_, many, rfl, _⟩ := h; rfl
  obtain ⟨l, o, ns, ms, at_, many, rfl, hl, ho, ne, few, m1, m7, q⟩ := h
  refine ⟨_, (pss_cons (ps_set (i := 4) scf_law_sentence.nd rfl (Or.inl rfl) (pe_lst (pa_cons pe_str (pa_cons pe_str (pa_cons pe_str (pa_cons pe_str (pa_cons pe_str (pa_cons pe_str (pa_cons pe_str (pa_cons pe_str (pa_cons pe_str (pa_cons pe_str (pa_cons pe_str (pa_cons pe_str (pa_cons pe_str (pa_cons pe_str pa_nil))))))))))))))))
      (pss_cons (ps_set (i := 5) scf_law_sentence.nd rfl (Or.inl rfl) (pe_lst (pa_cons (pe_tup (pa_cons pe_str (pa_cons (pe_ix ix_list (pv 3) (pe_op op_mod (pe_df d__law_draw (hr.mono (by omega)) (pa_cons (pe_df d__law_cell_at (hr.mono (by omega)) (pa_cons (pv 0) (pa_cons (pv 1) pa_nil))) (pa_cons pe_int (pa_cons pe_int pa_nil)))) (pe_callB call_len_seq (by rfl) T.len (by decide +kernel) (pa_cons (pv 3) pa_nil))) (fun _ _ => rfl)) pa_nil))) pa_nil)))
      (pss_cons (ps_for PassesOwn.never rfl (pi_range2 (by rfl) T.range (pa_cons pe_int (pa_cons (pv 2) pa_nil))) (pg_name (i := 6) scf_law_sentence.nd rfl (Or.inl rfl)) (pss_cons (ps_set (i := 7) scf_law_sentence.nd rfl (Or.inl rfl) (pe_df d__law_cell_at (hr.mono (by omega)) (pa_cons (pv 0) (pa_cons (pe_op op_add (pv 1) (pv 6)) pa_nil))))
      (pss_cons (ps_set (i := 8) scf_law_sentence.nd rfl (Or.inl rfl) (pe_ix ix_list (pv 4) (pe_df d__law_draw (hr.mono (by omega)) (pa_cons (pv 7) (pa_cons pe_int (pa_cons pe_int pa_nil)))) (fun _ _ => rfl)))
      (pss_cons (ps_set (i := 9) scf_law_sentence.nd rfl (Or.inl rfl) (pe_ix ix_list (pv 5) (pe_op op_sub (pe_un un_neg pe_int) (pe_op op_mod (pe_df d__law_draw (hr.mono (by omega)) (pa_cons (pv 7) (pa_cons pe_int (pa_cons pe_int pa_nil)))) (pe_callB call_len_seq (by rfl) T.len (by decide +kernel) (pa_cons (pv 5) pa_nil)))) (fun _ _ => rfl)))
      (pss_cons (ps_set (i := 10) scf_law_sentence.nd rfl (Or.inl rfl) (pe_ix ix_list (pv 5) (pe_op op_mod (pe_df d__law_draw (hr.mono (by omega)) (pa_cons (pv 7) (pa_cons pe_int (pa_cons pe_int pa_nil)))) (pe_callB call_len_seq (by rfl) T.len (by decide +kernel) (pa_cons (pv 5) pa_nil))) (fun _ _ => rfl)))
      (pss_cons (ps_set (i := 11) scf_law_sentence.nd rfl (Or.inl rfl) (pe_ix ix_list (pv 3) (pe_op op_mod (pe_df d__law_draw (hr.mono (by omega)) (pa_cons (pv 7) (pa_cons pe_int (pa_cons pe_int pa_nil)))) (pe_callB call_len_seq (by rfl) T.len (by decide +kernel) (pa_cons (pv 3) pa_nil))) (fun _ _ => rfl)))
      (pss_one (ps_if (PW.pt (pw_or (pt_cmpR op_eq (pv 8) pe_str (nomark _)) (pw_or1 (pt_cmpR op_eq (pv 8) pe_str (nomark _))))) (pss_one (ps_expr (pe_bm PySem.F.plainAttrs_list PySem.F.slot_list_append PySem.F.type_list_append mt_append (pv 5) (pa_cons (pe_tup (pa_cons (pv 8) pa_nil)) pa_nil)))) (pss_one (ps_if (pt_cmpR op_eq (pv 8) pe_str (nomark _)) (pss_one (ps_expr (pe_bm PySem.F.plainAttrs_list PySem.F.slot_list_append PySem.F.type_list_append mt_append (pv 5) (pa_cons (pe_tup (pa_cons pe_str (pa_cons (pv 11) pa_nil))) pa_nil)))) (pss_one (ps_if (pt_cmpR op_eq (pv 8) pe_str (nomark _)) (pss_one (ps_expr (pe_bm PySem.F.plainAttrs_list PySem.F.slot_list_append PySem.F.type_list_append mt_append (pv 5) (pa_cons (pe_tup (pa_cons pe_str (pa_cons (pv 9) pa_nil))) pa_nil)))) (pss_one (ps_if (PW.pt (pw_or (pt_cmpR op_eq (pv 8) pe_str (nomark _)) (pw_or1 (pt_cmpR op_eq (pv 8) pe_str (nomark _))))) (pss_one (ps_expr (pe_bm PySem.F.plainAttrs_list PySem.F.slot_list_append PySem.F.type_list_append mt_append (pv 5) (pa_cons (pe_tup (pa_cons (pv 8) (pa_cons (pv 11) (pa_cons (pv 9) pa_nil)))) pa_nil)))) (pss_one (ps_expr (pe_bm PySem.F.plainAttrs_list PySem.F.slot_list_append PySem.F.type_list_append mt_append (pv 5) (pa_cons (pe_tup (pa_cons (pv 8) (pa_cons (pv 10) (pa_cons (pv 9) pa_nil)))) pa_nil))))))))))))))))))
      (pss_one (ps_ret (pe_ix ix_list (pv 5) (pe_un un_neg pe_int) (fun _ _ => rfl))))))), ?_⟩
  have n0 : 0 < ms.length := List.length_pos_iff.mpr ne
  refine ⟨(by show 14 ≤ sizeLine; decide), fun kd hkd => ?_⟩
  have s0 := Same.new hkd (.lst (kw.map fun k => V.str (wS k)))
  have k0 : upd H kd (.lst (kw.map fun k => V.str (wS k))) kd = some (.lst (kw.map fun k => V.str (wS k))) := upd_same
  show (tSeq _ _) _ _ (upd H kd (.lst (kw.map fun k => V.str (wS k))))
  generalize upd H kd (.lst (kw.map fun k => V.str (wS k))) = H0 at s0 k0 ⊢
  -- made = [('mark', order[..])]
  refine ⟨_, rfl, _, rfl, _, rfl, l, ns, at_, rfl, s0.seq hl, fun c => ⟨c, 3, 40320, rfl, by omega, by omega, by omega, fun r hr => ?_⟩⟩
  refine ⟨_, rfl, o, _, rfl, .inl (s0.seq ho), _, _, rfl, rfl, (by rw [List.length_map]; show (0 : Int) < ms.length; omega), ?_⟩
  obtain ⟨m, hm, hmm⟩ := pick ne r
  refine ⟨o, _, _, .str m, rfl, rfl, s0.seq ho, ?_, ?_⟩
  · rw [List.length_map]
    show atI (ms.map V.str) (((r % ms.length : Nat) : Nat) : Int) = _
    exact atI_nat (by rw [List.getElem?_map, hm]; rfl)
  refine ⟨(by show 2 ≤ sizeLine; decide), fun t0 ht0 => ?_⟩
  have s1 := Same.new ht0 (.tup [.str "mark", .str m])
  have t1 : upd H0 t0 (.tup [.str "mark", .str m]) t0 = some (.tup [.str "mark", .str m]) := upd_same
  generalize upd H0 t0 (.tup [.str "mark", .str m]) = H1 at s1 t1 ⊢
  refine ⟨(by show 1 ≤ sizeLine; decide), fun md hmd => ?_⟩
  have s2 := Same.new hmd (.lst [.ref t0])
  have d2 : upd H1 md (.lst [.ref t0]) md = some (.lst ([t0].map V.ref)) := upd_same
  generalize upd H1 md (.lst [.ref t0]) = H2 at s2 d2 ⊢
  have s02 : Same H H2 := s0.trans (s1.trans s2)
  have ok0 : Sok H2 ms 1 1 t0 := ⟨.mk m, s2 _ _ t1, Nat.le_refl _, Nat.le_refl _, decide_eq_true hmm⟩
  have kdm : kd ≠ md := fun z => by rw [← z, s1 _ _ k0] at hmd; cases hmd
  have mdH : H md = none := Same.nw (s0.trans s1) hmd
  refine ⟨_, rfl, _, _, rfl, ⟨by omega, by omega, by omega, by omega⟩, ?_⟩
  refine for_range (fun i σ H' => ∃ (as : List Addr) (v1 v2 v3 v4 v5 v6 : Option V), σ = [some (.ref l), some (.int (at_ : Nat)), some (.int (many : Nat)), some (.ref o), some (.ref kd), some (.ref md), v1, v2, v3, v4, v5, v6] ∧ Same H H' ∧ H' kd = some (.lst (kw.map fun k => V.str (wS k))) ∧ H' md = some (.lst (as.map V.ref)) ∧ as.length = i + 1 ∧ ∀ a ∈ as, Sok H' ms (2 ^ (i + 1) - 1) (i + 1) a)
    ⟨[t0], none, none, none, none, none, none, rfl, s02, s2 _ _ (s1 _ _ k0), d2, rfl, fun a ha => by rw [List.mem_singleton.mp ha]; exact ok0⟩ ?_ ?_
  · rintro i σ H3 hi ⟨as, v1, v2, v3, v4, v5, v6, rfl, s3, k3, d3, l3, ok⟩
    have hi6 : i < 6 := by omega
    have asne : as ≠ [] := fun z => by rw [z] at l3; simp at l3
    have al0 : 0 < as.length := by omega
    refine ⟨_, rfl, _, rfl, _, rfl, _, _, rfl, rfl, l, ns, at_ + (1 + i), rfl, s3.seq hl, fun c => ?_⟩
    refine ⟨_, rfl, _, rfl, c, 0, 14, rfl, by omega, by omega, by omega, fun r hr => ?_⟩
    obtain ⟨k, hk⟩ : ∃ k, kw[r]? = some k := ⟨kw[r]'hr, List.getElem?_eq_getElem hr⟩
    refine ⟨kd, _, _, .str (wS k), rfl, rfl, SqL.of k3, atI_nat (by rw [List.getElem?_map, hk]; rfl), ?_⟩
    refine ⟨_, rfl, _, rfl, _, rfl, c, 1, 2, rfl, by omega, by omega, by omega, fun r2 hr2 => ?_⟩
    refine ⟨_, rfl, md, _, rfl, .inl (SqL.of d3), _, _, rfl, rfl, (by rw [List.length_map]; show (0 : Int) < as.length; omega), _, _, rfl, rfl, ?_⟩
    obtain ⟨a1, ha1, m1'⟩ : ∃ x, as[as.length - 1 - r2 % as.length]? = some x ∧ x ∈ as := by
      have l := Nat.mod_lt r2 al0
      exact ⟨as[as.length - 1 - r2 % as.length]'(by omega), List.getElem?_eq_getElem (by omega), List.getElem_mem _⟩
    refine ⟨md, _, _, .ref a1, rfl, rfl, SqL.of d3, ?_, ?_⟩
    · have l := Nat.mod_lt r2 al0
      rw [List.length_map]
      show atI (as.map V.ref) (-1 - ((r2 % as.length : Nat) : Int)) = _
      rw [atI_neg (by rw [List.length_map]; exact l), List.length_map, List.getElem?_map, ha1]
      rfl
    refine ⟨_, rfl, _, rfl, c, 2, 60, rfl, by omega, by omega, by omega, fun r3 hr3 => ?_⟩
    refine ⟨_, rfl, md, _, rfl, .inl (SqL.of d3), _, _, rfl, rfl, (by rw [List.length_map]; show (0 : Int) < as.length; omega), ?_⟩
    obtain ⟨a2, ha2, m2'⟩ := pick asne r3
    refine ⟨md, _, _, .ref a2, rfl, rfl, SqL.of d3, ?_, ?_⟩
    · rw [List.length_map]
      show atI (as.map V.ref) ((r3 % as.length : Nat) : Int) = _
      exact atI_nat (by rw [List.getElem?_map, ha2]; rfl)
    refine ⟨_, rfl, _, rfl, c, 3, 40320, rfl, by omega, by omega, by omega, fun r4 hr4 => ?_⟩
    refine ⟨_, rfl, o, _, rfl, .inl (s3.seq ho), _, _, rfl, rfl, (by rw [List.length_map]; show (0 : Int) < ms.length; omega), ?_⟩
    obtain ⟨m, hm, hmm⟩ := pick ne r4
    refine ⟨o, _, _, .str m, rfl, rfl, s3.seq ho, ?_, ?_⟩
    · rw [List.length_map]
      show atI (ms.map V.str) ((r4 % ms.length : Nat) : Int) = _
      exact atI_nat (by rw [List.getElem?_map, hm]; rfl)
    obtain ⟨t1, h1, c1, d1, q1⟩ := ok a1 m1'
    obtain ⟨t2, h2, c2, d2, q2⟩ := ok a2 m2'
    have two : 2 ^ (i + 1 + 1) = 2 * 2 ^ (i + 1) := by rw [Nat.pow_succ]; omega
    have one_ : 1 ≤ 2 ^ (i + 1) := Nat.one_le_two_pow
    -- a new one behind
    have app : ∀ (t : Sn) (u : Addr) (xs : List V), H3 u = none → (SenAt (upd H3 u (.tup xs)) t u) → t.cnt ≤ 2 ^ (i + 1 + 1) - 1 → t.dep ≤ i + 1 + 1 → t.all (fun m => decide (m ∈ ms)) = true →
        ∃ (as' : List Addr) (v1 v2 v3 v4 v5 v6 : Option V), [some (.ref l), some (.int (at_ : Nat)), some (.int (many : Nat)), some (.ref o), some (.ref kd), some (.ref md), some (.int (1 + (i : Int))), some (.int c), some (.str (wS k)), some (.ref a1), some (.ref a2), some (.str m)] =
          ([some (.ref l), some (.int (at_ : Nat)), some (.int (many : Nat)), some (.ref o), some (.ref kd), some (.ref md), v1, v2, v3, v4, v5, v6] : L2.St) ∧ Same H (upd (upd H3 u (.tup xs)) md (.lst (as.map V.ref ++ [.ref u]))) ∧
          upd (upd H3 u (.tup xs)) md (.lst (as.map V.ref ++ [.ref u])) kd = some (.lst (kw.map fun k => V.str (wS k))) ∧ upd (upd H3 u (.tup xs)) md (.lst (as.map V.ref ++ [.ref u])) md = some (.lst (as'.map V.ref)) ∧ as'.length = i + 1 + 1 ∧
          ∀ a ∈ as', Sok (upd (upd H3 u (.tup xs)) md (.lst (as.map V.ref ++ [.ref u]))) ms (2 ^ (i + 1 + 1) - 1) (i + 1 + 1) a := fun t u xs hu ht hc hd hq => by
      have su := Same.new hu (.tup xs)
      have keep : ∀ (a : Addr) (ys : List V), upd H3 u (.tup xs) a = some (.tup ys) → upd (upd H3 u (.tup xs)) md (.lst (as.map V.ref ++ [.ref u])) a = some (.tup ys) := fun a ys h => by
        rw [upd_ne (fun z => by rw [z, su _ _ d3] at h; cases h)]; exact h
      refine ⟨as ++ [u], _, _, _, _, _, _, rfl, fun b x hb => ?_, ?_, by rw [upd_same, List.map_append]; rfl, by simp [l3], fun a ha => ?_⟩
      · rw [upd_ne (ne_of_none hb mdH)]; exact su _ _ (s3 _ _ hb)
      · rw [upd_ne kdm]; exact su _ _ k3
      · rcases List.mem_append.mp ha with ha | ha
        · exact (((ok a ha).mono su).keep keep).wide (by omega) (by omega)
        · rw [List.mem_singleton.mp ha]
          exact ⟨t, ht.keep keep, hc, hd, hq⟩
    have away : ∀ {u : Addr} {ys : List V} {t : Sn} {a : Addr}, H3 u = none → SenAt H3 t a → SenAt (upd H3 u (.tup ys)) t a := fun hu h => h.mono (Same.new hu _)
    by_cases c1' : k = .yes
    · subst c1'
      refine ⟨_, rfl, rfl, true, congrArg V.bl (wk_yes .yes), iteT (iteT ?_)⟩
      refine ⟨_, rfl, .inl ⟨rfl, _, SqL.of d3⟩, _, rfl, (by show 1 ≤ sizeLine; decide), fun u hu => ⟨md, _, _, rfl, rfl, by rw [upd_ne (ne_of_none d3 hu)]; exact d3, by rw [List.length_map]; exact small1000 (by omega), ?_⟩⟩
      exact app (.tt true) u _ hu upd_same (by show 1 ≤ _; omega) (by show 1 ≤ _; omega) rfl
    refine ⟨_, rfl, rfl, false, congrArg V.bl ((wk_yes k).trans (decide_eq_false c1')), iteF ?_⟩
    by_cases c2' : k = .no
    · subst c2'
      refine ⟨_, rfl, rfl, true, congrArg V.bl (wk_no .no), iteT ?_⟩
      refine ⟨_, rfl, .inl ⟨rfl, _, SqL.of d3⟩, _, rfl, (by show 1 ≤ sizeLine; decide), fun u hu => ⟨md, _, _, rfl, rfl, by rw [upd_ne (ne_of_none d3 hu)]; exact d3, by rw [List.length_map]; exact small1000 (by omega), ?_⟩⟩
      exact app (.tt false) u _ hu upd_same (by show 1 ≤ _; omega) (by show 1 ≤ _; omega) rfl
    refine ⟨_, rfl, rfl, false, congrArg V.bl ((wk_no k).trans (decide_eq_false c2')), iteF ?_⟩
    by_cases c3' : k = .mark
    · subst c3'
      refine ⟨_, rfl, rfl, true, congrArg V.bl (wk_mark .mark), iteT ?_⟩
      refine ⟨_, rfl, .inl ⟨rfl, _, SqL.of d3⟩, _, rfl, (by show 2 ≤ sizeLine; decide), fun u hu => ⟨md, _, _, rfl, rfl, by rw [upd_ne (ne_of_none d3 hu)]; exact d3, by rw [List.length_map]; exact small1000 (by omega), ?_⟩⟩
      exact app (.mk m) u _ hu upd_same (by show 1 ≤ _; omega) (by show 1 ≤ _; omega) (decide_eq_true hmm)
    refine ⟨_, rfl, rfl, false, congrArg V.bl ((wk_mark k).trans (decide_eq_false c3')), iteF ?_⟩
    by_cases c4' : k = .not
    · subst c4'
      refine ⟨_, rfl, rfl, true, congrArg V.bl (wk_not .not), iteT ?_⟩
      refine ⟨_, rfl, .inl ⟨rfl, _, SqL.of d3⟩, _, rfl, (by show 2 ≤ sizeLine; decide), fun u hu => ⟨md, _, _, rfl, rfl, by rw [upd_ne (ne_of_none d3 hu)]; exact d3, by rw [List.length_map]; exact small1000 (by omega), ?_⟩⟩
      exact app (.no t1) u _ hu ⟨a1, upd_same, away hu h1⟩ (by show 1 + _ ≤ _; omega) (by show 1 + _ ≤ _; omega) q1
    refine ⟨_, rfl, rfl, false, congrArg V.bl ((wk_not k).trans (decide_eq_false c4')), iteF ?_⟩
    by_cases c5' : k = .some
    · subst c5'
      refine ⟨_, rfl, rfl, true, congrArg V.bl (wk_some .some), iteT (iteT ?_)⟩
      refine ⟨_, rfl, .inl ⟨rfl, _, SqL.of d3⟩, _, rfl, _, rfl, _, rfl, (by show 3 ≤ sizeLine; decide), fun u hu => ⟨md, _, _, rfl, rfl, by rw [upd_ne (ne_of_none d3 hu)]; exact d3, by rw [List.length_map]; exact small1000 (by omega), ?_⟩⟩
      exact app (.qu true m t1) u _ hu ⟨a1, upd_same, away hu h1⟩ (by show 1 + _ ≤ _; omega) (by show 1 + _ ≤ _; omega) (by show (decide (m ∈ ms) && _) = true; rw [decide_eq_true hmm, q1]; rfl)
    refine ⟨_, rfl, rfl, false, congrArg V.bl ((wk_some k).trans (decide_eq_false c5')), iteF ?_⟩
    by_cases c6' : k = .each
    · subst c6'
      refine ⟨_, rfl, rfl, true, congrArg V.bl (wk_each .each), iteT ?_⟩
      refine ⟨_, rfl, .inl ⟨rfl, _, SqL.of d3⟩, _, rfl, _, rfl, _, rfl, (by show 3 ≤ sizeLine; decide), fun u hu => ⟨md, _, _, rfl, rfl, by rw [upd_ne (ne_of_none d3 hu)]; exact d3, by rw [List.length_map]; exact small1000 (by omega), ?_⟩⟩
      exact app (.qu false m t1) u _ hu ⟨a1, upd_same, away hu h1⟩ (by show 1 + _ ≤ _; omega) (by show 1 + _ ≤ _; omega) (by show (decide (m ∈ ms) && _) = true; rw [decide_eq_true hmm, q1]; rfl)
    refine ⟨_, rfl, rfl, false, congrArg V.bl ((wk_each k).trans (decide_eq_false c6')), iteF ?_⟩
    obtain ⟨op, hop⟩ : ∃ op : DB.Op, wS k = wOp op := by
      cases k with
      | yes => exact absurd rfl c1'
      | no => exact absurd rfl c2'
      | mark => exact absurd rfl c3'
      | not => exact absurd rfl c4'
      | some => exact absurd rfl c5'
      | each => exact absurd rfl c6'
      | and => exact ⟨.and, rfl⟩
      | or => exact ⟨.or, rfl⟩
      | either => exact ⟨.either, rfl⟩
      | iff => exact ⟨.iff, rfl⟩
    refine ⟨_, rfl, .inl ⟨rfl, _, SqL.of d3⟩, _, rfl, _, rfl, _, rfl, (by show 3 ≤ sizeLine; decide), fun u hu => ⟨md, _, _, rfl, rfl, by rw [upd_ne (ne_of_none d3 hu)]; exact d3, by rw [List.length_map]; exact small1000 (by omega), ?_⟩⟩
    exact app (.bin op t2 t1) u _ hu ⟨a2, a1, by rw [upd_same, hop], away hu h2, away hu h1⟩ (by show 1 + _ + _ ≤ _; omega) (by show 1 + max _ _ ≤ _; omega) (by show (_ && _) = true; rw [q1, q2]; rfl)
  · rintro σ H3 ⟨as, v1, v2, v3, v4, v5, v6, rfl, s3, k3, d3, l3, ok⟩
    have e : ((many : Int) - 1).toNat = many - 1 := by omega
    rw [e] at l3 ok
    have asne : as ≠ [] := fun z => by rw [z] at l3; simp at l3
    obtain ⟨as', x, rfl⟩ : ∃ as' x, as = as' ++ [x] := ⟨as.dropLast, as.getLast asne, (List.dropLast_concat_getLast asne).symm⟩
    refine ⟨_, rfl, _, rfl, md, _, _, .ref x, rfl, rfl, SqL.of d3, by rw [List.map_append]; exact atI_last _ _, ?_⟩
    have p : 2 ^ (many - 1 + 1) ≤ 2 ^ 7 := Nat.pow_le_pow_right (by omega) (by omega)
    exact q x H3 s3 ((ok x (List.mem_append.mpr (.inr List.mem_cons_self))).wide (by omega) (by omega))
end
end DW


set_option maxHeartbeats 4000000
/-! The law's own defs: the world of marks. -/
namespace DW
open PySem PySem.Spec PyProof.Rows L2
theorem scf_law_world : FnScope ["cell", "first", "size", "names", "found", "k", "later"] ["cell"] (defScope sf_law_world) := ⟨rfl, rfl, rfl, by decide +kernel, rfl, by decide +kernel, by decide +kernel⟩
def nmS (is : List Nat) : Str := ⟨(is.map fun i => 97 + i).toArray⟩
structure Names (z : Str) (is : List Nat) : Prop where
  e : z = nmS is
  nd : is.Nodup
  ne : is ≠ []
  lt : ∀ i ∈ is, i < 4
def cutN (f n : Nat) : List Nat := ((List.range 4).drop f).take n
theorem cut_abcd : ∀ (f : Fin 2) (n : Fin 4), cutS "abcd" (some ((f.val : Nat) : Int)) (some (((f.val : Nat) : Int) + (1 + ((n.val : Nat) : Int)))) = nmS (cutN f.val (1 + n.val)) := by decide +kernel
theorem cut_all : cutS "abcd" (some 0) (some (0 + 4)) = nmS [0, 1, 2, 3] := by decide +kernel
theorem cutN_ok : ∀ (f : Fin 2) (n : Fin 3), (cutN f.val (1 + n.val)).Nodup ∧ cutN f.val (1 + n.val) ≠ [] ∧ (∀ i ∈ cutN f.val (1 + n.val), i < 4) ∧ (cutN f.val (1 + n.val)).length = 1 + n.val := by decide
theorem nmS_at {is : List Nat} {j i : Nat} (h : is[j]? = some i) : atI (nmS is).cps.toList ((j : Nat) : Int) = some (97 + i) := by
  refine atI_nat ?_
  show ((is.map fun i => 97 + i).toArray.toList)[j]? = _
  rw [List.getElem?_map, h]
  rfl
theorem nmS_len (is : List Nat) : (nmS is).length = is.length := by
  show (is.map fun i => 97 + i).toArray.size = _
  simp
theorem is_few {is : List Nat} (nd : is.Nodup) (lt : ∀ i ∈ is, i < 4) : is.length ≤ 4 := nodup_le nd lt
abbrev both (j : Nat) : List Str := [mS j, mS (j + 4)]
/-- both marks of each of them, in some order -/
theorem world_of {ms : List Str} {is : List Nat} (p : ms.Perm (is.flatMap both)) (nd : is.Nodup) (lt : ∀ i ∈ is, i < 4) (ne : is ≠ []) : WdS ms ∧ ms ≠ [] ∧ ms.length ≤ 8 ∧ nowL ms ≠ [] := by
  have mem : ∀ m, m ∈ ms ↔ ∃ i ∈ is, m = mS i ∨ m = mS (i + 4) := fun m => by
    rw [p.mem_iff, List.mem_flatMap]
    constructor
    · rintro ⟨i, hi, h⟩
      rcases List.mem_cons.mp h with h | h
      · exact ⟨i, hi, .inl h⟩
      · exact ⟨i, hi, .inr (List.mem_singleton.mp h)⟩
    · rintro ⟨i, hi, h | h⟩
      · exact ⟨i, hi, by rw [h]; exact List.mem_cons_self⟩
      · exact ⟨i, hi, by rw [h]; exact List.mem_cons_of_mem _ List.mem_cons_self⟩
  have ndm : ms.Nodup := by
    rw [p.nodup_iff]
    clear p mem ne
    induction is with
    | nil => exact List.nodup_nil
    | cons a is ih =>
      obtain ⟨n1, n2⟩ := List.nodup_cons.mp nd
      rw [List.flatMap_cons]
      refine List.nodup_append.mpr ⟨?_, ih n2 (fun i hi => lt i (List.mem_cons_of_mem _ hi)), fun x hx y hy e => ?_⟩
      · refine List.nodup_cons.mpr ⟨fun h => ?_, by simp⟩
        have := mk_inj (List.mem_singleton.mp h)
        omega
      · obtain ⟨j, hj, hy⟩ := List.mem_flatMap.mp hy
        have la := lt a List.mem_cons_self
        have lj := lt j (List.mem_cons_of_mem _ hj)
        have na : a ≠ j := fun z => n1 (z ▸ hj)
        have two : ∀ {a : Nat} {x : Str}, x ∈ both a → x = mS a ∨ x = mS (a + 4) := fun h => by
          rcases List.mem_cons.mp h with h | h
          · exact .inl h
          · exact .inr (List.mem_singleton.mp h)
        rcases two hx with h1 | h1 <;> rcases two hy with h2 | h2 <;> (rw [h1, h2] at e; have := mk_inj e; omega)
  refine ⟨⟨fun m hm => ?_, fun i hi => ?_, ndm⟩, fun z => ?_, ?_, fun z => ?_⟩
  · obtain ⟨i, hi, h⟩ := (mem m).mp hm
    have := lt i hi
    rcases h with h | h
    · exact ⟨i, by omega, h⟩
    · exact ⟨i + 4, by omega, h⟩
  · rw [mem, mem]
    constructor
    · rintro ⟨j, hj, h | h⟩
      · exact ⟨j, hj, .inr (by rw [mk_inj h])⟩
      · have := mk_inj h; omega
    · rintro ⟨j, hj, h | h⟩
      · have := mk_inj h; have := lt j hj; omega
      · exact ⟨j, hj, .inl (by have := mk_inj h; rw [show i = j by omega])⟩
  · obtain ⟨i, hi⟩ := List.exists_mem_of_ne_nil _ ne
    have := (mem (mS i)).mpr ⟨i, hi, .inl rfl⟩
    rw [z] at this
    cases this
  · have := p.length_eq
    have f := is_few nd lt
    have : (is.flatMap both).length = 2 * is.length := by
      clear p mem ndm ne nd lt this f
      induction is with
      | nil => rfl
      | cons a is ih => rw [List.flatMap_cons, List.length_append, ih]; simp; omega
    omega
  · obtain ⟨i, hi⟩ := List.exists_mem_of_ne_nil _ ne
    have : mS i ∈ nowL ms := mem_nowL.mpr ⟨i, lt i hi, rfl, (mem _).mpr ⟨i, hi, .inl rfl⟩⟩
    rw [z] at this
    cases this
theorem ins_perm {α : Type} (xs : List α) (p : Nat) (x : α) : (xs.take p ++ [x] ++ xs.drop p).Perm (xs ++ [x]) := by
  have h1 : (xs.take p ++ [x] ++ xs.drop p).Perm (xs.take p ++ xs.drop p ++ [x]) := by
    rw [List.append_assoc, List.append_assoc]
    exact List.Perm.append_left _ List.perm_append_comm
  rw [List.take_append_drop] at h1
  exact h1
def spWorld : Sp := fun vs H Q _ => ∃ c : Int, vs = [.int c] ∧ ∀ (p : Addr) (ms : List Str) (H' : Hp), Same H H' → H p = none → H' p = some (.lst (ms.map V.str)) → WdS ms → ms ≠ [] → ms.length ≤ 8 → nowL ms ≠ [] → Q (.ref p) H'
section
variable {P : Program} {w : World} {K : PySem.W.Frag} {mg : Str → Option Value} {base : Heap} {C : Addr}
theorem d_world (T : Tx w K mg C) (A : Has K mg "_law_world" sf_law_world) (d__law_draw : Df P w K mg base "_law_draw" 1 ["cell", "k", "bound"] spDraw) : Df P w K mg base "_law_world" 2 ["cell"] spWorld := by
  refine Df.of A scf_law_world (fun vs H Q E h => ?_) (fun _ _ _ _ _ _ us hl => match us, hl with | [_], _ => rfl) (fun f cdv A outer s H vs Q E hr h => ?_)
  · obtain ⟨c, rfl, _⟩ := h; rfl
  obtain ⟨c, rfl, q⟩ := h
  refine ⟨_, (pss_cons (ps_set (i := 1) scf_law_world.nd rfl (Or.inl rfl) (pe_df d__law_draw (hr.mono (by omega)) (pa_cons (pv 0) (pa_cons pe_int (pa_cons pe_int pa_nil)))))
      (pss_cons (ps_set (i := 2) scf_law_world.nd rfl (Or.inl rfl) (pe_op op_add pe_int (pe_df d__law_draw (hr.mono (by omega)) (pa_cons (pv 0) (pa_cons pe_int (pa_cons pe_int pa_nil))))))
      (pss_cons (ps_if (pt_cmpR op_eq (pe_df d__law_draw (hr.mono (by omega)) (pa_cons (pv 0) (pa_cons pe_int (pa_cons pe_int pa_nil)))) pe_int (nomark _)) (pss_one (ps_asg (pe_tup (pa_cons pe_int (pa_cons pe_int pa_nil))) (pg_tup rfl (pgs_cons (pg_name (i := 1) scf_law_world.nd rfl (Or.inl rfl)) (pgs_cons (pg_name (i := 2) scf_law_world.nd rfl (Or.inl rfl)) pgs_nil))))) pss_nil)
      (pss_cons (ps_set (i := 3) scf_law_world.nd rfl (Or.inl rfl) (pe_slice sl_str pe_str (po_some (pv 1)) (po_some (pe_op op_add (pv 1) (pv 2)))))
      (pss_cons (ps_if (PW.pt (pw_and (pt_cmpR op_eq (pv 2) pe_int (nomark _)) (pw_and1 (pt_cmpR op_eq (pe_df d__law_draw (hr.mono (by omega)) (pa_cons (pv 0) (pa_cons pe_int (pa_cons pe_int pa_nil)))) pe_int (nomark _))))) (pss_one (ps_set (i := 3) scf_law_world.nd rfl (Or.inl rfl) (pe_op op_add_str (pe_ix ix_str (pv 3) pe_int (fun _ _ => rfl)) (pe_ix ix_str (pv 3) pe_int (fun _ _ => rfl))))) pss_nil)
      (pss_cons (ps_set (i := 4) scf_law_world.nd rfl (Or.inl rfl) (pe_lst pa_nil))
      (pss_cons (ps_for PassesOwn.never rfl (pi_range1 (by rfl) T.range (pa_cons (pe_callB call_len_str (by rfl) T.len (by decide +kernel) (pa_cons (pv 3) pa_nil)) pa_nil)) (pg_name (i := 5) scf_law_world.nd rfl (Or.inl rfl)) (pss_cons (ps_set (i := 6) scf_law_world.nd rfl (Or.inl rfl) (pe_ix ix_str pe_str (pe_bm PySem.F.plainAttrs_str PySem.F.slot_str_index PySem.F.type_str_index mt_sindex pe_str (pa_cons (pe_ix ix_str (pv 3) (pv 5) (fun _ _ => rfl)) pa_nil)) (fun _ _ => rfl)))
      (pss_cons (ps_expr (pe_bm PySem.F.plainAttrs_list PySem.F.slot_list_insert PySem.F.type_list_insert mt_insert (pv 4) (pa_cons (pe_op op_mod (pe_df d__law_draw (hr.mono (by omega)) (pa_cons (pv 0) (pa_cons (pe_op op_add pe_int (pe_op op_mul pe_int (pv 5))) (pa_cons pe_int pa_nil)))) (pe_op op_add (pe_callB call_len_seq (by rfl) T.len (by decide +kernel) (pa_cons (pv 4) pa_nil)) pe_int)) (pa_cons (pe_ix ix_str (pv 3) (pv 5) (fun _ _ => rfl)) pa_nil))))
      (pss_one (ps_expr (pe_bm PySem.F.plainAttrs_list PySem.F.slot_list_insert PySem.F.type_list_insert mt_insert (pv 4) (pa_cons (pe_op op_mod (pe_df d__law_draw (hr.mono (by omega)) (pa_cons (pv 0) (pa_cons (pe_op op_add pe_int (pe_op op_mul pe_int (pv 5))) (pa_cons pe_int pa_nil)))) (pe_op op_add (pe_callB call_len_seq (by rfl) T.len (by decide +kernel) (pa_cons (pv 4) pa_nil)) pe_int)) (pa_cons (pv 6) pa_nil))))))))
      (pss_one (ps_ret (pv 4)))))))))), ?_⟩
  refine ⟨_, rfl, c, 1, 2, rfl, by omega, by omega, by omega, fun r1 hr1 => ?_⟩
  refine ⟨_, rfl, c, 0, 3, rfl, by omega, by omega, by omega, fun r2 hr2 => ⟨_, _, rfl, rfl, ?_⟩⟩
  have nA : Names (cutS "abcd" (some 0) (some (0 + 4))) [0, 1, 2, 3] := ⟨cut_all, by decide, by decide, by decide⟩
  have nB : Names (cutS "abcd" (some ((r1 : Nat) : Int)) (some (((r1 : Nat) : Int) + (1 + ((r2 : Nat) : Int))))) (cutN r1 (1 + r2)) := by
    obtain ⟨h1, h2, h3, h4⟩ := cutN_ok ⟨r1, hr1⟩ ⟨r2, hr2⟩
    exact ⟨cut_abcd ⟨r1, hr1⟩ ⟨r2, by omega⟩, h1, h2, h3⟩
  have lB : (cutN r1 (1 + r2)).length = 1 + r2 := (cutN_ok ⟨r1, hr1⟩ ⟨r2, hr2⟩).2.2.2
  refine ⟨_, rfl, c, 12, 8, rfl, by omega, by omega, by omega, fun r3 hr3 => ⟨rfl, _, rfl, ?_⟩⟩
  refine ite2 (fun _ => ⟨(by show 2 ≤ sizeLine; decide), fun u hu => ⟨u, _, rfl, SqT.of upd_same, rfl, _, _, rfl, _, _, rfl, rfl, ?_⟩⟩) (fun _ => ?_)
  all_goals
    first
    | (have s1 := Same.new hu (.tup [.int 0, .int 4]); generalize upd H u (.tup [.int 0, .int 4]) = H1 at s1 ⊢)
    | (have s1 : Same H H := Same.refl _; obtain ⟨H1, rfl⟩ : ∃ H1, H1 = H := ⟨_, rfl⟩)
    refine ⟨_, rfl, _, rfl, _, rfl, _, rfl, _, _, rfl, rfl, _, rfl, _, rfl, abcd_len, ?_⟩
    first
    | (have _ := hu; have nz := nA; have t3 : decide (V.int 4 = V.int 3) = true → ([0, 1, 2, 3] : List Nat).length = 3 := (fun h => by cases V.int.inj (of_decide_eq_true h)); generalize cutS "abcd" (some 0) (some (0 + 4)) = z at nz ⊢; generalize ([0, 1, 2, 3] : List Nat) = is at nz t3)
    | (have nz := nB; have t3 : decide (V.int (1 + ((r2 : Nat) : Int)) = V.int 3) = true → (cutN r1 (1 + r2)).length = 3 := (fun h => by have := V.int.inj (of_decide_eq_true h); omega); generalize cutS "abcd" (some ((r1 : Nat) : Int)) (some (((r1 : Nat) : Int) + (1 + ((r2 : Nat) : Int)))) = z at nz ⊢; generalize cutN r1 (1 + r2) = is at nz t3)
    have few := is_few nz.nd nz.lt
    have zl : z.length = is.length := by rw [nz.e, nmS_len]
    have zs : z.length ≤ sizeLine := by rw [zl]; exact Nat.le_of_lt (small1000 (by omega))
    refine ⟨_, rfl, rfl, _, rfl, ?_⟩
    refine ite2 (fun h3 => ⟨_, rfl, c, 14, 3, rfl, by omega, by omega, by omega, fun r4 hr4 => ⟨rfl, _, rfl, ite2 (fun leaf => ?_) (fun _ => ?_)⟩⟩) (fun _ => iteF ?_)
    all_goals
      first
      | (have _ := leaf
         obtain ⟨i0, i1, i2, rfl⟩ : ∃ i0 i1 i2, is = [i0, i1, i2] := (by
           have l3 := t3 h3
           match is, l3 with
           | [i0, i1, i2], _ => exact ⟨i0, i1, i2, rfl⟩)
         have ez := nz.e
         subst ez
         refine ⟨_, rfl, _, _, 97 + i0, rfl, rfl, zs, nmS_at (is := [i0, i1, i2]) (j := 0) rfl, _, rfl, _, _, 97 + i2, rfl, rfl, zs, nmS_at (is := [i0, i1, i2]) (j := 2) rfl, _, _, rfl, rfl, (by show 1 + 1 ≤ sizeLine; decide), ?_⟩
         have nz2 : Names (⟨#[97 + i0]⟩ ++ ⟨#[97 + i2]⟩) [i0, i2] := ⟨rfl, (by
           have := nz.nd
           simp at this ⊢
           omega), (by simp), fun i hi => nz.lt i (by simp at hi ⊢; omega)⟩
         generalize ((⟨#[97 + i0]⟩ : Str) ++ (⟨#[97 + i2]⟩ : Str)) = z2 at nz2 ⊢
         generalize [i0, i2] = is2 at nz2)
      | (have nz2 := nz; generalize z = z2 at nz2 ⊢; generalize is = is2 at nz2)
      have few2 := is_few nz2.nd nz2.lt
      have zl2 : z2.length = is2.length := by rw [nz2.e, nmS_len]
      have zs2 : z2.length ≤ sizeLine := by rw [zl2]; exact Nat.le_of_lt (small1000 (by omega))
      refine ⟨Nat.zero_le _, fun fd hfd => ?_⟩
      have s2 := Same.new hfd (.lst [])
      have f2 : upd H1 fd (.lst []) fd = some (.lst (([] : List Str).map V.str)) := upd_same
      generalize upd H1 fd (.lst []) = H2 at s2 f2 ⊢
      have fdH := Same.nw s1 hfd
      refine ⟨_, rfl, _, rfl, zs2, _, rfl, by omega, by omega, ?_⟩
      rw [show ((z2.length : Nat) : Int).toNat = is2.length by omega]
      refine for_range (fun k σ H' => ∃ (fs : List Str) (v1 v2 v3 v4 : Option V), σ = [some (.int c), v1, v2, some (.str z2), some (.ref fd), v3, v4] ∧ Same _ H' ∧ H' fd = some (.lst (fs.map V.str)) ∧ fs.length = 2 * k ∧ fs.Perm ((is2.take k).flatMap both)) ⟨[], _, _, none, none, rfl, s1.trans s2, f2, rfl, List.Perm.refl _⟩ ?_ ?_
      · rintro k σ H3 hk ⟨fs, v1, v2, v3, v4, rfl, s3, f3, l3, pm⟩
        rw [Int.zero_add]
        obtain ⟨j, hj⟩ : ∃ j, is2[k]? = some j := ⟨is2[k], List.getElem?_eq_getElem hk⟩
        have j4 := nz2.lt j (List.mem_of_getElem? hj)
        have ez := nz2.e
        have zat : atI z2.cps.toList ((k : Nat) : Int) = some (97 + j) := by rw [ez]; exact nmS_at hj
        have tk : is2.take (k + 1) = is2.take k ++ [j] := by rw [List.take_add_one, hj]; rfl
        refine ⟨rfl, _, rfl, _, rfl, _, _, 97 + j, rfl, rfl, zs2, zat, _, _, j, [], rfl, rfl, now_occ ⟨j, j4⟩, _, _, _, rfl, rfl, efgh_len, thn_at ⟨j, j4⟩, ?_⟩
        have insert : ∀ {H3 : Hp} {fs : List Str} (x : Str) (p : Nat), H3 fd = some (.lst (fs.map V.str)) → upd H3 fd (.lst ((fs.map V.str).take ((p : Nat) : Int).toNat ++ [V.str x] ++ (fs.map V.str).drop ((p : Nat) : Int).toNat)) fd = some (.lst ((fs.take p ++ [x] ++ fs.drop p).map V.str)) := fun x p h => by
          rw [upd_same, Int.toNat_natCast, List.map_append, List.map_append, List.map_take, List.map_drop]; rfl
        have modn : ∀ (r n : Nat), ((r : Nat) : Int) % (((n : Nat) : Int) + 1) = ((r % (n + 1) : Nat) : Int) := fun r n => by rfl
        have big : ∀ (r n : Nat), n ≤ 20 → ((r % (n + 1) : Nat) : Int) < 2 ^ 63 := fun r n h => by
          have h2 : r % (n + 1) < n + 1 := Nat.mod_lt _ (by omega)
          generalize r % (n + 1) = x at h2 ⊢
          omega
        have kl : k < 4 := by omega
        refine ⟨_, rfl, .inl ⟨rfl, _, SqL.of f3⟩, _, rfl, _, rfl, _, _, rfl, rfl, .inl ⟨by decide, by decide⟩, _, _, rfl, rfl, c, 2 + 2 * k, 5040, rfl, by omega, by omega, by omega, fun ra hra => ?_⟩
        refine ⟨_, rfl, fd, _, rfl, .inl (SqL.of f3), _, _, rfl, rfl, _, _, rfl, rfl, (by rw [List.length_map]; show (0 : Int) < ((fs.length : Nat) : Int) + 1; omega), _, rfl, _, rfl, _, _, 97 + j, rfl, rfl, zs2, zat, ?_⟩
        have e1 : ((ra : Nat) : Int) % ((((fs.map V.str).length : Nat) : Int) + 1) = ((ra % (fs.length + 1) : Nat) : Int) := by rw [List.length_map]; exact modn _ _
        refine ⟨fd, _, ((ra % (fs.length + 1) : Nat) : Int), .str (mS j), rfl, congrArg (fun z => [V.int z, V.str (mS j)]) e1, f3, by rw [List.length_map]; exact small1000 (by omega), by omega, big _ _ (by omega), ?_⟩
        have g4 := insert (mS j) (ra % (fs.length + 1)) f3
        have p4 := ins_perm fs (ra % (fs.length + 1)) (mS j)
        have s4 : Same _ (upd H3 fd (.lst ((fs.map V.str).take ((ra % (fs.length + 1) : Nat) : Int).toNat ++ [V.str (mS j)] ++ (fs.map V.str).drop ((ra % (fs.length + 1) : Nat) : Int).toNat))) := fun b o hb => by
          rw [upd_ne (ne_of_none hb fdH)]; exact s3 b o hb
        generalize upd H3 fd (.lst ((fs.map V.str).take ((ra % (fs.length + 1) : Nat) : Int).toNat ++ [V.str (mS j)] ++ (fs.map V.str).drop ((ra % (fs.length + 1) : Nat) : Int).toNat)) = H4 at g4 s4 ⊢
        generalize fs.take (ra % (fs.length + 1)) ++ [mS j] ++ fs.drop (ra % (fs.length + 1)) = gs at g4 p4
        have l4 : gs.length = 2 * k + 1 := by rw [p4.length_eq, List.length_append, l3]; rfl
        refine ⟨_, rfl, .inl ⟨rfl, _, SqL.of g4⟩, _, rfl, _, rfl, _, _, rfl, rfl, .inl ⟨by decide, by decide⟩, _, _, rfl, rfl, c, 3 + 2 * k, 5040, rfl, by omega, by omega, by omega, fun rb hrb => ?_⟩
        refine ⟨_, rfl, fd, _, rfl, .inl (SqL.of g4), _, _, rfl, rfl, _, _, rfl, rfl, (by rw [List.length_map]; show (0 : Int) < ((gs.length : Nat) : Int) + 1; omega), _, rfl, ?_⟩
        have e2 : ((rb : Nat) : Int) % ((((gs.map V.str).length : Nat) : Int) + 1) = ((rb % (gs.length + 1) : Nat) : Int) := by rw [List.length_map]; exact modn _ _
        refine ⟨fd, _, ((rb % (gs.length + 1) : Nat) : Int), .str (mS (j + 4)), rfl, congrArg (fun z => [V.int z, V.str (mS (j + 4))]) e2, g4, by rw [List.length_map]; exact small1000 (by omega), by omega, big _ _ (by omega), ?_⟩
        have g5 := insert (mS (j + 4)) (rb % (gs.length + 1)) g4
        have p5 := ins_perm gs (rb % (gs.length + 1)) (mS (j + 4))
        refine ⟨gs.take (rb % (gs.length + 1)) ++ [mS (j + 4)] ++ gs.drop (rb % (gs.length + 1)), _, _, _, _, rfl, fun b o hb => ?_, g5, by rw [p5.length_eq, List.length_append, l4]; rfl, ?_⟩
        · rw [upd_ne (ne_of_none hb fdH)]; exact s4 b o hb
        · rw [tk, List.flatMap_append]
          refine p5.trans ((List.Perm.append_right _ (p4.trans (List.Perm.append_right _ pm))).trans ?_)
          rw [List.append_assoc]
          exact List.Perm.refl _
      · rintro σ H3 ⟨fs, v1, v2, v3, v4, rfl, s3, f3, l3, pm⟩
        rw [List.take_length] at pm
        obtain ⟨w1, w2, w3, w4⟩ := world_of pm nz2.nd nz2.lt nz2.ne
        exact ⟨_, rfl, q fd fs H3 s3 fdH f3 w1 w2 w3 w4⟩
end
end DW


set_option maxHeartbeats 4000000
/-! The law's own defs: counting, single, both, told place. -/
namespace DW
open PySem PySem.Spec PyProof.Rows L2
theorem scf_law_counting : FnScope ["order", "carry", "found", "mark", "later"] ["order"] (defScope sf_law_counting) := ⟨rfl, rfl, rfl, by decide +kernel, rfl, by decide +kernel, by decide +kernel⟩
theorem scf_law_single : FnScope ["order", "cell", "found", "now", "k", "one"] ["order", "cell"] (defScope sf_law_single) := ⟨rfl, rfl, rfl, by decide +kernel, rfl, by decide +kernel, by decide +kernel⟩
theorem scf_law_both : FnScope ["script", "order", "steps"] ["script"] (defScope sf_law_both) := ⟨rfl, rfl, rfl, by decide +kernel, rfl, by decide +kernel, by decide +kernel⟩
theorem scf_law_told_place : FnScope ["script", "at", "order"] ["script", "at", "order"] (defScope sf_law_told_place) := ⟨rfl, rfl, rfl, by decide +kernel, rfl, by decide +kernel, by decide +kernel⟩
def spCounting (K : PySem.W.Frag) : Sp := fun vs H Q _ => ∃ (o : Addr) (ms : List Str), vs = [.ref o] ∧ SqL K H o (ms.map V.str) ∧ WdS ms ∧ ∀ (a : Addr) (H' : Hp), Same H H' → Sok H' ms 127 8 a → Q (.ref a) H'
def spSingle (K : PySem.W.Frag) : Sp := fun vs H Q _ => ∃ (o : Addr) (c : Int) (ms : List Str), vs = [.ref o, .int c] ∧ SqL K H o (ms.map V.str) ∧ ∀ (a : Addr) (H' : Hp), Same H H' → Sok H' (nowL ms) 127 8 a → Q (.ref a) H'
def spBoth (K : PySem.W.Frag) : Sp := fun vs H Q _ => ∃ (l : Addr) (ns : List Int), vs = [.ref l] ∧ SqL K H l (ns.map V.int) ∧
  ∀ (p o a : Addr) (ms : List Str) (H' : Hp), Same H H' → H' p = some (.tup [.ref o, .ref a]) → H' o = some (.lst (ms.map V.str)) → WdS ms → ms ≠ [] → ms.length ≤ 8 → nowL ms ≠ [] → Sok H' ms 127 8 a → Q (.ref p) H'
def spTold (K : PySem.W.Frag) : Sp := fun vs H Q _ => ∃ (l o : Addr) (ns : List Int) (ms : List Str) (at_ : Nat), vs = [.ref l, .int (at_ : Nat), .ref o] ∧ SqL K H l (ns.map V.int) ∧ SqL K H o (ms.map V.str) ∧ nowL ms ≠ [] ∧
  ∀ (a : Addr) (H' : Hp), Same H H' → Sok H' (nowL ms) 127 8 a → Q (.ref a) H'
theorem sok_mk {H : Hp} {ms : List Str} {m : Str} {a : Addr} (h : H a = some (.tup [.str "mark", .str m])) (hm : m ∈ ms) : Sok H ms 1 1 a := ⟨.mk m, h, Nat.le_refl _, Nat.le_refl _, decide_eq_true hm⟩
theorem sok_yes {H : Hp} {ms : List Str} {a : Addr} (h : H a = some (.tup [.str "yes"])) : Sok H ms 1 1 a := ⟨.tt true, h, Nat.le_refl _, Nat.le_refl _, rfl⟩
theorem sok_not {H : Hp} {ms : List Str} {a a1 : Addr} {c d : Nat} (h : H a = some (.tup [.str "not", .ref a1])) (k : Sok H ms c d a1) : Sok H ms (1 + c) (1 + d) a := by
  obtain ⟨t, h1, h2, h3, h4⟩ := k
  exact ⟨.no t, ⟨a1, h, h1⟩, by show 1 + _ ≤ _; omega, by show 1 + _ ≤ _; omega, h4⟩
theorem sok_bin {H : Hp} {ms : List Str} {a a1 a2 : Addr} {c d c' d' : Nat} (o : DB.Op) (h : H a = some (.tup [.str (wOp o), .ref a1, .ref a2])) (k : Sok H ms c d a1) (k' : Sok H ms c' d' a2) : Sok H ms (1 + c + c') (1 + max d d') a := by
  obtain ⟨t, h1, h2, h3, h4⟩ := k
  obtain ⟨u, g1, g2, g3, g4⟩ := k'
  exact ⟨.bin o t u, ⟨a1, a2, h, h1, g1⟩, by show 1 + _ + _ ≤ _; omega, by show 1 + max _ _ ≤ _; omega, by show (_ && _) = true; rw [h4, g4]; rfl⟩
section
variable {P : Program} {w : World} {K : PySem.W.Frag} {mg : Str → Option Value} {base : Heap} {C : Addr}
theorem d_counting (T : Tx w K mg C) (A : Has K mg "_law_counting" sf_law_counting) (d__law_now : Df P w K mg base "_law_now" 1 ["order"] (spLNow K)) : Df P w K mg base "_law_counting" 2 ["order"] (spCounting K) := by
  refine Df.of A scf_law_counting (fun vs H Q E h => ?_) (fun _ _ _ _ _ _ us hl => match us, hl with | [_], _ => rfl) (fun f cdv A outer s H vs Q E hr h => ?_)
  · obtain ⟨o, ms, rfl, _⟩ := h; rfl
  obtain ⟨o, ms, rfl, ho, W, q⟩ := h
  refine ⟨_, (pss_cons (ps_set (i := 1) scf_law_counting.nd rfl (Or.inl rfl) (pe_tup (pa_cons pe_str pa_nil)))
      (pss_cons (ps_set (i := 2) scf_law_counting.nd rfl (Or.inl rfl) (pe_tup (pa_cons pe_str pa_nil)))
      (pss_cons (ps_for PassesOwn.never rfl (pi_list (pe_df d__law_now (hr.mono (by omega)) (pa_cons (pv 0) pa_nil))) (pg_name (i := 3) scf_law_counting.nd rfl (Or.inl rfl)) (pss_cons (ps_set (i := 4) scf_law_counting.nd rfl (Or.inl rfl) (pe_tup (pa_cons pe_str (pa_cons (pe_ix ix_str pe_str (pe_bm PySem.F.plainAttrs_str PySem.F.slot_str_index PySem.F.type_str_index mt_sindex pe_str (pa_cons (pv 3) pa_nil)) (fun _ _ => rfl)) pa_nil))))
      (pss_cons (ps_set (i := 2) scf_law_counting.nd rfl (Or.inl rfl) (pe_tup (pa_cons pe_str (pa_cons (pv 2) (pa_cons (pe_tup (pa_cons pe_str (pa_cons (pe_tup (pa_cons pe_str (pa_cons (pv 4) (pa_cons (pe_tup (pa_cons pe_str (pa_cons (pe_tup (pa_cons pe_str (pa_cons (pv 3) pa_nil))) (pa_cons (pv 1) pa_nil)))) pa_nil)))) pa_nil))) pa_nil)))))
      (pss_one (ps_set (i := 1) scf_law_counting.nd rfl (Or.inl rfl) (pe_tup (pa_cons pe_str (pa_cons (pv 1) (pa_cons (pe_tup (pa_cons pe_str (pa_cons (pv 3) pa_nil))) pa_nil)))))))))
      (pss_one (ps_ret (pv 2)))))), ?_⟩
  refine ⟨(by show 1 ≤ sizeLine; decide), fun c0 hc0 => ?_⟩
  have s0 := Same.new hc0 (.tup [.str "yes"])
  have c1 : upd H c0 (.tup [.str "yes"]) c0 = some (.tup [.str "yes"]) := upd_same
  generalize upd H c0 (.tup [.str "yes"]) = H0 at s0 c1 ⊢
  refine ⟨(by show 1 ≤ sizeLine; decide), fun f0 hf0 => ?_⟩
  have s1 := Same.new hf0 (.tup [.str "yes"])
  have f1 : upd H0 f0 (.tup [.str "yes"]) f0 = some (.tup [.str "yes"]) := upd_same
  generalize upd H0 f0 (.tup [.str "yes"]) = H1 at s1 f1 ⊢
  have s01 := s0.trans s1
  refine ⟨_, rfl, o, ms, rfl, s01.seq ho, fun p H2 s2 hp p2 => ?_⟩
  have few := nowL_few ms
  refine ⟨p, rfl, ⟨_, SqL.of p2⟩, for_list (K := K) (a := p) (xs := (nowL ms).map V.str) (fun i σ H' => ∃ (ca fa : Addr) (v1 v2 : Option V), σ = [some (.ref o), some (.ref ca), some (.ref fa), v1, v2] ∧ Same H2 H' ∧ Sok H' ms (1 + 2 * i) (1 + i) ca ∧ Sok H' ms (1 + 16 * i) (4 + i) fa) ⟨c0, f0, none, none, rfl, Same.refl _, (sok_yes (s1 _ _ c1)).mono s2, ((sok_yes f1).mono s2).wide (by omega) (by omega)⟩
    (fun i σ H' _ ⟨_, _, _, _, _, h, _⟩ => SqL.of (h _ _ p2)) ?_ ?_⟩
  · rintro i y σ H3 hy ⟨ca, fa, v1, v2, rfl, s3, kc, kf⟩
    obtain ⟨j, hj, rfl, hx, hm, hil⟩ := now_at' hy
    have tm : mS (j + 4) ∈ ms := (W.pair j hj).mp hm
    refine ⟨rfl, _, rfl, _, _, j, [], rfl, rfl, now_occ ⟨j, hj⟩, _, _, _, rfl, rfl, efgh_len, thn_at ⟨j, hj⟩, (by show 2 ≤ sizeLine; decide), fun la hla => ?_⟩
    have s4 := Same.new hla (.tup [.str "mark", .str ⟨#[97 + ((⟨j, hj⟩ : Fin 4).val + 4)]⟩])
    have l4 : upd H3 la (.tup [.str "mark", .str ⟨#[97 + ((⟨j, hj⟩ : Fin 4).val + 4)]⟩]) la = some (.tup [.str "mark", .str ⟨#[97 + ((⟨j, hj⟩ : Fin 4).val + 4)]⟩]) := upd_same
    generalize upd H3 la (.tup [.str "mark", .str ⟨#[97 + ((⟨j, hj⟩ : Fin 4).val + 4)]⟩]) = H4 at s4 l4 ⊢
    have l4 : H4 la = some (.tup [.str "mark", .str (mS (j + 4))]) := l4
    refine ⟨_, rfl, _, rfl, _, rfl, (by show 2 ≤ sizeLine; decide), fun t1 ht1 => ?_⟩
    have st1 := Same.new ht1 (.tup [.str "mark", .str (mS j)])
    have et1 : upd H4 t1 (.tup [.str "mark", .str (mS j)]) t1 = some (.tup [.str "mark", .str (mS j)]) := upd_same
    generalize upd H4 t1 (.tup [.str "mark", .str (mS j)]) = H5 at st1 et1 ⊢
    refine ⟨_, rfl, (by show 3 ≤ sizeLine; decide), fun t2 ht2 => ?_⟩
    have st2 := Same.new ht2 (.tup [.str "either", .ref t1, .ref ca])
    have et2 : upd H5 t2 (.tup [.str "either", .ref t1, .ref ca]) t2 = some (.tup [.str "either", .ref t1, .ref ca]) := upd_same
    generalize upd H5 t2 (.tup [.str "either", .ref t1, .ref ca]) = H6 at st2 et2 ⊢
    refine ⟨(by show 3 ≤ sizeLine; decide), fun t3 ht3 => ?_⟩
    have st3 := Same.new ht3 (.tup [.str "either", .ref la, .ref t2])
    have et3 : upd H6 t3 (.tup [.str "either", .ref la, .ref t2]) t3 = some (.tup [.str "either", .ref la, .ref t2]) := upd_same
    generalize upd H6 t3 (.tup [.str "either", .ref la, .ref t2]) = H7 at st3 et3 ⊢
    refine ⟨(by show 2 ≤ sizeLine; decide), fun t4 ht4 => ?_⟩
    have st4 := Same.new ht4 (.tup [.str "not", .ref t3])
    have et4 : upd H7 t4 (.tup [.str "not", .ref t3]) t4 = some (.tup [.str "not", .ref t3]) := upd_same
    generalize upd H7 t4 (.tup [.str "not", .ref t3]) = H8 at st4 et4 ⊢
    refine ⟨(by show 3 ≤ sizeLine; decide), fun t5 ht5 => ?_⟩
    have st5 := Same.new ht5 (.tup [.str "and", .ref fa, .ref t4])
    have et5 : upd H8 t5 (.tup [.str "and", .ref fa, .ref t4]) t5 = some (.tup [.str "and", .ref fa, .ref t4]) := upd_same
    generalize upd H8 t5 (.tup [.str "and", .ref fa, .ref t4]) = H9 at st5 et5 ⊢
    refine ⟨_, rfl, _, rfl, (by show 2 ≤ sizeLine; decide), fun t6 ht6 => ?_⟩
    have st6 := Same.new ht6 (.tup [.str "mark", .str (mS j)])
    have et6 : upd H9 t6 (.tup [.str "mark", .str (mS j)]) t6 = some (.tup [.str "mark", .str (mS j)]) := upd_same
    generalize upd H9 t6 (.tup [.str "mark", .str (mS j)]) = H10 at st6 et6 ⊢
    refine ⟨(by show 3 ≤ sizeLine; decide), fun t7 ht7 => ?_⟩
    have st7 := Same.new ht7 (.tup [.str "and", .ref ca, .ref t6])
    have et7 : upd H10 t7 (.tup [.str "and", .ref ca, .ref t6]) t7 = some (.tup [.str "and", .ref ca, .ref t6]) := upd_same
    generalize upd H10 t7 (.tup [.str "and", .ref ca, .ref t6]) = H11 at st7 et7 ⊢
    have k1 := sok_mk (ms := ms) et1 hm
    have kc5 := kc.mono (s4.trans st1)
    have k2 := sok_bin .either et2 (k1.mono st2) (kc5.mono st2)
    have k3 := sok_bin .either et3 ((sok_mk (ms := ms) l4 tm).mono (st1.trans (st2.trans st3))) (k2.mono st3)
    have k4 := sok_not et4 (k3.mono st4)
    have k5 := sok_bin .and et5 (kf.mono (s4.trans (st1.trans (st2.trans (st3.trans (st4.trans st5)))))) (k4.mono st5)
    have k6 := sok_mk (ms := ms) et6 hm
    have k7 := sok_bin .and et7 (kc5.mono (st2.trans (st3.trans (st4.trans (st5.trans (st6.trans st7)))))) (k6.mono st7)
    have sall := s4.trans (st1.trans (st2.trans (st3.trans (st4.trans (st5.trans (st6.trans st7))))))
    exact ⟨t7, t5, _, _, rfl, s3.trans sall, k7.wide (by omega) (by omega), (k5.mono (st6.trans st7)).wide (by omega) (by omega)⟩
  · rintro σ H3 ⟨ca, fa, v1, v2, rfl, s3, kc, kf⟩
    rw [List.length_map] at kf
    exact ⟨_, rfl, q fa H3 (s01.trans (s2.trans s3)) (kf.wide (by omega) (by omega))⟩
theorem d_single (T : Tx w K mg C) (A : Has K mg "_law_single" sf_law_single) (d__law_now : Df P w K mg base "_law_now" 1 ["order"] (spLNow K)) (d__law_draw : Df P w K mg base "_law_draw" 1 ["cell", "k", "bound"] spDraw) : Df P w K mg base "_law_single" 2 ["order", "cell"] (spSingle K) := by
  refine Df.of A scf_law_single (fun vs H Q E h => ?_) (fun _ _ _ _ _ _ us hl => match us, hl with | [_, _], _ => rfl) (fun f cdv A outer s H vs Q E hr h => ?_)
  · obtain ⟨o, c, ms, rfl, _⟩ := h; rfl
  obtain ⟨o, c, ms, rfl, ho, q⟩ := h
  refine ⟨_, (pss_cons (ps_set (i := 2) scf_law_single.nd rfl (Or.inl rfl) (pe_tup (pa_cons pe_str pa_nil)))
      (pss_cons (ps_set (i := 3) scf_law_single.nd rfl (Or.inl rfl) (pe_df d__law_now (hr.mono (by omega)) (pa_cons (pv 0) pa_nil)))
      (pss_cons (ps_for PassesOwn.never rfl (pi_range1 (by rfl) T.range (pa_cons (pe_callB call_len_seq (by rfl) T.len (by decide +kernel) (pa_cons (pv 3) pa_nil)) pa_nil)) (pg_name (i := 4) scf_law_single.nd rfl (Or.inl rfl)) (pss_cons (ps_set (i := 5) scf_law_single.nd rfl (Or.inl rfl) (pe_tup (pa_cons pe_str (pa_cons (pe_ix ix_list (pv 3) (pv 4) (fun _ _ => rfl)) pa_nil))))
      (pss_one (ps_set (i := 2) scf_law_single.nd rfl (Or.inl rfl) (pe_tup (pa_cons pe_str (pa_cons (pv 2) (pa_cons (pe_ix ix_list (pe_lst (pa_cons (pv 5) (pa_cons (pe_tup (pa_cons pe_str (pa_cons (pv 5) pa_nil))) pa_nil))) (pe_df d__law_draw (hr.mono (by omega)) (pa_cons (pv 1) (pa_cons (pe_op op_add pe_int (pv 4)) (pa_cons pe_int pa_nil)))) (fun _ _ => rfl)) pa_nil))))))))
      (pss_one (ps_ret (pe_ix ix_list (pe_lst (pa_cons (pv 2) (pa_cons (pe_tup (pa_cons pe_str (pa_cons (pv 2) pa_nil))) pa_nil))) (pe_df d__law_draw (hr.mono (by omega)) (pa_cons (pv 1) (pa_cons pe_int (pa_cons pe_int pa_nil)))) (fun _ _ => rfl))))))), ?_⟩
  refine ⟨(by show 1 ≤ sizeLine; decide), fun f0 hf0 => ?_⟩
  have s0 := Same.new hf0 (.tup [.str "yes"])
  have f1 : upd H f0 (.tup [.str "yes"]) f0 = some (.tup [.str "yes"]) := upd_same
  generalize upd H f0 (.tup [.str "yes"]) = H0 at s0 f1 ⊢
  refine ⟨_, rfl, o, ms, rfl, s0.seq ho, fun p H2 s2 hp p2 => ?_⟩
  have few := nowL_few ms
  refine ⟨_, rfl, p, _, rfl, .inl (SqL.of p2), _, rfl, by omega, by rw [List.length_map]; omega, ?_⟩
  rw [List.length_map, Int.toNat_natCast]
  refine for_range (fun i σ H' => ∃ (fa : Addr) (v1 v2 : Option V), σ = [some (.ref o), some (.int c), some (.ref fa), some (.ref p), v1, v2] ∧ Same H2 H' ∧ Sok H' (nowL ms) (1 + 4 * i) (2 + i) fa) ⟨f0, none, none, rfl, Same.refl _, ((sok_yes f1).mono s2).wide (by omega) (by omega)⟩ ?_ ?_
  · rintro i σ H3 hi ⟨fa, v1, v2, rfl, s3, kf⟩
    rw [Int.zero_add]
    obtain ⟨m, hm⟩ : ∃ m, (nowL ms)[i]? = some m := ⟨(nowL ms)[i], List.getElem?_eq_getElem hi⟩
    have hmm := List.mem_of_getElem? hm
    refine ⟨_, rfl, _, rfl, p, _, _, .str m, rfl, rfl, SqL.of (s3 _ _ p2), atI_nat (by rw [List.getElem?_map, hm]; rfl), (by show 2 ≤ sizeLine; decide), fun t1 ht1 => ?_⟩
    have st1 := Same.new ht1 (.tup [.str "mark", .str m])
    have et1 : upd H3 t1 (.tup [.str "mark", .str m]) t1 = some (.tup [.str "mark", .str m]) := upd_same
    generalize upd H3 t1 (.tup [.str "mark", .str m]) = H4 at st1 et1 ⊢
    refine ⟨_, rfl, _, rfl, _, rfl, (by show 2 ≤ sizeLine; decide), fun t2 ht2 => ?_⟩
    have st2 := Same.new ht2 (.tup [.str "not", .ref t1])
    have et2 : upd H4 t2 (.tup [.str "not", .ref t1]) t2 = some (.tup [.str "not", .ref t1]) := upd_same
    generalize upd H4 t2 (.tup [.str "not", .ref t1]) = H5 at st2 et2 ⊢
    refine ⟨(by show 2 ≤ sizeLine; decide), fun t3 ht3 => ?_⟩
    have st3 := Same.new ht3 (.lst [.ref t1, .ref t2])
    have et3 : upd H5 t3 (.lst [.ref t1, .ref t2]) t3 = some (.lst [.ref t1, .ref t2]) := upd_same
    generalize upd H5 t3 (.lst [.ref t1, .ref t2]) = H6 at st3 et3 ⊢
    refine ⟨_, rfl, _, rfl, _, _, rfl, rfl, c, 20 + i, 2, rfl, by omega, by omega, by omega, fun r hr2 => ?_⟩
    have k1 := sok_mk (ms := nowL ms) et1 hmm
    have k2 := sok_not et2 (k1.mono st2)
    have ka : ∃ b : Addr, ([V.ref t1, V.ref t2] : List V)[r]? = some (.ref b) ∧ Sok H6 (nowL ms) 2 2 b := by
      rcases (by omega : r = 0 ∨ r = 1) with rfl | rfl
      · exact ⟨t1, rfl, (k1.mono (st2.trans st3)).wide (by omega) (by omega)⟩
      · exact ⟨t2, rfl, (k2.mono st3).wide (by omega) (by omega)⟩
    obtain ⟨b, hb, kb⟩ := ka
    refine ⟨t3, _, _, .ref b, rfl, rfl, SqL.of et3, atI_nat hb, (by show 3 ≤ sizeLine; decide), fun t4 ht4 => ?_⟩
    have st4 := Same.new ht4 (.tup [.str "and", .ref fa, .ref b])
    have et4 : upd H6 t4 (.tup [.str "and", .ref fa, .ref b]) t4 = some (.tup [.str "and", .ref fa, .ref b]) := upd_same
    generalize upd H6 t4 (.tup [.str "and", .ref fa, .ref b]) = H7 at st4 et4 ⊢
    have sall := st1.trans (st2.trans (st3.trans st4))
    have k4 := sok_bin .and et4 (kf.mono sall) (kb.mono st4)
    exact ⟨t4, _, _, rfl, s3.trans sall, k4.wide (by omega) (by omega)⟩
  · rintro σ H3 ⟨fa, v1, v2, rfl, s3, kf⟩
    refine ⟨_, rfl, _, rfl, (by show 2 ≤ sizeLine; decide), fun t1 ht1 => ?_⟩
    have st1 := Same.new ht1 (.tup [.str "not", .ref fa])
    have et1 : upd H3 t1 (.tup [.str "not", .ref fa]) t1 = some (.tup [.str "not", .ref fa]) := upd_same
    generalize upd H3 t1 (.tup [.str "not", .ref fa]) = H4 at st1 et1 ⊢
    refine ⟨(by show 2 ≤ sizeLine; decide), fun t2 ht2 => ?_⟩
    have st2 := Same.new ht2 (.lst [.ref fa, .ref t1])
    have et2 : upd H4 t2 (.lst [.ref fa, .ref t1]) t2 = some (.lst [.ref fa, .ref t1]) := upd_same
    generalize upd H4 t2 (.lst [.ref fa, .ref t1]) = H5 at st2 et2 ⊢
    refine ⟨_, rfl, c, 25, 2, rfl, by omega, by omega, by omega, fun r hr2 => ?_⟩
    have k1 := sok_not et1 (kf.mono st1)
    have ka : ∃ b : Addr, ([V.ref fa, V.ref t1] : List V)[r]? = some (.ref b) ∧ Sok H5 (nowL ms) 127 8 b := by
      rcases (by omega : r = 0 ∨ r = 1) with rfl | rfl
      · exact ⟨fa, rfl, (kf.mono (st1.trans st2)).wide (by omega) (by omega)⟩
      · exact ⟨t1, rfl, (k1.mono st2).wide (by omega) (by omega)⟩
    obtain ⟨b, hb, kb⟩ := ka
    exact ⟨t2, _, _, .ref b, rfl, rfl, SqL.of et2, atI_nat hb, q b H5 (s0.trans (s2.trans (s3.trans (st1.trans st2)))) kb⟩
theorem d_both (T : Tx w K mg C) (A : Has K mg "_law_both" sf_law_both) (d__law_world : Df P w K mg base "_law_world" 2 ["cell"] spWorld) (d__law_cell_at : Df P w K mg base "_law_cell_at" 1 ["script", "k"] (spCellAt K)) (d__law_draw : Df P w K mg base "_law_draw" 1 ["cell", "k", "bound"] spDraw)
    (d__law_sentence : Df P w K mg base "_law_sentence" 2 ["script", "at", "many", "order"] (spSen K)) (d__law_counting : Df P w K mg base "_law_counting" 2 ["order"] (spCounting K)) : Df P w K mg base "_law_both" 3 ["script"] (spBoth K) := by
  refine Df.of A scf_law_both (fun vs H Q E h => ?_) (fun _ _ _ _ _ _ us hl => match us, hl with | [_], _ => rfl) (fun f cdv A outer s H vs Q E hr h => ?_)
  · obtain ⟨l, ns, rfl, _⟩ := h; rfl
  obtain ⟨l, ns, rfl, hl, q⟩ := h
  refine ⟨_, (pss_cons (ps_set (i := 1) scf_law_both.nd rfl (Or.inl rfl) (pe_df d__law_world (hr.mono (by omega)) (pa_cons (pe_df d__law_cell_at (hr.mono (by omega)) (pa_cons (pv 0) (pa_cons pe_int pa_nil))) pa_nil)))
      (pss_cons (ps_set (i := 2) scf_law_both.nd rfl (Or.inl rfl) (pe_df d__law_sentence (hr.mono (by omega)) (pa_cons (pv 0) (pa_cons pe_int (pa_cons (pe_op op_add pe_int (pe_op op_mod (pe_df d__law_cell_at (hr.mono (by omega)) (pa_cons (pv 0) (pa_cons pe_int pa_nil))) pe_int)) (pa_cons (pv 1) pa_nil))))))
      (pss_cons (ps_if (pt_cmpR op_eq (pe_df d__law_draw (hr.mono (by omega)) (pa_cons (pe_df d__law_cell_at (hr.mono (by omega)) (pa_cons (pv 0) (pa_cons pe_int pa_nil))) (pa_cons pe_int (pa_cons pe_int pa_nil)))) pe_int (nomark _)) (pss_one (ps_set (i := 2) scf_law_both.nd rfl (Or.inl rfl) (pe_df d__law_counting (hr.mono (by omega)) (pa_cons (pv 1) pa_nil)))) pss_nil)
      (pss_one (ps_ret (pe_tup (pa_cons (pv 1) (pa_cons (pv 2) pa_nil)))))))), ?_⟩
  refine ⟨_, rfl, l, ns, 0, rfl, hl, fun c => ⟨c, rfl, fun o ms H1 s1 ho1 o1 W ne few nne => ?_⟩⟩
  refine ⟨_, rfl, _, rfl, l, ns, 1, rfl, s1.seq hl, fun c1 => ⟨_, _, rfl, rfl, (by show (0 : Int) < 6; decide), _, _, rfl, rfl, _, rfl, ?_⟩⟩
  obtain ⟨n, en, ln⟩ := fm_pos (a := c1) (b := 6) (by decide)
  refine ⟨l, o, ns, ms, 2, 2 + n, congrArg (fun z => [V.ref l, V.int 2, V.int (2 + z), V.ref o]) en, s1.seq hl, SqL.of o1, ne, few, by omega, by omega, fun a H2 s2 k2 => ?_⟩
  refine ⟨_, rfl, l, ns, 0, rfl, (s1.trans s2).seq hl, fun c2 => ⟨c2, 13, 8, rfl, by omega, by omega, by omega, fun r hr2 => ⟨rfl, _, rfl, ?_⟩⟩⟩
  have o2 := s2 _ _ o1
  refine ite2 (fun _ => ?_) (fun _ => ?_)
  · refine ⟨_, rfl, o, ms, rfl, SqL.of o2, W, fun b H3 s3 k3 => ?_⟩
    refine ⟨_, rfl, _, rfl, (by show 2 ≤ sizeLine; decide), fun p hp => ?_⟩
    have s4 := Same.new hp (.tup [.ref o, .ref b])
    exact q p o b ms _ (s1.trans (s2.trans (s3.trans s4))) upd_same (s4 _ _ (s3 _ _ o2)) W ne few nne (k3.mono s4)
  · refine ⟨_, rfl, _, rfl, (by show 2 ≤ sizeLine; decide), fun p hp => ?_⟩
    have s4 := Same.new hp (.tup [.ref o, .ref a])
    exact q p o a ms _ (s1.trans (s2.trans s4)) upd_same (s4 _ _ o2) W ne few nne ((k2.mono s4).wide (by omega) (by omega))
theorem d_told (T : Tx w K mg C) (A : Has K mg "_law_told_place" sf_law_told_place) (d__law_cell_at : Df P w K mg base "_law_cell_at" 1 ["script", "k"] (spCellAt K)) (d__law_draw : Df P w K mg base "_law_draw" 1 ["cell", "k", "bound"] spDraw) (d__law_now : Df P w K mg base "_law_now" 1 ["order"] (spLNow K))
    (d__law_sentence : Df P w K mg base "_law_sentence" 2 ["script", "at", "many", "order"] (spSen K)) (d__law_single : Df P w K mg base "_law_single" 2 ["order", "cell"] (spSingle K)) : Df P w K mg base "_law_told_place" 3 ["script", "at", "order"] (spTold K) := by
  refine Df.of A scf_law_told_place (fun vs H Q E h => ?_) (fun _ _ _ _ _ _ us hl => match us, hl with | [_, _, _], _ => rfl) (fun f cdv A outer s H vs Q E hr h => ?_)
  · obtain ⟨l, o, ns, ms, at_, rfl, _⟩ := h; rfl
  obtain ⟨l, o, ns, ms, at_, rfl, hl, ho, nne, q⟩ := h
  refine ⟨_, (pss_cons (ps_if (pt_cmpR op_eq (pe_df d__law_draw (hr.mono (by omega)) (pa_cons (pe_df d__law_cell_at (hr.mono (by omega)) (pa_cons (pv 0) (pa_cons pe_int pa_nil))) (pa_cons pe_int (pa_cons pe_int pa_nil)))) pe_int (nomark _)) (pss_one (ps_ret (pe_df d__law_single (hr.mono (by omega)) (pa_cons (pv 2) (pa_cons (pe_df d__law_cell_at (hr.mono (by omega)) (pa_cons (pv 0) (pa_cons (pv 1) pa_nil))) pa_nil))))) pss_nil)
      (pss_one (ps_ret (pe_df d__law_sentence (hr.mono (by omega)) (pa_cons (pv 0) (pa_cons (pe_op op_add (pv 1) pe_int) (pa_cons (pe_op op_add pe_int (pe_op op_mod (pe_df d__law_cell_at (hr.mono (by omega)) (pa_cons (pv 0) (pa_cons (pv 1) pa_nil))) pe_int)) (pa_cons (pe_df d__law_now (hr.mono (by omega)) (pa_cons (pv 2) pa_nil)) pa_nil)))))))), ?_⟩
  refine ⟨_, rfl, l, ns, 0, rfl, hl, fun c2 => ⟨c2, 13, 8, rfl, by omega, by omega, by omega, fun r hr2 => ⟨rfl, _, rfl, ?_⟩⟩⟩
  refine ite2 (fun _ => ?_) (fun _ => ?_)
  · exact ⟨_, rfl, _, rfl, _, rfl, l, ns, at_, rfl, hl, fun c => ⟨o, c, ms, rfl, ho, fun a H1 s1 k1 => q a H1 s1 k1⟩⟩
  · refine ⟨_, rfl, _, rfl, _, _, rfl, rfl, _, rfl, _, rfl, l, ns, at_, rfl, hl, fun c1 => ⟨_, _, rfl, rfl, (by show (0 : Int) < 6; decide), _, _, rfl, rfl, _, rfl, o, ms, rfl, ho, fun p H1 s1 hp p1 => ?_⟩⟩
    obtain ⟨n, en, ln⟩ := fm_pos (a := c1) (b := 6) (by decide)
    have few := nowL_few ms
    exact ⟨l, p, ns, nowL ms, at_ + 1, 1 + n, congrArg (fun z => [V.ref l, V.int ((at_ : Nat) + 1), V.int (1 + z), V.ref p]) en, s1.seq hl, SqL.of p1, nne, by omega, by omega, by omega, fun a H2 s2 k2 => q a H2 (s1.trans s2) (k2.wide (by omega) (by omega))⟩
end
end DW


set_option maxHeartbeats 4000000
/-! The law's own defs: a sentence's worth at a row. -/
namespace DW
open PySem PySem.Spec PyProof.Rows L2
theorem scf_law_value : FnScope ["sentence", "order", "row", "word", "at", "low", "high", "one", "other"] ["sentence", "order", "row"] (defScope sf_law_value) := ⟨rfl, rfl, rfl, by decide +kernel, rfl, by decide +kernel, by decide +kernel⟩
def spValue (K : PySem.W.Frag) (n : Nat) : Sp := fun vs H Q _ => ∃ (a o r : Addr) (s : Sn) (ms : List Str) (e : Str → Bool), vs = [.ref a, .ref o, .ref r] ∧ SenAt H s a ∧ s.dep ≤ n ∧ s.all (fun m => decide (m ∈ ms)) = true ∧ SqL K H o (ms.map V.str) ∧ ms.Nodup ∧ ms.length ≤ 8 ∧ H r = some (.lst (rowB (ms.map e))) ∧
  ∀ H', Same H H' → Q (.int (bI (DB.sv s e))) H'
theorem cut_take (xs : List V) (k : Nat) (h : k ≤ xs.length) : cutV xs none (some (k : Int)) = xs.take k := by
  unfold cutV
  rw [HT.sIx_none, HT.sIx_nat, Nat.min_eq_left h]
  simp
theorem cut_drop (xs : List V) (k : Nat) (h : k ≤ xs.length) : cutV xs (some (k : Int)) none = xs.drop k := by
  unfold cutV
  rw [HT.sIx_none, HT.sIx_nat, Nat.min_eq_left h, List.take_of_length_le (by rw [List.length_drop]; exact Nat.le_refl _)]
theorem row_up {ms : List Str} {e : Str → Bool} {m : Str} {t : Nat} {v : Bool} (nd : ms.Nodup) (h : ms[t]? = some m) : (ms.map e).take t ++ [v] ++ (ms.map e).drop (t + 1) = ms.map (DB.up e m v) := by
  have hl := (List.getElem?_eq_some_iff.mp h).1
  have e1 : ms = ms.take t ++ m :: ms.drop (t + 1) := by rw [← DB.drop_cons h, List.take_append_drop]
  have n1 : m ∉ ms.drop (t + 1) := DB.not_mem_rest nd h
  have n2 : m ∉ ms.take t := fun z => by
    have := nd
    rw [e1] at this
    exact (List.nodup_append.mp this).2.2 m z m List.mem_cons_self rfl
  conv => rhs; rw [e1]
  rw [List.map_append, List.map_cons, DB.up_same, DB.map_up_out n1, DB.map_up_out n2, List.map_take, List.map_drop]
  simp
theorem rowB_take (r : DB.Ro) (k : Nat) : (rowB r).take k = rowB (r.take k) := by unfold rowB; rw [List.map_take]
theorem rowB_drop (r : DB.Ro) (k : Nat) : (rowB r).drop k = rowB (r.drop k) := by unfold rowB; rw [List.map_drop]
theorem rowB_app (r s : DB.Ro) : rowB r ++ rowB s = rowB (r ++ s) := by unfold rowB; rw [List.map_append]
theorem rowB_len (r : DB.Ro) : (rowB r).length = r.length := by unfold rowB; rw [List.length_map]
theorem bI_mul (x y : Bool) : bI x * bI y = bI (x && y) := by cases x <;> cases y <;> rfl
theorem bI_max (x y : Bool) : (if bI y > bI x then bI y else bI x) = bI (x || y) := by cases x <;> cases y <;> rfl
theorem bI_min (x y : Bool) : (if bI y < bI x then bI y else bI x) = bI (x && y) := by cases x <;> cases y <;> rfl
theorem bI_not (x : Bool) : 1 - bI x = bI (!x) := by cases x <;> rfl
theorem bI_ne (x y : Bool) : (!decide (V.int (bI x) = V.int (bI y))) = xor x y := by cases x <;> cases y <;> rfl
theorem wOp_inj : ∀ {a b : DB.Op}, wOp a = wOp b → a = b := by
  intro a b
  cases a <;> cases b <;> decide +kernel
theorem merge4 (op : DB.Op) (f : DB.Op → V) : valV (mergeK [] [(.inr (wOp .and), f .and), (.inr (wOp .or), f .or), (.inr (wOp .either), f .either), (.inr (wOp .iff), f .iff)]) (.inr (wOp op)) = some (f op) := by
  have ne : ∀ {a b : DB.Op}, a ≠ b → ¬ (Sum.inr (wOp a) : Key) = Sum.inr (wOp b) := fun h z => h (wOp_inj (Sum.inr.inj z))
  show valV (putK (putK (putK (putK [] (Sum.inr (wOp .and) : Key) (f .and)) (Sum.inr (wOp .or)) (f .or)) (Sum.inr (wOp .either)) (f .either)) (Sum.inr (wOp .iff)) (f .iff)) (Sum.inr (wOp op)) = _
  rw [valV_put, valV_put, valV_put, valV_put]
  cases op
  · rw [if_neg (ne (by decide)), if_neg (ne (by decide)), if_neg (ne (by decide)), if_pos rfl]
  · rw [if_neg (ne (by decide)), if_neg (ne (by decide)), if_pos rfl]
  · rw [if_neg (ne (by decide)), if_pos rfl]
  · rw [if_pos rfl]
section
variable {P : Program} {w : World} {K : PySem.W.Frag} {mg : Str → Option Value} {base : Heap} {C : Addr}
theorem d_value1 (n : Nat) (T : Tx w K mg C) (A : Has K mg "_law_value" sf_law_value) (d__law_value : Df P w K mg base "_law_value" (n + 1) ["sentence", "order", "row"] (spValue K n)) : Df P w K mg base "_law_value" (n + 2) ["sentence", "order", "row"] (spValue K (n + 1)) := by
  refine Df.of A scf_law_value (fun vs H Q E h => ?_) (fun _ _ _ _ _ _ us hl => match us, hl with | [_, _, _], _ => rfl) (fun f cdv A outer s H vs Q E hr h => ?_)
  · obtain ⟨a, o, r, t, ms, e, rfl, _⟩ := h; rfl
  obtain ⟨a, o, r, t, ms, e, rfl, hs, hd, hal, ho, nd, few, hrw, k⟩ := h
  refine ⟨_, (pss_cons (ps_set (i := 3) scf_law_value.nd rfl (Or.inl rfl) (pe_ix ix_tup (pv 0) pe_int (fun _ _ => rfl)))
      (pss_cons (ps_if (pt_cmpR op_in_seq (pv 3) (pe_tup (pa_cons pe_str (pa_cons pe_str pa_nil))) (by rfl)) (pss_one (ps_ret (pe_callTy call_int1 (by rfl) T.int (by decide +kernel) (pa_cons (pe_cmpR op_eq (pv 3) pe_str (nomark _)) pa_nil)))) pss_nil)
      (pss_cons (ps_if (pt_cmpR op_eq (pv 3) pe_str (nomark _)) (pss_one (ps_ret (pe_ix ix_list (pv 2) (pe_bm PySem.F.plainAttrs_list PySem.F.slot_list_index PySem.F.type_list_index mt_index (pv 1) (pa_cons (pe_ix ix_tup (pv 0) pe_int (fun _ _ => rfl)) pa_nil)) (fun _ _ => rfl)))) pss_nil)
      (pss_cons (ps_if (pt_cmpR op_in_seq (pv 3) (pe_tup (pa_cons pe_str (pa_cons pe_str pa_nil))) (by rfl)) (pss_cons (ps_set (i := 4) scf_law_value.nd rfl (Or.inl rfl) (pe_bm PySem.F.plainAttrs_list PySem.F.slot_list_index PySem.F.type_list_index mt_index (pv 1) (pa_cons (pe_ix ix_tup (pv 0) pe_int (fun _ _ => rfl)) pa_nil)))
      (pss_cons (ps_set (i := 5) scf_law_value.nd rfl (Or.inl rfl) (pe_df d__law_value (hr.mono (by omega)) (pa_cons (pe_ix ix_tup (pv 0) pe_int (fun _ _ => rfl)) (pa_cons (pv 1) (pa_cons (pe_op op_cat (pe_op op_cat (pe_slice sl_list (pv 2) po_none (po_some (pv 4))) (pe_lst (pa_cons pe_int pa_nil))) (pe_slice sl_list (pv 2) (po_some (pe_op op_add (pv 4) pe_int)) po_none)) pa_nil)))))
      (pss_cons (ps_set (i := 6) scf_law_value.nd rfl (Or.inl rfl) (pe_df d__law_value (hr.mono (by omega)) (pa_cons (pe_ix ix_tup (pv 0) pe_int (fun _ _ => rfl)) (pa_cons (pv 1) (pa_cons (pe_op op_cat (pe_op op_cat (pe_slice sl_list (pv 2) po_none (po_some (pv 4))) (pe_lst (pa_cons pe_int pa_nil))) (pe_slice sl_list (pv 2) (po_some (pe_op op_add (pv 4) pe_int)) po_none)) pa_nil)))))
      (pss_one (ps_ret (pe_ifExp (pt_cmpR op_eq (pv 3) pe_str (nomark _)) (pe_callB (call_max2 rfl) (by rfl) T.max (by decide +kernel) (pa_cons (pv 5) (pa_cons (pv 6) pa_nil))) (pe_callB (call_min2 rfl) (by rfl) T.min (by decide +kernel) (pa_cons (pv 5) (pa_cons (pv 6) pa_nil))))))))) pss_nil)
      (pss_cons (ps_set (i := 7) scf_law_value.nd rfl (Or.inl rfl) (pe_df d__law_value (hr.mono (by omega)) (pa_cons (pe_ix ix_tup (pv 0) pe_int (fun _ _ => rfl)) (pa_cons (pv 1) (pa_cons (pv 2) pa_nil)))))
      (pss_cons (ps_if (pt_cmpR op_eq (pv 3) pe_str (nomark _)) (pss_one (ps_ret (pe_op op_sub pe_int (pv 7)))) pss_nil)
      (pss_cons (ps_set (i := 8) scf_law_value.nd rfl (Or.inl rfl) (pe_df d__law_value (hr.mono (by omega)) (pa_cons (pe_ix ix_tup (pv 0) pe_int (fun _ _ => rfl)) (pa_cons (pv 1) (pa_cons (pv 2) pa_nil)))))
      (pss_one (ps_ret (pe_dget (hu_of hr) (pe_disp (pps_cons pe_str (pe_op op_mul (pv 7) (pv 8)) (pps_cons pe_str (pe_callB (call_max2 rfl) (by rfl) T.max (by decide +kernel) (pa_cons (pv 7) (pa_cons (pv 8) pa_nil))) (pps_cons pe_str (pe_callTy call_int1 (by rfl) T.int (by decide +kernel) (pa_cons (pe_cmpR op_ne (pv 7) (pv 8) (nomark _)) pa_nil)) (pps_cons pe_str (pe_callB (call_max2 rfl) (by rfl) T.max (by decide +kernel) (pa_cons (pe_op op_sub pe_int (pv 7)) (pa_cons (pv 8) pa_nil))) pps_nil)))) (by rfl) (by rfl) (fun z => by cases z) (by decide)) (pv 3) (fun _ _ => rfl))))))))))), ?_⟩
  obtain ⟨xs, ht⟩ := hs.tup
  refine ⟨_, rfl, a, _, _, .str (wS (wk t)), rfl, rfl, SqT.of ht, at0 _ _, ?_⟩
  refine ⟨_, rfl, (by show 2 ≤ sizeLine; decide), fun u hu => ?_⟩
  have s1 := Same.new hu (.tup [.str "yes", .str "no"])
  have u1 : upd H u (.tup [.str "yes", .str "no"]) u = some (.tup [.str "yes", .str "no"]) := upd_same
  generalize upd H u (.tup [.str "yes", .str "no"]) = H1 at s1 u1 ⊢
  have h1 := hs.mono s1
  refine ⟨u, _, rfl, .inr (SqT.of u1), rfl, rfl, ?_⟩
  rw [if_neg Bool.false_ne_true, wk_tt]
  by_cases c0 : wk t = .yes ∨ wk t = .no
  · rw [decide_eq_true c0]
    obtain ⟨v, rfl, hv⟩ := tt_of c0
    refine ⟨_, rfl, iteT ⟨_, rfl, rfl, .inr ⟨_, rfl, ?_⟩⟩⟩
    rw [wk_yes, hv]
    have := k H1 s1
    cases v <;> exact this
  rw [decide_eq_false c0]
  refine ⟨_, rfl, iteF ?_⟩
  refine ⟨_, rfl, rfl, ?_⟩
  rw [wk_mark]
  by_cases c : wk t = .mark
  · rw [decide_eq_true c]
    obtain ⟨m, rfl⟩ := mark_of c
    have h2 : H1 a = some (.tup [.str "mark", .str m]) := h1
    have hm : m ∈ ms := of_decide_eq_true hal
    have hx : ms[ms.idxOf m]? = some m := by rw [List.getElem?_eq_getElem (List.idxOf_lt_length_of_mem hm), List.getElem_idxOf]
    refine ⟨_, rfl, iteT ⟨_, rfl, _, rfl, .inl ⟨rfl, _, s1.seq ho⟩, _, rfl, a, _, _, .str m, rfl, rfl, SqT.of h2, at1 _ _ _, ?_⟩⟩
    refine ⟨o, _, .str m, ms.idxOf m, .str m, rfl, rfl, s1.seq ho, rfl, flat_marks _, idx_marks hm, (by show (m == m) = true; simp), fun k z hk hz => idx_first k z hk hz, ?_⟩
    refine ⟨r, _, _, .int (bI (e m)), rfl, rfl, SqL.of (s1 _ _ hrw), atI_nat ?_, k H1 s1⟩
    unfold rowB
    rw [List.map_map, List.getElem?_map, hx]
    rfl
  rw [decide_eq_false c]
  refine ⟨_, rfl, iteF ?_⟩
  refine ⟨_, rfl, (by show 2 ≤ sizeLine; decide), fun u2 hu2 => ?_⟩
  have s2 := Same.new hu2 (.tup [.str "some", .str "each"])
  have u3 : upd H1 u2 (.tup [.str "some", .str "each"]) u2 = some (.tup [.str "some", .str "each"]) := upd_same
  generalize upd H1 u2 (.tup [.str "some", .str "each"]) = H2 at s2 u3 ⊢
  have h2 := h1.mono s2
  have s02 := s1.trans s2
  refine ⟨u2, _, rfl, .inr (SqT.of u3), rfl, rfl, ?_⟩
  rw [if_neg Bool.false_ne_true, wk_qu]
  by_cases d : wk t = .some ∨ wk t = .each
  · rw [decide_eq_true d]
    obtain ⟨v, m, t, rfl⟩ := qu_of d
    obtain ⟨a1, h3, h4⟩ := h2
    simp only [DB.Sn.all, Bool.and_eq_true] at hal
    have hm : m ∈ ms := of_decide_eq_true hal.1
    have hdk := kid_dep (s := .qu v m t) List.mem_cons_self
    have hx : ms[ms.idxOf m]? = some m := by rw [List.getElem?_eq_getElem (List.idxOf_lt_length_of_mem hm), List.getElem_idxOf]
    have hil := List.idxOf_lt_length_of_mem hm
    refine ⟨_, rfl, iteT ⟨_, rfl, .inl ⟨rfl, _, s02.seq ho⟩, _, rfl, a, _, _, .str m, rfl, rfl, SqT.of h3, at1 _ _ _, ?_⟩⟩
    refine ⟨o, _, .str m, ms.idxOf m, .str m, rfl, rfl, s02.seq ho, rfl, flat_marks _, idx_marks hm, (by show (m == m) = true; simp), fun k z hk hz => idx_first k z hk hz, ?_⟩
    have ctake : cutV (rowB (ms.map e)) none (some ((ms.idxOf m : Nat) : Int)) = rowB ((ms.map e).take (ms.idxOf m)) := by rw [cut_take _ _ (by rw [rowB_len, List.length_map]; omega), rowB_take]
    have cdrop : cutV (rowB (ms.map e)) (some (((ms.idxOf m : Nat) : Int) + 1)) none = rowB ((ms.map e).drop (ms.idxOf m + 1)) := by
      rw [← rowB_drop]
      exact cut_drop _ (ms.idxOf m + 1) (by rw [rowB_len, List.length_map]; omega)
    have r2 := s02 _ _ hrw
    have bound : ∀ {r : DB.Ro}, r.length ≤ 8 → (rowB r).length ≤ 8 := fun h => by rw [rowB_len]; exact h
    have same0 : Same H2 H2 := Same.refl _
    refine ⟨_, rfl, a, _, _, .ref a1, rfl, rfl, SqT.of (same0 _ _ h3), at2 _ _ _ _, _, rfl, _, rfl, _, rfl, _, rfl, r, _, rfl, SqL.of (same0 _ _ r2), fun x1 hx1 => ?_⟩
    rw [ctake]
    have sx1 := Same.new hx1 (.lst (rowB ((ms.map e).take (ms.idxOf m))))
    have ex1 : upd H2 x1 (.lst (rowB ((ms.map e).take (ms.idxOf m)))) x1 = some (.lst (rowB ((ms.map e).take (ms.idxOf m)))) := upd_same
    generalize upd H2 x1 (.lst (rowB ((ms.map e).take (ms.idxOf m)))) = xH1 at sx1 ex1 ⊢
    refine ⟨(by show 1 ≤ sizeLine; decide), fun x2 hx2 => ?_⟩
    have sx2 := Same.new hx2 (.lst [.int 0])
    have ex2 : upd xH1 x2 (.lst [.int 0]) x2 = some (.lst [.int 0]) := upd_same
    generalize upd xH1 x2 (.lst [.int 0]) = xH2 at sx2 ex2 ⊢
    refine ⟨x1, x2, _, _, rfl, rfl, sx2 _ _ ex1, ex2, (by
      rw [rowB_len, List.length_take]
      exact Nat.le_of_lt (small1000 (by show _ + 1 ≤ 1000; omega))), fun x3 hx3 => ?_⟩
    rw [show rowB ((ms.map e).take (ms.idxOf m)) ++ [V.int 0] = rowB ((ms.map e).take (ms.idxOf m) ++ [false]) from rowB_snoc _ false]
    have sx3 := Same.new hx3 (.lst (rowB ((ms.map e).take (ms.idxOf m) ++ [false])))
    have ex3 : upd xH2 x3 (.lst (rowB ((ms.map e).take (ms.idxOf m) ++ [false]))) x3 = some (.lst (rowB ((ms.map e).take (ms.idxOf m) ++ [false]))) := upd_same
    generalize upd xH2 x3 (.lst (rowB ((ms.map e).take (ms.idxOf m) ++ [false]))) = xH3 at sx3 ex3 ⊢
    have sx13 := sx1.trans (sx2.trans sx3)
    refine ⟨_, rfl, _, rfl, _, _, rfl, rfl, _, rfl, r, _, rfl, SqL.of (sx13 _ _ (same0 _ _ r2)), fun x4 hx4 => ?_⟩
    rw [cdrop]
    have sx4 := Same.new hx4 (.lst (rowB ((ms.map e).drop (ms.idxOf m + 1))))
    have ex4 : upd xH3 x4 (.lst (rowB ((ms.map e).drop (ms.idxOf m + 1)))) x4 = some (.lst (rowB ((ms.map e).drop (ms.idxOf m + 1)))) := upd_same
    generalize upd xH3 x4 (.lst (rowB ((ms.map e).drop (ms.idxOf m + 1)))) = xH4 at sx4 ex4 ⊢
    refine ⟨x3, x4, _, _, rfl, rfl, sx4 _ _ ex3, ex4, (by
      rw [rowB_len, rowB_len, List.length_append, List.length_take, List.length_drop, List.length_map]
      exact Nat.le_of_lt (small1000 (by simp; omega))), fun x5 hx5 => ?_⟩
    rw [rowB_app, row_up nd hx]
    have sx5 := Same.new hx5 (.lst (rowB (ms.map (DB.up e m false))))
    have ex5 : upd xH4 x5 (.lst (rowB (ms.map (DB.up e m false)))) x5 = some (.lst (rowB (ms.map (DB.up e m false)))) := upd_same
    generalize upd xH4 x5 (.lst (rowB (ms.map (DB.up e m false)))) = xH5 at sx5 ex5 ⊢
    have sx := sx13.trans (sx4.trans sx5)
    refine ⟨a1, o, x5, t, ms, DB.up e m false, rfl, h4.mono sx, by omega, hal.2, (s02.trans sx).seq ho, nd, few, ex5, fun xH6 sx6 => ?_⟩
    have sx0 : Same H2 xH6 := sx.trans sx6
    refine ⟨_, rfl, a, _, _, .ref a1, rfl, rfl, SqT.of (sx0 _ _ h3), at2 _ _ _ _, _, rfl, _, rfl, _, rfl, _, rfl, r, _, rfl, SqL.of (sx0 _ _ r2), fun y1 hy1 => ?_⟩
    rw [ctake]
    have sy1 := Same.new hy1 (.lst (rowB ((ms.map e).take (ms.idxOf m))))
    have ey1 : upd xH6 y1 (.lst (rowB ((ms.map e).take (ms.idxOf m)))) y1 = some (.lst (rowB ((ms.map e).take (ms.idxOf m)))) := upd_same
    generalize upd xH6 y1 (.lst (rowB ((ms.map e).take (ms.idxOf m)))) = yH1 at sy1 ey1 ⊢
    refine ⟨(by show 1 ≤ sizeLine; decide), fun y2 hy2 => ?_⟩
    have sy2 := Same.new hy2 (.lst [.int 1])
    have ey2 : upd yH1 y2 (.lst [.int 1]) y2 = some (.lst [.int 1]) := upd_same
    generalize upd yH1 y2 (.lst [.int 1]) = yH2 at sy2 ey2 ⊢
    refine ⟨y1, y2, _, _, rfl, rfl, sy2 _ _ ey1, ey2, (by
      rw [rowB_len, List.length_take]
      exact Nat.le_of_lt (small1000 (by show _ + 1 ≤ 1000; omega))), fun y3 hy3 => ?_⟩
    rw [show rowB ((ms.map e).take (ms.idxOf m)) ++ [V.int 1] = rowB ((ms.map e).take (ms.idxOf m) ++ [true]) from rowB_snoc _ true]
    have sy3 := Same.new hy3 (.lst (rowB ((ms.map e).take (ms.idxOf m) ++ [true])))
    have ey3 : upd yH2 y3 (.lst (rowB ((ms.map e).take (ms.idxOf m) ++ [true]))) y3 = some (.lst (rowB ((ms.map e).take (ms.idxOf m) ++ [true]))) := upd_same
    generalize upd yH2 y3 (.lst (rowB ((ms.map e).take (ms.idxOf m) ++ [true]))) = yH3 at sy3 ey3 ⊢
    have sy13 := sy1.trans (sy2.trans sy3)
    refine ⟨_, rfl, _, rfl, _, _, rfl, rfl, _, rfl, r, _, rfl, SqL.of (sy13 _ _ (sx0 _ _ r2)), fun y4 hy4 => ?_⟩
    rw [cdrop]
    have sy4 := Same.new hy4 (.lst (rowB ((ms.map e).drop (ms.idxOf m + 1))))
    have ey4 : upd yH3 y4 (.lst (rowB ((ms.map e).drop (ms.idxOf m + 1)))) y4 = some (.lst (rowB ((ms.map e).drop (ms.idxOf m + 1)))) := upd_same
    generalize upd yH3 y4 (.lst (rowB ((ms.map e).drop (ms.idxOf m + 1)))) = yH4 at sy4 ey4 ⊢
    refine ⟨y3, y4, _, _, rfl, rfl, sy4 _ _ ey3, ey4, (by
      rw [rowB_len, rowB_len, List.length_append, List.length_take, List.length_drop, List.length_map]
      exact Nat.le_of_lt (small1000 (by simp; omega))), fun y5 hy5 => ?_⟩
    rw [rowB_app, row_up nd hx]
    have sy5 := Same.new hy5 (.lst (rowB (ms.map (DB.up e m true))))
    have ey5 : upd yH4 y5 (.lst (rowB (ms.map (DB.up e m true)))) y5 = some (.lst (rowB (ms.map (DB.up e m true)))) := upd_same
    generalize upd yH4 y5 (.lst (rowB (ms.map (DB.up e m true)))) = yH5 at sy5 ey5 ⊢
    have sy := sy13.trans (sy4.trans sy5)
    refine ⟨a1, o, y5, t, ms, DB.up e m true, rfl, h4.mono (sx0.trans sy), by omega, hal.2, (s02.trans (sx0.trans sy)).seq ho, nd, few, ey5, fun yH6 sy6 => ?_⟩
    have sy0 : Same H2 yH6 := sx0.trans (sy.trans sy6)
    refine ⟨_, rfl, rfl, ?_⟩
    rw [wk_some, show decide (wk (.qu v m t) = .some) = v from by cases v <;> rfl]
    have fin := k yH6 (s02.trans sy0)
    cases v with
    | true =>
      refine ⟨true, rfl, iteT ⟨_, rfl, _, rfl, _, _, rfl, ?_⟩⟩
      rw [bI_max]
      exact fin
    | false =>
      refine ⟨false, rfl, iteF ⟨_, rfl, _, rfl, _, _, rfl, ?_⟩⟩
      rw [bI_min]
      exact fin
  rw [decide_eq_false d]
  refine ⟨_, rfl, iteF ?_⟩
  have ho2 := s02.seq ho
  have r2 := s02 _ _ hrw
  cases t with
  | mk m => exact absurd rfl c
  | qu v m t => exact absurd (by cases v <;> simp [wk]) d
  | tt v => exact absurd (by cases v <;> simp [wk]) c0
  | no t =>
    obtain ⟨a1, h3, h4⟩ := h2
    have hdk := kid_dep (s := .no t) List.mem_cons_self
    refine ⟨_, rfl, a, _, _, .ref a1, rfl, rfl, SqT.of h3, at1 _ _ _, _, rfl, _, rfl, a1, o, r, t, ms, e, rfl, h4, by omega, hal, ho2, nd, few, r2, fun H3 s3 => ?_⟩
    refine ⟨_, rfl, rfl, ?_⟩
    rw [show decide (V.str (wS (wk (.no t))) = V.str "not") = true from decide_eq_true rfl]
    refine ⟨_, rfl, iteT ⟨_, rfl, _, _, rfl, rfl, ?_⟩⟩
    show Q (.int (1 - bI (DB.sv t e))) H3
    rw [bI_not]
    exact k H3 (s02.trans s3)
  | bin op t1 t2 =>
    obtain ⟨a1, a2, h3, h4, h5⟩ := h2
    have hd1 := kid_dep (s := .bin op t1 t2) (t := t1) List.mem_cons_self
    have hd2 := kid_dep (s := .bin op t1 t2) (t := t2) (List.mem_cons_of_mem _ List.mem_cons_self)
    simp only [DB.Sn.all, Bool.and_eq_true] at hal
    refine ⟨_, rfl, a, _, _, .ref a1, rfl, rfl, SqT.of h3, at1 _ _ _, _, rfl, _, rfl, a1, o, r, t1, ms, e, rfl, h4, by omega, hal.1, ho2, nd, few, r2, fun H3 s3 => ?_⟩
    refine ⟨_, rfl, rfl, ?_⟩
    rw [wk_not, show decide (wk (.bin op t1 t2) = .not) = false from by cases op <;> rfl]
    refine ⟨_, rfl, iteF ?_⟩
    refine ⟨_, rfl, a, _, _, .ref a2, rfl, rfl, SqT.of (s3 _ _ h3), at2 _ _ _ _, _, rfl, _, rfl, a2, o, r, t2, ms, e, rfl, h5.mono s3, by omega, hal.2, s3.seq ho2, nd, few, s3 _ _ r2, fun H4 s4 => ?_⟩
    have s24 := s3.trans s4
    have k : ∀ H', Same H H' → Q (.int (bI (op.fn (DB.sv t1 e) (DB.sv t2 e)))) H' := k
    generalize DB.sv t1 e = x1 at k ⊢
    generalize DB.sv t2 e = x2 at k ⊢
    refine fun p hp => ⟨_, rfl, _, rfl, _, _, rfl, rfl, .inl (by cases x1 <;> exact ⟨by decide, by decide⟩), _, rfl, _, rfl, _, _, rfl, _, rfl, _, rfl, rfl, .inr ⟨_, rfl, _, rfl, _, _, rfl, rfl, _, rfl, _, _, rfl, upd_same, [(.inr (wOp .and), .int (bI (DB.Op.fn .and x1 x2))), (.inr (wOp .or), .int (bI (DB.Op.fn .or x1 x2))), (.inr (wOp .either), .int (bI (DB.Op.fn .either x1 x2))), (.inr (wOp .iff), .int (bI (DB.Op.fn .iff x1 x2)))], (by cases x1 <;> cases x2 <;> rfl), (by show 4 ≤ 15; decide), ?_⟩⟩
    have e4 := merge4 op fun o => V.int (bI (o.fn x1 x2))
    have s5 := Same.new hp (.dK [])
    have ew : V.str (wS (wk (.bin op t1 t2))) = kV (.inr (wOp op)) := by cases op <;> rfl
    refine ⟨_, rfl, p, _, rfl, (by rw [ew, ← e4]; exact DGet.k upd_same), k _ (s02.trans (s24.trans fun b o hb => ?_))⟩
    rw [upd_ne (ne_of_none hb hp)]
    exact s5 b o hb
theorem d_values (T : Tx w K mg C) (A : Has K mg "_law_value" sf_law_value) : ∀ n, Df P w K mg base "_law_value" (n + 1) ["sentence", "order", "row"] (spValue K n)
  | 0 => (Df.never A (fun _ _ _ _ _ _ us hl => match us, hl with | [_, _, _], _ => rfl) (fun vs H Q E ⟨a, o, r, t, ms, e, _, _, h, _⟩ => by have := dep_pos t; omega)).mono (Nat.zero_le _)
  | n + 1 => d_value1 n T A (d_values T A n)
end
end DW


set_option maxHeartbeats 4000000
/-! The law's own defs: a row of both, the graph, the places. -/
namespace DW
open PySem PySem.Spec PyProof.Rows L2
theorem scf_law_pair : FnScope ["order", "row", "other", "marks", "values", "k", "mark"] ["order", "row", "other"] (defScope sf_law_pair) := ⟨rfl, rfl, rfl, by decide +kernel, rfl, by decide +kernel, by decide +kernel⟩
theorem scf_law_graph : FnScope ["sentence", "order", "rows", "found", "row", "here", "k"] ["sentence", "order"] (defScope sf_law_graph) := ⟨rfl, rfl, rfl, by decide +kernel, rfl, by decide +kernel, by decide +kernel⟩
theorem scf_law_places : FnScope ["sentence", "order", "rows", "row", "k"] ["sentence", "order"] (defScope sf_law_places) := ⟨rfl, rfl, rfl, by decide +kernel, rfl, by decide +kernel, by decide +kernel⟩
def spPair (K : PySem.W.Frag) : Sp := fun vs H Q _ => ∃ (o a b : Addr) (ms : List Str) (x y : DB.Ro), vs = [.ref o, .ref a, .ref b] ∧ SqL K H o (ms.map V.str) ∧ WdS ms ∧ H a = some (.lst (rowB x)) ∧ H b = some (.lst (rowB y)) ∧ x.length = (nowL ms).length ∧ y.length = (nowL ms).length ∧
  ∀ (p : Addr) (H' : Hp), Same H H' → H p = none → H' p = some (.lst (rowB (ms.map (DB.pe (nowL ms) (thnL ms) x y)))) → Q (.ref p) H'
theorem WdS.few {ms : List Str} (W : WdS ms) : ms.length ≤ 8 := nd_len (l' := [0, 1, 2, 3, 4, 5, 6, 7].map mS) W.nd fun m hm => by
  obtain ⟨i, hi, rfl⟩ := W.sg m hm
  refine List.mem_map_of_mem ?_
  simp only [List.mem_cons, List.not_mem_nil, or_false]
  omega
theorem val_out : ∀ {ks : List Key} {vs : List V} {kvs : List (Key × V)} {k : Key}, k ∉ ks → valV (mergeK kvs (ks.zip vs)) k = valV kvs k
  | [], vs, kvs, k, _ => by rw [List.zip_nil_left]; rfl
  | a :: ks, [], kvs, k, _ => rfl
  | a :: ks, v :: vs, kvs, k, h => by
    have := val_out (ks := ks) (vs := vs) (kvs := putK kvs a v) (k := k) fun z => h (List.mem_cons_of_mem _ z)
    show valV (mergeK (putK kvs a v) (ks.zip vs)) k = _
    have na : ¬ k = a := fun z => h (by rw [z]; exact List.mem_cons_self)
    rw [this, valV_put, if_neg na]
theorem val_in : ∀ {ks : List Key} {vs : List V} {kvs : List (Key × V)} {i : Nat} {k : Key} {v : V}, ks.Nodup → ks[i]? = some k → vs[i]? = some v → valV (mergeK kvs (ks.zip vs)) k = some v
  | [], vs, kvs, i, k, v, _, h, _ => by simp at h
  | a :: ks, [], kvs, i, k, v, _, _, h => by simp at h
  | a :: ks, w :: vs, kvs, 0, k, v, nd, h1, h2 => by
    have e1 : a = k := by simpa using h1
    have e2 : w = v := by simpa using h2
    subst e1 e2
    show valV (mergeK (putK kvs a w) (ks.zip vs)) a = _
    rw [val_out (List.nodup_cons.mp nd).1, valV_put, if_pos rfl]
  | a :: ks, w :: vs, kvs, i + 1, k, v, nd, h1, h2 => val_in (kvs := putK kvs a w) (List.nodup_cons.mp nd).2 h1 h2
theorem rowB_at {r : DB.Ro} {i : Nat} {v : Bool} (h : r[i]? = some v) : (rowB r)[i]? = some (.int (bI v)) := by unfold rowB; rw [List.getElem?_map, h]; rfl
theorem inr_nd {ms : List Str} (nd : ms.Nodup) : (ms.map fun m => (Sum.inr m : Key)).Nodup := List.pairwise_map.mpr (nd.imp fun h e => h (Sum.inr.inj e))
section
variable {P : Program} {w : World} {K : PySem.W.Frag} {mg : Str → Option Value} {base : Heap} {C : Addr}
theorem d_pair (T : Tx w K mg C) (A : Has K mg "_law_pair" sf_law_pair) (d__law_now : Df P w K mg base "_law_now" 1 ["order"] (spLNow K)) : Df P w K mg base "_law_pair" 2 ["order", "row", "other"] (spPair K) := by
  refine Df.of A scf_law_pair (fun vs H Q E h => ?_) (fun _ _ _ _ _ _ us hl => match us, hl with | [_, _, _], _ => rfl) (fun f cdv A outer s H vs Q E hr h => ?_)
  · obtain ⟨o, a, b, ms, x, y, rfl, _⟩ := h; rfl
  obtain ⟨o, a, b, ms, x, y, rfl, ho, W, ha, hb, lx, ly, k⟩ := h
  refine ⟨_, (pss_cons (ps_set (i := 3) scf_law_pair.nd rfl (Or.inl rfl) (pe_df d__law_now (hr.mono (by omega)) (pa_cons (pv 0) pa_nil)))
      (pss_cons (ps_set (i := 4) scf_law_pair.nd rfl (Or.inr rfl) (pe_dictZip rfl (by rfl) T.dict (by rfl) T.zip (pv 3) (pv 1)))
      (pss_cons (ps_for PassesOwn.never rfl (pi_range1 (by rfl) T.range (pa_cons (pe_callB call_len_seq (by rfl) T.len (by decide +kernel) (pa_cons (pv 3) pa_nil)) pa_nil)) (pg_name (i := 5) scf_law_pair.nd rfl (Or.inl rfl)) (pss_one (ps_dput (hu_of hr) (pv 4) (pe_ix ix_str pe_str (pe_bm PySem.F.plainAttrs_str PySem.F.slot_str_index PySem.F.type_str_index mt_sindex pe_str (pa_cons (pe_ix ix_list (pv 3) (pv 5) (fun _ _ => rfl)) pa_nil)) (fun _ _ => rfl)) (pe_ix ix_list (pv 2) (pv 5) (fun _ _ => rfl)) rfl)))
      (pss_one (ps_ret (pe_lc (own := [("mark", 6)]) (g := gName 6) (tt := tYes) rfl scf_law_pair.nd (pi_list (pv 0)) (blkOk_by (own := [("mark", 6)]) (N := ["order", "row", "other", "marks", "values", "k", "mark"]) (sc := defScope sf_law_pair) (by decide +kernel)) (fun _ _ _ _ _ => pg_name (i := 6) scf_law_pair.nd rfl (Or.inl rfl)) (fun _ _ _ _ _ => pts_nil) (fun _ _ _ _ _ => (pe_dget (hu_of hr) (pv 4) (pv 6) (fun _ _ => rfl))))))))), ?_⟩
  have D := W.wd
  have few := nowL_few ms
  refine ⟨_, rfl, o, ms, rfl, ho, fun p H1 s1 hp p1 => ?_⟩
  refine ⟨_, rfl, _, rfl, p, a, (nowL ms).map Sum.inr, rowB x, rfl, ?_, SqL.of (s1 _ _ ha), by rw [List.length_map, rowB_len, lx], fun d hd => ?_⟩
  · rw [List.map_map]; exact SqL.of p1
  have ndK := inr_nd D.nn
  have v0 : ∀ (i : Nat) (m : Str) (v : Bool), (nowL ms)[i]? = some m → x[i]? = some v → valV (mergeK [] (((nowL ms).map Sum.inr).zip (rowB x))) (.inr m) = some (.int (bI v)) := fun i m v h1 h2 => val_in ndK (by rw [List.getElem?_map, h1]; rfl) (rowB_at h2)
  have l0 : (mergeK [] (((nowL ms).map (Sum.inr : Str → Key)).zip (rowB x))).length ≤ 4 := by
    refine Nat.le_trans (length_mergeK _ _) ?_
    rw [List.length_nil, List.length_zip, List.length_map]
    omega
  have s2 := Same.new hd (.dK (mergeK [] (((nowL ms).map Sum.inr).zip (rowB x))))
  have d2 : upd H1 d (.dK (mergeK [] (((nowL ms).map Sum.inr).zip (rowB x)))) d = some (.dK (mergeK [] (((nowL ms).map Sum.inr).zip (rowB x)))) := upd_same
  generalize upd H1 d (.dK (mergeK [] (((nowL ms).map Sum.inr).zip (rowB x)))) = H2 at s2 d2 ⊢
  generalize mergeK [] (((nowL ms).map Sum.inr).zip (rowB x)) = kv0 at v0 l0 d2
  have dH : H d = none := Same.nw s1 hd
  have pd : p ≠ d := fun z => by rw [z] at p1; rw [p1] at hd; cases hd
  have s02 := s1.trans s2
  refine ⟨_, rfl, p, _, rfl, .inl (SqL.of (s2 _ _ p1)), _, rfl, by omega, by rw [List.length_map]; omega, ?_⟩
  rw [List.length_map, Int.toNat_natCast]
  refine for_range (fun i σ H' => ∃ (kvs : List (Key × V)) (v1 v2 : Option V), σ = [some (.ref o), some (.ref a), some (.ref b), some (.ref p), some (.ref d), v1, v2] ∧ Same H H' ∧ H' p = some (.lst ((nowL ms).map V.str)) ∧ H' d = some (.dK kvs) ∧ kvs.length ≤ 4 + i ∧
    (∀ (j : Nat) (m : Str) (v : Bool), (nowL ms)[j]? = some m → x[j]? = some v → valV kvs (.inr m) = some (.int (bI v))) ∧ ∀ (j : Nat) (m : Str) (v : Bool), j < i → (thnL ms)[j]? = some m → y[j]? = some v → valV kvs (.inr m) = some (.int (bI v)))
    ⟨kv0, none, none, rfl, s02, s2 _ _ p1, d2, l0, v0, fun j m v h => absurd h (Nat.not_lt_zero _)⟩ ?_ ?_
  · rintro i σ H3 hi ⟨kvs, v1, v2, rfl, s3, p3, d3, l3, a3, b3⟩
    rw [Int.zero_add]
    obtain ⟨m, hm⟩ : ∃ m, (nowL ms)[i]? = some m := ⟨(nowL ms)[i], List.getElem?_eq_getElem hi⟩
    obtain ⟨j, hj, rfl, _⟩ := mem_nowL.mp (List.mem_of_getElem? hm)
    obtain ⟨yv, hyv⟩ : ∃ v, y[i]? = some v := ⟨y[i]'(by omega), List.getElem?_eq_getElem (by omega)⟩
    have ht : (thnL ms)[i]? = some (mS (j + 4)) := by rw [← thn_mk]; exact thnL_at hm
    refine ⟨_, rfl, _, rfl, b, _, _, .int (bI yv), rfl, rfl, SqL.of (s3 _ _ hb), atI_nat (rowB_at hyv), ?_⟩
    refine ⟨_, rfl, rfl, _, rfl, _, rfl, p, _, _, .str (mS j), rfl, rfl, SqL.of p3, atI_nat (by rw [List.getElem?_map, hm]; rfl), _, _, j, [], rfl, rfl, now_occ ⟨j, hj⟩, _, _, _, rfl, rfl, efgh_len, thn_at ⟨j, hj⟩, ?_⟩
    refine ⟨d, _, rfl, DPut.k (k := .inr (mS (j + 4))) d3 (small1000 (by omega)), putK kvs (.inr (mS (j + 4))) (.int (bI yv)), _, _, rfl, fun c o hc => ?_, by rw [upd_ne pd]; exact p3, upd_same, ?_, fun j' m' v' h1 h2 => ?_, fun j' m' v' hl h1 h2 => ?_⟩
    · rw [upd_ne (ne_of_none hc dH)]; exact s3 c o hc
    · have := length_putK kvs (.inr (mS (j + 4))) (.int (bI yv)); omega
    · rw [valV_put, if_neg]
      · exact a3 j' m' v' h1 h2
      · intro z
        have := Sum.inr.inj z
        exact D.ap m' (List.mem_of_getElem? h1) (this ▸ List.mem_of_getElem? ht)
    · rw [valV_put]
      by_cases c : j' = i
      · subst c
        rw [ht] at h1
        rw [hyv] at h2
        rw [if_pos (by rw [Option.some.inj h1]), Option.some.inj h2]
      · rw [if_neg, b3 j' m' v' (by omega) h1 h2]
        intro z
        have z := Sum.inr.inj z
        have l1 := (List.getElem?_eq_some_iff.mp h1)
        have l2 := (List.getElem?_eq_some_iff.mp ht)
        obtain ⟨q1, e1⟩ := l1
        obtain ⟨q2, e2⟩ := l2
        have i1 := List.Nodup.idxOf_getElem D.nt j' q1
        have i2 := List.Nodup.idxOf_getElem D.nt i q2
        rw [e1, z] at i1
        rw [e2] at i2
        exact c (i1.symm.trans i2)
  · rintro σ H3 ⟨kvs, v1, v2, rfl, s3, p3, d3, l3, a3, b3⟩
    refine ⟨_, rfl, o, rfl, ⟨_, s3.seq ho⟩, fun q hq => ?_⟩
    refine lc_list (K := K) (a := o) (xs := ms.map V.str) (fun i H' => Same H3 H' ∧ H' q = some (.lst (rowB ((ms.take i).map (DB.pe (nowL ms) (thnL ms) x y))))) ⟨Same.new hq _, upd_same⟩ (fun i H' _ h => (s3.trans h.1).seq ho) ?_ ?_
    · rintro i z H4 hz ⟨s4, q4⟩
      rw [List.getElem?_map] at hz
      obtain ⟨m, hm, rfl⟩ := Option.map_eq_some_iff.mp hz
      have val : valV kvs (.inr m) = some (.int (bI (DB.pe (nowL ms) (thnL ms) x y m))) := by
        have hmm := List.mem_of_getElem? hm
        unfold DB.pe
        by_cases c : m ∈ nowL ms
        · rw [if_pos c]
          have l := List.idxOf_lt_length_of_mem c
          have hx : x[(nowL ms).idxOf m]? = some (x.getD ((nowL ms).idxOf m) false) := by
            rw [List.getD_eq_getElem?_getD, List.getElem?_eq_getElem (by omega)]; rfl
          exact a3 _ m _ (by rw [List.getElem?_eq_getElem l, List.getElem_idxOf]) hx
        · rw [if_neg c]
          have ct := ((D.mem m).mp hmm).resolve_left c
          have l := List.idxOf_lt_length_of_mem ct
          have lt := D.len
          have hx : y[(thnL ms).idxOf m]? = some (y.getD ((thnL ms).idxOf m) false) := by
            rw [List.getD_eq_getElem?_getD, List.getElem?_eq_getElem (by omega)]; rfl
          exact b3 _ m _ (by omega) (by rw [List.getElem?_eq_getElem l, List.getElem_idxOf]) hx
      refine ⟨rfl, tYif ⟨_, rfl, _, rfl, d, _, rfl, (by rw [← val]; exact DGet.k (k := .inr m) (s4 _ _ d3)), _, q4, ?_, fun c o hc => ?_, ?_⟩⟩
      · rw [rowB_len, List.length_map]
        have := W.few
        have h2 : (ms.take i).length ≤ ms.length := List.length_take_le' _ _
        exact small1000 (by omega)
      · rw [upd_ne (ne_of_none hc hq)]; exact s4 _ _ hc
      · rw [upd_same, rowB_snoc, List.take_add_one, hm, List.map_append]; rfl
    · rintro H4 ⟨s4, q4⟩
      rw [List.length_map, List.take_length] at q4
      exact k q H4 (s3.trans s4) (Same.nw s3 hq) q4
end
/-! the graph, the places -/
def E2 (ms : List Str) (s : Sn) : DB.Ro → DB.Ro → Bool := fun x y => DB.sv s (DB.pe (nowL ms) (thnL ms) x y)
def grOf (m : Nat) (E : DB.Ro → DB.Ro → Bool) : List (List Nat) := (DB.allR m).map fun x => (List.range (DB.allR m).length).filter fun j => E x ((DB.allR m).getD j [])
def plOf (m : Nat) (S : DB.Ro → Bool) : List Nat := (List.range (DB.allR m).length).filter fun j => S ((DB.allR m).getD j [])
theorem getD_lt {α : Type} {l : List α} {i : Nat} {d : α} (h : i < l.length) : l.getD i d = l[i] := by rw [List.getD_eq_getElem?_getD, List.getElem?_eq_getElem h]; rfl
theorem looks_of (m : Nat) (E : DB.Ro → DB.Ro → Bool) : DB.Looks m E (grOf m E) := by
  refine ⟨by unfold grOf; rw [List.length_map, DB.len_allR], fun i j hi => ?_⟩
  rw [← DB.len_allR m] at hi
  have e : (grOf m E).getD i [] = (List.range (DB.allR m).length).filter fun j => E (DB.allR m)[i] ((DB.allR m).getD j []) := by
    unfold grOf
    rw [getD_lt (by rw [List.length_map]; exact hi), List.getElem_map]
  rw [e, List.mem_filter, List.mem_range]
  constructor
  · rintro ⟨h1, h2⟩
    rw [getD_lt h1] at h2
    exact ⟨⟨hi, h1⟩, h2⟩
  · rintro ⟨⟨_, h1⟩, h2⟩
    exact ⟨h1, by rw [getD_lt h1]; exact h2⟩
theorem sees_of (m : Nat) (S : DB.Ro → Bool) : DB.Sees m S (plOf m S) := by
  refine ⟨fun j => ?_⟩
  unfold plOf
  rw [List.mem_filter, List.mem_range]
  constructor
  · rintro ⟨h1, h2⟩
    rw [getD_lt h1] at h2
    exact ⟨h1, h2⟩
  · rintro ⟨h1, h2⟩
    exact ⟨h1, by rw [getD_lt h1]; exact h2⟩
/-- at p a list of lists of numbers, all new behind H0 -/
structure LN (H0 H : Hp) (p : Addr) (as : List Addr) (ws : List (List Nat)) : Prop where
  at_ : H p = some (.lst (as.map V.ref))
  len : as.length = ws.length
  row : ∀ (i : Nat) (a : Addr) (r : List Nat), as[i]? = some a → ws[i]? = some r → H a = some (.lst (nats_ r))
  newp : H0 p = none
  new : ∀ a ∈ as, H0 a = none
  out : p ∉ as
theorem LN.same {H0 H H' : Hp} {p : Addr} {as : List Addr} {ws : List (List Nat)} (L : LN H0 H p as ws) (s : Same H H') : LN H0 H' p as ws :=
  ⟨s _ _ L.at_, L.len, fun i a r h1 h2 => s _ _ (L.row i a r h1 h2), L.newp, L.new, L.out⟩
theorem LN.old {H0 H1 H : Hp} {p : Addr} {as : List Addr} {ws : List (List Nat)} (L : LN H1 H p as ws) (s : Same H0 H1) : LN H0 H p as ws :=
  ⟨L.at_, L.len, L.row, Same.nw s L.newp, fun a h => Same.nw s (L.new a h), L.out⟩
theorem LN.nil {H : Hp} {q : Addr} (h : H q = none) : LN H (upd H q (.lst [])) q [] [] := ⟨upd_same, rfl, fun i a r h1 _ => by simp at h1, h, fun a h => (nomatch h), fun h => (nomatch h)⟩
theorem LN.snoc {H0 H : Hp} {p a : Addr} {as : List Addr} {ws : List (List Nat)} {r : List Nat} (L : LN H0 H p as ws) (ha : H a = some (.lst (nats_ r))) (n0 : H0 a = none) (ne : a ≠ p) : LN H0 (upd H p (.lst (as.map V.ref ++ [.ref a]))) p (as ++ [a]) (ws ++ [r]) := by
  refine ⟨by rw [upd_same, List.map_append]; rfl, by simp [L.len], fun i x r' h1 h2 => ?_, L.newp, fun x hx => ?_, fun z => ?_⟩
  · have nx : x ≠ p := fun z => by
      rcases List.mem_append.mp (List.mem_of_getElem? h1) with h | h
      · exact L.out (z ▸ h)
      · exact ne (List.mem_singleton.mp h ▸ z)
    rw [upd_ne nx]
    by_cases c : i < as.length
    · rw [List.getElem?_append_left c] at h1
      rw [List.getElem?_append_left (by rw [← L.len]; exact c)] at h2
      exact L.row i x r' h1 h2
    · rw [List.getElem?_append_right (by omega)] at h1
      rw [List.getElem?_append_right (by rw [← L.len]; omega)] at h2
      rw [← L.len] at h2
      cases kk : i - as.length with
      | succ k' => rw [kk] at h1; simp at h1
      | zero =>
        rw [kk] at h1 h2
        have e1 : a = x := by simpa using h1
        have e2 : r = r' := by simpa using h2
        rw [← e1, ← e2]
        exact ha
  · rcases List.mem_append.mp hx with h | h
    · exact L.new x h
    · rw [List.mem_singleton.mp h]; exact n0
  · rcases List.mem_append.mp z with h | h
    · exact L.out h
    · exact ne (List.mem_singleton.mp h).symm
def spGraph (K : PySem.W.Frag) : Sp := fun vs H Q _ => ∃ (a o : Addr) (s : Sn) (ms : List Str), vs = [.ref a, .ref o] ∧ SenAt H s a ∧ s.dep ≤ 24 ∧ s.all (fun m => decide (m ∈ ms)) = true ∧ SqL K H o (ms.map V.str) ∧ WdS ms ∧
  ∀ (p : Addr) (gs : List Addr) (H' : Hp), Same H H' → LN H H' p gs (grOf (nowL ms).length (E2 ms s)) → Q (.ref p) H'
def spPlaces (K : PySem.W.Frag) : Sp := fun vs H Q _ => ∃ (a o : Addr) (s : Sn) (ms : List Str), vs = [.ref a, .ref o] ∧ SenAt H s a ∧ s.dep ≤ 24 ∧ s.all (fun m => decide (m ∈ ms)) = true ∧ SqL K H o (ms.map V.str) ∧ WdS ms ∧
  ∀ (p : Addr) (H' : Hp), Same H H' → H p = none → H' p = some (.lst (nats_ (plOf (nowL ms).length fun x => E2 ms s x x))) → Q (.ref p) H'
theorem bI_one (v : Bool) : decide (V.int (bI v) = V.int 1) = v := by cases v <;> rfl
section
variable {P : Program} {w : World} {K : PySem.W.Frag} {mg : Str → Option Value} {base : Heap} {C : Addr}
theorem d_graph (T : Tx w K mg C) (A : Has K mg "_law_graph" sf_law_graph) (d__law_now : Df P w K mg base "_law_now" 1 ["order"] (spLNow K)) (d__law_rows : Df P w K mg base "_law_rows" 1 ["size"] spRows) (d__law_pair : Df P w K mg base "_law_pair" 2 ["order", "row", "other"] (spPair K))
    (d__law_value : Df P w K mg base "_law_value" 25 ["sentence", "order", "row"] (spValue K 24)) : Df P w K mg base "_law_graph" 26 ["sentence", "order"] (spGraph K) := by
  refine Df.of A scf_law_graph (fun vs H Q E h => ?_) (fun _ _ _ _ _ _ us hl => match us, hl with | [_, _], _ => rfl) (fun f cdv A outer s H vs Q E hr h => ?_)
  · obtain ⟨a, o, t, ms, rfl, _⟩ := h; rfl
  obtain ⟨a, o, t, ms, rfl, hs, hd, hal, ho, W, k⟩ := h
  refine ⟨_, (pss_cons (ps_set (i := 2) scf_law_graph.nd rfl (Or.inl rfl) (pe_df d__law_rows (hr.mono (by omega)) (pa_cons (pe_callB call_len_seq (by rfl) T.len (by decide +kernel) (pa_cons (pe_df d__law_now (hr.mono (by omega)) (pa_cons (pv 1) pa_nil)) pa_nil)) pa_nil)))
      (pss_cons (ps_set (i := 3) scf_law_graph.nd rfl (Or.inl rfl) (pe_lst pa_nil))
      (pss_cons (ps_for PassesOwn.never rfl (pi_list (pv 2)) (pg_name (i := 4) scf_law_graph.nd rfl (Or.inl rfl)) (pss_cons (ps_set (i := 5) scf_law_graph.nd rfl (Or.inl rfl) (pe_lst pa_nil))
      (pss_cons (ps_for PassesOwn.never rfl (pi_range1 (by rfl) T.range (pa_cons (pe_callB call_len_seq (by rfl) T.len (by decide +kernel) (pa_cons (pv 2) pa_nil)) pa_nil)) (pg_name (i := 6) scf_law_graph.nd rfl (Or.inl rfl)) (pss_one (ps_if (pt_cmpR op_eq (pe_df d__law_value (hr.mono (by omega)) (pa_cons (pv 0) (pa_cons (pv 1) (pa_cons (pe_df d__law_pair (hr.mono (by omega)) (pa_cons (pv 1) (pa_cons (pv 4) (pa_cons (pe_ix ix_list (pv 2) (pv 6) (fun _ _ => rfl)) pa_nil)))) pa_nil)))) pe_int (nomark _)) (pss_one (ps_expr (pe_bm PySem.F.plainAttrs_list PySem.F.slot_list_append PySem.F.type_list_append mt_append (pv 5) (pa_cons (pv 6) pa_nil)))) pss_nil)))
      (pss_one (ps_expr (pe_bm PySem.F.plainAttrs_list PySem.F.slot_list_append PySem.F.type_list_append mt_append (pv 3) (pa_cons (pv 5) pa_nil)))))))
      (pss_one (ps_ret (pv 3)))))), ?_⟩
  have few := nowL_few ms
  have fewm := W.few
  refine ⟨_, rfl, o, ms, rfl, ho, fun np H1 s1 hnp np1 => ⟨np, _, rfl, .inl (SqL.of np1), (nowL ms).length, by rw [List.length_map]; rfl, few, fun r as H2 s2 L2 => ?_⟩⟩
  have few2 := rows_few _ few
  have s02 := s1.trans s2
  refine ⟨Nat.zero_le _, fun q hq => ?_⟩
  have N3 := LN.nil hq
  have s3 := Same.new hq (.lst [])
  generalize upd H2 q (.lst []) = H3 at s3 N3 ⊢
  have r2 := L2.at_
  have rowAt : ∀ (i : Nat) (x : Addr), as[i]? = some x → ∃ w, (DB.allR (nowL ms).length)[i]? = some w ∧ w.length = (nowL ms).length ∧ H2 x = some (.lst (rowB w)) := fun i x hx => by
    obtain ⟨w, h1, h2⟩ := row_in L2 hx
    exact ⟨w, h1, DB.mem_allR.mp (List.mem_of_getElem? h1), h2⟩
  refine ⟨_, rfl, r, rfl, ⟨_, SqL.of (s3 _ _ r2)⟩, for_list (K := K) (a := r) (xs := as.map V.ref) (fun i σ H' => ∃ (gs : List Addr) (v1 v2 v3 : Option V), σ = [some (.ref a), some (.ref o), some (.ref r), some (.ref q), v1, v2, v3] ∧ Same H2 H' ∧ LN H2 H' q gs ((grOf (nowL ms).length (E2 ms t)).take i)) ⟨[], none, none, none, rfl, s3, N3⟩
    (fun i σ H' _ ⟨_, _, _, _, _, h, _⟩ => SqL.of (h _ _ r2)) ?_ ?_⟩
  · rintro i y σ H4 hy ⟨gs, v1, v2, v3, rfl, s4, N4⟩
    rw [List.getElem?_map] at hy
    obtain ⟨x, hx, rfl⟩ := Option.map_eq_some_iff.mp hy
    obtain ⟨w, w1, w2, w3⟩ := rowAt i x hx
    refine ⟨Nat.zero_le _, fun hh hhh => ?_⟩
    have s5 := Same.new hhh (.lst [])
    have h5 : upd H4 hh (.lst []) hh = some (.lst (nats_ [])) := upd_same
    generalize upd H4 hh (.lst []) = H5 at s5 h5 ⊢
    refine ⟨_, rfl, r, _, rfl, .inl (SqL.of (s5 _ _ (s4 _ _ r2))), _, rfl, by omega, by rw [List.length_map, L2.len]; omega, ?_⟩
    rw [List.length_map, L2.len, Int.toNat_natCast]
    refine for_range (fun j σ H' => ∃ (v3 : Option V), σ = [some (.ref a), some (.ref o), some (.ref r), some (.ref q), some (.ref x), some (.ref hh), v3] ∧ Same H4 H' ∧ H' hh = some (.lst (nats_ ((List.range j).filter fun j => E2 ms t w ((DB.allR (nowL ms).length).getD j []))))) ⟨v3, rfl, s5, h5⟩ ?_ ?_
    · rintro j σ H6 hj ⟨v3', rfl, s6, h6⟩
      rw [Int.zero_add]
      obtain ⟨z, hz⟩ : ∃ z, as[j]? = some z := ⟨as[j]'(by rw [L2.len]; exact hj), List.getElem?_eq_getElem _⟩
      obtain ⟨u, u1, u2, u3⟩ := rowAt j z hz
      have s26 := s4.trans s6
      refine ⟨_, rfl, _, rfl, _, rfl, _, rfl, _, rfl, _, rfl, r, _, _, .ref z, rfl, rfl, SqL.of (s26 _ _ r2), atI_nat (by rw [List.getElem?_map, hz]; rfl), o, x, z, ms, w, u, rfl, (s02.trans s26).seq ho, W, s26 _ _ w3, s26 _ _ u3, w2, u2, fun pr H7 s7 hpr pr7 => ?_⟩
      refine ⟨a, o, pr, t, ms, DB.pe (nowL ms) (thnL ms) w u, rfl, hs.mono (s02.trans (s26.trans s7)), hd, hal, (s02.trans (s26.trans s7)).seq ho, W.nd, fewm, pr7, fun H8 s8 => ?_⟩
      refine ⟨rfl, _, rfl, ?_⟩
      rw [bI_one]
      have h8 := s8 _ _ (s7 _ _ h6)
      have s48 := s6.trans (s7.trans s8)
      have eu : (DB.allR (nowL ms).length).getD j [] = u := by rw [List.getD_eq_getElem?_getD, u1]; rfl
      have ef : (List.range (j + 1)).filter (fun j => E2 ms t w ((DB.allR (nowL ms).length).getD j [])) = (List.range j).filter (fun j => E2 ms t w ((DB.allR (nowL ms).length).getD j [])) ++ (if E2 ms t w u = true then [j] else []) := by
        rw [List.range_succ, List.filter_append, List.filter_cons, eu]
        rfl
      cases c : DB.sv t (DB.pe (nowL ms) (thnL ms) w u) with
      | true =>
        have c : E2 ms t w u = true := c
        refine iteT ⟨_, rfl, .inl ⟨rfl, _, SqL.of h8⟩, _, rfl, hh, _, _, rfl, rfl, h8, ?_, _, rfl, fun b o hb => ?_, ?_⟩
        · rw [List.length_map]
          have := List.length_filter_le (fun j => E2 ms t w ((DB.allR (nowL ms).length).getD j [])) (List.range j)
          rw [List.length_range] at this
          exact small1000 (by omega)
        · rw [upd_ne (ne_of_none hb hhh)]; exact s48 _ _ hb
        · rw [upd_same, ef, if_pos c, ← nats_snoc]
      | false =>
        have c : ¬ E2 ms t w u = true := fun z => by rw [show E2 ms t w u = false from c] at z; cases z
        refine iteF ⟨_, rfl, s48, ?_⟩
        rw [ef, if_neg c, List.append_nil]
        exact h8
    · rintro σ H6 ⟨v3', rfl, s6, h6⟩
      have N6 := N4.same s6
      have hq6 : hh ≠ q := fun z => by rw [z, N4.at_] at hhh; cases hhh
      refine ⟨_, rfl, .inl ⟨rfl, _, SqL.of N6.at_⟩, _, rfl, q, _, _, rfl, rfl, N6.at_, ?_, gs ++ [hh], _, _, _, rfl, fun b o hb => ?_, ?_⟩
      · rw [List.length_map, N6.len]
        have : ((grOf (nowL ms).length (E2 ms t)).take i).length ≤ (grOf (nowL ms).length (E2 ms t)).length := List.length_take_le' _ _
        have : (grOf (nowL ms).length (E2 ms t)).length = (DB.allR (nowL ms).length).length := by unfold grOf; rw [List.length_map]
        exact small1000 (by omega)
      · rw [upd_ne (ne_of_none hb N4.newp)]; exact s6 _ _ (s4 _ _ hb)
      · have tk : (grOf (nowL ms).length (E2 ms t)).take (i + 1) = (grOf (nowL ms).length (E2 ms t)).take i ++ [(List.range (DB.allR (nowL ms).length).length).filter fun j => E2 ms t w ((DB.allR (nowL ms).length).getD j [])] := by
          rw [List.take_add_one]
          congr 1
          unfold grOf
          rw [List.getElem?_map, w1]
          rfl
        rw [tk]
        exact N6.snoc h6 (Same.nw s4 hhh) hq6
  · rintro σ H4 ⟨gs, v1, v2, v3, rfl, s4, N4⟩
    have el : (as.map V.ref).length = (grOf (nowL ms).length (E2 ms t)).length := by unfold grOf; rw [List.length_map, List.length_map, L2.len]
    rw [el, List.take_length] at N4
    exact ⟨_, rfl, k q gs H4 (s02.trans s4) (N4.old s02)⟩
theorem d_places (T : Tx w K mg C) (A : Has K mg "_law_places" sf_law_places) (d__law_now : Df P w K mg base "_law_now" 1 ["order"] (spLNow K)) (d__law_rows : Df P w K mg base "_law_rows" 1 ["size"] spRows) (d__law_pair : Df P w K mg base "_law_pair" 2 ["order", "row", "other"] (spPair K))
    (d__law_value : Df P w K mg base "_law_value" 25 ["sentence", "order", "row"] (spValue K 24)) : Df P w K mg base "_law_places" 26 ["sentence", "order"] (spPlaces K) := by
  refine Df.of A scf_law_places (fun vs H Q E h => ?_) (fun _ _ _ _ _ _ us hl => match us, hl with | [_, _], _ => rfl) (fun f cdv A outer s H vs Q E hr h => ?_)
  · obtain ⟨a, o, t, ms, rfl, _⟩ := h; rfl
  obtain ⟨a, o, t, ms, rfl, hs, hd, hal, ho, W, k⟩ := h
  refine ⟨_, (pss_cons (ps_set (i := 2) scf_law_places.nd rfl (Or.inr rfl) (pe_lc (own := [("row", 3)]) (g := gName 3) (tt := tYes) rfl scf_law_places.nd (pi_list (pe_df d__law_rows (hr.mono (by omega)) (pa_cons (pe_callB call_len_seq (by rfl) T.len (by decide +kernel) (pa_cons (pe_df d__law_now (hr.mono (by omega)) (pa_cons (pv 1) pa_nil)) pa_nil)) pa_nil))) (blkOk_by (own := [("row", 3)]) (N := ["sentence", "order", "rows", "row", "k"]) (sc := defScope sf_law_places) (by decide +kernel)) (fun _ _ _ _ _ => pg_name (i := 3) scf_law_places.nd rfl (Or.inl rfl)) (fun _ _ _ _ _ => pts_nil) (fun _ _ _ _ _ => (pe_df d__law_pair (hr.mono (by omega)) (pa_cons (pv 1) (pa_cons (pv 3) (pa_cons (pv 3) pa_nil)))))))
      (pss_one (ps_ret (pe_lc (own := [("k", 4)]) (g := gName 4) rfl scf_law_places.nd (pi_range1 (by rfl) T.range (pa_cons (pe_callB call_len_seq (by rfl) T.len (by decide +kernel) (pa_cons (pv 2) pa_nil)) pa_nil)) (blkOk_by (own := [("k", 4)]) (N := ["sentence", "order", "rows", "row", "k"]) (sc := defScope sf_law_places) (by decide +kernel)) (fun _ _ _ _ _ => pg_name (i := 4) scf_law_places.nd rfl (Or.inl rfl)) (fun _ _ _ _ _ => (pts_one (pt_cmpR op_eq (pe_df d__law_value (hr.mono (by omega)) (pa_cons (pv 0) (pa_cons (pv 1) (pa_cons (pe_ix (ix_listK (K := K) rfl) (pv 2) (pv 4) (fun _ _ => rfl)) pa_nil)))) pe_int (nomark _)))) (fun _ _ _ _ _ => (pv 4)))))), ?_⟩
  have few := nowL_few ms
  have fewm := W.few
  refine ⟨_, rfl, o, ms, rfl, ho, fun np H1 s1 hnp np1 => ⟨np, _, rfl, .inl (SqL.of np1), (nowL ms).length, by rw [List.length_map]; rfl, few, fun r as H2 s2 L2 => ?_⟩⟩
  have few2 := rows_few _ few
  have s02 := s1.trans s2
  have r2 := L2.at_
  refine ⟨r, rfl, ⟨_, SqL.of r2⟩, fun D hD => ?_⟩
  refine lc_list (K := K) (a := r) (xs := as.map V.ref) (fun i H' => ∃ ps : List Addr, Same H2 H' ∧ H' D = some (.lst (ps.map V.ref)) ∧ ps.length = i ∧ ∀ (j : Nat) (q : Addr), ps[j]? = some q → ∃ x, (DB.allR (nowL ms).length)[j]? = some x ∧ H' q = some (.lst (rowB (ms.map (DB.pe (nowL ms) (thnL ms) x x)))) ∧ q ≠ D) ⟨[], Same.new hD _, upd_same, rfl, fun j q h => by simp at h⟩ (fun i H' _ ⟨_, h, _⟩ => SqL.of (h _ _ r2)) ?_ ?_
  · rintro i y H3 hy ⟨ps, s3, d3, l3, pr⟩
    rw [List.getElem?_map] at hy
    obtain ⟨x, hx, rfl⟩ := Option.map_eq_some_iff.mp hy
    obtain ⟨w, w1, w3⟩ := row_in L2 hx
    have w2 := DB.mem_allR.mp (List.mem_of_getElem? w1)
    have il := (List.getElem?_eq_some_iff.mp w1).1
    refine ⟨rfl, tYif ⟨_, rfl, _, rfl, _, rfl, o, x, x, ms, w, w, rfl, (s02.trans s3).seq ho, W, s3 _ _ w3, s3 _ _ w3, w2, w2, fun q H4 s4 hq q4 => ?_⟩⟩
    have d4 := s4 _ _ d3
    have qD : q ≠ D := fun z => by rw [z, d3] at hq; cases hq
    refine ⟨_, d4, by rw [List.length_map]; exact small1000 (by omega), ps ++ [q], fun b o hb => ?_, by rw [upd_same, List.map_append]; rfl, by simp [l3], fun j q' hq' => ?_⟩
    · rw [upd_ne (ne_of_none hb hD)]; exact s4 _ _ (s3 _ _ hb)
    · by_cases c : j < ps.length
      · rw [List.getElem?_append_left c] at hq'
        obtain ⟨z, h1, h2, h3⟩ := pr j q' hq'
        exact ⟨z, h1, by rw [upd_ne h3]; exact s4 _ _ h2, h3⟩
      · rw [List.getElem?_append_right (by omega)] at hq'
        cases kk : j - ps.length with
        | succ k' => rw [kk] at hq'; simp at hq'
        | zero =>
          rw [kk] at hq'
          have e : q = q' := by simpa using hq'
          have ej : j = i := by omega
          subst e ej
          exact ⟨w, w1, by rw [upd_ne qD]; exact q4, qD⟩
  · rintro H3 ⟨ps, s3, d3, l3, pr⟩
    rw [List.length_map, L2.len] at l3
    have s03 := s02.trans s3
    refine ⟨_, rfl, D, _, rfl, .inl (SqL.of d3), _, rfl, by omega, by rw [List.length_map]; omega, fun D2 hD2 => ?_⟩
    rw [List.length_map, Int.toNat_natCast, l3]
    refine lc_range (fun j H' => Same H3 H' ∧ H' D2 = some (.lst (nats_ ((List.range j).filter fun j => E2 ms t ((DB.allR (nowL ms).length).getD j []) ((DB.allR (nowL ms).length).getD j []))))) ⟨Same.new hD2 _, upd_same⟩ ?_ ?_
    · rintro j H4 hj ⟨s4, d4⟩
      rw [Int.zero_add]
      obtain ⟨z, hz⟩ : ∃ z, ps[j]? = some z := ⟨ps[j]'(by omega), List.getElem?_eq_getElem _⟩
      obtain ⟨u, u1, u3, _⟩ := pr j z hz
      refine ⟨rfl, _, rfl, _, rfl, _, rfl, _, rfl, D, _, _, .ref z, rfl, rfl, SqL.of (s4 _ _ d3), atI_nat (by rw [List.getElem?_map, hz]; rfl), a, o, z, t, ms, DB.pe (nowL ms) (thnL ms) u u, rfl, hs.mono (s03.trans s4), hd, hal, (s03.trans s4).seq ho, W.nd, fewm, s4 _ _ u3, fun H5 s5 => ⟨rfl, _, rfl, ?_⟩⟩
      rw [bI_one]
      have d5 := s5 _ _ d4
      have s35 := s4.trans s5
      have eu : (DB.allR (nowL ms).length).getD j [] = u := by rw [List.getD_eq_getElem?_getD, u1]; rfl
      have ef : (List.range (j + 1)).filter (fun j => E2 ms t ((DB.allR (nowL ms).length).getD j []) ((DB.allR (nowL ms).length).getD j [])) = (List.range j).filter (fun j => E2 ms t ((DB.allR (nowL ms).length).getD j []) ((DB.allR (nowL ms).length).getD j [])) ++ (if E2 ms t u u = true then [j] else []) := by
        rw [List.range_succ, List.filter_append, List.filter_cons, eu]
        rfl
      cases c : DB.sv t (DB.pe (nowL ms) (thnL ms) u u) with
      | true =>
        have c : E2 ms t u u = true := c
        refine iteT ⟨_, rfl, _, d5, ?_, fun b o hb => ?_, ?_⟩
        · rw [List.length_map]
          have := List.length_filter_le (fun j => E2 ms t ((DB.allR (nowL ms).length).getD j []) ((DB.allR (nowL ms).length).getD j [])) (List.range j)
          rw [List.length_range] at this
          exact small1000 (by omega)
        · rw [upd_ne (ne_of_none hb hD2)]; exact s35 _ _ hb
        · rw [upd_same, ef, if_pos c, ← nats_snoc]
      | false =>
        have c : ¬ E2 ms t u u = true := fun z => by rw [show E2 ms t u u = false from c] at z; cases z
        refine iteF ⟨s35, ?_⟩
        rw [ef, if_neg c, List.append_nil]
        exact d5
    · rintro H4 ⟨s4, d4⟩
      exact k D2 H4 (s03.trans s4) (Same.nw s03 hD2) d4
end
end DW


set_option maxHeartbeats 4000000
/-! The law's own defs: into, turns. -/
namespace DW
open PySem PySem.Spec PyProof.Rows L2
theorem scf_law_into : FnScope ["graph", "places", "k", "one"] ["graph", "places"] (defScope sf_law_into) := ⟨rfl, rfl, rfl, by decide +kernel, rfl, by decide +kernel, by decide +kernel⟩
theorem scf_law_turns : FnScope ["graph", "places", "found", "seen", "fresh", "k"] ["graph", "places"] (defScope sf_law_turns) := ⟨rfl, rfl, rfl, by decide +kernel, rfl, by decide +kernel, by decide +kernel⟩
/-- at p a list of lists of numbers -/
structure Gr (H : Hp) (p : Addr) (as : List Addr) (ws : List (List Nat)) : Prop where
  at_ : H p = some (.lst (as.map V.ref))
  len : as.length = ws.length
  row : ∀ (i : Nat) (a : Addr) (r : List Nat), as[i]? = some a → ws[i]? = some r → H a = some (.lst (nats_ r))
theorem LN.gr {H0 H : Hp} {p : Addr} {as : List Addr} {ws : List (List Nat)} (L : LN H0 H p as ws) : Gr H p as ws := ⟨L.at_, L.len, L.row⟩
theorem Gr.same {H H' : Hp} {p : Addr} {as : List Addr} {ws : List (List Nat)} (L : Gr H p as ws) (s : Same H H') : Gr H' p as ws := ⟨s _ _ L.at_, L.len, fun i a r h1 h2 => s _ _ (L.row i a r h1 h2)⟩
def into (gr : List (List Nat)) (pl : List Nat) : List Nat := (List.range gr.length).filter fun j => decide (0 < (pl.filter fun i => decide (j ∈ gr.getD i [])).length)
def spInto : Sp := fun vs H Q _ => ∃ (g p : Addr) (gs : List Addr) (gr : List (List Nat)) (pl : List Nat), vs = [.ref g, .ref p] ∧ Gr H g gs gr ∧ H p = some (.lst (nats_ pl)) ∧ gr.length ≤ 16 ∧ pl.length ≤ 16 ∧ (∀ i ∈ pl, i < gr.length) ∧
  ∀ (q : Addr) (H' : Hp), Same H H' → H q = none → H' q = some (.lst (nats_ (into gr pl))) → Q (.ref q) H'
def spTurns : Sp := fun vs H Q _ => ∃ (g p : Addr) (gs : List Addr) (gr : List (List Nat)) (pl : List Nat) (m : Nat) (E : DB.Ro → DB.Ro → Bool) (S : DB.Ro → Bool), vs = [.ref g, .ref p] ∧ Gr H g gs gr ∧ H p = some (.lst (nats_ pl)) ∧ m ≤ 4 ∧ pl.length ≤ 16 ∧ DB.Looks m E gr ∧ DB.Sees m S pl ∧
  ∀ (q : Addr) (fs : List Addr) (KK : Nat) (H' : Hp), Same H H' → DB.IsK m E S KK → KK ≤ 16 → LN H H' q fs ((List.range KK).map fun i => (DB.ts gr pl i).1) → Q (.ref q) H'
section
variable {P : Program} {w : World} {K : PySem.W.Frag} {mg : Str → Option Value} {base : Heap} {C : Addr}
theorem d_into (T : Tx w K mg C) (A : Has K mg "_law_into" sf_law_into) : Df P w K mg base "_law_into" 1 ["graph", "places"] spInto := by
  refine Df.of A scf_law_into (fun vs H Q E h => ?_) (fun _ _ _ _ _ _ us hl => match us, hl with | [_, _], _ => rfl) (fun f cdv A outer s H vs Q E hr h => ?_)
  · obtain ⟨g, p, gs, gr, pl, rfl, _⟩ := h; rfl
  obtain ⟨g, p, gs, gr, pl, rfl, G, hp, lg, lp, hin, k⟩ := h
  refine ⟨_, (pss_one (ps_ret (pe_lc (own := [("k", 2)]) (g := gName 2) rfl scf_law_into.nd (pi_range1 (by rfl) T.range (pa_cons (pe_callB call_len_seq (by rfl) T.len (by decide +kernel) (pa_cons (pv 0) pa_nil)) pa_nil)) (blkOk_by (own := [("k", 2)]) (N := ["graph", "places", "k", "one"]) (sc := defScope sf_law_into) (by decide +kernel)) (fun _ _ _ _ _ => pg_name (i := 2) scf_law_into.nd rfl (Or.inr rfl)) (fun _ _ _ _ _ => (pts_one (pt_cmpR op_gt (pe_callB (call_len_seqK (K := K) rfl) (by rfl) T.len (by decide +kernel) (pa_cons (pe_lc (own := [("one", 3)]) (g := gName 3) rfl scf_law_into.nd (pi_listK (K := K) rfl (pv 1)) (blkOk_by (own := [("one", 3)]) (N := ["graph", "places", "k", "one"]) (by rfl)) (fun _ _ _ _ _ => pg_name (i := 3) scf_law_into.nd rfl (Or.inl rfl)) (fun _ _ _ _ _ => (pts_one (pt_cmpR (op_in_seqK (K := K) rfl) (pv 2) (pe_ix (ix_listK (K := K) rfl) (pv 0) (pv 3) (fun _ _ => rfl)) (by rfl)))) (fun _ _ _ _ _ => (pv 3))) pa_nil)) pe_int (nomark _)))) (fun _ _ _ _ _ => (pv 2))))), ?_⟩
  refine ⟨_, rfl, g, _, rfl, .inl (SqL.of G.at_), _, rfl, by omega, by rw [List.length_map, G.len]; omega, fun D hD => ?_⟩
  rw [List.length_map, G.len, Int.toNat_natCast]
  refine lc_range (fun j H' => Same H H' ∧ H' D = some (.lst (nats_ ((List.range j).filter fun j => decide (0 < (pl.filter fun i => decide (j ∈ gr.getD i [])).length))))) ⟨Same.new hD _, upd_same⟩ ?_ ?_
  · rintro j H1 hj ⟨s1, d1⟩
    rw [Int.zero_add]
    refine ⟨rfl, _, rfl, p, rfl, ⟨_, SqL.of (s1 _ _ hp)⟩, fun D2 hD2 => ?_⟩
    refine lc_list (K := K) (a := p) (xs := nats_ pl) (fun i H' => Same H1 H' ∧ H' D2 = some (.lst (nats_ ((pl.take i).filter fun i => decide (j ∈ gr.getD i []))))) ⟨Same.new hD2 _, upd_same⟩ (fun i H' _ h => SqL.of (h.1 _ _ (s1 _ _ hp))) ?_ ?_
    · rintro i y H2 hy ⟨s2, d2⟩
      obtain ⟨one, ho, rfl⟩ := map_nat_at hy
      have hlt := hin one (List.mem_of_getElem? ho)
      obtain ⟨ga, hga⟩ : ∃ a, gs[one]? = some a := ⟨gs[one]'(by rw [G.len]; exact hlt), List.getElem?_eq_getElem _⟩
      obtain ⟨gl, hgl⟩ : ∃ l, gr[one]? = some l := ⟨gr[one], List.getElem?_eq_getElem hlt⟩
      have s02 := s1.trans s2
      have gd : gr.getD one [] = gl := by rw [List.getD_eq_getElem?_getD, hgl]; rfl
      refine ⟨rfl, _, rfl, _, rfl, _, rfl, g, _, _, .ref ga, rfl, rfl, SqL.of (s02 _ _ G.at_), atI_nat (by rw [List.getElem?_map, hga]; rfl), ga, _, rfl, .inl (SqL.of (s02 _ _ (G.row _ _ _ hga hgl))), rfl, flat_nats gl, _, rfl, ?_⟩
      have tk : pl.take (i + 1) = pl.take i ++ [one] := by rw [List.take_add_one, ho]; rfl
      rw [if_neg (by decide), inV_nat, tk, List.filter_append]
      cases c : decide (j ∈ gl) with
      | true =>
        refine iteT ⟨_, rfl, _, d2, ?_, fun b o hb => ?_, ?_⟩
        · rw [List.length_map]
          have h1 := List.length_filter_le (fun i => decide (j ∈ gr.getD i [])) (pl.take i)
          have h2 : (pl.take i).length ≤ pl.length := List.length_take_le' _ _
          exact small1000 (by omega)
        · rw [upd_ne (ne_of_none hb hD2)]; exact s2 _ _ hb
        · rw [upd_same, nats_snoc, List.filter_cons, gd, c]; rfl
      | false =>
        refine iteF ⟨s2, ?_⟩
        rw [d2, List.filter_cons, gd, c]
        simp
    · rintro H2 ⟨s2, d2⟩
      rw [List.length_map, List.take_length] at d2
      have d1' := s2 _ _ d1
      refine ⟨D2, _, rfl, .inl (SqL.of d2), _, _, rfl, rfl, _, rfl, ?_⟩
      have ef : (List.range (j + 1)).filter (fun j => decide (0 < (pl.filter fun i => decide (j ∈ gr.getD i [])).length)) = (List.range j).filter (fun j => decide (0 < (pl.filter fun i => decide (j ∈ gr.getD i [])).length)) ++ (if 0 < (pl.filter fun i => decide (j ∈ gr.getD i [])).length then [j] else []) := by
        rw [List.range_succ, List.filter_append, List.filter_cons]
        by_cases c : 0 < (pl.filter fun i => decide (j ∈ gr.getD i [])).length
        · rw [decide_eq_true c, if_pos rfl, if_pos c]; rfl
        · rw [decide_eq_false c, if_neg Bool.false_ne_true, if_neg c]; rfl
      rw [List.length_map]
      refine ite2 (fun c => ?_) (fun c => ?_)
      · have c : 0 < (pl.filter fun i => decide (j ∈ gr.getD i [])).length := by have := of_decide_eq_true c; omega
        refine ⟨_, rfl, _, d1', ?_, fun b o hb => ?_, ?_⟩
        · rw [List.length_map]
          have h1 := List.length_filter_le (fun j => decide (0 < (pl.filter fun i => decide (j ∈ gr.getD i [])).length)) (List.range j)
          rw [List.length_range] at h1
          exact small1000 (by omega)
        · rw [upd_ne (ne_of_none hb hD)]; exact s2 _ _ (s1 _ _ hb)
        · rw [upd_same, ef, if_pos c, ← nats_snoc]
      · have c : ¬ 0 < (pl.filter fun i => decide (j ∈ gr.getD i [])).length := fun z => c (decide_eq_true (by omega))
        refine ⟨s1.trans s2, ?_⟩
        rw [ef, if_neg c, List.append_nil]
        exact d1'
  · rintro H1 ⟨s1, d1⟩
    exact k D H1 s1 hD d1
theorem nats_app (a b : List Nat) : nats_ a ++ nats_ b = nats_ (a ++ b) := List.map_append.symm
theorem ts_len {gr : List (List Nat)} {pl : List Nat} (lg : gr.length ≤ 16) (lp : pl.length ≤ 16) : ∀ i, (DB.ts gr pl i).1.length ≤ 16 ∧ (DB.ts gr pl i).2.length ≤ 16 * i
  | 0 => ⟨lp, Nat.le_refl _⟩
  | i + 1 => by
    obtain ⟨h1, h2⟩ := ts_len lg lp i
    simp only [DB.ts]
    refine ⟨?_, by rw [List.length_append]; omega⟩
    refine Nat.le_trans (List.length_filter_le _ _) (Nat.le_trans (List.length_filter_le _ _) ?_)
    rw [List.length_range]
    exact lg
theorem d_turns (T : Tx w K mg C) (A : Has K mg "_law_turns" sf_law_turns) (d__law_into : Df P w K mg base "_law_into" 1 ["graph", "places"] spInto) : Df P w K mg base "_law_turns" 2 ["graph", "places"] spTurns := by
  refine Df.of A scf_law_turns (fun vs H Q E h => ?_) (fun _ _ _ _ _ _ us hl => match us, hl with | [_, _], _ => rfl) (fun f cdv A outer s H vs Q E hr h => ?_)
  · obtain ⟨g, p, gs, gr, pl, m, E, S, rfl, _⟩ := h; rfl
  obtain ⟨g, p, gs, gr, pl, m, E, S, rfl, G, hp, hm, lp, Lk, Se, k⟩ := h
  refine ⟨_, (pss_cons (ps_set (i := 2) scf_law_turns.nd rfl (Or.inl rfl) (pe_lst pa_nil))
      (pss_cons (ps_set (i := 3) scf_law_turns.nd rfl (Or.inr rfl) (pe_lst pa_nil))
      (pss_cons (ps_set (i := 4) scf_law_turns.nd rfl (Or.inl rfl) (pe_callTy call_list_of (by rfl) T.list (by decide +kernel) (pa_cons (pv 1) pa_nil)))
      (pss_cons (ps_while PassesOwn.never (pt_cmpR op_gt (pe_callB call_len_seq (by rfl) T.len (by decide +kernel) (pa_cons (pv 4) pa_nil)) pe_int (nomark _)) (pss_cons (ps_expr (pe_bm PySem.F.plainAttrs_list PySem.F.slot_list_append PySem.F.type_list_append mt_append (pv 2) (pa_cons (pv 4) pa_nil)))
      (pss_cons (ps_set (i := 3) scf_law_turns.nd rfl (Or.inr rfl) (pe_op op_cat (pv 3) (pv 4)))
      (pss_one (ps_setLc (i := 4) (own := [("k", 5)]) (g := gName 5) rfl scf_law_turns.nd rfl rfl (sw_true rfl rfl rfl (by decide +kernel)) (pi_list (pe_df d__law_into (hr.mono (by omega)) (pa_cons (pv 0) (pa_cons (pv 4) pa_nil)))) (blkOk_by (own := [("k", 5)]) (N := ["graph", "places", "found", "seen", "fresh", "k"]) (sc := defScope sf_law_turns) (by decide +kernel)) (fun _ _ _ _ _ => pg_name (i := 5) scf_law_turns.nd rfl (Or.inl rfl)) (fun _ _ _ _ _ => (pts_one (pt_cmpR (op_notIn_seqK (K := K) rfl) (pv 5) (pv 3) (by rfl)))) (fun _ _ _ _ _ => (pv 5)))))))
      (pss_one (ps_ret (pv 2))))))), ?_⟩
  have lg : gr.length ≤ 16 := by rw [Lk.len, ← DB.len_allR m]; exact rows_few m hm
  refine ⟨Nat.zero_le _, fun q hq => ?_⟩
  have N1 := LN.nil hq
  have s1 := Same.new hq (.lst [])
  generalize upd H q (.lst []) = H1 at s1 N1 ⊢
  refine ⟨Nat.zero_le _, fun sa hsa => ?_⟩
  have s2 := Same.new hsa (.lst [])
  have a2 : upd H1 sa (.lst []) sa = some (.lst (nats_ [])) := upd_same
  have sq : sa ≠ q := fun z => by rw [z, N1.at_] at hsa; cases hsa
  generalize upd H1 sa (.lst []) = H2 at s2 a2 ⊢
  have N2 := N1.same s2
  refine ⟨_, rfl, p, _, rfl, .inl (SqL.of (s2 _ _ (s1 _ _ hp))), fun fa hfa => ?_⟩
  have s3 := Same.new hfa (.lst (nats_ pl))
  have f3 : upd H2 fa (.lst (nats_ pl)) fa = some (.lst (nats_ pl)) := upd_same
  have fq : fa ≠ q := fun z => by rw [z, N2.at_] at hfa; cases hfa
  have fH : H fa = none := Same.nw (s1.trans s2) hfa
  generalize upd H2 fa (.lst (nats_ pl)) = H3 at s3 f3 ⊢
  have N3 := N2.same s3
  have a3 := s3 _ _ a2
  have s03 : Same H H3 := s1.trans (s2.trans s3)
  obtain ⟨KK, hK1, hK⟩ := DB.ex_K m E S
  have hK1 : KK ≤ 16 := Nat.le_trans hK1 (by rw [← DB.len_allR m]; exact rows_few m hm)
  refine ⟨fun mm σ H' => ∃ (i : Nat) (sa fa : Addr) (fs : List Addr) (v : Option V), σ = [some (.ref g), some (.ref p), some (.ref q), some (.ref sa), some (.ref fa), v] ∧ mm + i = KK ∧ Same H H' ∧ LN H H' q fs ((List.range i).map fun i => (DB.ts gr pl i).1) ∧
    H' sa = some (.lst (nats_ (DB.ts gr pl i).2)) ∧ sa ≠ q ∧ H' fa = some (.lst (nats_ (DB.ts gr pl i).1)) ∧ fa ≠ q ∧ H fa = none, ⟨KK, 0, sa, fa, [], none, rfl, rfl, s03, N3, a3, sq, f3, fq, fH⟩, ?_⟩
  rintro mm σ H4 ⟨i, sa, fa, fs, v, rfl, hmm, s4, N4, a4, sq, f4, fq, fH⟩
  obtain ⟨S1, S2⟩ := DB.ts_ok Lk Se i
  obtain ⟨l1, l2⟩ := ts_len lg lp i
  have nei := DB.sees_ne S1
  refine ⟨_, rfl, fa, _, rfl, .inl (SqL.of f4), _, _, rfl, rfl, _, rfl, ?_⟩
  rw [List.length_map]
  by_cases c : (DB.ts gr pl i).1 = []
  · rw [decide_eq_false (by rw [c]; decide)]
    refine iteF ?_
    have ie : i = KK := by
      refine Nat.le_antisymm (by omega) (Nat.le_of_not_lt fun z => ?_)
      exact nei.mp (hK.1 i z) c
    subst ie
    exact ⟨_, rfl, k q fs i H4 s4 hK (by omega) N4⟩
  · have ib : i < KK := by
      refine Nat.lt_of_le_of_ne (by omega) fun z => ?_
      have := hK.2
      rw [← z, nei.mpr c] at this
      cases this
    have pos : 0 < (DB.ts gr pl i).1.length := List.length_pos_iff.mpr c
    rw [decide_eq_true (by omega)]
    refine iteT ⟨fun σ' H' => ∃ (sa fa : Addr) (fs : List Addr) (v : Option V), σ' = [some (.ref g), some (.ref p), some (.ref q), some (.ref sa), some (.ref fa), v] ∧ Same H H' ∧ LN H H' q fs ((List.range (i + 1)).map fun i => (DB.ts gr pl i).1) ∧
      H' sa = some (.lst (nats_ (DB.ts gr pl (i + 1)).2)) ∧ sa ≠ q ∧ H' fa = some (.lst (nats_ (DB.ts gr pl (i + 1)).1)) ∧ fa ≠ q ∧ H fa = none, ?_, ?_⟩
    · rintro σ' H' ⟨sa, fa, fs, v, rfl, h⟩
      exact ⟨mm - 1, by omega, i + 1, sa, fa, fs, v, rfl, by omega, h⟩
    refine ⟨_, rfl, .inl ⟨rfl, _, SqL.of N4.at_⟩, _, rfl, q, _, _, rfl, rfl, N4.at_, ?_, ?_⟩
    · rw [List.length_map, N4.len, List.length_map, List.length_range]
      exact small1000 (by omega)
    have N5 := N4.snoc f4 fH fq
    have s5 : Same H (upd H4 q (.lst (fs.map V.ref ++ [.ref fa]))) := fun b o hb => by rw [upd_ne (ne_of_none hb hq)]; exact s4 _ _ hb
    have a5 : upd H4 q (.lst (fs.map V.ref ++ [.ref fa])) sa = _ := (upd_ne sq).trans a4
    have f5 : upd H4 q (.lst (fs.map V.ref ++ [.ref fa])) fa = _ := (upd_ne fq).trans f4
    generalize upd H4 q (.lst (fs.map V.ref ++ [.ref fa])) = H5 at N5 s5 a5 f5 ⊢
    have er : (List.range i).map (fun i => (DB.ts gr pl i).1) ++ [(DB.ts gr pl i).1] = (List.range (i + 1)).map fun i => (DB.ts gr pl i).1 := by rw [List.range_succ, List.map_append]; rfl
    rw [er] at N5
    -- seen = seen + fresh
    refine ⟨_, rfl, _, rfl, sa, fa, _, _, rfl, rfl, a5, f5, ?_, fun sb hsb => ?_⟩
    · rw [List.length_map, List.length_map]
      exact Nat.le_of_lt (small1000 (by omega))
    have s6 := Same.new hsb (.lst (nats_ (DB.ts gr pl i).2 ++ nats_ (DB.ts gr pl i).1))
    have b6 : upd H5 sb (.lst (nats_ (DB.ts gr pl i).2 ++ nats_ (DB.ts gr pl i).1)) sb = some (.lst (nats_ (DB.ts gr pl (i + 1)).2)) := by
      rw [upd_same]
      rw [nats_app]
      rfl
    have bq : sb ≠ q := fun z => by rw [z, N5.at_] at hsb; cases hsb
    generalize upd H5 sb (.lst (nats_ (DB.ts gr pl i).2 ++ nats_ (DB.ts gr pl i).1)) = H6 at s6 b6 ⊢
    have N6 := N5.same s6
    have s06 := s5.trans s6
    have hin : ∀ x ∈ (DB.ts gr pl i).1, x < gr.length := fun x hx => by
      obtain ⟨h, _⟩ := (S1.mem x).mp hx
      rw [Lk.len, ← DB.len_allR m]
      exact h
    refine ⟨_, rfl, _, rfl, g, fa, gs, gr, _, rfl, G.same s06, s6 _ _ f5, lg, l1, hin, fun z H7 s7 hz z7 => ?_⟩
    refine ⟨z, rfl, ⟨_, SqL.of z7⟩, fun D hD => ?_⟩
    have li : (into gr (DB.ts gr pl i).1).length ≤ 16 := by
      unfold into
      refine Nat.le_trans (List.length_filter_le _ _) ?_
      rw [List.length_range]
      exact lg
    have b7 := s7 _ _ b6
    refine lc_list (K := K) (a := z) (xs := nats_ (into gr (DB.ts gr pl i).1)) (fun j H' => Same H7 H' ∧ H' D = some (.lst (nats_ (((into gr (DB.ts gr pl i).1).take j).filter fun j => !decide (j ∈ (DB.ts gr pl (i + 1)).2))))) ⟨Same.new hD _, upd_same⟩ (fun j H' _ h => SqL.of (h.1 _ _ z7)) ?_ ?_
    · rintro j y H8 hy ⟨s8, d8⟩
      obtain ⟨x, hx, rfl⟩ := map_nat_at hy
      refine ⟨rfl, _, rfl, _, rfl, sb, _, rfl, .inl (SqL.of (s8 _ _ b7)), rfl, flat_nats _, _, rfl, ?_⟩
      have tk : (into gr (DB.ts gr pl i).1).take (j + 1) = (into gr (DB.ts gr pl i).1).take j ++ [x] := by rw [List.take_add_one, hx]; rfl
      rw [if_pos rfl, inV_nat, tk, List.filter_append]
      cases c : decide (x ∈ (DB.ts gr pl (i + 1)).2) with
      | false =>
        refine iteT ⟨_, rfl, _, d8, ?_, fun b o hb => ?_, ?_⟩
        · rw [List.length_map]
          have h1 := List.length_filter_le (fun j => !decide (j ∈ (DB.ts gr pl (i + 1)).2)) ((into gr (DB.ts gr pl i).1).take j)
          have h2 : ((into gr (DB.ts gr pl i).1).take j).length ≤ (into gr (DB.ts gr pl i).1).length := List.length_take_le' _ _
          exact small1000 (by omega)
        · rw [upd_ne (ne_of_none hb hD)]; exact s8 _ _ hb
        · rw [upd_same, nats_snoc, List.filter_cons, c]; rfl
      | true =>
        refine iteF ⟨s8, ?_⟩
        rw [d8, List.filter_cons, c]
        simp
    · rintro H8 ⟨s8, d8⟩
      rw [List.length_map, List.take_length] at d8
      have s08 := s06.trans (s7.trans s8)
      have Dq : D ≠ q := fun e => by rw [e, s7 _ _ N6.at_] at hD; cases hD
      exact ⟨sb, D, fs ++ [fa], _, rfl, s08, N6.same (s7.trans s8), s8 _ _ b7, bq, d8, Dq, Same.nw (s06.trans s7) hD⟩
end
end DW


set_option maxHeartbeats 4000000
/-! The law's own defs: is it a way. -/
namespace DW
open PySem PySem.Spec PyProof.Rows L2
theorem scf_law_is_way : FnScope ["rows", "graph", "places", "goal", "found", "row", "here", "k"] ["rows", "graph", "places", "goal", "found"] (defScope sf_law_is_way) := ⟨rfl, rfl, rfl, by decide +kernel, rfl, by decide +kernel, by decide +kernel⟩
/-- at p a list of rows -/
structure Rs (H : Hp) (p : Addr) (as : List Addr) (ws : List DB.Ro) : Prop where
  at_ : H p = some (.lst (as.map V.ref))
  len : as.length = ws.length
  row : ∀ (i : Nat) (a : Addr) (r : DB.Ro), as[i]? = some a → ws[i]? = some r → H a = some (.lst (rowB r))
theorem LL.rs {H0 H : Hp} {p : Addr} {as : List Addr} {ws : List DB.Ro} (L : LL H0 H p as ws) : Rs H p as ws := ⟨L.at_, L.len, L.row⟩
theorem Rs.same {H H' : Hp} {p : Addr} {as : List Addr} {ws : List DB.Ro} (L : Rs H p as ws) (s : Same H H') : Rs H' p as ws := ⟨s _ _ L.at_, L.len, fun i a r h1 h2 => s _ _ (L.row i a r h1 h2)⟩
theorem Rs.get {H : Hp} {p : Addr} {as : List Addr} {ws : List DB.Ro} (L : Rs H p as ws) {i : Nat} {a : Addr} (h : as[i]? = some a) : ∃ w, ws[i]? = some w ∧ H a = some (.lst (rowB w)) := by
  have il := (List.getElem?_eq_some_iff.mp h).1
  have hw := List.getElem?_eq_getElem (l := ws) (i := i) (by rw [← L.len]; exact il)
  exact ⟨_, hw, L.row i a _ h hw⟩
def rowD (w : DB.Ro) : PyData := .list ((w.map bI).map .int)
def rowsD (ws : List DB.Ro) : PyData := .list (ws.map rowD)
theorem rowB_int (w : DB.Ro) : rowB w = (w.map bI).map V.int := by unfold rowB; rw [List.map_map]; rfl
theorem dp_row {K : PySem.W.Frag} {H : Hp} {a : Addr} {w : DB.Ro} (h : H a = some (.lst (rowB w))) : Dp K H (.ref a) (rowD w) := .lst (SqL.of (by rw [h, rowB_int])) (dp_ints _)
theorem dp_all {K : PySem.W.Frag} {H : Hp} : ∀ {as : List Addr} {ws : List DB.Ro}, as.length = ws.length → (∀ (i : Nat) (a : Addr) (r : DB.Ro), as[i]? = some a → ws[i]? = some r → H a = some (.lst (rowB r))) → DpAll K H (as.map V.ref) (ws.map rowD)
  | [], [], _, _ => .nil
  | [], _ :: _, h, _ => by simp at h
  | _ :: _, [], h, _ => by simp at h
  | a :: as, w :: ws, h, f => .cons (dp_row (f 0 a w rfl rfl)) (dp_all (by simpa using h) fun i a' r h1 h2 => f (i + 1) a' r h1 h2)
theorem Rs.dp {K : PySem.W.Frag} {H : Hp} {p : Addr} {as : List Addr} {ws : List DB.Ro} (L : Rs H p as ws) : Dp K H (.ref p) (rowsD ws) := .lst (SqL.of L.at_) (dp_all L.len L.row)
theorem row_shaped (w : DB.Ro) : SeqAt.shaped (rowD w) = true := PySem.W.ke_shaped_ints _
theorem rows_shaped (ws : List DB.Ro) : SeqAt.shaped (rowsD ws) = true := by
  have h1 : ∀ ws : List DB.Ro, PyData.canLayAll0 (ws.map rowD) = true := fun ws => by
    induction ws with
    | nil => rfl
    | cons w ws ih =>
      rw [List.map_cons, PyData.canLayAll0, ih]
      have : PyData.canLay0 (rowD w) = true := by unfold rowD; rw [PyData.canLay0]; exact PySem.W.ke_canLayAll0 _
      rw [this]; rfl
  have h2 : ∀ ws : List DB.Ro, PyData.depthAll (ws.map rowD) ≤ 1 := fun ws => by
    induction ws with
    | nil => exact Nat.zero_le _
    | cons w ws ih =>
      rw [List.map_cons, PyData.depthAll]
      have : PyData.depth (rowD w) ≤ 1 := by unfold rowD; rw [PyData.depth, PySem.W.ke_depthAll]; exact Nat.le_refl _
      omega
  unfold SeqAt.shaped rowsD
  rw [PyData.canLay0, h1, PyData.depth, Bool.true_and]
  exact decide_eq_true (by have := h2 ws; omega)
theorem bI_inj {x y : Bool} (h : bI x = bI y) : x = y := by cases x <;> cases y <;> first | rfl | cases h
theorem map_bI_inj : ∀ {x y : DB.Ro}, x.map bI = y.map bI → x = y
  | [], [], _ => rfl
  | [], _ :: _, h => by cases h
  | _ :: _, [], h => by cases h
  | a :: x, b :: y, h => by
    rw [List.map_cons, List.map_cons, List.cons.injEq] at h
    rw [bI_inj h.1, map_bI_inj h.2]
theorem row_eqv (x y : DB.Ro) : PyData.eqv (rowD x) (rowD y) = decide (x = y) := by
  unfold rowD
  rw [PyData.eqv, PySem.W.ked_eqvAll]
  by_cases h : x = y
  · rw [h]; simp
  · rw [decide_eq_false h, decide_eq_false fun z => h (map_bI_inj z)]
theorem atI_end {xs : List V} {v : V} (h : xs[xs.length - 1]? = some v) : atI xs (-1) = some v := by
  have l : 0 < xs.length := by
    cases xs with
    | nil => cases h
    | cons a r => exact Nat.succ_pos _
  have := atI_neg (xs := xs) (j := 0) l
  rw [Nat.sub_zero, h] at this
  exact this
abbrev hx (m : Nat) (w : DB.Ro) : Nat := (DB.allR m).idxOf w
theorem hx_at {m : Nat} {w : DB.Ro} (h : w.length = m) : hx m w < (DB.allR m).length ∧ (DB.allR m)[hx m w]? = some w := by
  have l := List.idxOf_lt_length_of_mem (DB.mem_allR.mpr h)
  exact ⟨l, by rw [List.getElem?_eq_getElem l, List.getElem_idxOf]⟩
theorem hx_sees {m : Nat} {S : DB.Ro → Bool} {pl : List Nat} (Se : DB.Sees m S pl) {w : DB.Ro} (h : w.length = m) (s : S w = true) : hx m w ∈ pl := by
  obtain ⟨l, e⟩ := hx_at h
  refine (Se.mem _).mpr ⟨l, ?_⟩
  rw [(List.getElem?_eq_some_iff.mp e).2]
  exact s
theorem hx_looks {m : Nat} {E : DB.Ro → DB.Ro → Bool} {gr : List (List Nat)} (Lk : DB.Looks m E gr) {x y : DB.Ro} (h1 : x.length = m) (h2 : y.length = m) (s : E x y = true) : hx m y ∈ gr.getD (hx m x) [] := by
  obtain ⟨l1, e1⟩ := hx_at h1
  obtain ⟨l2, e2⟩ := hx_at h2
  refine (Lk.mem _ _ (by rw [← DB.len_allR m]; exact l1)).mpr ⟨⟨l1, l2⟩, ?_⟩
  rw [(List.getElem?_eq_some_iff.mp e1).2, (List.getElem?_eq_some_iff.mp e2).2]
  exact s
def spIsWay : Sp := fun vs H Q _ => ∃ (r g p go f : Addr) (as gs bs : List Addr) (gr : List (List Nat)) (pl gl : List Nat) (ws : List DB.Ro) (m : Nat) (E : DB.Ro → DB.Ro → Bool) (S G : DB.Ro → Bool) (y0 y1 : DB.Ro), vs = [.ref r, .ref g, .ref p, .ref go, .ref f] ∧
  Rs H r as (DB.allR m) ∧ Gr H g gs gr ∧ H p = some (.lst (nats_ pl)) ∧ H go = some (.lst (nats_ gl)) ∧ Rs H f bs ws ∧ m ≤ 4 ∧ ws.length ≤ 16 ∧ (∀ w ∈ ws, w.length = m) ∧ DB.Looks m E gr ∧ DB.Sees m S pl ∧ DB.Sees m G gl ∧
  ws[0]? = some y0 ∧ S y0 = true ∧ ws[ws.length - 1]? = some y1 ∧ G y1 = true ∧ (∀ (i : Nat) (x y : DB.Ro), ws[i]? = some x → ws[i + 1]? = some y → E x y = true) ∧ ∀ H', Same H H' → Q (.bl true) H'
section
variable {P : Program} {w : World} {K : PySem.W.Frag} {mg : Str → Option Value} {base : Heap} {C : Addr}
theorem d_is_way (T : Tx w K mg C) (A : Has K mg "_law_is_way" sf_law_is_way) (d__law_numbers : Df P w K mg base "_law_numbers" 2 ["found", "due"] spNumbers) : Df P w K mg base "_law_is_way" 3 ["rows", "graph", "places", "goal", "found"] spIsWay := by
  refine Df.of A scf_law_is_way (fun vs H Q E h => ?_) (fun _ _ _ _ _ _ us hl => match us, hl with | [_, _, _, _, _], _ => rfl) (fun fa cdv A outer s H vs Q E hr h => ?_)
  · obtain ⟨r, g, p, go, f, as, gs, bs, gr, pl, gl, ws, m, E, S, G, y0, y1, rfl, _⟩ := h; rfl
  obtain ⟨r, g, p, go, f, as, gs, bs, gr, pl, gl, ws, m, E, S, G, y0, y1, rfl, R, Gg, hp, hgo, F, hm, few, hwl, Lk, Ss, Sg, e0, s0, e1, g1, hE, k⟩ := h
  have hu65 : (A.deeper (envOfC "_law_is_way" (defScope sf_law_is_way) s.heap.objs.size fa cdv)).units + 65 < cLine := by have := hr.un; omega
  refine ⟨_, (pss_cons (ps_if (PW.pt (pw_or (pt_not (pt_val (pe_callB call_isi (by rfl) T.isi (by decide +kernel) (pa_cons (pv 4) (pa_cons (pe_bltn (v := .ty "list") rfl T.list (by decide +kernel) rfl) pa_nil))))) (pw_or1 (pt_not (pt_val (pe_callB (cr_all rfl) (by rfl) T.all (by decide +kernel) (pa_cons (pe_lc (own := [("row", 5)]) (g := gName 5) (tt := tYes) rfl scf_law_is_way.nd (pi_list (pv 4)) (blkOk_by (own := [("row", 5)]) (N := ["rows", "graph", "places", "goal", "found", "row", "here", "k"]) (sc := defScope sf_law_is_way) (by decide +kernel)) (fun _ _ _ _ _ => pg_name (i := 5) scf_law_is_way.nd rfl (Or.inl rfl)) (fun _ _ _ _ _ => pts_nil) (fun _ _ _ _ _ => (pe_callB (call_isiK' (K := K) rfl) (by rfl) T.isi (by decide +kernel) (pa_cons (pv 5) (pa_cons (pe_bltn (v := .ty "list") rfl T.list (by decide +kernel) rfl) pa_nil))))) pa_nil))))))) (pss_one (ps_ret pe_bl)) pss_nil)
      (pss_cons (ps_if (pt_not (pt_val (pe_callB (cr_all rfl) (by rfl) T.all (by decide +kernel) (pa_cons (pe_lc (own := [("row", 5)]) (g := gName 5) (tt := tYes) rfl scf_law_is_way.nd (pi_list (pv 4)) (blkOk_by (own := [("row", 5)]) (N := ["rows", "graph", "places", "goal", "found", "row", "here", "k"]) (sc := defScope sf_law_is_way) (by decide +kernel)) (fun _ _ _ _ _ => pg_name (i := 5) scf_law_is_way.nd rfl (Or.inl rfl)) (fun _ _ _ _ _ => pts_nil) (fun _ _ _ _ _ => (pe_cmpR (op_inDK (K := K) rfl hu65) (pv 5) (pv 0) (by rfl)))) pa_nil)))) (pss_one (ps_ret pe_bl)) pss_nil)
      (pss_cons (ps_if (pt_not (pt_val (pe_callB (cr_all rfl) (by rfl) T.all (by decide +kernel) (pa_cons (pe_lc (own := [("row", 5)]) (g := gName 5) (tt := tYes) rfl scf_law_is_way.nd (pi_list (pv 4)) (blkOk_by (own := [("row", 5)]) (N := ["rows", "graph", "places", "goal", "found", "row", "here", "k"]) (sc := defScope sf_law_is_way) (by decide +kernel)) (fun _ _ _ _ _ => pg_name (i := 5) scf_law_is_way.nd rfl (Or.inl rfl)) (fun _ _ _ _ _ => pts_nil) (fun _ _ _ _ _ => (pe_df d__law_numbers (hr.mono (by omega)) (pa_cons (pv 5) (pa_cons (pe_callTy (call_list_ofK (K := K) rfl) (by rfl) T.list (by decide +kernel) (pa_cons (pv 5) pa_nil)) pa_nil))))) pa_nil)))) (pss_one (ps_ret pe_bl)) pss_nil)
      (pss_cons (ps_set (i := 6) scf_law_is_way.nd rfl (Or.inr rfl) (pe_lc (own := [("row", 5)]) (g := gName 5) (tt := tYes) rfl scf_law_is_way.nd (pi_list (pv 4)) (blkOk_by (own := [("row", 5)]) (N := ["rows", "graph", "places", "goal", "found", "row", "here", "k"]) (sc := defScope sf_law_is_way) (by decide +kernel)) (fun _ _ _ _ _ => pg_name (i := 5) scf_law_is_way.nd rfl (Or.inl rfl)) (fun _ _ _ _ _ => pts_nil) (fun _ _ _ _ _ => (pe_bmK (K := K) rfl PySem.F.plainAttrs_list PySem.F.slot_list_index PySem.F.type_list_index (mt_indexDK (K := K) rfl hu65) (pv 0) (pa_cons (pv 5) pa_nil)))))
      (pss_cons (ps_if (PW.pt (pw_or (pt_cmpR (op_eqD hr.units) (pv 6) (pe_lst pa_nil) (nomark _)) (pw_or (pt_cmpR op_notIn_seq (pe_ix ix_list (pv 6) pe_int (fun _ _ => rfl)) (pv 2) (by rfl)) (pw_or1 (pt_cmpR op_notIn_seq (pe_ix ix_list (pv 6) (pe_un un_neg pe_int) (fun _ _ => rfl)) (pv 3) (by rfl)))))) (pss_one (ps_ret pe_bl)) pss_nil)
      (pss_one (ps_ret (pe_callB (cr_all rfl) (by rfl) T.all (by decide +kernel) (pa_cons (pe_lc (own := [("k", 7)]) (g := gName 7) (tt := tYes) rfl scf_law_is_way.nd (pi_range1 (by rfl) T.range (pa_cons (pe_op op_sub (pe_callB call_len_seq (by rfl) T.len (by decide +kernel) (pa_cons (pv 6) pa_nil)) pe_int) pa_nil)) (blkOk_by (own := [("k", 7)]) (N := ["rows", "graph", "places", "goal", "found", "row", "here", "k"]) (sc := defScope sf_law_is_way) (by decide +kernel)) (fun _ _ _ _ _ => pg_name (i := 7) scf_law_is_way.nd rfl (Or.inl rfl)) (fun _ _ _ _ _ => pts_nil) (fun _ _ _ _ _ => (pe_cmpR (op_in_seqK (K := K) rfl) (pe_ix (ix_listK (K := K) rfl) (pv 6) (pe_op op_add (pv 7) pe_int) (fun _ _ => rfl)) (pe_ix (ix_listK (K := K) rfl) (pv 1) (pe_ix (ix_listK (K := K) rfl) (pv 6) (pv 7) (fun _ _ => rfl)) (fun _ _ => rfl)) (by rfl)))) pa_nil))))))))), ?_⟩
  have rep : ∀ n : Nat, ((List.replicate n true).all id) = true := fun n => by simp
  refine ⟨_, rfl, .ref f, .ty "list", .type "list", .type "list", true, rfl, .ty "list", .base (.lst F.at_), if_pos (beq_self_eq_true _), _, rfl, iteF ?_⟩
  refine ⟨_, rfl, f, rfl, ⟨_, SqL.of F.at_⟩, fun D1 hD1 => ?_⟩
  refine lc_list (K := K) (a := f) (xs := bs.map V.ref) (fun i H' => Same H H' ∧ H' D1 = some (.lst ((List.replicate i true).map V.bl))) ⟨Same.new hD1 _, upd_same⟩ (fun i H' _ h => SqL.of (h.1 _ _ F.at_)) ?_ ?_
  · rintro i y Hi hy ⟨si, di⟩
    rw [List.getElem?_map] at hy
    obtain ⟨a, ha, rfl⟩ := Option.map_eq_some_iff.mp hy
    obtain ⟨w, hw, aw⟩ := (F.same si).get ha
    have hmem := List.mem_of_getElem? hw
    have hlen := hwl w hmem
    have il := (List.getElem?_eq_some_iff.mp hw).1
    refine ⟨rfl, tYif ⟨_, rfl, .ref a, .ty "list", .type "list", .type "list", true, rfl, .ty "list", .base (.lst aw), if_pos (beq_self_eq_true _), _, di, ?_, fun b o hb => ?_, ?_⟩⟩
    · rw [List.length_map, List.length_replicate]; exact small1000 (by omega)
    · rw [upd_ne (ne_of_none hb hD1)]; exact si _ _ hb
    · rw [upd_same, List.replicate_succ', List.map_append]; rfl
  rintro H1 ⟨s1, d1⟩
  refine ⟨D1, _, rfl, SqL.of d1, ?_⟩
  rw [rep]
  refine ⟨_, rfl, iteF ?_⟩
  have F1 := F.same s1
  refine ⟨_, rfl, f, rfl, ⟨_, SqL.of F1.at_⟩, fun D2 hD2 => ?_⟩
  refine lc_list (K := K) (a := f) (xs := bs.map V.ref) (fun i H' => Same H1 H' ∧ H' D2 = some (.lst ((List.replicate i true).map V.bl))) ⟨Same.new hD2 _, upd_same⟩ (fun i H' _ h => SqL.of (h.1 _ _ F1.at_)) ?_ ?_
  · rintro i y Hi hy ⟨si, di⟩
    rw [List.getElem?_map] at hy
    obtain ⟨a, ha, rfl⟩ := Option.map_eq_some_iff.mp hy
    obtain ⟨w, hw, aw⟩ := (F1.same si).get ha
    have hmem := List.mem_of_getElem? hw
    have hlen := hwl w hmem
    have il := (List.getElem?_eq_some_iff.mp hw).1
    have Ri := (R.same s1).same si
    refine ⟨rfl, tYif ⟨_, rfl, _, rfl, rowD w, (DB.allR m).map rowD, dp_row aw, Ri.dp, row_shaped w, rows_shaped _, ?_⟩⟩
    have any_ : ((DB.allR m).map rowD).any (fun z => PyData.eqv z (rowD w)) = true := List.any_eq_true.mpr ⟨rowD w, List.mem_map_of_mem (DB.mem_allR.mpr hlen), by rw [row_eqv]; exact decide_eq_true rfl⟩
    rw [any_]
    refine ⟨_, di, ?_, fun b o hb => ?_, ?_⟩
    · rw [List.length_map, List.length_replicate]; exact small1000 (by omega)
    · rw [upd_ne (ne_of_none hb hD2)]; exact si _ _ hb
    · rw [upd_same, List.replicate_succ', List.map_append]; rfl
  rintro H2 ⟨s2, d2⟩
  refine ⟨D2, _, rfl, SqL.of d2, ?_⟩
  rw [rep]
  refine ⟨_, rfl, iteF ?_⟩
  have F2 := F1.same s2
  refine ⟨_, rfl, f, rfl, ⟨_, SqL.of F2.at_⟩, fun D3 hD3 => ?_⟩
  refine lc_list (K := K) (a := f) (xs := bs.map V.ref) (fun i H' => Same H2 H' ∧ H' D3 = some (.lst ((List.replicate i true).map V.bl))) ⟨Same.new hD3 _, upd_same⟩ (fun i H' _ h => SqL.of (h.1 _ _ F2.at_)) ?_ ?_
  · rintro i y Hi hy ⟨si, di⟩
    rw [List.getElem?_map] at hy
    obtain ⟨a, ha, rfl⟩ := Option.map_eq_some_iff.mp hy
    obtain ⟨w, hw, aw⟩ := (F2.same si).get ha
    have hmem := List.mem_of_getElem? hw
    have hlen := hwl w hmem
    have il := (List.getElem?_eq_some_iff.mp hw).1
    refine ⟨rfl, tYif ⟨_, rfl, _, rfl, a, _, rfl, .inl (SqL.of aw), fun c hc => ?_⟩⟩
    have sc := Same.new hc (.lst (rowB w))
    have cc : upd Hi c (.lst (rowB w)) c = some (.lst ((w.map bI).map V.int)) := by rw [upd_same, rowB_int]
    generalize upd Hi c (.lst (rowB w)) = Hc at sc cc ⊢
    refine ⟨a, c, w.map bI, rfl, by rw [sc _ _ aw, rowB_int], cc, by rw [List.length_map]; omega, fun Hd sd => ⟨_, sd _ _ (sc _ _ di), ?_, fun b o hb => ?_, ?_⟩⟩
    · rw [List.length_map, List.length_replicate]; exact small1000 (by omega)
    · rw [upd_ne (ne_of_none hb hD3)]; exact sd _ _ (sc _ _ (si _ _ hb))
    · rw [upd_same, List.replicate_succ', List.map_append]; rfl
  rintro H3 ⟨s3, d3⟩
  refine ⟨D3, _, rfl, SqL.of d3, ?_⟩
  rw [rep]
  refine ⟨_, rfl, iteF ?_⟩
  have F3 := F2.same s3
  have s03 : Same H H3 := s1.trans (s2.trans s3)
  -- here
  refine ⟨_, rfl, f, rfl, ⟨_, SqL.of F3.at_⟩, fun D4 hD4 => ?_⟩
  refine lc_list (K := K) (a := f) (xs := bs.map V.ref) (fun i H' => Same H3 H' ∧ H' D4 = some (.lst (nats_ ((ws.take i).map (hx m))))) ⟨Same.new hD4 _, upd_same⟩ (fun i H' _ h => SqL.of (h.1 _ _ F3.at_)) ?_ ?_
  · rintro i y Hi hy ⟨si, di⟩
    rw [List.getElem?_map] at hy
    obtain ⟨a, ha, rfl⟩ := Option.map_eq_some_iff.mp hy
    obtain ⟨w, hw, aw⟩ := (F3.same si).get ha
    have hmem := List.mem_of_getElem? hw
    have hlen := hwl w hmem
    have il := (List.getElem?_eq_some_iff.mp hw).1
    have Ri := (R.same s03).same si
    obtain ⟨jl, je⟩ := hx_at hlen
    refine ⟨rfl, tYif ⟨_, rfl, .inl ⟨rfl, _, SqL.of Ri.at_⟩, _, rfl, r, .ref a, rowD w, (DB.allR m).map rowD, hx m w, rowD w, rfl, rfl, Ri.dp, dp_row aw, rows_shaped _, row_shaped w, by rw [List.getElem?_map, je]; rfl, by rw [row_eqv]; exact decide_eq_true rfl, fun j z hj hz => ?_, ?_⟩⟩
    · rw [List.getElem?_map] at hz
      obtain ⟨x, hx', rfl⟩ := Option.map_eq_some_iff.mp hz
      rw [row_eqv]
      refine decide_eq_false fun e => ?_
      have t := List.Nodup.idxOf_getElem (DB.nodup_allR m) j (List.getElem?_eq_some_iff.mp hx').1
      rw [(List.getElem?_eq_some_iff.mp hx').2, e] at t
      have hj : j < (DB.allR m).idxOf w := hj
      rw [t] at hj
      exact Nat.lt_irrefl _ hj
    refine ⟨_, di, ?_, fun b o hb => ?_, ?_⟩
    · rw [List.length_map, List.length_map]
      have : (ws.take i).length ≤ ws.length := List.length_take_le' _ _
      exact small1000 (by omega)
    · rw [upd_ne (ne_of_none hb hD4)]; exact si _ _ hb
    · rw [upd_same, nats_snoc, List.take_add_one, hw, List.map_append]; rfl
  rintro H4 ⟨s4, d4⟩
  rw [List.length_map, F3.len, List.take_length] at d4
  have s04 := s03.trans s4
  have wne : ws ≠ [] := fun z => by rw [z] at e0; cases e0
  have w0 : 0 < ws.length := List.length_pos_iff.mpr wne
  have hy0 := hwl y0 (List.mem_of_getElem? e0)
  have hy1 := hwl y1 (List.mem_of_getElem? e1)
  have natsI : ∀ ks : List Nat, nats_ ks = (ks.map fun k => ((k : Nat) : Int)).map V.int := fun ks => by rw [List.map_map]; rfl
  refine ⟨_, rfl, Nat.zero_le _, fun z hz => ?_⟩
  have s5 := Same.new hz (.lst [])
  have z5 : upd H4 z (.lst []) z = some (.lst (([] : List Int).map V.int)) := upd_same
  generalize upd H4 z (.lst []) = H5 at s5 z5 ⊢
  have d5 := s5 _ _ d4
  have s05 := s04.trans s5
  refine ⟨.list (((ws.map (hx m)).map fun k => ((k : Nat) : Int)).map .int), .list (([] : List Int).map .int), .lst (SqL.of (by rw [d5, natsI])) (dp_ints _), .lst (SqL.of z5) (dp_ints _), PySem.W.ke_shaped_ints _, PySem.W.ke_shaped_ints _, ?_⟩
  have en : PyData.eqv (.list (((ws.map (hx m)).map fun k => ((k : Nat) : Int)).map .int)) (.list (([] : List Int).map .int)) = false := by
    rw [PyData.eqv, PySem.W.ked_eqvAll]
    refine decide_eq_false fun e => wne ?_
    exact List.map_eq_nil_iff.mp (List.map_eq_nil_iff.mp e)
  rw [en]
  refine ⟨_, rfl, iteF ?_⟩
  have p5 := s05 _ _ hp
  have go5 := s05 _ _ hgo
  refine ⟨_, rfl, D4, _, _, .int (hx m y0 : Nat), rfl, rfl, SqL.of d5, atI_nat (j := 0) (by rw [List.getElem?_map, List.getElem?_map, e0]; rfl), _, rfl, p, _, rfl, .inl (SqL.of p5), rfl, flat_nats _, ?_⟩
  rw [if_pos rfl, inV_nat, decide_eq_true (hx_sees Ss hy0 s0)]
  refine ⟨_, rfl, iteF ?_⟩
  refine ⟨_, rfl, _, rfl, D4, _, _, .int (hx m y1 : Nat), rfl, rfl, SqL.of d5, atI_end (by rw [List.length_map, List.length_map, List.getElem?_map, List.getElem?_map, e1]; rfl), _, rfl, go, _, rfl, .inl (SqL.of go5), rfl, flat_nats _, ?_⟩
  rw [if_pos rfl, inV_nat, decide_eq_true (hx_sees Sg hy1 g1)]
  refine ⟨_, rfl, iteF ?_⟩
  refine ⟨_, rfl, D4, _, rfl, .inl (SqL.of d5), _, _, rfl, rfl, _, rfl, by rw [List.length_map, List.length_map]; omega, by rw [List.length_map, List.length_map]; omega, fun D6 hD6 => ?_⟩
  rw [List.length_map, List.length_map]
  have el : (((ws.length : Nat) : Int) - 1).toNat = ws.length - 1 := by omega
  rw [el]
  refine lc_range (fun i H' => Same H5 H' ∧ H' D6 = some (.lst ((List.replicate i true).map V.bl))) ⟨Same.new hD6 _, upd_same⟩ ?_ ?_
  · rintro i Hi hi ⟨si, di⟩
    obtain ⟨x, hx1⟩ : ∃ x, ws[i]? = some x := ⟨ws[i], List.getElem?_eq_getElem (by omega)⟩
    obtain ⟨y, hy2⟩ : ∃ y, ws[i + 1]? = some y := ⟨ws[i + 1], List.getElem?_eq_getElem (by omega)⟩
    have lx := hwl x (List.mem_of_getElem? hx1)
    have ly := hwl y (List.mem_of_getElem? hy2)
    have step := hx_looks Lk lx ly (hE i x y hx1 hy2)
    have dd := si _ _ d5
    obtain ⟨jl, _⟩ := hx_at lx
    have jg : hx m x < gr.length := by rw [Lk.len, ← DB.len_allR m]; exact jl
    have G5 := (Gg.same s05).same si
    obtain ⟨ga, hga⟩ : ∃ a, gs[hx m x]? = some a := ⟨gs[hx m x]'(by rw [Gg.len]; exact jg), List.getElem?_eq_getElem _⟩
    have hgl : gr[hx m x]? = some gr[hx m x] := List.getElem?_eq_getElem jg
    have i1 : atI (nats_ (ws.map (hx m))) (0 + (i : Int) + 1) = some (.int (hx m y : Nat)) := by rw [Int.zero_add]; exact atI_nat (j := i + 1) (by rw [List.getElem?_map, List.getElem?_map, hy2]; rfl)
    have i2 : atI (nats_ (ws.map (hx m))) (0 + (i : Int)) = some (.int (hx m x : Nat)) := by rw [Int.zero_add]; exact atI_nat (j := i) (by rw [List.getElem?_map, List.getElem?_map, hx1]; rfl)
    refine ⟨rfl, tYif ⟨_, rfl, _, rfl, _, _, rfl, rfl, D4, _, _, _, rfl, rfl, SqL.of dd, i1, _, rfl, _, rfl, _, rfl, D4, _, _, _, rfl, rfl, SqL.of dd, i2, g, _, _, .ref ga, rfl, rfl, SqL.of G5.at_, atI_nat (by rw [List.getElem?_map, hga]; rfl), ga, _, rfl, .inl (SqL.of (G5.row _ _ _ hga hgl)), rfl, flat_nats _, ?_⟩⟩
    have gd : gr.getD (hx m x) [] = gr[hx m x] := getD_lt jg
    rw [gd] at step
    rw [if_neg Bool.false_ne_true, inV_nat, decide_eq_true step]
    refine ⟨_, di, ?_, fun b o hb => ?_, ?_⟩
    · rw [List.length_map, List.length_replicate]; exact small1000 (by omega)
    · rw [upd_ne (ne_of_none hb hD6)]; exact si _ _ hb
    · rw [upd_same, List.replicate_succ', List.map_append]; rfl
  · rintro Hi ⟨si, di⟩
    refine ⟨D6, _, rfl, SqL.of di, ?_⟩
    rw [rep]
    exact k Hi (s05.trans si)
end
end DW


set_option maxHeartbeats 4000000
/-! A def that is run where no repr is under way (Around.guards is some []): the promise, the call, the law's call. -/
namespace DW
open PySem PySem.Spec PyProof.Rows L2
structure FnG (P : Program) (w : World) (K : PySem.W.Frag) (mg : Str → Option Value) (base : Heap) (k : Nat) (f : Addr) (fd : FuncData) (ps : List Str) (sp : Sp) : Prop where
  len : ∀ vs H Q, sp vs H Q E0 → vs.length = ps.length
  run : ∀ (A : Around) (outer : List Env) (s : Shared) (H : Hp) (args : Args) (us : List Value) (vs : List V) (Q : VK), Room k A → A.guards = some [] → Env0 P w K mg base A outer s H → BindsTo s fd args (ps.zip us) → Vals vs us → sp vs H Q E0 →
    codeAny (model P w) A (.call (.ref f) args) (CR CX0 outer P w H s Q E0) s
structure DfG (P : Program) (w : World) (K : PySem.W.Frag) (mg : Str → Option Value) (base : Heap) (x : Str) (k : Nat) (ps : List Str) (sp : Sp) : Prop where
  ex : ∃ (f : Addr) (fd : FuncData), mg x = some (.ref f) ∧ PySem.W.keepIn K (.ref f) = true ∧ Binds K fd ps [] ∧ FnG P w K mg base k f fd ps sp ∧ ∃ (oc : Value) (od : Option Addr) (osl : Array (Option Value)), K.lookup f = some ⟨oc, od, .func fd, osl⟩
section
variable {P : Program} {w : World} {K : PySem.W.Frag} {mg : Str → Option Value} {base : Heap} {x : Str} {st : Stmt} {N ps : List Str} {k : Nat} {sp : Sp} {f : Addr} {fd : FuncData}
theorem okG (F : FunD K x x (defArgs st) (defBody st) (defScope st) [] [] f fd) (S : FnScope N ps (defScope st)) (len : ∀ vs H Q, sp vs H Q E0 → vs.length = ps.length)
    (body : ∀ (cdv : Value) (A : Around) (outer : List Env) (s : Shared) (H : Hp) (vs : List V) (Q : VK), Room k (A.deeper (envOfC x (defScope st) s.heap.objs.size f cdv)) → A.guards = some [] → sp vs H Q E0 →
      ∃ t, PSs (cxOf CX0 P w K mg base N x (defScope st) f cdv A outer s H E0).nox (defBody st) t ∧ t { nx := fun _ H' => Q .non H', rt := Q } (start N vs) H) : FnG P w K mg base (k + 1) f fd ps sp := by
  obtain ⟨oc, od, dV, kV, doc, pm, an, cdv, ct, osl, rfl, lk, hcd, _, _⟩ := F.ex
  refine ⟨len, fun A outer s H args us vs Q hr hg e0 hb r h => ?_⟩
  have there : K.In s.heap := e0.mod.kin.keeps fun b o q => (e0.bs b o q).1
  have free : s.heap.NoLimit := e0.mod.nolimit.keeps fun b o q => (e0.bs b o q).1
  refine codeAny_call_function hr.depth (there _ _ lk) rfl S.co S.gen rfl (PySem.W.codeRec_of there hcd) (hb _ _ _ _ (wpAny_newFunctionEnv_cells S.kind (fun y hy => ?_) fun env he s1 ent => ?_))
  · exact (S.par y.1 (List.of_mem_zip hy).1).elim Or.inl fun q => .inr ⟨q, PySem.W.cellsFrom_some _ _ _ (.inl q)⟩
  · subst he
    obtain ⟨t, ht, hq⟩ := body cdv A outer s H vs Q (hr.deeper _) hg h
    have I := inv_start (CX := CX0) (E := E0) S hr.hd e0 (len vs H Q h) r ent
    refine ⟨free.keeps ent.toInCall.keep, codeAny_func (wpAny_mono (ht.nox.run [] s1 (start N vs) H _ I hq) (fun fl s' hs => ?_) fun _ _ hs => hs)⟩
    cases fl with
    | ret u => exact (match hs with | ⟨v, σ', H', J, rv, q⟩ => ⟨v, H', J.os, J.bare, J.base, J.hok, rv, q⟩)
    | next => exact (match hs with | ⟨σ', H', J, q⟩ => ⟨V.non, H', J.os, J.bare, J.base, J.hok, rfl, q⟩)
    | brk => exact (match hs with | ⟨_, _, _, q⟩ => q.elim)
    | cont => exact (match hs with | ⟨_, _, _, q⟩ => q.elim)
theorem DfG.of (A : Has K mg x st) (S : FnScope N ps (defScope st)) (len : ∀ vs H Q, sp vs H Q E0 → vs.length = ps.length)
    (hb : ∀ (kV doc pm : Value) (an : Option Addr) (cdv ct : Value) (us : List Value), us.length = ps.length → bindArgs (PySem.W.fnOf x x (defArgs st) (defBody st) (defScope st) .none kV doc pm an cdv ct) ⟨us, []⟩ = pure (ps.zip us))
    (body : ∀ (f : Addr) (cdv : Value) (A : Around) (outer : List Env) (s : Shared) (H : Hp) (vs : List V) (Q : VK), Room k (A.deeper (envOfC x (defScope st) s.heap.objs.size f cdv)) → A.guards = some [] → sp vs H Q E0 →
      ∃ t, PSs (cxOf CX0 P w K mg base N x (defScope st) f cdv A outer s H E0).nox (defBody st) t ∧ t { nx := fun _ H' => Q .non H', rt := Q } (start N vs) H) : DfG P w K mg base x (k + 1) ps sp := by
  obtain ⟨f, fd, hm, F⟩ := A.ex
  have at_ : ∃ (oc : Value) (od : Option Addr) (osl : Array (Option Value)), K.lookup f = some ⟨oc, od, .func fd, osl⟩ := by
    obtain ⟨oc, od, _, _, _, _, _, _, _, osl, e, lk, _⟩ := F.ex
    exact ⟨oc, od, osl, e ▸ lk⟩
  exact ⟨f, fd, hm, F.kp, F.bindsN hb, okG F S len (body f), at_⟩
end
section
variable {X : Cx} {k : Nat} {ps : List Str} {sp : Sp} {x : Str} {p pos : Pos} {e : Expr} {es : List Expr} {t : TA}
theorem pe_dfG (D : DfG X.prog X.w X.K X.mg X.base x k ps sp) (hr : Room k X.A) (hgd : X.A.guards = some []) (ha : PA X (e :: es) t) (hg : Gl X x := by rfl)
    (hdb : (x == ("__debug__" : Str)) = false := by decide) (he : starEach (e :: es) X.env = (false, eval e X.env) :: starEach es X.env := by rfl) (hpl : (backTo pos (starEach es X.env)).any (·.1) = false := by rfl) :
    PE X (.Call (.Name x p) (e :: es) [] pos) (tCall sp [] E0 t) := by
  obtain ⟨f, fd, hm, hk, hb, F, _⟩ := D.ex
  refine ⟨fun pins s σ H Q I h => wpAny_Call_Name_kw (ld_glob I hg hm (PySem.W.callWith_K (h₀ := X.base) I.ok.mod.kin hk (thn (ha.run pos pins s σ H _ I h) fun us s1 ⟨vs, H1, I1, r, q⟩ => ⟨I1.kIn, ?_⟩) he hpl) hdb)⟩
  have r2 : Vals (vs ++ []) (us ++ []) := r.append .nil
  have q : sp (vs ++ []) H1 Q E0 := q
  have hl : (us ++ []).length = ps.length := by rw [← r2.length]; exact F.len _ _ _ q
  refine wpAny_call (codeAny_mono (F.run X.A X.stack s1 H1 ⟨us, []⟩ (us ++ []) (vs ++ []) Q hr hgd I1.env0 (hb s1 us I1.kIn hl) r2 q) fun res s' hq => ?_)
  cases res with
  | error e => exact hq.elim
  | ok fl =>
    cases fl with
    | ret u => exact I1.after hq
    | next => exact hq.elim
    | brk => exact hq.elim
    | cont => exact hq.elim
end
/-! the law's call -/
/-- the script alone is tracked, known to its object, if the written part has it not -/
def scr (K : PySem.W.Frag) (a : Addr) (O : Obj) (xs : List V) : Hp := fun b => if b = a ∧ K.lookup a = none then some (.frz O (.lst xs)) else none
theorem scr_some {K : PySem.W.Frag} {a b : Addr} {O : Obj} {xs : List V} {u : HO} (h : scr K a O xs b = some u) : b = a ∧ u = .frz O (.lst xs) ∧ K.lookup a = none := by
  by_cases c : b = a ∧ K.lookup a = none
  · exact ⟨c.1, (Option.some.inj ((if_pos c).symm.trans h)).symm, c.2⟩
  · cases (if_neg c).symm.trans h
theorem law_callG {P : Program} {w : World} {K : PySem.W.Frag} {mg mb : Str → Option Value} {k : Nat} {fa a : Addr} {fd : FuncData} {x : Str} {sp : Sp} {s₁ : Shared} {vs : List Value} {ns : List Int} (KX : K.In s₁.heap) (hns : s₁.heap.Ns mainGlobals mg) (hb : s₁.heap.Ns builtinsNs mb)
    (hbb : ∀ y : Str, y ≠ "__name__" → mb y = bootBuiltins y) (hlim : s₁.heap.NoLimit) (hg : s₁.gens = #[]) (ha : s₁.heap.get? a = some { cls := .type "list", data := .seq vs.toArray }) (hi : IntsAre vs ns) (hl : ns.length ≤ sizeLine) (hr : Room k callerA)
    (F : ∀ base : Heap, K.In base → base.Ns mainGlobals mg → FnG P w K mg base k fa fd [x] sp) (bind : Binds K fd [x] [])
    (hsp : ∀ H : Hp, SqL K H a (ns.map V.int) → sp [.ref a] H (fun v _ => v = .bl true) E0) :
    codeAny (model P w) callerA (.call (.ref fa) ⟨[.ref a], []⟩) (fun r s' => r = .ok (.ret (.bool true)) ∧ OldK s₁.heap s'.heap ∧ s'.os = s₁.os ∧ AllBare s'.gens) s₁ := by
  have rv := vals_ints hi
  obtain ⟨H, hH⟩ : ∃ H, H = scr K a { cls := .type "list", data := .seq vs.toArray } (ns.map V.int) := ⟨_, rfl⟩
  have only : ∀ {b : Addr} {u : HO}, H b = some u → b = a ∧ u = .frz { cls := .type "list", data := .seq vs.toArray } (.lst (ns.map V.int)) ∧ K.lookup a = none := fun h => scr_some (hH ▸ h)
  have seq : SqL K H a (ns.map V.int) := by
    cases hk : K.lookup a with
    | none => exact .inl (.inr ⟨{ cls := .type "list", data := .seq vs.toArray }, by rw [hH]; exact if_pos ⟨rfl, hk⟩⟩)
    | some o =>
      have same := (KX a o hk).symm.trans ha
      cases same
      exact .inr ⟨_, vs.toArray, _, hk, rfl, rfl, rfl, by rw [List.size_toArray, hi.length] ; exact hl, by simpa using rv⟩
  have ok : HOk P w H s₁.heap := fun b u h => by
    obtain ⟨rfl, rfl, _⟩ := only h
    exact ⟨ha, by rw [List.length_map]; exact hl, vs, _, rv, ha⟩
  have low : ∀ {b : Addr} {o : Obj}, s₁.heap.get? b = some o → (b = a → K.lookup a ≠ none) → (hidT s₁.heap H).get? b = some o := fun {b o} e n => hidT_get e (by
    cases q : H b with
    | none => rfl
    | some u => exact absurd (only q).2.2 (n (only q).1))
  have spaces : ∀ {b : Addr} {m : Str → Option Value}, s₁.heap.Ns b m → (hidT s₁.heap H).Ns b m := fun {b m} ⟨o, es, ep, e, d, r⟩ => ⟨o, es, ep, low e fun z => (by
    rw [z, ha] at e
    cases e
    cases d), d, r⟩
  have kin : K.In (hidT s₁.heap H) := fun b o e => low (KX b o e) fun z q => by rw [z, q] at e; cases e
  have md : Mod K mg (hidT s₁.heap H) := ⟨kin, spaces hns, ⟨mb, spaces hb, hbb⟩, hlim.elim fun mc q => ⟨mc, spaces q.1, q.2⟩⟩
  have env : Env0 P w K mg (hidT s₁.heap H) callerA [] s₁ H := ⟨rfl, md, fun _ _ e => of_hidT e, Nat.le_of_eq (hidT_size _ _), trivial, fun b z => (nomatch (show b ∈ ([] : List Addr) from z)), ok, .of_eq hg⟩
  refine codeAny_mono ((F _ kin (spaces hns)).run callerA [] s₁ H ⟨[.ref a], []⟩ [.ref a] [.ref a] _ hr rfl env (bind s₁ [.ref a] KX rfl) (.cons rfl .nil) (hsp H seq)) fun res s' done => ?_
  cases res with
  | error e => exact done.elim
  | ok fl =>
    cases fl with
    | next => exact done.elim
    | brk => exact done.elim
    | cont => exact done.elim
    | ret u =>
      obtain ⟨v, H', os, bare, un, ok', ru, q⟩ := done
      have q : v = .bl true := q
      rw [q] at ru
      cases ru
      refine ⟨rfl, OldK.of_keep fun b o e => ?_, os, bare⟩
      cases hb : H b with
      | none => exact un.keep b o e hb (fun z => (nomatch (show b ∈ ([] : List Addr) from z))) (by simp)
      | some u =>
        obtain ⟨rfl, rfl, _⟩ := only hb
        rw [ha] at e
        rw [← e]
        exact (ok' b _ (un.frzs b _ _ hb)).1
/-- of the promise for every base, one function object -/
theorem law_run {P : Program} {w : World} {K : PySem.W.Frag} {mg mb : Str → Option Value} {k : Nat} {fa a : Addr} {x y : Str} {sp : Sp} {s₁ : Shared} {vs : List Value} {ns : List Int} (KX : K.In s₁.heap) (hns : s₁.heap.Ns mainGlobals mg) (hb : s₁.heap.Ns builtinsNs mb)
    (hbb : ∀ y : Str, y ≠ "__name__" → mb y = bootBuiltins y) (hlim : s₁.heap.NoLimit) (hg : s₁.gens = #[]) (ha : s₁.heap.get? a = some { cls := .type "list", data := .seq vs.toArray }) (hi : IntsAre vs ns) (hl : ns.length ≤ sizeLine) (hr : Room k callerA) (hm : mg y = some (.ref fa))
    (F : ∀ base : Heap, DfG P w K mg base y k [x] sp) (hsp : ∀ H : Hp, SqL K H a (ns.map V.int) → sp [.ref a] H (fun v _ => v = .bl true) E0) :
    codeAny (model P w) callerA (.call (.ref fa) ⟨[.ref a], []⟩) (fun r s' => r = .ok (.ret (.bool true)) ∧ OldK s₁.heap s'.heap ∧ s'.os = s₁.os ∧ AllBare s'.gens) s₁ := by
  obtain ⟨f0, fd, m0, _, bind, _, oc, od, osl, lk⟩ := (F s₁.heap).ex
  rw [hm] at m0
  cases m0
  refine law_callG KX hns hb hbb hlim hg ha hi hl hr (fun base _ _ => ?_) bind hsp
  obtain ⟨f1, fd1, m1, _, _, G, oc1, od1, osl1, lk1⟩ := (F base).ex
  rw [hm] at m1
  cases m1
  rw [lk] at lk1
  cases lk1
  exact G
end DW


set_option maxHeartbeats 4000000
/-! repr of a list of rows: what it needs. -/
namespace DW
open PySem PySem.Spec PyProof.Rows L2
theorem bI_show (v : Bool) : PyData.showable (.int (bI v)) = true := by cases v <;> decide +kernel
theorem bI_short (v : Bool) : PyData.intsShort 13 (.int (bI v)) = true := by cases v <;> decide +kernel
theorem row_show : ∀ w : DB.Ro, PyData.showableAll ((w.map bI).map .int) = true
  | [] => rfl
  | v :: w => by rw [List.map_cons, List.map_cons, PyData.showableAll, bI_show, row_show w]; rfl
theorem row_short : ∀ w : DB.Ro, PyData.intsShortAll 13 ((w.map bI).map .int) = true
  | [] => rfl
  | v :: w => by rw [List.map_cons, List.map_cons, PyData.intsShortAll, bI_short, row_short w]; rfl
theorem row_dict : ∀ w : DB.Ro, PyData.hasDictAll ((w.map bI).map .int) = false
  | [] => rfl
  | v :: w => by rw [List.map_cons, List.map_cons, PyData.hasDictAll, row_dict w]; rfl
theorem row_weight : ∀ w : DB.Ro, PyData.weightAll ((w.map bI).map .int) ≤ 2 * w.length
  | [] => Nat.le_refl _
  | v :: w => by
    have ih := row_weight w
    have h : PyData.weight (.int (bI v)) ≤ 1 := by cases v <;> decide +kernel
    rw [List.map_cons, List.map_cons, PyData.weightAll, List.length_cons]
    omega
theorem rows_all {ws : List DB.Ro} : PyData.showableAll (ws.map rowD) = true ∧ PyData.intsShortAll 13 (ws.map rowD) = true ∧ PyData.hasDictAll (ws.map rowD) = false ∧ PyData.canLayAll0 (ws.map rowD) = true ∧ PyData.depthAll (ws.map rowD) ≤ 1 := by
  induction ws with
  | nil => exact ⟨rfl, rfl, rfl, rfl, Nat.zero_le _⟩
  | cons w ws ih =>
    obtain ⟨i1, i2, i3, i4, i5⟩ := ih
    have e1 : PyData.showable (rowD w) = true := by unfold rowD; rw [PyData.showable]; exact row_show w
    have e2 : PyData.intsShort 13 (rowD w) = true := by unfold rowD; rw [PyData.intsShort]; exact row_short w
    have e3 : PyData.hasDict (rowD w) = false := by unfold rowD; rw [PyData.hasDict]; exact row_dict w
    have e4 : PyData.canLay0 (rowD w) = true := by unfold rowD; rw [PyData.canLay0]; exact PySem.W.ke_canLayAll0 _
    have e5 : PyData.depth (rowD w) ≤ 1 := by unfold rowD; rw [PyData.depth, PySem.W.ke_depthAll]; exact Nat.le_refl _
    rw [List.map_cons, PyData.showableAll, PyData.intsShortAll, PyData.hasDictAll, PyData.canLayAll0, PyData.depthAll, i1, i2, i3, i4, e1, e2, e3, e4]
    exact ⟨rfl, rfl, rfl, rfl, by omega⟩
theorem rows_weight : ∀ {ws : List DB.Ro}, (∀ w ∈ ws, w.length ≤ 4) → PyData.weightAll (ws.map rowD) ≤ 9 * ws.length
  | [], _ => Nat.le_refl _
  | w :: ws, h => by
    have ih := rows_weight (ws := ws) fun x hx => h x (List.mem_cons_of_mem _ hx)
    have hw := h w List.mem_cons_self
    have e : PyData.weight (rowD w) ≤ 8 := by
      unfold rowD
      rw [PyData.weight]
      have := row_weight w
      omega
    rw [List.map_cons, PyData.weightAll, List.length_cons]
    omega
structure Shown (d : PyData) : Prop where
  s : d.showable = true
  n : d.hasDict = false
  p : d.depth ≤ 8
  l : d.shown.length ≤ sizeLine
theorem rows_shown {ws : List DB.Ro} (hl : ∀ w ∈ ws, w.length ≤ 4) (few : ws.length ≤ 16) : Shown (rowsD ws) := by
  obtain ⟨i1, i2, i3, i4, i5⟩ := rows_all (ws := ws)
  have hw := rows_weight hl
  have e1 : PyData.showable (rowsD ws) = true := by unfold rowsD; rw [PyData.showable]; exact i1
  have e2 : PyData.intsShort 13 (rowsD ws) = true := by unfold rowsD; rw [PyData.intsShort]; exact i2
  have e3 : PyData.hasDict (rowsD ws) = false := by unfold rowsD; rw [PyData.hasDict]; exact i3
  have e4 : PyData.canLay0 (rowsD ws) = true := by unfold rowsD; rw [PyData.canLay0]; exact i4
  have e5 : PyData.depth (rowsD ws) ≤ 2 := by unfold rowsD; rw [PyData.depth]; omega
  have e6 : PyData.weight (rowsD ws) ≤ 144 := by unfold rowsD; rw [PyData.weight]; omega
  refine ⟨e1, e3, by omega, Nat.le_trans (PyProof.Rows.shown_le13 ?_ e2) (show (15728653 : Nat) ≤ sizeLine by rw [sizeLine_eq]; decide)⟩
  unfold PyData.layable0
  rw [e4, decide_eq_true (show PyData.depth (rowsD ws) ≤ 64 by omega), decide_eq_true (show PyData.weight (rowsD ws) ≤ 2 ^ 20 by omega)]
  rfl
end DW


set_option maxHeartbeats 8000000
/-! _law_asked. -/
namespace DW
open PySem PySem.Spec PyProof.Rows L2
theorem scf_law_asked : FnScope ["book", "steps", "rooms", "graph", "places", "goal", "start", "end", "turns", "met", "fresh", "place", "due", "k", "kept", "turn", "found", "row"] ["book", "steps", "rooms", "graph", "places", "goal"] (defScope sf_law_asked) := ⟨rfl, rfl, rfl, by decide +kernel, rfl, by decide +kernel, by decide +kernel⟩
theorem path_step {E : DB.Ro → DB.Ro → Bool} : ∀ {ws : List DB.Ro}, DB.Path E ws → ∀ (i : Nat) (x y : DB.Ro), ws[i]? = some x → ws[i + 1]? = some y → E x y = true
  | _, .one y, i, x, z, h1, h2 => by simp at h2
  | _, .cons a b r h p, 0, x, y, h1, h2 => by
    have e1 : a = x := by simpa using h1
    have e2 : b = y := by simpa using h2
    rw [← e1, ← e2]; exact h
  | _, .cons a b r h p, i + 1, x, y, h1, h2 => path_step p i x y h1 h2
structure WayOk (m : Nat) (E : DB.Ro → DB.Ro → Bool) (S G : DB.Ro → Bool) (i : Nat) (ws : List DB.Ro) : Prop where
  first : ∃ y, ws[0]? = some y ∧ S y = true
  last : ∃ y, ws[ws.length - 1]? = some y ∧ G y = true
  step : ∀ (j : Nat) (x y : DB.Ro), ws[j]? = some x → ws[j + 1]? = some y → E x y = true
  len : ws.length = i + 1
  row : ∀ w ∈ ws, w.length = m
theorem wyr_ok {m : Nat} {E : DB.Ro → DB.Ro → Bool} {f g : DB.Ro → Bool} {i : Nat} (h : mee m E f g i = true) : WayOk m E f g i (wyr m E f g i) := by
  have gk := DB.gre_ok m (fun x => (DB.rs m E f i).1 x && g x) h
  rw [Bool.and_eq_true] at gk
  obtain ⟨x, r, e1, e2, e3, e4, e5, pre, e6⟩ := DB.bkl_ok i (DB.gre m fun x => (DB.rs m E f i).1 x && g x) [] (DB.len_gre _ _) gk.1 (.one _) (fun r h => nomatch h)
  unfold wyr
  rw [e1]
  refine ⟨⟨x, rfl, e2⟩, ⟨_, ?_, gk.2⟩, path_step e3, by simpa using e5, e4⟩
  rw [e6]
  simp
theorem filter_first {f : Nat → Bool} {i n : Nat} (hi : i < n) (hf : f i = true) (hno : ∀ j, j < i → f j = false) : ∃ r, (List.range n).filter f = i :: r := by
  obtain ⟨k, rfl⟩ : ∃ k, n = i + (k + 1) := ⟨n - i - 1, by omega⟩
  refine ⟨((List.range k).map fun x => i + (x + 1)).filter f, ?_⟩
  rw [List.range_add, List.filter_append, List.range_succ_eq_map, List.map_cons, Nat.add_zero, List.filter_cons, hf, if_pos rfl, List.map_map]
  have e : (List.range i).filter f = [] := List.filter_eq_nil_iff.mpr fun j hj => by rw [hno j (List.mem_range.mp hj)]; decide
  rw [e, List.nil_append]
  rfl
theorem filter_none {f : Nat → Bool} {n : Nat} (hno : ∀ j, j < n → f j = false) : (List.range n).filter f = [] := List.filter_eq_nil_iff.mpr fun j hj => by rw [hno j (List.mem_range.mp hj)]; decide
theorem grow_add {a b c t x : Nat} (h1 : a ≤ b + x) (h2 : b ≤ c + 446000 * t) (h : x ≤ 446000) : a ≤ c + 446000 * (t + 1) := by omega
def spAsked (C : Addr) : Sp := fun vs H Q _ => ∃ (b : Bk) (rows : List Rw) (st n gn : Nat) (rp g p go : Addr) (gs : List Addr) (gr : List (List Nat)) (pl gl : List Nat) (E : DB.Ro → DB.Ro → Bool) (f G : DB.Ro → Bool), vs = [.ref b.p, .int (st : Nat), .ref rp, .ref g, .ref p, .ref go] ∧
  BkAt C b H rows ∧ WdS b.marks ∧ rows.length + 900000 ≤ LIM ∧ H rp = some (.tup [.int (n : Nat), .int (gn : Nat)]) ∧ Is rows st (fun e => E (nw b e) (tn b e)) ∧ Is rows n (fun e => f (nw b e)) ∧ Is rows gn (fun e => G (nw b e)) ∧ NowRoom b rows n ∧ NowRoom b rows gn ∧
  Gr H g gs gr ∧ H p = some (.lst (nats_ pl)) ∧ H go = some (.lst (nats_ gl)) ∧ g ≠ b.rl ∧ (∀ a ∈ gs, a ≠ b.rl) ∧ p ≠ b.rl ∧ go ≠ b.rl ∧ pl.length ≤ 16 ∧ DB.Looks (nm b) E gr ∧ DB.Sees (nm b) f pl ∧ DB.Sees (nm b) G gl ∧
  ∀ (rows' : List Rw) (H' : Hp), DB.Grow b.marks rows rows' → BkAt C b H' rows' → K2 b.rl b.pl H H' → rows'.length ≤ rows.length + 900000 → Q (.bl true) H'
theorem Gr.k2 {C : Addr} {b : Bk} {H H' : Hp} {rows : List Rw} {g : Addr} {gs : List Addr} {gr : List (List Nat)} (G : Gr H g gs gr) (k : K2 b.rl b.pl H H') (B : BkAt C b H rows) (n1 : g ≠ b.rl) (n2 : ∀ a ∈ gs, a ≠ b.rl) : Gr H' g gs gr :=
  ⟨k.lst B G.at_ n1, G.len, fun i a r h1 h2 => k.lst B (G.row i a r h1 h2) (n2 a (List.mem_of_getElem? h1))⟩
section
variable {P : Program} {w : World} {K : PySem.W.Frag} {mg : Str → Option Value} {base : Heap} {C : Addr}
theorem d_asked (T : Tx w K mg C) (A : Has K mg "_law_asked" sf_law_asked) (d__law_turns : Df P w K mg base "_law_turns" 2 ["graph", "places"] spTurns) (d_way_to : Df P w K mg base "way_to" 16 ["book", "steps", "start", "goal"] (spWayTo K C)) (d__law_is_way : Df P w K mg base "_law_is_way" 3 ["rows", "graph", "places", "goal", "found"] spIsWay)
    (d__law_rows : Df P w K mg base "_law_rows" 1 ["size"] spRows) (d__law_now : Df P w K mg base "_law_now" 1 ["order"] (spLNow K)) (d_order : Md P w K mg base C "order" 1 ["self"] (spOrder C)) (d_way_shows : Df P w K mg base "way_shows" 15 ["book", "steps", "start", "goal", "rows"] (spWayShows K C)) :
    DfG P w K mg base "_law_asked" 17 ["book", "steps", "rooms", "graph", "places", "goal"] (spAsked C) := by
  refine DfG.of A scf_law_asked (fun vs H Q h => ?_) (fun _ _ _ _ _ _ us hl => match us, hl with | [_, _, _, _, _, _], _ => rfl) (fun fa cdv A outer s H vs Q hr hg h => ?_)
  · obtain ⟨b, rows, st, n, gn, rp, g, p, go, gs, gr, pl, gl, E, f, G, rfl, _⟩ := h; rfl
  obtain ⟨b, rows, st, n, gn, rp, g, p, go, gs, gr, pl, gl, E, f, G, rfl, B, W, lim, hrp, hst, hn, hgn, nrn, nrg, Gg, hp, hgo, g1, g2, p1, go1, lp, Lk, Sp_, Sg, k⟩ := h
  have hgd : (A.deeper (envOfC "_law_asked" (defScope sf_law_asked) s.heap.objs.size fa cdv)).guards = some [] := hg
  refine ⟨_, (pss_cons (ps_asg (pv 2) (pg_tup rfl (pgs_cons (pg_name (i := 6) scf_law_asked.nd rfl (Or.inl rfl)) (pgs_cons (pg_name (i := 7) scf_law_asked.nd rfl (Or.inl rfl)) pgs_nil))))
      (pss_cons (ps_set (i := 8) scf_law_asked.nd rfl (Or.inl rfl) (pe_df d__law_turns (hr.mono (by omega)) (pa_cons (pv 3) (pa_cons (pv 4) pa_nil))))
      (pss_cons (ps_set (i := 9) scf_law_asked.nd rfl (Or.inr rfl) (pe_lc (own := [("fresh", 10)]) (g := gName 10) (tt := tYes) rfl scf_law_asked.nd (pi_list (pv 8)) (blkOk_by (own := [("fresh", 10)]) (N := ["book", "steps", "rooms", "graph", "places", "goal", "start", "end", "turns", "met", "fresh", "place", "due", "k", "kept", "turn", "found", "row"]) (sc := defScope sf_law_asked) (by decide +kernel)) (fun _ _ _ _ _ => pg_name (i := 10) scf_law_asked.nd rfl (Or.inl rfl)) (fun _ _ _ _ _ => pts_nil) (fun _ _ _ _ _ => (pe_callB (cr_anyK (K := K) rfl rfl) (by rfl) T.any (by decide +kernel) (pa_cons (pe_lc (own := [("place", 11)]) (g := gName 11) (tt := tYes) rfl scf_law_asked.nd (pi_listK (K := K) rfl (pv 10)) (blkOk_by (own := [("place", 11)]) (N := ["book", "steps", "rooms", "graph", "places", "goal", "start", "end", "turns", "met", "fresh", "place", "due", "k", "kept", "turn", "found", "row"]) (by rfl)) (fun _ _ _ _ _ => pg_name (i := 11) scf_law_asked.nd rfl (Or.inl rfl)) (fun _ _ _ _ _ => pts_nil) (fun _ _ _ _ _ => (pe_cmpR (op_in_seqK (K := K) rfl) (pv 11) (pv 5) (by rfl)))) pa_nil)))))
      (pss_cons (ps_setLc (i := 12) (own := [("k", 13)]) (g := gName 13) rfl scf_law_asked.nd rfl rfl (sw_true rfl rfl rfl (by decide +kernel)) (pi_range1 (by rfl) T.range (pa_cons (pe_callB call_len_seq (by rfl) T.len (by decide +kernel) (pa_cons (pv 9) pa_nil)) pa_nil)) (blkOk_by (own := [("k", 13)]) (N := ["book", "steps", "rooms", "graph", "places", "goal", "start", "end", "turns", "met", "fresh", "place", "due", "k", "kept", "turn", "found", "row"]) (sc := defScope sf_law_asked) (by decide +kernel)) (fun _ _ _ _ _ => pg_name (i := 13) scf_law_asked.nd rfl (Or.inl rfl)) (fun _ _ _ _ _ => (pts_one (pt_val (pe_ix (ix_listK (K := K) rfl) (pv 9) (pv 13) (fun _ _ => rfl))))) (fun _ _ _ _ _ => (pv 13)))
      (pss_cons (ps_set (i := 14) scf_law_asked.nd rfl (Or.inl rfl) pe_str)
      (pss_cons (ps_for PassesOwn.never rfl (pi_range1 (by rfl) T.range (pa_cons pe_int pa_nil)) (pg_name (i := 15) scf_law_asked.nd rfl (Or.inl rfl)) (pss_cons (ps_set (i := 16) scf_law_asked.nd rfl (Or.inl rfl) (pe_df d_way_to (hr.mono (by omega)) (pa_cons (pv 0) (pa_cons (pv 1) (pa_cons (pv 6) (pa_cons (pv 7) pa_nil))))))
      (pss_one (ps_if (pt_cmpR (op_eqD hr.units) (pv 12) (pe_lst pa_nil) (nomark _)) (pss_one (ps_if (pt_cmpR op_notN (pv 16) pe_non (nomark _)) (pss_one (ps_ret pe_bl)) pss_nil)) (pss_one (ps_if (pt_not (pt_val (pe_df d__law_is_way (hr.mono (by omega)) (pa_cons (pe_df d__law_rows (hr.mono (by omega)) (pa_cons (pe_callB call_len_seq (by rfl) T.len (by decide +kernel) (pa_cons (pe_df d__law_now (hr.mono (by omega)) (pa_cons (pe_md0 d_order T.cl (hr.mono (by omega)) (pv 0)) pa_nil)) pa_nil)) pa_nil)) (pa_cons (pv 3) (pa_cons (pv 4) (pa_cons (pv 5) (pa_cons (pv 16) pa_nil)))))))) (pss_one (ps_ret pe_bl)) (pss_one (ps_if (PW.pt (pw_or (pt_cmpR op_ne (pe_callB call_len_seq (by rfl) T.len (by decide +kernel) (pa_cons (pv 16) pa_nil)) (pe_op op_add (pe_ix ix_list (pv 12) pe_int (fun _ _ => rfl)) pe_int) (nomark _)) (pw_or1 (pt_cmpR op_notIn_seq (pv 14) (pe_tup (pa_cons pe_str (pa_cons (pe_callB (call_reprD hgd hr.units) (by rfl) T.repr (by decide +kernel) (pa_cons (pv 16) pa_nil)) pa_nil))) (by rfl))))) (pss_one (ps_ret pe_bl)) (pss_one (ps_if (pt_cmpR op_notBl (pe_df d_way_shows (hr.mono (by omega)) (pa_cons (pv 0) (pa_cons (pv 1) (pa_cons (pv 6) (pa_cons (pv 7) (pa_cons (pv 16) pa_nil)))))) pe_bl (nomark _)) (pss_one (ps_ret pe_bl)) (pss_cons (ps_set (i := 14) scf_law_asked.nd rfl (Or.inl rfl) (pe_callB (call_reprD hgd hr.units) (by rfl) T.repr (by decide +kernel) (pa_cons (pv 16) pa_nil)))
      (pss_cons (ps_for PassesOwn.never rfl (pi_list (pv 16)) (pg_name (i := 17) scf_law_asked.nd rfl (Or.inl rfl)) (pss_one (ps_expr (pe_bm PySem.F.plainAttrs_list PySem.F.slot_list_append PySem.F.type_list_append mt_append (pv 17) (pa_cons pe_int pa_nil)))))
      (pss_one (ps_expr (pe_bm PySem.F.plainAttrs_list PySem.F.slot_list_append PySem.F.type_list_append mt_append (pv 16) (pa_cons (pe_lst pa_nil) pa_nil))))))))))))))))
      (pss_one (ps_ret pe_bl)))))))), ?_⟩
  have fewm : nm b ≤ 4 := nowL_few b.marks
  refine ⟨_, rfl, rp, _, rfl, SqT.of hrp, rfl, _, _, rfl, _, _, rfl, rfl, ?_⟩
  refine ⟨_, rfl, _, rfl, g, p, gs, gr, pl, nm b, E, f, rfl, Gg, hp, fewm, lp, Lk, Sp_, fun q fs KK H1 s1 hK hK16 N1 => ?_⟩
  -- met
  have lt16 : ∀ i, (DB.ts gr pl i).1.length ≤ 16 := fun i => (ts_len (by rw [Lk.len, ← DB.len_allR (nm b)]; exact rows_few _ fewm) lp i).1
  refine ⟨_, rfl, q, rfl, ⟨_, SqL.of N1.at_⟩, fun D hD => ?_⟩
  refine lc_list (K := K) (a := q) (xs := fs.map V.ref) (fun i H' => Same H1 H' ∧ H' D = some (.lst (((List.range i).map fun i => (DB.ts gr pl i).1.any fun j => decide (j ∈ gl)).map V.bl))) ⟨Same.new hD _, upd_same⟩ (fun i H' _ h => SqL.of (h.1 _ _ N1.at_)) ?_ ?_
  · rintro i y H2 hy ⟨s2, d2⟩
    rw [List.getElem?_map] at hy
    obtain ⟨x, hx1, rfl⟩ := Option.map_eq_some_iff.mp hy
    have il := (List.getElem?_eq_some_iff.mp hx1).1
    have ik : i < KK := by rw [N1.len, List.length_map, List.length_range] at il; exact il
    have xr := s2 _ _ (N1.row i x (DB.ts gr pl i).1 hx1 (by rw [List.getElem?_map, List.getElem?_range ik]; rfl))
    refine ⟨rfl, tYif ⟨_, rfl, x, rfl, ⟨_, SqL.of xr⟩, fun D2 hD2 => ?_⟩⟩
    refine lc_list (K := K) (a := x) (xs := nats_ (DB.ts gr pl i).1) (fun j H' => Same H2 H' ∧ H' D2 = some (.lst ((((DB.ts gr pl i).1.take j).map fun j => decide (j ∈ gl)).map V.bl))) ⟨Same.new hD2 _, upd_same⟩ (fun j H' _ h => SqL.of (h.1 _ _ xr)) ?_ ?_
    · rintro j z H3 hz ⟨s3, d3⟩
      obtain ⟨v, hv, rfl⟩ := map_nat_at hz
      refine ⟨rfl, tYif ⟨_, rfl, _, rfl, go, _, rfl, .inl (SqL.of (s3 _ _ (s2 _ _ (s1 _ _ hgo)))), rfl, flat_nats gl, ?_⟩⟩
      rw [if_neg Bool.false_ne_true, inV_nat]
      refine ⟨_, d3, ?_, fun c o hc => ?_, ?_⟩
      · rw [List.length_map, List.length_map]
        have h2 : ((DB.ts gr pl i).1.take j).length ≤ (DB.ts gr pl i).1.length := List.length_take_le' _ _
        have := lt16 i
        exact small1000 (by omega)
      · rw [upd_ne (ne_of_none hc hD2)]; exact s3 _ _ hc
      · rw [upd_same, List.take_add_one, hv, List.map_append, List.map_append]; rfl
    · rintro H3 ⟨s3, d3⟩
      rw [List.length_map, List.take_length] at d3
      refine ⟨D2, _, rfl, SqL.of d3, _, s3 _ _ d2, ?_, fun c o hc => ?_, ?_⟩
      · rw [List.length_map, List.length_map, List.length_range]; exact small1000 (by omega)
      · rw [upd_ne (ne_of_none hc hD)]; exact s3 _ _ (s2 _ _ hc)
      · rw [upd_same, List.range_succ, List.map_append, List.map_append, List.any_map]; rfl
  rintro H2 ⟨s2, d2⟩
  rw [List.length_map, N1.len, List.length_map, List.length_range] at d2
  have s02 := s1.trans s2
  have meet : ∀ i, ((DB.ts gr pl i).1.any fun j => decide (j ∈ gl)) = mee (nm b) E f G i := fun i => DB.sees_meet (DB.ts_ok Lk Sp_ i).1 Sg
  have d2 : H2 D = some (.lst (((List.range KK).map (mee (nm b) E f G)).map V.bl)) := by rw [d2]; congr 3; exact List.map_congr_left fun i _ => meet i
  -- due
  refine ⟨_, rfl, D, _, rfl, .inl (SqL.of d2), _, rfl, by omega, by rw [List.length_map, List.length_map, List.length_range]; omega, fun De hDe => ?_⟩
  rw [List.length_map, List.length_map, List.length_range, Int.toNat_natCast]
  refine lc_range (fun j H' => Same H2 H' ∧ H' De = some (.lst (nats_ ((List.range j).filter (mee (nm b) E f G))))) ⟨Same.new hDe _, upd_same⟩ ?_ ?_
  · rintro j H3 hj ⟨s3, d3⟩
    rw [Int.zero_add]
    refine ⟨rfl, _, rfl, _, rfl, D, _, _, .bl (mee (nm b) E f G j), rfl, rfl, SqL.of (s3 _ _ d2), atI_nat (by rw [List.getElem?_map, List.getElem?_map, List.getElem?_range hj]; rfl), _, rfl, ?_⟩
    have ef : (List.range (j + 1)).filter (mee (nm b) E f G) = (List.range j).filter (mee (nm b) E f G) ++ (if mee (nm b) E f G j = true then [j] else []) := by
      rw [List.range_succ, List.filter_append, List.filter_cons]; rfl
    cases c : mee (nm b) E f G j with
    | true =>
      refine iteT ⟨_, rfl, _, d3, ?_, fun c o hc => ?_, ?_⟩
      · rw [List.length_map]
        have h1 := List.length_filter_le (mee (nm b) E f G) (List.range j)
        rw [List.length_range] at h1
        exact small1000 (by omega)
      · rw [upd_ne (ne_of_none hc hDe)]; exact s3 _ _ hc
      · rw [upd_same, ef, if_pos c, ← nats_snoc]
    | false =>
      refine iteF ⟨s3, ?_⟩
      rw [ef, if_neg (by rw [c]; decide), List.append_nil]
      exact d3
  rintro H3 ⟨s3, d3⟩
  have s03 := s02.trans s3
  have B3 := B.mono s03
  have De3 := B.none_ne (Same.nw s02 hDe)
  have k03 : K2 b.rl b.pl H H3 := K2.of s03
  have natsI : ∀ ks : List Nat, nats_ ks = (ks.map fun k => ((k : Nat) : Int)).map V.int := fun ks => by rw [List.map_map]; rfl
  refine ⟨2, rfl, by decide, by decide, for_range (n := 2) (fun t σ H' => ∃ (kept : Str) (v15 v16 v17 : Option V) (rows' : List Rw), σ = [some (.ref b.p), some (.int (st : Nat)), some (.ref rp), some (.ref g), some (.ref p), some (.ref go), some (.int (n : Nat)), some (.int (gn : Nat)), some (.ref q), some (.ref D), none, none, some (.ref De), none, some (.str kept), v15, v16, v17] ∧
    (kept = "" ∨ ∃ i, mee (nm b) E f G i = true ∧ (∀ j, j < i → mee (nm b) E f G j = false) ∧ kept = (rowsD (wyr (nm b) E f G i)).shown) ∧ DB.Grow b.marks rows rows' ∧ BkAt C b H' rows' ∧ K2 b.rl b.pl H3 H' ∧ rows'.length ≤ rows.length + 446000 * t) ⟨"", none, none, none, rows, rfl, .inl rfl, .refl B.wf, B3, K2.refl, by omega⟩ ?_ ?_⟩
  · rintro t σ H4 ht ⟨kept, v15, v16, v17, rows4, rfl, hk, g4, B4, k4, l4⟩
    refine ⟨_, rfl, _, rfl, _, rfl, _, rfl, b, rows4, st, n, gn, E, f, G, rfl, B4, W, by omega, hst.up g4, hn.up g4, hgn.up g4, nrn.up g4, nrg.up g4, fun K5 rows5 H5 g5 B5 k5 l5 isK5 none5 => ?_, fun K5 i rows5 H5 pf as g5 B5 k5 l5 isK5 iK few5 hno hmee L5 => ?_⟩
    · -- there is no way
      have eK := DB.K_one hK isK5
      have de : (List.range KK).filter (mee (nm b) E f G) = [] := filter_none fun j hj => none5 j (by omega)
      have d5 := (k4.trans k5).lst B3 d3 De3.2.2.1
      rw [de] at d5
      have d5 : H5 De = some (.lst (([] : List Int).map V.int)) := d5
      refine ⟨_, rfl, Nat.zero_le _, fun z hz => ?_⟩
      have s6 := Same.new hz (.lst [])
      have z6 : upd H5 z (.lst []) z = some (.lst (([] : List Int).map V.int)) := upd_same
      generalize upd H5 z (.lst []) = H6 at s6 z6 ⊢
      refine ⟨.list (([] : List Int).map .int), .list (([] : List Int).map .int), .lst (SqL.of (s6 _ _ d5)) (dp_ints _), .lst (SqL.of z6) (dp_ints _), PySem.W.ke_shaped_ints _, PySem.W.ke_shaped_ints _, true, rfl, iteT ⟨_, rfl, rfl, false, by rw [decide_eq_true rfl]; rfl, iteF ?_⟩⟩
      have l6 : rows5.length ≤ rows.length + 446000 * (t + 1) := grow_add (x := 326000) l5 l4 (by decide)
      have k6 : K2 b.rl b.pl H3 H6 := k4.trans (k5.trans (K2.of s6))
      have B6 := B5.mono s6
      refine ⟨kept, some (.int (0 + (t : Int))), some .non, v17, rows5, rfl, hk, g4.trans g5, B6, k6, l6⟩
    · -- there is one
      have eK := DB.K_one hK isK5
      obtain ⟨dr, de⟩ := filter_first (f := mee (nm b) E f G) (n := KK) (by omega) hmee hno
      have d5 := (k4.trans k5).lst B3 d3 De3.2.2.1
      rw [de] at d5
      obtain ⟨⟨y0, w0, sy0⟩, ⟨y1, w1, gy1⟩, wst, wlen, wrow⟩ := wyr_ok hmee
      generalize hws : wyr (nm b) E f G i = ws at L5 w0 w1 wst wlen wrow
      have few : ws.length ≤ 16 := by omega
      have k15 := k03.trans (k4.trans k5)
      refine ⟨_, rfl, Nat.zero_le _, fun z hz => ?_⟩
      have s6 := Same.new hz (.lst [])
      have z6 : upd H5 z (.lst []) z = some (.lst (([] : List Int).map V.int)) := upd_same
      generalize upd H5 z (.lst []) = H6 at s6 z6 ⊢
      refine ⟨.list (((i :: dr).map fun k => ((k : Nat) : Int)).map .int), .list (([] : List Int).map .int), .lst (SqL.of (by rw [s6 _ _ d5, natsI])) (dp_ints _), .lst (SqL.of z6) (dp_ints _), PySem.W.ke_shaped_ints _, PySem.W.ke_shaped_ints _, false, by rw [PyData.eqv, PySem.W.ked_eqvAll]; rfl, iteF ?_⟩
      have B6 := B5.mono s6
      -- the law looks at it
      refine ⟨_, rfl, b.p, b.dx, _, rfl, B6.ob, nmA _ _ (by decide +kernel), b, rows5, rfl, B6, fun po hpo => ?_⟩
      have s7 := Same.new hpo (.lst (b.marks.map V.str))
      have o7 : upd H6 po (.lst (b.marks.map V.str)) po = some (.lst (b.marks.map V.str)) := upd_same
      generalize upd H6 po (.lst (b.marks.map V.str)) = H7 at s7 o7 ⊢
      refine ⟨po, b.marks, rfl, SqL.of o7, fun np H8 s8 hnp np8 => ⟨np, _, rfl, .inl (SqL.of np8), nm b, by rw [List.length_map]; rfl, fewm, fun r ras H9 s9 L9 => ?_⟩⟩
      have s59 := s6.trans (s7.trans (s8.trans s9))
      have k19 := k15.trans (K2.of s59)
      have B9 := B5.mono s59
      have F9 := (LL.same L5 s59)
      refine ⟨_, rfl, _, rfl, _, rfl, _, rfl, r, g, p, go, pf, ras, gs, as, gr, pl, gl, ws, nm b, E, f, G, y0, y1, rfl, L9.rs, Gg.k2 k19 B g1 g2, k19.lst B hp p1, k19.lst B hgo go1, F9.rs, fewm, few, wrow, Lk, Sp_, Sg, w0, sy0, w1, gy1, wst, fun H10 s10 => ⟨_, rfl, iteF ?_⟩⟩
      have s5x := s59.trans s10
      have L10 := LL.same L5 s5x
      have d10 := s5x _ _ d5
      have B10 := B5.mono s5x
      have sh := rows_shown (ws := ws) (fun w hw => by rw [wrow w hw]; exact fewm) few
      have hkept : kept = "" ∨ kept = (rowsD ws).shown := by
        rcases hk with hk | ⟨i', m1, m2, hk⟩
        · exact .inl hk
        · have ei : i' = i := by
            refine Nat.le_antisymm (Nat.le_of_not_lt fun c => ?_) (Nat.le_of_not_lt fun c => ?_)
            · rw [m2 i c] at hmee; cases hmee
            · rw [hno i' c] at m1; cases m1
          rw [ei, hws] at hk
          exact .inr hk
      refine ⟨_, rfl, pf, _, rfl, .inl (SqL.of L10.at_), _, rfl, De, _, _, .int (i : Nat), rfl, rfl, SqL.of d10, at0 _ _, _, _, rfl, rfl, rfl, false, (by rw [List.length_map, L10.len, wlen]; show V.bl (!decide (V.int ((i + 1 : Nat) : Int) = V.int (((i : Nat) : Int) + 1))) = V.bl false; rw [decide_eq_true (show V.int ((i + 1 : Nat) : Int) = V.int (((i : Nat) : Int) + 1) from rfl)]; rfl), iteF ?_⟩
      refine ⟨_, rfl, _, rfl, pf, rowsD ws, rfl, L10.rs.dp, sh.s, sh.n, sh.p, sh.l, (by show 2 ≤ sizeLine; decide), fun u hu => ?_⟩
      have s11 := Same.new hu (.tup [.str "", .str (rowsD ws).shown])
      have u11 : upd H10 u (.tup [.str "", .str (rowsD ws).shown]) u = some (.tup [.str "", .str (rowsD ws).shown]) := upd_same
      generalize upd H10 u (.tup [.str "", .str (rowsD ws).shown]) = H11 at s11 u11 ⊢
      refine ⟨u, _, rfl, .inr (SqT.of u11), rfl, rfl, ?_⟩
      have inn : inV (.str kept) [.str "", .str (rowsD ws).shown] = true := by
        have hm : kept ∈ [("" : Str), (rowsD ws).shown] := by
          rcases hkept with h | h
          · rw [h]; exact List.mem_cons_self
          · exact List.mem_cons_of_mem _ (List.mem_singleton.mpr h)
        exact inV_marks (ms := [("" : Str), (rowsD ws).shown]) hm
      rw [if_pos rfl, inn]
      refine ⟨false, rfl, iteF ?_⟩
      have s5y := s5x.trans s11
      have L11 := LL.same L5 s5y
      have B11 := B5.mono s5y
      have pfn := B4.none_ne L5.newp
      refine ⟨_, rfl, _, rfl, _, rfl, _, rfl, _, rfl, b, rows5, st, n, gn, pf, as, ws, y0, y1, E, f, G, rfl, B11, W, by omega, (hst.up g4).up g5, (hn.up g4).up g5, (hgn.up g4).up g5, (nrn.up g4).up g5, (nrg.up g4).up g5, L11.at_, pfn.2.2.1, L11.len, few, fun j a w h1 h2 => ⟨L11.row j a w h1 h2, (B4.none_ne (L5.new a (List.mem_of_getElem? h1))).2.2.1⟩, wrow, w0, sy0, w1, gy1, wst, fun rows12 H12 g12 B12 k12 l12 => ?_⟩
      refine ⟨true, true, rfl, rfl, false, by rw [decide_eq_true rfl]; rfl, iteF ?_⟩
      have L12 := L11.up k12 B4 B11
      -- kept, and what the law does to the rows
      refine ⟨_, rfl, pf, rowsD ws, rfl, (LL.rs L12).dp, sh.s, sh.n, sh.p, sh.l, ?_⟩
      have k4' : K2 b.rl b.pl H3 H12 := k4.trans (k5.trans ((K2.of s5y).trans k12))
      have pfH3 : H3 pf = none := k4.none (rl := b.rl) (pl := b.pl) B4 L5.newp
      have newH3 : ∀ a ∈ as, H3 a = none := fun a ha => k4.none (rl := b.rl) (pl := b.pl) B4 (L5.new a ha)
      refine ⟨_, rfl, pf, rfl, ⟨_, SqL.of L12.at_⟩, for_list (K := K) (a := pf) (xs := as.map V.ref) (fun j σ H' => ∃ v17 : Option V, σ = [some (.ref b.p), some (.int (st : Nat)), some (.ref rp), some (.ref g), some (.ref p), some (.ref go), some (.int (n : Nat)), some (.int (gn : Nat)), some (.ref q), some (.ref D), none, none, some (.ref De), none, some (.str (rowsD ws).shown), some (.int (0 + (t : Int))), some (.ref pf), v17] ∧
        BkAt C b H' rows12 ∧ K2 b.rl b.pl H3 H' ∧ H' pf = some (.lst (as.map V.ref)) ∧ ∀ a ∈ as, ∃ xs, H' a = some (.lst xs) ∧ xs.length ≤ 4 + j) ⟨_, rfl, B12, k4', L12.at_, fun a ha => ?_⟩
        (fun j σ H' _ ⟨_, _, _, _, h, _⟩ => SqL.of h) ?_ ?_⟩
      · obtain ⟨j, hj, e⟩ := List.getElem_of_mem ha
        obtain ⟨w, hw, aw⟩ := (LL.rs L12).get (i := j) (a := a) (by rw [List.getElem?_eq_getElem hj, e])
        exact ⟨_, aw, by rw [rowB_len, wrow w (List.mem_of_getElem? hw)]; exact fewm⟩
      · rintro j y σ H13 hy ⟨v, rfl, B13, k13, p13, r13⟩
        rw [List.getElem?_map] at hy
        obtain ⟨a, ha, rfl⟩ := Option.map_eq_some_iff.mp hy
        have hm := List.mem_of_getElem? ha
        have jl := (List.getElem?_eq_some_iff.mp ha).1
        obtain ⟨xs, hxs, lxs⟩ := r13 a hm
        have an := B4.none_ne (L5.new a hm)
        have apf : pf ≠ a := fun z => L5.out (z ▸ hm)
        have jl16 : j < 16 := Nat.lt_of_lt_of_le jl (by rw [L5.len]; exact few)
        refine ⟨_, rfl, .inl ⟨rfl, _, SqL.of hxs⟩, a, xs, _, rfl, rfl, hxs, small1000 (by omega), _, rfl, B13.upd hxs an.2.2.1 an.2.1, k13.mut (newH3 a hm), by rw [upd_ne apf]; exact p13, fun c hc => ?_⟩
        by_cases e : c = a
        · subst e
          exact ⟨_, upd_same, by rw [List.length_append]; exact Nat.add_le_add_right lxs 1⟩
        · obtain ⟨ys, hys, lys⟩ := r13 c hc
          exact ⟨ys, by rw [upd_ne e]; exact hys, Nat.le_succ_of_le lys⟩
      · rintro σ H13 ⟨v, rfl, B13, k13, p13, r13⟩
        refine ⟨_, rfl, .inl ⟨rfl, _, SqL.of p13⟩, Nat.zero_le _, fun z hz => ?_⟩
        have s14 := Same.new hz (.lst [])
        have p14 := s14 _ _ p13
        generalize upd H13 z (.lst []) = H14 at s14 p14 ⊢
        have B14 := B13.mono s14
        have l14 : rows12.length ≤ rows.length + 446000 * (t + 1) := grow_add (x := 446000) (Nat.le_trans l12 (Nat.add_le_add_right l5 120000)) l4 (Nat.le_refl _)
        have k14 : K2 b.rl b.pl H3 H14 := k13.trans (K2.of s14)
        refine ⟨pf, _, _, rfl, rfl, p14, by rw [List.length_map, L5.len]; exact small1000 (Nat.le_trans few (by decide)), ?_⟩
        refine ⟨(rowsD ws).shown, _, _, _, rows12, rfl, .inr ⟨i, hmee, hno, by rw [hws]⟩, g4.trans (g5.trans g12), B14.upd p14 pfn.2.2.1 pfn.2.1, k14.mut pfH3, l14⟩
  · rintro σ H4 ⟨kept, v15, v16, v17, rows4, rfl, hk, g4, B4, k4, l4⟩
    exact k rows4 H4 g4 B4 (k03.trans k4) (by omega)
end
end DW


set_option maxHeartbeats 8000000
/-! law. -/
namespace DW
open PySem PySem.Spec PyProof.Rows L2
theorem scflaw : FnScope ["script", "order", "sentence", "one", "other", "more", "book", "steps", "third", "asked", "some", "way", "first", "last", "rooms", "places", "goal"] ["script"] (defScope sflaw) := ⟨rfl, rfl, rfl, by decide +kernel, rfl, by decide +kernel, by decide +kernel⟩
theorem all_imp {p q : Str → Bool} (h : ∀ m, p m = true → q m = true) : ∀ s : Sn, s.all p = true → s.all q = true
  | .tt _, _ => rfl
  | .mk m, e => h m e
  | .no s, e => all_imp h s e
  | .bin _ s t, e => by
    have e : (s.all p && t.all p) = true := e
    rw [Bool.and_eq_true] at e
    show (s.all q && t.all q) = true
    rw [all_imp h s e.1, all_imp h t e.2]; rfl
  | .qu _ m s, e => by
    have e : (p m && s.all p) = true := e
    rw [Bool.and_eq_true] at e
    show (q m && s.all q) = true
    rw [h m e.1, all_imp h s e.2]; rfl
theorem WdS.isL {ms : List Str} (W : WdS ms) : ∀ m, decide (m ∈ ms) = true → DW.isL m = true := fun m hm => by
  obtain ⟨i, hi, rfl⟩ := W.sg m (of_decide_eq_true hm)
  refine decide_eq_true (List.mem_map_of_mem ?_)
  simp only [List.mem_cons, List.not_mem_nil, or_false]
  omega
def Ask (H : Hp) (rows : List Rw) (ms : List Str) (a : Addr) : Prop := ∃ (a1 a2 a3 : Addr) (way : Nat) (s1 : Sn), H a = some (.tup [.ref a1, .int (way : Nat), .ref a2, .ref a3]) ∧ SenAt H s1 a1 ∧ s1.dep ≤ 24 ∧ s1.all (fun m => decide (m ∈ ms)) = true ∧ Is rows way (DB.sv s1) ∧ Sok H (nowL ms) 127 8 a2 ∧ Sok H (nowL ms) 127 8 a3
theorem Ask.same {H H' : Hp} {rows : List Rw} {ms : List Str} {a : Addr} (h : Ask H rows ms a) (s : Same H H') : Ask H' rows ms a := by
  obtain ⟨a1, a2, a3, way, s1, h1, h2, h3, h4, h5, h6, h7⟩ := h
  exact ⟨a1, a2, a3, way, s1, s _ _ h1, h2.mono s, h3, h4, h5, h6.mono s, h7.mono s⟩
theorem Ask.k2 {C : Addr} {b : Bk} {H H' : Hp} {rows rows' : List Rw} {ms : List Str} {a : Addr} (h : Ask H rows ms a) (k : K2 b.rl b.pl H H') (B : BkAt C b H rows) (g : DB.Grow b.marks rows rows') : Ask H' rows' ms a := by
  obtain ⟨a1, a2, a3, way, s1, h1, h2, h3, h4, h5, h6, h7⟩ := h
  exact ⟨a1, a2, a3, way, s1, k.tup B h1, h2.k2 k B, h3, h4, h5.up g, h6.keep fun a xs q => k.tup B q, h7.keep fun a xs q => k.tup B q⟩
theorem is_rows {b : Bk} {rows : List Rw} {r : Nat} {s : Sn} (W : WdS b.marks) (hs : s.all (fun m => decide (m ∈ b.marks)) = true) (h : Is rows r (DB.sv s)) : Is rows r (fun e => E2 b.marks s (nw b e) (tn b e)) :=
  h.congr fun e => DB.by_rows W.wd (fun e e' q => DB.sv_all s hs e e' fun m hm => q m (of_decide_eq_true hm)) e
theorem is_now {b : Bk} {rows : List Rw} {r : Nat} {s : Sn} (W : WdS b.marks) (hs : s.all (fun m => decide (m ∈ nowL b.marks)) = true) (h : Is rows r (DB.sv s)) : Is rows r (fun e => (fun x => E2 b.marks s x x) (nw b e)) :=
  h.congr fun e => DB.by_now W.wd (fun e e' q => DB.sv_all s hs e e' fun m hm => q m (of_decide_eq_true hm)) e (nw b e)
theorem pl_few {m : Nat} (h : m ≤ 4) (S : DB.Ro → Bool) : (plOf m S).length ≤ 16 := by
  unfold plOf
  refine Nat.le_trans (List.length_filter_le _ _) ?_
  rw [List.length_range]
  exact rows_few m h
theorem now_sub {ms : List Str} : ∀ m, decide (m ∈ nowL ms) = true → decide (m ∈ ms) = true := fun m h => decide_eq_true (now_mem (of_decide_eq_true h))
theorem sq_k2 {K : PySem.W.Frag} {C : Addr} {b : Bk} {H H' : Hp} {rows : List Rw} {l : Addr} {ns : List Int} (h : SqL K H l (ns.map V.int)) (k : K2 b.rl b.pl H H') (B : BkAt C b H rows) : SqL K H' l (ns.map V.int) := by
  obtain ⟨ts, r1, _⟩ := B.rl
  rcases h with (h | ⟨o, h⟩) | h
  · refine .inl (.inl (k.lst B h fun z => ?_))
    rw [z, r1] at h
    have h := HO.lst.inj (Option.some.inj h)
    cases ns with
    | nil => cases h
    | cons a r => cases (List.cons.inj h).1
  · exact .inl (.inr ⟨o, k l _ h (ne_of h r1 (by intro z; cases z)) (ne_of h B.pl (by intro z; cases z))⟩)
  · exact .inr h
theorem ord_ne {C : Addr} {b : Bk} {H : Hp} {rows : List Rw} {o : Addr} {ms : List Str} (h : H o = some (.lst (ms.map V.str))) (ne : ms ≠ []) (B : BkAt C b H rows) : o ≠ b.rl := fun z => by
  obtain ⟨ts, r1, _⟩ := B.rl
  rw [z, r1] at h
  have h := HO.lst.inj (Option.some.inj h)
  cases ms with
  | nil => exact ne rfl
  | cons a r => cases (List.cons.inj h).1
theorem grow_fin {a b c d i x y : Nat} (h1 : a ≤ d + x * 765) (h2 : b ≤ a + y * 765) (h3 : c ≤ b + 900000) (h4 : d ≤ 200000 + 1100000 * i) (hx : x ≤ 127) (hy : y ≤ 127) : c ≤ 200000 + 1100000 * (i + 1) := by
  have e : 1100000 * (i + 1) = 1100000 * i + 1100000 := Nat.mul_succ _ _
  have k1 : x * 765 ≤ 97155 := Nat.mul_le_mul_right 765 hx
  have k2 : y * 765 ≤ 97155 := Nat.mul_le_mul_right 765 hy
  rw [e]
  refine Nat.le_trans h3 (Nat.le_trans (Nat.add_le_add_right (Nat.le_trans h2 (Nat.add_le_add (Nat.le_trans h1 (Nat.add_le_add h4 k1)) k2)) 900000) ?_)
  rw [Nat.add_assoc, Nat.add_assoc, Nat.add_assoc]
  exact Nat.add_le_add_left (Nat.add_le_add_left (by decide) _) 200000
def spLaw (K : PySem.W.Frag) : Sp := fun vs H Q _ => ∃ (l : Addr) (ns : List Int), vs = [.ref l] ∧ SqL K H l (ns.map V.int) ∧ ∀ H', Q (.bl true) H'
section
variable {P : Program} {w : World} {K : PySem.W.Frag} {mg : Str → Option Value} {base : Heap} {C : Addr}
theorem d_law (T : Tx w K mg C) (A : Has K mg "law" sflaw) (d__law_both : Df P w K mg base "_law_both" 3 ["script"] (spBoth K)) (d__law_told_place : Df P w K mg base "_law_told_place" 3 ["script", "at", "order"] (spTold K)) (d__law_sentence : Df P w K mg base "_law_sentence" 2 ["script", "at", "many", "order"] (spSen K))
    (d__law_cell_at : Df P w K mg base "_law_cell_at" 1 ["script", "k"] (spCellAt K)) (d_init : MkD P w K mg base C 4 ["self", "order"] (spInit K C)) (d_enter : Md P w K mg base C "enter" 36 ["self", "sentence"] (spEnter C)) (d__law_places : Df P w K mg base "_law_places" 26 ["sentence", "order"] (spPlaces K))
    (d__law_graph : Df P w K mg base "_law_graph" 26 ["sentence", "order"] (spGraph K)) (d__law_asked : DfG P w K mg base "_law_asked" 17 ["book", "steps", "rooms", "graph", "places", "goal"] (spAsked C)) : DfG P w K mg base "law" 37 ["script"] (spLaw K) := by
  refine DfG.of A scflaw (fun vs H Q h => ?_) (fun _ _ _ _ _ _ us hl => match us, hl with | [_], _ => rfl) (fun fa cdv A outer s H vs Q hr hg h => ?_)
  · obtain ⟨l, ns, rfl, _⟩ := h; rfl
  obtain ⟨l, ns, rfl, hl, q⟩ := h
  have hgd : (A.deeper (envOfC "law" (defScope sflaw) s.heap.objs.size fa cdv)).guards = some [] := hg
  refine ⟨_, (pss_cons (ps_asg (pe_df d__law_both (hr.mono (by omega)) (pa_cons (pv 0) pa_nil)) (pg_tup rfl (pgs_cons (pg_name (i := 1) scflaw.nd rfl (Or.inl rfl)) (pgs_cons (pg_name (i := 2) scflaw.nd rfl (Or.inl rfl)) pgs_nil))))
      (pss_cons (ps_set (i := 3) scflaw.nd rfl (Or.inl rfl) (pe_df d__law_told_place (hr.mono (by omega)) (pa_cons (pv 0) (pa_cons pe_int (pa_cons (pv 1) pa_nil)))))
      (pss_cons (ps_set (i := 4) scflaw.nd rfl (Or.inl rfl) (pe_df d__law_told_place (hr.mono (by omega)) (pa_cons (pv 0) (pa_cons pe_int (pa_cons (pv 1) pa_nil)))))
      (pss_cons (ps_set (i := 5) scflaw.nd rfl (Or.inl rfl) (pe_df d__law_sentence (hr.mono (by omega)) (pa_cons (pv 0) (pa_cons pe_int (pa_cons (pe_op op_add pe_int (pe_op op_mod (pe_df d__law_cell_at (hr.mono (by omega)) (pa_cons (pv 0) (pa_cons pe_int pa_nil))) pe_int)) (pa_cons (pv 1) pa_nil))))))
      (pss_cons (ps_set (i := 6) scflaw.nd rfl (Or.inl rfl) (pe_mk d_init (hr.mono (by omega)) T.mgC (pa_cons (pv 1) pa_nil)))
      (pss_cons (ps_set (i := 7) scflaw.nd rfl (Or.inl rfl) (pe_md d_enter T.cl (hr.mono (by omega)) (pv 6) (pa_cons (pv 2) pa_nil)))
      (pss_cons (ps_set (i := 8) scflaw.nd rfl (Or.inl rfl) (pe_df d__law_told_place (hr.mono (by omega)) (pa_cons (pv 0) (pa_cons pe_int (pa_cons (pv 1) pa_nil)))))
      (pss_cons (ps_set (i := 9) scflaw.nd rfl (Or.inl rfl) (pe_lst (pa_cons (pe_tup (pa_cons (pv 2) (pa_cons (pv 7) (pa_cons (pv 3) (pa_cons (pv 4) pa_nil))))) (pa_cons (pe_tup (pa_cons (pv 5) (pa_cons (pe_md d_enter T.cl (hr.mono (by omega)) (pv 6) (pa_cons (pv 5) pa_nil)) (pa_cons (pv 3) (pa_cons (pv 4) pa_nil))))) (pa_cons (pe_tup (pa_cons (pv 2) (pa_cons (pv 7) (pa_cons (pv 3) (pa_cons (pv 8) pa_nil))))) pa_nil)))))
      (pss_cons (ps_for PassesOwn.never rfl (pi_list (pe_op op_cat (pv 9) (pe_lst (pa_cons (pe_tup (pa_cons (pv 2) (pa_cons (pv 7) (pa_cons (pv 8) (pa_cons (pv 4) pa_nil))))) (pa_cons (pe_tup (pa_cons (pv 2) (pa_cons (pv 7) (pa_cons (pv 3) (pa_cons (pv 4) pa_nil))))) pa_nil))))) (pg_tup rfl (pgs_cons (pg_name (i := 10) scflaw.nd rfl (Or.inl rfl)) (pgs_cons (pg_name (i := 11) scflaw.nd rfl (Or.inl rfl)) (pgs_cons (pg_name (i := 12) scflaw.nd rfl (Or.inl rfl)) (pgs_cons (pg_name (i := 13) scflaw.nd rfl (Or.inl rfl)) pgs_nil))))) (pss_cons (ps_set (i := 14) scflaw.nd rfl (Or.inl rfl) (pe_tup (pa_cons (pe_md d_enter T.cl (hr.mono (by omega)) (pv 6) (pa_cons (pv 12) pa_nil)) (pa_cons (pe_md d_enter T.cl (hr.mono (by omega)) (pv 6) (pa_cons (pv 13) pa_nil)) pa_nil))))
      (pss_cons (ps_par (i := 15) (j := 16) (by rfl) scflaw.nd rfl rfl (by decide) rfl rfl (pa_cons (pe_df d__law_places (hr.mono (by omega)) (pa_cons (pv 12) (pa_cons (pv 1) pa_nil))) (pa_cons (pe_df d__law_places (hr.mono (by omega)) (pa_cons (pv 13) (pa_cons (pv 1) pa_nil))) pa_nil)) (by rfl))
      (pss_one (ps_if (pt_not (pt_val (pe_dfG d__law_asked (hr.mono (by omega)) hgd (pa_cons (pv 6) (pa_cons (pv 11) (pa_cons (pv 14) (pa_cons (pe_df d__law_graph (hr.mono (by omega)) (pa_cons (pv 10) (pa_cons (pv 1) pa_nil))) (pa_cons (pv 15) (pa_cons (pv 16) pa_nil))))))))) (pss_one (ps_ret pe_bl)) pss_nil)))))
      (pss_one (ps_ret pe_bl))))))))))), ?_⟩
  refine ⟨_, rfl, l, ns, rfl, hl, fun p o a0 ms H1 s1 p1 o1 W ne few nne k1 => ⟨p, _, rfl, SqT.of p1, rfl, _, _, rfl, _, _, rfl, rfl, ?_⟩⟩
  refine ⟨_, rfl, _, rfl, l, o, ns, ms, 11, rfl, s1.seq hl, SqL.of o1, nne, fun a1 H2 s2 k2 => ?_⟩
  have s02 := s1.trans s2
  refine ⟨_, rfl, _, rfl, l, o, ns, ms, 19, rfl, s02.seq hl, SqL.of (s2 _ _ o1), nne, fun a2 H3 s3 k3 => ?_⟩
  have s03 := s02.trans s3
  have o3 := s3 _ _ (s2 _ _ o1)
  refine ⟨_, rfl, _, rfl, l, ns, 31, rfl, s03.seq hl, fun c1 => ⟨_, _, rfl, rfl, (by show (0 : Int) < 6; decide), _, _, rfl, rfl, _, rfl, ?_⟩⟩
  obtain ⟨n, en, ln⟩ := fm_pos (a := c1) (b := 6) (by decide)
  refine ⟨l, o, ns, ms, 32, 2 + n, congrArg (fun z => [V.ref l, V.int 32, V.int (2 + z), V.ref o]) en, s03.seq hl, SqL.of o3, ne, few, by omega, by omega, fun a3 H4 s4 k4 => ?_⟩
  have o4 := s4 _ _ o3
  -- the book
  refine ⟨_, rfl, fun x dx hx hdx hne => ?_⟩
  have sx : Same H4 (upd (upd H4 dx (.own x)) x (.ins C dx [])) := fun c u hc => by rw [upd_ne (ne_of_none hc hx), upd_ne (ne_of_none hc hdx)]; exact hc
  refine ⟨x, dx, o, ms, rfl, upd_same, SqL.of (sx _ _ o4), W.nd, ne, few, fun m hm => W.isL m (decide_eq_true hm), fun b H5 hbp hbm B5 keep => ⟨rfl, ?_⟩⟩
  subst hbp hbm
  have s45 : Same H4 H5 := fun c u hc => keep c u (sx _ _ hc) fun z => by rw [z, hx] at hc; cases hc
  have o5 := s45 _ _ o4
  have one := ord_ne o5 ne B5
  obtain ⟨t0, z0, c0, e0, q0⟩ := k1.mono (s2.trans (s3.trans (s4.trans s45)))
  refine ⟨_, rfl, b.p, b.dx, _, rfl, B5.ob, nmA _ _ (by decide +kernel), _, rfl, b, [], a0, t0, rfl, B5, z0, by omega, by omega, all_imp W.isL t0 q0, q0, by unfold LIM; simp; omega, fun r6 rows6 H6 g6 B6 k6 l6 ⟨i6, p6⟩ => ?_⟩
  have l5 := sq_k2 ((s03.trans (s4.trans s45)).seq hl) k6 B5
  have o6 := k6.lst B5 o5 one
  refine ⟨_, rfl, _, rfl, l, o, ns, b.marks, 40, rfl, l5, SqL.of o6, nne, fun a4 H7 s7 k7 => ?_⟩
  have o7 := s7 _ _ o6
  have B7 := B6.mono s7
  have l6 : rows6.length ≤ 97155 := by
    have l6 : rows6.length ≤ 0 + t0.cnt * 765 := l6
    omega
  have kp : ∀ (a : Addr) (xs : List V), H4 a = some (.tup xs) → H7 a = some (.tup xs) := fun a xs h => s7 _ _ (k6.tup B5 (s45 _ _ h))
  have w0 : SenAt H7 t0 a0 := (z0.k2 k6 B5).mono s7
  have w1 : Sok H7 (nowL b.marks) 127 8 a1 := (k2.mono (s3.trans s4)).keep kp
  have w2 : Sok H7 (nowL b.marks) 127 8 a2 := (k3.mono s4).keep kp
  have w3 : Sok H7 b.marks 127 7 a3 := k4.keep kp
  -- asked
  refine ⟨_, rfl, _, rfl, _, rfl, _, rfl, (by show 4 ≤ sizeLine; decide), fun u1 hu1 => ?_⟩
  have su1 := Same.new hu1 (.tup [.ref a0, .int (r6 : Nat), .ref a1, .ref a2])
  have eu1 : upd H7 u1 (.tup [.ref a0, .int (r6 : Nat), .ref a1, .ref a2]) u1 = some (.tup [.ref a0, .int (r6 : Nat), .ref a1, .ref a2]) := upd_same
  generalize upd H7 u1 (.tup [.ref a0, .int (r6 : Nat), .ref a1, .ref a2]) = H8 at su1 eu1 ⊢
  have A1 : Ask H8 rows6 b.marks u1 := ⟨a0, a1, a2, r6, t0, eu1, w0.mono su1, by omega, q0, i6, w1.mono su1, w2.mono su1⟩
  have B8 := B7.mono su1
  obtain ⟨t3, z3, c3, e3, q3⟩ := w3.mono su1
  refine ⟨_, rfl, _, rfl, b.p, b.dx, _, rfl, B8.ob, nmA _ _ (by decide +kernel), _, rfl, b, rows6, a3, t3, rfl, B8, z3, by omega, by omega, all_imp W.isL t3 q3, q3, by unfold LIM; omega, fun r9 rows9 H9 g9 B9 k9 l9 ⟨i9, p9⟩ => ?_⟩
  have l9 : rows9.length ≤ 200000 := by omega
  have w0' := (w0.mono su1).k2 k9 B8
  have w1' := (w1.mono su1).keep fun a xs h => k9.tup B8 h
  have w2' := (w2.mono su1).keep fun a xs h => k9.tup B8 h
  have w4' := (k7.mono su1).keep fun a xs h => k9.tup B8 h
  have A1' := A1.k2 k9 B8 g9
  have o9 := k9.lst B8 (su1 _ _ o7) (ord_ne (su1 _ _ o7) ne B8)
  refine ⟨_, rfl, _, rfl, (by show 4 ≤ sizeLine; decide), fun u2 hu2 => ?_⟩
  have su2 := Same.new hu2 (.tup [.ref a3, .int (r9 : Nat), .ref a1, .ref a2])
  have eu2 : upd H9 u2 (.tup [.ref a3, .int (r9 : Nat), .ref a1, .ref a2]) u2 = some (.tup [.ref a3, .int (r9 : Nat), .ref a1, .ref a2]) := upd_same
  generalize upd H9 u2 (.tup [.ref a3, .int (r9 : Nat), .ref a1, .ref a2]) = H10 at su2 eu2 ⊢
  refine ⟨_, rfl, _, rfl, _, rfl, _, rfl, (by show 4 ≤ sizeLine; decide), fun u3 hu3 => ?_⟩
  have su3 := Same.new hu3 (.tup [.ref a0, .int (r6 : Nat), .ref a1, .ref a4])
  have eu3 : upd H10 u3 (.tup [.ref a0, .int (r6 : Nat), .ref a1, .ref a4]) u3 = some (.tup [.ref a0, .int (r6 : Nat), .ref a1, .ref a4]) := upd_same
  generalize upd H10 u3 (.tup [.ref a0, .int (r6 : Nat), .ref a1, .ref a4]) = H11 at su3 eu3 ⊢
  refine ⟨(by show 3 ≤ sizeLine; decide), fun la hla => ?_⟩
  have sla := Same.new hla (.lst [.ref u1, .ref u2, .ref u3])
  have ela : upd H11 la (.lst [.ref u1, .ref u2, .ref u3]) la = some (.lst [.ref u1, .ref u2, .ref u3]) := upd_same
  generalize upd H11 la (.lst [.ref u1, .ref u2, .ref u3]) = H12 at sla ela ⊢
  refine ⟨_, rfl, _, rfl, _, rfl, _, rfl, _, rfl, (by show 4 ≤ sizeLine; decide), fun u4 hu4 => ?_⟩
  have su4 := Same.new hu4 (.tup [.ref a0, .int (r6 : Nat), .ref a4, .ref a2])
  have eu4 : upd H12 u4 (.tup [.ref a0, .int (r6 : Nat), .ref a4, .ref a2]) u4 = some (.tup [.ref a0, .int (r6 : Nat), .ref a4, .ref a2]) := upd_same
  generalize upd H12 u4 (.tup [.ref a0, .int (r6 : Nat), .ref a4, .ref a2]) = H13 at su4 eu4 ⊢
  refine ⟨_, rfl, _, rfl, _, rfl, _, rfl, (by show 4 ≤ sizeLine; decide), fun u5 hu5 => ?_⟩
  have su5 := Same.new hu5 (.tup [.ref a0, .int (r6 : Nat), .ref a1, .ref a2])
  have eu5 : upd H13 u5 (.tup [.ref a0, .int (r6 : Nat), .ref a1, .ref a2]) u5 = some (.tup [.ref a0, .int (r6 : Nat), .ref a1, .ref a2]) := upd_same
  generalize upd H13 u5 (.tup [.ref a0, .int (r6 : Nat), .ref a1, .ref a2]) = H14 at su5 eu5 ⊢
  refine ⟨(by show 2 ≤ sizeLine; decide), fun lb hlb => ?_⟩
  have slb := Same.new hlb (.lst [.ref u4, .ref u5])
  have elb : upd H14 lb (.lst [.ref u4, .ref u5]) lb = some (.lst [.ref u4, .ref u5]) := upd_same
  generalize upd H14 lb (.lst [.ref u4, .ref u5]) = H15 at slb elb ⊢
  refine ⟨la, lb, _, _, rfl, rfl, slb _ _ (su5 _ _ (su4 _ _ ela)), elb, (by show 5 ≤ sizeLine; decide), fun lc hlc => ?_⟩
  have slc := Same.new hlc (.lst ([.ref u1, .ref u2, .ref u3] ++ [.ref u4, .ref u5]))
  have elc : upd H15 lc (.lst ([.ref u1, .ref u2, .ref u3] ++ [.ref u4, .ref u5])) lc = some (.lst ([u1, u2, u3, u4, u5].map V.ref)) := upd_same
  generalize upd H15 lc (.lst ([.ref u1, .ref u2, .ref u3] ++ [.ref u4, .ref u5])) = H16 at slc elc ⊢
  have s14 := slb.trans slc
  have s13 := su5.trans s14
  have s12 := su4.trans s13
  have s11 := sla.trans s12
  have s10 := su3.trans s11
  have s9' := su2.trans s10
  have i6' := i6.up g9
  have B16 := B9.mono s9'
  have asks : ∀ u ∈ [u1, u2, u3, u4, u5], Ask H16 rows9 b.marks u := fun u hu => by
    simp only [List.mem_cons, List.not_mem_nil, or_false] at hu
    rcases hu with rfl | rfl | rfl | rfl | rfl
    · exact A1'.same s9'
    · exact ⟨a3, a1, a2, r9, t3, s10 _ _ eu2, (z3.k2 k9 B8).mono s9', by omega, q3, i9, w1'.mono s9', w2'.mono s9'⟩
    · exact ⟨a0, a1, a4, r6, t0, s11 _ _ eu3, w0'.mono s9', by omega, q0, i6', w1'.mono s9', w4'.mono s9'⟩
    · exact ⟨a0, a4, a2, r6, t0, s13 _ _ eu4, w0'.mono s9', by omega, q0, i6', w4'.mono s9', w2'.mono s9'⟩
    · exact ⟨a0, a1, a2, r6, t0, s14 _ _ eu5, w0'.mono s9', by omega, q0, i6', w1'.mono s9', w2'.mono s9'⟩
  have o16 := s9' _ _ o9
  have lcr : lc ≠ b.rl := ((B9.mono (su2.trans (su3.trans (sla.trans (su4.trans (su5.trans slb)))))).none_ne hlc).2.2.1
  refine ⟨lc, rfl, ⟨_, SqL.of elc⟩, for_list (K := K) (a := lc) (xs := [u1, u2, u3, u4, u5].map V.ref) (fun i σ H' => ∃ (rows' : List Rw) (v10 v11 v12 v13 v14 v15 v16 : Option V), σ = [some (.ref l), some (.ref o), some (.ref a0), some (.ref a1), some (.ref a2), some (.ref a3), some (.ref b.p), some (.int (r6 : Nat)), some (.ref a4), some (.ref la), v10, v11, v12, v13, v14, v15, v16] ∧
    BkAt C b H' rows' ∧ H' lc = some (.lst ([u1, u2, u3, u4, u5].map V.ref)) ∧ H' o = some (.lst (b.marks.map V.str)) ∧ rows'.length ≤ 200000 + 1100000 * i ∧ ∀ u ∈ [u1, u2, u3, u4, u5], Ask H' rows' b.marks u) ⟨rows9, none, none, none, none, none, none, none, rfl, B16, elc, o16, by omega, asks⟩
    (fun i σ H' _ ⟨_, _, _, _, _, _, _, _, _, _, h, _⟩ => SqL.of h) ?_ ?_⟩
  · rintro i y σ H17 hy ⟨rows17, v10, v11, v12, v13, v14, v15, v16, rfl, B17, c17, o17, l17, ask17⟩
    rw [List.getElem?_map] at hy
    obtain ⟨u, hu, rfl⟩ := Option.map_eq_some_iff.mp hy
    have i5 : i < 5 := (List.getElem?_eq_some_iff.mp hu).1
    obtain ⟨b1, b2, b3, way, g1, h1, h2, h3, h4, h5, h6, h7⟩ := ask17 u (List.mem_of_getElem? hu)
    refine ⟨u, _, rfl, SqT.of h1, rfl, _, _, rfl, _, _, rfl, _, _, rfl, _, _, rfl, rfl, ?_⟩
    obtain ⟨sf, f1, f2, f3, f4⟩ := h6
    obtain ⟨sl, m1, m2, m3, m4⟩ := h7
    have f5 := all_imp now_sub sf f4
    have m5 := all_imp now_sub sl m4
    refine ⟨_, rfl, b.p, b.dx, _, rfl, B17.ob, nmA _ _ (by decide +kernel), _, rfl, b, rows17, b2, sf, rfl, B17, f1, by omega, by omega, all_imp W.isL sf f5, f5, by unfold LIM; omega, fun rA rowsA HA gA BA kA lA ⟨iA, pA⟩ => ?_⟩
    have m1A := m1.k2 kA B17
    refine ⟨_, rfl, b.p, b.dx, _, rfl, BA.ob, nmA _ _ (by decide +kernel), _, rfl, b, rowsA, b3, sl, rfl, BA, m1A, by omega, by omega, all_imp W.isL sl m5, m5, by unfold LIM; omega, fun rB rowsB HB gB BB kB lB ⟨iB, pB⟩ => ?_⟩
    have kAB := kA.trans kB
    refine ⟨(by show 2 ≤ sizeLine; decide), fun rp hrp => ?_⟩
    have s18 := Same.new hrp (.tup [.int (rA : Nat), .int (rB : Nat)])
    have rp18 : upd HB rp (.tup [.int (rA : Nat), .int (rB : Nat)]) rp = some (.tup [.int (rA : Nat), .int (rB : Nat)]) := upd_same
    generalize upd HB rp (.tup [.int (rA : Nat), .int (rB : Nat)]) = H18 at s18 rp18 ⊢
    have B18 := BB.mono s18
    have on17 := ord_ne o17 ne B17
    have o18 := s18 _ _ (kAB.lst B17 o17 on17)
    have sf18 := (f1.k2 kAB B17).mono s18
    have sl18 := (m1.k2 kAB B17).mono s18
    have sw18 := (h2.k2 kAB B17).mono s18
    have fewn : nm b ≤ 4 := nowL_few b.marks
    refine ⟨_, rfl, _, rfl, b2, o, sf, b.marks, rfl, sf18, by omega, f5, SqL.of o18, W, fun pp H19 s19 hpp pp19 => ?_⟩
    have ppn := (B18.none_ne hpp).2.2.1
    refine ⟨_, rfl, _, rfl, b3, o, sl, b.marks, rfl, sl18.mono s19, by omega, m5, SqL.of (s19 _ _ o18), W, fun pg H20 s20 hpg pg20 => ?_⟩
    have B19 := B18.mono s19
    have pgn := (B19.none_ne hpg).2.2.1
    have B20 := B19.mono s20
    refine ⟨_, _, rfl, ?_⟩
    refine ⟨_, rfl, _, rfl, _, rfl, _, rfl, _, rfl, b1, o, g1, b.marks, rfl, sw18.mono (s19.trans s20), h3, h4, SqL.of (s20 _ _ (s19 _ _ o18)), W, fun gg gs H21 s21 L21 => ?_⟩
    have B21 := B20.mono s21
    have s1821 := s19.trans (s20.trans s21)
    have nrA : NowRoom b rowsA rA := ⟨iA.1, pA _ f4⟩
    have nrB : NowRoom b rowsB rB := ⟨iB.1, pB _ m4⟩
    refine ⟨_, rfl, _, rfl, b, rowsB, way, rA, rB, rp, gg, pp, pg, gs, _, _, _, E2 b.marks g1, (fun x => E2 b.marks sf x x), (fun x => E2 b.marks sl x x), rfl, B21, W, by unfold LIM; omega, s1821 _ _ rp18, is_rows W h4 ((h5.up gA).up gB), is_now W f4 (iA.up gB), is_now W m4 iB, nrA.up gB, nrB, L21.gr, (s20.trans s21) _ _ pp19, s21 _ _ pg20,
      (B20.none_ne L21.newp).2.2.1, fun x hx => (B20.none_ne (L21.new x hx)).2.2.1, ppn, pgn, pl_few fewn _, looks_of _ _, sees_of _ _, sees_of _ _, fun rows22 H22 g22 B22 k22 l22 => ⟨_, rfl, iteF ?_⟩⟩
    have kall : K2 b.rl b.pl H17 H22 := kAB.trans ((K2.of (s18.trans s1821)).trans k22)
    have lfin : rows22.length ≤ 200000 + 1100000 * (i + 1) := grow_fin lA lB l22 l17 f2 m2
    have c22 := kall.lst B17 c17 lcr
    have o22 := kall.lst B17 o17 on17
    refine ⟨rows22, _, _, _, _, _, _, _, rfl, B22, c22, o22, lfin, fun u hu => (ask17 u hu).k2 kall B17 (gA.trans (gB.trans g22))⟩
  · rintro σ H17 ⟨rows17, v10, v11, v12, v13, v14, v15, v16, rfl, _⟩
    exact q H17
end
end DW


set_option maxHeartbeats 8000000
/-! What the head has left, by names; the defs in order; the law. (printed by gen_end.py) -/
namespace DW
open PySem PySem.Spec PyProof.Rows L2
section
variable {K : PySem.W.Frag} {h : Heap} {mg : Str → Option Value} {w : World}
theorem has_held (X : K.In h) (G : h.Ns mainGlobals mg) (c : He.SaysD fa fn K) : Has K mg "held" sfheld := by
  obtain ⟨fd, F⟩ := c.def_ 0 (d := dfheld) rfl
  exact ⟨_, fd, He.glo_ok X G (c.fact 0 (f := .glo "held") rfl), F⟩
theorem has_for_some (X : K.In h) (G : h.Ns mainGlobals mg) (c : He.SaysD fa fn K) : Has K mg "for_some" sffor_some := by
  obtain ⟨fd, F⟩ := c.def_ 1 (d := dffor_some) rfl
  exact ⟨_, fd, He.glo_ok X G (c.fact 1 (f := .glo "for_some") rfl), F⟩
theorem has_put (X : K.In h) (G : h.Ns mainGlobals mg) (c : He.SaysD fa fn K) : Has K mg "put" sfput := by
  obtain ⟨fd, F⟩ := c.def_ 2 (d := dfput) rfl
  exact ⟨_, fd, He.glo_ok X G (c.fact 2 (f := .glo "put") rfl), F⟩
theorem has_now_marks (X : K.In h) (G : h.Ns mainGlobals mg) (c : He.SaysD fa fn K) : Has K mg "now_marks" sfnow_marks := by
  obtain ⟨fd, F⟩ := c.def_ 3 (d := dfnow_marks) rfl
  exact ⟨_, fd, He.glo_ok X G (c.fact 3 (f := .glo "now_marks") rfl), F⟩
theorem has_then_of (X : K.In h) (G : h.Ns mainGlobals mg) (c : He.SaysD fa fn K) : Has K mg "then_of" sfthen_of := by
  obtain ⟨fd, F⟩ := c.def_ 4 (d := dfthen_of) rfl
  exact ⟨_, fd, He.glo_ok X G (c.fact 4 (f := .glo "then_of") rfl), F⟩
theorem has_ask_now (X : K.In h) (G : h.Ns mainGlobals mg) (c : He.SaysD fa fn K) : Has K mg "ask_now" sfask_now := by
  obtain ⟨fd, F⟩ := c.def_ 5 (d := dfask_now) rfl
  exact ⟨_, fd, He.glo_ok X G (c.fact 5 (f := .glo "ask_now") rfl), F⟩
theorem has_mark_room (X : K.In h) (G : h.Ns mainGlobals mg) (c : He.SaysD fa fn K) : Has K mg "mark_room" sfmark_room := by
  obtain ⟨fd, F⟩ := c.def_ 6 (d := dfmark_room) rfl
  exact ⟨_, fd, He.glo_ok X G (c.fact 6 (f := .glo "mark_room") rfl), F⟩
theorem has_as_then (X : K.In h) (G : h.Ns mainGlobals mg) (c : He.SaysD fa fn K) : Has K mg "as_then" sfas_then := by
  obtain ⟨fd, F⟩ := c.def_ 7 (d := dfas_then) rfl
  exact ⟨_, fd, He.glo_ok X G (c.fact 7 (f := .glo "as_then") rfl), F⟩
theorem has_as_now (X : K.In h) (G : h.Ns mainGlobals mg) (c : He.SaysD fa fn K) : Has K mg "as_now" sfas_now := by
  obtain ⟨fd, F⟩ := c.def_ 8 (d := dfas_now) rfl
  exact ⟨_, fd, He.glo_ok X G (c.fact 8 (f := .glo "as_now") rfl), F⟩
theorem has_steps_from (X : K.In h) (G : h.Ns mainGlobals mg) (c : He.SaysD fa fn K) : Has K mg "steps_from" sfsteps_from := by
  obtain ⟨fd, F⟩ := c.def_ 9 (d := dfsteps_from) rfl
  exact ⟨_, fd, He.glo_ok X G (c.fact 9 (f := .glo "steps_from") rfl), F⟩
theorem has_steps_to (X : K.In h) (G : h.Ns mainGlobals mg) (c : He.SaysD fa fn K) : Has K mg "steps_to" sfsteps_to := by
  obtain ⟨fd, F⟩ := c.def_ 10 (d := dfsteps_to) rfl
  exact ⟨_, fd, He.glo_ok X G (c.fact 10 (f := .glo "steps_to") rfl), F⟩
theorem has_rounds (X : K.In h) (G : h.Ns mainGlobals mg) (c : He.SaysD fa fn K) : Has K mg "rounds" sfrounds := by
  obtain ⟨fd, F⟩ := c.def_ 11 (d := dfrounds) rfl
  exact ⟨_, fd, He.glo_ok X G (c.fact 11 (f := .glo "rounds") rfl), F⟩
theorem has_row_room (X : K.In h) (G : h.Ns mainGlobals mg) (c : He.SaysD fa fn K) : Has K mg "row_room" sfrow_room := by
  obtain ⟨fd, F⟩ := c.def_ 12 (d := dfrow_room) rfl
  exact ⟨_, fd, He.glo_ok X G (c.fact 12 (f := .glo "row_room") rfl), F⟩
theorem has_first_row (X : K.In h) (G : h.Ns mainGlobals mg) (c : He.SaysD fa fn K) : Has K mg "first_row" sffirst_row := by
  obtain ⟨fd, F⟩ := c.def_ 13 (d := dffirst_row) rfl
  exact ⟨_, fd, He.glo_ok X G (c.fact 13 (f := .glo "first_row") rfl), F⟩
theorem has_way_to (X : K.In h) (G : h.Ns mainGlobals mg) (c : He.SaysD fa fn K) : Has K mg "way_to" sfway_to := by
  obtain ⟨fd, F⟩ := c.def_ 14 (d := dfway_to) rfl
  exact ⟨_, fd, He.glo_ok X G (c.fact 14 (f := .glo "way_to") rfl), F⟩
theorem has_is_step (X : K.In h) (G : h.Ns mainGlobals mg) (c : He.SaysD fa fn K) : Has K mg "is_step" sfis_step := by
  obtain ⟨fd, F⟩ := c.def_ 15 (d := dfis_step) rfl
  exact ⟨_, fd, He.glo_ok X G (c.fact 15 (f := .glo "is_step") rfl), F⟩
theorem has_way_shows (X : K.In h) (G : h.Ns mainGlobals mg) (c : He.SaysD fa fn K) : Has K mg "way_shows" sfway_shows := by
  obtain ⟨fd, F⟩ := c.def_ 16 (d := dfway_shows) rfl
  exact ⟨_, fd, He.glo_ok X G (c.fact 16 (f := .glo "way_shows") rfl), F⟩
theorem has_is_mark (X : K.In h) (G : h.Ns mainGlobals mg) (c : He.SaysD fa fn K) : Has K mg "is_mark" sfis_mark := by
  obtain ⟨fd, F⟩ := c.def_ 17 (d := dfis_mark) rfl
  exact ⟨_, fd, He.glo_ok X G (c.fact 17 (f := .glo "is_mark") rfl), F⟩
theorem has_is_order (X : K.In h) (G : h.Ns mainGlobals mg) (c : He.SaysD fa fn K) : Has K mg "is_order" sfis_order := by
  obtain ⟨fd, F⟩ := c.def_ 18 (d := dfis_order) rfl
  exact ⟨_, fd, He.glo_ok X G (c.fact 18 (f := .glo "is_order") rfl), F⟩
theorem has_ask_order (X : K.In h) (G : h.Ns mainGlobals mg) (c : He.SaysD fa fn K) : Has K mg "ask_order" sfask_order := by
  obtain ⟨fd, F⟩ := c.def_ 19 (d := dfask_order) rfl
  exact ⟨_, fd, He.glo_ok X G (c.fact 19 (f := .glo "ask_order") rfl), F⟩
theorem has_pieces_of (X : K.In h) (G : h.Ns mainGlobals mg) (c : He.SaysD fa fn K) : Has K mg "pieces_of" sfpieces_of := by
  obtain ⟨fd, F⟩ := c.def_ 20 (d := dfpieces_of) rfl
  exact ⟨_, fd, He.glo_ok X G (c.fact 20 (f := .glo "pieces_of") rfl), F⟩
theorem has_well_made (X : K.In h) (G : h.Ns mainGlobals mg) (c : He.SaysD fa fn K) : Has K mg "well_made" sfwell_made := by
  obtain ⟨fd, F⟩ := c.def_ 21 (d := dfwell_made) rfl
  exact ⟨_, fd, He.glo_ok X G (c.fact 21 (f := .glo "well_made") rfl), F⟩
theorem has_count (X : K.In h) (G : h.Ns mainGlobals mg) (c : He.SaysD fa fn K) : Has K mg "count" sfcount := by
  obtain ⟨fd, F⟩ := c.def_ 22 (d := dfcount) rfl
  exact ⟨_, fd, He.glo_ok X G (c.fact 22 (f := .glo "count") rfl), F⟩
theorem has_deep (X : K.In h) (G : h.Ns mainGlobals mg) (c : He.SaysD fa fn K) : Has K mg "deep" sfdeep := by
  obtain ⟨fd, F⟩ := c.def_ 23 (d := dfdeep) rfl
  exact ⟨_, fd, He.glo_ok X G (c.fact 23 (f := .glo "deep") rfl), F⟩
theorem has_is_sentence (X : K.In h) (G : h.Ns mainGlobals mg) (c : He.SaysD fa fn K) : Has K mg "is_sentence" sfis_sentence := by
  obtain ⟨fd, F⟩ := c.def_ 24 (d := dfis_sentence) rfl
  exact ⟨_, fd, He.glo_ok X G (c.fact 24 (f := .glo "is_sentence") rfl), F⟩
theorem has_ask_sentence (X : K.In h) (G : h.Ns mainGlobals mg) (c : He.SaysD fa fn K) : Has K mg "ask_sentence" sfask_sentence := by
  obtain ⟨fd, F⟩ := c.def_ 25 (d := dfask_sentence) rfl
  exact ⟨_, fd, He.glo_ok X G (c.fact 25 (f := .glo "ask_sentence") rfl), F⟩
theorem has_named (X : K.In h) (G : h.Ns mainGlobals mg) (c : He.SaysD fa fn K) : Has K mg "named" sfnamed := by
  obtain ⟨fd, F⟩ := c.def_ 26 (d := dfnamed) rfl
  exact ⟨_, fd, He.glo_ok X G (c.fact 26 (f := .glo "named") rfl), F⟩
theorem has_marks_of (X : K.In h) (G : h.Ns mainGlobals mg) (c : He.SaysD fa fn K) : Has K mg "marks_of" sfmarks_of := by
  obtain ⟨fd, F⟩ := c.def_ 27 (d := dfmarks_of) rfl
  exact ⟨_, fd, He.glo_ok X G (c.fact 27 (f := .glo "marks_of") rfl), F⟩
theorem has_ask_marks (X : K.In h) (G : h.Ns mainGlobals mg) (c : He.SaysD fa fn K) : Has K mg "ask_marks" sfask_marks := by
  obtain ⟨fd, F⟩ := c.def_ 28 (d := dfask_marks) rfl
  exact ⟨_, fd, He.glo_ok X G (c.fact 28 (f := .glo "ask_marks") rfl), F⟩
theorem has_init (c : He.SaysD fa fn K) : HasMk K (He.ga K "Book") sm___init__ := by
  obtain ⟨fd, F⟩ := c.def_ 29 (d := dm___init__) rfl
  exact ⟨_, fd, He.mkr_ok (c.fact 78 (f := .mkr "Book") rfl), F⟩
theorem hasm_order (c : He.SaysD fa fn K) : HasM K (He.ga K "Book") "order" "Book.order" sm_order := by
  obtain ⟨fd, F⟩ := c.def_ 30 (d := dm_order) rfl
  exact ⟨_, fd, He.meth_ok (c.fact 82 (f := .meth "Book" "order") rfl), F⟩
theorem hasm_ask_room (c : He.SaysD fa fn K) : HasM K (He.ga K "Book") "ask_room" "Book.ask_room" sm_ask_room := by
  obtain ⟨fd, F⟩ := c.def_ 31 (d := dm_ask_room) rfl
  exact ⟨_, fd, He.meth_ok (c.fact 83 (f := .meth "Book" "ask_room") rfl), F⟩
theorem hasm_ask_mark (c : He.SaysD fa fn K) : HasM K (He.ga K "Book") "ask_mark" "Book.ask_mark" sm_ask_mark := by
  obtain ⟨fd, F⟩ := c.def_ 32 (d := dm_ask_mark) rfl
  exact ⟨_, fd, He.meth_ok (c.fact 84 (f := .meth "Book" "ask_mark") rfl), F⟩
theorem hasm_level (c : He.SaysD fa fn K) : HasM K (He.ga K "Book") "level" "Book.level" sm_level := by
  obtain ⟨fd, F⟩ := c.def_ 33 (d := dm_level) rfl
  exact ⟨_, fd, He.meth_ok (c.fact 85 (f := .meth "Book" "level") rfl), F⟩
theorem hasm_goings (c : He.SaysD fa fn K) : HasM K (He.ga K "Book") "goings" "Book.goings" sm_goings := by
  obtain ⟨fd, F⟩ := c.def_ 34 (d := dm_goings) rfl
  exact ⟨_, fd, He.meth_ok (c.fact 86 (f := .meth "Book" "goings") rfl), F⟩
theorem hasm_decided (c : He.SaysD fa fn K) : HasM K (He.ga K "Book") "decided" "Book.decided" sm_decided := by
  obtain ⟨fd, F⟩ := c.def_ 35 (d := dm_decided) rfl
  exact ⟨_, fd, He.meth_ok (c.fact 87 (f := .meth "Book" "decided") rfl), F⟩
theorem hasm_join (c : He.SaysD fa fn K) : HasM K (He.ga K "Book") "join" "Book.join" sm_join := by
  obtain ⟨fd, F⟩ := c.def_ 36 (d := dm_join) rfl
  exact ⟨_, fd, He.meth_ok (c.fact 88 (f := .meth "Book" "join") rfl), F⟩
theorem hasm_fix (c : He.SaysD fa fn K) : HasM K (He.ga K "Book") "fix" "Book.fix" sm_fix := by
  obtain ⟨fd, F⟩ := c.def_ 37 (d := dm_fix) rfl
  exact ⟨_, fd, He.meth_ok (c.fact 89 (f := .meth "Book" "fix") rfl), F⟩
theorem hasm_entered (c : He.SaysD fa fn K) : HasM K (He.ga K "Book") "entered" "Book.entered" sm_entered := by
  obtain ⟨fd, F⟩ := c.def_ 38 (d := dm_entered) rfl
  exact ⟨_, fd, He.meth_ok (c.fact 90 (f := .meth "Book" "entered") rfl), F⟩
theorem hasm_enter (c : He.SaysD fa fn K) : HasM K (He.ga K "Book") "enter" "Book.enter" sm_enter := by
  obtain ⟨fd, F⟩ := c.def_ 39 (d := dm_enter) rfl
  exact ⟨_, fd, He.meth_ok (c.fact 91 (f := .meth "Book" "enter") rfl), F⟩
theorem hasm_below (c : He.SaysD fa fn K) : HasM K (He.ga K "Book") "below" "Book.below" sm_below := by
  obtain ⟨fd, F⟩ := c.def_ 40 (d := dm_below) rfl
  exact ⟨_, fd, He.meth_ok (c.fact 92 (f := .meth "Book" "below") rfl), F⟩
theorem has__law_cell_at (X : K.In h) (G : h.Ns mainGlobals mg) (c : He.SaysD fa fn K) : Has K mg "_law_cell_at" sf_law_cell_at := by
  obtain ⟨fd, F⟩ := c.def_ 41 (d := df_law_cell_at) rfl
  exact ⟨_, fd, He.glo_ok X G (c.fact 29 (f := .glo "_law_cell_at") rfl), F⟩
theorem has__law_draw (X : K.In h) (G : h.Ns mainGlobals mg) (c : He.SaysD fa fn K) : Has K mg "_law_draw" sf_law_draw := by
  obtain ⟨fd, F⟩ := c.def_ 42 (d := df_law_draw) rfl
  exact ⟨_, fd, He.glo_ok X G (c.fact 30 (f := .glo "_law_draw") rfl), F⟩
theorem has__law_sentence (X : K.In h) (G : h.Ns mainGlobals mg) (c : He.SaysD fa fn K) : Has K mg "_law_sentence" sf_law_sentence := by
  obtain ⟨fd, F⟩ := c.def_ 43 (d := df_law_sentence) rfl
  exact ⟨_, fd, He.glo_ok X G (c.fact 31 (f := .glo "_law_sentence") rfl), F⟩
theorem has__law_rows (X : K.In h) (G : h.Ns mainGlobals mg) (c : He.SaysD fa fn K) : Has K mg "_law_rows" sf_law_rows := by
  obtain ⟨fd, F⟩ := c.def_ 44 (d := df_law_rows) rfl
  exact ⟨_, fd, He.glo_ok X G (c.fact 32 (f := .glo "_law_rows") rfl), F⟩
theorem has__law_value (X : K.In h) (G : h.Ns mainGlobals mg) (c : He.SaysD fa fn K) : Has K mg "_law_value" sf_law_value := by
  obtain ⟨fd, F⟩ := c.def_ 45 (d := df_law_value) rfl
  exact ⟨_, fd, He.glo_ok X G (c.fact 33 (f := .glo "_law_value") rfl), F⟩
theorem has__law_whole (X : K.In h) (G : h.Ns mainGlobals mg) (c : He.SaysD fa fn K) : Has K mg "_law_whole" sf_law_whole := by
  obtain ⟨fd, F⟩ := c.def_ 46 (d := df_law_whole) rfl
  exact ⟨_, fd, He.glo_ok X G (c.fact 34 (f := .glo "_law_whole") rfl), F⟩
theorem has__law_numbers (X : K.In h) (G : h.Ns mainGlobals mg) (c : He.SaysD fa fn K) : Has K mg "_law_numbers" sf_law_numbers := by
  obtain ⟨fd, F⟩ := c.def_ 47 (d := df_law_numbers) rfl
  exact ⟨_, fd, He.glo_ok X G (c.fact 35 (f := .glo "_law_numbers") rfl), F⟩
theorem has__law_world (X : K.In h) (G : h.Ns mainGlobals mg) (c : He.SaysD fa fn K) : Has K mg "_law_world" sf_law_world := by
  obtain ⟨fd, F⟩ := c.def_ 48 (d := df_law_world) rfl
  exact ⟨_, fd, He.glo_ok X G (c.fact 36 (f := .glo "_law_world") rfl), F⟩
theorem has__law_now (X : K.In h) (G : h.Ns mainGlobals mg) (c : He.SaysD fa fn K) : Has K mg "_law_now" sf_law_now := by
  obtain ⟨fd, F⟩ := c.def_ 49 (d := df_law_now) rfl
  exact ⟨_, fd, He.glo_ok X G (c.fact 37 (f := .glo "_law_now") rfl), F⟩
theorem has__law_pair (X : K.In h) (G : h.Ns mainGlobals mg) (c : He.SaysD fa fn K) : Has K mg "_law_pair" sf_law_pair := by
  obtain ⟨fd, F⟩ := c.def_ 50 (d := df_law_pair) rfl
  exact ⟨_, fd, He.glo_ok X G (c.fact 38 (f := .glo "_law_pair") rfl), F⟩
theorem has__law_graph (X : K.In h) (G : h.Ns mainGlobals mg) (c : He.SaysD fa fn K) : Has K mg "_law_graph" sf_law_graph := by
  obtain ⟨fd, F⟩ := c.def_ 51 (d := df_law_graph) rfl
  exact ⟨_, fd, He.glo_ok X G (c.fact 39 (f := .glo "_law_graph") rfl), F⟩
theorem has__law_places (X : K.In h) (G : h.Ns mainGlobals mg) (c : He.SaysD fa fn K) : Has K mg "_law_places" sf_law_places := by
  obtain ⟨fd, F⟩ := c.def_ 52 (d := df_law_places) rfl
  exact ⟨_, fd, He.glo_ok X G (c.fact 40 (f := .glo "_law_places") rfl), F⟩
theorem has__law_into (X : K.In h) (G : h.Ns mainGlobals mg) (c : He.SaysD fa fn K) : Has K mg "_law_into" sf_law_into := by
  obtain ⟨fd, F⟩ := c.def_ 53 (d := df_law_into) rfl
  exact ⟨_, fd, He.glo_ok X G (c.fact 41 (f := .glo "_law_into") rfl), F⟩
theorem has__law_turns (X : K.In h) (G : h.Ns mainGlobals mg) (c : He.SaysD fa fn K) : Has K mg "_law_turns" sf_law_turns := by
  obtain ⟨fd, F⟩ := c.def_ 54 (d := df_law_turns) rfl
  exact ⟨_, fd, He.glo_ok X G (c.fact 42 (f := .glo "_law_turns") rfl), F⟩
theorem has__law_counting (X : K.In h) (G : h.Ns mainGlobals mg) (c : He.SaysD fa fn K) : Has K mg "_law_counting" sf_law_counting := by
  obtain ⟨fd, F⟩ := c.def_ 55 (d := df_law_counting) rfl
  exact ⟨_, fd, He.glo_ok X G (c.fact 43 (f := .glo "_law_counting") rfl), F⟩
theorem has__law_single (X : K.In h) (G : h.Ns mainGlobals mg) (c : He.SaysD fa fn K) : Has K mg "_law_single" sf_law_single := by
  obtain ⟨fd, F⟩ := c.def_ 56 (d := df_law_single) rfl
  exact ⟨_, fd, He.glo_ok X G (c.fact 44 (f := .glo "_law_single") rfl), F⟩
theorem has__law_both (X : K.In h) (G : h.Ns mainGlobals mg) (c : He.SaysD fa fn K) : Has K mg "_law_both" sf_law_both := by
  obtain ⟨fd, F⟩ := c.def_ 57 (d := df_law_both) rfl
  exact ⟨_, fd, He.glo_ok X G (c.fact 45 (f := .glo "_law_both") rfl), F⟩
theorem has__law_told_place (X : K.In h) (G : h.Ns mainGlobals mg) (c : He.SaysD fa fn K) : Has K mg "_law_told_place" sf_law_told_place := by
  obtain ⟨fd, F⟩ := c.def_ 58 (d := df_law_told_place) rfl
  exact ⟨_, fd, He.glo_ok X G (c.fact 46 (f := .glo "_law_told_place") rfl), F⟩
theorem has__law_is_way (X : K.In h) (G : h.Ns mainGlobals mg) (c : He.SaysD fa fn K) : Has K mg "_law_is_way" sf_law_is_way := by
  obtain ⟨fd, F⟩ := c.def_ 59 (d := df_law_is_way) rfl
  exact ⟨_, fd, He.glo_ok X G (c.fact 47 (f := .glo "_law_is_way") rfl), F⟩
theorem has__law_asked (X : K.In h) (G : h.Ns mainGlobals mg) (c : He.SaysD fa fn K) : Has K mg "_law_asked" sf_law_asked := by
  obtain ⟨fd, F⟩ := c.def_ 60 (d := df_law_asked) rfl
  exact ⟨_, fd, He.glo_ok X G (c.fact 48 (f := .glo "_law_asked") rfl), F⟩
theorem has_law (X : K.In h) (G : h.Ns mainGlobals mg) (c : He.SaysD fa fn K) : Has K mg "law" sflaw := by
  obtain ⟨fd, F⟩ := c.def_ 61 (d := dflaw) rfl
  exact ⟨_, fd, He.glo_ok X G (c.fact 49 (f := .glo "law") rfl), F⟩
theorem tx (X : K.In h) (G : h.Ns mainGlobals mg) (c : He.SaysX fa fn ts [] exB w h K) : Tx w K mg (He.ga K "Book") := by
  have d := c.t.d
  have e : (He.valsB K (He.ga K "TABLES") tTables && He.valsB K (He.ga K "PIECES") tPieces) = true := c.more
  rw [Bool.and_eq_true] at e
  obtain ⟨e1, n1, D1⟩ := c.t.tab 0 (t := (fun K => He.ga K "TABLES", ["and", "or", "either", "if"])) rfl
  obtain ⟨e2, n2, D2⟩ := c.t.tab 1 (t := (fun K => He.ga K "PIECES", ["yes", "no", "not", "and", "or", "either", "if"])) rfl
  exact {
    cl := He.cls_ok (d.fact 77 (f := .cls "Book") rfl)
    nMarks := He.noat_ok (d.fact 79 (f := .noat "Book" "marks") rfl)
    nRows := He.noat_ok (d.fact 80 (f := .noat "Book" "rows") rfl)
    nPlaces := He.noat_ok (d.fact 81 (f := .noat "Book" "places") rfl)
    mgC := He.glo_ok X G (d.fact 69 (f := .glo "Book") rfl)
    mkC := ⟨_, He.mkr_ok (d.fact 78 (f := .mkr "Book") rfl)⟩
    NOW := (He.str_ok X G (d.fact 72 (f := .str "NOW" "abcd") rfl)).elim fun t e => ⟨_, e, ⟨t, rfl⟩⟩
    THEN := (He.str_ok X G (d.fact 73 (f := .str "THEN" "efgh") rfl)).elim fun t e => ⟨_, e, ⟨t, rfl⟩⟩
    LETTERS := (He.str_ok X G (d.fact 74 (f := .str "LETTERS" "abcdefgh") rfl)).elim fun t e => ⟨_, e, ⟨t, rfl⟩⟩
    WORDS := (He.int_ok X G (d.fact 75 (f := .int "MOST_WORDS" 200) rfl)).elim fun t e => ⟨_, e, ⟨t, rfl⟩⟩
    DEEP := (He.int_ok X G (d.fact 76 (f := .int "MOST_DEEP" 24) rfl)).elim fun t e => ⟨_, e, ⟨t, rfl⟩⟩
    tabs := ⟨_, e1, n1, He.glo_ok X G (d.fact 70 (f := .glo "TABLES") rfl), D1, fun q hq => He.valsB_ok e.1 hq⟩
    pcs := ⟨_, e2, n2, He.glo_ok X G (d.fact 71 (f := .glo "PIECES") rfl), D2, fun q hq => He.valsB_ok e.2 hq⟩
    len := He.free_ok X G (d.fact 50 (f := .free "len") rfl)
    range := He.free_ok X G (d.fact 51 (f := .free "range") rfl)
    zip := He.free_ok X G (d.fact 52 (f := .free "zip") rfl)
    int := He.free_ok X G (d.fact 53 (f := .free "int") rfl)
    isi := He.free_ok X G (d.fact 54 (f := .free "isinstance") rfl)
    str := He.free_ok X G (d.fact 55 (f := .free "str") rfl)
    tuple := He.free_ok X G (d.fact 56 (f := .free "tuple") rfl)
    bool := He.free_ok X G (d.fact 57 (f := .free "bool") rfl)
    list := He.free_ok X G (d.fact 58 (f := .free "list") rfl)
    dict := He.free_ok X G (d.fact 59 (f := .free "dict") rfl)
    set := He.free_ok X G (d.fact 60 (f := .free "set") rfl)
    all := He.free_ok X G (d.fact 61 (f := .free "all") rfl)
    any := He.free_ok X G (d.fact 62 (f := .free "any") rfl)
    sum := He.free_ok X G (d.fact 63 (f := .free "sum") rfl)
    max := He.free_ok X G (d.fact 64 (f := .free "max") rfl)
    min := He.free_ok X G (d.fact 65 (f := .free "min") rfl)
    sorted := He.free_ok X G (d.fact 66 (f := .free "sorted") rfl)
    reversed := He.free_ok X G (d.fact 67 (f := .free "reversed") rfl)
    repr := He.free_ok X G (d.fact 68 (f := .free "repr") rfl) }
theorem law_all {P : Program} {base : Heap} (X : K.In h) (G : h.Ns mainGlobals mg) (c : He.SaysX fa fn ts [] exB w h K) : DfG P w K mg base "law" 37 ["script"] (spLaw K) := by
  have T := tx X G c
  have d := c.t.d
  have ask_room := d_ask_room (P := P) (base := base) T (hasm_ask_room d)
  have ask_mark := d_ask_mark (P := P) (base := base) T (hasm_ask_mark d)
  have order := d_order (P := P) (base := base) T (hasm_order d)
  have level := d_level (P := P) (base := base) T (hasm_level d)
  have goings := d_goings (P := P) (base := base) T (hasm_goings d) level
  have decided := d_decided (P := P) (base := base) T (hasm_decided d)
  have join := d_joinI (P := P) (base := base) T (hasm_join d) level goings decided
  have fix_ := d_fixI (P := P) (base := base) T (hasm_fix d) level decided
  have held := d_held (P := P) (base := base) T (has_held X G d) ask_mark ask_room fix_
  have for_some := d_for_some (P := P) (base := base) T (has_for_some X G d) held join
  have put := d_put (P := P) (base := base) T (has_put X G d) ask_mark ask_room held join
  have mark_room := d_mark_room (P := P) (base := base) T (has_mark_room X G d) decided
  have below := d_below (P := P) (base := base) T (hasm_below d) ask_room
  have then_of := d_then_of (P := P) (base := base) T (has_then_of X G d)
  have now_marks := d_now_marks (P := P) (base := base) T (has_now_marks X G d)
  have ask_now := d_ask_now (P := P) (base := base) T (has_ask_now X G d) ask_room below
  have as_then := d_as_then (P := P) (base := base) T (has_as_then X G d) now_marks then_of mark_room put
  have as_now := d_as_now (P := P) (base := base) T (has_as_now X G d) now_marks then_of mark_room put
  have steps_from := d_steps_from (P := P) (base := base) T (has_steps_from X G d) now_marks join for_some as_now
  have steps_to := d_steps_to (P := P) (base := base) T (has_steps_to X G d) now_marks then_of join for_some as_then
  have row_room := d_row_room (P := P) (base := base) T (has_row_room X G d) now_marks mark_room join
  have first_row := d_first_row (P := P) (base := base) T (has_first_row X G d) now_marks held
  have rounds := d_rounds (P := P) (base := base) T (has_rounds X G d) now_marks ask_room ask_now join steps_from
  have way_to := d_way_to (P := P) (base := base) T (has_way_to X G d) now_marks ask_room ask_now join rounds first_row steps_to row_room
  have is_step := d_is_step (P := P) (base := base) T (has_is_step X G d) as_then row_room join
  have way_shows := d_way_shows (P := P) (base := base) T (has_way_shows X G d) now_marks ask_room ask_now join row_room is_step
  have is_mark := d_is_mark (P := P) (base := base) T (has_is_mark X G d)
  have is_order := d_is_order (P := P) (base := base) T (has_is_order X G d) is_mark
  have ask_order := d_ask_order (P := P) (base := base) T (has_ask_order X G d) is_order
  have pieces_of := d_pieces_of (P := P) (base := base) T (has_pieces_of X G d)
  have count := d_counts (P := P) (base := base) T (has_count X G d) pieces_of 24
  have deep := d_deeps (P := P) (base := base) T (has_deep X G d) pieces_of 24
  have well_made := d_wells (P := P) (base := base) T (has_well_made X G d) is_mark 24
  have is_sentence := d_is_sentence (P := P) (base := base) T (has_is_sentence X G d) well_made count deep
  have ask_sentence := d_ask_sentence (P := P) (base := base) T (has_ask_sentence X G d) is_sentence
  have named := d_nameds (P := P) (base := base) T (has_named X G d) pieces_of 24
  have marks_of := d_marks_of (P := P) (base := base) T (has_marks_of X G d) ask_sentence named
  have ask_marks := d_ask_marks (P := P) (base := base) T (has_ask_marks X G d) marks_of
  have entered := d_entereds (P := P) (base := base) T (hasm_entered d) decided join fix_ 24
  have enter := d_enter (P := P) (base := base) T (hasm_enter d) ask_marks entered
  have init := d_init (P := P) (base := base) T (has_init d) ask_order
  have cell_at := d_cell_at (P := P) (base := base) T (has__law_cell_at X G d)
  have draw := d_draw (P := P) (base := base) T (has__law_draw X G d)
  have lnow := d_lnow (P := P) (base := base) T (has__law_now X G d)
  have whole := d_whole (P := P) (base := base) T (has__law_whole X G d)
  have numbers := d_numbers (P := P) (base := base) T (has__law_numbers X G d) whole
  have lrows := d_rows (P := P) (base := base) T (has__law_rows X G d)
  have sentence := d_sentence (P := P) (base := base) T (has__law_sentence X G d) cell_at draw
  have world := d_world (P := P) (base := base) T (has__law_world X G d) draw
  have counting := d_counting (P := P) (base := base) T (has__law_counting X G d) lnow
  have single := d_single (P := P) (base := base) T (has__law_single X G d) lnow draw
  have both_ := d_both (P := P) (base := base) T (has__law_both X G d) world cell_at draw sentence counting
  have told := d_told (P := P) (base := base) T (has__law_told_place X G d) cell_at draw lnow sentence single
  have value := d_values (P := P) (base := base) T (has__law_value X G d) 24
  have pair := d_pair (P := P) (base := base) T (has__law_pair X G d) lnow
  have graph := d_graph (P := P) (base := base) T (has__law_graph X G d) lnow lrows pair value
  have places := d_places (P := P) (base := base) T (has__law_places X G d) lnow lrows pair value
  have into_ := d_into (P := P) (base := base) T (has__law_into X G d)
  have turns := d_turns (P := P) (base := base) T (has__law_turns X G d) into_
  have is_way := d_is_way (P := P) (base := base) T (has__law_is_way X G d) numbers
  have asked := d_asked (P := P) (base := base) T (has__law_asked X G d) turns way_to is_way lrows lnow order way_shows
  exact d_law (P := P) (base := base) T (has_law X G d) both_ told sentence cell_at init enter places graph asked
end
end DW

set_option maxHeartbeats 0
namespace DW
open PySem PySem.W PySem.Calls PyProof.Rows
theorem law_room : L2.Room 37 callerA := ⟨rfl, by decide, by decide⟩
abbrev tdf : DefRec := HandSHeadRun.topDef R.prog 71
theorem law_name : tdf.name = ("law" : PySem.Str) := by kernel_rfl
theorem the_walk {loose : List Str} {XP : (Str → Option Value) → Heap → Prop} (hdf : tdf.params.defaults = []) : WalkO (view R.prog [71]) loose XP hk.says PySem.Challenge.rw_decidebook_k75_ways_told.row.toRowW tdf [] (fun f vs => PySem.call f vs) := by
  refine Att.attach_call (l := PySem.Challenge.rw_decidebook_k75_ways_told) (n := 63) rfl hdf fun w s₀ s₁ mg mb fa o pm cd doc a vs ns Gl Y ho hd hcd hmg hobj hints hlen hg => ?_
  obtain ⟨K, KX, c⟩ := Y
  rw [law_name] at hmg
  exact law_run KX Gl.T.g Gl.T.b Gl.T.builtins Gl.T.nolimit hg hobj hints (Nat.le_trans hlen (by decide)) law_room hmg (fun base => law_all KX Gl.T.g c) fun H hS => ⟨a, ns, rfl, hS, fun H' => rfl⟩
end DW

set_option maxHeartbeats 0
open PySem PySem.W PySem.Calls PyProof.Rows
theorem PySem.Challenge.cw_decidebook_k75_ways_told_holds : PySem.Challenge.rw_decidebook_k75_ways_told.Holds := by
  w_on; o_law
  refine HandSHeadRun.head_any (r := DW.R) (q := view DW.R.prog [71]) (H := DW.hk) (ob := DW.ob) (M := 6000) (loose := DW.names) (d := DW.tdf) (kwd := []) DW.ob_eq (by kernel_rfl) (fun s => by kernel_rfl) DW.run (by kernel_rfl) (by kernel_rfl) (by kernel_rfl) (by rfl) (by first | assumption | decide +kernel) (by decide +kernel) ⟨rfl, rfl, rfl, rfl, rfl, by decide +kernel⟩ ?hw ?hc
  case hw => w_witness2
  case hc => exact DW.the_walk (by kernel_rfl)

