import PyProof.Rows.All
import Wide.All
import OpenK.AllK
import Wide.FinOn
import KE.GoesEnum
import HandS.ForMost
import HandS.Rev
import HandS.TupMul
import HandS.TupAny
import HandS.TupLe
import HandS.Style
import HandS.Flow
import HandS.IsInst
import HandS.FStrTup
import KE.LtData
import HandS.Codes
import HandS.More
import PySem.Challenge.RW_slotwise_k30_whole_no_tree_is_lighter
set_option maxHeartbeats 4000000
/-! Plain laws: least weights over families of rows, by rounds. No program in sight. -/
namespace K30

structure Vrt where
  plug : Nat
  slots : List Nat
  price : Option Nat

abbrev Wt := Option (Nat × Nat)
def wle (a b : Nat × Nat) : Prop := a.1 < b.1 ∨ (a.1 = b.1 ∧ a.2 ≤ b.2)
def wlt (a b : Nat × Nat) : Prop := a.1 < b.1 ∨ (a.1 = b.1 ∧ a.2 < b.2)
instance (a b : Nat × Nat) : Decidable (wlt a b) := by unfold wlt; infer_instance
instance (a b : Nat × Nat) : Decidable (wle a b) := by unfold wle; infer_instance

theorem wle_refl (a : Nat × Nat) : wle a a := .inr ⟨rfl, Nat.le_refl _⟩
theorem wle_trans {a b c : Nat × Nat} (h : wle a b) (g : wle b c) : wle a c := by
  unfold wle at *; omega
theorem wle_antisymm {a b : Nat × Nat} (h : wle a b) (g : wle b a) : a = b := by
  unfold wle at *
  have h1 : a.1 = b.1 := by omega
  have h2 : a.2 = b.2 := by omega
  exact Prod.ext h1 h2
theorem wle_of_wlt {a b : Nat × Nat} (h : wlt a b) : wle a b := by unfold wle wlt at *; omega
theorem wlt_irrefl {a : Nat × Nat} (h : wlt a a) : False := by unfold wlt at *; omega
theorem wlt_of_le_lt {a b c : Nat × Nat} (h : wle a b) (g : wlt b c) : wlt a c := by unfold wle wlt at *; omega
theorem wle_of_not {a b : Nat × Nat} (h : ¬ wlt a b) : wle b a := by unfold wle wlt at *; omega
theorem not_wlt_of_wle {a b : Nat × Nat} (h : wle b a) : ¬ wlt a b := by unfold wle wlt at *; omega

/-- none is above all -/
def ole : Wt → Wt → Prop
  | _, none => True
  | none, some _ => False
  | some a, some b => wle a b
theorem ole_none {a : Wt} : ole a none := by cases a <;> trivial
theorem ole_refl : ∀ a : Wt, ole a a
  | none => trivial
  | some a => wle_refl a
theorem ole_trans {a b c : Wt} (h : ole a b) (g : ole b c) : ole a c := by
  cases c with
  | none => exact ole_none
  | some c =>
    cases b with
    | none => exact False.elim g
    | some b =>
      cases a with
      | none => exact False.elim h
      | some a => exact wle_trans h g
theorem ole_antisymm {a b : Wt} (h : ole a b) (g : ole b a) : a = b := by
  cases a with
  | none =>
    cases b with
    | none => rfl
    | some b => exact False.elim h
  | some a =>
    cases b with
    | none => exact False.elim g
    | some b => exact congrArg some (wle_antisymm h g)
theorem ole_some {a : Wt} {y : Nat × Nat} (h : ole a (some y)) : ∃ x, a = some x ∧ wle x y := by
  cases a with
  | none => exact False.elim h
  | some x => exact ⟨x, rfl, h⟩

/-! ### weights of rows -/
def at' (w : List Wt) (s : Nat) : Wt := (w[s]?).getD none
def sumW (w : List Wt) : List Nat → Wt
  | [] => some (0, 0)
  | s :: ss => match at' w s, sumW w ss with
    | some a, some b => some (a.1 + b.1, a.2 + b.2)
    | _, _ => none
def wt (w : List Wt) (r : Vrt) : Wt := match r.price, sumW w r.slots with
  | some p, some b => some (p + b.1, b.2 + 1)
  | _, _ => none
def better (acc x : Wt) : Wt := match x with
  | none => acc
  | some a => match acc with
    | none => some a
    | some b => if wlt a b then some a else some b
def best (w : List Wt) (s : Nat) (rows : List Vrt) : Wt := rows.foldl (fun acc r => if r.plug = s then better acc (wt w r) else acc) none
def round (n : Nat) (rows : List Vrt) (w : List Wt) : List Wt := (List.range n).map fun s => best w s rows
def iter (n : Nat) (rows : List Vrt) : Nat → List Wt
  | 0 => List.replicate n none
  | k + 1 => round n rows (iter n rows k)

theorem sumW_cons_some {w : List Wt} {s : Nat} {ss : List Nat} {x : Nat × Nat} (h : sumW w (s :: ss) = some x) :
    ∃ a b, at' w s = some a ∧ sumW w ss = some b ∧ x = (a.1 + b.1, a.2 + b.2) := by
  unfold sumW at h
  split at h
  · rename_i a b ha hb
    exact ⟨a, b, ha, hb, (Option.some.inj h).symm⟩
  · cases h
theorem sumW_cons {w : List Wt} {s : Nat} {ss : List Nat} {a b : Nat × Nat} (ha : at' w s = some a) (hb : sumW w ss = some b) :
    sumW w (s :: ss) = some (a.1 + b.1, a.2 + b.2) := by
  unfold sumW; rw [ha, hb]
theorem sumW_cons_none {w : List Wt} {s : Nat} {ss : List Nat} (ha : at' w s = none) : sumW w (s :: ss) = none := by
  unfold sumW; rw [ha]
theorem wt_some {w : List Wt} {r : Vrt} {x : Nat × Nat} (h : wt w r = some x) :
    ∃ p b, r.price = some p ∧ sumW w r.slots = some b ∧ x = (p + b.1, b.2 + 1) := by
  unfold wt at h
  split at h
  · rename_i p b hp hb
    exact ⟨p, b, hp, hb, (Option.some.inj h).symm⟩
  · cases h
theorem wt_of {w : List Wt} {r : Vrt} {p : Nat} {b : Nat × Nat} (hp : r.price = some p) (hb : sumW w r.slots = some b) : wt w r = some (p + b.1, b.2 + 1) := by
  unfold wt; rw [hp, hb]

theorem better_le_acc (acc x : Wt) : ole (better acc x) acc := by
  unfold better
  cases x with
  | none => exact ole_refl _
  | some a =>
    cases acc with
    | none => trivial
    | some b =>
      show ole (if wlt a b then some a else some b) (some b)
      split
      · rename_i h; exact wle_of_wlt h
      · exact ole_refl _
theorem better_le_new (acc x : Wt) : ole (better acc x) x := by
  unfold better
  cases x with
  | none => exact ole_none
  | some a =>
    cases acc with
    | none => exact ole_refl _
    | some b =>
      show ole (if wlt a b then some a else some b) (some a)
      split
      · exact ole_refl _
      · rename_i h; exact wle_of_not h
theorem better_or (acc x : Wt) : better acc x = acc ∨ better acc x = x := by
  unfold better
  cases x with
  | none => exact .inl rfl
  | some a =>
    cases acc with
    | none => exact .inr rfl
    | some b =>
      show (if wlt a b then some a else some b) = _ ∨ (if wlt a b then some a else some b) = _
      split
      · exact .inr rfl
      · exact .inl rfl

abbrev bestF (w : List Wt) (s : Nat) : Wt → Vrt → Wt := fun acc r => if r.plug = s then better acc (wt w r) else acc
theorem bestF_le (w : List Wt) (s : Nat) (acc : Wt) (r : Vrt) : ole (bestF w s acc r) acc := by
  show ole (if r.plug = s then better acc (wt w r) else acc) acc
  split
  · exact better_le_acc _ _
  · exact ole_refl _
theorem foldl_le (w : List Wt) (s : Nat) : ∀ (rows : List Vrt) (acc : Wt), ole (rows.foldl (bestF w s) acc) acc
  | [], acc => ole_refl acc
  | r :: rows, acc => ole_trans (foldl_le w s rows (bestF w s acc r)) (bestF_le w s acc r)
theorem foldl_le_mem (w : List Wt) (s : Nat) : ∀ (rows : List Vrt) (acc : Wt) (r : Vrt), r ∈ rows → r.plug = s → ole (rows.foldl (bestF w s) acc) (wt w r)
  | q :: rows, acc, r, hr, hs => by
    rcases List.mem_cons.mp hr with e | e
    · subst e
      refine ole_trans (foldl_le w s rows _) ?_
      show ole (if r.plug = s then better acc (wt w r) else acc) (wt w r)
      rw [if_pos hs]
      exact better_le_new _ _
    · exact foldl_le_mem w s rows _ r e hs
theorem foldl_mem (w : List Wt) (s : Nat) : ∀ (rows : List Vrt) (acc : Wt) (x : Nat × Nat), rows.foldl (bestF w s) acc = some x → acc = some x ∨ ∃ r ∈ rows, r.plug = s ∧ wt w r = some x
  | [], acc, x, h => .inl h
  | q :: rows, acc, x, h => by
    rcases foldl_mem w s rows (bestF w s acc q) x h with e | ⟨r, hr, e⟩
    · have e' : (if q.plug = s then better acc (wt w q) else acc) = some x := e
      split at e'
      · rename_i hs
        rcases better_or acc (wt w q) with z | z
        · exact .inl (z.symm.trans e')
        · exact .inr ⟨q, List.mem_cons_self, hs, z.symm.trans e'⟩
      · exact .inl e'
    · exact .inr ⟨r, List.mem_cons_of_mem _ hr, e⟩
theorem best_le {w : List Wt} {rows : List Vrt} {r : Vrt} (h : r ∈ rows) : ole (best w r.plug rows) (wt w r) := foldl_le_mem w _ rows none r h rfl
theorem best_mem {w : List Wt} {s : Nat} {rows : List Vrt} {x : Nat × Nat} (h : best w s rows = some x) : ∃ r ∈ rows, r.plug = s ∧ wt w r = some x := by
  rcases foldl_mem w s rows none x h with e | e
  · cases e
  · exact e
theorem best_concat (w : List Wt) (s : Nat) (rows : List Vrt) (r : Vrt) : best w s (rows ++ [r]) = if r.plug = s then better (best w s rows) (wt w r) else best w s rows := by
  unfold best; rw [List.foldl_append]; rfl

theorem at_round {n : Nat} {rows : List Vrt} {w : List Wt} {s : Nat} (h : s < n) : at' (round n rows w) s = best w s rows := by
  unfold at' round
  rw [List.getElem?_map, List.getElem?_range h]; rfl
theorem at_round_ge {n : Nat} {rows : List Vrt} {w : List Wt} {s : Nat} (h : n ≤ s) : at' (round n rows w) s = none := by
  unfold at' round
  rw [List.getElem?_eq_none (by rw [List.length_map, List.length_range]; exact h)]; rfl
theorem at_repl (n s : Nat) : at' (List.replicate n none) s = none := by
  unfold at'
  rw [List.getElem?_replicate]
  split <;> rfl
theorem at_len {w : List Wt} {s : Nat} {x : Nat × Nat} (h : at' w s = some x) : s < w.length := by
  rcases Nat.lt_or_ge s w.length with q | q
  · exact q
  · unfold at' at h
    rw [List.getElem?_eq_none q] at h
    cases h
theorem at_get {w : List Wt} {s : Nat} (h : s < w.length) : w[s]? = some (at' w s) := by
  unfold at'
  rw [List.getElem?_eq_getElem h]; rfl
theorem iter_length (n : Nat) (rows : List Vrt) : ∀ k, (iter n rows k).length = n
  | 0 => List.length_replicate
  | k + 1 => by
    show ((List.range n).map _).length = n
    rw [List.length_map, List.length_range]
theorem ext_at {v w : List Wt} (hl : v.length = w.length) (h : ∀ s, at' v s = at' w s) : v = w := by
  apply List.ext_getElem?
  intro i
  by_cases hi : i < v.length
  · rw [at_get hi, at_get (hl ▸ hi), h]
  · rw [List.getElem?_eq_none (by omega), List.getElem?_eq_none (by omega)]

def LE (v w : List Wt) : Prop := ∀ s, ole (at' v s) (at' w s)
theorem LE.refl (v : List Wt) : LE v v := fun _ => ole_refl _
theorem LE.trans {u v w : List Wt} (h : LE u v) (g : LE v w) : LE u w := fun s => ole_trans (h s) (g s)
theorem LE.antisymm {v w : List Wt} (hl : v.length = w.length) (h : LE v w) (g : LE w v) : v = w := ext_at hl fun s => ole_antisymm (h s) (g s)
theorem sumW_mono {v w : List Wt} (h : LE v w) : ∀ ss : List Nat, ole (sumW v ss) (sumW w ss)
  | [] => wle_refl _
  | s :: ss => by
    cases e : sumW w (s :: ss) with
    | none => exact ole_none
    | some y =>
      obtain ⟨a, b, ha, hb, rfl⟩ := sumW_cons_some e
      have h1 := h s
      have h2 := sumW_mono h ss
      rw [ha] at h1
      rw [hb] at h2
      obtain ⟨a', ea, la⟩ := ole_some h1
      obtain ⟨b', eb, lb⟩ := ole_some h2
      rw [sumW_cons ea eb]
      show wle _ _
      unfold wle at *
      dsimp only
      omega
theorem wt_mono {v w : List Wt} (h : LE v w) (r : Vrt) : ole (wt v r) (wt w r) := by
  cases e : wt w r with
  | none => exact ole_none
  | some y =>
    obtain ⟨p, b, hp, hb, rfl⟩ := wt_some e
    have h2 := sumW_mono h r.slots
    rw [hb] at h2
    obtain ⟨b', eb, lb⟩ := ole_some h2
    rw [wt_of hp eb]
    show wle _ _
    unfold wle at *
    dsimp only
    omega
theorem best_mono {v w : List Wt} (h : LE v w) (s : Nat) (rows : List Vrt) : ole (best v s rows) (best w s rows) := by
  cases e : best w s rows with
  | none => exact ole_none
  | some y =>
    obtain ⟨r, hr, hs, hy⟩ := best_mem e
    have h1 := wt_mono h r
    rw [hy] at h1
    have h2 := best_le (w := v) hr
    rw [hs] at h2
    exact ole_trans h2 h1
theorem round_mono {n : Nat} {rows : List Vrt} {v w : List Wt} (h : LE v w) : LE (round n rows v) (round n rows w) := fun s => by
  by_cases hs : s < n
  · rw [at_round hs, at_round hs]; exact best_mono h s rows
  · rw [at_round_ge (by omega), at_round_ge (by omega)]; exact ole_none
theorem iter_anti (n : Nat) (rows : List Vrt) : ∀ k, LE (iter n rows (k + 1)) (iter n rows k)
  | 0 => fun s => by
    show ole _ (at' (List.replicate n none) s)
    rw [at_repl]; exact ole_none
  | k + 1 => round_mono (iter_anti n rows k)

theorem slot_small {w : List Wt} : ∀ {ss : List Nat} {x : Nat × Nat} {u : Nat}, sumW w ss = some x → u ∈ ss → ∃ y, at' w u = some y ∧ y.1 ≤ x.1 ∧ y.2 ≤ x.2
  | s :: ss, x, u, h, hu => by
    obtain ⟨a, b, ha, hb, rfl⟩ := sumW_cons_some h
    rcases List.mem_cons.mp hu with e | e
    · subst e
      exact ⟨a, ha, Nat.le_add_right _ _, Nat.le_add_right _ _⟩
    · obtain ⟨y, hy, h1, h2⟩ := slot_small hb e
      exact ⟨y, hy, Nat.le_trans h1 (Nat.le_add_left _ _), Nat.le_trans h2 (Nat.le_add_left _ _)⟩
theorem sumW_congr {v w : List Wt} : ∀ {ss : List Nat}, (∀ u ∈ ss, at' v u = at' w u) → sumW v ss = sumW w ss
  | [], _ => rfl
  | s :: ss, h => by
    unfold sumW
    rw [h s List.mem_cons_self, sumW_congr fun u hu => h u (List.mem_cons_of_mem _ hu)]
theorem wt_congr {v w : List Wt} {r : Vrt} (h : ∀ u ∈ r.slots, at' v u = at' w u) : wt v r = wt w r := by
  unfold wt; rw [sumW_congr h]

/-- a change in round k leans on k + 1 states -/
theorem chain (n : Nat) (rows : List Vrt) : ∀ (k s : Nat), s < n → at' (iter n rows (k + 1)) s ≠ at' (iter n rows k) s →
    ∃ x, at' (iter n rows (k + 1)) s = some x ∧ ∃ L : List Nat, L.Nodup ∧ L.length = k + 1 ∧ ∀ v ∈ L, v < n ∧ ∃ y, at' (iter n rows (k + 1)) v = some y ∧ wle y x
  | 0, s, hs, hc => by
    cases e : at' (iter n rows (0 + 1)) s with
    | none =>
      rw [e] at hc
      exact (hc (at_repl n s).symm).elim
    | some x =>
      refine ⟨x, rfl, [s], by simp, rfl, fun v hv => ?_⟩
      have ev : v = s := by simpa using hv
      subst ev
      exact ⟨hs, x, e, wle_refl _⟩
  | k + 1, s, hs, hc => by
    have h0 := iter_anti n rows (k + 1) s
    cases e : at' (iter n rows (k + 1 + 1)) s with
    | none =>
      rw [e] at hc h0
      cases e2 : at' (iter n rows (k + 1)) s with
      | none => exact (hc e2.symm).elim
      | some z => rw [e2] at h0; exact False.elim h0
    | some x =>
      have eb : best (iter n rows (k + 1)) s rows = some x := by
        rw [← e]; exact (at_round hs).symm
      obtain ⟨r, hr, hp, hx⟩ := best_mem eb
      by_cases hu : ∀ u ∈ r.slots, at' (iter n rows (k + 1)) u = at' (iter n rows k) u
      · exfalso
        have e1 : wt (iter n rows k) r = some x := by rw [← wt_congr hu]; exact hx
        have h2 := best_le (w := iter n rows k) hr
        rw [hp, e1] at h2
        have h3 : at' (iter n rows (k + 1)) s = best (iter n rows k) s rows := at_round hs
        rw [← h3] at h2
        rw [e] at h0 hc
        exact hc (ole_antisymm h0 h2)
      · have ⟨u, hu⟩ := Classical.not_forall.mp hu
        have ⟨hm, hne⟩ := Classical.not_imp.mp hu
        obtain ⟨p, b, hpr, hb, rfl⟩ := wt_some hx
        obtain ⟨y, hy, hy1, hy2⟩ := slot_small hb hm
        have hun : u < n := by
          have q := at_len hy
          rw [iter_length] at q
          exact q
        obtain ⟨y', hy', L, hnd, hlen, hL⟩ := chain n rows k u hun hne
        have eyy : y' = y := Option.some.inj (hy'.symm.trans hy)
        subst eyy
        have hlt : wlt y' (p + b.1, b.2 + 1) := by
          unfold wlt; dsimp only; omega
        refine ⟨_, rfl, s :: L, ?_, by rw [List.length_cons, hlen], fun v hv => ?_⟩
        · refine List.nodup_cons.mpr ⟨fun hsL => ?_, hnd⟩
          obtain ⟨_, z, hz, hz2⟩ := hL s hsL
          rw [e, hz] at h0
          exact wlt_irrefl (wlt_of_le_lt (wle_trans h0 hz2) hlt)
        · rcases List.mem_cons.mp hv with ev | ev
          · subst ev
            exact ⟨hs, _, e, wle_refl _⟩
          · obtain ⟨hvn, z, hz, hz2⟩ := hL v ev
            have h3 := iter_anti n rows (k + 1) v
            rw [hz] at h3
            obtain ⟨z', ez, lz⟩ := ole_some h3
            exact ⟨hvn, z', ez, wle_of_wlt (wlt_of_le_lt (wle_trans lz hz2) hlt)⟩

theorem pigeon : ∀ (n : Nat) (L : List Nat), L.Nodup → (∀ v ∈ L, v < n) → L.length ≤ n
  | 0, L, _, h => by
    cases L with
    | nil => exact Nat.le_refl _
    | cons v L => exact absurd (h v List.mem_cons_self) (Nat.not_lt_zero _)
  | n + 1, L, hn, h => by
    have h1 := pigeon n (L.erase n) (hn.erase n) fun v hv => by
      have q := (hn.mem_erase_iff).mp hv
      have := h v q.2
      have := q.1
      omega
    have h2 : L.length ≤ (L.erase n).length + 1 := by
      rw [List.length_erase]
      split <;> omega
    omega

theorem iter_fix (n : Nat) (rows : List Vrt) : iter n rows (n + 1) = iter n rows n := by
  refine ext_at (by rw [iter_length, iter_length]) fun s => ?_
  by_cases hs : s < n
  · refine Classical.byContradiction fun hc => ?_
    obtain ⟨x, _, L, hnd, hlen, hL⟩ := chain n rows n s hs hc
    have := pigeon n L hnd fun v hv => (hL v hv).1
    omega
  · have e : ∀ k, at' (iter n rows k) s = none := fun k => by
      cases k with
      | zero => exact at_repl n s
      | succ k => exact at_round_ge (by omega)
    rw [e, e]
theorem iter_stop {n : Nat} {rows : List Vrt} {k : Nat} (h : iter n rows (k + 1) = iter n rows k) : ∀ j, iter n rows (k + j) = iter n rows k
  | 0 => rfl
  | j + 1 => by
    show round n rows (iter n rows (k + j)) = _
    rw [iter_stop h j]; exact h
/-- the least weights -/
def least (n : Nat) (rows : List Vrt) : List Wt := iter n rows n
theorem iter_early {n : Nat} {rows : List Vrt} {k : Nat} (h : iter n rows (k + 1) = iter n rows k) (hk : k ≤ n) : iter n rows k = least n rows := by
  have q := iter_stop h (n - k)
  rw [show k + (n - k) = n by omega] at q
  exact q.symm
theorem least_fix (n : Nat) (rows : List Vrt) : round n rows (least n rows) = least n rows := iter_fix n rows
theorem least_length (n : Nat) (rows : List Vrt) : (least n rows).length = n := iter_length n rows n

/-- all plugs below n -/
def Plugs (n : Nat) (rows : List Vrt) : Prop := ∀ r ∈ rows, r.plug < n
theorem least_le {n : Nat} {rows : List Vrt} (hp : Plugs n rows) {r : Vrt} (h : r ∈ rows) : ole (at' (least n rows) r.plug) (wt (least n rows) r) := by
  have q := best_le (w := least n rows) h
  have e : at' (least n rows) r.plug = best (least n rows) r.plug rows := by
    have z := at_round (rows := rows) (w := least n rows) (hp r h)
    rw [least_fix] at z
    exact z
  rw [e]; exact q
theorem least_mem {n : Nat} {rows : List Vrt} {s : Nat} {x : Nat × Nat} (h : at' (least n rows) s = some x) : s < n ∧ ∃ r ∈ rows, r.plug = s ∧ wt (least n rows) r = some x := by
  have hs : s < n := by
    have q := at_len h
    rw [least_length] at q
    exact q
  refine ⟨hs, ?_⟩
  have z := at_round (rows := rows) (w := least n rows) hs
  rw [least_fix, h] at z
  exact best_mem z.symm

/-! ### trees in preorder -/
def price (rows : List Vrt) (k : Nat) : Nat := ((rows[k]?).bind Vrt.price).getD 0
def cost (rows : List Vrt) (t : List Nat) : Nat := (t.map (price rows)).sum
def fits (rows : List Vrt) : List Nat → List Nat → Prop
  | [], st => st = []
  | k :: t, st => ∃ g st' r, st = g :: st' ∧ rows[k]? = some r ∧ r.plug = g ∧ r.price ≠ none ∧ fits rows t (r.slots ++ st')
theorem cost_cons (rows : List Vrt) (k : Nat) (t : List Nat) : cost rows (k :: t) = price rows k + cost rows t := by
  unfold cost; rw [List.map_cons, List.sum_cons]
theorem cost_append (rows : List Vrt) (t u : List Nat) : cost rows (t ++ u) = cost rows t + cost rows u := by
  unfold cost; rw [List.map_append, List.sum_append]
theorem price_of {rows : List Vrt} {k : Nat} {r : Vrt} {p : Nat} (h : rows[k]? = some r) (hp : r.price = some p) : price rows k = p := by
  unfold price; rw [h]; show (r.price).getD 0 = p; rw [hp]; rfl
theorem fits_append {rows : List Vrt} {u su : List Nat} (hu : fits rows u su) : ∀ {t st : List Nat}, fits rows t st → fits rows (t ++ u) (st ++ su)
  | [], st, h => by
    have e : st = [] := h
    subst e; exact hu
  | k :: t, st, h => by
    obtain ⟨g, st', r, rfl, h1, h2, h3, h4⟩ := h
    refine ⟨g, st' ++ su, r, rfl, h1, h2, h3, ?_⟩
    rw [← List.append_assoc]
    exact fits_append hu h4
theorem fits_ne {rows : List Vrt} {t : List Nat} {s : Nat} {st : List Nat} (h : fits rows t (s :: st)) : t ≠ [] := by
  rintro rfl
  have e : s :: st = [] := h
  cases e

theorem sumW_append {w : List Wt} {b : Nat × Nat} {u : List Nat} : ∀ {t : List Nat} {x : Nat × Nat}, sumW w (t ++ u) = some x → sumW w u = some b → ∃ a, sumW w t = some a ∧ x = (a.1 + b.1, a.2 + b.2)
  | [], x, h, hb => by
    have h' : sumW w u = some x := h
    rw [hb] at h'
    cases h'
    exact ⟨(0, 0), rfl, by simp⟩
  | s :: t, x, h, hb => by
    have h' : sumW w (s :: (t ++ u)) = some x := h
    obtain ⟨a, c, ha, hc, rfl⟩ := sumW_cons_some h'
    obtain ⟨d, hd, e⟩ := sumW_append hc hb
    refine ⟨_, sumW_cons ha hd, ?_⟩
    rw [e]
    dsimp only
    rw [Nat.add_assoc, Nat.add_assoc]
theorem sumW_append_right {w : List Wt} {u : List Nat} : ∀ {t : List Nat} {x : Nat × Nat}, sumW w (t ++ u) = some x → ∃ b, sumW w u = some b
  | [], x, h => ⟨x, h⟩
  | s :: t, x, h => by
    have h' : sumW w (s :: (t ++ u)) = some x := h
    obtain ⟨a, c, ha, hc, _⟩ := sumW_cons_some h'
    exact sumW_append_right hc
theorem sumW_append_of {w : List Wt} {b : Nat × Nat} {u : List Nat} (hb : sumW w u = some b) : ∀ {t : List Nat} {a : Nat × Nat}, sumW w t = some a → sumW w (t ++ u) = some (a.1 + b.1, a.2 + b.2)
  | [], a, h => by
    have e : (0, 0) = a := Option.some.inj h
    subst e
    show sumW w u = _
    rw [hb]; simp
  | s :: t, a, h => by
    obtain ⟨c, d, hc, hd, rfl⟩ := sumW_cons_some h
    show sumW w (s :: (t ++ u)) = _
    rw [sumW_cons hc (sumW_append_of hb hd)]
    simp [Nat.add_assoc]

/-- no tree weighs less than a table that no row beats -/
theorem floor {rows : List Vrt} {w : List Wt} (hw : ∀ r ∈ rows, ole (at' w r.plug) (wt w r)) : ∀ {t st : List Nat}, fits rows t st → ∃ a, sumW w st = some a ∧ wle a (cost rows t, t.length)
  | [], st, h => by
    have e : st = [] := h
    subst e
    exact ⟨(0, 0), rfl, wle_refl _⟩
  | k :: t, st, h => by
    obtain ⟨g, st', r, rfl, h1, rfl, h3, h4⟩ := h
    obtain ⟨x, hx, hle⟩ := floor hw h4
    obtain ⟨b, hb⟩ := sumW_append_right hx
    obtain ⟨a, ha, rfl⟩ := sumW_append hx hb
    cases hp : r.price with
    | none => exact (h3 hp).elim
    | some p =>
      have q := hw r (List.mem_of_getElem? h1)
      rw [wt_of hp ha] at q
      obtain ⟨y, hy, hyl⟩ := ole_some q
      refine ⟨_, sumW_cons hy hb, ?_⟩
      rw [cost_cons, price_of h1 hp, List.length_cons]
      unfold wle at *
      dsimp only at *
      omega

/-! ### the first trees -/
def isRoot (w : List Wt) (s : Nat) (r : Vrt) : Bool := decide (r.plug = s) && (wt w r).isSome && decide (wt w r = at' w s)
def root (rows : List Vrt) (w : List Wt) (s : Nat) : Option Nat := rows.findIdx? (isRoot w s)
def First (rows : List Vrt) (w : List Wt) : List Nat → List Nat → Prop
  | [], st => st = []
  | k :: t, st => ∃ g st' r, st = g :: st' ∧ rows[k]? = some r ∧ root rows w g = some k ∧ First rows w t (r.slots ++ st')
theorem isRoot_iff {w : List Wt} {s : Nat} {r : Vrt} : isRoot w s r = true ↔ r.plug = s ∧ ∃ x, wt w r = some x ∧ at' w s = some x := by
  unfold isRoot
  simp only [Bool.and_eq_true, decide_eq_true_eq]
  constructor
  · rintro ⟨⟨h1, h2⟩, h3⟩
    cases e : wt w r with
    | none => rw [e] at h2; cases h2
    | some x => exact ⟨h1, x, rfl, by rw [← h3, e]⟩
  · rintro ⟨h1, x, h2, h3⟩
    exact ⟨⟨h1, by rw [h2]; rfl⟩, by rw [h2, h3]⟩
theorem root_some {rows : List Vrt} {w : List Wt} {s k : Nat} (h : root rows w s = some k) : ∃ r x, rows[k]? = some r ∧ r.plug = s ∧ wt w r = some x ∧ at' w s = some x ∧ ∀ j r', j < k → rows[j]? = some r' → isRoot w s r' = false := by
  have q := List.findIdx?_eq_some_iff_getElem.mp h
  obtain ⟨hk, h1, h2⟩ := q
  obtain ⟨e1, x, e2, e3⟩ := isRoot_iff.mp h1
  refine ⟨rows[k], x, List.getElem?_eq_getElem hk, e1, e2, e3, fun j r' hj hr => ?_⟩
  have hjl : j < rows.length := by omega
  have z := h2 j hj
  rw [List.getElem?_eq_getElem hjl] at hr
  cases hr
  simpa using z
theorem root_none {rows : List Vrt} {w : List Wt} {s : Nat} (h : root rows w s = none) : ∀ r ∈ rows, isRoot w s r = false := by
  have q := List.findIdx?_eq_none_iff.mp h
  intro r hr
  simpa using q r hr
theorem root_of {rows : List Vrt} {w : List Wt} {s : Nat} {x : Nat × Nat} (h : at' w s = some x) (hr : ∃ r ∈ rows, r.plug = s ∧ wt w r = some x) : ∃ k, root rows w s = some k := by
  cases e : root rows w s with
  | some k => exact ⟨k, rfl⟩
  | none =>
    obtain ⟨r, hm, h1, h2⟩ := hr
    have z := root_none e r hm
    rw [isRoot_iff.mpr ⟨h1, x, h2, h⟩] at z
    cases z
theorem First.fits {rows : List Vrt} {w : List Wt} : ∀ {t st : List Nat}, First rows w t st → fits rows t st
  | [], _, h => h
  | k :: t, st, h => by
    obtain ⟨g, st', r, rfl, h1, h2, h4⟩ := h
    obtain ⟨r', x, e1, e2, e3, _, _⟩ := root_some h2
    rw [h1] at e1
    cases e1
    obtain ⟨p, b, hp, _, _⟩ := wt_some e3
    exact ⟨g, st', r, rfl, h1, e2, (by rw [hp]; intro q; cases q), First.fits h4⟩
theorem First.weight {rows : List Vrt} {w : List Wt} : ∀ {t st : List Nat} {a : Nat × Nat}, First rows w t st → sumW w st = some a → (cost rows t, t.length) = a
  | [], st, a, h, ha => by
    have e : st = [] := h
    subst e
    exact Option.some.inj ha
  | k :: t, st, a, h, ha => by
    obtain ⟨g, st', r, rfl, h1, h2, h4⟩ := h
    obtain ⟨r', x, e1, e2, e3, e4, _⟩ := root_some h2
    rw [h1] at e1
    cases e1
    obtain ⟨p, b, hp, hb, rfl⟩ := wt_some e3
    obtain ⟨c, d, hc, hd, rfl⟩ := sumW_cons_some ha
    rw [e4] at hc
    cases hc
    have ih := First.weight h4 (sumW_append_of hd hb)
    have i1 := congrArg Prod.fst ih
    have i2 := congrArg Prod.snd ih
    dsimp only at i1 i2
    rw [cost_cons, price_of h1 hp, List.length_cons]
    dsimp only
    refine Prod.ext ?_ ?_ <;> dsimp only <;> omega

/-- order of tuples -/
def lexLt : List Nat → List Nat → Bool
  | [], [] => false
  | [], _ :: _ => true
  | _ :: _, [] => false
  | x :: xs, y :: ys => if x = y then lexLt xs ys else decide (x < y)
theorem First.lex {rows : List Vrt} {w : List Wt} (hw : ∀ r ∈ rows, ole (at' w r.plug) (wt w r)) : ∀ {t u st : List Nat} {a : Nat × Nat}, First rows w t st → K30.fits rows u st → sumW w st = some a → (cost rows u, u.length) = a → lexLt u t = false
  | [], u, st, a, h, hf, ha, e => by
    cases u with
    | nil => rfl
    | cons k u => rfl
  | k :: t, u, st, a, h, hf, ha, e => by
    obtain ⟨g, st', r, rfl, h1, h2, h4⟩ := h
    cases u with
    | nil =>
      have q : g :: st' = [] := hf
      cases q
    | cons j u =>
      obtain ⟨g', st'', r', eq, j1, j2, j3, j4⟩ := hf
      cases eq
      subst j2
      obtain ⟨r0, x, e1, e2, e3, e4, emin⟩ := root_some h2
      rw [h1] at e1
      cases e1
      obtain ⟨c, d, hc, hd, rfl⟩ := sumW_cons_some ha
      rw [e4] at hc
      cases hc
      obtain ⟨y, hy, hyl⟩ := floor hw j4
      obtain ⟨b, hb, ey⟩ := sumW_append hy hd
      subst ey
      cases hp : r'.price with
      | none => exact (j3 hp).elim
      | some p =>
        have q := hw r' (List.mem_of_getElem? j1)
        rw [wt_of hp hb, e4] at q
        have i1 := congrArg Prod.fst e
        have i2 := congrArg Prod.snd e
        rw [cost_cons, price_of j1 hp] at i1
        rw [List.length_cons] at i2
        dsimp only at i1 i2
        have q' : wle x (p + b.1, b.2 + 1) := q
        unfold wle at q' hyl
        dsimp only at q' hyl
        have ex : x = (p + b.1, b.2 + 1) := Prod.ext (by dsimp only; omega) (by dsimp only; omega)
        have er : isRoot w r'.plug r' = true := isRoot_iff.mpr ⟨rfl, _, wt_of hp hb, by rw [e4, ex]⟩
        have hkj : ¬ j < k := fun hlt => by
          have z := emin j r' hlt j1
          rw [er] at z
          cases z
        show (if j = k then lexLt u t else decide (j < k)) = false
        by_cases hjk : j = k
        · rw [if_pos hjk]
          subst hjk
          rw [h1] at j1
          cases j1
          have e3' : wt w r = some (p + b.1, b.2 + 1) := wt_of hp hb
          have eu : (cost rows u, u.length) = (b.1 + d.1, b.2 + d.2) := Prod.ext (by dsimp only; omega) (by dsimp only; omega)
          exact First.lex hw h4 j4 (sumW_append_of hd hb) eu
        · rw [if_neg hjk]
          exact decide_eq_false hkj
end K30
set_option maxHeartbeats 4000000
/-! Plain laws: bounds, sizes in place. -/
namespace K30

/-! ### bounds -/
structure Fine (n : Nat) (rows : List Vrt) : Prop where
  n1 : 1 ≤ n
  n4 : n ≤ 4
  len : rows.length ≤ 14
  plug : ∀ r ∈ rows, r.plug < n
  slot : ∀ r ∈ rows, ∀ s ∈ r.slots, s < n
  few : ∀ r ∈ rows, r.slots.length ≤ 3
  pr : ∀ r ∈ rows, ∀ p, r.price = some p → p ≤ 1000000000

def hb : Nat → Nat
  | 0 => 0
  | k + 1 => 1 + 3 * hb k
theorem sumW_bound {w : List Wt} {m : Nat} (h : ∀ s x, at' w s = some x → x.2 ≤ m ∧ x.1 ≤ x.2 * 1000000000 ∧ 1 ≤ x.2) : ∀ {ss : List Nat} {x : Nat × Nat}, sumW w ss = some x → x.2 ≤ ss.length * m ∧ x.1 ≤ x.2 * 1000000000
  | [], x, e => by
    have e' : (0, 0) = x := Option.some.inj e
    subst e'
    exact ⟨Nat.zero_le _, Nat.zero_le _⟩
  | s :: ss, x, e => by
    obtain ⟨a, b, ha, hb, rfl⟩ := sumW_cons_some e
    obtain ⟨h1, h2, _⟩ := h s a ha
    obtain ⟨h3, h4⟩ := sumW_bound h hb
    rw [List.length_cons, Nat.add_mul, Nat.one_mul]
    dsimp only
    omega
theorem iter_bound {n : Nat} {rows : List Vrt} (F : Fine n rows) : ∀ (k s : Nat) (x : Nat × Nat), at' (iter n rows k) s = some x → x.2 ≤ hb k ∧ x.1 ≤ x.2 * 1000000000 ∧ 1 ≤ x.2
  | 0, s, x, h => by
    have h' : at' (List.replicate n none) s = some x := h
    rw [at_repl] at h'
    cases h'
  | k + 1, s, x, h => by
    have hs : s < n := by
      have q := at_len h
      rw [iter_length] at q
      exact q
    have e : best (iter n rows k) s rows = some x := (at_round hs).symm.trans h
    obtain ⟨r, hr, _, hx⟩ := best_mem e
    obtain ⟨p, b, hp, hbb, rfl⟩ := wt_some hx
    obtain ⟨h1, h2⟩ := sumW_bound (iter_bound F k) hbb
    have h3 := F.few r hr
    have h4 := F.pr r hr p hp
    have h5 : r.slots.length * hb k ≤ 3 * hb k := Nat.mul_le_mul_right _ h3
    show b.2 + 1 ≤ 1 + 3 * hb k ∧ p + b.1 ≤ (b.2 + 1) * 1000000000 ∧ 1 ≤ b.2 + 1
    omega
theorem hb_mono : ∀ {a b : Nat}, a ≤ b → hb a ≤ hb b
  | 0, _, _ => Nat.zero_le _
  | a + 1, b + 1, h => by
    have q := hb_mono (Nat.le_of_succ_le_succ h)
    show 1 + 3 * hb a ≤ 1 + 3 * hb b
    omega
theorem least_bound {n : Nat} {rows : List Vrt} (F : Fine n rows) {s : Nat} {x : Nat × Nat} (h : at' (least n rows) s = some x) : x.2 ≤ 40 ∧ x.1 ≤ 40000000000 ∧ 1 ≤ x.2 := by
  obtain ⟨h1, h2, h3⟩ := iter_bound F n s x h
  have h4 : hb n ≤ 40 := hb_mono F.n4
  omega
theorem iter_bound40 {n : Nat} {rows : List Vrt} (F : Fine n rows) {k : Nat} (hk : k ≤ n) {s : Nat} {x : Nat × Nat} (h : at' (iter n rows k) s = some x) : x.2 ≤ 40 ∧ x.1 ≤ 40000000000 ∧ 1 ≤ x.2 := by
  obtain ⟨h1, h2, h3⟩ := iter_bound F k s x h
  have h4 : hb k ≤ hb 4 := hb_mono (Nat.le_trans hk F.n4)
  have h5 : hb 4 = 40 := rfl
  omega
theorem sumW_many {w : List Wt} (h : ∀ s x, at' w s = some x → 1 ≤ x.2) : ∀ {ss : List Nat} {x : Nat × Nat}, sumW w ss = some x → ss.length ≤ x.2
  | [], x, e => Nat.zero_le _
  | s :: ss, x, e => by
    obtain ⟨a, b, ha, hb, rfl⟩ := sumW_cons_some e
    have h1 := h s a ha
    have h2 := sumW_many h hb
    rw [List.length_cons]
    dsimp only
    omega

/-! ### sizes: weights with all prices nought -/
def zero (r : Vrt) : Vrt := ⟨r.plug, r.slots, r.price.map fun _ => 0⟩
abbrev Sz := Option Nat
def sAt (v : List Sz) (s : Nat) : Sz := (v[s]?).getD none
def sumS (v : List Sz) : List Nat → Sz
  | [] => some 0
  | s :: ss => match sAt v s, sumS v ss with
    | some a, some b => some (a + b)
    | _, _ => none
def sz (v : List Sz) (r : Vrt) : Sz := match r.price, sumS v r.slots with
  | some _, some b => some (b + 1)
  | _, _ => none
def emb (v : List Sz) : List Wt := v.map (Option.map fun m => (0, m))
theorem sumS_cons_some {v : List Sz} {s : Nat} {ss : List Nat} {x : Nat} (h : sumS v (s :: ss) = some x) : ∃ a b, sAt v s = some a ∧ sumS v ss = some b ∧ x = a + b := by
  unfold sumS at h
  split at h
  · rename_i a b ha hb
    exact ⟨a, b, ha, hb, (Option.some.inj h).symm⟩
  · cases h
theorem sumS_cons {v : List Sz} {s : Nat} {ss : List Nat} {a b : Nat} (ha : sAt v s = some a) (hb : sumS v ss = some b) : sumS v (s :: ss) = some (a + b) := by
  unfold sumS; rw [ha, hb]
theorem sz_some {v : List Sz} {r : Vrt} {x : Nat} (h : sz v r = some x) : ∃ p b, r.price = some p ∧ sumS v r.slots = some b ∧ x = b + 1 := by
  unfold sz at h
  split at h
  · rename_i p b hp hb
    exact ⟨p, b, hp, hb, (Option.some.inj h).symm⟩
  · cases h
theorem sz_of {v : List Sz} {r : Vrt} {p b : Nat} (hp : r.price = some p) (hb : sumS v r.slots = some b) : sz v r = some (b + 1) := by
  unfold sz; rw [hp, hb]
theorem at_emb (v : List Sz) (s : Nat) : at' (emb v) s = (sAt v s).map fun m => (0, m) := by
  unfold at' emb sAt
  rw [List.getElem?_map]
  cases v[s]? <;> rfl
theorem sumW_emb (v : List Sz) : ∀ ss : List Nat, sumW (emb v) ss = (sumS v ss).map fun m => (0, m)
  | [] => rfl
  | s :: ss => by
    unfold sumW sumS
    rw [at_emb, sumW_emb v ss]
    cases sAt v s <;> cases sumS v ss <;> rfl
theorem wt_emb (v : List Sz) (r : Vrt) : wt (emb v) (zero r) = (sz v r).map fun m => (0, m) := by
  unfold wt sz zero
  dsimp only
  rw [sumW_emb]
  cases r.price <;> cases sumS v r.slots <;> rfl
theorem emb_length (v : List Sz) : (emb v).length = v.length := List.length_map _
theorem emb_inj {u v : List Sz} (h : emb u = emb v) : u = v := by
  have hl : u.length = v.length := by rw [← emb_length u, h, emb_length]
  apply List.ext_getElem?
  intro i
  have q := congrArg (fun l => l[i]?) h
  dsimp only [emb] at q
  rw [List.getElem?_map, List.getElem?_map] at q
  cases e1 : u[i]? with
  | none =>
    rw [e1] at q
    cases e2 : v[i]? with
    | none => rfl
    | some b => rw [e2] at q; cases q
  | some a =>
    rw [e1] at q
    cases e2 : v[i]? with
    | none => rw [e2] at q; cases q
    | some b =>
      rw [e2] at q
      have q' : a.map (fun m => ((0, m) : Nat × Nat)) = b.map fun m => (0, m) := Option.some.inj q
      cases a with
      | none =>
        cases b with
        | none => rfl
        | some y => cases q'
      | some x =>
        cases b with
        | none => cases q'
        | some y =>
          have z : x = y := congrArg Prod.snd (Option.some.inj q')
          rw [z]

def rows0 (rows : List Vrt) : List Vrt := rows.map zero
/-- the least sizes -/
def leastS (n : Nat) (rows : List Vrt) : List Wt := least n (rows0 rows)
theorem plugs0 {n : Nat} {rows : List Vrt} (h : Plugs n rows) : Plugs n (rows0 rows) := fun r hr => by
  obtain ⟨q, hq, rfl⟩ := List.mem_map.mp hr
  exact h q hq
theorem mem_rows0 {rows : List Vrt} {r : Vrt} (h : r ∈ rows) : zero r ∈ rows0 rows := List.mem_map.mpr ⟨r, h, rfl⟩

/-- one update, in place -/
def step (v : List Sz) (r : Vrt) : List Sz := match sz v r with
  | none => v
  | some m => match sAt v r.plug with
    | none => v.set r.plug (some m)
    | some y => if m < y then v.set r.plug (some m) else v
theorem sAt_set {v : List Sz} {p : Nat} {x : Sz} (hp : p < v.length) (s : Nat) : sAt (v.set p x) s = if s = p then x else sAt v s := by
  unfold sAt
  by_cases h : s = p
  · subst h
    rw [if_pos rfl, List.getElem?_set_self hp]; rfl
  · rw [if_neg h, List.getElem?_set_ne (fun q => h q.symm)]
theorem at_emb_set {v : List Sz} {p m : Nat} (hp : p < v.length) (s : Nat) : at' (emb (v.set p (some m))) s = if s = p then some (0, m) else at' (emb v) s := by
  rw [at_emb, sAt_set hp]
  split
  · rfl
  · rw [at_emb]
theorem set_le {v : List Sz} {p m : Nat} (hp : p < v.length) (h : ole (some (0, m)) (at' (emb v) p)) : LE (emb (v.set p (some m))) (emb v) := fun s => by
  rw [at_emb_set hp]
  split
  · rename_i e; subst e; exact h
  · exact ole_refl _
/-- the invariant of the turns in place: w0 below, u (the turn's start) above, the rows so far served -/
structure InTurn (n : Nat) (rows : List Vrt) (u v : List Sz) (j : Nat) : Prop where
  len : v.length = n
  low : LE (leastS n rows) (emb v)
  up : LE (emb v) (emb u)
  did : ∀ r ∈ rows.take j, ole (at' (emb v) r.plug) (wt (emb u) (zero r))
theorem InTurn.start {n : Nat} {rows : List Vrt} {u : List Sz} (hl : u.length = n) (hw : LE (leastS n rows) (emb u)) : InTurn n rows u u 0 :=
  ⟨hl, hw, LE.refl _, fun r hr => by rw [List.take_zero] at hr; exact absurd hr List.not_mem_nil⟩
theorem take_mem {rows : List Vrt} {j : Nat} {r : Vrt} (hj : rows[j]? = some r) {q : Vrt} (h : q ∈ rows.take (j + 1)) : q ∈ rows.take j ∨ q = r := by
  rw [List.take_add_one, hj] at h
  rcases List.mem_append.mp h with h | h
  · exact .inl h
  · exact .inr (by simpa using h)
/-- a row that changes nothing -/
theorem InTurn.keep {n : Nat} {rows : List Vrt} {u v : List Sz} {j : Nat} {r : Vrt} (I : InTurn n rows u v j) (hj : rows[j]? = some r) (h : ole (at' (emb v) r.plug) (wt (emb v) (zero r))) : InTurn n rows u v (j + 1) :=
  ⟨I.len, I.low, I.up, fun q hq => by
    rcases take_mem hj hq with e | e
    · exact I.did q e
    · subst e
      exact ole_trans h (wt_mono I.up _)⟩
/-- a row that sets a smaller size -/
theorem InTurn.set {n : Nat} {rows : List Vrt} {u v : List Sz} {j m : Nat} {r : Vrt} (hp : Plugs n rows) (I : InTurn n rows u v j) (hj : rows[j]? = some r) (hm : sz v r = some m) (h : ole (some (0, m)) (at' (emb v) r.plug)) :
    InTurn n rows u (v.set r.plug (some m)) (j + 1) := by
  have hr : r ∈ rows := List.mem_of_getElem? hj
  have hpl : r.plug < v.length := by rw [I.len]; exact hp r hr
  have hle := set_le hpl h
  have hwt : wt (emb v) (zero r) = some (0, m) := by rw [wt_emb, hm]; rfl
  refine ⟨by rw [List.length_set]; exact I.len, fun s => ?_, LE.trans hle I.up, fun q hq => ?_⟩
  · rw [at_emb_set hpl]
    split
    · rename_i e
      subst e
      have h1 := least_le (plugs0 hp) (mem_rows0 hr)
      have h2 := wt_mono I.low (zero r)
      rw [hwt] at h2
      exact ole_trans h1 h2
    · exact I.low s
  · rcases take_mem hj hq with e | e
    · exact ole_trans (hle _) (I.did q e)
    · subst e
      rw [at_emb_set hpl, if_pos rfl, ← hwt]
      exact wt_mono I.up _
theorem InTurn.next {n : Nat} {rows : List Vrt} {u v : List Sz} {k : Nat} (I : InTurn n rows u v rows.length) (hk : LE (emb u) (iter n (rows0 rows) k)) : LE (emb v) (iter n (rows0 rows) (k + 1)) := fun s => by
  by_cases hs : s < n
  · show ole _ (at' (round n (rows0 rows) (iter n (rows0 rows) k)) s)
    rw [at_round hs]
    cases e : best (iter n (rows0 rows) k) s (rows0 rows) with
    | none => exact ole_none
    | some x =>
      obtain ⟨r0, hr0, hp, hx⟩ := best_mem e
      obtain ⟨r, hr, rfl⟩ := List.mem_map.mp hr0
      have h1 := I.did r (by rw [List.take_length]; exact hr)
      have h2 := wt_mono hk (zero r)
      rw [hx] at h2
      have hp' : r.plug = s := hp
      rw [hp'] at h1
      exact ole_trans h1 h2
  · have e : at' (iter n (rows0 rows) (k + 1)) s = none := at_round_ge (by omega)
    rw [e]; exact ole_none
/-- nothing changed in a whole turn: the sizes are the least ones -/
theorem InTurn.stop {n : Nat} {rows : List Vrt} {v : List Sz} (I : InTurn n rows v v rows.length) : emb v = leastS n rows := by
  have up : ∀ k, LE (emb v) (iter n (rows0 rows) k) := fun k => by
    induction k with
    | zero =>
      intro s
      show ole _ (at' (List.replicate n none) s)
      rw [at_repl]
      exact ole_none
    | succ k ih => exact I.next ih
  exact LE.antisymm (by rw [emb_length, I.len]; exact (iter_length _ _ _).symm) (up n) I.low
theorem turns_end {n : Nat} {rows : List Vrt} {v : List Sz} (hl : v.length = n) (hw : LE (leastS n rows) (emb v)) (hu : LE (emb v) (iter n (rows0 rows) (n + 1))) : emb v = leastS n rows := by
  rw [iter_fix] at hu
  exact LE.antisymm (by rw [emb_length, hl]; exact (iter_length _ _ _).symm) hu hw

/-! ### what the least sizes tell -/
theorem none_alike {v w : List Wt} (h : ∀ s, at' v s = none ↔ at' w s = none) : ∀ ss : List Nat, sumW v ss = none ↔ sumW w ss = none
  | [] => Iff.intro (fun e => by cases e) (fun e => by cases e)
  | s :: ss => by
    have h1 := h s
    have h2 := none_alike h ss
    unfold sumW
    cases e1 : at' v s <;> cases e2 : at' w s <;> cases e3 : sumW v ss <;> cases e4 : sumW w ss <;> simp_all
theorem best_none {w : List Wt} {s : Nat} {rows : List Vrt} : best w s rows = none ↔ ∀ r ∈ rows, r.plug = s → wt w r = none := by
  constructor
  · intro h r hr hs
    have q := best_le (w := w) hr
    rw [hs, h] at q
    cases e : wt w r with
    | none => rfl
    | some x => rw [e] at q; exact False.elim q
  · intro h
    cases e : best w s rows with
    | none => rfl
    | some x =>
      obtain ⟨r, hr, hs, hx⟩ := best_mem e
      rw [h r hr hs] at hx
      cases hx
theorem wt_zero_none {v w : List Wt} (h : ∀ s, at' v s = none ↔ at' w s = none) (r : Vrt) : wt v (zero r) = none ↔ wt w r = none := by
  have q := none_alike h r.slots
  unfold wt zero
  dsimp only
  cases e1 : r.price <;> cases e3 : sumW v r.slots <;> cases e4 : sumW w r.slots <;> simp_all
theorem iter_none (n : Nat) (rows : List Vrt) : ∀ k s, at' (iter n (rows0 rows) k) s = none ↔ at' (iter n rows k) s = none
  | 0, s => Iff.rfl
  | k + 1, s => by
    by_cases hs : s < n
    · show at' (round n (rows0 rows) (iter n (rows0 rows) k)) s = none ↔ at' (round n rows (iter n rows k)) s = none
      rw [at_round hs, at_round hs, best_none, best_none]
      constructor
      · intro h r hr hp
        exact (wt_zero_none (iter_none n rows k) r).mp (h (zero r) (mem_rows0 hr) hp)
      · intro h r0 hr0 hp
        obtain ⟨r, hr, rfl⟩ := List.mem_map.mp hr0
        exact (wt_zero_none (iter_none n rows k) r).mpr (h r hr hp)
    · show at' (round n _ _) s = none ↔ at' (round n _ _) s = none
      rw [at_round_ge (by omega), at_round_ge (by omega)]
theorem sizes_none {n : Nat} {rows : List Vrt} {v : List Sz} (h : emb v = leastS n rows) (s : Nat) : sAt v s = none ↔ at' (least n rows) s = none := by
  have q := iter_none n rows n s
  have e : at' (emb v) s = at' (iter n (rows0 rows) n) s := by rw [h]; rfl
  have z : at' (iter n rows n) s = at' (least n rows) s := rfl
  rw [← e, at_emb, z] at q
  rw [← q]
  cases sAt v s <;> simp
theorem sizes_some {n : Nat} {rows : List Vrt} {v : List Sz} (h : emb v = leastS n rows) {s m : Nat} (hm : sAt v s = some m) : s < n ∧ 1 ≤ m ∧ ∃ (k : Nat) (r : Vrt), rows[k]? = some r ∧ r.plug = s ∧ sz v r = some m := by
  have e : at' (leastS n rows) s = some (0, m) := by rw [← h, at_emb, hm]; rfl
  obtain ⟨hs, r0, hr0, hp, hx⟩ := least_mem e
  obtain ⟨r, hr, rfl⟩ := List.mem_map.mp hr0
  have hx' : wt (leastS n rows) (zero r) = some (0, m) := hx
  rw [← h, wt_emb] at hx'
  cases ez : sz v r with
  | none => rw [ez] at hx'; cases hx'
  | some y =>
    rw [ez] at hx'
    have ey : y = m := congrArg Prod.snd (Option.some.inj hx')
    subst ey
    obtain ⟨p, b, _, _, e2⟩ := sz_some ez
    obtain ⟨k, hk, ek⟩ := List.getElem_of_mem hr
    exact ⟨hs, by omega, k, r, by rw [List.getElem?_eq_getElem hk, ek], hp, ez⟩
theorem sumS_many {v : List Sz} (h : ∀ s x, sAt v s = some x → 1 ≤ x) : ∀ {ss : List Nat} {x : Nat}, sumS v ss = some x → ss.length ≤ x
  | [], x, e => Nat.zero_le _
  | s :: ss, x, e => by
    obtain ⟨a, b, ha, hb, rfl⟩ := sumS_cons_some e
    have h1 := h s a ha
    have h2 := sumS_many h hb
    rw [List.length_cons]
    omega
theorem sumS_append {v : List Sz} {b : Nat} {u : List Nat} (hb : sumS v u = some b) : ∀ {t : List Nat} {a : Nat}, sumS v t = some a → sumS v (t ++ u) = some (a + b)
  | [], a, h => by
    have e : 0 = a := Option.some.inj h
    subst e
    show sumS v u = _
    rw [hb, Nat.zero_add]
  | s :: t, a, h => by
    obtain ⟨c, d, hc, hd, rfl⟩ := sumS_cons_some h
    show sumS v (s :: (t ++ u)) = _
    rw [sumS_cons hc (sumS_append hb hd), Nat.add_assoc]

/-! ### how many trees there can be -/
def Rb : Nat → Nat
  | 0 => 0
  | 1 => 14
  | 2 => 196
  | 3 => 2744
  | 4 => 76832
  | _ => 1613472
def Sb (f : Nat → Nat) (p : Nat) : Nat → Nat
  | 0 => 0
  | z + 1 => Sb f p z + Rb (z + 1) * f (p - (z + 1))
/-- with j slots and p parts -/
def Fb : Nat → Nat → Nat
  | 0, p => if p = 0 then 1 else 0
  | j + 1, p => Sb (Fb j) p p
theorem Fb_fits : ∀ k : Nat, k < 6 → 1 ≤ k → ∀ j : Nat, j < 4 → 14 * Fb j (k - 1) ≤ Rb k := by decide +kernel
theorem Fb_small : ∀ j : Nat, j < 4 → ∀ p : Nat, p < 5 → Fb j p ≤ 1613472 := by decide +kernel
theorem Rb_small : ∀ k : Nat, Rb k ≤ 1613472
  | 0 => by decide
  | 1 => by decide
  | 2 => by decide
  | 3 => by decide
  | 4 => by decide
  | _ + 5 => Nat.le_refl _
theorem Sb_mono (f : Nat → Nat) (p : Nat) {a b : Nat} (h : a ≤ b) : Sb f p a ≤ Sb f p b := by
  induction h with
  | refl => exact Nat.le_refl _
  | step _ ih => exact Nat.le_trans ih (Nat.le_add_right _ _)
end K30
set_option Elab.async false
set_option linter.all false
set_option maxRecDepth 100000
set_option maxHeartbeats 4000000
/-! Rules that the layer lacks. -/
namespace KR
open PySem PySem.Spec PyProof.Rows L2
open PySem.AutoSeq1 (wpAny_loadPart')

/-! ### enumerate of a tuple -/
abbrev itT (l : Addr) : Obj := { cls := .type "tuple_iterator", data := .fields #[.ref l, .int 0 0] }
abbrev enO (it : Addr) : Obj := { cls := .type "enumerate", data := .fields #[.none, .bool false, .ref it, rawInt 0, .none, .none] }
theorem meets_enumT (l : Addr) (items : Array Value) (n : Nat) (dct : Option Addr) (sl : Array (Option Value)) :
    Meets (Builtin.«enumerate.__new__» ⟨[.type "enumerate", .ref l], []⟩) (fun _ R s => s.heap.get? l = some { cls := .type "tuple", dict := dct, data := .seq items n, slots := sl } ∧
      R (.ok (.ret (.ref (s.heap.push (itT l)).objs.size))) { s with heap := (s.heap.push (itT l)).push (enO s.heap.objs.size) }) :=
  .of_wp fun prog w A R s h => by
    obtain ⟨hp, g, d, tk, os⟩ := s
    obtain ⟨hl, h⟩ := h
    have hsub := sub_enumerate
    have hT : Heap.IsTuple (Shared.heap ⟨hp, g, d, tk, os⟩) l items := ⟨_, hl, rfl, n, rfl⟩
    wp_walk using wpAny_loadPart' hl
    refine wpAny_stack_any fun st => wpAny_pure ?_
    split
    · rename_i c _ _ _ _ _
      cases (c == Value.type "enumerate")
      all_goals (wp_walk using wpAny_loadPart' hl, wpAny_pyIter_tuple hT; exact ⟨_, rfl, h⟩)
    · wp_walk using wpAny_loadPart' hl, wpAny_pyIter_tuple hT
      exact ⟨_, rfl, h⟩
section
variable {prog : Program} {w : World} {A : Around} {E : Value → Shared → Prop} {s : Shared}
theorem call_enumT {l : Addr} {items : Array Value} {Q : Value → Shared → Prop} (hL : IsTup s.heap l items)
    (h : ∀ h', IsEnum h' (s.heap.objs.size + 1) s.heap.objs.size 0 .none → h'.IsTupleIter s.heap.objs.size l 0 → (∀ b o, s.heap.get? b = some o → h'.get? b = some o) → Q (.ref (s.heap.objs.size + 1)) { s with heap := h' }) :
    wpAny (model prog w) A (call (.type "enumerate") [.ref l]) Q E s := by
  obtain ⟨⟨c, dct, dt, sl⟩, hl, hc, n, hd⟩ := hL
  replace hc : c = .type "tuple" := hc
  replace hd : dt = .seq items n := hd
  subst hc hd
  refine callType_new F.called_enumerate (by decide) (F.typeCall_enumerate_1 _) (F.newCall_enumerate_1 _) (fun obj => F.args_object_init_2 obj _) F.entry_enumerate_new (meets_enumT l items n dct sl) ⟨hl, ?_⟩
  have hz : (s.heap.push (itT l)).objs.size = s.heap.objs.size + 1 := Heap.size_push ..
  show _ ∧ _
  rw [hz]
  have he : IsEnum ((s.heap.push (itT l)).push (enO s.heap.objs.size)) (s.heap.objs.size + 1) s.heap.objs.size 0 .none := by
    have q := Heap.get?_push_size (s.heap.push (itT l)) (o := enO s.heap.objs.size) rfl
    rw [hz] at q
    exact q
  exact ⟨⟨_, he, rfl⟩, h _ he ⟨_, Heap.get?_push_of_some _ (Heap.get?_push_size _ rfl), rfl, rfl⟩ fun b o x => Heap.get?_push_of_some _ (Heap.get?_push_of_some _ x)⟩
end
/-- the tuple at a: each item in a new pair -/
def IteT (K : PySem.W.Frag) (a : Addr) : It :=
  ⟨fun i H => ∃ (xs : List V) (x : V), SqT K H a xs ∧ xs[i]? = some x, fun i H v H' => ∃ T x, v = .ref T ∧ H T = none ∧ H' = upd H T (.tup [.int (i : Nat), x]) ∧ ∀ xs, SqT K H a xs → xs[i]? = some x, fun i H => ∃ xs : List V, SqT K H a xs ∧ xs.length ≤ i⟩
theorem turn_enumT {P : Program} {w : World} {K : PySem.W.Frag} {elts : List Expr} {kk : Nat} {tpos : Pos} (a e it : Addr) :
    Turn P w K (.Tuple elts kk tpos) (IteT K a) [e, it] e (fun i h => (∃ old, IsEnum h e it ((i : Nat) : Int) old) ∧ h.IsTupleIter it a i ∧ e ≠ it ∧ a ≠ it ∧ a ≠ e) where
  mem := by simp
  obj := fun i h st b hb => by
    obtain ⟨⟨old, he⟩, ⟨o, ho, hc, hd⟩, _⟩ := st
    have e' : b = e ∨ b = it := by simpa using hb
    rcases e' with z | z
    · subst z
      exact ⟨_, he, fun v q => nomatch q⟩
    · subst z
      refine ⟨o, ho, fun v q => ?_⟩
      rw [hd] at q
      cases q
  keep := fun i h h' st k => by
    obtain ⟨⟨old, he⟩, hi, hne⟩ := st
    exact ⟨⟨old, k e (by simp) _ he⟩, hi.at fun o q => k it (by simp) o q, hne⟩
  item := by
    intro X hP hw hK hc i pins s σ H E I hf st hg
    subst hP hw hK
    obtain ⟨⟨old, he⟩, hit, hne, hai, hae⟩ := st
    obtain ⟨xs, x, hq, hx⟩ := hg
    obtain ⟨its, rv, p, hz⟩ := I.tuple hq
    obtain ⟨u, hu, ru⟩ := rv.get hx
    have hel : e < s.heap.objs.size := Heap.lt_size he
    have hil : it < s.heap.objs.size := by
      obtain ⟨_, q, _⟩ := hit
      exact Heap.lt_size q
    have hlt : i < its.toArray.size := by
      rw [List.size_toArray]
      exact (List.getElem?_eq_some_iff.mp hu).1
    have D := Draws.tuple (prog := X.prog) (w := X.w) (A := X.A.in1) (I.ok.hd hc) it a hai its.toArray
    refine wpAny_pyNext_enum_itemD D he ⟨hit, p⟩ hlt hne (by simp [hne, hae.symm]) fun y h' tk hy ho hst' hT hsz hk => ?_
    have ey : y = u := by
      have z : its.toArray[i]? = some u := by simpa using hu
      exact Option.some.inj (hy.symm.trans z)
    subst ey
    refine ⟨_, rfl, wpAny_letOwnedTupleGo_enum (s := { s with heap := h', toks := tk + 1 }) ho fun h'' he' sb => ?_⟩
    have hT2 : h''.get? s.heap.objs.size = some { cls := .type "tuple", data := .seq #[.int i tk, y] } := (sb.2 _ (Nat.ne_of_gt hel)).trans hT
    have new : ObjOk X.prog X.w (upd H s.heap.objs.size (.tup [.int (i : Nat), x])) h'' s.heap.objs.size (.tup [.int (i : Nat), x]) :=
      ⟨by show 2 ≤ sizeLine; decide, [.int i tk, y], .cons ⟨_, rfl⟩ (.cons ru .nil), ⟨_, hT2, rfl, _, rfl⟩⟩
    have I1 : Inv X pins σ (upd H s.heap.objs.size (.tup [.int (i : Nat), x])) { s with heap := h'', toks := tk + 1 } :=
      I.turnedNew (ch := [e, it]) (fun b ob hb q => (sb.2 b (fun z => hb (by simp [z]))).trans (hk b ob (fun z => hb (by simp [z])) (fun z => hb (by simp [z])) q)) hf (Nat.le_refl _) new
    refine ⟨.ref s.heap.objs.size, _, I1, rfl, ⟨_, x, rfl, I.hok.fresh (Nat.le_refl _), rfl, fun ys hy => ?_⟩, ⟨⟨y, ?_⟩, hst'.1.at fun o q => (sb.2 it (Ne.symm hne)).trans q, hne, hai, hae⟩, fun b hb => ?_⟩
    · rw [I.tuple_inj hy hq]
      exact hx
    · have e1 : ((i + 1 : Nat) : Int) = (i : Int) + 1 := by omega
      rw [e1]
      exact he'
    · have hb' : b < s.heap.objs.size := by
        have e' : b = e ∨ b = it := by simpa using hb
        rcases e' with z | z
        · subst z; exact hel
        · subst z; exact hil
      rw [upd_ne (Nat.ne_of_lt hb')]
      exact (hf b hb).1
  done := by
    intro X hP hw hK hc i pins s σ H E I hf st hg
    subst hP hw hK
    obtain ⟨⟨old, he⟩, hit, hne, hai, hae⟩ := st
    obtain ⟨xs, hq, hx⟩ := hg
    obtain ⟨its, rv, p, hz⟩ := I.tuple hq
    obtain ⟨f0, f1, f2, f3, f4, f5⟩ := hf it (by simp)
    have hl := rv.length
    have hT : s.TypeIs (.ref e) "enumerate" := ⟨_, he, rfl⟩
    unfold pyNext
    refine wpAny_bind (wpAny_attempt (wpAny_callSpecial?_slot (name := Str.ofString "__next__") hT F.slot_enumerate_next (wpAny_call_entry F.slot_enumerate_next hT F.entry_enumerate_next ?_ (F.args_enumerate_next_1 _))))
    show wpAny _ _ (field (.ref e) 2 >>= _) _ _ _
    refine wpAny_bind (wpAny_field he rfl (x := .ref it) rfl ?_)
    refine wpAny_bind (wpAny_nextOf_tuple_end (I.ok.hd hc) hit p (Array.getElem?_eq_none (by rw [List.size_toArray]; omega)) fun h' x he' hx' => ?_)
    obtain ⟨o, ho, hcs⟩ := hx'
    refine wpAny_bind (wpAny_isInstance (T := "StopIteration") (b := true) ⟨o, ho, hcs⟩ isSubtype_stop ?_)
    exact wpAny_pure ⟨rfl, I.turned (t' := s.toks) (fun b o hb q => he' b o hb q) f0 f1 f3 f4 f5⟩
  self := fun A i s Q E st h => by
    obtain ⟨⟨_, he⟩, _⟩ := st
    exact wpAny_pyIter_enum he h
def iEnumT (K : PySem.W.Frag) (ta : TA) : TI := fun σ H R => ta σ H fun vs H1 => ∃ a xs, vs = [.ref a] ∧ SqT K H1 a xs ∧ R (IteT K a) H1
theorem pi_enumT {X : Cx} {e : Expr} {ta : TA} {p pos tpos : Pos} {elts : List Expr} {kk : Nat} (hg : Gl X "enumerate") (hm : X.mg "enumerate" = none) (ha : PA X [e] ta) (hs : starEach [e] X.env = [(false, eval e X.env)] := by rfl) :
    PI X (.Tuple elts kk tpos) (.Call (.Name "enumerate" p) [e] [] pos) (iEnumT X.K ta) := by
  refine ⟨fun pins s σ H R I h => ?_⟩
  refine Call_ (ld_blt I hg hm boot_enumerate (PyProof.Rows.callWith_type1 (thn (ha.run pos pins s σ H _ I h) fun us s1 ⟨vs, H1, I1, r1, q1⟩ => ?_) hs rfl))
  obtain ⟨a, xs, ex, hq, q⟩ := q1
  subst ex
  cases r1 with
  | cons r rr =>
    cases rr
    cases r
    obtain ⟨its, rv, p', hz⟩ := I1.tuple hq
    have hlt := p'.lt
    refine call_enumT p' fun h' he hit hk => wpAny_pyIter_enum he ?_
    have I2 : Inv X pins σ H1 { s1 with heap := h' } := I1.kept (t' := s1.toks) hk
    refine ⟨s1.heap.objs.size + 1, [s1.heap.objs.size + 1, s1.heap.objs.size], _, _, H1, rfl, I2, turn_enumT a (s1.heap.objs.size + 1) s1.heap.objs.size, ⟨⟨.none, he⟩, hit, Nat.succ_ne_self _, Nat.ne_of_lt hlt, Nat.ne_of_lt (Nat.lt_succ_of_lt hlt)⟩, fun b hb => ?_, q⟩
    have hle : s1.heap.objs.size ≤ b := by
      have e' : b = s1.heap.objs.size + 1 ∨ b = s1.heap.objs.size := by simpa using hb
      rcases e' with z | z
      · rw [z]; exact Nat.le_succ _
      · rw [z]; exact Nat.le_refl _
    exact I1.fpOk hle (I1.hok.fresh hle)
/-- a loop over enumerate(a tuple): the pair at T is new -/
theorem for_enumT {K : PySem.W.Frag} {a : Addr} {xs : List V} {g : TG} {tb : TS} {D : Ends} {σ : L2.St} {H : Hp} (Pv : Nat → L2.St → Hp → Prop) (h0 : Pv 0 σ H) (hq : ∀ i σ H, Pv i σ H → SqT K H a xs)
    (hs : ∀ (i : Nat) (x : V) (T : Addr) (σ : L2.St) (H : Hp), xs[i]? = some x → H T = none → Pv i σ H → g (.ref T) σ (upd H T (.tup [.int (i : Nat), x])) fun σ2 H2 => tb { D with nx := Pv (i + 1), ct := Pv (i + 1), bk := D.nx } σ2 H2) (hd : ∀ σ H, Pv xs.length σ H → D.nx σ H) :
    ∃ W : Nat → Nat → L2.St → Hp → Prop, (∃ m, W 0 m σ H) ∧ ∀ i m σ H, W i m σ H →
      ((IteT K a).stop i H ∧ D.nx σ H) ∨ ((IteT K a).go i H ∧ ∃ N : L2.St → Hp → Prop, (∀ σ' H', N σ' H' → ∃ m', m' < m ∧ W (i + 1) m' σ' H') ∧ ∀ v H', (IteT K a).yld i H v H' → g v σ H' fun σ2 H2 => tb { D with nx := N, ct := N, bk := D.nx } σ2 H2) := by
  refine ⟨fun i m σ H => m = xs.length - i ∧ i ≤ xs.length ∧ Pv i σ H, ⟨xs.length, rfl, Nat.zero_le _, h0⟩, ?_⟩
  rintro i m σ H ⟨rfl, hi, p⟩
  by_cases hlt : i < xs.length
  · have hx : xs[i]? = some xs[i] := List.getElem?_eq_getElem hlt
    refine .inr ⟨⟨xs, _, hq i σ H p, hx⟩, Pv (i + 1), fun σ' H' p' => ⟨xs.length - (i + 1), by omega, rfl, hlt, p'⟩, fun v H' y => ?_⟩
    obtain ⟨T, x, rfl, hT, rfl, hy⟩ := y
    exact hs i x T σ H (hy xs (hq i σ H p)) hT p
  · have e : i = xs.length := by omega
    subst e
    exact .inl ⟨⟨xs, hq _ σ H p, Nat.le_refl _⟩, hd σ H p⟩
/-! ### list.extend of a tuple -/
theorem list_extend_tup (l : Addr) (items : Array Value) (n : Nat) (b : Addr) (items2 : Array Value) (n2 : Nat) (dd : Option Addr) (sl : Array (Option Value)) (hs0 : ¬(!items.isEmpty && Builtin.List.listTooLong (items.size + items2.size)) = true) (hs1 : items.size ≤ sizeLine) (hs2 : items.size + items2.size ≤ sizeLine + 1) :
    Meets (Builtin.«list.extend» ⟨[.ref l, .ref b], []⟩) (fun _ R s => s.heap.get? l = some { cls := .type "list", dict := none, data := .seq items n, slots := #[] } ∧ s.heap.get? b = some { cls := .type "tuple", dict := dd, data := .seq items2 n2, slots := sl } ∧
      R (.ok (.ret Value.none)) { s with heap := s.heap.update l (Obj.mapSeq fun x => x ++ items2), toks := s.toks }) :=
  .of_wp fun prog w A R s h => by
    obtain ⟨hp, g, d, tk, os⟩ := s
    obtain ⟨hl, hb, h⟩ := h
    have f1 := AutoSeq1.idx_int
    have f2 := AutoSeq1.sub_tuple_tuple
    have f3 := AutoSeq1.sub_list_list
    have f4 := AutoSeq1.sub_tuple_list
    have f5 := AutoSeq1.sub_list_tuple
    have hz' : (items ++ items2).size ≤ sizeLine + 1 := by
      rw [Array.size_append]
      exact hs2
    wp_walk using (wpAny_updateSeq hl rfl (hz := hs1) (_hz' := hz')), wpAny_loadPart' hl, wpAny_loadPart' hb
    exact ⟨_, rfl, h⟩
def rExtT (K : PySem.W.Frag) : V → List V → Hp → VK → Prop := fun x vs H Q => ∃ l b xs zs, x = .ref l ∧ vs = [.ref b] ∧ H l = some (.lst xs) ∧ SqT K H b zs ∧ xs.length + zs.length ≤ sizeLine ∧ Q .non (upd H l (.lst (xs ++ zs)))
section
variable {X : Cx}
theorem mt_extT : MtR X "list.extend" (rExtT X.K) := by
  intro pins s σ H x vs v us Q I rx rv h
  obtain ⟨l, b, xs, zs, rfl, rfl, hH, hB, hz, q⟩ := h
  cases rx
  obtain ⟨u, rfl, ru⟩ := rv.one
  cases ru
  obtain ⟨z, its, n, r, hl, e⟩ := I.lstM hH
  obtain ⟨its2, r2, ⟨⟨c2, d2, dt2, sl2⟩, e2, hc2, n2, hd2⟩, z2⟩ := I.tuple hB
  have hl2 := r2.length
  simp only at hc2 hd2
  subst hc2 hd2
  have hsz : its.toArray.size + its2.toArray.size ≤ sizeLine := by
    rw [List.size_toArray, List.size_toArray]
    omega
  have hlong : ¬ (!its.toArray.isEmpty && Builtin.List.listTooLong (its.toArray.size + its2.toArray.size)) = true := by
    rw [notLongL hsz, Bool.and_false]
    exact Bool.false_ne_true
  refine call_meets PySem.F.slot_list_extend ⟨_, e, rfl⟩ PySem.F.entry_list_extend (PySem.F.args_list_extend_2 _ _)
    (list_extend_tup l its.toArray n b its2.toArray n2 d2 sl2 hlong (by rw [List.size_toArray]; omega) (by omega)) ⟨e, e2, ?_⟩
  refine ⟨.non, _, I.lset (its' := its ++ its2) hH e (by simp) (r.append r2) ?_, rfl, q⟩
  rw [List.length_append]
  omega
end

/-! ### t[::-1] of a tuple -/
section
variable {prog : Program} {w : World} {A : Around} {E : Value → Shared → Prop} {s : Shared}
theorem adjust_back (n : Nat) : Builtin.Slice.sliceAdjust none none (-1) (n : Int) = ((n : Int) - 1, -1) := by
  unfold Builtin.Slice.sliceAdjust
  simp
theorem places_back (n : Nat) : Builtin.Slice.slicePlaces ((n : Int) - 1) (-1) (-1) = n := by
  unfold Builtin.Slice.slicePlaces
  have h1 : ¬ ((-1 : Int) > 0) := by decide
  simp only [h1, if_false]
  split
  · have e : ((n : Int) - 1 - -1 - 1) / (- -1) = (n : Int) - 1 := by
      rw [show (- -1 : Int) = 1 by decide, Int.ediv_one]
      omega
    rw [e]
    omega
  · omega
theorem applied_back {sl : Addr} {u : Tok} {n : Nat} {Q : Int × Int × Nat → Shared → Prop} (hs : s.heap.IsSliceOf sl .none .none (.int (-1) u)) (h : Q ((n : Int) - 1, -1, n) s) :
    wpAny (model prog w) A (Builtin.Slice.sliceApplied (.ref sl) (pure (n : Int))) Q E s := by
  obtain ⟨os, hos, hcs, hds⟩ := id hs
  unfold Builtin.Slice.sliceApplied Builtin.Slice.sliceFields
  refine wpAny_bind (wpAny_bind (wpAny_field hos hds (x := .none) rfl (wpAny_bind (wpAny_field hos hds (x := .none) rfl (wpAny_bind (wpAny_field hos hds (x := .int (-1) u) rfl (wpAny_pure ?_)))))))
  refine wpAny_bind (slicePart_int ?_)
  show wpAny _ _ (if ((-1 : Int) == 0) = true then _ else _) _ _ s
  rw [if_neg (by decide)]
  refine wpAny_bind (slicePart_none (wpAny_bind (slicePart_none (wpAny_bind (wpAny_pure ?_)))))
  show wpAny _ _ (match Builtin.Slice.sliceAdjust none none (-1) (n : Int) with | (lo, hi) => pure (lo, (-1 : Int), Builtin.Slice.slicePlaces lo hi (-1))) _ _ s
  rw [adjust_back]
  show wpAny _ _ (pure ((n : Int) - 1, (-1 : Int), Builtin.Slice.slicePlaces ((n : Int) - 1) (-1) (-1))) _ _ s
  rw [places_back]
  exact wpAny_pure h
theorem fm_congr {α β : Type} {f g : α → Option β} : ∀ {l : List α}, (∀ x ∈ l, f x = g x) → l.filterMap f = l.filterMap g
  | [], _ => rfl
  | x :: l, h => by
    rw [List.filterMap_cons, List.filterMap_cons, h x List.mem_cons_self, fm_congr fun y hy => h y (List.mem_cons_of_mem _ hy)]
theorem pick_back (xs : Array Value) : ((List.range xs.size).filterMap fun (k : Nat) => xs[(((xs.size : Nat) : Int) - 1 + (k : Int) * -1).toNat]?).toArray = xs.toList.reverse.toArray := by
  congr 1
  have e : ((List.range xs.size).filterMap fun (k : Nat) => xs[(((xs.size : Nat) : Int) - 1 + (k : Int) * -1).toNat]?) = (List.range xs.size).filterMap ((fun j => xs[j]?) ∘ fun k => xs.size - 1 - k) := by
    apply fm_congr
    intro k hk
    have hk' := List.mem_range.mp hk
    have z : (((xs.size : Nat) : Int) - 1 + (k : Int) * -1).toNat = xs.size - 1 - k := by omega
    show xs[_]? = xs[_]?
    rw [z]
  rw [e, ← List.filterMap_map, PySem.W.krv_range, List.filterMap_reverse, PySem.W.krv_all]
/-- the tuple turned round, a new one -/
theorem getItem_back {t sl : Addr} {items : Array Value} {u : Tok} {Q : Value → Shared → Prop} (ht : IsTup s.heap t items) (hs : s.heap.IsSliceOf sl .none .none (.int (-1) u))
    (h : Q (.ref s.heap.objs.size) { s with heap := s.heap.push { cls := .type "tuple", data := .seq items.toList.reverse.toArray } }) (hsz : items.size ≤ sizeLine) : wpAny (model prog w) A (getItem (.ref t) (.ref sl)) Q E s := by
  have htake : sizeOk (.seq items.toList.reverse.toArray) := by
    show items.toList.reverse.toArray.size ≤ sizeLine
    rw [List.size_toArray, List.length_reverse, Array.length_toList]
    exact hsz
  have hTs : s.TypeIs (.ref sl) "slice" := by
    obtain ⟨os, hos, hcs, _⟩ := id hs
    exact ⟨os, hos, hcs⟩
  unfold getItem
  try with_reducible refine wpAny_holding ?_
  first | refine wpAny_bind (wpAny_pure ?_) | skip
  refine wpAny_bind (wpAny_sequenceKey ht.typeIs (by decide) ?_)
  refine wpAny_bind (wpAny_callSpecial?_slot (name := Str.ofString "__getitem__") ht.typeIs PyProof.Rows.slot_tuple_getitem
    (wpAny_call_entry PyProof.Rows.slot_tuple_getitem ht.typeIs entry_tuple_getitem ?_ (args_tuple_getitem _ _)))
  show wpAny _ _ (Builtin.Tuple.tupleItemsOf (.ref t) >>= _) _ _ s
  refine wpAny_bind (tupleItemsOf_ ht ?_)
  refine wpAny_bind (wpAny_typeOf hTs ?_)
  rw [if_pos (by decide)]
  refine wpAny_bind (applied_back hs ?_)
  have hno : ¬ (((((items.size : Nat) : Int) - 1) == 0 && (-1 : Int) == 1 && items.size == items.size) = true) := by
    rw [show ((-1 : Int) == 1) = false by decide, Bool.and_false, Bool.false_and]
    exact Bool.false_ne_true
  show wpAny _ _ (if ((((items.size : Nat) : Int) - 1) == 0 && (-1 : Int) == 1 && items.size == items.size) = true then _ else _) _ _ s
  rw [if_neg hno, pick_back]
  first
    | exact wpAny_bind (m := Builtin.Tuple.tupleExact _) (wpAny_newObj_type (wpAny_pure ⟨_, rfl, wpAny_pure h⟩) htake)
    | exact wpAny_bind (wpAny_bind (m := Builtin.Tuple.tupleExact _) (wpAny_newObj_type (wpAny_pure ⟨_, rfl, wpAny_pure h⟩) htake))
    | exact wpAny_bind (wpAny_bind (m := Builtin.Tuple.tupleExact _) (wpAny_newObj_type (wpAny_pure (wpAny_pure ⟨_, rfl, wpAny_pure h⟩)) htake))
end
def tBack (K : PySem.W.Frag) (te : TE) : TE := fun σ H Q => te σ H fun x H1 => ∃ a xs, x = .ref a ∧ SqT K H1 a xs ∧ ∀ p, H1 p = none → Q (.ref p) (upd H1 p (.tup xs.reverse))
section
variable {X : Cx}
theorem pe_back {e : Expr} {te : TE} {k : Nat} {p1 p2 p3 pos : Pos} (he : PE X e te) : PE X (.Subscript e (.Slice none none (some (.UnaryOp .USub (.Constant (.int 1) k p1) p2)) p3) pos) (tBack X.K te) := by
  refine ⟨fun pins s σ H Q I h => ?_⟩
  refine Subscript_ (thn (he.run pins s σ H _ I h) fun v s1 ⟨x, H1, I1, r1, q1⟩ => ?_)
  obtain ⟨a, xs, ex, hx, q⟩ := q1
  subst ex
  cases r1
  have hst : PO X (some (.UnaryOp .USub (.Constant (.int 1) k p1) p2)) (tPart (tUn (rU fun i => .int (-i)) (tC (.int 1)))) := po_some (pe_un un_neg pe_int)
  refine wpAny_Slice (thn (po_none.run pins s1 σ H1 (fun o H2 => o = none ∧ H2 = H1) I1 ⟨rfl, rfl⟩) fun vl s2 ⟨l, H2, I2, pl, el, e2⟩ => ?_)
  subst el e2
  refine thn (po_none.run pins s2 σ H2 (fun o H3 => o = none ∧ H3 = H2) I2 ⟨rfl, rfl⟩) fun vu s3 ⟨u, H3, I3, pu, eu, e3⟩ => ?_
  subst eu e3
  refine thn (hst.run pins s3 σ H3 (fun o H4 => o = some (-1) ∧ H4 = H3) I3 ⟨1, rfl, -1, rfl, rfl, rfl⟩) fun vs s4 ⟨o, H4, I4, ps, eo, e4⟩ => ?_
  subst eo e4
  cases pl
  cases pu
  obtain ⟨tk, rfl⟩ : ∃ tk, vs = .int (-1) tk := by
    cases ps
    exact ⟨_, rfl⟩
  have I5 : Inv X pins σ H4 { s4 with heap := s4.heap.push { cls := .type "slice", data := .fields #[.none, .none, .int (-1) tk] } } := I4.kept (t' := s4.toks) fun b ob q => Heap.get?_push_of_some _ q
  obtain ⟨its, r, ht, hz⟩ := I5.tuple hx
  have hlen := r.length
  show wpAny (model X.prog X.w) X.A (subscriptTail e (.Slice none none (some (.UnaryOp .USub (.Constant (.int 1) k p1) p2)) p3) (.ref a) (.ref s4.heap.objs.size)) (EP X pins σ Q) X.xe { s4 with heap := s4.heap.push { cls := .type "slice", data := .fields #[.none, .none, .int (-1) tk] } }
  refine tail_any (ops := [.ref a, .ref s4.heap.objs.size]) ht.typeIs PyProof.Rows.slot_tuple_getitem.lookup ?_ (by with_unfolding_all rfl)
  refine getItem_back ht (Heap.IsSliceOf.new _ _ _ _) ?_ (by rw [List.size_toArray]; omega)
  refine ⟨.ref _, _, I5.laid (t' := s4.toks) (o := .tup xs.reverse) (fun b ob q => Heap.get?_push_of_some _ q) (Nat.le_refl _) ?_, rfl, q _ (I5.hok.fresh (Nat.le_refl _))⟩
  exact ⟨by rw [List.length_reverse]; exact hz, _, r.reverse, IsTup.new _ _⟩
end
end KR
set_option Elab.async false
set_option linter.all false
set_option maxRecDepth 100000
set_option maxHeartbeats 4000000
/-! More rules: t * 1, order of (int, int, tuple of ints), repr of data, the law's end with the guards known. -/
namespace KR
open PySem PySem.Spec PyProof.Rows L2
open PySem.AutoSeq1 (wpAny_loadPart')

/-! ### t * 1 is t -/
theorem tuple_mul1 (l : Addr) (items : Array Value) (n : Nat) (dd : Option Addr) (sl : Array (Option Value)) (u : Tok) :
    Meets (Builtin.«tuple.__mul__» ⟨[.ref l, .int 1 u], []⟩) (fun _ R s => s.heap.get? l = some { cls := .type "tuple", dict := dd, data := .seq items n, slots := sl } ∧ R (.ok (.ret (Value.ref l))) s) :=
  .of_wp fun prog w A R s h => by
    obtain ⟨hp, g, d, tk, os⟩ := s
    obtain ⟨hl, h⟩ := h
    have f1 := AutoSeq1.idx_int
    have c0 : (decide ((1 : Int) < -(2 ^ 63)) || decide ((1 : Int) ≥ 2 ^ 63)) = false := by decide
    have c1 : (items.isEmpty || (1 : Int) == 1) = true := by simp
    wp_walk using wpAny_loadPart' hl
    repeat (first
      | (refine wpAny_ite_false (decide_eq_false (by rw [c0]; exact Bool.false_ne_true)) ?_; wp_walk using wpAny_loadPart' hl)
      | (refine wpAny_ite_true (decide_eq_true c1) ?_; wp_walk using wpAny_loadPart' hl))
    exact ⟨_, rfl, h⟩
def rRep1 (K : PySem.W.Frag) : R2 := fun x y H Q => ∃ l xs, x = .ref l ∧ y = .int 1 ∧ SqT K H l xs ∧ Q (.ref l) H
section
variable {X : Cx}
theorem op_rep1 : OpR X (binaryOp .Mult) (rRep1 X.K) := by
  intro pins s σ H x y v u Q I rx ry h
  obtain ⟨l, xs, rfl, rfl, hT, q⟩ := h
  cases rx
  obtain ⟨t, rfl⟩ := ry
  obtain ⟨its, r, ⟨⟨cls, dd, data, sl⟩, ho, hc, n, hd⟩, hs⟩ := I.tuple hT
  simp only at hc hd
  subst hc hd
  refine wpAny_binaryOp_repeat_ref (T := "tuple") (U := "int") (by decide) ⟨_, ho, rfl⟩ (fun s' => typeIs_int s' 1 t) noFill_tuple_mul F.fills_int_mul F.slot_int_rmul repeat_tuple F.slot_int_index.lookup
    (call_meets F.slot_int_rmul (typeIs_int s 1 t) F.entry_int_rmul (F.args_int_rmul_2 _ _) (int_rmul_tuple 1 t l its.toArray n dd sl)
      ⟨ho, rfl, ⟨_, ho, rfl⟩, call_meets F.slot_tuple_mul ⟨_, ho, rfl⟩ F.entry_tuple_mul (F.args_tuple_mul_2 _ _) (tuple_mul1 l its.toArray n dd sl t) ⟨ho, ⟨.ref l, H, I, rfl, q⟩⟩⟩)
/-- (v,) * k, k ≥ 1 -/
def rRepN (K : PySem.W.Frag) : R2 := fun x y H Q => ∃ l k v, x = .ref l ∧ y = .int k ∧ H l = some (.tup [v]) ∧ 1 ≤ k ∧ k ≤ 1000 ∧ ∀ p H', (∀ b o, H b = some o → H' b = some o) → H' p = some (.tup (List.replicate k.toNat v)) → Q (.ref p) H'
theorem flat_rep {v : V} : ∀ n : Nat, (List.replicate n [v]).flatten = List.replicate n v
  | 0 => rfl
  | n + 1 => by
    rw [List.replicate_succ, List.flatten_cons, flat_rep n, List.replicate_succ]
    rfl
theorem op_repN : OpR X (binaryOp .Mult) (rRepN X.K) := by
  intro pins s σ H x y v u Q I rx ry h
  obtain ⟨l, k, z, rfl, rfl, hT, h1, h2, q⟩ := h
  by_cases hk : k = 1
  · subst hk
    exact op_rep1 pins s σ H _ _ v u Q I rx ry ⟨l, [z], rfl, rfl, SqT.of hT, q l H (fun _ _ e => e) hT⟩
  · refine op_repT pins s σ H _ _ v u Q I rx ry ⟨l, k, [z], rfl, rfl, SqT.of hT, by simp, by omega, h2, by show 1 ≤ 1000; decide, fun p hp => ?_⟩
    refine q p _ (fun b o e => ?_) ?_
    · rw [upd_ne (ne_of_none e hp)]
      exact e
    · rw [upd_same, flat_rep]
end

/-! ### (c, m, t) < (c', m', t') that does not hold -/
def rNoLt3 (K : PySem.W.Frag) : R2 := fun x y H Q => ∃ (a b p p' : Addr) (c m c' m' : Int) (ns ms : List Int), x = .ref a ∧ y = .ref b ∧ SqT K H a [.int c, .int m, .ref p] ∧ SqT K H b [.int c', .int m', .ref p'] ∧ SqT K H p (ns.map V.int) ∧ SqT K H p' (ms.map V.int) ∧
  (¬ c < c' ∧ (c = c' → ¬ m < m') ∧ (c = c' → m = m' → HT.lexLt ns ms = false)) ∧ Q (.bl false) H
theorem canLay_ints : ∀ ns : List Int, PyData.canLayAll0 (ns.map PyData.int) = true
  | [] => by simp [PyData.canLayAll0]
  | n :: ns => by simp [PyData.canLayAll0, PyData.canLay0, canLay_ints ns]
theorem dpAll_ints {K : PySem.W.Frag} {H : Hp} : ∀ ns : List Int, DpAll K H (ns.map V.int) (ns.map PyData.int)
  | [] => .nil
  | n :: ns => .cons (.int n) (dpAll_ints ns)
theorem depthAll_ints : ∀ ns : List Int, PyData.depthAll (ns.map PyData.int) ≤ 1
  | [] => by simp [PyData.depthAll]
  | n :: ns => by
    have q := depthAll_ints ns
    simp [PyData.depthAll, PyData.depth]
    omega
section
variable {X : Cx}
theorem op_noLt3 (hu : X.A.units + 64 < cLine) : OpR X (compareOp .Lt) (rNoLt3 X.K) := by
  intro pins s σ H x y v u Q I rx ry h
  obtain ⟨a, b, p, p', c, m, c', m', ns, ms, rfl, rfl, ha, hb, hp, hp', ⟨g1, g2, g3⟩, q⟩ := h
  cases rx
  cases ry
  obtain ⟨its, r1, p1, _⟩ := I.tuple ha
  obtain ⟨its2, r2, p2, _⟩ := I.tuple hb
  obtain ⟨as, rd⟩ := Dp.reads I (.tuple (ns.map PyData.int)) (.ref p) (.ref p) (.tup hp (dpAll_ints ns)) rfl
  obtain ⟨bs, rd'⟩ := Dp.reads I (.tuple (ms.map PyData.int)) (.ref p') (.ref p') (.tup hp' (dpAll_ints ms)) rfl
  obtain ⟨its3, r3, p3, _⟩ := I.tuple hp
  obtain ⟨its4, r4, p4, _⟩ := I.tuple hp'
  have i3 : IntsAre its3.toArray.toList ns := intsAre_of r3
  have i4 : IntsAre its4.toArray.toList ms := intsAre_of r4
  obtain ⟨t1, t2, rfl⟩ : ∃ t1 t2, its = [.int c t1, .int m t2, .ref p] := by
    cases r1 with
    | cons z1 z =>
      cases z with
      | cons z2 z =>
        cases z with
        | cons z3 z =>
          cases z
          obtain ⟨t1, rfl⟩ := z1
          obtain ⟨t2, rfl⟩ := z2
          cases z3
          exact ⟨t1, t2, rfl⟩
  obtain ⟨t3, t4, rfl⟩ : ∃ t3 t4, its2 = [.int c' t3, .int m' t4, .ref p'] := by
    cases r2 with
    | cons z1 z =>
      cases z with
      | cons z2 z =>
        cases z with
        | cons z3 z =>
          cases z
          obtain ⟨t1, rfl⟩ := z1
          obtain ⟨t2, rfl⟩ := z2
          cases z3
          exact ⟨t1, t2, rfl⟩
  have hd1 := depthAll_ints ns
  have he : SeqAt.EqAt X.A.in1 s (.ref p) (.ref p') (PyData.eqv (.tuple (ns.map PyData.int)) (.tuple (ms.map PyData.int))) := by
    refine SeqAt.eqAt_reads _ _ _ _ _ _ _ _ rd rd' (by simp only [PyData.canLay0]; exact canLay_ints ns) (by simp only [PyData.canLay0]; exact canLay_ints ms) ?_
    have z : min (PyData.depth (.tuple (ns.map PyData.int))) (PyData.depth (.tuple (ms.map PyData.int))) ≤ 2 := Nat.le_trans (Nat.min_le_left _ _) (by simp only [PyData.depth]; omega)
    show X.A.units + 1 + _ < cLine
    omega
  have R := Ob.RcOp.tuples_lt (A := X.A) (s := s) (e := fun j => match j with | 0 => c == c' | 1 => m == m' | _ => PyData.eqv (.tuple (ns.map PyData.int)) (.tuple (ms.map PyData.int)))
    (r := fun j => match j with | 0 => decide (c < c') | 1 => decide (m < m') | _ => HT.lexLt ns ms) p1 p2 (by omega)
    (fun j h1 h2 => by
      match j, h1, h2 with
      | 0, _, _ => exact SeqAt.EqAt.int_int c t1 c' t3
      | 1, _, _ => exact SeqAt.EqAt.int_int m t2 m' t4
      | 2, _, _ => exact he
      | j + 3, h1, _ =>
        have z : j + 3 < 3 := h1
        omega)
    (fun j h1 h2 _ => by
      match j, h1, h2 with
      | 0, _, _ => exact Ob.RcOp.lt_int c c' t1 t3
      | 1, _, _ => exact Ob.RcOp.lt_int m m' t2 t4
      | 2, _, _ =>
        intro prog w E Q hq
        have z : wpAny (model prog w) X.A.in1 (compareOp .Lt (.ref p) (.ref p')) Q E s := HT.lt_tupInts p3 p4 i3 i4 (by show X.A.units + 1 < cLine; omega) hq
        exact z
      | j + 3, h1, _ =>
        have z : j + 3 < 3 := h1
        omega)
  have ev : Ob.lexAt (fun j => match j with | 0 => c == c' | 1 => m == m' | _ => PyData.eqv (.tuple (ns.map PyData.int)) (.tuple (ms.map PyData.int))) (fun j => match j with | 0 => decide (c < c') | 1 => decide (m < m') | _ => HT.lexLt ns ms)
      (decide ([Value.int c t1, .int m t2, .ref p].toArray.size < [Value.int c' t3, .int m' t4, .ref p'].toArray.size)) 0 (min [Value.int c t1, .int m t2, .ref p].toArray.size [Value.int c' t3, .int m' t4, .ref p'].toArray.size) = false := by
    show (if (c == c') = true then (if (m == m') = true then (if PyData.eqv (.tuple (ns.map PyData.int)) (.tuple (ms.map PyData.int)) = true then decide (3 < 3) else HT.lexLt ns ms) else decide (m < m')) else decide (c < c')) = false
    by_cases e0 : c = c'
    · rw [if_pos (by simpa using e0)]
      by_cases e1 : m = m'
      · rw [if_pos (by simpa using e1)]
        by_cases e2 : PyData.eqv (.tuple (ns.map PyData.int)) (.tuple (ms.map PyData.int)) = true
        · rw [if_pos e2]
          exact decide_eq_false (Nat.lt_irrefl 3)
        · rw [if_neg e2]
          exact g3 e0 e1
      · rw [if_neg (by simpa using e1)]
        exact decide_eq_false (g2 e0)
    · rw [if_neg (by simpa using e0)]
      exact decide_eq_false g1
  rw [ev] at R
  have z : wpAny (model X.prog X.w) X.A (compareOp .Lt (.ref a) (.ref b)) (EP X pins σ Q) X.xe s := R X.prog X.w X.xe (EP X pins σ Q) ⟨.bl false, H, I, rfl, q⟩
  exact z
end

/-! ### repr of data, nothing of it under way -/
def rRepr (K : PySem.W.Frag) : List V → Hp → VK → Prop := fun xs H Q => ∃ (a : Addr) (d : PyData), xs = [.ref a] ∧ Dp K H (.ref a) d ∧ d.showable = true ∧ d.hasDict = false ∧ d.depth ≤ 8 ∧ d.shown.length ≤ sizeLine ∧ Q (.str d.shown) H
section
variable {X : Cx}
theorem call_repr (hg : X.A.guards = some []) (hu : X.A.units + 64 < cLine) : CallR X (.builtin "repr") (rRepr X.K) := by
  intro pins s σ H xs us Q I r h
  obtain ⟨a, d, rfl, hd, h1, h2, h3, h4, q⟩ := h
  obtain ⟨u, rfl, ru⟩ := vals1 r
  cases ru
  obtain ⟨as, rd⟩ := Dp.reads I d (.ref a) (.ref a) hd rfl
  refine repr_of_reads' rd h1 (PyData.noDict_hsm h2) hg (by omega) (fun b o e => e) (fun h' u tk hk => ?_) h4
  exact ⟨.str _, H, I.kept (t' := tk) hk, ⟨u, rfl⟩, q⟩
end
end KR
set_option Elab.async false
set_option linter.all false
set_option maxRecDepth 100000
set_option maxHeartbeats 4000000
/-! The law's end where the law's body may know that nothing is under way (A.guards = some []). -/
namespace KR
open PySem PySem.Spec PyProof.Rows L2

/-- the promise of the law's def, at the outermost call alone -/
def AtTop (P : Program) (w : World) (K : PySem.W.Frag) (mg : Str → Option Value) (fa : Addr) (n : Nat) : Prop :=
  ∀ (base : Heap) (s : Shared) (H : Hp) (a : Addr) (ns : List Int), K.In base → base.Ns mainGlobals mg → SqL K H a (ns.map V.int) → ns.length ≤ n → Env0 P w K mg base callerA [] s H →
    codeAny (model P w) callerA (.call (.ref fa) ⟨[.ref a], []⟩) (CR CX0 [] P w H s (fun v _ => v = .bl true) E0) s

section
variable {P : Program} {w : World} {K : PySem.W.Frag} {mg mb : Str → Option Value} {fa a : Addr} {s : Shared} {H : Hp}
/-- what stands untracked stays for the base -/
theorem base_ns {b : Addr} {m : Str → Option Value} (hA : ∀ b o, H b = some o → b = a) (hl : ∃ o xs n, s.heap.get? a = some o ∧ o.data = .seq xs n) (x : s.heap.Ns b m) : (hidT s.heap H).Ns b m := by
  obtain ⟨o, es, ep, e, d, r⟩ := x
  refine ⟨o, es, ep, hidT_get e ?_, d, r⟩
  cases q : H b with
  | none => rfl
  | some u =>
    exfalso
    have e' := hA b u q
    subst e'
    obtain ⟨o2, xs, n, e2, d2⟩ := hl
    rw [e] at e2
    cases e2
    rw [d] at d2
    cases d2
theorem base_in (KX : K.In s.heap) (hA : ∀ b o, H b = some o → b = a) (hK : H a ≠ none → K.lookup a = none) : K.In (hidT s.heap H) := fun b o e => by
  refine hidT_get (KX b o e) ?_
  cases q : H b with
  | none => rfl
  | some u =>
    exfalso
    have e' := hA b u q
    subst e'
    rw [hK (by rw [q]; exact fun z => nomatch z)] at e
    cases e
theorem call_top {n : Nat} (F : AtTop P w K mg fa n) {vs : List Value} {ns : List Int} (KX : K.In s.heap) (hns : s.heap.Ns mainGlobals mg) (hb : s.heap.Ns builtinsNs mb) (hbb : ∀ x : Str, x ≠ "__name__" → mb x = bootBuiltins x)
    (hlim : s.heap.NoLimit) (hg : s.gens = #[]) (ha : s.heap.get? a = some { cls := .type "list", data := .seq vs.toArray }) (hn : ns.length ≤ n)
    (hS : SqL K H a (ns.map V.int)) (hok : HOk P w H s.heap) (hA : ∀ b o, H b = some o → b = a) (hF : ∀ o, H a = some o → ∃ ob xs, o = .frz ob (.lst xs)) (hK : H a ≠ none → K.lookup a = none) :
    codeAny (model P w) callerA (.call (.ref fa) ⟨[.ref a], []⟩) (fun r s' => r = .ok (.ret (.bool true)) ∧ OldK s.heap s'.heap ∧ s'.os = s.os ∧ AllBare s'.gens) s := by
  have hl : ∃ o xs k, s.heap.get? a = some o ∧ o.data = .seq xs k := ⟨_, _, _, ha, rfl⟩
  have K1 := base_in KX hA hK
  have N1 := base_ns hA hl hns
  have M : Mod K mg (hidT s.heap H) := by
    refine ⟨K1, N1, ⟨mb, base_ns hA hl hb, hbb⟩, ?_⟩
    obtain ⟨mc, h1, h2⟩ := hlim
    exact ⟨mc, base_ns hA hl h1, h2⟩
  have e0 : Env0 P w K mg (hidT s.heap H) callerA [] s H := by
    refine ⟨rfl, M, fun b o e => of_hidT e, Nat.le_of_eq (hidT_size _ _), trivial, fun b hb => ?_, hok, .of_eq hg⟩
    have z : b ∈ ([] : List Addr) := hb
    cases z
  refine codeAny_mono (F _ s H a ns K1 N1 hS hn e0) fun r s' h => ?_
  cases r with
  | error e => exact False.elim h
  | ok fl =>
    cases fl with
    | next => exact False.elim h
    | brk => exact False.elim h
    | cont => exact False.elim h
    | ret u =>
      obtain ⟨v, H', os, bare, un, hok', rv, q⟩ := h
      have q' : v = .bl true := q
      subst q'
      have ru : u = Value.bool true := rv
      subst ru
      refine ⟨rfl, OldK.of_keep fun b o e => ?_, os, bare⟩
      cases q : H b with
      | none => exact un.keep b o e q (fun z => nomatch (show b ∈ ([] : List Addr) from z)) (fun z => nomatch z)
      | some x =>
        have eb := hA b x q
        subst eb
        obtain ⟨ob, xs, rfl⟩ := hF x q
        obtain ⟨e1, _⟩ := hok _ _ q
        obtain ⟨e2, _⟩ := hok' _ _ (un.frzs _ _ _ q)
        rw [e] at e1
        cases e1
        exact e2
end
/-- the goal that the head leaves, from the promise at the outermost call -/
theorem walk_top {l : PySem.W.OpenLaw} {n : Nat} {q : Program} {loose : List Str} {XP : (Str → Option Value) → Heap → Prop} {YP : World → Heap → Prop} {d : DefRec} {K : Params → PySem.W.Frag}
    (hn : l.most = some n) (hn2 : n ≤ sizeLine) (hdf : d.params.defaults = []) (hY : ∀ (w : World) (h : Heap), YP w h → (K w.params).In h)
    (F : ∀ (w : World) (mg : Str → Option Value) (fa : Addr) (h : Heap), (K w.params).In h → h.Ns mainGlobals mg → mg d.name = some (.ref fa) → AtTop l.prog w (K w.params) mg fa n) :
    PySem.W.WalkO q loose XP YP l.row.toRowW d [] (fun f vs => PySem.call f vs) := by
  refine Att.attach_call hn hdf fun w s₀ s₁ mg mb fa o pm cd doc a vs ns G Y ho hd hcd hmg hobj hints hlen hg => ?_
  have KX := hY w _ Y
  have F1 := F w mg fa _ KX G.T.g hmg
  have rv := vals_ints hints
  have hz : ns.length ≤ sizeLine := Nat.le_trans hlen hn2
  cases hk : (K w.params).lookup a with
  | some ob =>
    have e := KX a ob hk
    rw [hobj] at e
    cases e
    refine call_top (H := fun _ => none) F1 KX G.T.g G.T.b G.T.builtins G.T.nolimit hg hobj hlen (.inr ⟨_, vs.toArray, _, hk, rfl, rfl, rfl, ?_, by simpa using rv⟩) (fun b u z => by cases z) (fun b u z => by cases z) (fun u z => by cases z) (fun z => absurd rfl z)
    rw [List.size_toArray, ← rv.length, List.length_map]
    exact hz
  | none =>
    refine call_top (H := fun b => if b = a then some (.frz { cls := .type "list", data := .seq vs.toArray } (.lst (ns.map V.int))) else none) F1 KX G.T.g G.T.b G.T.builtins G.T.nolimit hg hobj hlen
      (.inl (.inr ⟨{ cls := .type "list", data := .seq vs.toArray }, if_pos rfl⟩)) (fun b u z => ?_) (fun b u z => ?_) (fun u z => ?_) (fun _ => hk)
    · by_cases hb : b = a
      · subst hb
        have z' := (if_pos rfl).symm.trans z
        cases z'
        exact ⟨hobj, by rw [List.length_map]; exact hz, vs, _, rv, hobj⟩
      · have z' := (if_neg hb).symm.trans z
        cases z'
    · by_cases hb : b = a
      · exact hb
      · have z' := (if_neg hb).symm.trans z
        cases z'
    · have z' := (if_pos rfl).symm.trans z
      cases z'
      exact ⟨_, _, rfl⟩
section
variable {P : Program} {w : World} {K : PySem.W.Frag} {mg : Str → Option Value}
/-- the law's def at the outermost call: its body as a term, its reading; the guards are known -/
theorem top_of {qual : Str} {st : Stmt} {f : Addr} {fd : FuncData} {N : List Str} {x : Str} {k n : Nat} (F : Fun K qual qual st f fd) (S : FnScope N [x] (defScope st)) (hb : ∀ (s : Shared) (u : Value), BindsTo s fd ⟨[u], []⟩ [(x, u)]) (hr : Room (k + 1) callerA)
    (hbody : ∀ (base : Heap) (cdv : Value) (A : Around) (s : Shared) (H : Hp) (a : Addr) (ns : List Int), K.In base → base.Ns mainGlobals mg → Room k A → A.guards = some [] → SqL K H a (ns.map V.int) → ns.length ≤ n → A = callerA.deeper (envOfC qual (defScope st) s.heap.objs.size f cdv) →
      ∃ t, PSs (cxOf CX0 P w K mg base N qual (defScope st) f cdv callerA [] s H E0).nox (defBody st) t ∧ t { nx := fun _ _ => False, rt := fun v _ => v = .bl true } (start N [.ref a]) H) : AtTop P w K mg f n := by
  intro base s H a ns hK hns hS hlen e0
  obtain ⟨oc, od, kV, doc, pm, an, cdv, ct, osl, rfl, lk, hcd⟩ := F.ex
  have KX : K.In s.heap := e0.mod.kin.keeps fun b o e => (e0.bs b o e).1
  have lim : s.heap.NoLimit := e0.mod.nolimit.keeps fun b o e => (e0.bs b o e).1
  have hpar := S.par x (by simp)
  refine codeAny_call_function hr.depth (KX _ _ lk) rfl S.co S.gen rfl (PySem.W.codeRec_of KX hcd) (hb s (.ref a) _ _ _ _ ?_)
  refine wpAny_newFunctionEnv_cells S.kind (fun y hy => ?_) fun env he s1 z => ?_
  · have ey : y = (x, Value.ref a) := by simpa using hy
    subst ey
    rcases hpar with q | q
    · exact .inl q
    · exact .inr ⟨q, PySem.W.cellsFrom_some _ _ _ (.inl q)⟩
  subst he
  refine ⟨lim.keeps z.toInCall.keep, codeAny_func ?_⟩
  obtain ⟨t, ht, hq⟩ := hbody base cdv _ s H a ns hK hns (hr.deeper _) rfl hS hlen rfl
  have I : Inv (cxOf CX0 P w K mg base N qual (defScope st) f cdv callerA [] s H E0) [] (start N [.ref a]) H s1 := inv_start (vs := [.ref a]) (us := [.ref a]) S rfl e0 rfl (.cons rfl .nil) z
  refine wpAny_mono (ht.nox.run [] s1 (start N [.ref a]) H _ I hq) (fun fl s' hs => ?_) fun e s' hs => hs
  cases fl with
  | ret u =>
    obtain ⟨v, σ', H', J, rv, q⟩ := hs
    exact ⟨v, H', J.os, J.bare, J.base, J.hok, rv, q⟩
  | next =>
    obtain ⟨_, _, _, q⟩ := hs
    exact False.elim q
  | brk =>
    obtain ⟨_, _, _, q⟩ := hs
    exact False.elim q
  | cont =>
    obtain ⟨_, _, _, q⟩ := hs
    exact False.elim q
end
end KR
set_option Elab.async false
set_option linter.all false
set_option maxRecDepth 100000
set_option maxHeartbeats 4000000
/-! The text by places, what stands in the heap. -/
namespace KW
open PySem PySem.Spec PyProof.Rows L2 KR K30

def top (i : Nat) : Stmt := PySem.Challenge.pw_slotwise_k30_whole_no_tree_is_lighter.main.body.getD i (.Pass ⟨0, 0, 0, 0⟩)

/-- a def of the top as it stands -/
structure DefIs (K : PySem.W.Frag) (mg : Str → Option Value) (x : Str) (st : Stmt) (ps : List Str) (f : Addr) (fd : FuncData) : Prop where
  fn : Fun K x x st f fd
  mg : mg x = some (.ref f)
  bd : Binds K fd ps []
/-- the built-in names as they are -/
structure Txt (mg : Str → Option Value) : Prop where
  b_len : mg "len" = none
  b_abs : mg "abs" = none
  b_int : mg "int" = none
  b_max : mg "max" = none
  b_list : mg "list" = none
  b_tuple : mg "tuple" = none
  b_range : mg "range" = none
  b_sum : mg "sum" = none
  b_repr : mg "repr" = none
  b_isinstance : mg "isinstance" = none
  b_enumerate : mg "enumerate" = none
  b_reversed : mg "reversed" = none
  most : ∃ t, mg "MOST_PARTS" = some (.int 100 t)

/-! ### values -/
abbrev nv (k : Nat) : V := .int (k : Int)
def ov : Option Nat → V
  | none => .non
  | some p => nv p
theorem nv_inj {a b : Nat} (h : nv a = nv b) : a = b := by
  have q : (a : Int) = (b : Int) := V.int.inj h
  omega

theorem map_get {α : Type} {f : α → V} {xs : List α} {i : Nat} {y : V} (h : (xs.map f)[i]? = some y) : ∃ x, xs[i]? = some x ∧ f x = y := by
  rw [List.getElem?_map] at h
  cases e : xs[i]? with
  | none =>
    rw [e] at h
    cases h
  | some x =>
    rw [e] at h
    exact ⟨x, rfl, Option.some.inj h⟩
theorem ix_nat {n j : Nat} (h : j < n) : ixN n (j : Int) = some j := by
  unfold ixN
  rw [if_pos (by omega), if_pos (by omega), Int.toNat_natCast]
theorem at_map {α : Type} {f : α → V} {xs : List α} {i : Nat} {x : α} (h : xs[i]? = some x) : atI (xs.map f) (i : Int) = some (f x) := atI_nat (by rw [List.getElem?_map, h]; rfl)

/-! ### heaps -/
theorem same_new {H : Hp} {p : Addr} {o : HO} (h : H p = none) : Same H (upd H p o) := fun b x e => by
  rw [upd_ne (ne_of_none e h)]
  exact e
/-- a change of a list that was not there at first -/
theorem same_upd {H H' : Hp} {l : Addr} {o : HO} (s : Same H H') (h : H l = none) : Same H (upd H' l o) := fun b x e => by
  rw [upd_ne (ne_of_none e h)]
  exact s b x e
/-- all but the object at a is as it was -/
def But (a : Addr) (H H' : Hp) : Prop := ∀ b o, H b = some o → b ≠ a → H' b = some o
theorem But.refl {a : Addr} {H : Hp} : But a H H := fun _ _ e _ => e
theorem But.trans {a : Addr} {H H1 H2 : Hp} (x : But a H H1) (y : But a H1 H2) : But a H H2 := fun b o e n => y b o (x b o e n) n
theorem But.of {a : Addr} {H H' : Hp} (s : Same H H') : But a H H' := fun b o e _ => s b o e
theorem But.upd_at {a : Addr} {H : Hp} {o : HO} : But a H (upd H a o) := fun b x e n => by
  rw [upd_ne n]
  exact e
theorem But.upd_new {a l : Addr} {H H' : Hp} {o : HO} (s : But a H H') (h : H l = none) : But a H (upd H' l o) := fun b x e n => by
  rw [upd_ne (ne_of_none e h)]
  exact s b x e n

/-! ### the tape -/
def TapeAt (H : Hp) (a b : Addr) : Prop := ∃ (ns : List Int) (p r t : Int), H a = some (.lst [.ref b, .int p, .int r, .int t]) ∧ H b = some (.lst (ns.map V.int)) ∧ 0 ≤ p ∧ 0 ≤ r
theorem tape_ne {b : Addr} {ns : List Int} {p r t : Int} : HO.lst (ns.map V.int) ≠ HO.lst [.ref b, .int p, .int r, .int t] := fun h => by
  have q := HO.lst.inj h
  cases ns with
  | nil => cases q
  | cons n ns =>
    have z : V.int n = V.ref b := (List.cons.inj q).1
    cases z
theorem TapeAt.of_same {H H' : Hp} {a b : Addr} (h : TapeAt H a b) (s : Same H H') : TapeAt H' a b := by
  obtain ⟨ns, p, r, t, h1, h2, h3⟩ := h
  exact ⟨ns, p, r, t, s _ _ h1, s _ _ h2, h3⟩
theorem TapeAt.ne {H : Hp} {a b l : Addr} (h : TapeAt H a b) (hl : H l = none) : l ≠ a ∧ l ≠ b := by
  obtain ⟨ns, p, r, t, h1, h2, h3⟩ := h
  exact ⟨(ne_of_none h1 hl).symm, (ne_of_none h2 hl).symm⟩
/-- another object is stored -/
theorem TapeAt.upd {H : Hp} {a b l : Addr} {o : HO} (h : TapeAt H a b) (n : l ≠ a) (n2 : l ≠ b) : TapeAt (upd H l o) a b := by
  obtain ⟨ns, p, r, t, h1, h2, h3⟩ := h
  exact ⟨ns, p, r, t, by rw [upd_ne n.symm]; exact h1, by rw [upd_ne n2.symm]; exact h2, h3⟩
theorem But.free {a b l : Addr} {H H' : Hp} (s : But a H H') (t : TapeAt H' a b) (h : H' l = none) : H l = none := by
  cases e : H l with
  | none => rfl
  | some o =>
    by_cases n : l = a
    · subst n
      obtain ⟨ns, p, r, t, h1, _⟩ := t
      rw [h1] at h
      cases h
    · have q := s l o e n
      rw [h] at q
      cases q

/-! ### families -/
def RowAt (H : Hp) (v : V) (r : Vrt) : Prop := ∃ (a b : Addr), v = .ref a ∧ H a = some (.tup [nv r.plug, .ref b, ov r.price]) ∧ H b = some (.tup (r.slots.map nv))
def RowsAt (H : Hp) (vs : List V) (rows : List Vrt) : Prop := vs.length = rows.length ∧ ∀ (i : Nat) (r : Vrt), rows[i]? = some r → ∃ v, vs[i]? = some v ∧ RowAt H v r
def FamAt (H : Hp) (f : Addr) (n : Nat) (rows : List Vrt) : Prop := ∃ (rt vt : Addr) (vs : List V), H f = some (.tup [nv n, .ref rt, .ref vt]) ∧ H vt = some (.tup vs) ∧ RowsAt H vs rows
/-- tuples stay -/
def Tups (H H' : Hp) : Prop := ∀ b xs, H b = some (.tup xs) → H' b = some (.tup xs)
theorem Tups.refl {H : Hp} : Tups H H := fun _ _ e => e
theorem Tups.trans {H H1 H2 : Hp} (a : Tups H H1) (b : Tups H1 H2) : Tups H H2 := fun c o e => b c o (a c o e)
theorem Tups.of {H H' : Hp} (s : Same H H') : Tups H H' := fun b xs e => s b _ e
theorem Tups.but {H H' : Hp} {a : Addr} (s : But a H H') (h : ∀ xs, H a ≠ some (.tup xs)) : Tups H H' := fun b xs e => s b _ e fun z => by
  subst z
  exact h xs e
theorem Tups.upd_new {H H' : Hp} {l : Addr} {o : HO} (s : Tups H H') (h : ∀ xs, H l ≠ some (.tup xs)) : Tups H (upd H' l o) := fun b xs e => by
  by_cases n : b = l
  · subst n
    exact absurd e (h xs)
  · rw [upd_ne n]
    exact s b xs e
theorem Tups.upd_list {H : Hp} {l : Addr} {ys : List V} {o : HO} (h : H l = some (.lst ys)) : Tups H (upd H l o) := Tups.refl.upd_new fun xs e => by
  rw [h] at e
  cases e
theorem TapeAt.tups {H H' : Hp} {a b : Addr} (h : TapeAt H a b) (s : But a H H') : Tups H H' := Tups.but s fun xs e => by
  obtain ⟨ns, p, r, t, h1, _⟩ := h
  rw [h1] at e
  cases e
theorem RowAt.mono {H H' : Hp} {v : V} {r : Vrt} (h : RowAt H v r) (s : Tups H H') : RowAt H' v r := by
  obtain ⟨a, b, e, h1, h2⟩ := h
  exact ⟨a, b, e, s _ _ h1, s _ _ h2⟩
theorem RowsAt.mono {H H' : Hp} {vs : List V} {rows : List Vrt} (h : RowsAt H vs rows) (s : Tups H H') : RowsAt H' vs rows := by
  refine ⟨h.1, fun i r e => ?_⟩
  obtain ⟨v, h1, h2⟩ := h.2 i r e
  exact ⟨v, h1, h2.mono s⟩
theorem FamAt.mono {H H' : Hp} {f : Addr} {n : Nat} {rows : List Vrt} (h : FamAt H f n rows) (s : Tups H H') : FamAt H' f n rows := by
  obtain ⟨rt, vt, vs, h1, h2, h3⟩ := h
  exact ⟨rt, vt, vs, s _ _ h1, s _ _ h2, h3.mono s⟩
theorem RowsAt.get {H : Hp} {vs : List V} {rows : List Vrt} (h : RowsAt H vs rows) {i : Nat} {v : V} (e : vs[i]? = some v) : ∃ r, rows[i]? = some r ∧ RowAt H v r := by
  have hi : i < rows.length := by
    rw [← h.1]
    exact (List.getElem?_eq_some_iff.mp e).1
  obtain ⟨v', h1, h2⟩ := h.2 i rows[i] (List.getElem?_eq_getElem hi)
  rw [e] at h1
  cases h1
  exact ⟨_, List.getElem?_eq_getElem hi, h2⟩

/-! ### tables of weights -/
def WAt (H : Hp) : V → Wt → Prop
  | v, none => v = .non
  | v, some x => ∃ a : Addr, v = .ref a ∧ H a = some (.tup [nv x.1, nv x.2])
def WsAt (H : Hp) (vs : List V) (w : List Wt) : Prop := vs.length = w.length ∧ ∀ (i : Nat) (x : Wt), w[i]? = some x → ∃ v, vs[i]? = some v ∧ WAt H v x
def TabAt (H : Hp) (t : Addr) (w : List Wt) : Prop := ∃ vs, H t = some (.tup vs) ∧ WsAt H vs w
theorem WAt.mono {H H' : Hp} {v : V} {x : Wt} (h : WAt H v x) (s : Tups H H') : WAt H' v x := by
  cases x with
  | none => exact h
  | some x =>
    obtain ⟨a, e, h1⟩ := h
    exact ⟨a, e, s _ _ h1⟩
theorem WsAt.mono {H H' : Hp} {vs : List V} {w : List Wt} (h : WsAt H vs w) (s : Tups H H') : WsAt H' vs w := by
  refine ⟨h.1, fun i x e => ?_⟩
  obtain ⟨v, h1, h2⟩ := h.2 i x e
  exact ⟨v, h1, h2.mono s⟩
theorem TabAt.mono {H H' : Hp} {t : Addr} {w : List Wt} (h : TabAt H t w) (s : Tups H H') : TabAt H' t w := by
  obtain ⟨vs, h1, h2⟩ := h
  exact ⟨vs, s _ _ h1, h2.mono s⟩
theorem WsAt.at {H : Hp} {vs : List V} {w : List Wt} (h : WsAt H vs w) {s : Nat} (hs : s < w.length) : ∃ v, atI vs (s : Int) = some v ∧ vs[s]? = some v ∧ WAt H v (at' w s) := by
  obtain ⟨v, h1, h2⟩ := h.2 s (at' w s) (at_get hs)
  exact ⟨v, atI_nat h1, h1, h2⟩
theorem WAt.is_none {H : Hp} {v : V} {x : Wt} (h : WAt H v x) : (v = .non ∧ x = none) ∨ ∃ (a : Addr) (y : Nat × Nat), v = .ref a ∧ x = some y ∧ H a = some (.tup [nv y.1, nv y.2]) := by
  cases x with
  | none => exact .inl ⟨h, rfl⟩
  | some y =>
    obtain ⟨a, e, h1⟩ := h
    exact .inr ⟨a, y, e, rfl, h1⟩
end KW
set_option Elab.async false
set_option linter.all false
set_option maxRecDepth 100000
set_option maxHeartbeats 4000000
/-! The program's defs: weight_of, least_round, least_weights. -/
namespace KW
open PySem PySem.Spec PyProof.Rows L2 KR K30

theorem sumW_has_none {w : List Wt} {u : Nat} (h : at' w u = none) : ∀ {ss : List Nat}, u ∈ ss → sumW w ss = none
  | s :: ss, hu => by
    rcases List.mem_cons.mp hu with e | e
    · subst e
      exact sumW_cons_none h
    · unfold sumW
      rw [sumW_has_none h e]
      cases at' w s <;> rfl
theorem sumW_take {w : List Wt} {ss : List Nat} {i s : Nat} {x y : Nat × Nat} (hs : ss[i]? = some s) (hx : sumW w (ss.take i) = some x) (hy : at' w s = some y) : sumW w (ss.take (i + 1)) = some (x.1 + y.1, x.2 + y.2) := by
  rw [List.take_add_one, hs]
  have h1 : sumW w [s] = some (y.1 + 0, y.2 + 0) := sumW_cons (b := (0, 0)) hy rfl
  exact sumW_append_of h1 hx

abbrev s_weight_of : Stmt := top 7
abbrev N_weight_of : List Str := ["variant", "weights", "_", "slots", "price", "parts", "state"]
theorem sc_weight_of : FnScope N_weight_of ["variant", "weights"] (defScope s_weight_of) := ⟨rfl, rfl, rfl, by decide +kernel, rfl, by decide +kernel, by decide +kernel⟩
def sp_weight_of : Sp := fun vs H Q _ => ∃ (v : V) (t : Addr) (r : Vrt) (w : List Wt), vs = [v, .ref t] ∧ RowAt H v r ∧ TabAt H t w ∧ (∀ s ∈ r.slots, s < w.length) ∧ ∀ u H', Same H H' → WAt H' u (wt w r) → Q u H'
section
variable {P : Program} {w : World} {K : PySem.W.Frag} {mg : Str → Option Value} {base : Heap}
theorem ok_weight_of {f : Addr} {fd : FuncData} (D : DefIs K mg "weight_of" s_weight_of ["variant", "weights"] f fd) (T : Txt mg) : FnOk P w K mg base CX0 1 f fd ["variant", "weights"] sp_weight_of := by
  refine D.fn.ok sc_weight_of (fun vs H Q E h => ?_) (fun cdv A outer s H vs Q E hr h => ?_)
  · obtain ⟨v, t, r, w, rfl, _⟩ := h
    rfl
  · obtain ⟨v, t, ⟨plug, slots, price⟩, wg, rfl, ⟨a, b, rfl, h1, h2⟩, ⟨ws, hT, hW⟩, hs, k⟩ := h
    refine ⟨_, (pss_cons (ps_asg (pv 0) (pg_tup rfl (pgs_cons (pg_name (i := 2) sc_weight_of.nd rfl (Or.inl rfl)) (pgs_cons (pg_name (i := 3) sc_weight_of.nd rfl (Or.inl rfl)) (pgs_cons (pg_name (i := 4) sc_weight_of.nd rfl (Or.inl rfl)) pgs_nil)))))
    (pss_cons (ps_if (pt_cmpR op_isN (pv 4) pe_non (nomark _))
    (pss_one (ps_ret pe_non))
    pss_nil)
    (pss_cons (ps_set (i := 5) sc_weight_of.nd rfl (Or.inl rfl) pe_int)
    (pss_cons (ps_for PassesOwn.never rfl (pi_tup (pv 3)) (pg_name (i := 6) sc_weight_of.nd rfl (Or.inl rfl))
    (pss_cons (ps_if (pt_cmpR op_isN (pe_ix ix_tup (pv 1) (pv 6) (fun _ _ => rfl)) pe_non (nomark _))
      (pss_one (ps_ret pe_non))
      pss_nil)
      (pss_cons (ps_aug (i := 4) sc_weight_of.nd rfl (Or.inl rfl) (pe_ix ix_tup (pe_ix ix_tup (pv 1) (pv 6) (fun _ _ => rfl)) pe_int (fun _ _ => rfl)) ip_add)
      (pss_one (ps_aug (i := 5) sc_weight_of.nd rfl (Or.inl rfl) (pe_ix ix_tup (pe_ix ix_tup (pv 1) (pv 6) (fun _ _ => rfl)) pe_int (fun _ _ => rfl)) ip_add)))))
    (pss_one (ps_ret (pe_tup (pa_cons (pv 4) (pa_cons (pv 5) pa_nil))))))))), ?_⟩
    refine ⟨_, rfl, a, _, rfl, SqT.of h1, rfl, _, _, rfl, _, _, rfl, _, _, rfl, rfl, ?_⟩
    cases price with
    | none =>
      refine ⟨_, rfl, rfl, _, rfl, iteT ?_⟩
      exact k _ H (Same.refl H) rfl
    | some p =>
      refine ⟨_, rfl, rfl, _, rfl, iteF ?_⟩
      refine ⟨_, rfl, b, rfl, ⟨_, SqT.of h2⟩, for_tup (K := K) (a := b) (xs := slots.map nv) (fun i σ H' => H' = H ∧ ∃ (x : Nat × Nat) (y : Option V), sumW wg (slots.take i) = some x ∧
        σ = [some (.ref a), some (.ref t), some (nv plug), some (.ref b), some (nv (p + x.1)), some (nv (1 + x.2)), y])
        ⟨rfl, (0, 0), none, rfl, rfl⟩ (fun i σ H' _ hP => by rw [hP.1]; exact SqT.of h2) ?_ ?_⟩
      · rintro i y σ H' hi ⟨rfl, x, y6, hx, rfl⟩
        rw [List.getElem?_map] at hi
        obtain ⟨st, hst, rfl⟩ : ∃ st, slots[i]? = some st ∧ nv st = y := by
          cases e : slots[i]? with
          | none => rw [e] at hi; cases hi
          | some st => rw [e] at hi; exact ⟨st, rfl, Option.some.inj hi⟩
        have hm : st ∈ slots := List.mem_of_getElem? hst
        obtain ⟨u, hu, _, hua⟩ := hW.at (hs st hm)
        rcases hua.is_none with ⟨rfl, hn⟩ | ⟨c, z, rfl, hz, hc⟩
        · refine ⟨_, rfl, _, rfl, t, ws, _, _, rfl, rfl, SqT.of hT, hu, rfl, _, rfl, iteT ?_⟩
          refine k _ _ (Same.refl _) ?_
          show WAt _ _ (wt wg ⟨plug, slots, some p⟩)
          have e : wt wg ⟨plug, slots, some p⟩ = none := by
            unfold wt
            dsimp only
            rw [sumW_has_none hn hm]
          rw [e]
          rfl
        · refine ⟨_, rfl, _, rfl, t, ws, _, _, rfl, rfl, SqT.of hT, hu, rfl, _, rfl, iteF ?_⟩
          refine ⟨_, rfl, _, rfl, _, rfl, t, ws, _, _, rfl, rfl, SqT.of hT, hu, c, _, 0, _, rfl, rfl, SqT.of hc, atI_nat (j := 0) rfl, _, _, rfl, rfl, ?_⟩
          refine ⟨_, rfl, _, rfl, _, rfl, t, ws, _, _, rfl, rfl, SqT.of hT, hu, c, _, 1, _, rfl, rfl, SqT.of hc, atI_nat (j := 1) rfl, _, _, rfl, rfl, ?_⟩
          refine ⟨rfl, _, some (nv st), sumW_take hst hx hz, ?_⟩
          have e1 : ((p + x.1 : Nat) : Int) + (z.1 : Int) = ((p + (x.1 + z.1) : Nat) : Int) := by omega
          have e2 : ((1 + x.2 : Nat) : Int) + (z.2 : Int) = ((1 + (x.2 + z.2) : Nat) : Int) := by omega
          show [some (V.ref a), some (.ref t), some (nv plug), some (.ref b), some (V.int (((p + x.1 : Nat) : Int) + (z.1 : Int))), some (V.int (((1 + x.2 : Nat) : Int) + (z.2 : Int))), some (nv st)] = _
          rw [e1, e2]
      · rintro σ H' ⟨rfl, x, y6, hx, rfl⟩
        rw [List.length_map, List.take_length] at hx
        refine ⟨_, rfl, _, rfl, (by show 2 ≤ sizeLine; decide), fun q hq => ?_⟩
        refine k _ _ (same_new hq) ?_
        have e : wt wg ⟨plug, slots, some p⟩ = some (p + x.1, x.2 + 1) := wt_of rfl hx
        rw [e]
        refine ⟨q, rfl, ?_⟩
        rw [upd_same, Nat.add_comm x.2 1]
end

/-! ### least_round -/
def bestsTo (w : List Wt) (n : Nat) (rows : List Vrt) : List Wt := (List.range n).map fun s => best w s rows
theorem bestsTo_get {w : List Wt} {n : Nat} {rows : List Vrt} {s : Nat} (h : s < n) : (bestsTo w n rows)[s]? = some (best w s rows) := by
  unfold bestsTo
  rw [List.getElem?_map, List.getElem?_range h]
  rfl
theorem bestsTo_length {w : List Wt} {n : Nat} {rows : List Vrt} : (bestsTo w n rows).length = n := by
  unfold bestsTo
  rw [List.length_map, List.length_range]
theorem bests_nil {w : List Wt} {n : Nat} {H : Hp} : WsAt H (List.replicate n .non) (bestsTo w n []) := by
  refine ⟨by rw [List.length_replicate, bestsTo_length], fun i x e => ?_⟩
  have hi : i < n := by
    have q := (List.getElem?_eq_some_iff.mp e).1
    rw [bestsTo_length] at q
    exact q
  rw [bestsTo_get hi] at e
  cases e
  exact ⟨.non, by rw [List.getElem?_replicate, if_pos hi], rfl⟩
/-- a row that changes nothing -/
theorem bests_keep {w : List Wt} {n : Nat} {H : Hp} {bs : List V} {rows : List Vrt} {r : Vrt} (h : WsAt H bs (bestsTo w n rows)) (e : better (best w r.plug rows) (wt w r) = best w r.plug rows) : WsAt H bs (bestsTo w n (rows ++ [r])) := by
  have q : bestsTo w n (rows ++ [r]) = bestsTo w n rows := by
    unfold bestsTo
    refine List.map_congr_left fun s _ => ?_
    rw [best_concat]
    split
    · rename_i hs
      subst hs
      exact e
    · rfl
  rw [q]
  exact h
/-- a row that is better -/
theorem bests_set {w : List Wt} {n : Nat} {H : Hp} {bs : List V} {rows : List Vrt} {r : Vrt} {v : V} (h : WsAt H bs (bestsTo w n rows)) (hr : r.plug < n) (e : better (best w r.plug rows) (wt w r) = wt w r) (hv : WAt H v (wt w r)) :
    WsAt H (bs.set r.plug v) (bestsTo w n (rows ++ [r])) := by
  have hl : bs.length = n := by rw [h.1, bestsTo_length]
  refine ⟨by rw [List.length_set, hl, bestsTo_length], fun i x hx => ?_⟩
  have hi : i < n := by
    have q := (List.getElem?_eq_some_iff.mp hx).1
    rw [bestsTo_length] at q
    exact q
  rw [bestsTo_get hi, best_concat] at hx
  by_cases hp : r.plug = i
  · subst hp
    rw [if_pos rfl, e] at hx
    cases hx
    exact ⟨v, List.getElem?_set_self (by rw [hl]; exact hi), hv⟩
  · rw [if_neg hp] at hx
    cases hx
    obtain ⟨u, h1, h2⟩ := h.2 i _ (bestsTo_get hi)
    exact ⟨u, by rw [List.getElem?_set_ne hp]; exact h1, h2⟩
theorem lexLt2 (a b c d : Nat) : HT.lexLt [(a : Int), (b : Int)] [(c : Int), (d : Int)] = decide (wlt (a, b) (c, d)) := by
  rw [HT.lexLt_cons]
  by_cases h : (a : Int) = (c : Int)
  · rw [if_pos h, HT.lexLt_cons]
    by_cases g : (b : Int) = (d : Int)
    · rw [if_pos g, HT.lexLt_nil_nil]
      exact (decide_eq_false (by unfold wlt; dsimp only; omega)).symm
    · rw [if_neg g]
      exact decide_eq_decide.mpr (by unfold wlt; dsimp only; omega)
  · rw [if_neg h]
    exact decide_eq_decide.mpr (by unfold wlt; dsimp only; omega)
abbrev s_least_round : Stmt := top 8
abbrev N_least_round : List Str := ["family", "weights", "count", "_", "variants", "best", "variant", "plug", "weight"]
theorem sc_least_round : FnScope N_least_round ["family", "weights"] (defScope s_least_round) := ⟨rfl, rfl, rfl, by decide +kernel, rfl, by decide +kernel, by decide +kernel⟩
def sp_least_round : Sp := fun vs H Q _ => ∃ (f t : Addr) (n : Nat) (rows : List Vrt) (w : List Wt), vs = [.ref f, .ref t] ∧ FamAt H f n rows ∧ TabAt H t w ∧ w.length = n ∧ Fine n rows ∧ ∀ p H', Same H H' → TabAt H' p (round n rows w) → Q (.ref p) H'
section
variable {P : Program} {w : World} {K : PySem.W.Frag} {mg : Str → Option Value} {base : Heap}
theorem ok_least_round {f f1 : Addr} {fd fd1 : FuncData} (D : DefIs K mg "least_round" s_least_round ["family", "weights"] f fd) (T : Txt mg) (D_weight_of : DefIs K mg "weight_of" s_weight_of ["variant", "weights"] f1 fd1) : FnOk P w K mg base CX0 2 f fd ["family", "weights"] sp_least_round := by
  have G_weight_of : FnOk P w K mg base CX0 1 f1 fd1 ["variant", "weights"] sp_weight_of := ok_weight_of D_weight_of T
  refine D.fn.ok sc_least_round (fun vs H Q E h => ?_) (fun cdv A outer s H vs Q E hr h => ?_)
  · obtain ⟨f, t, n, rows, w, rfl, _⟩ := h
    rfl
  · obtain ⟨f, t, n, rows, wg, rfl, ⟨rt, vt, vs, hf, hvt, hR⟩, hT, hwl, F, k⟩ := h
    refine ⟨_, (pss_cons (ps_asg (pv 0) (pg_tup rfl (pgs_cons (pg_name (i := 2) sc_least_round.nd rfl (Or.inl rfl)) (pgs_cons (pg_name (i := 3) sc_least_round.nd rfl (Or.inl rfl)) (pgs_cons (pg_name (i := 4) sc_least_round.nd rfl (Or.inl rfl)) pgs_nil)))))
    (pss_cons (ps_set (i := 5) sc_least_round.nd rfl (Or.inl rfl) (pe_op op_rep (pe_lst (pa_cons pe_non pa_nil)) (pv 2)))
    (pss_cons (ps_for PassesOwn.never rfl (pi_tup (pv 4)) (pg_name (i := 6) sc_least_round.nd rfl (Or.inl rfl))
    (pss_cons (ps_set (i := 7) sc_least_round.nd rfl (Or.inl rfl) (pe_ix ix_tup (pv 6) pe_int (fun _ _ => rfl)))
      (pss_cons (ps_set (i := 8) sc_least_round.nd rfl (Or.inl rfl) (pe_call G_weight_of (hr.mono (by decide)) (by rfl) D_weight_of.mg D_weight_of.fn.kp D_weight_of.bd .nil pass0 (pa_cons (pv 6) (pa_cons (pv 1) pa_nil))))
      (pss_one (ps_if (PW.pt (pw_and (pt_cmpR op_notN (pv 8) pe_non (nomark _)) (pw_and1 (PW.pt (pw_or (pt_cmpR op_isN (pe_ix ix_list (pv 5) (pv 7) (fun _ _ => rfl)) pe_non (nomark _)) (pw_or1 (pt_cmpR (op_ltT hr.units0) (pv 8) (pe_ix ix_list (pv 5) (pv 7) (fun _ _ => rfl)) (nomark _))))))))
      (pss_one (ps_asg (pv 8) (pg_sub (pv 5) (pv 7) set_list)))
      pss_nil)))))
    (pss_one (ps_ret (pe_callTy call_tuple_of (by rfl) T.b_tuple (by decide +kernel) (pa_cons (pv 5) pa_nil))))))), ?_⟩
    -- count, _, variants = family
    refine ⟨_, rfl, f, _, rfl, SqT.of hf, rfl, _, _, rfl, _, _, rfl, _, _, rfl, rfl, ?_⟩
    -- best = [None] * count
    refine ⟨(by show 1 ≤ sizeLine; decide), fun l0 hl0 => ?_⟩
    have n4 := F.n4
    refine ⟨_, rfl, l0, _, _, rfl, rfl, upd_same, by omega, by omega, ?_, fun l hl => ?_⟩
    · show 1 * ((n : Int)).toNat ≤ sizeLine
      rw [Int.toNat_natCast, Nat.one_mul]
      exact Nat.le_trans n4 (by decide)
    have s0 : Same H (upd H l0 (.lst [.non])) := same_new hl0
    have hHl : H l = none := s0.free hl
    have s1 : Same H (upd (upd H l0 (.lst [.non])) l (.lst (List.replicate ((n : Int)).toNat [.non]).flatten)) := same_upd s0 hHl
    have ebs : (List.replicate ((n : Int)).toNat [V.non]).flatten = List.replicate n .non := by
      rw [Int.toNat_natCast, KR.flat_rep]
    -- for variant in variants
    refine ⟨_, rfl, vt, rfl, ⟨_, SqT.of (s1 _ _ hvt)⟩, for_tup (K := K) (a := vt) (xs := vs) (fun i σ H' => Same H H' ∧ ∃ (bs : List V) (y6 y7 y8 : Option V), H' l = some (.lst bs) ∧ WsAt H' bs (bestsTo wg n (rows.take i)) ∧
        σ = [some (.ref f), some (.ref t), some (nv n), some (.ref rt), some (.ref vt), some (.ref l), y6, y7, y8])
        ⟨s1, _, none, none, none, upd_same, by rw [ebs, List.take_zero]; exact bests_nil, rfl⟩ (fun i σ H' _ hP => SqT.of (hP.1 _ _ hvt)) ?_ ?_⟩
    · rintro i y σ H' hi ⟨sm, bs, y6, y7, y8, hl', hB, rfl⟩
      obtain ⟨r, hr', ha⟩ := hR.get hi
      have ha' := ha.mono (Tups.of sm)
      obtain ⟨a, b, rfl, h1, h2⟩ := id ha'
      have hrm : r ∈ rows := List.mem_of_getElem? hr'
      have hpl := F.plug r hrm
      have etk : rows.take (i + 1) = rows.take i ++ [r] := by
        rw [List.take_add_one, hr']
        rfl
      -- plug = variant[0]; weight = weight_of(variant, weights)
      refine ⟨_, rfl, a, _, 0, _, rfl, rfl, SqT.of h1, atI_nat (j := 0) rfl, ?_⟩
      refine ⟨_, rfl, _, rfl, _, t, r, wg, rfl, ha', hT.mono (Tups.of sm), fun s hs => by rw [hwl]; exact F.slot r hrm s hs, fun u H2 s2 hu => ?_⟩
      have sm2 : Same H H2 := sm.trans s2
      have hl2 := s2 _ _ hl'
      have hB2 := hB.mono (Tups.of s2)
      obtain ⟨v, hv1, hv2, hv3⟩ := hB2.at (s := r.plug) (by rw [bestsTo_length]; exact hpl)
      have eat : at' (bestsTo wg n (rows.take i)) r.plug = best wg r.plug (rows.take i) := by
        unfold at'
        rw [bestsTo_get hpl]
        rfl
      rw [eat] at hv3
      -- what follows where nothing is stored
      have keep : better (best wg r.plug (rows.take i)) (wt wg r) = best wg r.plug (rows.take i) → WsAt H2 bs (bestsTo wg n (rows.take (i + 1))) := fun e => by
        rw [etk]
        exact bests_keep hB2 e
      have store : ∀ z, better (best wg r.plug (rows.take i)) (wt wg r) = wt wg r → WAt H2 z (wt wg r) → Same H (upd H2 l (.lst (bs.set r.plug z))) ∧ WsAt (upd H2 l (.lst (bs.set r.plug z))) (bs.set r.plug z) (bestsTo wg n (rows.take (i + 1))) := fun z e hz => by
        rw [etk]
        exact ⟨same_upd sm2 hHl, (bests_set hB2 hpl e hz).mono (Tups.upd_list hl2)⟩
      have hbl : bs.length = n := by rw [hB2.1, bestsTo_length]
      rcases hu.is_none with ⟨rfl, hn⟩ | ⟨c, z, rfl, hz, hc⟩
      · refine ⟨_, rfl, rfl, _, rfl, iteF (iteF ?_)⟩
        exact ⟨sm2, bs, _, _, _, hl2, keep (by rw [hn]; rfl), rfl⟩
      · refine ⟨_, rfl, rfl, _, rfl, iteT ?_⟩
        rcases hv3.is_none with ⟨rfl, hn⟩ | ⟨c', z', rfl, hz', hc'⟩
        · refine ⟨_, rfl, _, rfl, l, bs, _, _, rfl, rfl, SqL.of hl2, hv1, rfl, _, rfl, iteT (iteT ?_)⟩
          obtain ⟨g1, g2⟩ := store (.ref c) (by rw [hn, hz]; rfl) hu
          refine ⟨_, rfl, _, rfl, _, rfl, l, bs, _, r.plug, rfl, rfl, hl2, ix_nat (by rw [hbl]; exact hpl), g1, _, _, _, _, upd_same, g2, rfl⟩
        · refine ⟨_, rfl, _, rfl, l, bs, _, _, rfl, rfl, SqL.of hl2, hv1, rfl, _, rfl, iteF ?_⟩
          refine ⟨_, rfl, _, rfl, _, rfl, l, bs, _, _, rfl, rfl, SqL.of hl2, hv1, c, c', [(z.1 : Int), (z.2 : Int)], [(z'.1 : Int), (z'.2 : Int)], rfl, rfl, SqT.of hc, SqT.of hc', _, rfl, ?_⟩
          rw [lexLt2]
          by_cases hlt : wlt (z.1, z.2) (z'.1, z'.2)
          · rw [decide_eq_true hlt]
            refine iteT ?_
            have hlt' : wlt z z' := hlt
            obtain ⟨g1, g2⟩ := store (.ref c) (by rw [hz', hz]; show (if wlt z z' then some z else some z') = some z; rw [if_pos hlt']) hu
            refine ⟨_, rfl, _, rfl, _, rfl, l, bs, _, r.plug, rfl, rfl, hl2, ix_nat (by rw [hbl]; exact hpl), g1, _, _, _, _, upd_same, g2, rfl⟩
          · rw [decide_eq_false hlt]
            refine iteF ?_
            have hlt' : ¬ wlt z z' := hlt
            exact ⟨sm2, bs, _, _, _, hl2, keep (by rw [hz', hz]; show (if wlt z z' then some z else some z') = some z'; rw [if_neg hlt']), rfl⟩
    · rintro σ H' ⟨sm, bs, y6, y7, y8, hl', hB, rfl⟩
      rw [hR.1, List.take_length] at hB
      -- return tuple(best)
      refine ⟨_, rfl, l, bs, rfl, .inl ⟨SqL.of hl', fun q hq => ?_⟩⟩
      refine k q _ (sm.trans (same_new hq)) ⟨bs, upd_same, ?_⟩
      exact WsAt.mono hB (Tups.of (same_new hq))
end
end KW
set_option Elab.async false
set_option linter.all false
set_option maxRecDepth 100000
set_option maxHeartbeats 4000000
/-! The program's defs: least_weights, first_roots, tree_from, check_parts, first_tree. -/
namespace KW
open PySem PySem.Spec PyProof.Rows L2 KR K30

/-! ### weights as data -/
def wd : Wt → PyData
  | none => .none
  | some x => .tuple [.int (x.1 : Int), .int (x.2 : Int)]
theorem dp_wt {K : PySem.W.Frag} {H : Hp} {v : V} {x : Wt} (h : WAt H v x) : Dp K H v (wd x) := by
  cases x with
  | none =>
    have e : v = .non := h
    subst e
    exact .non
  | some x =>
    obtain ⟨a, rfl, h1⟩ := h
    exact .tup (SqT.of h1) (.cons (.int _) (.cons (.int _) .nil))
theorem dp_all {K : PySem.W.Frag} {H : Hp} : ∀ (w : List Wt) (vs : List V), WsAt H vs w → DpAll K H vs (w.map wd)
  | [], vs, h => by
    have e : vs = [] := List.eq_nil_of_length_eq_zero h.1
    subst e
    exact .nil
  | x :: w, vs, h => by
    cases vs with
    | nil =>
      have e := h.1
      cases e
    | cons v vs =>
      obtain ⟨v0, h1, h2⟩ := h.2 0 x rfl
      cases h1
      refine .cons (dp_wt h2) (dp_all w vs ⟨Nat.succ.inj h.1, fun i y e => ?_⟩)
      obtain ⟨u, g1, g2⟩ := h.2 (i + 1) y e
      exact ⟨u, g1, g2⟩
theorem canLay_wd : ∀ x : Wt, PyData.canLay0 (wd x) = true
  | none => by simp [wd, PyData.canLay0]
  | some x => by simp [wd, PyData.canLay0, PyData.canLayAll0]
theorem canLay_wds : ∀ w : List Wt, PyData.canLayAll0 (w.map wd) = true
  | [] => by simp [PyData.canLayAll0]
  | x :: w => by
    rw [List.map_cons]
    simp [PyData.canLayAll0, canLay_wd x, canLay_wds w]
theorem depth_wd : ∀ x : Wt, PyData.depth (wd x) ≤ 1
  | none => by simp [wd, PyData.depth]
  | some x => by simp [wd, PyData.depth, PyData.depthAll]
theorem depth_wds : ∀ w : List Wt, PyData.depthAll (w.map wd) ≤ 1
  | [] => by simp [PyData.depthAll]
  | x :: w => by
    have h1 := depth_wd x
    have h2 := depth_wds w
    rw [List.map_cons]
    simp only [PyData.depthAll]
    omega
theorem shaped_wd (x : Wt) : SeqAt.shaped (wd x) = true := by
  unfold SeqAt.shaped
  rw [canLay_wd, Bool.true_and]
  exact decide_eq_true (Nat.le_trans (depth_wd x) (by decide))
theorem shaped_wds (w : List Wt) : SeqAt.shaped (.tuple (w.map wd)) = true := by
  unfold SeqAt.shaped
  simp only [PyData.canLay0, PyData.depth]
  rw [canLay_wds, Bool.true_and]
  have h := depth_wds w
  exact decide_eq_true (by omega)
theorem eqv_wd : ∀ {x y : Wt}, PyData.eqv (wd x) (wd y) = true → x = y
  | none, none, _ => rfl
  | none, some y, h => by simp [wd, PyData.eqv] at h
  | some x, none, h => by simp [wd, PyData.eqv] at h
  | some x, some y, h => by
    simp [wd, PyData.eqv, PyData.eqvAll] at h
    exact congrArg some (Prod.ext (by omega) (by omega))
theorem eqv_wd_refl (x : Wt) : PyData.eqv (wd x) (wd x) = true := SeqAt.eqv_refl _ (canLay_wd x)
theorem eqv_wds : ∀ {u w : List Wt}, PyData.eqvAll (u.map wd) (w.map wd) = true → u = w
  | [], [], _ => rfl
  | [], y :: w, h => by simp [PyData.eqvAll] at h
  | x :: u, [], h => by simp [PyData.eqvAll] at h
  | x :: u, y :: w, h => by
    rw [List.map_cons, List.map_cons, PyData.eqvAll, Bool.and_eq_true] at h
    rw [eqv_wd h.1, eqv_wds h.2]

/-! ### least_weights -/
abbrev s_least_weights : Stmt := top 9
abbrev N_least_weights : List Str := ["family", "weights", "_", "better"]
theorem sc_least_weights : FnScope N_least_weights ["family"] (defScope s_least_weights) := ⟨rfl, rfl, rfl, by decide +kernel, rfl, by decide +kernel, by decide +kernel⟩
def sp_least_weights : Sp := fun vs H Q _ => ∃ (f : Addr) (n : Nat) (rows : List Vrt), vs = [.ref f] ∧ FamAt H f n rows ∧ Fine n rows ∧ ∀ p H', Same H H' → TabAt H' p (least n rows) → Q (.ref p) H'
theorem tab_none {H : Hp} {p : Addr} {n : Nat} (h : H p = some (.tup (List.replicate n .non))) : TabAt H p (List.replicate n none) := by
  refine ⟨_, h, by rw [List.length_replicate, List.length_replicate], fun i x e => ?_⟩
  have hi : i < n := by
    have q := (List.getElem?_eq_some_iff.mp e).1
    rw [List.length_replicate] at q
    exact q
  rw [List.getElem?_replicate, if_pos hi] at e
  cases e
  exact ⟨.non, by rw [List.getElem?_replicate, if_pos hi], rfl⟩
section
variable {P : Program} {w : World} {K : PySem.W.Frag} {mg : Str → Option Value} {base : Heap}
theorem ok_least_weights {f f1 f2 : Addr} {fd fd1 fd2 : FuncData} (D : DefIs K mg "least_weights" s_least_weights ["family"] f fd) (T : Txt mg) (D_least_round : DefIs K mg "least_round" s_least_round ["family", "weights"] f1 fd1)
    (D_weight_of : DefIs K mg "weight_of" s_weight_of ["variant", "weights"] f2 fd2) : FnOk P w K mg base CX0 3 f fd ["family"] sp_least_weights := by
  have G_least_round : FnOk P w K mg base CX0 2 f1 fd1 ["family", "weights"] sp_least_round := ok_least_round D_least_round T D_weight_of
  refine D.fn.ok sc_least_weights (fun vs H Q E h => ?_) (fun cdv A outer s H vs Q E hr h => ?_)
  · obtain ⟨f, n, rows, rfl, _⟩ := h
    rfl
  · obtain ⟨f, n, rows, rfl, hF, F, k⟩ := h
    obtain ⟨rt, vt, vs, hf, hvt, hR⟩ := id hF
    have hu64 := hr.units
    have n4 := F.n4
    have n1 := F.n1
    refine ⟨_, (pss_cons (ps_set (i := 1) sc_least_weights.nd rfl (Or.inl rfl) (pe_op KR.op_repN (pe_tup (pa_cons pe_non pa_nil)) (pe_ix ix_tup (pv 0) pe_int (fun _ _ => rfl))))
    (pss_cons (ps_for PassesOwn.never rfl (pi_range1 (by rfl) T.b_range (pa_cons (pe_ix ix_tup (pv 0) pe_int (fun _ _ => rfl)) pa_nil)) (pg_name (i := 2) sc_least_weights.nd rfl (Or.inl rfl))
    (pss_cons (ps_set (i := 3) sc_least_weights.nd rfl (Or.inl rfl) (pe_call G_least_round (hr.mono (by decide)) (by rfl) D_least_round.mg D_least_round.fn.kp D_least_round.bd .nil pass0 (pa_cons (pv 0) (pa_cons (pv 1) pa_nil))))
      (pss_cons (ps_if (pt_cmpR (op_eqD hu64) (pv 3) (pv 1) (nomark _))
      (pss_one (ps_ret (pv 1)))
      pss_nil)
      (pss_one (ps_set (i := 1) sc_least_weights.nd rfl (Or.inl rfl) (pv 3))))))
    (pss_one (ps_ret (pv 1))))), ?_⟩
    -- weights = (None,) * family[0]
    refine ⟨(by show 1 ≤ sizeLine; decide), fun q hq => ?_⟩
    have s0 : Same H (upd H q (.tup [.non])) := same_new hq
    refine ⟨_, rfl, f, _, 0, _, rfl, rfl, SqT.of (s0 _ _ hf), atI_nat (j := 0) rfl, q, _, .non, rfl, rfl, upd_same, by omega, by omega, fun p H1 hk hp => ?_⟩
    rw [Int.toNat_natCast] at hp
    have s1 : Same H H1 := s0.trans hk
    -- for _ in range(family[0])
    refine ⟨_, rfl, f, _, 0, _, rfl, rfl, SqT.of (s1 _ _ hf), atI_nat (j := 0) rfl, _, rfl, by omega, by omega, for_range (n := (n : Int).toNat) (fun i σ H' => ∃ (t : Addr) (y2 y3 : Option V), Same H H' ∧ TabAt H' t (iter n rows i) ∧ σ = [some (.ref f), some (.ref t), y2, y3])
      ⟨p, none, none, s1, tab_none hp, rfl⟩ ?_ ?_⟩
    · rintro i σ H' hi ⟨t, y2, y3, sm, hT, rfl⟩
      rw [Int.toNat_natCast] at hi
      -- better = least_round(family, weights)
      refine ⟨_, rfl, _, rfl, f, t, n, rows, iter n rows i, rfl, hF.mono (Tups.of sm), hT, iter_length n rows i, F, fun p' H2 s2 hT2 => ?_⟩
      have hT1 := hT.mono (Tups.of s2)
      obtain ⟨us, e1, g1⟩ := id hT1
      obtain ⟨us2, e2, g2⟩ := id hT2
      refine ⟨_, rfl, _, rfl, .tuple ((iter n rows (i + 1)).map wd), .tuple ((iter n rows i).map wd), .tup (SqT.of e2) (dp_all _ _ g2), .tup (SqT.of e1) (dp_all _ _ g1), shaped_wds _, shaped_wds _, _, rfl, ?_⟩
      refine ite2 (fun e => ?_) (fun e => ?_)
      · have e' : iter n rows (i + 1) = iter n rows i := eqv_wds (by rw [PyData.eqv] at e; exact e)
        refine ⟨_, rfl, ?_⟩
        refine k t _ (sm.trans s2) ?_
        rw [← iter_early e' (Nat.le_of_lt hi)]
        exact hT1
      · exact ⟨_, rfl, p', _, _, sm.trans s2, hT2, rfl⟩
    · rintro σ H' ⟨t, y2, y3, sm, hT, rfl⟩
      rw [Int.toNat_natCast] at hT
      exact ⟨_, rfl, k t _ sm hT⟩
end

/-! ### first_roots -/
def RootsAt (H : Hp) (d : Addr) (n : Nat) (rows : List Vrt) (w : List Wt) : Prop := ∃ kvs : List (Key × V), H d = some (.dK kvs) ∧ kvs.length ≤ rows.length ∧ ∀ s, s < n → valV kvs (Sum.inl (s : Int)) = (root rows w s).map nv
theorem root_concat (rows : List Vrt) (r : Vrt) (w : List Wt) (s : Nat) : root (rows ++ [r]) w s = (root rows w s).or (if isRoot w s r = true then some rows.length else none) := by
  unfold root
  rw [List.findIdx?_append]
  congr 1
  by_cases h : isRoot w s r = true
  · rw [if_pos h, List.findIdx?_cons, if_pos h]
    simp
  · rw [if_neg h, List.findIdx?_cons, if_neg h]
    simp
abbrev s_first_roots : Stmt := top 10
abbrev N_first_roots : List Str := ["family", "weights", "found", "number", "variant", "plug", "weight"]
theorem sc_first_roots : FnScope N_first_roots ["family", "weights"] (defScope s_first_roots) := ⟨rfl, rfl, rfl, by decide +kernel, rfl, by decide +kernel, by decide +kernel⟩
def sp_first_roots : Sp := fun vs H Q _ => ∃ (f t : Addr) (n : Nat) (rows : List Vrt) (w : List Wt), vs = [.ref f, .ref t] ∧ FamAt H f n rows ∧ TabAt H t w ∧ w.length = n ∧ Fine n rows ∧ ∀ d H', Same H H' → RootsAt H' d n rows w → Q (.ref d) H'
section
variable {P : Program} {w : World} {K : PySem.W.Frag} {mg : Str → Option Value} {base : Heap}
theorem ok_first_roots {f f1 : Addr} {fd fd1 : FuncData} (D : DefIs K mg "first_roots" s_first_roots ["family", "weights"] f fd) (T : Txt mg) (D_weight_of : DefIs K mg "weight_of" s_weight_of ["variant", "weights"] f1 fd1) : FnOk P w K mg base CX0 2 f fd ["family", "weights"] sp_first_roots := by
  have G_weight_of : FnOk P w K mg base CX0 1 f1 fd1 ["variant", "weights"] sp_weight_of := ok_weight_of D_weight_of T
  refine D.fn.ok sc_first_roots (fun vs H Q E h => ?_) (fun cdv A outer s H vs Q E hr h => ?_)
  · obtain ⟨f, t, n, rows, w, rfl, _⟩ := h
    rfl
  · obtain ⟨f, t, n, rows, wg, rfl, ⟨rt, vt, vs, hf, hvt, hR⟩, hT, hwl, F, k⟩ := h
    have hu64 := hr.units
    have hu := hu_of hr
    refine ⟨_, (pss_cons (ps_set (i := 2) sc_first_roots.nd rfl (Or.inl rfl) pe_dnewK)
    (pss_cons (ps_for PassesOwn.never rfl (KR.pi_enumT (by rfl) T.b_enumerate (pa_cons (pe_ix ix_tup (pv 0) pe_int (fun _ _ => rfl)) pa_nil)) (pg_tup rfl (pgs_cons (pg_name (i := 3) sc_first_roots.nd rfl (Or.inl rfl)) (pgs_cons (pg_name (i := 4) sc_first_roots.nd rfl (Or.inl rfl)) pgs_nil)))
    (pss_cons (ps_set (i := 5) sc_first_roots.nd rfl (Or.inl rfl) (pe_ix ix_tup (pv 4) pe_int (fun _ _ => rfl)))
      (pss_cons (ps_set (i := 6) sc_first_roots.nd rfl (Or.inl rfl) (pe_call G_weight_of (hr.mono (by decide)) (by rfl) D_weight_of.mg D_weight_of.fn.kp D_weight_of.bd .nil pass0 (pa_cons (pv 4) (pa_cons (pv 1) pa_nil))))
      (pss_one (ps_if (PW.pt (pw_and (pt_cmp (pc_dnotin hu (pv 5) (pv 2))) (pw_and (pt_cmpR op_notN (pv 6) pe_non (nomark _)) (pw_and1 (pt_cmpR (op_eqD hu64) (pv 6) (pe_ix ix_tup (pv 1) (pv 5) (fun _ _ => rfl)) (nomark _))))))
      (pss_one (ps_dput hu (pv 2) (pv 5) (pv 3) rfl))
      pss_nil)))))
    (pss_one (ps_ret (pv 2))))), ?_⟩
    -- found = {}
    refine fun d hd => ?_
    have s0 : Same H (upd H d (.dK [])) := same_new hd
    -- for number, variant in enumerate(family[2])
    refine ⟨_, rfl, f, _, 2, _, rfl, rfl, SqT.of (s0 _ _ hf), atI_nat (j := 2) rfl, vt, vs, rfl, SqT.of (s0 _ _ hvt), KR.for_enumT (K := K) (a := vt) (xs := vs) (fun i σ H' => Same H H' ∧ ∃ (kvs : List (Key × V)) (y3 y4 y5 y6 : Option V), H' d = some (.dK kvs) ∧ kvs.length ≤ i ∧
        (∀ s, s < n → valV kvs (Sum.inl (s : Int)) = (root (rows.take i) wg s).map nv) ∧ σ = [some (.ref f), some (.ref t), some (.ref d), y3, y4, y5, y6])
        ⟨s0, [], none, none, none, none, upd_same, Nat.le_refl _, fun s _ => rfl, rfl⟩ (fun i σ H' hP => SqT.of (hP.1 _ _ hvt)) ?_ ?_⟩
    · rintro i y Tp σ H' hi hTp ⟨sm, kvs, y3, y4, y5, y6, hd', hlen, hval, rfl⟩
      obtain ⟨r, hr', ha⟩ := hR.get hi
      have sT : Same H' (upd H' Tp (.tup [.int (i : Nat), y])) := same_new hTp
      have sm1 := sm.trans sT
      have ha' := ha.mono (Tups.of sm1)
      obtain ⟨a, b, rfl, h1, h2⟩ := id ha'
      have hrm : r ∈ rows := List.mem_of_getElem? hr'
      have hpl := F.plug r hrm
      have hil : i < rows.length := (List.getElem?_eq_some_iff.mp hr').1
      have etk : rows.take (i + 1) = rows.take i ++ [r] := by
        rw [List.take_add_one, hr']
        rfl
      have elen : (rows.take i).length = i := by
        rw [List.length_take]
        omega
      refine ⟨Tp, _, rfl, SqT.of upd_same, rfl, _, _, rfl, _, _, rfl, rfl, ?_⟩
      -- plug = variant[0]; weight = weight_of(variant, weights)
      refine ⟨_, rfl, a, _, 0, _, rfl, rfl, SqT.of h1, atI_nat (j := 0) rfl, ?_⟩
      refine ⟨_, rfl, _, rfl, _, t, r, wg, rfl, ha', hT.mono (Tups.of sm1), fun s hs => by rw [hwl]; exact F.slot r hrm s hs, fun u H2 s2 hu' => ?_⟩
      have sm2 := sm1.trans s2
      have hd2 : H2 d = some (.dK kvs) := s2 _ _ (sT _ _ hd')
      have hT2 := hT.mono (Tups.of sm2)
      obtain ⟨ws, hws, hW⟩ := id hT2
      obtain ⟨v, hv1, hv2, hv3⟩ := hW.at (s := r.plug) (by rw [hwl]; exact hpl)
      -- what is to be shown at the turn's end
      have keep : (∀ s, s < n → root (rows.take (i + 1)) wg s = root (rows.take i) wg s) → ∀ s, s < n → valV kvs (Sum.inl (s : Int)) = (root (rows.take (i + 1)) wg s).map nv := fun e s hs => by
        rw [e s hs]
        exact hval s hs
      have other : ∀ s, s ≠ r.plug → root (rows.take (i + 1)) wg s = root (rows.take i) wg s := fun s hs => by
        rw [etk, root_concat, if_neg, Option.or_none]
        intro q
        exact hs (isRoot_iff.mp q).1.symm
      refine ⟨_, rfl, _, rfl, d, _, rfl, DGet.k (k := Sum.inl (r.plug : Int)) hd2, _, rfl, ?_⟩
      rw [hval _ hpl]
      cases e0 : root (rows.take i) wg r.plug with
      | some j =>
        refine iteF (iteF ?_)
        refine ⟨sm2, kvs, _, _, _, _, hd2, Nat.le_succ_of_le hlen, keep fun s hs => ?_, rfl⟩
        by_cases es : s = r.plug
        · subst es
          rw [etk, root_concat, e0]
          rfl
        · exact other s es
      | none =>
        refine iteT ?_
        have last : isRoot wg r.plug r = false → ∀ s, s < n → root (rows.take (i + 1)) wg s = root (rows.take i) wg s := fun q s hs => by
          by_cases es : s = r.plug
          · subst es
            rw [etk, root_concat, q]
            rw [if_neg Bool.false_ne_true, Option.or_none]
          · exact other s es
        rcases hu'.is_none with ⟨rfl, hn⟩ | ⟨c, z, rfl, hz, hc⟩
        · refine ⟨_, rfl, rfl, _, rfl, iteF (iteF ?_)⟩
          refine ⟨sm2, kvs, _, _, _, _, hd2, Nat.le_succ_of_le hlen, keep (last ?_), rfl⟩
          refine Bool.eq_false_iff.mpr fun q => ?_
          obtain ⟨_, x, hx, _⟩ := isRoot_iff.mp q
          rw [hn] at hx
          cases hx
        · refine ⟨_, rfl, rfl, _, rfl, iteT ?_⟩
          refine ⟨_, rfl, _, rfl, _, rfl, t, ws, _, _, rfl, rfl, SqT.of hws, hv1, wd (wt wg r), wd (at' wg r.plug), dp_wt hu', dp_wt hv3, shaped_wd _, shaped_wd _, _, rfl, ?_⟩
          refine ite2 (fun e => ?_) (fun e => ?_)
          · have e1 : wt wg r = at' wg r.plug := eqv_wd e
            have hroot : isRoot wg r.plug r = true := isRoot_iff.mpr ⟨rfl, z, hz, by rw [← e1, hz]⟩
            refine ⟨_, rfl, _, rfl, _, rfl, d, _, rfl, DPut.k (k := Sum.inl (r.plug : Int)) hd2 ?_, ?_⟩
            · have h14 := F.len
              exact Nat.lt_of_le_of_lt hlen (small1000 (by omega))
            · refine ⟨same_upd sm2 hd, _, _, _, _, _, upd_same, ?_, fun s hs => ?_, rfl⟩
              · rw [putK_new _ (by rw [hval _ hpl, e0]; rfl), List.length_append]
                exact Nat.succ_le_succ hlen
              · rw [valV_put]
                by_cases es : s = r.plug
                · subst es
                  rw [if_pos rfl, etk, root_concat, e0, if_pos hroot, elen]
                  rfl
                · rw [if_neg (fun q => es (by have := Sum.inl.inj q; omega)), other s es]
                  exact hval s hs
          · refine ⟨sm2, kvs, _, _, _, _, hd2, Nat.le_succ_of_le hlen, keep (last ?_), rfl⟩
            refine Bool.eq_false_iff.mpr fun q => ?_
            obtain ⟨_, x, hx, hx2⟩ := isRoot_iff.mp q
            apply e
            rw [hx, hx2]
            exact eqv_wd_refl _
    · rintro σ H' ⟨sm, kvs, y3, y4, y5, y6, hd', hlen, hval, rfl⟩
      rw [hR.1, List.take_length] at hval
      refine ⟨_, rfl, k d _ sm ⟨kvs, hd', by rw [← hR.1]; exact hlen, hval⟩⟩
end
end KW
set_option Elab.async false
set_option linter.all false
set_option maxRecDepth 100000
set_option maxHeartbeats 4000000
/-! The program's defs: tree_from, check_parts, first_tree. -/
namespace KW
open PySem PySem.Spec PyProof.Rows L2 KR K30

/-- a table with which roots can be followed down -/
structure Settled (n : Nat) (rows : List Vrt) (w : List Wt) : Prop where
  len : w.length = n
  low : ∀ r ∈ rows, ole (at' w r.plug) (wt w r)
  mem : ∀ s x, at' w s = some x → s < n ∧ 1 ≤ x.2 ∧ x.2 ≤ 40 ∧ x.1 ≤ 40000000000 ∧ ∃ r ∈ rows, r.plug = s ∧ wt w r = some x
theorem settled {n : Nat} {rows : List Vrt} (F : Fine n rows) : Settled n rows (least n rows) where
  len := least_length n rows
  low := fun r hr => least_le F.plug hr
  mem := fun s x h => by
    obtain ⟨h1, h2⟩ := least_mem h
    obtain ⟨h3, h4, h5⟩ := least_bound F h
    exact ⟨h1, h5, h3, h4, h2⟩

abbrev s_tree_from : Stmt := top 11
abbrev N_tree_from : List Str := ["family", "roots", "state", "tree", "wanted", "number"]
theorem sc_tree_from : FnScope N_tree_from ["family", "roots", "state"] (defScope s_tree_from) := ⟨rfl, rfl, rfl, by decide +kernel, rfl, by decide +kernel, by decide +kernel⟩
def sp_tree_from : Sp := fun vs H Q _ => ∃ (f d : Addr) (n s : Nat) (rows : List Vrt) (w : List Wt) (x : Nat × Nat), vs = [.ref f, .ref d, nv s] ∧ FamAt H f n rows ∧ RootsAt H d n rows w ∧ Settled n rows w ∧ Fine n rows ∧ at' w s = some x ∧
  ∀ p t H', Same H H' → H' p = some (.tup (t.map nv)) → First rows w t [s] → Q (.ref p) H'
section
variable {P : Program} {w : World} {K : PySem.W.Frag} {mg : Str → Option Value} {base : Heap}
theorem ok_tree_from {f : Addr} {fd : FuncData} (D : DefIs K mg "tree_from" s_tree_from ["family", "roots", "state"] f fd) (T : Txt mg) : FnOk P w K mg base CX0 1 f fd ["family", "roots", "state"] sp_tree_from := by
  refine D.fn.ok sc_tree_from (fun vs H Q E h => ?_) (fun cdv A outer s H vs Q E hr h => ?_)
  · obtain ⟨f, d, n, s, rows, w, x, rfl, _⟩ := h
    rfl
  · obtain ⟨f, d, n, st0, rows, wg, x0, rfl, ⟨rt, vt, vs, hf, hvt, hR⟩, ⟨kvs, hd, _, hval⟩, S, F, hx0, k⟩ := h
    have hu64 := hr.units
    have hu := hu_of hr
    refine ⟨_, (pss_cons (ps_set (i := 3) sc_tree_from.nd rfl (Or.inl rfl) (pe_lst pa_nil))
    (pss_cons (ps_set (i := 4) sc_tree_from.nd rfl (Or.inl rfl) (pe_lst (pa_cons (pv 2) pa_nil)))
    (pss_cons (ps_while PassesOwn.never (pt_truth (pv 4) (by intro _; rfl))
    (pss_cons (ps_set (i := 5) sc_tree_from.nd rfl (Or.inl rfl) (pe_dget hu (pv 1) (pe_bm0 PySem.F.plainAttrs_list PySem.F.slot_list_pop PySem.F.type_list_pop mt_pop (pv 4)) (fun _ _ => rfl)))
      (pss_cons (ps_expr (pe_bm PySem.F.plainAttrs_list PySem.F.slot_list_append PySem.F.type_list_append mt_append (pv 3) (pa_cons (pv 5) pa_nil)))
      (pss_one (ps_expr (pe_bm PySem.F.plainAttrs_list PySem.F.slot_list_extend PySem.F.type_list_extend KR.mt_extT (pv 4) (pa_cons (KR.pe_back (pe_ix ix_tup (pe_ix ix_tup (pe_ix ix_tup (pv 0) pe_int (fun _ _ => rfl)) (pv 5) (fun _ _ => rfl)) pe_int (fun _ _ => rfl))) pa_nil)))))))
    (pss_one (ps_ret (pe_callTy call_tuple_of (by rfl) T.b_tuple (by decide +kernel) (pa_cons (pv 3) pa_nil))))))), ?_⟩
    -- tree = []; wanted = [state]
    refine ⟨Nat.zero_le _, fun tl htl => ?_⟩
    have s0 : Same H (upd H tl (.lst [])) := same_new htl
    refine ⟨_, rfl, (by show 1 ≤ sizeLine; decide), fun wl hwl => ?_⟩
    have hHw : H wl = none := s0.free hwl
    have ntw : tl ≠ wl := ne_of_none upd_same hwl
    have s1 : Same H (upd (upd H tl (.lst [])) wl (.lst [nv st0])) := same_upd s0 hHw
    -- while wanted
    refine ⟨fun m σ H' => ∃ (pre st : List Nat) (a : Nat × Nat) (y5 : Option V), Same H H' ∧ H' tl = some (.lst (pre.map nv)) ∧ H' wl = some (.lst (st.reverse.map nv)) ∧ σ = [some (.ref f), some (.ref d), some (nv st0), some (.ref tl), some (.ref wl), y5] ∧
      sumW wg st = some a ∧ m = a.2 ∧ pre.length + a.2 = x0.2 ∧ ∀ t, First rows wg t st → First rows wg (pre ++ t) [st0],
      ⟨x0.2, [], [st0], x0, none, s1, by rw [upd_ne ntw, upd_same]; rfl, by rw [upd_same]; rfl, rfl, ?_, rfl, Nat.zero_add _, fun t h => h⟩, fun m σ H' hW => ?_⟩
    · have e := sumW_cons (w := wg) (s := st0) (ss := []) (b := (0, 0)) hx0 rfl
      exact e
    · obtain ⟨pre, stk, a, y5, sm, h1, h2, rfl, ha, rfl, htot, hfirst⟩ := hW
      obtain ⟨_, _, hx40, _, _⟩ := S.mem _ _ hx0
      cases stk with
      | nil =>
        -- return tuple(tree)
        refine ⟨_, rfl, false, .inl ⟨_, SqL.of h2, rfl⟩, iteF ?_⟩
        refine ⟨_, rfl, tl, _, rfl, .inl ⟨SqL.of h1, fun q hq => ?_⟩⟩
        refine k q pre _ (sm.trans (same_new hq)) upd_same ?_
        have z := hfirst [] rfl
        rw [List.append_nil] at z
        exact z
      | cons g stk =>
        obtain ⟨b, c, hb, hc, rfl⟩ := sumW_cons_some ha
        obtain ⟨hg, hb1, _, _, hmem⟩ := S.mem g b hb
        obtain ⟨j, hj⟩ := root_of hb hmem
        obtain ⟨r, x, hjr, hpl, hx, hx', _⟩ := root_some hj
        have ex : x = b := Option.some.inj (hx'.symm.trans hb)
        subst ex
        obtain ⟨p, bb, hp, hbb, rfl⟩ := wt_some hx
        have hrm : r ∈ rows := List.mem_of_getElem? hjr
        have el : (g :: stk).reverse.map nv = stk.reverse.map nv ++ [nv g] := by
          rw [List.reverse_cons, List.map_append]
          rfl
        rw [el] at h2
        refine ⟨_, rfl, true, .inl ⟨_, SqL.of h2, ?_⟩, iteT ?_⟩
        · cases stk.reverse.map nv <;> rfl
        refine ⟨_, fun σ' H'' q => q, ?_⟩
        -- number = roots[wanted.pop()]
        have nwf : H' wl = some (.lst (stk.reverse.map nv ++ [nv g])) := h2
        refine ⟨_, rfl, _, rfl, .inl ⟨rfl, _, SqL.of h2⟩, wl, _, nv g, rfl, rfl, h2, ?_, ?_⟩
        · rw [List.length_append, List.length_singleton, Nat.add_sub_cancel, List.getElem?_append_right (Nat.le_refl _), Nat.sub_self]
          rfl
        rw [List.dropLast_concat]
        have s2 : Same H (upd H' wl (.lst (stk.reverse.map nv))) := same_upd sm hHw
        refine ⟨d, nv j, rfl, ?_, ?_⟩
        · have q := DGet.k (k := Sum.inl (g : Int)) (s2 _ _ hd)
          rw [hval g hg, hj] at q
          exact q
        -- tree.append(number)
        have h1' : (upd H' wl (.lst (stk.reverse.map nv))) tl = some (.lst (pre.map nv)) := by
          rw [upd_ne ntw]
          exact h1
        refine ⟨_, rfl, .inl ⟨rfl, _, SqL.of h1'⟩, _, rfl, tl, _, _, rfl, rfl, h1', ?_, ?_⟩
        · rw [List.length_map]
          exact small1000 (by omega)
        have s3 : Same H (upd (upd H' wl (.lst (stk.reverse.map nv))) tl (.lst (pre.map nv ++ [nv j]))) := same_upd s2 htl
        have hw3 : (upd (upd H' wl (.lst (stk.reverse.map nv))) tl (.lst (pre.map nv ++ [nv j]))) wl = some (.lst (stk.reverse.map nv)) := by
          rw [upd_ne ntw.symm, upd_same]
        -- wanted.extend(family[2][number][1][::-1])
        obtain ⟨vr, hvr, ha'⟩ := hR.2 j r hjr
        obtain ⟨ra, rb, rfl, g1, g2⟩ := ha'.mono (Tups.of s3)
        refine ⟨_, rfl, .inl ⟨rfl, _, SqL.of hw3⟩, _, rfl, f, _, 2, _, rfl, rfl, SqT.of (s3 _ _ hf), atI_nat (j := 2) rfl, _, rfl, vt, vs, _, _, rfl, rfl, SqT.of (s3 _ _ hvt), atI_nat hvr, ra, _, 1, _, rfl, rfl, SqT.of g1, atI_nat (j := 1) rfl, rb, _, rfl, SqT.of g2, fun q hq => ?_⟩
        have s4 := s3.trans (same_new hq (o := .tup (r.slots.map nv).reverse))
        have hw4 := same_new hq (o := .tup (r.slots.map nv).reverse) _ _ hw3
        have ht4 := same_new hq (o := .tup (r.slots.map nv).reverse) _ _ (upd_same (H := upd H' wl (.lst (stk.reverse.map nv))) (a := tl) (o := .lst (pre.map nv ++ [nv j])))
        have hsum := sumW_append_of hc hbb
        have hmany := sumW_many (fun s y e => (S.mem s y e).2.1) hsum
        have hlen2 := hmany
        rw [List.length_append] at hlen2
        refine ⟨wl, q, _, _, rfl, rfl, hw4, SqT.of upd_same, ?_, ?_⟩
        · rw [List.length_map, List.length_reverse, List.length_reverse, List.length_map]
          exact Nat.le_of_lt (small1000 (by omega))
        refine ⟨bb.2 + c.2, by show bb.2 + c.2 < bb.2 + 1 + c.2; omega, pre ++ [j], r.slots ++ stk, (bb.1 + c.1, bb.2 + c.2), _, same_upd s4 hHw, ?_, ?_, rfl, hsum, rfl, ?_, fun t ht => ?_⟩
        · rw [upd_ne ntw, List.map_append]
          exact ht4
        · rw [upd_same, List.reverse_append, List.map_append, ← List.map_reverse]
        · rw [List.length_append, List.length_singleton]
          omega
        · rw [List.append_assoc]
          exact hfirst (j :: t) ⟨g, stk, r, rfl, hjr, hj, ht⟩
end

/-! ### check_parts, first_tree -/
abbrev s_check_parts : Stmt := top 5
abbrev N_check_parts : List Str := ["count"]
theorem sc_check_parts : FnScope N_check_parts ["count"] (defScope s_check_parts) := ⟨rfl, rfl, rfl, by decide +kernel, rfl, by decide +kernel, by decide +kernel⟩
def sp_check_parts : Sp := fun vs H Q _ => ∃ c : Nat, vs = [nv c] ∧ c ≤ 100 ∧ Q .non H
abbrev s_first_tree : Stmt := top 12
abbrev N_first_tree : List Str := ["family", "state", "weights"]
theorem sc_first_tree : FnScope N_first_tree ["family", "state"] (defScope s_first_tree) := ⟨rfl, rfl, rfl, by decide +kernel, rfl, by decide +kernel, by decide +kernel⟩
def FirstAt (H : Hp) (v : V) (n : Nat) (rows : List Vrt) (s : Nat) : Prop := (at' (least n rows) s = none ∧ v = .non) ∨ ∃ (p : Addr) (t : List Nat) (x : Nat × Nat), v = .ref p ∧ at' (least n rows) s = some x ∧ H p = some (.tup (t.map nv)) ∧ First rows (least n rows) t [s]
def sp_first_tree : Sp := fun vs H Q _ => ∃ (f : Addr) (n s : Nat) (rows : List Vrt), vs = [.ref f, nv s] ∧ FamAt H f n rows ∧ Fine n rows ∧ s < n ∧ ∀ v H', Same H H' → FirstAt H' v n rows s → Q v H'
section
variable {P : Program} {w : World} {K : PySem.W.Frag} {mg : Str → Option Value} {base : Heap}
theorem ok_check_parts {f : Addr} {fd : FuncData} (D : DefIs K mg "check_parts" s_check_parts ["count"] f fd) (T : Txt mg) : FnOk P w K mg base CX0 1 f fd ["count"] sp_check_parts := by
  refine D.fn.ok sc_check_parts (fun vs H Q E h => ?_) (fun cdv A outer s H vs Q E hr h => ?_)
  · obtain ⟨c, rfl, _⟩ := h
    rfl
  · obtain ⟨c, rfl, hc, k⟩ := h
    obtain ⟨tk, hmost⟩ := T.most
    refine ⟨_, (pss_one (ps_if (pt_cmpR op_gt (pv 0) (pe_glob (v := .int 100) rfl hmost ⟨_, rfl⟩) (nomark _))
    (pss_one ps_never)
    pss_nil)), ?_⟩
    refine ⟨_, rfl, _, 100, rfl, rfl, _, rfl, ?_⟩
    rw [decide_eq_false (show ¬ (100 : Int) < (c : Int) by omega)]
    exact iteF k
theorem ok_first_tree {f f1 f2 f3 f4 f5 f6 : Addr} {fd fd1 fd2 fd3 fd4 fd5 fd6 : FuncData} (D : DefIs K mg "first_tree" s_first_tree ["family", "state"] f fd) (T : Txt mg) (D_least_weights : DefIs K mg "least_weights" s_least_weights ["family"] f1 fd1)
    (D_least_round : DefIs K mg "least_round" s_least_round ["family", "weights"] f2 fd2) (D_weight_of : DefIs K mg "weight_of" s_weight_of ["variant", "weights"] f3 fd3) (D_check_parts : DefIs K mg "check_parts" s_check_parts ["count"] f4 fd4)
    (D_first_roots : DefIs K mg "first_roots" s_first_roots ["family", "weights"] f5 fd5) (D_tree_from : DefIs K mg "tree_from" s_tree_from ["family", "roots", "state"] f6 fd6) : FnOk P w K mg base CX0 4 f fd ["family", "state"] sp_first_tree := by
  have G_least_weights : FnOk P w K mg base CX0 3 f1 fd1 ["family"] sp_least_weights := ok_least_weights D_least_weights T D_least_round D_weight_of
  have G_check_parts : FnOk P w K mg base CX0 1 f4 fd4 ["count"] sp_check_parts := ok_check_parts D_check_parts T
  have G_first_roots : FnOk P w K mg base CX0 2 f5 fd5 ["family", "weights"] sp_first_roots := ok_first_roots D_first_roots T D_weight_of
  have G_tree_from : FnOk P w K mg base CX0 1 f6 fd6 ["family", "roots", "state"] sp_tree_from := ok_tree_from D_tree_from T
  refine D.fn.ok sc_first_tree (fun vs H Q E h => ?_) (fun cdv A outer s H vs Q E hr h => ?_)
  · obtain ⟨f, n, s, rows, rfl, _⟩ := h
    rfl
  · obtain ⟨f, n, st, rows, rfl, hF, F, hst, k⟩ := h
    have S := settled F
    refine ⟨_, (pss_cons (ps_set (i := 2) sc_first_tree.nd rfl (Or.inl rfl) (pe_call G_least_weights (hr.mono (by decide)) (by rfl) D_least_weights.mg D_least_weights.fn.kp D_least_weights.bd .nil pass0 (pa_cons (pv 0) pa_nil)))
    (pss_cons (ps_if (pt_cmpR op_isN (pe_ix ix_tup (pv 2) (pv 1) (fun _ _ => rfl)) pe_non (nomark _))
    (pss_one (ps_ret pe_non))
    pss_nil)
    (pss_cons (ps_expr (pe_call G_check_parts (hr.mono (by decide)) (by rfl) D_check_parts.mg D_check_parts.fn.kp D_check_parts.bd .nil pass0 (pa_cons (pe_ix ix_tup (pe_ix ix_tup (pv 2) (pv 1) (fun _ _ => rfl)) pe_int (fun _ _ => rfl)) pa_nil)))
    (pss_one (ps_ret (pe_call G_tree_from (hr.mono (by decide)) (by rfl) D_tree_from.mg D_tree_from.fn.kp D_tree_from.bd .nil pass0 (pa_cons (pv 0) (pa_cons (pe_call G_first_roots (hr.mono (by decide)) (by rfl) D_first_roots.mg D_first_roots.fn.kp D_first_roots.bd .nil pass0 (pa_cons (pv 0) (pa_cons (pv 2) pa_nil))) (pa_cons (pv 1) pa_nil))))))))), ?_⟩
    -- weights = least_weights(family)
    refine ⟨_, rfl, f, n, rows, rfl, hF, F, fun p H1 s1 hT => ?_⟩
    obtain ⟨ws, hws, hW⟩ := id hT
    obtain ⟨v, hv1, hv2, hv3⟩ := hW.at (s := st) (by rw [S.len]; exact hst)
    rcases hv3.is_none with ⟨rfl, hn⟩ | ⟨c, z, rfl, hz, hc⟩
    · refine ⟨_, rfl, _, rfl, p, ws, _, _, rfl, rfl, SqT.of hws, hv1, rfl, _, rfl, iteT ?_⟩
      exact k _ _ s1 (.inl ⟨hn, rfl⟩)
    · refine ⟨_, rfl, _, rfl, p, ws, _, _, rfl, rfl, SqT.of hws, hv1, rfl, _, rfl, iteF ?_⟩
      obtain ⟨_, _, h40, _, _⟩ := S.mem _ _ hz
      refine ⟨_, rfl, _, rfl, p, ws, _, _, rfl, rfl, SqT.of hws, hv1, c, _, 1, _, rfl, rfl, SqT.of hc, atI_nat (j := 1) rfl, z.2, rfl, by omega, ?_⟩
      have hF1 := hF.mono (Tups.of s1)
      refine ⟨_, rfl, _, rfl, _, rfl, f, p, n, rows, least n rows, rfl, hF1, hT, S.len, F, fun d H2 s2 hd => ?_⟩
      refine ⟨_, rfl, f, d, n, st, rows, least n rows, z, rfl, hF1.mono (Tups.of s2), hd, S, F, hz, fun q t H3 s3 hq hfirst => ?_⟩
      exact k _ _ (s1.trans (s2.trans s3)) (.inr ⟨q, t, z, rfl, hz, hq, hfirst⟩)
end
end KW
set_option Elab.async false
set_option linter.all false
set_option maxRecDepth 100000
set_option maxHeartbeats 4000000
/-! The law's tape: _law_tape, _law_draw, _law_price. -/
namespace KW
open PySem PySem.Spec PyProof.Rows L2 KR K30

abbrev s_law_tape : Stmt := top 14
abbrev N_law_tape : List Str := ["_law_script", "_law_total", "_law_cell"]
theorem sc_law_tape : FnScope N_law_tape ["_law_script"] (defScope s_law_tape) := ⟨rfl, rfl, rfl, by decide +kernel, rfl, by decide +kernel, by decide +kernel⟩
def sp_law_tape (K : PySem.W.Frag) : Sp := fun vs H Q _ => ∃ (a : Addr) (ns : List Int), vs = [.ref a] ∧ SqL K H a (ns.map V.int) ∧ ∀ p b H', Same H H' → H p = none → TapeAt H' p b → Q (.ref p) H'
section
variable {P : Program} {w : World} {K : PySem.W.Frag} {mg : Str → Option Value} {base : Heap}
theorem ok_law_tape {f : Addr} {fd : FuncData} (D : DefIs K mg "_law_tape" s_law_tape ["_law_script"] f fd) (T : Txt mg) : FnOk P w K mg base CX0 1 f fd ["_law_script"] (sp_law_tape K) := by
  refine D.fn.ok sc_law_tape (fun vs H Q E h => ?_) (fun cdv A outer s H vs Q E hr h => ?_)
  · obtain ⟨a, ns, rfl, _⟩ := h
    rfl
  · obtain ⟨a, ns, rfl, hS, k⟩ := h
    refine ⟨_, (pss_cons (ps_set (i := 1) sc_law_tape.nd rfl (Or.inl rfl) pe_int)
    (pss_cons (ps_for PassesOwn.never rfl (pi_list (pv 0)) (pg_name (i := 2) sc_law_tape.nd rfl (Or.inl rfl))
    (pss_one (ps_set (i := 1) sc_law_tape.nd rfl (Or.inl rfl) (pe_op op_mod (pe_callTy call_int1 (by rfl) T.b_int (by decide +kernel) (pa_cons (pe_op op_add (pe_op op_mul (pv 1) pe_int) (pe_callB call_abs (by rfl) T.b_abs (by decide +kernel) (pa_cons (pe_callTy call_int1 (by rfl) T.b_int (by decide +kernel) (pa_cons (pv 2) pa_nil)) pa_nil))) pa_nil)) pe_int))))
    (pss_one (ps_ret (pe_lst (pa_cons (pe_callTy call_list_of (by rfl) T.b_list (by decide +kernel) (pa_cons (pv 0) pa_nil)) (pa_cons pe_int (pa_cons pe_int (pa_cons (pv 1) pa_nil))))))))), ?_⟩
    refine ⟨_, rfl, a, rfl, ⟨_, hS⟩, for_list (K := K) (a := a) (xs := ns.map V.int) (fun i σ H' => H' = H ∧ ∃ (t : Int) (y2 : Option V), σ = [some (.ref a), some (.int t), y2])
      ⟨rfl, 7, none, rfl⟩ (fun i σ H' _ hP => by rw [hP.1]; exact hS) ?_ ?_⟩
    · rintro i y σ H' hi ⟨rfl, t, y2, rfl⟩
      obtain ⟨n, hn, rfl⟩ := map_get hi
      exact ⟨_, rfl, _, _, rfl, rfl, .inr ⟨by decide, by decide⟩, _, rfl, .inl ⟨_, rfl, _, rfl, _, _, rfl, rfl, .inl ⟨_, rfl, _, _, rfl, rfl, (by show (0 : Int) < 2147483647; decide), rfl, _, _, rfl⟩⟩⟩
    · rintro σ H' ⟨rfl, t, y2, rfl⟩
      refine ⟨_, rfl, a, _, rfl, .inl hS, fun l hl => ?_⟩
      refine ⟨_, rfl, (by show 4 ≤ sizeLine; decide), fun p hp => ?_⟩
      have s0 : Same H' (upd H' l (.lst (ns.map V.int))) := same_new hl
      have npl : p ≠ l := fun e => by
        rw [e, upd_same] at hp
        cases hp
      refine k p l _ (s0.trans (same_new hp)) (s0.free hp) ⟨ns, 0, 0, t, upd_same, ?_, Int.le_refl 0, Int.le_refl 0⟩
      rw [upd_ne npl.symm, upd_same]
end

/-! ### _law_draw -/
theorem fmod_pos (i j : Int) (hj : 0 < j) : ∃ k : Nat, i.fmod j = (k : Int) ∧ (k : Int) < j := by
  rw [Int.fmod_eq_emod_of_nonneg _ (Int.le_of_lt hj)]
  have h1 := Int.emod_nonneg i (by omega : j ≠ 0)
  have h2 := Int.emod_lt_of_pos i hj
  exact ⟨(i % j).toNat, by omega, by omega⟩
theorem fdiv_nonneg {i j : Int} (hi : 0 ≤ i) (hj : 0 < j) : 0 ≤ i.fdiv j := by
  rw [Int.fdiv_eq_ediv_of_nonneg _ (Int.le_of_lt hj)]
  exact Int.ediv_nonneg hi (Int.le_of_lt hj)
theorem max_two (m : Nat) (c : Nat) (hc : 1 ≤ c) : ∃ j : Int, (if (c : Int) > (m : Int) then (c : Int) else (m : Int)) = j ∧ 0 < j ∧ j = ((max m c : Nat) : Int) := by
  refine ⟨_, rfl, ?_, ?_⟩ <;> split <;> omega
theorem draw_fin {m : Nat} (n : Int) {R : V → Prop} (h : ∀ k : Nat, k < max m 1 → R (nv k)) : R (.int (n.fmod (if (1 : Int) > (m : Int) then (1 : Int) else (m : Int)))) := by
  obtain ⟨j, e, hj, ej⟩ := max_two m 1 (Nat.le_refl 1)
  have e' : (if (1 : Int) > (m : Int) then (1 : Int) else (m : Int)) = j := e
  rw [e']
  obtain ⟨k, hk, hlt⟩ := fmod_pos n j hj
  rw [hk]
  exact h k (by omega)
abbrev s_law_draw : Stmt := top 15
abbrev N_law_draw : List Str := ["_law_tape_here", "_law_menu", "_law_place", "_law_number"]
theorem sc_law_draw : FnScope N_law_draw ["_law_tape_here", "_law_menu"] (defScope s_law_draw) := ⟨rfl, rfl, rfl, by decide +kernel, rfl, by decide +kernel, by decide +kernel⟩
def sp_law_draw : Sp := fun vs H Q _ => ∃ (a b : Addr) (m : Nat), vs = [.ref a, nv m] ∧ TapeAt H a b ∧ m ≤ 1000000001 ∧ ∀ (k : Nat) H', But a H H' → TapeAt H' a b → k < max m 1 → Q (nv k) H'
section
variable {P : Program} {w : World} {K : PySem.W.Frag} {mg : Str → Option Value} {base : Heap}
theorem ok_law_draw {f : Addr} {fd : FuncData} (D : DefIs K mg "_law_draw" s_law_draw ["_law_tape_here", "_law_menu"] f fd) (T : Txt mg) : FnOk P w K mg base CX0 1 f fd ["_law_tape_here", "_law_menu"] sp_law_draw := by
  refine D.fn.ok sc_law_draw (fun vs H Q E h => ?_) (fun cdv A outer s H vs Q E hr h => ?_)
  · obtain ⟨a, b, m, rfl, _⟩ := h
    rfl
  · obtain ⟨a, b, m, rfl, hT, hm, k⟩ := h
    obtain ⟨ns, p, r, t, h1, h2, hp0, hr0⟩ := id hT
    have nba : b ≠ a := ne_of h2 h1 tape_ne
    refine ⟨_, (C8.pss_cut (ps_if (pt_cmpR op_eq (pe_ix ix_list (pv 0) pe_int (fun _ _ => rfl)) pe_int (nomark _))
    (pss_cons (ps_set (i := 2) sc_law_draw.nd rfl (Or.inl rfl) (pe_ix ix_list (pv 0) pe_int (fun _ _ => rfl)))
      (pss_cons (ps_set (i := 3) sc_law_draw.nd rfl (Or.inl rfl) pe_int)
      (C8.pss_cut (ps_if (pt_cmpR op_lt (pv 2) (pe_callB call_len_seq (by rfl) T.b_len PySem.boot_len (pa_cons (pe_ix ix_list (pv 0) pe_int (fun _ _ => rfl)) pa_nil)) (nomark _))
      (pss_one (ps_set (i := 3) sc_law_draw.nd rfl (Or.inl rfl) (pe_callB call_abs (by rfl) T.b_abs (by decide +kernel) (pa_cons (pe_callTy call_int1 (by rfl) T.b_int (by decide +kernel) (pa_cons (pe_ix ix_list (pe_ix ix_list (pv 0) pe_int (fun _ _ => rfl)) (pv 2) (fun _ _ => rfl)) pa_nil)) pa_nil))))
      (pss_cons (ps_asg (pe_op op_mod (pe_callTy call_int1 (by rfl) T.b_int (by decide +kernel) (pa_cons (pe_op op_add (pe_op op_add (pe_op op_mul (pe_ix ix_list (pv 0) pe_int (fun _ _ => rfl)) pe_int) (pv 2)) pe_int) pa_nil)) pe_int) (pg_sub (pv 0) pe_int set_list))
        (pss_one (ps_set (i := 3) sc_law_draw.nd rfl (Or.inl rfl) (pe_ix ix_list (pv 0) pe_int (fun _ _ => rfl))))))
      (pss_cons (ps_asg (pe_op op_add (pv 2) pe_int) (pg_sub (pv 0) pe_int set_list))
      (pss_cons (ps_if (pt_cmpR op_lt (pv 3) (pe_op op_pow pe_int pe_int) (nomark _))
      (pss_cons (ps_set (i := 3) sc_law_draw.nd rfl (Or.inl rfl) (pe_op op_mod (pe_callTy call_int1 (by rfl) T.b_int (by decide +kernel) (pa_cons (pe_op op_add (pe_op op_add (pe_op op_mul (pv 3) pe_int) (pe_op op_mul (pv 2) pe_int)) pe_int) pa_nil)) pe_int))
        (pss_cons (ps_set (i := 3) sc_law_draw.nd rfl (Or.inl rfl) (pe_op op_mod (pe_callTy call_int1 (by rfl) T.b_int (by decide +kernel) (pa_cons (pe_op op_mul (pv 3) pe_int) pa_nil)) pe_int))
        (pss_one (ps_ret (pe_op op_modN (pe_callTy call_int1 (by rfl) T.b_int (by decide +kernel) (pa_cons (pv 3) pa_nil)) (pe_callB (call_max2 rfl) (by rfl) T.b_max (by decide +kernel) (pa_cons (pv 1) (pa_cons pe_int pa_nil))))))))
      pss_nil)
      (pss_one (ps_asg (pv 3) (pg_sub (pv 0) pe_int set_list))))))))
    pss_nil)
    (pss_cons (ps_set (i := 3) sc_law_draw.nd rfl (Or.inl rfl) (pe_ix ix_list (pv 0) pe_int (fun _ _ => rfl)))
    (pss_cons (ps_asg (pe_op op_fdivN (pv 3) (pe_callB (call_max2 rfl) (by rfl) T.b_max (by decide +kernel) (pa_cons (pv 1) (pa_cons pe_int pa_nil)))) (pg_sub (pv 0) pe_int set_list))
    (pss_one (ps_ret (pe_op op_modN (pe_callTy call_int1 (by rfl) T.b_int (by decide +kernel) (pa_cons (pv 3) pa_nil)) (pe_callB (call_max2 rfl) (by rfl) T.b_max (by decide +kernel) (pa_cons (pv 1) (pa_cons pe_int pa_nil))))))))), ?_⟩
    -- if tape[2] == 0
    refine ⟨fun σ' H' => ∃ y2 y3 : Option V, σ' = [some (.ref a), some (nv m), y2, y3] ∧ But a H H' ∧ TapeAt H' a b, ?_, ?_⟩
    · refine ⟨_, rfl, a, _, 2, _, rfl, rfl, SqL.of h1, atI_nat (j := 2) rfl, rfl, _, rfl, ite2 (fun _ => ?_) (fun _ => ?_)⟩
      · -- place = tape[1]; number = 0
        refine ⟨_, rfl, a, _, 1, _, rfl, rfl, SqL.of h1, atI_nat (j := 1) rfl, ?_⟩
        refine ⟨fun σ' H' => ∃ num t' : Int, 0 ≤ num ∧ σ' = [some (.ref a), some (nv m), some (.int p), some (.int num)] ∧ But a H H' ∧ H' a = some (.lst [.ref b, .int p, .int r, .int t']) ∧ H' b = some (.lst (ns.map V.int)), ?_, ?_⟩
        · refine ⟨_, rfl, _, rfl, a, _, 0, _, rfl, rfl, SqL.of h1, atI_nat (j := 0) rfl, b, _, rfl, .inl (SqL.of h2), _, _, rfl, rfl, _, rfl, ite2 (fun c => ?_) (fun _ => ?_)⟩
          · have c' : p < ((ns.map V.int).length : Int) := of_decide_eq_true c
            rw [List.length_map] at c'
            obtain ⟨j, rfl⟩ : ∃ j : Nat, p = (j : Int) := ⟨p.toNat, by omega⟩
            have hk : j < ns.length := by omega
            have hat : atI (ns.map V.int) (j : Int) = some (.int ns[j]) := at_map (List.getElem?_eq_getElem hk)
            refine ⟨_, rfl, a, _, 0, _, rfl, rfl, SqL.of h1, atI_nat (j := 0) rfl, _, rfl, b, _, _, _, rfl, rfl, SqL.of h2, hat, .inl ⟨_, rfl, _, rfl, ?_⟩⟩
            refine ⟨_, t, ?_, rfl, But.refl, h1, h2⟩
            split <;> omega
          · refine ⟨_, rfl, a, _, 3, _, rfl, rfl, SqL.of h1, atI_nat (j := 3) rfl, _, _, rfl, rfl, .inr ⟨by decide, by decide⟩, _, rfl, _, _, rfl, rfl, _, _, rfl, rfl, .inl ⟨_, rfl, _, _, rfl, rfl, (by show (0 : Int) < 2147483647; decide), ?_⟩⟩
            refine ⟨_, rfl, a, _, 3, 3, rfl, rfl, h1, rfl, ?_⟩
            refine ⟨_, rfl, a, _, 3, _, rfl, rfl, SqL.of upd_same, atI_nat (j := 3) rfl, ?_⟩
            exact ⟨_, _, Int.emod_nonneg _ (by decide), rfl, But.upd_at, upd_same, by rw [upd_ne nba]; exact h2⟩
        · rintro σ' H' ⟨num, t', hnum, rfl, hB, g1, g2⟩
          -- tape[1] = place + 1
          refine ⟨_, rfl, _, _, rfl, rfl, _, rfl, a, _, 1, 1, rfl, rfl, g1, rfl, ?_⟩
          have hB2 : But a H (upd H' a (.lst ([V.ref b, .int p, .int r, .int t'].set 1 (.int (p + 1))))) := hB.trans But.upd_at
          have g2' : (upd H' a (.lst ([V.ref b, .int p, .int r, .int t'].set 1 (.int (p + 1))))) b = some (.lst (ns.map V.int)) := by
            rw [upd_ne nba]
            exact g2
          -- if number < 10 ** 18
          refine ⟨_, rfl, _, _, rfl, rfl, ⟨by decide, by decide, by decide⟩, _, _, rfl, rfl, _, rfl, ite2 (fun _ => ?_) (fun _ => ?_)⟩
          · refine ⟨_, rfl, _, _, rfl, rfl, .inr ⟨by decide, by decide⟩, _, rfl, _, _, rfl, rfl, .inr ⟨by decide, by decide⟩, _, _, rfl, rfl, _, _, rfl, rfl, .inl ⟨_, rfl, _, _, rfl, rfl, (by show (0 : Int) < 2147483647; decide), ?_⟩⟩
            refine ⟨_, rfl, _, _, rfl, rfl, .inr ⟨by decide, by decide⟩, .inl ⟨_, rfl, _, _, rfl, rfl, (by show (0 : Int) < 2147483629; decide), ?_⟩⟩
            refine ⟨_, rfl, .inl ⟨_, rfl, _, rfl, _, _, rfl, _, _, rfl, rfl, ?_, ?_⟩⟩
            · obtain ⟨j, e, hj, _⟩ := max_two m 1 (Nat.le_refl 1)
              have e' : (if (1 : Int) > (m : Int) then (1 : Int) else (m : Int)) = j := e
              show (if (1 : Int) > (m : Int) then (1 : Int) else (m : Int)) ≠ 0
              rw [e']
              omega
            · refine draw_fin (m := m) (R := fun v => Q v _) _ fun q hq => k q _ hB2 ⟨ns, p + 1, r, t', upd_same, g2', by omega, hr0⟩ hq
          · refine ⟨_, rfl, _, rfl, a, _, 2, 2, rfl, rfl, upd_same, rfl, ?_⟩
            refine ⟨_, _, rfl, hB2.trans But.upd_at, ns, p + 1, num, t', upd_same, ?_, by omega, hnum⟩
            rw [upd_ne nba]
            exact g2'
      · exact ⟨_, _, rfl, But.refl, hT⟩
    · rintro σ' H' ⟨y2, y3, rfl, hB, hT'⟩
      obtain ⟨ns, p, r, t, h1, h2, hp0, hr0⟩ := hT'
      have nba : b ≠ a := ne_of h2 h1 tape_ne
      -- number = tape[2]; tape[2] = number // max(menu, 2)
      obtain ⟨j, e, hj, ej⟩ := max_two m 2 (by decide)
      have e' : (if (2 : Int) > (m : Int) then (2 : Int) else (m : Int)) = j := e
      refine ⟨_, rfl, a, _, 2, _, rfl, rfl, SqL.of h1, atI_nat (j := 2) rfl, ?_⟩
      refine ⟨_, rfl, _, rfl, _, _, rfl, _, _, rfl, rfl, ⟨?_, ?_⟩, _, rfl, a, _, 2, 2, rfl, rfl, h1, rfl, ?_⟩
      · show (if (2 : Int) > (m : Int) then (2 : Int) else (m : Int)) ≠ 0
        rw [e']
        omega
      · show (if (2 : Int) > (m : Int) then (2 : Int) else (m : Int)).natAbs < 1073741824
        rw [e']
        omega
      refine ⟨_, rfl, .inl ⟨_, rfl, _, rfl, _, _, rfl, _, _, rfl, rfl, ?_, ?_⟩⟩
      · obtain ⟨j, e, hj, _⟩ := max_two m 1 (Nat.le_refl 1)
        have e' : (if (1 : Int) > (m : Int) then (1 : Int) else (m : Int)) = j := e
        show (if (1 : Int) > (m : Int) then (1 : Int) else (m : Int)) ≠ 0
        rw [e']
        omega
      · refine draw_fin (m := m) (R := fun v => Q v _) _ fun q hq => k q _ (hB.trans But.upd_at) ⟨ns, p, _, t, upd_same, by rw [upd_ne nba]; exact h2, hp0, ?_⟩ hq
        rw [e']
        exact fdiv_nonneg hr0 hj

end

/-! ### _law_price -/
abbrev s_law_price : Stmt := top 16
abbrev N_law_price : List Str := ["_law_tape_here", "_law_mode", "_law_low", "_law_price_here"]
theorem sc_law_price : FnScope N_law_price ["_law_tape_here", "_law_mode", "_law_low"] (defScope s_law_price) := ⟨rfl, rfl, rfl, by decide +kernel, rfl, by decide +kernel, by decide +kernel⟩
def sp_law_price : Sp := fun vs H Q _ => ∃ (a b : Addr) (m : Nat), vs = [.ref a, nv m, .int 0] ∧ TapeAt H a b ∧ m < 4 ∧ ∀ (p : Option Nat) H', But a H H' → TapeAt H' a b → (∀ q, p = some q → q ≤ 1000000000) → Q (ov p) H'
theorem price_menu : ∀ m : Nat, m < 4 → ∃ M : Nat, 1 ≤ M ∧ M ≤ 1000000001 ∧ atI [V.int 1, .int 2, .int 10, .int ((10 : Int) ^ (9 : Int).toNat + 1)] (m : Int) = some (nv M)
  | 0, _ => ⟨1, by decide, by decide, by decide +kernel⟩
  | 1, _ => ⟨2, by decide, by decide, by decide +kernel⟩
  | 2, _ => ⟨10, by decide, by decide, by decide +kernel⟩
  | 3, _ => ⟨1000000001, by decide, by decide, by decide +kernel⟩
  | m + 4, h => absurd h (by omega)
section
variable {P : Program} {w : World} {K : PySem.W.Frag} {mg : Str → Option Value} {base : Heap}
theorem ok_law_price {f f1 : Addr} {fd fd1 : FuncData} (D : DefIs K mg "_law_price" s_law_price ["_law_tape_here", "_law_mode", "_law_low"] f fd) (T : Txt mg) (D_law_draw : DefIs K mg "_law_draw" s_law_draw ["_law_tape_here", "_law_menu"] f1 fd1) : FnOk P w K mg base CX0 2 f fd ["_law_tape_here", "_law_mode", "_law_low"] sp_law_price := by
  have G_law_draw : FnOk P w K mg base CX0 1 f1 fd1 ["_law_tape_here", "_law_menu"] sp_law_draw := ok_law_draw D_law_draw T
  refine D.fn.ok sc_law_price (fun vs H Q E h => ?_) (fun cdv A outer s H vs Q E hr h => ?_)
  · obtain ⟨a, b, m, rfl, _⟩ := h
    rfl
  · obtain ⟨a, b, m, rfl, hT, hm, k⟩ := h
    refine ⟨_, (pss_cons (ps_if (pt_cmpR op_eq (pe_call G_law_draw (hr.mono (by decide)) (by rfl) D_law_draw.mg D_law_draw.fn.kp D_law_draw.bd .nil pass0 (pa_cons (pv 0) (pa_cons pe_int pa_nil))) pe_int (nomark _))
    (pss_one (ps_ret pe_non))
    pss_nil)
    (pss_cons (ps_set (i := 3) sc_law_price.nd rfl (Or.inl rfl) (pe_call G_law_draw (hr.mono (by decide)) (by rfl) D_law_draw.mg D_law_draw.fn.kp D_law_draw.bd .nil pass0 (pa_cons (pv 0) (pa_cons (pe_ix ix_list (pe_lst (pa_cons pe_int (pa_cons pe_int (pa_cons pe_int (pa_cons (pe_op op_add (pe_op op_pow pe_int pe_int) pe_int) pa_nil))))) (pv 1) (fun _ _ => rfl)) pa_nil))))
    (pss_cons (ps_if (PW.pt (pw_and (pt_cmpR op_eq (pv 2) pe_int (nomark _)) (pw_and1 (pt_cmpR op_eq (pe_call G_law_draw (hr.mono (by decide)) (by rfl) D_law_draw.mg D_law_draw.fn.kp D_law_draw.bd .nil pass0 (pa_cons (pv 0) (pa_cons pe_int pa_nil))) pe_int (nomark _)))))
    (pss_one (ps_set (i := 3) sc_law_price.nd rfl (Or.inl rfl) (pe_un un_neg (pv 3))))
    pss_nil)
    (pss_one (ps_ret (pv 3)))))), ?_⟩
    refine ⟨_, rfl, a, b, 8, rfl, hT, by decide, fun q H1 b1 t1 hq => ?_⟩
    refine ⟨rfl, _, rfl, ite2 (fun _ => ?_) (fun _ => ?_)⟩
    · exact k none H1 b1 t1 (fun q e => nomatch e)
    · obtain ⟨M, hM1, hM, hat⟩ := price_menu m hm
      refine ⟨_, rfl, _, _, rfl, rfl, ⟨by decide, by decide, by decide⟩, _, _, rfl, rfl, (by show 4 ≤ sizeLine; decide), fun l hl => ?_⟩
      have s1 := same_new hl (o := .lst [V.int 1, .int 2, .int 10, .int ((10 : Int) ^ (9 : Int).toNat + 1)])
      refine ⟨_, rfl, l, _, _, nv M, rfl, rfl, SqL.of upd_same, hat, a, b, M, rfl, t1.of_same s1, hM, fun p H2 b2 t2 hp => ?_⟩
      refine ⟨_, rfl, rfl, _, rfl, ite2 (fun c => absurd c (by decide)) (fun _ => iteF ?_)⟩
      refine ⟨_, rfl, k (some p) H2 (b1.trans ((But.of s1).trans b2)) t2 fun q e => ?_⟩
      cases e
      omega
end
end KW
set_option Elab.async false
set_option linter.all false
set_option maxRecDepth 100000
set_option maxHeartbeats 4000000
/-! The law's family: _law_family. -/
namespace KW
open PySem PySem.Spec PyProof.Rows L2 KR K30

structure GoodRow (n : Nat) (r : Vrt) : Prop where
  plug : r.plug < n
  slot : ∀ s ∈ r.slots, s < n
  few : r.slots.length ≤ 3
  pr : ∀ p, r.price = some p → p ≤ 1000000000
/-- the rows that are being made stand at rl -/
structure FamSt (H H' : Hp) (a b rl : Addr) (n k : Nat) : Prop where
  but : But a H H'
  tape : TapeAt H' a b
  rows : ∃ (vs : List V) (rows : List Vrt), H' rl = some (.lst vs) ∧ RowsAt H' vs rows ∧ rows.length ≤ k ∧ ∀ r ∈ rows, GoodRow n r
section
variable {H H1 H2 : Hp} {a b rl l : Addr} {n k : Nat}
theorem FamSt.same (h : FamSt H H1 a b rl n k) (s : Same H1 H2) : FamSt H H2 a b rl n k := by
  obtain ⟨h1, h2, vs, rows, e, hR, hg⟩ := h
  exact ⟨h1.trans (But.of s), h2.of_same s, vs, rows, s _ _ e, hR.mono (Tups.of s), hg⟩
theorem FamSt.draw (h : FamSt H H1 a b rl n k) (n1 : rl ≠ a) (s : But a H1 H2) (t : TapeAt H2 a b) : FamSt H H2 a b rl n k := by
  obtain ⟨h1, h2, vs, rows, e, hR, hg⟩ := h
  exact ⟨h1.trans s, t, vs, rows, s _ _ e n1, hR.mono (h2.tups s), hg⟩
theorem FamSt.upd (h : FamSt H H1 a b rl n k) (hl : H l = none) (n1 : l ≠ a) (n2 : l ≠ b) (n3 : l ≠ rl) {xs : List V} (e : H1 l = some (.lst xs)) {o : HO} : FamSt H (upd H1 l o) a b rl n k := by
  obtain ⟨h1, h2, vs, rows, e1, hR, hg⟩ := h
  exact ⟨h1.upd_new hl, h2.upd n1 n2, vs, rows, by rw [upd_ne n3.symm]; exact e1, hR.mono (Tups.upd_list e), hg⟩
theorem FamSt.more (h : FamSt H H1 a b rl n k) {k' : Nat} (hk : k ≤ k') : FamSt H H1 a b rl n k' := by
  obtain ⟨h1, h2, vs, rows, e, hR, hg, hz⟩ := h
  exact ⟨h1, h2, vs, rows, e, hR, Nat.le_trans hg hk, hz⟩
/-- the rows stored anew -/
theorem FamSt.put (h : FamSt H H1 a b rl n k) (hl : H rl = none) (n1 : rl ≠ a) (n2 : rl ≠ b) {vs : List V} {rows : List Vrt} {k' : Nat} (hR : RowsAt H1 vs rows) (hk : rows.length ≤ k') (hg : ∀ r ∈ rows, GoodRow n r) : FamSt H (L2.upd H1 rl (.lst vs)) a b rl n k' := by
  obtain ⟨h1, h2, vs', rows', e1, _, _⟩ := h
  exact ⟨h1.upd_new hl, h2.upd n1 n2, vs, rows, upd_same, hR.mono (Tups.upd_list e1), hk, hg⟩
end
theorem RowsAt.snoc {H : Hp} {vs : List V} {rows : List Vrt} {v : V} {r : Vrt} (h : RowsAt H vs rows) (hv : RowAt H v r) : RowsAt H (vs ++ [v]) (rows ++ [r]) := by
  refine ⟨by rw [List.length_append, List.length_append, h.1, List.length_singleton, List.length_singleton], fun i q e => ?_⟩
  by_cases hi : i < rows.length
  · rw [List.getElem?_append_left hi] at e
    obtain ⟨u, h1, h2⟩ := h.2 i q e
    exact ⟨u, by rw [List.getElem?_append_left (by rw [h.1]; exact hi)]; exact h1, h2⟩
  · rw [List.getElem?_append_right (by omega)] at e
    have hl : i - rows.length < 1 := by
      have z := (List.getElem?_eq_some_iff.mp e).1
      rw [List.length_singleton] at z
      exact z
    have e0 : i - rows.length = 0 := by omega
    rw [e0] at e
    cases e
    refine ⟨v, ?_, hv⟩
    rw [List.getElem?_append_right (by rw [h.1]; omega), h.1, e0]
    rfl
theorem RowsAt.insert {H : Hp} {vs : List V} {rows : List Vrt} {v : V} {r : Vrt} (h : RowsAt H vs rows) (hv : RowAt H v r) (q : Nat) : RowsAt H (vs.take q ++ [v] ++ vs.drop q) (rows.take q ++ [r] ++ rows.drop q) := by
  have ht : RowsAt H (vs.take q) (rows.take q) := by
    refine ⟨by rw [List.length_take, List.length_take, h.1], fun i x e => ?_⟩
    rw [List.getElem?_take] at e
    by_cases hi : i < q
    · rw [if_pos hi] at e
      obtain ⟨u, h1, h2⟩ := h.2 i x e
      exact ⟨u, by rw [List.getElem?_take, if_pos hi]; exact h1, h2⟩
    · rw [if_neg hi] at e
      cases e
  have hd : RowsAt H (vs.drop q) (rows.drop q) := by
    refine ⟨by rw [List.length_drop, List.length_drop, h.1], fun i x e => ?_⟩
    rw [List.getElem?_drop] at e
    obtain ⟨u, h1, h2⟩ := h.2 _ x e
    exact ⟨u, by rw [List.getElem?_drop]; exact h1, h2⟩
  have hs := ht.snoc hv
  refine ⟨?_, fun i x e => ?_⟩
  · have e1 := hs.1
    have e2 := hd.1
    simp only [List.length_append] at e1 ⊢
    omega
  by_cases hi : i < (rows.take q ++ [r]).length
  · rw [List.getElem?_append_left hi] at e
    obtain ⟨u, h1, h2⟩ := hs.2 i x e
    exact ⟨u, by rw [List.getElem?_append_left (by rw [hs.1]; exact hi)]; exact h1, h2⟩
  · rw [List.getElem?_append_right (by omega)] at e
    obtain ⟨u, h1, h2⟩ := hd.2 _ x e
    refine ⟨u, ?_, h2⟩
    rw [List.getElem?_append_right (by rw [hs.1]; omega), hs.1]
    exact h1
theorem RowsAt.nil {H : Hp} : RowsAt H [] [] := ⟨rfl, fun i r e => by simp at e⟩
theorem slot_menu : ∀ q : Nat, q < 6 → ∃ M : Nat, M ≤ 3 ∧ atI [V.int 0, .int 1, .int 1, .int 2, .int 2, .int 3] (q : Int) = some (nv M)
  | 0, _ => ⟨0, by decide, by decide +kernel⟩
  | 1, _ => ⟨1, by decide, by decide +kernel⟩
  | 2, _ => ⟨1, by decide, by decide +kernel⟩
  | 3, _ => ⟨2, by decide, by decide +kernel⟩
  | 4, _ => ⟨2, by decide, by decide +kernel⟩
  | 5, _ => ⟨3, by decide, by decide +kernel⟩
  | m + 6, h => absurd h (by omega)

abbrev s_law_family : Stmt := top 17
abbrev N_law_family : List Str := ["_law_tape_here", "_law_states", "_law_variants", "_law_low", "_law_count", "_law_shape", "_law_mode", "_law_rows", "_law_k", "_law_plug", "_law_slots", "_law_j", "_law_goal", "_law_row", "_law_state", "_law_roots"]
theorem sc_law_family : FnScope N_law_family ["_law_tape_here", "_law_states", "_law_variants", "_law_low"] (defScope s_law_family) := ⟨rfl, rfl, rfl, by decide +kernel, rfl, by decide +kernel, by decide +kernel⟩
def sp_law_family : Sp := fun vs H Q _ => ∃ (a b : Addr), vs = [.ref a, .int 4, .int 10, .int 0] ∧ TapeAt H a b ∧ ∀ (f : Addr) (n : Nat) (rows : List Vrt) H', But a H H' → TapeAt H' a b → FamAt H' f n rows → Fine n rows → Q (.ref f) H'
section
variable {P : Program} {w : World} {K : PySem.W.Frag} {mg : Str → Option Value} {base : Heap}
theorem ok_law_family {f f1 f2 : Addr} {fd fd1 fd2 : FuncData} (D : DefIs K mg "_law_family" s_law_family ["_law_tape_here", "_law_states", "_law_variants", "_law_low"] f fd) (T : Txt mg) (D_law_draw : DefIs K mg "_law_draw" s_law_draw ["_law_tape_here", "_law_menu"] f1 fd1)
    (D_law_price : DefIs K mg "_law_price" s_law_price ["_law_tape_here", "_law_mode", "_law_low"] f2 fd2) : FnOk P w K mg base CX0 3 f fd ["_law_tape_here", "_law_states", "_law_variants", "_law_low"] sp_law_family := by
  have G_law_draw : FnOk P w K mg base CX0 1 f1 fd1 ["_law_tape_here", "_law_menu"] sp_law_draw := ok_law_draw D_law_draw T
  have G_law_price : FnOk P w K mg base CX0 2 f2 fd2 ["_law_tape_here", "_law_mode", "_law_low"] sp_law_price := ok_law_price D_law_price T D_law_draw
  refine D.fn.ok sc_law_family (fun vs H Q E h => ?_) (fun cdv A outer s H vs Q E hr h => ?_)
  · obtain ⟨a, b, rfl, _⟩ := h
    rfl
  · obtain ⟨a, b, rfl, hT, k⟩ := h
    refine ⟨_, (pss_cons (ps_set (i := 4) sc_law_family.nd rfl (Or.inl rfl) (pe_op op_add pe_int (pe_call G_law_draw (hr.mono (by decide)) (by rfl) D_law_draw.mg D_law_draw.fn.kp D_law_draw.bd .nil pass0 (pa_cons (pv 0) (pa_cons (pv 1) pa_nil)))))
    (pss_cons (ps_set (i := 5) sc_law_family.nd rfl (Or.inl rfl) (pe_call G_law_draw (hr.mono (by decide)) (by rfl) D_law_draw.mg D_law_draw.fn.kp D_law_draw.bd .nil pass0 (pa_cons (pv 0) (pa_cons pe_int pa_nil))))
    (pss_cons (ps_set (i := 6) sc_law_family.nd rfl (Or.inl rfl) (pe_call G_law_draw (hr.mono (by decide)) (by rfl) D_law_draw.mg D_law_draw.fn.kp D_law_draw.bd .nil pass0 (pa_cons (pv 0) (pa_cons pe_int pa_nil))))
    (pss_cons (ps_set (i := 7) sc_law_family.nd rfl (Or.inl rfl) (pe_lst pa_nil))
    (pss_cons (ps_for PassesOwn.never rfl (pi_range1 (by rfl) T.b_range (pa_cons (pe_call G_law_draw (hr.mono (by decide)) (by rfl) D_law_draw.mg D_law_draw.fn.kp D_law_draw.bd .nil pass0 (pa_cons (pv 0) (pa_cons (pe_op op_add (pv 2) pe_int) pa_nil))) pa_nil)) (pg_name (i := 8) sc_law_family.nd rfl (Or.inl rfl))
    (pss_cons (ps_set (i := 9) sc_law_family.nd rfl (Or.inl rfl) (pe_call G_law_draw (hr.mono (by decide)) (by rfl) D_law_draw.mg D_law_draw.fn.kp D_law_draw.bd .nil pass0 (pa_cons (pv 0) (pa_cons (pv 4) pa_nil))))
      (pss_cons (ps_set (i := 10) sc_law_family.nd rfl (Or.inl rfl) (pe_lst pa_nil))
      (pss_cons (ps_for PassesOwn.never rfl (pi_range1 (by rfl) T.b_range (pa_cons (pe_ix ix_list (pe_lst (pa_cons pe_int (pa_cons pe_int (pa_cons pe_int (pa_cons pe_int (pa_cons pe_int (pa_cons pe_int pa_nil))))))) (pe_call G_law_draw (hr.mono (by decide)) (by rfl) D_law_draw.mg D_law_draw.fn.kp D_law_draw.bd .nil pass0 (pa_cons (pv 0) (pa_cons pe_int pa_nil))) (fun _ _ => rfl)) pa_nil)) (pg_name (i := 11) sc_law_family.nd rfl (Or.inl rfl))
      (pss_cons (ps_set (i := 12) sc_law_family.nd rfl (Or.inl rfl) (pe_call G_law_draw (hr.mono (by decide)) (by rfl) D_law_draw.mg D_law_draw.fn.kp D_law_draw.bd .nil pass0 (pa_cons (pv 0) (pa_cons (pv 4) pa_nil))))
        (C8.pss_cut (ps_if (pt_cmpR op_eq (pv 5) pe_int (nomark _))
        (pss_one (ps_set (i := 12) sc_law_family.nd rfl (Or.inl rfl) (pe_op op_add (pe_op op_add (pv 9) pe_int) (pv 12))))
        pss_nil)
        (C8.pss_cut (ps_if (pt_cmpR op_eq (pv 5) pe_int (nomark _))
        (pss_one (ps_set (i := 12) sc_law_family.nd rfl (Or.inl rfl) (pe_op op_sub (pe_op op_sub (pv 9) pe_int) (pv 12))))
        pss_nil)
        (pss_one (ps_if (PW.pt (pw_and (pt_cmpR op_le pe_int (pv 12) (nomark _)) (pw_and1 (pt_cmpR op_lt (pv 12) (pv 4) (nomark _)))))
        (pss_one (ps_expr (pe_bm PySem.F.plainAttrs_list PySem.F.slot_list_append PySem.F.type_list_append mt_append (pv 10) (pa_cons (pv 12) pa_nil))))
        pss_nil))))))
      (pss_cons (ps_set (i := 13) sc_law_family.nd rfl (Or.inl rfl) (pe_tup (pa_cons (pv 9) (pa_cons (pe_callTy call_tuple_of (by rfl) T.b_tuple (by decide +kernel) (pa_cons (pv 10) pa_nil)) (pa_cons (pe_call G_law_price (hr.mono (by decide)) (by rfl) D_law_price.mg D_law_price.fn.kp D_law_price.bd .nil pass0 (pa_cons (pv 0) (pa_cons (pv 6) (pa_cons (pv 3) pa_nil)))) pa_nil)))))
      (C8.pss_cut (ps_if (PW.pt (pw_and (pt_truth (pv 7) (by intro _; rfl)) (pw_and1 (pt_cmpR op_eq (pe_call G_law_draw (hr.mono (by decide)) (by rfl) D_law_draw.mg D_law_draw.fn.kp D_law_draw.bd .nil pass0 (pa_cons (pv 0) (pa_cons pe_int pa_nil))) pe_int (nomark _)))))
      (pss_one (ps_set (i := 13) sc_law_family.nd rfl (Or.inl rfl) (pe_ix ix_list (pv 7) (pe_call G_law_draw (hr.mono (by decide)) (by rfl) D_law_draw.mg D_law_draw.fn.kp D_law_draw.bd .nil pass0 (pa_cons (pv 0) (pa_cons (pe_callB call_len_seq (by rfl) T.b_len PySem.boot_len (pa_cons (pv 7) pa_nil)) pa_nil))) (fun _ _ => rfl))))
      pss_nil)
      (pss_one (ps_expr (pe_bm PySem.F.plainAttrs_list PySem.F.slot_list_append PySem.F.type_list_append mt_append (pv 7) (pa_cons (pv 13) pa_nil))))))))))
    (C8.pss_cut (ps_if (pt_cmpR op_eq (pe_call G_law_draw (hr.mono (by decide)) (by rfl) D_law_draw.mg D_law_draw.fn.kp D_law_draw.bd .nil pass0 (pa_cons (pv 0) (pa_cons pe_int pa_nil))) pe_int (nomark _))
    (pss_one (ps_for PassesOwn.never rfl (pi_range1 (by rfl) T.b_range (pa_cons (pv 4) pa_nil)) (pg_name (i := 14) sc_law_family.nd rfl (Or.inl rfl))
      (pss_one (ps_expr (pe_bm PySem.F.plainAttrs_list PySem.F.slot_list_insert PySem.F.type_list_insert mt_insert (pv 7) (pa_cons (pe_call G_law_draw (hr.mono (by decide)) (by rfl) D_law_draw.mg D_law_draw.fn.kp D_law_draw.bd .nil pass0 (pa_cons (pv 0) (pa_cons (pe_op op_add (pe_callB call_len_seq (by rfl) T.b_len PySem.boot_len (pa_cons (pv 7) pa_nil)) pe_int) pa_nil))) (pa_cons (pe_tup (pa_cons (pv 14) (pa_cons (pe_tup pa_nil) (pa_cons (pe_call G_law_price (hr.mono (by decide)) (by rfl) D_law_price.mg D_law_price.fn.kp D_law_price.bd .nil pass0 (pa_cons (pv 0) (pa_cons (pv 6) (pa_cons (pv 3) pa_nil)))) pa_nil)))) pa_nil)))))))
    pss_nil)
    (pss_cons (ps_setLc (i := 15) (own := [("_law_state", 14)]) (g := gName 14) rfl sc_law_family.nd rfl rfl (sw_true rfl rfl rfl (by decide +kernel)) (pi_range1 (by rfl) T.b_range (pa_cons (pv 4) pa_nil)) (blkOk_by (own := [("_law_state", 14)]) (N := N_law_family) (sc := defScope s_law_family) (by decide +kernel)) (fun _ _ _ _ _ => pg_name (i := 14) sc_law_family.nd rfl (Or.inl rfl)) (fun _ _ _ _ _ => (pts_one (pt_cmpR op_gt (pe_call G_law_draw (hr.mono (by decide)) (by rfl) D_law_draw.mg D_law_draw.fn.kp D_law_draw.bd .nil pass0 (pa_cons (pv 0) (pa_cons pe_int pa_nil))) pe_int (nomark _)))) (fun _ _ _ _ _ => (pv 14)))
    (C8.pss_cut (ps_if (PW.pt (pw_and (pt_not (pt_truth (pv 15) (by intro _; rfl))) (pw_and1 (pt_cmpR op_gt (pe_call G_law_draw (hr.mono (by decide)) (by rfl) D_law_draw.mg D_law_draw.fn.kp D_law_draw.bd .nil pass0 (pa_cons (pv 0) (pa_cons pe_int pa_nil))) pe_int (nomark _)))))
    (pss_one (ps_set (i := 15) sc_law_family.nd rfl (Or.inl rfl) (pe_lst (pa_cons (pe_call G_law_draw (hr.mono (by decide)) (by rfl) D_law_draw.mg D_law_draw.fn.kp D_law_draw.bd .nil pass0 (pa_cons (pv 0) (pa_cons (pv 4) pa_nil))) pa_nil))))
    pss_nil)
    (pss_one (ps_ret (pe_tup (pa_cons (pv 4) (pa_cons (pe_callTy call_tuple_of (by rfl) T.b_tuple (by decide +kernel) (pa_cons (pv 15) pa_nil)) (pa_cons (pe_callTy call_tuple_of (by rfl) T.b_tuple (by decide +kernel) (pa_cons (pv 7) pa_nil)) pa_nil)))))))))))))), ?_⟩
    -- count, shape, mode
    refine ⟨_, rfl, _, rfl, a, b, 4, rfl, hT, by decide, fun q0 H1 b1 t1 hq0 => ?_⟩
    refine ⟨_, _, rfl, rfl, ?_⟩
    obtain ⟨n, hn1, hn4, en⟩ : ∃ n : Nat, 1 ≤ n ∧ n ≤ 4 ∧ V.int (1 + (q0 : Int)) = nv n := ⟨1 + q0, by omega, by omega, congrArg V.int (by omega)⟩
    show gName 4 (V.int (1 + (q0 : Int))) (L2.start N_law_family [V.ref a, V.int 4, V.int 10, V.int 0]) H1 _
    rw [en]
    refine ⟨_, rfl, a, b, 8, rfl, t1, by decide, fun shape H2 b2 t2 _ => ?_⟩
    refine ⟨_, rfl, a, b, 4, rfl, t2, by decide, fun mode H3 b3 t3 hmode => ?_⟩
    have hm4 : mode < 4 := by omega
    -- rows = []
    refine ⟨Nat.zero_le _, fun rl hrl => ?_⟩
    have B3 : But a H H3 := b1.trans (b2.trans b3)
    have hrlH : H rl = none := B3.free t3 hrl
    obtain ⟨ra, rb⟩ := t3.ne hrl
    have S0 : FamSt H (upd H3 rl (.lst [])) a b rl n 0 := ⟨B3.upd_new hrlH, t3.upd ra rb, [], [], upd_same, RowsAt.nil, Nat.le_refl _, fun r hr => absurd hr List.not_mem_nil⟩
    -- for k in range(draw(tape, variants + 1))
    refine ⟨_, rfl, _, rfl, _, _, rfl, rfl, a, b, 11, rfl, S0.tape, by decide, fun q1 H4 b4 t4 hq1 => ?_⟩
    have hq11 : q1 < 11 := by omega
    have S1 := S0.draw ra b4 t4
    refine ⟨_, rfl, by omega, by omega, for_range (n := ((q1 : Int)).toNat) (fun i σ H' => FamSt H H' a b rl n i ∧ ∃ y8 y9 y10 y11 y12 y13 : Option V,
        σ = [some (.ref a), some (.int 4), some (.int 10), some (.int 0), some (nv n), some (nv shape), some (nv mode), some (.ref rl), y8, y9, y10, y11, y12, y13, none, none])
        ⟨S1, none, none, none, none, none, none, rfl⟩ ?_ ?_⟩
    · rintro i σ H' hi ⟨S, y8, y9, y10, y11, y12, y13, rfl⟩
      have hi10 : i < 10 := by omega
      -- plug = draw(tape, count)
      refine ⟨_, rfl, _, rfl, a, b, n, rfl, S.tape, by omega, fun plug H5 b5 t5 hplug => ?_⟩
      have hplug' : plug < n := by omega
      have S5 := S.draw ra b5 t5
      -- slots = []
      refine ⟨Nat.zero_le _, fun sl hsl => ?_⟩
      have hslH : H sl = none := S5.but.free t5 hsl
      obtain ⟨sa, sb⟩ := t5.ne hsl
      obtain ⟨vs5, rows5, e5, _⟩ := S5.rows
      have srl : sl ≠ rl := (ne_of_none e5 hsl).symm
      have S6 := S5.same (same_new hsl (o := .lst []))
      have e6 : (upd H5 sl (.lst [])) sl = some (.lst []) := upd_same
      -- for j in range([0, 1, 1, 2, 2, 3][draw(tape, 6)])
      refine ⟨(by show 6 ≤ sizeLine; decide), fun ml hml => ?_⟩
      have S7 := S6.same (same_new hml (o := .lst [V.int 0, .int 1, .int 1, .int 2, .int 2, .int 3]))
      have e7 := same_new hml (o := .lst [V.int 0, .int 1, .int 1, .int 2, .int 2, .int 3]) _ _ e6
      refine ⟨_, rfl, a, b, 6, rfl, S7.tape, by decide, fun q2 H8 b8 t8 hq2 => ?_⟩
      have S8 := S7.draw ra b8 t8
      have e8 := b8 _ _ e7 sa
      obtain ⟨M, hM, hat⟩ := slot_menu q2 (by omega)
      obtain ⟨ma, mb⟩ := (S6.tape).ne hml
      refine ⟨ml, _, _, nv M, rfl, rfl, SqL.of (b8 _ _ upd_same ma), hat, M, rfl, by omega, by omega, for_range (n := ((M : Int)).toNat) (fun j σ H' => FamSt H H' a b rl n i ∧ ∃ (ss : List Nat) (y11 y12 : Option V), H' sl = some (.lst (ss.map nv)) ∧ ss.length ≤ j ∧ (∀ s ∈ ss, s < n) ∧
          σ = [some (.ref a), some (.int 4), some (.int 10), some (.int 0), some (nv n), some (nv shape), some (nv mode), some (.ref rl), some (nv i), some (nv plug), some (.ref sl), y11, y12, y13, none, none])
          ⟨S8, [], y11, y12, e8, Nat.le_refl _, fun s hs => absurd hs List.not_mem_nil, ?_⟩ ?_ ?_⟩
      · show [some (V.ref a), some (.int 4), some (.int 10), some (.int 0), some (nv n), some (nv shape), some (nv mode), some (.ref rl), some (.int (0 + (i : Int))), some (nv plug), some (.ref sl), y11, y12, y13, none, none] = _
        rw [Int.zero_add]
      · rintro j σ H' hj ⟨S, ss, y11, y12, es, hss, hsn, rfl⟩
        -- goal = draw(tape, count)
        refine ⟨_, rfl, _, rfl, a, b, n, rfl, S.tape, by omega, fun goal H9 b9 t9 hgoal => ?_⟩
        have S9 := S.draw ra b9 t9
        have e9 := b9 _ _ es sa
        -- if shape == 0
        refine ⟨fun σ' H' => ∃ (g : Int) (y11 : Option V), FamSt H H' a b rl n i ∧ H' sl = some (.lst (ss.map nv)) ∧
          σ' = [some (.ref a), some (.int 4), some (.int 10), some (.int 0), some (nv n), some (nv shape), some (nv mode), some (.ref rl), some (nv i), some (nv plug), some (.ref sl), y11, some (.int g), y13, none, none], ?_, ?_⟩
        · refine ⟨_, rfl, rfl, _, rfl, ite2 (fun _ => ?_) (fun _ => ?_)⟩
          · exact ⟨_, rfl, _, _, rfl, rfl, _, rfl, _, _, rfl, rfl, _, _, S9, e9, rfl⟩
          · exact ⟨_, _, S9, e9, rfl⟩
        rintro σ' H' ⟨g, y11, S, es, rfl⟩
        -- if shape == 1
        refine ⟨fun σ' H' => ∃ (g : Int) (y11 : Option V), FamSt H H' a b rl n i ∧ H' sl = some (.lst (ss.map nv)) ∧
          σ' = [some (.ref a), some (.int 4), some (.int 10), some (.int 0), some (nv n), some (nv shape), some (nv mode), some (.ref rl), some (nv i), some (nv plug), some (.ref sl), y11, some (.int g), y13, none, none], ?_, ?_⟩
        · refine ⟨_, rfl, rfl, _, rfl, ite2 (fun _ => ?_) (fun _ => ?_)⟩
          · exact ⟨_, rfl, _, _, rfl, rfl, _, rfl, _, _, rfl, rfl, _, _, S, es, rfl⟩
          · exact ⟨_, _, S, es, rfl⟩
        rintro σ' H' ⟨g, y11, S, es, rfl⟩
        -- if 0 <= goal and goal < count
        have stay : FamSt H H' a b rl n i ∧ ∃ (ss' : List Nat) (z11 z12 : Option V), H' sl = some (.lst (ss'.map nv)) ∧ ss'.length ≤ j + 1 ∧ (∀ s ∈ ss', s < n) ∧
            [some (V.ref a), some (.int 4), some (.int 10), some (.int 0), some (nv n), some (nv shape), some (nv mode), some (.ref rl), some (nv i), some (nv plug), some (.ref sl), y11, some (.int g), y13, none, none] =
            [some (V.ref a), some (.int 4), some (.int 10), some (.int 0), some (nv n), some (nv shape), some (nv mode), some (.ref rl), some (nv i), some (nv plug), some (.ref sl), z11, z12, y13, none, none] :=
          ⟨S, ss, _, _, es, by omega, hsn, rfl⟩
        refine ⟨_, rfl, _, _, rfl, rfl, _, rfl, ite2 (fun c0 => ?_) (fun _ => iteF stay)⟩
        refine ⟨_, rfl, _, rfl, _, _, rfl, rfl, _, rfl, ite2 (fun c1 => ?_) (fun _ => stay)⟩
        have d0 : (0 : Int) ≤ g := of_decide_eq_true c0
        have d1 : g < (n : Int) := of_decide_eq_true c1
        refine ⟨_, rfl, .inl ⟨rfl, _, SqL.of es⟩, _, rfl, sl, _, _, rfl, rfl, es, ?_, ?_⟩
        · rw [List.length_map]
          exact small1000 (by omega)
        refine ⟨S.upd hslH sa sb srl es, ss ++ [g.toNat], _, _, ?_, ?_, fun s hs => ?_, rfl⟩
        · rw [upd_same, List.map_append]
          have eg : V.int g = nv g.toNat := congrArg V.int (by omega)
          rw [eg]
          rfl
        · rw [List.length_append, List.length_singleton]
          omega
        · rcases List.mem_append.mp hs with q | q
          · exact hsn s q
          · have z : s = g.toNat := by simpa using q
            omega
      · rintro σ H' ⟨S, ss, y11, y12, es, hss, hsn, rfl⟩
        have hss3 : ss.length ≤ 3 := by omega
        -- row = (plug, tuple(slots), price(tape, mode, low))
        refine ⟨_, rfl, _, rfl, sl, _, rfl, .inl ⟨SqL.of es, fun st hst => ?_⟩⟩
        have S9 := S.same (same_new hst (o := .tup (ss.map nv)))
        refine ⟨_, rfl, _, rfl, _, rfl, a, b, mode, rfl, S9.tape, hm4, fun pr H10 b10 t10 hpr => ?_⟩
        have S10 := S9.draw ra b10 t10
        obtain ⟨sta, stb⟩ := S.tape.ne hst
        have est := b10 _ _ (upd_same (H := H') (a := st) (o := .tup (ss.map nv))) sta
        refine ⟨(by show 3 ≤ sizeLine; decide), fun row hrow => ?_⟩
        have S11 := S10.same (same_new hrow (o := .tup [nv plug, .ref st, ov pr]))
        have hrw : RowAt (upd H10 row (.tup [nv plug, .ref st, ov pr])) (.ref row) ⟨plug, ss, pr⟩ := ⟨row, st, rfl, upd_same, same_new hrow _ _ est⟩
        have hgr : GoodRow n ⟨plug, ss, pr⟩ := ⟨hplug', hsn, hss3, hpr⟩
        -- if rows and draw(tape, 8) == 0
        refine ⟨fun σ' H' => ∃ (v : V) (r : Vrt), FamSt H H' a b rl n i ∧ RowAt H' v r ∧ GoodRow n r ∧
          σ' = [some (.ref a), some (.int 4), some (.int 10), some (.int 0), some (nv n), some (nv shape), some (nv mode), some (.ref rl), some (nv i), some (nv plug), some (.ref sl), y11, y12, some v, none, none], ?_, ?_⟩
        · obtain ⟨vs, rows, ev, hRv, hlen, hgood⟩ := S11.rows
          refine ⟨_, rfl, _, .inl ⟨vs, SqL.of ev, rfl⟩, ite2 (fun c => ?_) (fun _ => iteF ⟨_, _, S11, hrw, hgr, rfl⟩)⟩
          refine ⟨_, rfl, a, b, 8, rfl, S11.tape, by decide, fun q3 H12 b12 t12 _ => ?_⟩
          have S12 := S11.draw ra b12 t12
          have hrw12 := hrw.mono (S11.tape.tups b12)
          refine ⟨rfl, _, rfl, ite2 (fun _ => ?_) (fun _ => ⟨_, _, S12, hrw12, hgr, rfl⟩)⟩
          have ev12 := b12 _ _ ev ra
          have hne : 0 < vs.length := by
            cases vs with
            | nil => exact absurd c (by decide)
            | cons v vs => exact Nat.succ_pos _
          refine ⟨_, rfl, _, rfl, _, rfl, rl, vs, rfl, .inl (SqL.of ev12), a, b, vs.length, rfl, S12.tape, by rw [hRv.1]; omega, fun q4 H13 b13 t13 hq4 => ?_⟩
          have S13 := S12.draw ra b13 t13
          have hRv13 := (hRv.mono (S11.tape.tups b12)).mono (S12.tape.tups b13)
          have hlt : q4 < rows.length := by
            rw [← hRv.1]
            omega
          obtain ⟨v4, hv4, hra⟩ := hRv13.2 q4 _ (List.getElem?_eq_getElem hlt)
          exact ⟨rl, vs, _, v4, rfl, rfl, SqL.of (b13 _ _ ev12 ra), atI_nat hv4, _, _, S13, hra, hgood _ (List.getElem_mem hlt), rfl⟩
        rintro σ' H' ⟨v, r, S, hrv, hgd, rfl⟩
        -- rows.append(row)
        obtain ⟨vs, rows, ev, hRv, hlen, hgood⟩ := S.rows
        refine ⟨_, rfl, .inl ⟨rfl, _, SqL.of ev⟩, _, rfl, rl, _, _, rfl, rfl, ev, ?_, ?_⟩
        · rw [hRv.1]
          exact small1000 (by omega)
        refine ⟨S.put hrlH ra rb (hRv.snoc hrv) (by rw [List.length_append, List.length_singleton]; omega) fun q hq => ?_, _, _, _, _, _, _, rfl⟩
        rcases List.mem_append.mp hq with z | z
        · exact hgood q z
        · have e : q = r := by simpa using z
          rw [e]
          exact hgd
    · rintro σ H' ⟨S, y8, y9, y10, y11, y12, y13, rfl⟩
      have S10 : FamSt H H' a b rl n 10 := S.more (by omega)
      -- if draw(tape, 2) == 0
      refine ⟨fun σ' H' => FamSt H H' a b rl n 14 ∧ ∃ y14 : Option V, σ' = [some (.ref a), some (.int 4), some (.int 10), some (.int 0), some (nv n), some (nv shape), some (nv mode), some (.ref rl), y8, y9, y10, y11, y12, y13, y14, none], ?_, ?_⟩
      · refine ⟨_, rfl, a, b, 2, rfl, S10.tape, by decide, fun q3 H12 b12 t12 _ => ?_⟩
        have S12 := S10.draw ra b12 t12
        refine ⟨rfl, _, rfl, ite2 (fun _ => ?_) (fun _ => ⟨S12.more (by decide), _, rfl⟩)⟩
        refine ⟨_, rfl, n, rfl, by omega, by omega, for_range (n := ((n : Int)).toNat) (fun i σ H' => FamSt H H' a b rl n (10 + i) ∧ ∃ y14 : Option V, σ = [some (.ref a), some (.int 4), some (.int 10), some (.int 0), some (nv n), some (nv shape), some (nv mode), some (.ref rl), y8, y9, y10, y11, y12, y13, y14, none])
          ⟨S12, none, rfl⟩ ?_ ?_⟩
        · rintro i σ H' hi ⟨S, y14, rfl⟩
          have hin : i < n := by omega
          obtain ⟨vs, rows, ev, hRv, hlen, hgood⟩ := S.rows
          have hrm10 : rows.length ≤ 14 := by omega
          refine ⟨_, rfl, .inl ⟨rfl, _, SqL.of ev⟩, _, rfl, _, rfl, rl, vs, rfl, .inl (SqL.of ev), _, _, rfl, rfl, a, b, vs.length + 1, rfl, S.tape, by rw [hRv.1]; omega, fun q4 H13 b13 t13 hq4 => ?_⟩
          have S13 := S.draw ra b13 t13
          have hRv13 := hRv.mono (S.tape.tups b13)
          have ev13 := b13 _ _ ev ra
          -- (state, (), price)
          refine ⟨_, rfl, Nat.zero_le _, fun st hst => ?_⟩
          have S14 := S13.same (same_new hst (o := .tup []))
          refine ⟨_, rfl, _, rfl, _, rfl, a, b, mode, rfl, S14.tape, hm4, fun pr H15 b15 t15 hpr => ?_⟩
          have S15 := S14.draw ra b15 t15
          obtain ⟨sta, stb⟩ := S13.tape.ne hst
          have est := b15 _ _ (upd_same (H := H13) (a := st) (o := .tup [])) sta
          have hRv15 := (hRv13.mono (Tups.of (same_new hst))).mono (S14.tape.tups b15)
          have ev15 := b15 _ _ (same_new hst (o := .tup []) _ _ ev13) ra
          refine ⟨(by show 3 ≤ sizeLine; decide), fun row hrow => ?_⟩
          have s16 := same_new hrow (o := .tup [V.int (0 + (i : Int)), .ref st, ov pr])
          have S16 := S15.same s16
          have hrw : RowAt (upd H15 row (.tup [V.int (0 + (i : Int)), .ref st, ov pr])) (.ref row) ⟨i, [], pr⟩ := ⟨row, st, rfl, by rw [upd_same, Int.zero_add], s16 _ _ est⟩
          have hgr : GoodRow n ⟨i, [], pr⟩ := ⟨hin, fun s hs => absurd hs List.not_mem_nil, Nat.zero_le _, hpr⟩
          have hvl : vs.length ≤ 14 := by rw [hRv.1]; exact hrm10
          refine ⟨rl, vs, _, _, rfl, rfl, s16 _ _ ev15, small1000 (by omega), by omega, by omega, ?_⟩
          rw [Int.toNat_natCast]
          refine ⟨S16.put hrlH ra rb ((hRv15.mono (Tups.of s16)).insert hrw q4) ?_ fun q hq => ?_, _, rfl⟩
          · rw [List.length_append, List.length_append, List.length_take, List.length_drop, List.length_singleton]
            omega
          · rcases List.mem_append.mp hq with z | z
            · rcases List.mem_append.mp z with z | z
              · exact hgood q (List.mem_of_mem_take z)
              · have e : q = ⟨i, [], pr⟩ := by simpa using z
                rw [e]
                exact hgr
            · exact hgood q (List.mem_of_mem_drop z)
        · rintro σ H' ⟨S, y14, rfl⟩
          exact ⟨S.more (by omega), _, rfl⟩
      rintro σ' H' ⟨S, y14, rfl⟩
      -- roots = [state for state in range(count) if draw(tape, 3) > 0]
      refine ⟨_, rfl, n, rfl, by omega, by omega, fun rt hrt => ?_⟩
      have hrtH : H rt = none := S.but.free S.tape hrt
      obtain ⟨rta, rtb⟩ := S.tape.ne hrt
      obtain ⟨vsx, rowsx, ex, _⟩ := S.rows
      have rtrl : rt ≠ rl := (ne_of_none ex hrt).symm
      refine lc_range (n := ((n : Int)).toNat) (fun i H' => FamSt H H' a b rl n 14 ∧ ∃ xs : List V, H' rt = some (.lst xs) ∧ xs.length ≤ i) ⟨S.same (same_new hrt), [], upd_same, Nat.le_refl _⟩ ?_ ?_
      · rintro i H' hi ⟨S, xs, ex, hxs⟩
        refine ⟨rfl, _, rfl, a, b, 3, rfl, S.tape, by decide, fun q5 H13 b13 t13 _ => ?_⟩
        have S13 := S.draw ra b13 t13
        have ex13 := b13 _ _ ex rta
        refine ⟨_, _, rfl, rfl, _, rfl, ite2 (fun _ => ?_) (fun _ => ⟨S13, xs, ex13, by omega⟩)⟩
        refine ⟨_, rfl, xs, ex13, small1000 (by omega), S13.upd hrtH rta rtb rtrl ex13, _, upd_same, ?_⟩
        rw [List.length_append, List.length_singleton]
        omega
      · rintro H' ⟨S, xs, ex, hxs⟩
        -- if not roots and draw(tape, 8) > 0
        refine ⟨fun σ' H' => FamSt H H' a b rl n 14 ∧ ∃ (y14 : Option V) (r' : Addr) (xs : List V), H' r' = some (.lst xs) ∧ σ' = [some (.ref a), some (.int 4), some (.int 10), some (.int 0), some (nv n), some (nv shape), some (nv mode), some (.ref rl), y8, y9, y10, y11, y12, y13, y14, some (.ref r')], ?_, ?_⟩
        · refine ⟨_, rfl, _, .inl ⟨xs, SqL.of ex, rfl⟩, ite2 (fun _ => ?_) (fun _ => iteF ⟨S, _, rt, xs, ex, rfl⟩)⟩
          refine ⟨_, rfl, a, b, 8, rfl, S.tape, by decide, fun q5 H13 b13 t13 _ => ?_⟩
          have S13 := S.draw ra b13 t13
          have ex13 := b13 _ _ ex rta
          refine ⟨_, _, rfl, rfl, _, rfl, ite2 (fun _ => ?_) (fun _ => ⟨S13, _, rt, xs, ex13, rfl⟩)⟩
          refine ⟨_, rfl, _, rfl, a, b, n, rfl, S13.tape, by omega, fun q6 H14 b14 t14 _ => ?_⟩
          refine ⟨(by show 1 ≤ sizeLine; decide), fun r' hr' => ?_⟩
          exact ⟨(S13.draw ra b14 t14).same (same_new hr'), _, r', _, upd_same, rfl⟩
        rintro σ' H' ⟨S, y14, r', xs, ex, rfl⟩
        obtain ⟨vs, rows, ev, hRv, hlen, hgood⟩ := S.rows
        -- return (count, tuple(roots), tuple(rows))
        refine ⟨_, rfl, _, rfl, r', xs, rfl, .inl ⟨SqL.of ex, fun t1 ht1 => ?_⟩⟩
        have s1 := same_new ht1 (o := .tup xs)
        refine ⟨_, rfl, rl, vs, rfl, .inl ⟨SqL.of (s1 _ _ ev), fun t2 ht2 => ?_⟩⟩
        have s2 := same_new ht2 (o := .tup vs)
        refine ⟨(by show 3 ≤ sizeLine; decide), fun fa hfa => ?_⟩
        have s3 := same_new hfa (o := .tup [nv n, .ref t1, .ref t2])
        have SE := S.same (s1.trans (s2.trans s3))
        refine k fa n rows _ SE.but SE.tape ⟨t1, t2, vs, upd_same, s3 _ _ upd_same, hRv.mono (Tups.of (s1.trans (s2.trans s3)))⟩ ?_
        exact ⟨hn1, hn4, hlen, fun r hr => (hgood r hr).plug, fun r hr => (hgood r hr).slot, fun r hr => (hgood r hr).few, fun r hr => (hgood r hr).pr⟩
end
end KW
set_option Elab.async false
set_option linter.all false
set_option maxRecDepth 100000
set_option maxHeartbeats 4000000
/-! _law_size, _law_sizes, _law_priced. -/
namespace KW
open PySem PySem.Spec PyProof.Rows L2 KR K30

theorem sumS_has_none {v : List Sz} {u : Nat} (h : sAt v u = none) : ∀ {ss : List Nat}, u ∈ ss → sumS v ss = none
  | s :: ss, hu => by
    unfold sumS
    rcases List.mem_cons.mp hu with e | e
    · subst e
      rw [h]
    · rw [sumS_has_none h e]
      cases sAt v s <;> rfl
theorem sumS_take {v : List Sz} {ss : List Nat} {i s x y : Nat} (hs : ss[i]? = some s) (hx : sumS v (ss.take i) = some x) (hy : sAt v s = some y) : sumS v (ss.take (i + 1)) = some (x + y) := by
  rw [List.take_add_one, hs]
  have h1 : sumS v [s] = some (y + 0) := sumS_cons (b := 0) hy rfl
  exact sumS_append h1 hx
theorem sAt_map {z : List Sz} {s : Nat} (h : s < z.length) : atI (z.map ov) (s : Int) = some (ov (sAt z s)) := by
  have e : z[s]? = some (sAt z s) := by
    unfold sAt
    rw [List.getElem?_eq_getElem h]
    rfl
  exact at_map e
theorem ov_non {x : Option Nat} : decide (ov x = .non) = x.isNone := by
  cases x with
  | none => rfl
  | some x => exact decide_eq_false (fun e => nomatch e)

abbrev s_law_size : Stmt := top 18
abbrev N_law_size : List Str := ["_law_variant", "_law_sizes_here", "_law_size_here", "_law_state"]
theorem sc_law_size : FnScope N_law_size ["_law_variant", "_law_sizes_here"] (defScope s_law_size) := ⟨rfl, rfl, rfl, by decide +kernel, rfl, by decide +kernel, by decide +kernel⟩
def sp_law_size : Sp := fun vs H Q _ => ∃ (v : V) (l : Addr) (r : Vrt) (z : List Sz), vs = [v, .ref l] ∧ RowAt H v r ∧ H l = some (.lst (z.map ov)) ∧ (∀ s ∈ r.slots, s < z.length) ∧ Q (ov (sz z r)) H
section
variable {P : Program} {w : World} {K : PySem.W.Frag} {mg : Str → Option Value} {base : Heap}
theorem ok_law_size {f : Addr} {fd : FuncData} (D : DefIs K mg "_law_size" s_law_size ["_law_variant", "_law_sizes_here"] f fd) (T : Txt mg) : FnOk P w K mg base CX0 1 f fd ["_law_variant", "_law_sizes_here"] sp_law_size := by
  refine D.fn.ok sc_law_size (fun vs H Q E h => ?_) (fun cdv A outer s H vs Q E hr h => ?_)
  · obtain ⟨v, l, r, z, rfl, _⟩ := h
    rfl
  · obtain ⟨v, l, ⟨plug, slots, price⟩, z, rfl, ⟨a, b, rfl, h1, h2⟩, hl, hs, k⟩ := h
    refine ⟨_, (pss_cons (ps_if (pt_cmpR op_isN (pe_ix ix_tup (pv 0) pe_int (fun _ _ => rfl)) pe_non (nomark _))
    (pss_one (ps_ret pe_non))
    pss_nil)
    (pss_cons (ps_set (i := 2) sc_law_size.nd rfl (Or.inl rfl) pe_int)
    (pss_cons (ps_for PassesOwn.never rfl (pi_tup (pe_ix ix_tup (pv 0) pe_int (fun _ _ => rfl))) (pg_name (i := 3) sc_law_size.nd rfl (Or.inl rfl))
    (pss_cons (ps_if (pt_cmpR op_isN (pe_ix ix_list (pv 1) (pv 3) (fun _ _ => rfl)) pe_non (nomark _))
      (pss_one (ps_ret pe_non))
      pss_nil)
      (pss_one (ps_set (i := 2) sc_law_size.nd rfl (Or.inl rfl) (pe_op op_add (pv 2) (pe_ix ix_list (pv 1) (pv 3) (fun _ _ => rfl)))))))
    (pss_one (ps_ret (pv 2)))))), ?_⟩
    refine ⟨_, rfl, a, _, 2, _, rfl, rfl, SqT.of h1, atI_nat (j := 2) rfl, rfl, _, rfl, ?_⟩
    cases price with
    | none => exact iteT k
    | some p =>
      refine iteF ?_
      refine ⟨_, rfl, a, _, 1, _, rfl, rfl, SqT.of h1, atI_nat (j := 1) rfl, b, rfl, ⟨_, SqT.of h2⟩, for_tup (K := K) (a := b) (xs := slots.map nv) (fun i σ H' => H' = H ∧ ∃ (x : Nat) (y : Option V), sumS z (slots.take i) = some x ∧
        σ = [some (.ref a), some (.ref l), some (nv (1 + x)), y]) ⟨rfl, 0, none, rfl, rfl⟩ (fun i σ H' _ hP => by rw [hP.1]; exact SqT.of h2) ?_ ?_⟩
      · rintro i y σ H' hi ⟨rfl, x, y3, hx, rfl⟩
        obtain ⟨st, hst, rfl⟩ := map_get hi
        have hm : st ∈ slots := List.mem_of_getElem? hst
        have hat := sAt_map (hs st hm)
        refine ⟨_, rfl, _, rfl, l, _, _, _, rfl, rfl, SqL.of hl, hat, rfl, _, rfl, ?_⟩
        cases e : sAt z st with
        | none =>
          refine iteT ?_
          have q : sz z ⟨plug, slots, some p⟩ = none := by
            unfold sz
            dsimp only
            rw [sumS_has_none e hm]
          rw [q] at k
          exact k
        | some y =>
          refine iteF ?_
          rw [e] at hat
          refine ⟨_, rfl, _, rfl, _, rfl, l, _, _, _, rfl, rfl, SqL.of hl, hat, _, _, rfl, rfl, ?_⟩
          refine ⟨rfl, x + y, some (nv st), sumS_take hst hx e, ?_⟩
          have e1 : ((1 + x : Nat) : Int) + (y : Int) = ((1 + (x + y) : Nat) : Int) := by omega
          show [some (V.ref a), some (.ref l), some (V.int (((1 + x : Nat) : Int) + (y : Int))), some (nv st)] = _
          rw [e1]
      · rintro σ H' ⟨rfl, x, y3, hx, rfl⟩
        rw [List.length_map, List.take_length] at hx
        have q : sz z ⟨plug, slots, some p⟩ = some (x + 1) := sz_of rfl hx
        rw [q] at k
        refine ⟨_, rfl, ?_⟩
        rw [Nat.add_comm 1 x]
        exact k
end

/-! ### _law_sizes -/
abbrev s_law_sizes : Stmt := top 19
abbrev N_law_sizes : List Str := ["_law_family_here", "_law_sizes_here", "_law_turn", "_law_changed", "_law_variant", "_law_size_here", "_law_state"]
theorem sc_law_sizes : FnScope N_law_sizes ["_law_family_here"] (defScope s_law_sizes) := ⟨rfl, rfl, rfl, by decide +kernel, rfl, by decide +kernel, by decide +kernel⟩
def sp_law_sizes : Sp := fun vs H Q _ => ∃ (f : Addr) (n : Nat) (rows : List Vrt), vs = [.ref f] ∧ FamAt H f n rows ∧ Fine n rows ∧ ∀ (p : Addr) (z : List Sz) H', Same H H' → H p = none → H' p = some (.lst (z.map ov)) → emb z = leastS n rows → Q (.ref p) H'
theorem start_emb {n : Nat} {s : Nat} : at' (emb (List.replicate n none)) s = none := by
  unfold emb
  rw [List.map_replicate]
  exact at_repl n s
section
variable {P : Program} {w : World} {K : PySem.W.Frag} {mg : Str → Option Value} {base : Heap}
theorem ok_law_sizes {f f1 : Addr} {fd fd1 : FuncData} (D : DefIs K mg "_law_sizes" s_law_sizes ["_law_family_here"] f fd) (T : Txt mg) (D_law_size : DefIs K mg "_law_size" s_law_size ["_law_variant", "_law_sizes_here"] f1 fd1) : FnOk P w K mg base CX0 2 f fd ["_law_family_here"] sp_law_sizes := by
  have G_law_size : FnOk P w K mg base CX0 1 f1 fd1 ["_law_variant", "_law_sizes_here"] sp_law_size := ok_law_size D_law_size T
  refine D.fn.ok sc_law_sizes (fun vs H Q E h => ?_) (fun cdv A outer s H vs Q E hr h => ?_)
  · obtain ⟨f, n, rows, rfl, _⟩ := h
    rfl
  · obtain ⟨f, n, rows, rfl, hF, F, k⟩ := h
    obtain ⟨rt, vt, vs, hf, hvt, hR⟩ := id hF
    have n4 := F.n4
    have hp : Plugs n rows := F.plug
    refine ⟨_, (pss_cons (ps_setLc (i := 1) (own := [("_law_state", 6)]) (g := gName 6) (tt := tYes) rfl sc_law_sizes.nd rfl rfl (sw_true rfl rfl rfl (by decide +kernel)) (pi_range1 (by rfl) T.b_range (pa_cons (pe_ix ix_tup (pv 0) pe_int (fun _ _ => rfl)) pa_nil)) (blkOk_by (own := [("_law_state", 6)]) (N := N_law_sizes) (sc := defScope s_law_sizes) (by decide +kernel)) (fun _ _ _ _ _ => pg_name (i := 6) sc_law_sizes.nd rfl (Or.inl rfl)) (fun _ _ _ _ _ => pts_nil) (fun _ _ _ _ _ => pe_non))
    (pss_cons (ps_for PassesOwn.never rfl (pi_range1 (by rfl) T.b_range (pa_cons (pe_op op_add (pe_ix ix_tup (pv 0) pe_int (fun _ _ => rfl)) pe_int) pa_nil)) (pg_name (i := 2) sc_law_sizes.nd rfl (Or.inl rfl))
    (pss_cons (ps_set (i := 3) sc_law_sizes.nd rfl (Or.inl rfl) pe_bl)
      (pss_cons (ps_for PassesOwn.never rfl (pi_tup (pe_ix ix_tup (pv 0) pe_int (fun _ _ => rfl))) (pg_name (i := 4) sc_law_sizes.nd rfl (Or.inl rfl))
      (pss_cons (ps_set (i := 5) sc_law_sizes.nd rfl (Or.inl rfl) (pe_call G_law_size (hr.mono (by decide)) (by rfl) D_law_size.mg D_law_size.fn.kp D_law_size.bd .nil pass0 (pa_cons (pv 4) (pa_cons (pv 1) pa_nil))))
        (pss_one (ps_if (PW.pt (pw_and (pt_cmpR op_notN (pv 5) pe_non (nomark _)) (pw_and1 (PW.pt (pw_or (pt_cmpR op_isN (pe_ix ix_list (pv 1) (pe_ix ix_tup (pv 4) pe_int (fun _ _ => rfl)) (fun _ _ => rfl)) pe_non (nomark _)) (pw_or1 (pt_cmpR op_lt (pv 5) (pe_ix ix_list (pv 1) (pe_ix ix_tup (pv 4) pe_int (fun _ _ => rfl)) (fun _ _ => rfl)) (nomark _))))))))
        (pss_cons (ps_asg (pv 5) (pg_sub (pv 1) (pe_ix ix_tup (pv 4) pe_int (fun _ _ => rfl)) set_list))
          (pss_one (ps_set (i := 3) sc_law_sizes.nd rfl (Or.inl rfl) pe_bl)))
        pss_nil))))
      (pss_one (ps_if (pt_not (pt_truth (pv 3) (by intro _; rfl)))
      (pss_one ps_break)
      pss_nil)))))
    (pss_one (ps_ret (pv 1))))), ?_⟩
    -- sizes = [None for state in range(family[0])]
    refine ⟨_, rfl, f, _, 0, _, rfl, rfl, SqT.of hf, atI_nat (j := 0) rfl, n, rfl, by omega, by omega, fun l hl => ?_⟩
    refine lc_range (n := ((n : Int)).toNat) (fun i H' => Same H H' ∧ H' l = some (.lst (List.replicate i .non))) ⟨same_new hl, upd_same⟩ ?_ ?_
    · rintro i H' hi ⟨sm, e⟩
      refine ⟨rfl, ?_⟩
      refine ⟨_, e, ?_, same_upd sm hl, ?_⟩
      · rw [List.length_replicate]
        exact small1000 (by omega)
      · rw [upd_same, ← List.replicate_succ']
    rintro H1 ⟨s1, e1⟩
    rw [Int.toNat_natCast] at e1
    have e1' : H1 l = some (.lst ((List.replicate n (none : Sz)).map ov)) := by
      rw [List.map_replicate]
      exact e1
    -- what is returned
    have fin : ∀ (z : List Sz) H', Same H H' → H' l = some (.lst (z.map ov)) → emb z = leastS n rows → Q (.ref l) H' := fun z H' sm e ez => k l z H' sm hl e ez
    refine ⟨_, rfl, f, _, 0, _, rfl, rfl, SqT.of (s1 _ _ hf), atI_nat (j := 0) rfl, _, _, rfl, rfl, n + 1, rfl, by omega, by omega, for_range (n := ((n : Int) + 1).toNat) (fun i σ H' => ∃ (z : List Sz) (y2 y3 y4 y5 : Option V), Same H H' ∧ H' l = some (.lst (z.map ov)) ∧
        z.length = n ∧ LE (leastS n rows) (emb z) ∧ LE (emb z) (iter n (rows0 rows) i) ∧ σ = [some (.ref f), some (.ref l), y2, y3, y4, y5, none])
        ⟨List.replicate n none, none, none, none, none, s1, e1', List.length_replicate, fun s => by rw [start_emb]; exact ole_none, fun s => by show ole _ (at' (List.replicate n none) s); rw [at_repl]; exact ole_none, rfl⟩ ?_ ?_⟩
    · rintro i σ H' hi ⟨u, y2, y3, y4, y5, sm, e, hul, hlow, hup, rfl⟩
      -- for variant in family[2]
      refine ⟨_, rfl, f, _, 2, _, rfl, rfl, SqT.of (sm _ _ hf), atI_nat (j := 2) rfl, vt, rfl, ⟨_, SqT.of (sm _ _ hvt)⟩, for_tup (K := K) (a := vt) (xs := vs) (fun j σ H' => ∃ (v : List Sz) (c : Bool) (y4 y5 : Option V), Same H H' ∧ H' l = some (.lst (v.map ov)) ∧ InTurn n rows u v j ∧ (c = false → v = u) ∧
        σ = [some (.ref f), some (.ref l), some (.int (0 + (i : Int))), some (.bl c), y4, y5, none])
        ⟨u, false, y4, y5, sm, e, InTurn.start hul hlow, fun _ => rfl, rfl⟩ (fun j σ H' _ hP => by obtain ⟨_, _, _, _, q, _⟩ := hP; exact SqT.of (q _ _ hvt)) ?_ ?_⟩
      · rintro j y σ H' hj ⟨v, c, y4, y5, sm, e, I, hc, rfl⟩
        obtain ⟨r, hr', ha⟩ := hR.get hj
        have ha' := ha.mono (Tups.of sm)
        obtain ⟨a, b, rfl, h1, h2⟩ := id ha'
        have hrm : r ∈ rows := List.mem_of_getElem? hr'
        have hpl : r.plug < v.length := by rw [I.len]; exact F.plug r hrm
        -- size_here = _law_size(variant, sizes)
        refine ⟨_, rfl, _, rfl, _, l, r, v, rfl, ha', e, fun s hs => by rw [I.len]; exact F.slot r hrm s hs, ?_⟩
        have hat := sAt_map hpl
        have wte := wt_emb v r
        have ate := at_emb v r.plug
        have stay : ole (at' (emb v) r.plug) (wt (emb v) (zero r)) → ∃ (v' : List Sz) (c' : Bool) (z4 z5 : Option V), Same H H' ∧ H' l = some (.lst (v'.map ov)) ∧ InTurn n rows u v' (j + 1) ∧ (c' = false → v' = u) ∧
            [some (V.ref f), some (.ref l), some (.int (0 + (i : Int))), some (.bl c), some (.ref a), some (ov (sz v r)), none] = [some (V.ref f), some (.ref l), some (.int (0 + (i : Int))), some (.bl c'), z4, z5, none] :=
          fun o => ⟨v, c, _, _, sm, e, I.keep hr' o, hc, rfl⟩
        have store : ∀ m, sz v r = some m → ole (some (0, m)) (at' (emb v) r.plug) → ∃ (v' : List Sz) (c' : Bool) (z4 z5 : Option V), Same H (upd H' l (.lst ((v.map ov).set r.plug (ov (some m))))) ∧ (upd H' l (.lst ((v.map ov).set r.plug (ov (some m))))) l = some (.lst (v'.map ov)) ∧ InTurn n rows u v' (j + 1) ∧ (c' = false → v' = u) ∧
            [some (V.ref f), some (.ref l), some (.int (0 + (i : Int))), some (.bl true), some (.ref a), some (ov (some m)), none] = [some (V.ref f), some (.ref l), some (.int (0 + (i : Int))), some (.bl c'), z4, z5, none] :=
          fun m em o => ⟨v.set r.plug (some m), true, _, _, same_upd sm hl, by rw [upd_same, List.map_set], I.set hp hr' em o, (fun q => nomatch q), rfl⟩
        refine ⟨_, rfl, rfl, _, rfl, ?_⟩
        cases em : sz v r with
        | none =>
          rw [em] at stay wte
          refine iteF (iteF (stay ?_))
          rw [wte]
          exact ole_none
        | some m =>
          rw [em] at stay wte
          refine iteT ?_
          refine ⟨_, rfl, _, rfl, a, _, 0, _, rfl, rfl, SqT.of h1, atI_nat (j := 0) rfl, l, _, _, _, rfl, rfl, SqL.of e, hat, rfl, _, rfl, ?_⟩
          cases es : sAt v r.plug with
          | none =>
            rw [es] at ate hat
            refine iteT (iteT ?_)
            exact ⟨_, rfl, _, rfl, _, rfl, a, _, 0, _, rfl, rfl, SqT.of h1, atI_nat (j := 0) rfl, l, _, _, r.plug, rfl, rfl, e, ix_nat (by rw [List.length_map]; exact hpl), store m em (by rw [ate]; exact ole_none)⟩
          | some y =>
            rw [es] at ate hat
            refine iteF ?_
            refine ⟨_, rfl, _, rfl, _, rfl, a, _, 0, _, rfl, rfl, SqT.of h1, atI_nat (j := 0) rfl, l, _, _, _, rfl, rfl, SqL.of e, hat, _, _, rfl, rfl, _, rfl, ?_⟩
            by_cases hlt : m < y
            · rw [decide_eq_true (show (m : Int) < (y : Int) by omega)]
              refine iteT ?_
              refine ⟨_, rfl, _, rfl, _, rfl, a, _, 0, _, rfl, rfl, SqT.of h1, atI_nat (j := 0) rfl, l, _, _, r.plug, rfl, rfl, e, ix_nat (by rw [List.length_map]; exact hpl), store m em ?_⟩
              rw [ate]
              exact .inr ⟨rfl, Nat.le_of_lt hlt⟩
            · rw [decide_eq_false (show ¬ (m : Int) < (y : Int) by omega)]
              refine iteF (stay ?_)
              rw [ate, wte]
              exact .inr ⟨rfl, by show y ≤ m; omega⟩
      · rintro σ H2 ⟨v, c, y4, y5, sm2, e2, I, hc, rfl⟩
        rw [hR.1] at I
        refine ⟨_, rfl, c, rfl, ?_⟩
        cases c with
        | false =>
          refine iteT ?_
          have ev := hc rfl
          subst ev
          exact ⟨_, rfl, fin v _ sm2 e2 I.stop⟩
        | true =>
          refine iteF ?_
          exact ⟨v, _, _, _, _, sm2, e2, I.len, I.low, I.next hup, rfl⟩
    · rintro σ H' ⟨z, y2, y3, y4, y5, sm, e, hul, hlow, hup, rfl⟩
      have en : ((n : Int) + 1).toNat = n + 1 := by omega
      rw [en] at hup
      exact ⟨_, rfl, fin z H' sm e (turns_end hul hlow hup)⟩
end

/-! ### _law_priced -/
theorem sum_cost (rows : List Vrt) : ∀ ks : List Nat, (ks.map fun k => ((price rows k : Nat) : Int)).sum = ((cost rows ks : Nat) : Int)
  | [] => rfl
  | k :: ks => by
    rw [List.map_cons, List.sum_cons, sum_cost rows ks, cost_cons]
    omega
abbrev s_law_priced : Stmt := top 20
abbrev N_law_priced : List Str := ["_law_family_here", "_law_tree_here", "_law_number"]
theorem sc_law_priced : FnScope N_law_priced ["_law_family_here", "_law_tree_here"] (defScope s_law_priced) := ⟨rfl, rfl, rfl, by decide +kernel, rfl, by decide +kernel, by decide +kernel⟩
def sp_law_priced : Sp := fun vs H Q _ => ∃ (f t : Addr) (n : Nat) (rows : List Vrt) (ks : List Nat), vs = [.ref f, .ref t] ∧ FamAt H f n rows ∧ H t = some (.tup (ks.map nv)) ∧ (∀ k ∈ ks, ∃ r p, rows[k]? = some r ∧ r.price = some p) ∧ ks.length ≤ 1000 ∧ ∀ H', Same H H' → Q (nv (cost rows ks)) H'
section
variable {P : Program} {w : World} {K : PySem.W.Frag} {mg : Str → Option Value} {base : Heap}
theorem ok_law_priced {f : Addr} {fd : FuncData} (D : DefIs K mg "_law_priced" s_law_priced ["_law_family_here", "_law_tree_here"] f fd) (T : Txt mg) : FnOk P w K mg base CX0 1 f fd ["_law_family_here", "_law_tree_here"] sp_law_priced := by
  refine D.fn.ok sc_law_priced (fun vs H Q E h => ?_) (fun cdv A outer s H vs Q E hr h => ?_)
  · obtain ⟨f, t, n, rows, ks, rfl, _⟩ := h
    rfl
  · obtain ⟨f, t, n, rows, ks, rfl, ⟨rt, vt, vs, hf, hvt, hR⟩, ht, hks, hlen, k⟩ := h
    refine ⟨_, (pss_one (ps_ret (pe_callB (cr_sum rfl) (by rfl) T.b_sum (by decide +kernel) (pa_cons (pe_lc (own := [("_law_number", 2)]) (g := gName 2) (tt := tYes) rfl sc_law_priced.nd (pi_tup (pv 1)) (blkOk_by (own := [("_law_number", 2)]) (N := N_law_priced) (sc := defScope s_law_priced) (by decide +kernel)) (fun _ _ _ _ _ => pg_name (i := 2) sc_law_priced.nd rfl (Or.inl rfl)) (fun _ _ _ _ _ => pts_nil) (fun _ _ _ _ _ => (pe_ix (show IxR _ (rIxT K) from ix_tup) (pe_ix (show IxR _ (rIxT K) from ix_tup) (pe_ix (show IxR _ (rIxT K) from ix_tup) (pv 0) pe_int (fun _ _ => rfl)) (pv 2) (fun _ _ => rfl)) pe_int (fun _ _ => rfl)))) pa_nil)))), ?_⟩
    refine ⟨_, rfl, t, rfl, ⟨_, SqT.of ht⟩, fun l hl => ?_⟩
    refine lc_tup (K := K) (a := t) (xs := ks.map nv) (fun i H' => Same H H' ∧ H' l = some (.lst ((ks.take i).map fun k => nv (price rows k)))) ⟨same_new hl, by rw [List.take_zero]; exact upd_same⟩ (fun i H' _ hP => SqT.of (hP.1 _ _ ht)) ?_ ?_
    · rintro i y H' hi ⟨sm, e⟩
      obtain ⟨q, hq, rfl⟩ := map_get hi
      obtain ⟨r, p, hr', hpr⟩ := hks q (List.mem_of_getElem? hq)
      obtain ⟨v, hv, ha⟩ := hR.2 q r hr'
      obtain ⟨a, b, rfl, h1, h2⟩ := ha.mono (Tups.of sm)
      rw [hpr] at h1
      refine ⟨rfl, ?_⟩
      refine ⟨_, rfl, f, _, 2, _, rfl, rfl, SqT.of (sm _ _ hf), atI_nat (j := 2) rfl, _, rfl, vt, vs, _, _, rfl, rfl, SqT.of (sm _ _ hvt), atI_nat hv, a, _, 2, _, rfl, rfl, SqT.of h1, atI_nat (j := 2) rfl, ?_⟩
      refine ⟨_, e, ?_, same_upd sm hl, ?_⟩
      · rw [List.length_map, List.length_take]
        exact small1000 (by omega)
      · rw [upd_same, List.take_add_one, hq, List.map_append]
        have ep : price rows q = p := price_of hr' hpr
        show some (HO.lst (_ ++ [ov (some p)])) = some (HO.lst (_ ++ [nv (price rows q)]))
        rw [ep]
        rfl
    · rintro H' ⟨sm, e⟩
      rw [List.length_map, List.take_length] at e
      refine ⟨l, ks.map fun k => ((price rows k : Nat) : Int), rfl, SqL.of ?_, ?_⟩
      · rw [e, List.map_map]
        rfl
      · rw [sum_cost]
        exact k H' sm
end
end KW
set_option Elab.async false
set_option linter.all false
set_option maxRecDepth 100000
set_option maxHeartbeats 4000000
/-! _law_tree. -/
namespace KW
open PySem PySem.Spec PyProof.Rows L2 KR K30

/-- from a heap with the tape: all else kept -/
structure Dr (H H' : Hp) (a b : Addr) : Prop where
  but : But a H H'
  tape : TapeAt H' a b
section
variable {H H1 H2 : Hp} {a b l : Addr}
theorem Dr.refl (h : TapeAt H a b) : Dr H H a b := ⟨But.refl, h⟩
theorem Dr.same (h : Dr H H1 a b) (s : Same H1 H2) : Dr H H2 a b := ⟨h.but.trans (But.of s), h.tape.of_same s⟩
theorem Dr.draw (h : Dr H H1 a b) (s : But a H1 H2) (t : TapeAt H2 a b) : Dr H H2 a b := ⟨h.but.trans s, t⟩
theorem Dr.upd (h : Dr H H1 a b) (t : TapeAt H a b) (hl : H l = none) {o : HO} : Dr H (L2.upd H1 l o) a b := ⟨h.but.upd_new hl, h.tape.upd (t.ne hl).1 (t.ne hl).2⟩
theorem Dr.tups (h : Dr H H1 a b) (t : TapeAt H a b) : Tups H H1 := t.tups h.but
theorem Dr.free (h : Dr H H1 a b) (e : H1 l = none) : H l = none := h.but.free h.tape e
end
theorem sizes_ne {H : Hp} {a b l : Addr} {z : List Sz} (t : TapeAt H a b) (h : H l = some (.lst (z.map ov))) : l ≠ a := fun e => by
  obtain ⟨ns, p, r, u, h1, _⟩ := t
  subst e
  rw [h] at h1
  have q := HO.lst.inj (Option.some.inj h1)
  cases z with
  | nil => cases q
  | cons x z =>
    have e := (List.cons.inj q).1
    cases x <;> cases e
/-- a row that may be taken for the goal g -/
def FitAt (rows : List Vrt) (z : List Sz) (g lim x0 : Nat) (k : Nat) : Prop := ∃ r x, rows[k]? = some r ∧ r.plug = g ∧ sz z r = some x ∧ (x = x0 ∨ x ≤ lim)
theorem sz_price {z : List Sz} {r : Vrt} {x : Nat} (h : sz z r = some x) : r.price ≠ none := by
  obtain ⟨p, b, hp, _, _⟩ := sz_some h
  rw [hp]
  exact fun e => nomatch e

abbrev s_law_tree : Stmt := top 21
abbrev N_law_tree : List Str := ["_law_tape_here", "_law_family_here", "_law_sizes_here", "_law_state", "_law_room", "_law_stack", "_law_need", "_law_tree_here", "_law_turn", "_law_goal", "_law_fitting", "_law_number", "_law_size_here", "_law_slot"]
theorem sc_law_tree : FnScope N_law_tree ["_law_tape_here", "_law_family_here", "_law_sizes_here", "_law_state", "_law_room"] (defScope s_law_tree) := ⟨rfl, rfl, rfl, by decide +kernel, rfl, by decide +kernel, by decide +kernel⟩
def sp_law_tree : Sp := fun vs H Q _ => ∃ (a b f l : Addr) (n s room m0 : Nat) (rows : List Vrt) (z : List Sz), vs = [.ref a, .ref f, .ref l, nv s, nv room] ∧ TapeAt H a b ∧ FamAt H f n rows ∧ Fine n rows ∧ H l = some (.lst (z.map ov)) ∧ emb z = leastS n rows ∧
  sAt z s = some m0 ∧ m0 ≤ 100 ∧ room ≤ 40 ∧ ∀ p t H', But a H H' → TapeAt H' a b → H' p = some (.tup (t.map nv)) → fits rows t [s] → t.length ≤ 100 → Q (.ref p) H'
section
variable {P : Program} {w : World} {K : PySem.W.Frag} {mg : Str → Option Value} {base : Heap}
theorem ok_law_tree {f f1 f2 : Addr} {fd fd1 fd2 : FuncData} (D : DefIs K mg "_law_tree" s_law_tree ["_law_tape_here", "_law_family_here", "_law_sizes_here", "_law_state", "_law_room"] f fd) (T : Txt mg) (D_law_draw : DefIs K mg "_law_draw" s_law_draw ["_law_tape_here", "_law_menu"] f1 fd1)
    (D_law_size : DefIs K mg "_law_size" s_law_size ["_law_variant", "_law_sizes_here"] f2 fd2) : FnOk P w K mg base CX0 2 f fd ["_law_tape_here", "_law_family_here", "_law_sizes_here", "_law_state", "_law_room"] sp_law_tree := by
  have G_law_draw : FnOk P w K mg base CX0 1 f1 fd1 ["_law_tape_here", "_law_menu"] sp_law_draw := ok_law_draw D_law_draw T
  have G_law_size : FnOk P w K mg base CX0 1 f2 fd2 ["_law_variant", "_law_sizes_here"] sp_law_size := ok_law_size D_law_size T
  refine D.fn.ok sc_law_tree (fun vs H Q E h => ?_) (fun cdv A outer s H vs Q E hr h => ?_)
  · obtain ⟨a, b, f, l, n, s, room, m0, rows, z, rfl, _⟩ := h
    rfl
  · obtain ⟨a, b, f, l, n, st0, room, m0, rows, z, rfl, hT, hF, F, hl, hz, hm0, h100, h40, k⟩ := h
    obtain ⟨rt, vt, vs, hf, hvt, hR⟩ := id hF
    have hla := sizes_ne hT hl
    have hzl : z.length = n := by
      rw [← emb_length, hz]
      exact least_length _ _
    have hs0 := (sizes_some hz hm0).1
    have hat0 : atI (z.map ov) (st0 : Int) = some (nv m0) := by
      have q := sAt_map (z := z) (s := st0) (by rw [hzl]; exact hs0)
      rw [hm0] at q
      exact q
    refine ⟨_, (pss_cons (ps_set (i := 5) sc_law_tree.nd rfl (Or.inl rfl) (pe_lst (pa_cons (pv 3) pa_nil)))
    (pss_cons (ps_set (i := 6) sc_law_tree.nd rfl (Or.inl rfl) (pe_ix ix_list (pv 2) (pv 3) (fun _ _ => rfl)))
    (pss_cons (ps_set (i := 7) sc_law_tree.nd rfl (Or.inl rfl) (pe_lst pa_nil))
    (pss_cons (ps_for PassesOwn.never rfl (pi_range1 (by rfl) T.b_range (pa_cons (pe_callB (call_max2 rfl) (by rfl) T.b_max (by decide +kernel) (pa_cons (pv 4) (pa_cons (pe_ix ix_list (pv 2) (pv 3) (fun _ _ => rfl)) pa_nil))) pa_nil)) (pg_name (i := 8) sc_law_tree.nd rfl (Or.inl rfl))
    (pss_cons (ps_if (pt_not (pt_truth (pv 5) (by intro _; rfl)))
      (pss_one ps_break)
      pss_nil)
      (pss_cons (ps_set (i := 9) sc_law_tree.nd rfl (Or.inl rfl) (pe_bm0 PySem.F.plainAttrs_list PySem.F.slot_list_pop PySem.F.type_list_pop mt_pop (pv 5)))
      (pss_cons (ps_set (i := 6) sc_law_tree.nd rfl (Or.inl rfl) (pe_op op_sub (pv 6) (pe_ix ix_list (pv 2) (pv 9) (fun _ _ => rfl))))
      (pss_cons (ps_set (i := 10) sc_law_tree.nd rfl (Or.inl rfl) (pe_lst pa_nil))
      (pss_cons (ps_for PassesOwn.never rfl (pi_range1 (by rfl) T.b_range (pa_cons (pe_callB call_len_seq (by rfl) T.b_len PySem.boot_len (pa_cons (pe_ix ix_tup (pv 1) pe_int (fun _ _ => rfl)) pa_nil)) pa_nil)) (pg_name (i := 11) sc_law_tree.nd rfl (Or.inl rfl))
      (pss_cons (ps_set (i := 12) sc_law_tree.nd rfl (Or.inl rfl) (pe_call G_law_size (hr.mono (by decide)) (by rfl) D_law_size.mg D_law_size.fn.kp D_law_size.bd .nil pass0 (pa_cons (pe_ix ix_tup (pe_ix ix_tup (pv 1) pe_int (fun _ _ => rfl)) (pv 11) (fun _ _ => rfl)) (pa_cons (pv 2) pa_nil))))
        (pss_one (ps_if (PW.pt (pw_and (pt_cmpR op_eq (pe_ix ix_tup (pe_ix ix_tup (pe_ix ix_tup (pv 1) pe_int (fun _ _ => rfl)) (pv 11) (fun _ _ => rfl)) pe_int (fun _ _ => rfl)) (pv 9) (nomark _)) (pw_and1 (pt_cmpR op_notN (pv 12) pe_non (nomark _)))))
        (pss_one (ps_if (PW.pt (pw_or (pt_cmpR op_eq (pv 12) (pe_ix ix_list (pv 2) (pv 9) (fun _ _ => rfl)) (nomark _)) (pw_or1 (pt_cmpR op_le (pe_op op_add (pe_op op_add (pe_callB call_len_seq (by rfl) T.b_len PySem.boot_len (pa_cons (pv 7) pa_nil)) (pv 6)) (pv 12)) (pv 4) (nomark _)))))
          (pss_one (ps_expr (pe_bm PySem.F.plainAttrs_list PySem.F.slot_list_append PySem.F.type_list_append mt_append (pv 10) (pa_cons (pv 11) pa_nil))))
          pss_nil))
        pss_nil))))
      (pss_cons (ps_set (i := 11) sc_law_tree.nd rfl (Or.inl rfl) (pe_ix ix_list (pv 10) (pe_call G_law_draw (hr.mono (by decide)) (by rfl) D_law_draw.mg D_law_draw.fn.kp D_law_draw.bd .nil pass0 (pa_cons (pv 0) (pa_cons (pe_callB call_len_seq (by rfl) T.b_len PySem.boot_len (pa_cons (pv 10) pa_nil)) pa_nil))) (fun _ _ => rfl)))
      (pss_cons (ps_expr (pe_bm PySem.F.plainAttrs_list PySem.F.slot_list_append PySem.F.type_list_append mt_append (pv 7) (pa_cons (pv 11) pa_nil)))
      (pss_cons (ps_set (i := 6) sc_law_tree.nd rfl (Or.inl rfl) (pe_op op_sub (pe_op op_add (pv 6) (pe_call G_law_size (hr.mono (by decide)) (by rfl) D_law_size.mg D_law_size.fn.kp D_law_size.bd .nil pass0 (pa_cons (pe_ix ix_tup (pe_ix ix_tup (pv 1) pe_int (fun _ _ => rfl)) (pv 11) (fun _ _ => rfl)) (pa_cons (pv 2) pa_nil)))) pe_int))
      (pss_one (ps_for PassesOwn.never rfl (RT.pi_revA (by rfl) T.b_reversed (pe_ix ix_tup (pe_ix ix_tup (pe_ix ix_tup (pv 1) pe_int (fun _ _ => rfl)) (pv 11) (fun _ _ => rfl)) pe_int (fun _ _ => rfl))) (pg_name (i := 13) sc_law_tree.nd rfl (Or.inl rfl))
      (pss_one (ps_expr (pe_bm PySem.F.plainAttrs_list PySem.F.slot_list_append PySem.F.type_list_append mt_append (pv 5) (pa_cons (pv 13) pa_nil)))))))))))))))
    (pss_one (ps_ret (pe_callTy call_tuple_of (by rfl) T.b_tuple (by decide +kernel) (pa_cons (pv 7) pa_nil)))))))), ?_⟩
    -- stack = [state]; need = sizes[state]; tree = []
    refine ⟨_, rfl, (by show 1 ≤ sizeLine; decide), fun sk hsk => ?_⟩
    have s1 := same_new hsk (o := .lst [nv st0])
    refine ⟨_, rfl, _, rfl, l, _, _, _, rfl, rfl, SqL.of (s1 _ _ hl), hat0, ?_⟩
    refine ⟨Nat.zero_le _, fun tr htr => ?_⟩
    have s2 := same_new htr (o := .lst [])
    have hHt : H tr = none := s1.free htr
    have nst : sk ≠ tr := ne_of_none upd_same htr
    obtain ⟨ska, skb⟩ := hT.ne hsk
    obtain ⟨tra, trb⟩ := hT.ne hHt
    have d0 : Dr H (upd (upd H sk (.lst [nv st0])) tr (.lst [])) a b := (Dr.refl hT).same (s1.trans s2)
    -- the number of turns
    obtain ⟨mx, emx, hmx⟩ : ∃ mx : Nat, V.int (if (m0 : Int) > (room : Int) then (m0 : Int) else (room : Int)) = nv mx ∧ mx = max room m0 := by
      refine ⟨max room m0, congrArg V.int ?_, rfl⟩
      split <;> omega
    refine ⟨_, rfl, _, rfl, _, rfl, l, _, _, _, rfl, rfl, SqL.of (s2 _ _ (s1 _ _ hl)), hat0, _, _, rfl, mx, congrArg (fun v => [v]) emx, by omega, by omega, for_range (n := ((mx : Int)).toNat) (fun i σ H' => ∃ (pre stk : List Nat) (m : Nat) (y8 y9 y10 y11 y12 y13 : Option V),
        Dr H H' a b ∧ H' sk = some (.lst (stk.reverse.map nv)) ∧ H' tr = some (.lst (pre.map nv)) ∧ pre.length = i ∧ sumS z stk = some m ∧ pre.length + m ≤ mx ∧ (∀ t, fits rows t stk → fits rows (pre ++ t) [st0]) ∧
        σ = [some (.ref a), some (.ref f), some (.ref l), some (nv st0), some (nv room), some (.ref sk), some (nv m), some (.ref tr), y8, y9, y10, y11, y12, y13])
        ⟨[], [st0], m0, none, none, none, none, none, none, d0, by rw [upd_ne nst, upd_same]; rfl, upd_same, rfl, sumS_cons (b := 0) hm0 rfl, by show 0 + m0 ≤ mx; omega, fun t h => h, rfl⟩ ?_ ?_⟩
    · rintro i σ H1 hi ⟨pre, stk, m, y8, y9, y10, y11, y12, y13, d, e1, e2, hpre, hm, hbd, hfit, rfl⟩
      have hone : ∀ s x, sAt z s = some x → 1 ≤ x := fun s x e => (sizes_some hz e).2.1
      refine ⟨_, rfl, _, .inl ⟨_, SqL.of e1, rfl⟩, ?_⟩
      cases stk with
      | nil =>
        -- break; return tuple(tree)
        refine iteT ?_
        refine ⟨_, rfl, tr, _, rfl, .inl ⟨SqL.of e2, fun q hq => ?_⟩⟩
        have d' := d.same (same_new hq (o := .tup (pre.map nv)))
        have hp := hfit [] rfl
        rw [List.append_nil] at hp
        exact k q pre _ d'.but d'.tape upd_same hp (by omega)
      | cons g stk =>
        obtain ⟨mg', m', hmg, hm', rfl⟩ := sumS_cons_some hm
        obtain ⟨hgn, hg1, k0, r0, hk0, hp0, hz0⟩ := sizes_some hz hmg
        have el : (g :: stk).reverse.map nv = stk.reverse.map nv ++ [nv g] := by
          rw [List.reverse_cons, List.map_append]
          rfl
        rw [el] at e1 ⊢
        have efalse : (!(!(stk.reverse.map nv ++ [nv g]).isEmpty)) = false := by
          cases stk.reverse.map nv <;> rfl
        rw [efalse]
        refine iteF ?_
        -- goal = stack.pop()
        refine ⟨_, rfl, .inl ⟨rfl, _, SqL.of e1⟩, sk, _, nv g, rfl, rfl, e1, ?_, ?_⟩
        · rw [List.length_append, List.length_singleton, Nat.add_sub_cancel, List.getElem?_append_right (Nat.le_refl _), Nat.sub_self]
          rfl
        rw [List.dropLast_concat]
        have d2 : Dr H (upd H1 sk (.lst (stk.reverse.map nv))) a b := d.upd hT hsk
        have e2' : (upd H1 sk (.lst (stk.reverse.map nv))) tr = some (.lst (pre.map nv)) := by
          rw [upd_ne nst.symm]
          exact e2
        have el2 := d2.but _ _ hl hla
        have hatg : atI (z.map ov) (g : Int) = some (nv mg') := by
          have q := sAt_map (z := z) (s := g) (by rw [hzl]; exact hgn)
          rw [hmg] at q
          exact q
        -- need = need - sizes[goal]
        refine ⟨_, rfl, _, rfl, _, rfl, l, _, _, _, rfl, rfl, SqL.of el2, hatg, _, _, rfl, rfl, ?_⟩
        have en : V.int (((mg' + m' : Nat) : Int) - (mg' : Int)) = nv m' := congrArg V.int (by omega)
        -- fitting = []
        refine ⟨Nat.zero_le _, fun ft hft => ?_⟩
        have hHf : H ft = none := d2.free hft
        have s3 := same_new hft (o := .lst [])
        have d3 := d2.same s3
        obtain ⟨fta, ftb⟩ := hT.ne hHf
        have e13 := s3 _ _ (upd_same (H := H1) (a := sk) (o := .lst (stk.reverse.map nv)))
        have e23 := s3 _ _ e2'
        have nfs : sk ≠ ft := ne_of_none (upd_same (H := H1) (a := sk) (o := .lst (stk.reverse.map nv))) hft
        have nftr : tr ≠ ft := ne_of_none e2' hft
        have hF3 := hF.mono (d3.tups hT)
        have hf3 := d3.tups hT _ _ hf
        have hvt3 := d3.tups hT _ _ hvt
        have el3 := s3 _ _ el2
        have hR3 := hR.mono (d3.tups hT)
        have h14 := F.len
        -- for number in range(len(family[2]))
        refine ⟨_, rfl, f, _, 2, _, rfl, rfl, SqT.of hf3, atI_nat (j := 2) rfl, vt, vs, rfl, .inr (SqT.of hvt3), rows.length, (by rw [hR.1]), by omega, by omega, for_range (n := ((rows.length : Int)).toNat) (fun j σ H' => ∃ (fs : List Nat) (y11 y12 : Option V),
            Same (upd H1 sk (.lst (stk.reverse.map nv))) H' ∧ H' ft = some (.lst (fs.map nv)) ∧ fs.length ≤ j ∧ (∀ q ∈ fs, FitAt rows z g (room - (i + m')) mg' q) ∧ (∀ j' r', j' < j → rows[j']? = some r' → r'.plug = g → sz z r' = some mg' → j' ∈ fs) ∧
            σ = [some (.ref a), some (.ref f), some (.ref l), some (nv st0), some (nv room), some (.ref sk), some (nv m'), some (.ref tr), some (nv i), some (nv g), some (.ref ft), y11, y12, y13])
            ⟨[], y11, y12, s3, upd_same, Nat.le_refl _, (fun q hq => absurd hq List.not_mem_nil), (fun j' r' h => absurd h (Nat.not_lt_zero _)), ?_⟩ ?_ ?_⟩
        · have ei : V.int (0 + (i : Int)) = nv i := congrArg V.int (by omega)
          show [some (V.ref a), some (.ref f), some (.ref l), some (nv st0), some (nv room), some (.ref sk), some (V.int (((mg' + m' : Nat) : Int) - (mg' : Int))), some (.ref tr), some (V.int (0 + (i : Int))), some (nv g), some (.ref ft), y11, y12, y13] = _
          rw [en, ei]
        · rintro j σ H' hj ⟨fs, y11, y12, sm, ef, hfl, hfa, hfc, rfl⟩
          have hjl : j < rows.length := by omega
          obtain ⟨v, hv, ha⟩ := hR.2 j _ (List.getElem?_eq_getElem hjl)
          have tp : Tups H H' := (d2.tups hT).trans (Tups.of sm)
          have ha' := ha.mono tp
          obtain ⟨ra, rb, rfl, h1, h2⟩ := id ha'
          have hrm : rows[j] ∈ rows := List.getElem_mem hjl
          have ej : V.int (0 + (j : Int)) = nv j := congrArg V.int (by omega)
          have hatj : atI vs (0 + (j : Int)) = some (.ref ra) := by
            rw [Int.zero_add]
            exact atI_nat hv
          have elH := sm _ _ el2
          -- size_here = _law_size(family[2][number], sizes)
          refine ⟨_, rfl, f, _, 2, _, rfl, rfl, SqT.of (tp _ _ hf), atI_nat (j := 2) rfl, _, rfl, vt, vs, _, _, rfl, rfl, SqT.of (tp _ _ hvt), hatj, _, rfl, .ref ra, l, rows[j], z, rfl, ha', elH, fun s hs => by rw [hzl]; exact F.slot _ hrm s hs, ?_⟩
          -- the turn's end, by whether j is taken
          have skip : (rows[j].plug = g → sz z rows[j] ≠ some mg') → ∀ j' r', j' < j + 1 → rows[j']? = some r' → r'.plug = g → sz z r' = some mg' → j' ∈ fs := fun hno j' r' hlt e1 e2 e3 => by
            by_cases ejj : j' = j
            · subst ejj
              rw [List.getElem?_eq_getElem hjl] at e1
              cases e1
              exact absurd e3 (hno e2)
            · exact hfc j' r' (by omega) e1 e2 e3
          have take : ∀ j' r', j' < j + 1 → rows[j']? = some r' → r'.plug = g → sz z r' = some mg' → j' ∈ fs ++ [j] := fun j' r' hlt e1 e2 e3 => by
            by_cases ejj : j' = j
            · subst ejj
              simp
            · exact List.mem_append_left _ (hfc j' r' (by omega) e1 e2 e3)
          refine ⟨_, rfl, f, _, 2, _, rfl, rfl, SqT.of (tp _ _ hf), atI_nat (j := 2) rfl, _, rfl, vt, vs, _, _, rfl, rfl, SqT.of (tp _ _ hvt), hatj, ra, _, 0, _, rfl, rfl, SqT.of h1, atI_nat (j := 0) rfl, _, rfl, rfl, _, rfl, ite2 (fun c => ?_) (fun c => ?_)⟩
          · have hpg : rows[j].plug = g := nv_inj (of_decide_eq_true c)
            refine ⟨_, rfl, rfl, _, rfl, ?_⟩
            cases es : sz z rows[j] with
            | none =>
              refine iteF ?_
              exact ⟨fs, _, _, sm, ef, by omega, hfa, skip (fun _ e => by rw [es] at e; cases e), rfl⟩
            | some x =>
              refine iteT ?_
              have app : (x = mg' ∨ x ≤ room - (i + m')) → ∃ (fs' : List Nat) (z11 z12 : Option V), Same (upd H1 sk (.lst (stk.reverse.map nv))) (upd H' ft (.lst (fs.map nv ++ [V.int (0 + (j : Int))]))) ∧ (upd H' ft (.lst (fs.map nv ++ [V.int (0 + (j : Int))]))) ft = some (.lst (fs'.map nv)) ∧ fs'.length ≤ j + 1 ∧
                  (∀ q ∈ fs', FitAt rows z g (room - (i + m')) mg' q) ∧ (∀ j' r', j' < j + 1 → rows[j']? = some r' → r'.plug = g → sz z r' = some mg' → j' ∈ fs') ∧
                  [some (V.ref a), some (.ref f), some (.ref l), some (nv st0), some (nv room), some (.ref sk), some (nv m'), some (.ref tr), some (nv i), some (nv g), some (.ref ft), some (V.int (0 + (j : Int))), some (ov (some x)), y13] =
                  [some (V.ref a), some (.ref f), some (.ref l), some (nv st0), some (nv room), some (.ref sk), some (nv m'), some (.ref tr), some (nv i), some (nv g), some (.ref ft), z11, z12, y13] := fun hx => by
                refine ⟨fs ++ [j], _, _, same_upd sm hft, ?_, ?_, fun q hq => ?_, take, rfl⟩
                · rw [upd_same, ej, List.map_append]
                  rfl
                · rw [List.length_append, List.length_singleton]
                  omega
                · rcases List.mem_append.mp hq with e | e
                  · exact hfa q e
                  · have e' : q = j := by simpa using e
                    subst e'
                    exact ⟨_, x, List.getElem?_eq_getElem hjl, hpg, es, hx⟩
              have hlen : (fs.map nv).length < sizeLine := by
                rw [List.length_map]
                exact small1000 (by omega)
              refine ⟨_, rfl, _, rfl, _, rfl, l, _, _, _, rfl, rfl, SqL.of elH, hatg, rfl, _, rfl, ite2 (fun c => ?_) (fun c => ?_)⟩
              · have hx : x = mg' := nv_inj (of_decide_eq_true c)
                refine iteT ?_
                exact ⟨_, rfl, .inl ⟨rfl, _, SqL.of ef⟩, _, rfl, ft, _, _, rfl, rfl, ef, hlen, app (.inl hx)⟩
              · have hnx : x ≠ mg' := fun e => c (by rw [e]; exact decide_eq_true rfl)
                have e2H := sm _ _ e2'
                refine ⟨_, rfl, tr, _, rfl, .inl (SqL.of e2H), _, rfl, _, _, rfl, rfl, _, rfl, _, _, rfl, rfl, _, rfl, _, _, rfl, rfl, _, rfl, ite2 (fun c => ?_) (fun c => ?_)⟩
                · have hx : (((pre.map nv).length : Nat) : Int) + (m' : Int) + (x : Int) ≤ (room : Int) := of_decide_eq_true c
                  rw [List.length_map] at hx
                  exact ⟨_, rfl, .inl ⟨rfl, _, SqL.of ef⟩, _, rfl, ft, _, _, rfl, rfl, ef, hlen, app (.inr (by omega))⟩
                · exact ⟨fs, _, _, sm, ef, by omega, hfa, skip (fun _ e => hnx (by rw [es] at e; exact Option.some.inj e)), rfl⟩
          · refine iteF ?_
            exact ⟨fs, _, _, sm, ef, by omega, hfa, skip (fun e => absurd (by rw [e]; exact decide_eq_true rfl) c), rfl⟩
        · rintro σ H' ⟨fs, y11, y12, sm, ef, hfl, hfa, hfc, rfl⟩
          have hk0l : k0 < rows.length := (List.getElem?_eq_some_iff.mp hk0).1
          have hin : k0 ∈ fs := hfc k0 r0 (by omega) hk0 hp0 hz0
          have hpos : 0 < fs.length := List.length_pos_of_mem hin
          have dd : Dr H H' a b := d2.same sm
          have e1H := sm _ _ (upd_same (H := H1) (a := sk) (o := .lst (stk.reverse.map nv)))
          have e2H := sm _ _ e2'
          -- number = fitting[draw(tape, len(fitting))]
          refine ⟨_, rfl, _, rfl, _, rfl, ft, _, rfl, .inl (SqL.of ef), a, b, fs.length, (by rw [List.length_map]; rfl), dd.tape, by omega, fun q H5 b5 t5 hq => ?_⟩
          have d5 := dd.draw b5 t5
          have ef5 := b5 _ _ ef fta
          have e15 := b5 _ _ e1H ska
          have e25 := b5 _ _ e2H tra
          have hql : q < fs.length := by omega
          have hat : atI (fs.map nv) (q : Int) = some (nv fs[q]) := at_map (List.getElem?_eq_getElem hql)
          obtain ⟨r, x, hr', hpg, hx, hxl⟩ := hfa _ (List.getElem_mem hql)
          refine ⟨ft, _, _, _, rfl, rfl, SqL.of ef5, hat, ?_⟩
          -- tree.append(number)
          refine ⟨_, rfl, .inl ⟨rfl, _, SqL.of e25⟩, _, rfl, tr, _, _, rfl, rfl, e25, ?_, ?_⟩
          · rw [List.length_map]
            exact small1000 (by omega)
          have d6 : Dr H (upd H5 tr (.lst (pre.map nv ++ [nv fs[q]]))) a b := d5.upd hT hHt
          have e16 : (upd H5 tr (.lst (pre.map nv ++ [nv fs[q]]))) sk = some (.lst (stk.reverse.map nv)) := by
            rw [upd_ne nst]
            exact e15
          have el6 := d6.but _ _ hl hla
          have tp6 := d6.tups hT
          obtain ⟨v, hv, ha⟩ := hR.2 _ r hr'
          have ha' := ha.mono tp6
          obtain ⟨ra, rb, rfl, h1, h2⟩ := id ha'
          have hrm : r ∈ rows := List.mem_of_getElem? hr'
          -- need = need + _law_size(family[2][number], sizes) - 1
          refine ⟨_, rfl, _, rfl, f, _, 2, _, rfl, rfl, SqT.of (tp6 _ _ hf), atI_nat (j := 2) rfl, _, rfl, vt, vs, _, _, rfl, rfl, SqT.of (tp6 _ _ hvt), atI_nat hv, _, rfl, .ref ra, l, r, z, rfl, ha', el6, fun s hs => by rw [hzl]; exact F.slot _ hrm s hs, ?_⟩
          obtain ⟨p, y, hp, hy, exy⟩ := sz_some hx
          rw [hx]
          refine ⟨_, _, rfl, rfl, _, _, rfl, rfl, ?_⟩
          have en2 : V.int ((m' : Int) + (x : Int) - 1) = nv (y + m') := congrArg V.int (by omega)
          have hmany := sumS_many hone hm'
          have hmany2 := sumS_many hone hy
          -- for slot in reversed(family[2][number][1])
          have few := F.few r hrm
          refine ⟨_, rfl, f, _, 2, _, rfl, rfl, SqT.of (tp6 _ _ hf), atI_nat (j := 2) rfl, _, rfl, vt, vs, _, _, rfl, rfl, SqT.of (tp6 _ _ hvt), atI_nat hv, ra, _, 1, _, rfl, rfl, SqT.of h1, atI_nat (j := 1) rfl, rb, r.slots.map nv, rfl, .inr ⟨SqT.of h2, ?_⟩⟩
          refine RT.for_ItvT (K := K) (a := rb) (xs := r.slots.map nv) (fun j σ H' => ∃ y13 : Option V, Dr H H' a b ∧ Tups (upd H5 tr (.lst (pre.map nv ++ [nv fs[q]]))) H' ∧ H' sk = some (.lst (stk.reverse.map nv ++ (r.slots.map nv).reverse.take j)) ∧ H' tr = some (.lst (pre.map nv ++ [nv fs[q]])) ∧
            σ = [some (.ref a), some (.ref f), some (.ref l), some (nv st0), some (nv room), some (.ref sk), some (nv (y + m')), some (.ref tr), some (nv i), some (nv g), some (.ref ft), some (nv fs[q]), y12, y13])
            ⟨y13, d6, Tups.refl, by rw [List.take_zero, List.append_nil]; exact e16, upd_same, ?_⟩ (fun j σ H' hP => by obtain ⟨_, _, q1, _⟩ := hP; exact SqT.of (q1 _ _ h2)) ?_ ?_
          · show [some (V.ref a), some (.ref f), some (.ref l), some (nv st0), some (nv room), some (.ref sk), some (V.int ((m' : Int) + (x : Int) - 1)), some (.ref tr), some (nv i), some (nv g), some (.ref ft), some (nv fs[q]), y12, y13] = _
            rw [en2]
          · rintro j u σ H' hj hu ⟨y13, d7, tp7, e17, e27, rfl⟩
            have hj' : j < (r.slots.map nv).reverse.length := by rw [List.length_reverse]; exact hj
            have hu' : (r.slots.map nv).reverse[j]? = some u := by
              rw [List.getElem?_reverse hj]
              exact hu
            refine ⟨_, rfl, .inl ⟨rfl, _, SqL.of e17⟩, _, rfl, sk, _, _, rfl, rfl, e17, ?_, ?_⟩
            · rw [List.length_append, List.length_map, List.length_reverse, List.length_take, List.length_reverse, List.length_map]
              exact small1000 (by omega)
            refine ⟨_, d7.upd hT hsk, tp7.trans (Tups.upd_list e17), ?_, ?_, rfl⟩
            · rw [upd_same, List.take_add_one, hu', List.append_assoc]
              rfl
            · rw [upd_ne nst.symm]
              exact e27
          · rintro σ H' ⟨y13, d7, tp7, e17, e27, rfl⟩
            have etk : (r.slots.map nv).reverse.take (r.slots.map nv).length = (r.slots.map nv).reverse := List.take_of_length_le (by rw [List.length_reverse]; exact Nat.le_refl _)
            rw [etk] at e17
            refine ⟨pre ++ [fs[q]], r.slots ++ stk, y + m', _, _, _, _, _, _, d7, ?_, ?_, ?_, sumS_append hm' hy, ?_, fun t ht => ?_, rfl⟩
            · rw [e17, List.reverse_append, List.map_append, ← List.map_reverse]
            · rw [e27, List.map_append]
              rfl
            · rw [List.length_append, List.length_singleton, hpre]
            · rw [List.length_append, List.length_singleton]
              rcases hxl with e | e <;> omega
            · rw [List.append_assoc]
              exact hfit (fs[q] :: t) ⟨g, stk, r, rfl, hr', hpg, sz_price hx, ht⟩
    · rintro σ H1 ⟨pre, stk, m, y8, y9, y10, y11, y12, y13, d, e1, e2, hpre, hm, hbd, hfit, rfl⟩
      have hone : ∀ s x, sAt z s = some x → 1 ≤ x := fun s x e => (sizes_some hz e).2.1
      have hmany := sumS_many hone hm
      have hst : stk = [] := List.eq_nil_of_length_eq_zero (by omega)
      subst hst
      refine ⟨_, rfl, tr, _, rfl, .inl ⟨SqL.of e2, fun q hq => ?_⟩⟩
      have d' := d.same (same_new hq (o := .tup (pre.map nv)))
      have hp := hfit [] rfl
      rw [List.append_nil] at hp
      exact k q pre _ d'.but d'.tape upd_same hp (by omega)
end
end KW
set_option Elab.async false
set_option linter.all false
set_option maxRecDepth 100000
set_option maxHeartbeats 4000000
/-! _law_ways, _law_counts, _law_reach. -/
namespace KW
open PySem PySem.Spec PyProof.Rows L2 KR K30

/-- nothing can be asked -/
theorem none_left {P : Program} {w : World} {K : PySem.W.Frag} {mg : Str → Option Value} {base : Heap} {f : Addr} {fd : FuncData} {ps : List Str} {sp : Sp} (no : ∀ vs H Q E, ¬ sp vs H Q E) : FnOk P w K mg base CX0 0 f fd ps sp :=
  ⟨fun vs H Q E h => absurd h (no vs H Q E), fun A outer s H args us vs Q E _ _ _ _ h => absurd h (no vs H Q E)⟩
theorem cut_one (xs : List V) : cutV xs (some 1) none = xs.drop 1 := by
  unfold cutV
  rw [show HT.sIx xs.length 0 (some 1) = min 1 xs.length from HT.sIx_nat xs.length 0 1, HT.sIx_none]
  cases xs with
  | nil => rfl
  | cons x r =>
    have e : min 1 (x :: r).length = 1 := by
      rw [List.length_cons]
      omega
    rw [e]
    exact List.take_of_length_le (by rw [List.length_drop]; exact Nat.le_refl _)
theorem not_whole {n : Nat} (h : 1 ≤ n) : ¬ (HT.sIx n 0 (some 1) = 0 ∧ HT.sIx n n none = n) := fun q => by
  have e : HT.sIx n 0 (some 1) = min 1 n := HT.sIx_nat n 0 1
  have q1 := q.1
  rw [e] at q1
  omega

/-- the numbers of trees by size and state stand at c -/
def CountsAt (H : Hp) (c : Addr) (k n : Nat) : Prop := ∃ as : List Addr, H c = some (.lst (as.map V.ref)) ∧ as.length = k ∧ ∀ (i : Nat) (a : Addr), as[i]? = some a → ∃ ns : List Nat, H a = some (.lst (ns.map nv)) ∧ ns.length = n ∧ ∀ x ∈ ns, x ≤ Rb i
theorem CountsAt.mono {H H' : Hp} {c : Addr} {k n : Nat} (h : CountsAt H c k n) (s : Same H H') : CountsAt H' c k n := by
  obtain ⟨as, h1, h2, h3⟩ := h
  refine ⟨as, s _ _ h1, h2, fun i a e => ?_⟩
  obtain ⟨ns, g1, g2⟩ := h3 i a e
  exact ⟨ns, s _ _ g1, g2⟩
theorem CountsAt.get {H : Hp} {c : Addr} {k n : Nat} (h : CountsAt H c k n) {i s : Nat} (hi : i < k) (hs : s < n) : ∃ (as : List Addr) (a : Addr) (ns : List Nat) (x : Nat), H c = some (.lst (as.map V.ref)) ∧ atI (as.map V.ref) (i : Int) = some (.ref a) ∧ H a = some (.lst (ns.map nv)) ∧
    atI (ns.map nv) (s : Int) = some (nv x) ∧ x ≤ Rb i := by
  obtain ⟨as, h1, h2, h3⟩ := h
  have hi' : i < as.length := by rw [h2]; exact hi
  obtain ⟨ns, g1, g2, g3⟩ := h3 i _ (List.getElem?_eq_getElem hi')
  have hs' : s < ns.length := by rw [g2]; exact hs
  exact ⟨as, _, ns, ns[s], h1, at_map (List.getElem?_eq_getElem hi'), g1, at_map (List.getElem?_eq_getElem hs'), g3 _ (List.getElem_mem hs')⟩
theorem Sb_last (f : Nat → Nat) (p z : Nat) (h : 1 ≤ z) : Rb z * f (p - z) ≤ Sb f p z := by
  obtain ⟨y, rfl⟩ : ∃ y, z = y + 1 := ⟨z - 1, by omega⟩
  exact Nat.le_add_left _ _
theorem Fb_one (p : Nat) : Rb p ≤ Fb 1 p := by
  cases p with
  | zero => exact Nat.zero_le _
  | succ p =>
    have q := Sb_last (Fb 0) (p + 1) (p + 1) (by omega)
    have e : Fb 0 (p + 1 - (p + 1)) = 1 := by rw [Nat.sub_self]; rfl
    rw [e, Nat.mul_one] at q
    exact q

abbrev s_law_ways : Stmt := top 22
abbrev N_law_ways : List Str := ["_law_counts_here", "_law_slots", "_law_parts", "_law_total", "_law_size_here", "_law_number"]
theorem sc_law_ways : FnScope N_law_ways ["_law_counts_here", "_law_slots", "_law_parts"] (defScope s_law_ways) := ⟨rfl, rfl, rfl, by decide +kernel, rfl, by decide +kernel, by decide +kernel⟩
def sp_law_ways (d : Nat) : Sp := fun vs H Q _ => ∃ (c st : Addr) (k n parts : Nat) (ss : List Nat), vs = [.ref c, .ref st, nv parts] ∧ CountsAt H c k n ∧ H st = some (.tup (ss.map nv)) ∧ ss.length < d ∧ (∀ s ∈ ss, s < n) ∧ parts < k ∧ k ≤ 1000 ∧
  ∀ (m : Nat) H', Same H H' → m ≤ Fb ss.length parts → Q (nv m) H'
section
variable {P : Program} {w : World} {K : PySem.W.Frag} {mg : Str → Option Value} {base : Heap}
theorem ok_law_ways_one {f : Addr} {fd : FuncData} (D_law_ways : DefIs K mg "_law_ways" s_law_ways ["_law_counts_here", "_law_slots", "_law_parts"] f fd) (T : Txt mg) {d : Nat} (G_law_ways : FnOk P w K mg base CX0 d f fd ["_law_counts_here", "_law_slots", "_law_parts"] (sp_law_ways d)) : FnOk P w K mg base CX0 (d + 1) f fd ["_law_counts_here", "_law_slots", "_law_parts"] (sp_law_ways (d + 1)) := by
  refine D_law_ways.fn.ok sc_law_ways (fun vs H Q E h => ?_) (fun cdv A outer s H vs Q E hr h => ?_)
  · obtain ⟨c, st, k, n, parts, ss, rfl, _⟩ := h
    rfl
  · obtain ⟨c, st, kk, n, parts, ss, rfl, hC, hst, hd, hsn, hpk, hk, k⟩ := h
    refine ⟨_, (pss_cons (ps_if (pt_not (pt_truth (pv 1) (by intro _; rfl)))
    (pss_one (ps_ret (pe_callTy call_int1 (by rfl) T.b_int (by decide +kernel) (pa_cons (pe_cmpR op_eq (pv 2) pe_int (nomark _)) pa_nil))))
    pss_nil)
    (pss_cons (ps_if (pt_cmpR op_eq (pe_callB call_len_seq (by rfl) T.b_len PySem.boot_len (pa_cons (pv 1) pa_nil)) pe_int (nomark _))
    (pss_one (ps_ret (pe_ix ix_list (pe_ix ix_list (pv 0) (pv 2) (fun _ _ => rfl)) (pe_ix ix_tup (pv 1) pe_int (fun _ _ => rfl)) (fun _ _ => rfl))))
    pss_nil)
    (pss_cons (ps_set (i := 3) sc_law_ways.nd rfl (Or.inl rfl) pe_int)
    (pss_cons (ps_for PassesOwn.never rfl (pi_range2 (by rfl) T.b_range (pa_cons pe_int (pa_cons (pv 2) pa_nil))) (pg_name (i := 4) sc_law_ways.nd rfl (Or.inl rfl))
    (pss_cons (ps_set (i := 5) sc_law_ways.nd rfl (Or.inl rfl) (pe_ix ix_list (pe_ix ix_list (pv 0) (pv 4) (fun _ _ => rfl)) (pe_ix ix_tup (pv 1) pe_int (fun _ _ => rfl)) (fun _ _ => rfl)))
      (pss_one (ps_if (pt_cmpR op_gt (pv 5) pe_int (nomark _))
      (pss_one (ps_set (i := 3) sc_law_ways.nd rfl (Or.inl rfl) (pe_op op_add (pv 3) (pe_op op_mul (pv 5) (pe_call G_law_ways (hr.mono (by first | decide | exact Nat.le_refl _)) (by rfl) D_law_ways.mg D_law_ways.fn.kp D_law_ways.bd .nil pass0 (pa_cons (pv 0) (pa_cons (pe_slice sl_tup (pv 1) (po_some pe_int) po_none) (pa_cons (pe_op op_sub (pv 2) (pv 4)) pa_nil))))))))
      pss_nil))))
    (pss_one (ps_ret (pv 3))))))), ?_⟩
    refine ⟨_, rfl, _, .inr (.inl ⟨_, SqT.of hst, rfl⟩), ?_⟩
    cases ss with
    | nil =>
      refine iteT ?_
      refine ⟨_, rfl, rfl, .inr ⟨_, rfl, ?_⟩⟩
      by_cases hp : parts = 0
      · subst hp
        exact k 1 H (Same.refl H) (Nat.le_refl _)
      · have e : decide (nv parts = V.int 0) = false := decide_eq_false fun q => hp (by have := V.int.inj q; omega)
        show Q (.int (if decide (nv parts = V.int 0) = true then 1 else 0)) H
        rw [e]
        exact k 0 H (Same.refl H) (Nat.zero_le _)
    | cons s0 ss =>
      refine iteF ?_
      have hs0 := hsn s0 List.mem_cons_self
      refine ⟨_, rfl, st, _, rfl, .inr (SqT.of hst), rfl, _, rfl, ite2 (fun c1 => ?_) (fun c1 => ?_)⟩
      · have e1 : ((((s0 :: ss).map nv).length : Nat) : Int) = 1 := V.int.inj (of_decide_eq_true c1)
        have e2 : ss = [] := by
          cases ss with
          | nil => rfl
          | cons x r =>
            rw [List.length_map, List.length_cons, List.length_cons] at e1
            omega
        subst e2
        obtain ⟨as, a, ns, x, g1, g2, g3, g4, g5⟩ := hC.get hpk hs0
        refine ⟨_, rfl, _, rfl, c, _, _, _, rfl, rfl, SqL.of g1, g2, _, rfl, st, _, 0, _, rfl, rfl, SqT.of hst, atI_nat (j := 0) rfl, a, _, _, _, rfl, rfl, SqL.of g3, g4, ?_⟩
        exact k x H (Same.refl H) (Nat.le_trans g5 (Fb_one parts))
      · -- total = 0; for size in range(1, parts)
        refine ⟨_, rfl, 1, parts, rfl, ⟨by decide, by decide, by omega, by omega⟩, for_range (lo := 1) (n := ((parts : Int) - 1).toNat) (fun i σ H' => ∃ (m : Nat) (y4 y5 : Option V), Same H H' ∧ m ≤ Sb (Fb ss.length) parts i ∧
            σ = [some (.ref c), some (.ref st), some (nv parts), some (nv m), y4, y5]) ⟨0, none, none, Same.refl H, Nat.zero_le _, rfl⟩ ?_ ?_⟩
        · rintro i σ H' hi ⟨m, y4, y5, sm, hm, rfl⟩
          have hi1 : i + 1 < parts := by omega
          have hC' := hC.mono sm
          obtain ⟨as, a, ns, x, g1, g2, g3, g4, g5⟩ := hC'.get (i := i + 1) (by omega) hs0
          have ei : (1 : Int) + (i : Int) = ((i + 1 : Nat) : Int) := by omega
          rw [ei]
          have hst' := sm _ _ hst
          refine ⟨_, rfl, _, rfl, c, _, _, _, rfl, rfl, SqL.of g1, g2, _, rfl, st, _, 0, _, rfl, rfl, SqT.of hst', atI_nat (j := 0) rfl, a, _, _, _, rfl, rfl, SqL.of g3, g4, ?_⟩
          refine ⟨_, rfl, _, _, rfl, rfl, _, rfl, ite2 (fun _ => ?_) (fun _ => ?_)⟩
          · have h64 := Nat.le_trans g5 (Rb_small (i + 1))
            refine ⟨_, rfl, _, rfl, _, rfl, _, rfl, 1, rfl, st, _, rfl, SqT.of hst', not_whole (by rw [List.length_map, List.length_cons]; omega), fun p hp => ?_⟩
            rw [cut_one]
            have s2 := same_new hp (o := .tup (((s0 :: ss).map nv).drop 1))
            refine ⟨_, rfl, _, rfl, _, _, rfl, rfl, c, p, kk, n, parts - (i + 1), ss, ?_, hC'.mono s2, upd_same, by rw [List.length_cons] at hd; omega, fun s hs => hsn s (List.mem_cons_of_mem _ hs), by omega, hk, fun m2 H2 s3 hm2 => ?_⟩
            · have e : V.int ((parts : Int) - ((i + 1 : Nat) : Int)) = nv (parts - (i + 1)) := congrArg V.int (by omega)
              show [V.ref c, V.ref p, V.int ((parts : Int) - ((i + 1 : Nat) : Int))] = _
              rw [e]
            · refine ⟨_, _, rfl, rfl, .inl ⟨by omega, by omega⟩, _, _, rfl, rfl, ?_⟩
              refine ⟨m + x * m2, some (V.int ((i + 1 : Nat) : Int)), some (nv x), sm.trans (s2.trans s3), ?_, ?_⟩
              · show m + x * m2 ≤ Sb (Fb ss.length) parts i + Rb (i + 1) * Fb ss.length (parts - (i + 1))
                exact Nat.add_le_add hm (Nat.mul_le_mul g5 hm2)
              · have e : V.int ((m : Int) + (x : Int) * (m2 : Int)) = nv (m + x * m2) := congrArg V.int (by rw [Int.natCast_add, Int.natCast_mul])
                show [some (V.ref c), some (.ref st), some (nv parts), some (V.int ((m : Int) + (x : Int) * (m2 : Int))), some (V.int ((i + 1 : Nat) : Int)), some (nv x)] = _
                rw [e]
          · exact ⟨m, _, _, sm, Nat.le_trans hm (Nat.le_add_right _ _), rfl⟩
        · rintro σ H' ⟨m, y4, y5, sm, hm, rfl⟩
          refine ⟨_, rfl, k m H' sm ?_⟩
          exact Nat.le_trans hm (Sb_mono _ _ (by omega))
theorem ok_law_ways {f : Addr} {fd : FuncData} (D : DefIs K mg "_law_ways" s_law_ways ["_law_counts_here", "_law_slots", "_law_parts"] f fd) (T : Txt mg) : ∀ d : Nat, FnOk P w K mg base CX0 d f fd ["_law_counts_here", "_law_slots", "_law_parts"] (sp_law_ways d)
  | 0 => none_left fun vs H Q E h => by
    obtain ⟨_, _, _, _, _, ss, _, _, _, h, _⟩ := h
    exact Nat.not_lt_zero _ h
  | d + 1 => ok_law_ways_one D T (ok_law_ways D T d)
end

/-! ### _law_counts -/
theorem CountsAt.snoc {H : Hp} {c r : Addr} {k n : Nat} (h : CountsAt H c k n) {ns : List Nat} (e : H r = some (.lst (ns.map nv))) (hl : ns.length = n) (hb : ∀ x ∈ ns, x ≤ Rb k) (hn : 1 ≤ n) (hk : 1 ≤ k) {as : List V} (hc : H c = some (.lst as)) :
    CountsAt (upd H c (.lst (as ++ [.ref r]))) c (k + 1) n := by
  obtain ⟨as', h1, h2, h3⟩ := h
  rw [hc] at h1
  have ea : as = as'.map V.ref := HO.lst.inj (Option.some.inj h1)
  subst ea
  have key : ∀ (a : Addr) (ms : List Nat), H a = some (.lst (ms.map nv)) → ms.length = n → a ≠ c := fun a ms g1 g2 q => by
    subst q
    rw [hc] at g1
    have z := HO.lst.inj (Option.some.inj g1)
    cases as' with
    | nil =>
      rw [List.length_nil] at h2
      omega
    | cons x as' =>
      cases ms with
      | nil =>
        rw [List.length_nil] at g2
        omega
      | cons m ms =>
        have q := (List.cons.inj z).1
        cases q
  refine ⟨as' ++ [r], by rw [upd_same, List.map_append]; rfl, by rw [List.length_append, h2]; rfl, fun i a e' => ?_⟩
  by_cases hi : i < as'.length
  · rw [List.getElem?_append_left hi] at e'
    obtain ⟨ms, g1, g2, g3⟩ := h3 i a e'
    exact ⟨ms, by rw [upd_ne (key a ms g1 g2)]; exact g1, g2, g3⟩
  · rw [List.getElem?_append_right (by omega)] at e'
    have hl' : i - as'.length < 1 := by
      have z := (List.getElem?_eq_some_iff.mp e').1
      rw [List.length_singleton] at z
      exact z
    have e0 : i = k := by omega
    have e1 : i - as'.length = 0 := by omega
    rw [e1] at e'
    cases e'
    subst e0
    exact ⟨ns, by rw [upd_ne (key r ns e hl)]; exact e, hl, hb⟩
theorem rep_nv (n : Nat) : (List.replicate n 0).map nv = List.replicate n (V.int 0) := by
  rw [List.map_replicate]
  rfl
abbrev s_law_counts : Stmt := top 23
abbrev N_law_counts : List Str := ["_law_family_here", "_law_top", "_law_counts_here", "_law_size_here", "_law_row", "_law_variant", "_law_state"]
theorem sc_law_counts : FnScope N_law_counts ["_law_family_here", "_law_top"] (defScope s_law_counts) := ⟨rfl, rfl, rfl, by decide +kernel, rfl, by decide +kernel, by decide +kernel⟩
def sp_law_counts : Sp := fun vs H Q _ => ∃ (f : Addr) (n : Nat) (rows : List Vrt), vs = [.ref f, .int 5] ∧ FamAt H f n rows ∧ Fine n rows ∧ ∀ (c : Addr) H', Same H H' → CountsAt H' c 6 n → Q (.ref c) H'
section
variable {P : Program} {w : World} {K : PySem.W.Frag} {mg : Str → Option Value} {base : Heap}
theorem ok_law_counts {f f1 : Addr} {fd fd1 : FuncData} (D : DefIs K mg "_law_counts" s_law_counts ["_law_family_here", "_law_top"] f fd) (T : Txt mg) (D_law_ways : DefIs K mg "_law_ways" s_law_ways ["_law_counts_here", "_law_slots", "_law_parts"] f1 fd1) : FnOk P w K mg base CX0 5 f fd ["_law_family_here", "_law_top"] sp_law_counts := by
  have G_law_ways : FnOk P w K mg base CX0 4 f1 fd1 ["_law_counts_here", "_law_slots", "_law_parts"] (sp_law_ways 4) := ok_law_ways D_law_ways T 4
  refine D.fn.ok sc_law_counts (fun vs H Q E h => ?_) (fun cdv A outer s H vs Q E hr h => ?_)
  · obtain ⟨f, n, rows, rfl, _⟩ := h
    rfl
  · obtain ⟨f, n, rows, rfl, hF, F, k⟩ := h
    obtain ⟨rt, vt, vs, hf, hvt, hR⟩ := id hF
    have n4 := F.n4
    have n1 := F.n1
    refine ⟨_, (pss_cons (ps_set (i := 2) sc_law_counts.nd rfl (Or.inl rfl) (pe_lst (pa_cons (pe_lc (own := [("_law_state", 6)]) (g := gName 6) (tt := tYes) rfl sc_law_counts.nd (pi_range1 (by rfl) T.b_range (pa_cons (pe_ix ix_tup (pv 0) pe_int (fun _ _ => rfl)) pa_nil)) (blkOk_by (own := [("_law_state", 6)]) (N := N_law_counts) (sc := defScope s_law_counts) (by decide +kernel)) (fun _ _ _ _ _ => pg_name (i := 6) sc_law_counts.nd rfl (Or.inl rfl)) (fun _ _ _ _ _ => pts_nil) (fun _ _ _ _ _ => pe_int)) pa_nil)))
    (pss_cons (ps_for PassesOwn.never rfl (pi_range2 (by rfl) T.b_range (pa_cons pe_int (pa_cons (pe_op op_add (pv 1) pe_int) pa_nil))) (pg_name (i := 3) sc_law_counts.nd rfl (Or.inl rfl))
    (pss_cons (ps_setLc (i := 4) (own := [("_law_state", 6)]) (g := gName 6) (tt := tYes) rfl sc_law_counts.nd rfl rfl (sw_true rfl rfl rfl (by decide +kernel)) (pi_range1 (by rfl) T.b_range (pa_cons (pe_ix ix_tup (pv 0) pe_int (fun _ _ => rfl)) pa_nil)) (blkOk_by (own := [("_law_state", 6)]) (N := N_law_counts) (sc := defScope s_law_counts) (by decide +kernel)) (fun _ _ _ _ _ => pg_name (i := 6) sc_law_counts.nd rfl (Or.inl rfl)) (fun _ _ _ _ _ => pts_nil) (fun _ _ _ _ _ => pe_int))
      (pss_cons (ps_for PassesOwn.never rfl (pi_tup (pe_ix ix_tup (pv 0) pe_int (fun _ _ => rfl))) (pg_name (i := 5) sc_law_counts.nd rfl (Or.inl rfl))
      (pss_one (ps_if (pt_cmpR op_notN (pe_ix ix_tup (pv 5) pe_int (fun _ _ => rfl)) pe_non (nomark _))
        (pss_one (ps_asg (pe_op op_add (pe_ix ix_list (pv 4) (pe_ix ix_tup (pv 5) pe_int (fun _ _ => rfl)) (fun _ _ => rfl)) (pe_call G_law_ways (hr.mono (by first | decide | exact Nat.le_refl _)) (by rfl) D_law_ways.mg D_law_ways.fn.kp D_law_ways.bd .nil pass0 (pa_cons (pv 2) (pa_cons (pe_ix ix_tup (pv 5) pe_int (fun _ _ => rfl)) (pa_cons (pe_op op_sub (pv 3) pe_int) pa_nil))))) (pg_sub (pv 4) (pe_ix ix_tup (pv 5) pe_int (fun _ _ => rfl)) set_list)))
        pss_nil)))
      (pss_one (ps_expr (pe_bm PySem.F.plainAttrs_list PySem.F.slot_list_append PySem.F.type_list_append mt_append (pv 2) (pa_cons (pv 4) pa_nil)))))))
    (pss_one (ps_ret (pv 2))))), ?_⟩
    -- counts = [[0 for state in range(family[0])]]
    refine ⟨_, rfl, f, _, 0, _, rfl, rfl, SqT.of hf, atI_nat (j := 0) rfl, n, rfl, by omega, by omega, fun r0 hr0 => ?_⟩
    refine lc_range (n := ((n : Int)).toNat) (fun i H' => Same H H' ∧ H' r0 = some (.lst (List.replicate i (.int 0)))) ⟨same_new hr0, upd_same⟩ ?_ ?_
    · rintro i H' hi ⟨sm, e⟩
      refine ⟨rfl, ?_⟩
      refine ⟨_, e, ?_, same_upd sm hr0, ?_⟩
      · rw [List.length_replicate]
        exact small1000 (by omega)
      · rw [upd_same, ← List.replicate_succ']
    rintro H1 ⟨s1, e1⟩
    rw [Int.toNat_natCast, ← rep_nv] at e1
    refine ⟨(by show 1 ≤ sizeLine; decide), fun c hc => ?_⟩
    have s2 := same_new hc (o := .lst [V.ref r0])
    have hHc : H c = none := s1.free hc
    have C0 : CountsAt (upd H1 c (.lst [V.ref r0])) c 1 n := by
      refine ⟨[r0], upd_same, rfl, fun i a e => ?_⟩
      cases i with
      | zero =>
        cases e
        refine ⟨_, s2 _ _ e1, List.length_replicate, fun x hx => ?_⟩
        rw [List.eq_of_mem_replicate hx]
        exact Nat.le_refl _
      | succ i => simp at e
    -- for size in range(1, top + 1)
    refine ⟨_, rfl, _, _, rfl, rfl, 1, 6, rfl, ⟨by decide, by decide, by decide, by decide⟩, for_range (lo := 1) (n := 5) (fun i σ H' => ∃ (y3 y4 y5 : Option V), Same H H' ∧ CountsAt H' c (i + 1) n ∧ σ = [some (.ref f), some (.int 5), some (.ref c), y3, y4, y5, none])
      ⟨none, none, none, s1.trans s2, C0, rfl⟩ ?_ ?_⟩
    · rintro i σ H2 hi ⟨y3, y4, y5, sm, hC, rfl⟩
      -- row = [0 for state in range(family[0])]
      refine ⟨_, rfl, f, _, 0, _, rfl, rfl, SqT.of (sm _ _ hf), atI_nat (j := 0) rfl, n, rfl, by omega, by omega, fun r hr => ?_⟩
      have hHr : H r = none := sm.free hr
      refine lc_range (n := ((n : Int)).toNat) (fun i H' => Same H2 H' ∧ H' r = some (.lst (List.replicate i (.int 0)))) ⟨same_new hr, upd_same⟩ ?_ ?_
      · rintro i H' hi ⟨sm, e⟩
        refine ⟨rfl, ?_⟩
        refine ⟨_, e, ?_, same_upd sm hr, ?_⟩
        · rw [List.length_replicate]
          exact small1000 (by omega)
        · rw [upd_same, ← List.replicate_succ']
      rintro H3 ⟨s3, e3⟩
      rw [Int.toNat_natCast, ← rep_nv] at e3
      -- for variant in family[2]
      have sm3 := sm.trans s3
      refine ⟨_, rfl, f, _, 2, _, rfl, rfl, SqT.of (sm3 _ _ hf), atI_nat (j := 2) rfl, vt, rfl, ⟨_, SqT.of (sm3 _ _ hvt)⟩, for_tup (K := K) (a := vt) (xs := vs) (fun j σ H' => ∃ (ns : List Nat) (y5 : Option V), Same H2 H' ∧ H' r = some (.lst (ns.map nv)) ∧ ns.length = n ∧ (∀ x ∈ ns, 14 * x ≤ j * Rb (i + 1)) ∧
          σ = [some (.ref f), some (.int 5), some (.ref c), some (.int (1 + (i : Int))), some (.ref r), y5, none])
          ⟨_, y5, s3, e3, List.length_replicate, fun x hx => by rw [List.eq_of_mem_replicate hx]; exact Nat.zero_le _, rfl⟩ (fun j σ H' _ hP => by obtain ⟨_, _, q, _⟩ := hP; exact SqT.of (q _ _ (sm _ _ hvt))) ?_ ?_⟩
      · rintro j y σ H' hj ⟨ns, y5, s4, e4, hnl, hnb, rfl⟩
        obtain ⟨q, hq, ha⟩ := hR.get hj
        have sm4 := sm.trans s4
        have ha' := ha.mono (Tups.of sm4)
        obtain ⟨a, b, rfl, h1, h2⟩ := id ha'
        have hqm : q ∈ rows := List.mem_of_getElem? hq
        have hpl : q.plug < ns.length := by rw [hnl]; exact F.plug q hqm
        have up : ∀ x ∈ ns, 14 * x ≤ (j + 1) * Rb (i + 1) := fun x hx => Nat.le_trans (hnb x hx) (Nat.mul_le_mul_right _ (Nat.le_succ j))
        refine ⟨_, rfl, a, _, 2, _, rfl, rfl, SqT.of h1, atI_nat (j := 2) rfl, rfl, _, rfl, ?_⟩
        cases q.price with
        | none => exact iteF ⟨ns, _, s4, e4, hnl, up, rfl⟩
        | some p =>
          refine iteT ?_
          have hat : atI (ns.map nv) (q.plug : Int) = some (nv ns[q.plug]) := at_map (List.getElem?_eq_getElem hpl)
          refine ⟨_, rfl, _, rfl, a, _, 0, _, rfl, rfl, SqT.of h1, atI_nat (j := 0) rfl, r, _, _, _, rfl, rfl, SqL.of e4, hat, ?_⟩
          refine ⟨_, rfl, _, rfl, a, _, 1, _, rfl, rfl, SqT.of h1, atI_nat (j := 1) rfl, _, rfl, _, _, rfl, rfl, c, b, i + 1, n, i, q.slots, ?_, hC.mono s4, h2, Nat.lt_succ_of_le (F.few q hqm), fun s hs => F.slot q hqm s hs, by omega, by omega, fun m H5 s5 hm => ?_⟩
          · have e : V.int (1 + (i : Int) - 1) = nv i := congrArg V.int (by omega)
            show [V.ref c, V.ref b, V.int (1 + (i : Int) - 1)] = _
            rw [e]
          have e5 := s5 _ _ e4
          have hfit := Fb_fits (i + 1) (by omega) (by omega) q.slots.length (Nat.lt_succ_of_le (F.few q hqm))
          rw [Nat.add_sub_cancel] at hfit
          refine ⟨_, _, rfl, rfl, _, rfl, _, rfl, a, _, 0, _, rfl, rfl, SqT.of (s5 _ _ h1), atI_nat (j := 0) rfl, r, _, _, q.plug, rfl, rfl, e5, ix_nat (by rw [List.length_map]; exact hpl), ?_⟩
          refine ⟨ns.set q.plug (ns[q.plug] + m), _, same_upd (s4.trans s5) hr, ?_, by rw [List.length_set]; exact hnl, fun x hx => ?_, rfl⟩
          · rw [upd_same, List.map_set]
            have e : V.int ((ns[q.plug] : Int) + (m : Int)) = nv (ns[q.plug] + m) := congrArg V.int (by omega)
            show some (HO.lst ((ns.map nv).set q.plug (V.int ((ns[q.plug] : Int) + (m : Int))))) = _
            rw [e]
          · rcases List.mem_or_eq_of_mem_set hx with z | z
            · exact up x z
            · have g1 := hnb _ (List.getElem_mem hpl)
              rw [Nat.add_mul, Nat.one_mul, z]
              omega
      · rintro σ H' ⟨ns, y5, s4, e4, hnl, hnb, rfl⟩
        -- counts.append(row)
        have hvl : vs.length ≤ 14 := by rw [hR.1]; exact F.len
        have hnb' : ∀ x ∈ ns, x ≤ Rb (i + 1) := fun x hx => by
          have g := hnb x hx
          have g2 : vs.length * Rb (i + 1) ≤ 14 * Rb (i + 1) := Nat.mul_le_mul_right _ hvl
          omega
        have hC4 := hC.mono s4
        obtain ⟨as, h1, h2, _⟩ := id hC4
        refine ⟨_, rfl, .inl ⟨rfl, _, SqL.of h1⟩, _, rfl, c, _, _, rfl, rfl, h1, ?_, ?_⟩
        · rw [List.length_map]
          exact small1000 (by omega)
        exact ⟨_, _, _, same_upd (sm.trans s4) hHc, hC4.snoc e4 hnl hnb' n1 (by omega) h1, rfl⟩
    · rintro σ H' ⟨y3, y4, y5, sm, hC, rfl⟩
      exact ⟨_, rfl, k c H' sm hC⟩
end

/-! ### _law_reach -/
abbrev s_law_reach : Stmt := top 24
abbrev N_law_reach : List Str := ["_law_counts_here", "_law_limit", "_law_total", "_law_size_here"]
theorem sc_law_reach : FnScope N_law_reach ["_law_counts_here", "_law_limit"] (defScope s_law_reach) := ⟨rfl, rfl, rfl, by decide +kernel, rfl, by decide +kernel, by decide +kernel⟩
def sp_law_reach : Sp := fun vs H Q _ => ∃ (c : Addr) (n : Nat), vs = [.ref c, .int 80] ∧ CountsAt H c 6 n ∧ ∀ q : Nat, q ≤ 5 → Q (nv q) H
section
variable {P : Program} {w : World} {K : PySem.W.Frag} {mg : Str → Option Value} {base : Heap}
theorem ok_law_reach {f : Addr} {fd : FuncData} (D : DefIs K mg "_law_reach" s_law_reach ["_law_counts_here", "_law_limit"] f fd) (T : Txt mg) : FnOk P w K mg base CX0 1 f fd ["_law_counts_here", "_law_limit"] sp_law_reach := by
  refine D.fn.ok sc_law_reach (fun vs H Q E h => ?_) (fun cdv A outer s H vs Q E hr h => ?_)
  · obtain ⟨c, n, rfl, _⟩ := h
    rfl
  · obtain ⟨c, n, rfl, ⟨as, h1, h2, h3⟩, k⟩ := h
    refine ⟨_, (pss_cons (ps_set (i := 2) sc_law_reach.nd rfl (Or.inl rfl) pe_int)
    (pss_cons (ps_for PassesOwn.never rfl (pi_range2 (by rfl) T.b_range (pa_cons pe_int (pa_cons (pe_callB call_len_seq (by rfl) T.b_len PySem.boot_len (pa_cons (pv 0) pa_nil)) pa_nil))) (pg_name (i := 3) sc_law_reach.nd rfl (Or.inl rfl))
    (pss_cons (ps_set (i := 2) sc_law_reach.nd rfl (Or.inl rfl) (pe_op op_add (pv 2) (pe_callB (cr_sum rfl) (by rfl) T.b_sum (by decide +kernel) (pa_cons (pe_ix ix_list (pv 0) (pv 3) (fun _ _ => rfl)) pa_nil))))
      (pss_one (ps_if (pt_cmpR op_gt (pv 2) (pv 1) (nomark _))
      (pss_one (ps_ret (pe_op op_sub (pv 3) pe_int)))
      pss_nil))))
    (pss_one (ps_ret (pe_op op_sub (pe_callB call_len_seq (by rfl) T.b_len PySem.boot_len (pa_cons (pv 0) pa_nil)) pe_int))))), ?_⟩
    refine ⟨_, rfl, c, _, rfl, .inl (SqL.of h1), 1, 6, ?_, ⟨by decide, by decide, by decide, by decide⟩, for_range (lo := 1) (n := 5) (fun i σ H' => H' = H ∧ ∃ (m : Int) (y3 : Option V), σ = [some (.ref c), some (.int 80), some (.int m), y3]) ⟨rfl, 0, none, rfl⟩ ?_ ?_⟩
    · rw [List.length_map, h2]
      rfl
    · rintro i σ H' hi ⟨rfl, m, y3, rfl⟩
      have hi' : i + 1 < as.length := by omega
      obtain ⟨ns, g1, g2, g3⟩ := h3 (i + 1) _ (List.getElem?_eq_getElem hi')
      have ei : (1 : Int) + (i : Int) = ((i + 1 : Nat) : Int) := by omega
      have hat : atI (as.map V.ref) (1 + (i : Int)) = some (.ref as[i + 1]) := by
        rw [ei]
        exact at_map (List.getElem?_eq_getElem hi')
      refine ⟨_, rfl, _, rfl, _, rfl, c, _, _, _, rfl, rfl, SqL.of h1, hat, as[i + 1], ns.map fun x : Nat => (x : Int), rfl, SqL.of (by rw [g1, List.map_map]; rfl), _, _, rfl, rfl, ?_⟩
      refine ⟨_, rfl, _, rfl, _, _, rfl, rfl, _, rfl, ite2 (fun _ => ?_) (fun _ => ⟨rfl, _, _, rfl⟩)⟩
      refine ⟨_, rfl, _, _, rfl, rfl, ?_⟩
      have e : V.int (1 + (i : Int) - 1) = nv i := congrArg V.int (by omega)
      show Q (V.int (1 + (i : Int) - 1)) _
      rw [e]
      exact k i (by omega)
    · rintro σ H' ⟨rfl, m, y3, rfl⟩
      refine ⟨_, rfl, c, _, rfl, .inl (SqL.of h1), _, _, rfl, rfl, ?_⟩
      have e : V.int ((((as.map V.ref).length : Nat) : Int) - 1) = nv 5 := by
        rw [List.length_map, h2]
        rfl
      show Q (V.int ((((as.map V.ref).length : Nat) : Int) - 1)) _
      rw [e]
      exact k 5 (Nat.le_refl _)
end
end KW
set_option Elab.async false
set_option linter.all false
set_option maxRecDepth 100000
set_option maxHeartbeats 4000000
/-! _law_fillings. -/
namespace KW
open PySem PySem.Spec PyProof.Rows L2 KR K30

/-! ### t + u of tracked tuples, t not empty -/
def rCatN : R2 := fun x y H Q => ∃ a b xs ys, x = .ref a ∧ y = .ref b ∧ H a = some (.tup xs) ∧ H b = some (.tup ys) ∧ xs ≠ [] ∧ xs.length + ys.length ≤ sizeLine ∧ ∀ q H', Same H H' → H' q = some (.tup (xs ++ ys)) → Q (.ref q) H'
theorem op_catN {X : Cx} : OpR X (binaryOp .Add) rCatN := by
  intro pins s σ H x y v u Q I rx ry h
  obtain ⟨a, b, xs, ys, rfl, rfl, ha, hb, hne, hz, q⟩ := h
  refine op_catA pins s σ H _ _ v u Q I rx ry ⟨a, b, xs, ys, rfl, rfl, SqT.of ha, SqT.of hb, hz, fun e => absurd e hne, fun _ e => ?_, fun _ _ p hp => ?_⟩
  · subst e
    refine q a H (Same.refl H) ?_
    rw [List.append_nil]
    exact ha
  · exact q p _ (same_new hp) upd_same

/-! ### bags of priced trees -/
def PairAt (H : Hp) (rs : List Vrt) (st : List Nat) (m : Nat) (v : V) : Prop := ∃ (p q : Addr) (t : List Nat), v = .ref p ∧ H p = some (.tup [nv (cost rs t), .ref q]) ∧ H q = some (.tup (t.map nv)) ∧ fits rs t st ∧ t.length = m
theorem PairAt.mono {H H' : Hp} {rs : List Vrt} {st : List Nat} {m : Nat} {v : V} (h : PairAt H rs st m v) (s : Tups H H') : PairAt H' rs st m v := by
  obtain ⟨p, q, t, e, h1, h2, h3⟩ := h
  exact ⟨p, q, t, e, s _ _ h1, s _ _ h2, h3⟩
def BagAt (H : Hp) (rs : List Vrt) (st : List Nat) (m B : Nat) (a : Addr) : Prop := ∃ vs : List V, H a = some (.lst vs) ∧ vs.length ≤ B ∧ ∀ v ∈ vs, PairAt H rs st m v
theorem BagAt.mono {H H' : Hp} {rs : List Vrt} {st : List Nat} {m B : Nat} {a : Addr} (h : BagAt H rs st m B a) (s : Same H H') : BagAt H' rs st m B a := by
  obtain ⟨vs, h1, h2, h3⟩ := h
  exact ⟨vs, s _ _ h1, h2, fun v hv => (h3 v hv).mono (Tups.of s)⟩
def LineAt (H : Hp) (rs : List Vrt) (n m : Nat) (c a : Addr) : Prop := ∃ bs : List Addr, H a = some (.lst (bs.map V.ref)) ∧ bs.length = n ∧ ∀ (s : Nat) (b : Addr), bs[s]? = some b → b ≠ c ∧ BagAt H rs [s] m (Rb m) b
theorem LineAt.mono {H H' : Hp} {rs : List Vrt} {n m : Nat} {c a : Addr} (h : LineAt H rs n m c a) (s : Same H H') : LineAt H' rs n m c a := by
  obtain ⟨bs, h1, h2, h3⟩ := h
  exact ⟨bs, s _ _ h1, h2, fun i b e => ⟨(h3 i b e).1, (h3 i b e).2.mono s⟩⟩
def TrAt (H : Hp) (rs : List Vrt) (n k : Nat) (c : Addr) : Prop := ∃ as : List Addr, H c = some (.lst (as.map V.ref)) ∧ as.length = k ∧ ∀ (m : Nat) (a : Addr), as[m]? = some a → a ≠ c ∧ LineAt H rs n m c a
theorem TrAt.mono {H H' : Hp} {rs : List Vrt} {n k : Nat} {c : Addr} (h : TrAt H rs n k c) (s : Same H H') : TrAt H' rs n k c := by
  obtain ⟨as, h1, h2, h3⟩ := h
  exact ⟨as, s _ _ h1, h2, fun i b e => ⟨(h3 i b e).1, (h3 i b e).2.mono s⟩⟩
theorem TrAt.get {H : Hp} {rs : List Vrt} {n k : Nat} {c : Addr} (h : TrAt H rs n k c) {m s : Nat} (hm : m < k) (hs : s < n) : ∃ (as bs : List Addr) (a b : Addr), H c = some (.lst (as.map V.ref)) ∧ atI (as.map V.ref) (m : Int) = some (.ref a) ∧ H a = some (.lst (bs.map V.ref)) ∧
    atI (bs.map V.ref) (s : Int) = some (.ref b) ∧ BagAt H rs [s] m (Rb m) b := by
  obtain ⟨as, h1, h2, h3⟩ := h
  have hm' : m < as.length := by rw [h2]; exact hm
  obtain ⟨_, bs, g1, g2, g3⟩ := h3 m _ (List.getElem?_eq_getElem hm')
  have hs' : s < bs.length := by rw [g2]; exact hs
  exact ⟨as, bs, _, _, h1, at_map (List.getElem?_eq_getElem hm'), g1, at_map (List.getElem?_eq_getElem hs'), (g3 s _ (List.getElem?_eq_getElem hs')).2⟩

abbrev s_law_fillings : Stmt := top 25
abbrev N_law_fillings : List Str := ["_law_rows", "_law_slots", "_law_parts", "_law_found", "_law_size_here", "_law_firsts", "_law_rest", "_law_first"]
theorem sc_law_fillings : FnScope N_law_fillings ["_law_rows", "_law_slots", "_law_parts"] (defScope s_law_fillings) := ⟨rfl, rfl, rfl, by decide +kernel, rfl, by decide +kernel, by decide +kernel⟩
def sp_law_fillings (d : Nat) : Sp := fun vs H Q _ => ∃ (c st : Addr) (rs : List Vrt) (k n parts : Nat) (ss : List Nat), vs = [.ref c, .ref st, nv parts] ∧ TrAt H rs n k c ∧ H st = some (.tup (ss.map nv)) ∧ ss.length < d ∧ ss.length ≤ 3 ∧ (∀ s ∈ ss, s < n) ∧ parts < k ∧ parts < 5 ∧
  ∀ (p : Addr) H', Same H H' → H p = none → BagAt H' rs ss parts (Fb ss.length parts) p → Q (.ref p) H'
section
variable {P : Program} {w : World} {K : PySem.W.Frag} {mg : Str → Option Value} {base : Heap}
theorem ok_law_fillings_one {f : Addr} {fd : FuncData} (D_law_fillings : DefIs K mg "_law_fillings" s_law_fillings ["_law_rows", "_law_slots", "_law_parts"] f fd) (T : Txt mg) {d : Nat} (G_law_fillings : FnOk P w K mg base CX0 d f fd ["_law_rows", "_law_slots", "_law_parts"] (sp_law_fillings d)) : FnOk P w K mg base CX0 (d + 1) f fd ["_law_rows", "_law_slots", "_law_parts"] (sp_law_fillings (d + 1)) := by
  refine D_law_fillings.fn.ok sc_law_fillings (fun vs H Q E h => ?_) (fun cdv A outer s H vs Q E hr h => ?_)
  · obtain ⟨c, st, rs, k, n, parts, ss, rfl, _⟩ := h
    rfl
  · obtain ⟨c, st, rs, kk, n, parts, ss, rfl, hC, hst, hd, h3, hsn, hpk, hp5, k⟩ := h
    refine ⟨_, (pss_cons (ps_if (pt_not (pt_truth (pv 1) (by intro _; rfl)))
    (pss_cons (ps_if (pt_cmpR op_eq (pv 2) pe_int (nomark _))
      (pss_one (ps_ret (pe_lst (pa_cons (pe_tup (pa_cons pe_int (pa_cons (pe_tup pa_nil) pa_nil))) pa_nil))))
      pss_nil)
      (pss_one (ps_ret (pe_lst pa_nil))))
    pss_nil)
    (pss_cons (ps_set (i := 3) sc_law_fillings.nd rfl (Or.inl rfl) (pe_lst pa_nil))
    (pss_cons (ps_for PassesOwn.never rfl (pi_range2 (by rfl) T.b_range (pa_cons pe_int (pa_cons (pe_op op_add (pv 2) pe_int) pa_nil))) (pg_name (i := 4) sc_law_fillings.nd rfl (Or.inl rfl))
    (pss_cons (ps_set (i := 5) sc_law_fillings.nd rfl (Or.inl rfl) (pe_ix ix_list (pe_ix ix_list (pv 0) (pv 4) (fun _ _ => rfl)) (pe_ix ix_tup (pv 1) pe_int (fun _ _ => rfl)) (fun _ _ => rfl)))
      (pss_one (ps_if (pt_truth (pv 5) (by intro _; rfl))
      (pss_one (ps_for PassesOwn.never rfl (pi_list (pe_call G_law_fillings (hr.mono (by first | decide | exact Nat.le_refl _)) (by rfl) D_law_fillings.mg D_law_fillings.fn.kp D_law_fillings.bd .nil pass0 (pa_cons (pv 0) (pa_cons (pe_slice sl_tup (pv 1) (po_some pe_int) po_none) (pa_cons (pe_op op_sub (pv 2) (pv 4)) pa_nil))))) (pg_name (i := 6) sc_law_fillings.nd rfl (Or.inl rfl))
        (pss_one (ps_for PassesOwn.never rfl (pi_list (pv 5)) (pg_name (i := 7) sc_law_fillings.nd rfl (Or.inl rfl))
          (pss_one (ps_expr (pe_bm PySem.F.plainAttrs_list PySem.F.slot_list_append PySem.F.type_list_append mt_append (pv 3) (pa_cons (pe_tup (pa_cons (pe_op op_add (pe_ix ix_tup (pv 7) pe_int (fun _ _ => rfl)) (pe_ix ix_tup (pv 6) pe_int (fun _ _ => rfl))) (pa_cons (pe_op op_catN (pe_ix ix_tup (pv 7) pe_int (fun _ _ => rfl)) (pe_ix ix_tup (pv 6) pe_int (fun _ _ => rfl))) pa_nil))) pa_nil))))))))
      pss_nil))))
    (pss_one (ps_ret (pv 3)))))), ?_⟩
    refine ⟨_, rfl, _, .inr (.inl ⟨_, SqT.of hst, rfl⟩), ?_⟩
    cases ss with
    | nil =>
      refine iteT ?_
      refine ⟨_, rfl, rfl, _, rfl, ite2 (fun c1 => ?_) (fun c1 => ?_)⟩
      · have hp0 : parts = 0 := by
          have q := V.int.inj (of_decide_eq_true c1)
          omega
        subst hp0
        refine ⟨Nat.zero_le _, fun q hq => ?_⟩
        have s1 := same_new hq (o := .tup [])
        refine ⟨(by show 2 ≤ sizeLine; decide), fun p hp => ?_⟩
        have s2 := same_new hp (o := .tup [V.int 0, .ref q])
        refine ⟨(by show 1 ≤ sizeLine; decide), fun l hl => ?_⟩
        have s3 := same_new hl (o := .lst [V.ref p])
        refine k l _ (s1.trans (s2.trans s3)) ((s1.trans s2).free hl) ⟨[.ref p], upd_same, Nat.le_refl _, fun v hv => ?_⟩
        have ev : v = .ref p := by simpa using hv
        subst ev
        exact ⟨p, q, [], rfl, s3 _ _ upd_same, s3 _ _ (s2 _ _ upd_same), rfl, rfl⟩
      · refine ⟨Nat.zero_le _, fun l hl => ?_⟩
        exact k l _ (same_new hl) hl ⟨[], upd_same, Nat.zero_le _, fun v hv => absurd hv List.not_mem_nil⟩
    | cons s0 ss =>
      refine iteF ?_
      have hs0 := hsn s0 List.mem_cons_self
      have hF := Fb_small (ss.length + 1) (by rw [List.length_cons] at h3; omega) parts hp5
      have hFe : Fb (ss.length + 1) parts = Sb (Fb ss.length) parts parts := rfl
      -- found = []
      refine ⟨Nat.zero_le _, fun fl hfl => ?_⟩
      -- for size in range(1, parts + 1)
      refine ⟨_, rfl, _, _, rfl, rfl, 1, _, rfl, ⟨by decide, by decide, by omega, by omega⟩, for_range (lo := 1) (n := ((parts : Int) + 1 - 1).toNat) (fun i σ H' => ∃ (xs : List V) (y4 y5 y6 y7 : Option V), Same H H' ∧ H' fl = some (.lst xs) ∧ xs.length ≤ Sb (Fb ss.length) parts i ∧
          (∀ v ∈ xs, PairAt H' rs (s0 :: ss) parts v) ∧ σ = [some (.ref c), some (.ref st), some (nv parts), some (.ref fl), y4, y5, y6, y7])
          ⟨[], none, none, none, none, same_new hfl, upd_same, Nat.zero_le _, fun v hv => absurd hv List.not_mem_nil, rfl⟩ ?_ ?_⟩
      · rintro i σ H1 hi ⟨xs, y4, y5, y6, y7, sm, ex, hxl, hxp, rfl⟩
        have hi1 : i + 1 ≤ parts := by omega
        have hC1 := hC.mono sm
        obtain ⟨as, bs, a, b, g1, g2, g3, g4, fs, g5, g6, g7⟩ := hC1.get (m := i + 1) (by omega) hs0
        have ei : (1 : Int) + (i : Int) = ((i + 1 : Nat) : Int) := by omega
        rw [ei]
        have hst1 := sm _ _ hst
        have hstep : Sb (Fb ss.length) parts (i + 1) ≤ 1613472 := by
          have q := Sb_mono (Fb ss.length) parts hi1
          omega
        have hSe : Sb (Fb ss.length) parts (i + 1) = Sb (Fb ss.length) parts i + Rb (i + 1) * Fb ss.length (parts - (i + 1)) := rfl
        -- firsts = rows[size][slots[0]]
        refine ⟨_, rfl, _, rfl, c, _, _, _, rfl, rfl, SqL.of g1, g2, _, rfl, st, _, 0, _, rfl, rfl, SqT.of hst1, atI_nat (j := 0) rfl, a, _, _, _, rfl, rfl, SqL.of g3, g4, ?_⟩
        refine ⟨_, rfl, _, .inl ⟨fs, SqL.of g5, rfl⟩, ite2 (fun c1 => ?_) (fun c1 => ?_)⟩
        · -- for rest in _law_fillings(rows, slots[1:], parts - size)
          refine ⟨_, rfl, _, rfl, 1, rfl, st, _, rfl, SqT.of hst1, not_whole (by rw [List.length_map, List.length_cons]; omega), fun p hp => ?_⟩
          rw [cut_one]
          have s2 := same_new hp (o := .tup (((s0 :: ss).map nv).drop 1))
          refine ⟨_, rfl, _, rfl, _, _, rfl, rfl, c, p, rs, kk, n, parts - (i + 1), ss, ?_, hC1.mono s2, upd_same, by rw [List.length_cons] at hd; omega, by rw [List.length_cons] at h3; omega, fun s hs => hsn s (List.mem_cons_of_mem _ hs), by omega, by omega, fun rp H2 s3 hrp hB => ?_⟩
          · have e : V.int ((parts : Int) - ((i + 1 : Nat) : Int)) = nv (parts - (i + 1)) := congrArg V.int (by omega)
            show [V.ref c, V.ref p, V.int ((parts : Int) - ((i + 1 : Nat) : Int))] = _
            rw [e]
          obtain ⟨us, h1, h2, h4⟩ := hB
          have s23 := s2.trans s3
          have sm2 := sm.trans s23
          have hfr : fl ≠ rp := fun e => by
            have q := s2 _ _ ex
            rw [e, hrp] at q
            cases q
          have hbf : b ≠ fl := fun e => by
            subst e
            have q := hC.get (m := i + 1) (by omega) hs0
            obtain ⟨as', bs', a', b', q1, q2, q3, q4, fs', q5, _⟩ := q
            have w1 := sm _ _ q1
            rw [g1] at w1
            have w1' := HO.lst.inj (Option.some.inj w1)
            rw [← w1', g2] at q2
            cases q2
            have w2 := sm _ _ q3
            rw [g3] at w2
            have w2' := HO.lst.inj (Option.some.inj w2)
            rw [← w2', g4] at q4
            cases q4
            rw [hfl] at q5
            cases q5
          refine ⟨rp, rfl, ⟨_, SqL.of h1⟩, for_list (K := K) (a := rp) (xs := us) (fun x σ H' => ∃ (xs : List V) (y6 y7 : Option V), Same H H' ∧ Tups H2 H' ∧ H' rp = some (.lst us) ∧ H' b = some (.lst fs) ∧ H' fl = some (.lst xs) ∧ xs.length ≤ Sb (Fb ss.length) parts i + x * fs.length ∧
              (∀ v ∈ xs, PairAt H' rs (s0 :: ss) parts v) ∧ σ = [some (.ref c), some (.ref st), some (nv parts), some (.ref fl), some (nv (i + 1)), some (.ref b), y6, y7])
              ⟨xs, y6, y7, sm2, Tups.refl, h1, s23 _ _ g5, s23 _ _ ex, by omega, fun v hv => (hxp v hv).mono (Tups.of s23), rfl⟩ (fun x σ H' _ hP => by obtain ⟨_, _, _, _, _, q, _⟩ := hP; exact SqL.of q) ?_ ?_⟩
          · rintro x u σ H3 hx ⟨xs, y6, y7, sm3, tp3, e1, e2, e3, hxl, hxp, rfl⟩
            have hxus : x < us.length := (List.getElem?_eq_some_iff.mp hx).1
            obtain ⟨up, uq, ut, rfl, u1, u2, u3, u4⟩ := h4 u (List.mem_of_getElem? hx)
            -- for first in firsts
            refine ⟨_, rfl, b, rfl, ⟨_, SqL.of e2⟩, for_list (K := K) (a := b) (xs := fs) (fun y σ H' => ∃ (xs : List V) (y7 : Option V), Same H H' ∧ Tups H2 H' ∧ H' rp = some (.lst us) ∧ H' b = some (.lst fs) ∧ H' fl = some (.lst xs) ∧ xs.length ≤ Sb (Fb ss.length) parts i + x * fs.length + y ∧
                (∀ v ∈ xs, PairAt H' rs (s0 :: ss) parts v) ∧ σ = [some (.ref c), some (.ref st), some (nv parts), some (.ref fl), some (nv (i + 1)), some (.ref b), some (.ref up), y7])
                ⟨xs, y7, sm3, tp3, e1, e2, e3, hxl, hxp, rfl⟩ (fun y σ H' _ hP => by obtain ⟨_, _, _, _, _, q, _⟩ := hP; exact SqL.of q) ?_ ?_⟩
            · rintro y v σ H4 hy ⟨xs, y7, sm4, tp4, e1, e2, e3, hxl, hxp, rfl⟩
              have hyfs : y < fs.length := (List.getElem?_eq_some_iff.mp hy).1
              obtain ⟨vp, vq, vt, rfl, v1, v2, v3, v4⟩ := ((g7 v (List.mem_of_getElem? hy)).mono (Tups.of s23)).mono tp4
              have u1' := tp4 _ _ u1
              have u2' := tp4 _ _ u2
              have hcount : xs.length < 1613472 := by
                have q1 : x * fs.length + fs.length ≤ us.length * fs.length := by
                  have q := Nat.mul_le_mul_right fs.length (show x + 1 ≤ us.length from hxus)
                  rw [Nat.add_mul, Nat.one_mul] at q
                  exact q
                have q2 : us.length * fs.length ≤ Fb ss.length (parts - (i + 1)) * Rb (i + 1) := Nat.mul_le_mul h2 g6
                rw [Nat.mul_comm (Rb (i + 1))] at hSe
                omega
              -- found.append((first[0] + rest[0], first[1] + rest[1]))
              refine ⟨_, rfl, .inl ⟨rfl, _, SqL.of e3⟩, ?_⟩
              refine ⟨_, rfl, vp, _, 0, _, rfl, rfl, SqT.of v1, atI_nat (j := 0) rfl, _, rfl, up, _, 0, _, rfl, rfl, SqT.of u1', atI_nat (j := 0) rfl, _, _, rfl, rfl, ?_⟩
              refine ⟨_, rfl, vp, _, 1, _, rfl, rfl, SqT.of v1, atI_nat (j := 1) rfl, _, rfl, up, _, 1, _, rfl, rfl, SqT.of u1', atI_nat (j := 1) rfl, vq, uq, _, _, rfl, rfl, v2, u2', ?_, ?_, fun q H5 s5 hq => ?_⟩
              · intro e
                exact fits_ne v3 (List.map_eq_nil_iff.mp e)
              · rw [List.length_map, List.length_map]
                exact Nat.le_of_lt (small1000 (by omega))
              refine ⟨(by show 2 ≤ sizeLine; decide), fun np hnp => ?_⟩
              have ec : V.int ((cost rs vt : Int) + (cost rs ut : Int)) = nv (cost rs (vt ++ ut)) := congrArg V.int (by rw [cost_append]; omega)
              have s6 := same_new hnp (o := .tup [V.int ((cost rs vt : Int) + (cost rs ut : Int)), .ref q])
              have s56 := s5.trans s6
              have e3' := s56 _ _ e3
              refine ⟨fl, xs, _, rfl, rfl, e3', Nat.lt_of_lt_of_le hcount (by rw [sizeLine_eq]; decide), ?_⟩
              have tp7 : Tups H4 (upd (upd H5 np (.tup [V.int ((cost rs vt : Int) + (cost rs ut : Int)), .ref q])) fl (.lst (xs ++ [.ref np]))) := (Tups.of s56).trans (Tups.upd_list e3')
              refine ⟨xs ++ [.ref np], _, same_upd (sm4.trans s56) hfl, tp4.trans tp7, by rw [upd_ne hfr.symm]; exact s56 _ _ e1, by rw [upd_ne hbf]; exact s56 _ _ e2, upd_same, ?_, fun z hz => ?_, rfl⟩
              · rw [List.length_append, List.length_singleton]
                omega
              · rcases List.mem_append.mp hz with w | w
                · exact (hxp z w).mono tp7
                · have ez : z = .ref np := by simpa using w
                  subst ez
                  refine PairAt.mono ?_ (Tups.upd_list e3')
                  refine ⟨np, q, vt ++ ut, rfl, (by rw [upd_same]; show some (HO.tup [V.int ((cost rs vt : Int) + (cost rs ut : Int)), .ref q]) = _; rw [ec]), ?_, ?_, ?_⟩
                  · rw [List.map_append]
                    exact s6 _ _ hq
                  · exact fits_append u3 v3
                  · rw [List.length_append]
                    omega
            · rintro σ H4 ⟨xs, y7, sm4, tp4, e1, e2, e3, hxl, hxp, rfl⟩
              refine ⟨xs, _, _, sm4, tp4, e1, e2, e3, ?_, hxp, rfl⟩
              rw [Nat.add_mul, Nat.one_mul]
              omega
          · rintro σ H3 ⟨xs, y6, y7, sm3, tp3, e1, e2, e3, hxl, hxp, rfl⟩
            refine ⟨xs, _, _, _, _, sm3, e3, ?_, hxp, rfl⟩
            have q2 : us.length * fs.length ≤ Fb ss.length (parts - (i + 1)) * Rb (i + 1) := Nat.mul_le_mul h2 g6
            rw [Nat.mul_comm (Rb (i + 1))] at hSe
            omega
        · exact ⟨xs, _, _, _, _, sm, ex, Nat.le_trans hxl (by omega), hxp, rfl⟩
      · rintro σ H1 ⟨xs, y4, y5, y6, y7, sm, ex, hxl, hxp, rfl⟩
        have en : ((parts : Int) + 1 - 1).toNat = parts := by omega
        rw [en] at hxl
        exact ⟨_, rfl, k fl H1 sm hfl ⟨xs, ex, hxl, hxp⟩⟩
theorem ok_law_fillings {f : Addr} {fd : FuncData} (D : DefIs K mg "_law_fillings" s_law_fillings ["_law_rows", "_law_slots", "_law_parts"] f fd) (T : Txt mg) : ∀ d : Nat, FnOk P w K mg base CX0 d f fd ["_law_rows", "_law_slots", "_law_parts"] (sp_law_fillings d)
  | 0 => none_left fun vs H Q E h => by
    obtain ⟨_, _, _, _, _, _, ss, _, _, _, h, _⟩ := h
    exact Nat.not_lt_zero _ h
  | d + 1 => ok_law_fillings_one D T (ok_law_fillings D T d)
end
end KW
set_option Elab.async false
set_option linter.all false
set_option maxRecDepth 100000
set_option maxHeartbeats 4000000
/-! _law_trees. -/
namespace KW
open PySem PySem.Spec PyProof.Rows L2 KR K30

/-- new bags, all empty, none twice -/
structure Bags (H0 H : Hp) (D : Addr) (cs : List Addr) : Prop where
  same : Same H0 H
  lst : H D = some (.lst (cs.map V.ref))
  nd : cs.Nodup
  fresh : ∀ b ∈ cs, H0 b = none
  ne : ∀ b ∈ cs, b ≠ D
  emp : ∀ b ∈ cs, H b = some (.lst [])
/-- the bags of a row that is being made -/
structure Making (H0 H : Hp) (rs : List Vrt) (n m B : Nat) (D : Addr) (cs : List Addr) : Prop where
  same : Same H0 H
  lst : H D = some (.lst (cs.map V.ref))
  len : cs.length = n
  nd : cs.Nodup
  fresh : ∀ b ∈ cs, H0 b = none
  ne : ∀ b ∈ cs, b ≠ D
  bag : ∀ (s : Nat) (b : Addr), cs[s]? = some b → BagAt H rs [s] m B b
theorem nodup_at {α : Type} {l : List α} (h : l.Nodup) {i j : Nat} {x : α} (a : l[i]? = some x) (b : l[j]? = some x) : i = j := by
  have hi := (List.getElem?_eq_some_iff.mp a).1
  have hj := (List.getElem?_eq_some_iff.mp b).1
  have e : l[i] = l[j] := by
    rw [(List.getElem?_eq_some_iff.mp a).2, (List.getElem?_eq_some_iff.mp b).2]
  exact (List.getElem_inj h).mp e
theorem Bags.start {H0 H : Hp} {D : Addr} (s : Same H0 H) (h : H D = some (.lst [])) : Bags H0 H D [] :=
  ⟨s, h, List.nodup_nil, fun b hb => absurd hb List.not_mem_nil, fun b hb => absurd hb List.not_mem_nil, fun b hb => absurd hb List.not_mem_nil⟩
theorem Bags.snoc {H0 H : Hp} {D l : Addr} {cs : List Addr} (h : Bags H0 H D cs) (hD : H0 D = none) (hl : H l = none) : Bags H0 (upd (upd H l (.lst [])) D (.lst (cs.map V.ref ++ [.ref l]))) D (cs ++ [l]) := by
  have nl : l ≠ D := (ne_of_none h.lst hl).symm
  have hcl : ∀ b ∈ cs, b ≠ l := fun b hb => ne_of_none (h.emp b hb) hl
  refine ⟨same_upd (h.same.trans (same_new hl)) hD, by rw [upd_same, List.map_append]; rfl, ?_, fun b hb => ?_, fun b hb => ?_, fun b hb => ?_⟩
  · refine List.nodup_append.mpr ⟨h.nd, by simp, fun b hb c hc => ?_⟩
    have e : c = l := by simpa using hc
    subst e
    exact hcl b hb
  · rcases List.mem_append.mp hb with q | q
    · exact h.fresh b q
    · have e : b = l := by simpa using q
      subst e
      exact h.same.free hl
  · rcases List.mem_append.mp hb with q | q
    · exact h.ne b q
    · have e : b = l := by simpa using q
      subst e
      exact nl
  · rcases List.mem_append.mp hb with q | q
    · rw [upd_ne (h.ne b q), upd_ne (hcl b q)]
      exact h.emp b q
    · have e : b = l := by simpa using q
      subst e
      rw [upd_ne nl, upd_same]
theorem Bags.making {H0 H : Hp} {D : Addr} {cs : List Addr} (h : Bags H0 H D cs) {rs : List Vrt} {n m : Nat} (hn : cs.length = n) : Making H0 H rs n m 0 D cs :=
  ⟨h.same, h.lst, hn, h.nd, h.fresh, h.ne, fun s b e => ⟨[], h.emp b (List.mem_of_getElem? e), Nat.le_refl _, fun v hv => absurd hv List.not_mem_nil⟩⟩
theorem Making.mono {H0 H H' : Hp} {rs : List Vrt} {n m B : Nat} {D : Addr} {cs : List Addr} (h : Making H0 H rs n m B D cs) (s : Same H H') : Making H0 H' rs n m B D cs :=
  ⟨h.same.trans s, s _ _ h.lst, h.len, h.nd, h.fresh, h.ne, fun i b e => (h.bag i b e).mono s⟩
theorem BagAt.more {H : Hp} {rs : List Vrt} {st : List Nat} {m B B' : Nat} {a : Addr} (h : BagAt H rs st m B a) (hb : B ≤ B') : BagAt H rs st m B' a := by
  obtain ⟨vs, h1, h2, h3⟩ := h
  exact ⟨vs, h1, Nat.le_trans h2 hb, h3⟩
theorem Making.more {H0 H : Hp} {rs : List Vrt} {n m B B' : Nat} {D : Addr} {cs : List Addr} (h : Making H0 H rs n m B D cs) (hb : B ≤ B') : Making H0 H rs n m B' D cs :=
  ⟨h.same, h.lst, h.len, h.nd, h.fresh, h.ne, fun i b e => (h.bag i b e).more hb⟩
/-- one more tree in the bag of the state s -/
theorem Making.put {H0 H : Hp} {rs : List Vrt} {n m B s : Nat} {D b : Addr} {cs : List Addr} {vs : List V} {v : V} (h : Making H0 H rs n m B D cs) (hs : cs[s]? = some b) (hb : H b = some (.lst vs)) (hv : PairAt H rs [s] m v) : Making H0 (upd H b (.lst (vs ++ [v]))) rs n m (B + 1) D cs := by
  have hm : b ∈ cs := List.mem_of_getElem? hs
  have tp : Tups H (upd H b (.lst (vs ++ [v]))) := Tups.upd_list hb
  refine ⟨same_upd h.same (h.fresh b hm), by rw [upd_ne (h.ne b hm).symm]; exact h.lst, h.len, h.nd, h.fresh, h.ne, fun i c e => ?_⟩
  obtain ⟨us, g1, g2, g3⟩ := h.bag i c e
  by_cases hc : c = b
  · subst hc
    have ei : i = s := nodup_at h.nd e hs
    subst ei
    rw [hb] at g1
    cases g1
    refine ⟨_, upd_same, by rw [List.length_append, List.length_singleton]; omega, fun u hu => ?_⟩
    rcases List.mem_append.mp hu with q | q
    · exact (g3 u q).mono tp
    · have eu : u = v := by simpa using q
      subst eu
      exact hv.mono tp
  · exact ⟨us, by rw [upd_ne hc]; exact g1, by omega, fun u hu => (g3 u hu).mono tp⟩
/-- the row is done and appended -/
theorem TrAt.snoc {H0 H : Hp} {rs : List Vrt} {n k B : Nat} {c D : Addr} {cs : List Addr} {as : List V} (h : TrAt H0 rs n k c) (M : Making H0 H rs n k B D cs) (hB : B ≤ Rb k) (hD : H0 D = none) (hc : H c = some (.lst as)) : TrAt (upd H c (.lst (as ++ [.ref D]))) rs n (k + 1) c := by
  obtain ⟨as', h1, h2, h3⟩ := h
  have hc' := M.same _ _ h1
  rw [hc] at hc'
  have ea : as = as'.map V.ref := HO.lst.inj (Option.some.inj hc')
  subst ea
  have tp : Tups H (upd H c (.lst (as'.map V.ref ++ [.ref D]))) := Tups.upd_list hc
  have nDc : D ≠ c := (ne_of_none h1 hD).symm
  have bag : ∀ {st : List Nat} {m B : Nat} {b : Addr}, b ≠ c → BagAt H rs st m B b → BagAt (upd H c (.lst (as'.map V.ref ++ [.ref D]))) rs st m B b := fun {st m B b} hb ⟨vs, g1, g2, g3⟩ =>
    ⟨vs, by rw [upd_ne hb]; exact g1, g2, fun v hv => (g3 v hv).mono tp⟩
  refine ⟨as' ++ [D], by rw [upd_same, List.map_append]; rfl, by rw [List.length_append, h2]; rfl, fun m a e => ?_⟩
  by_cases hm : m < as'.length
  · rw [List.getElem?_append_left hm] at e
    obtain ⟨na, bs, g1, g2, g3⟩ := h3 m a e
    refine ⟨na, bs, by rw [upd_ne na]; exact M.same _ _ g1, g2, fun s b eb => ?_⟩
    obtain ⟨nb, hb⟩ := g3 s b eb
    exact ⟨nb, bag nb (hb.mono M.same)⟩
  · rw [List.getElem?_append_right (by omega)] at e
    have hl' : m - as'.length < 1 := by
      have z := (List.getElem?_eq_some_iff.mp e).1
      rw [List.length_singleton] at z
      exact z
    have e0 : m = k := by omega
    have e1 : m - as'.length = 0 := by omega
    rw [e1] at e
    cases e
    subst e0
    refine ⟨nDc, cs, by rw [upd_ne nDc]; exact M.lst, M.len, fun s b eb => ?_⟩
    have nb : b ≠ c := (ne_of_none h1 (M.fresh b (List.mem_of_getElem? eb))).symm
    exact ⟨nb, bag nb ((M.bag s b eb).more hB)⟩

abbrev s_law_trees : Stmt := top 26
abbrev N_law_trees : List Str := ["_law_family_here", "_law_top", "_law_rows", "_law_size_here", "_law_row", "_law_number", "_law_variant", "_law_filling", "_law_state"]
theorem sc_law_trees : FnScope N_law_trees ["_law_family_here", "_law_top"] (defScope s_law_trees) := ⟨rfl, rfl, rfl, by decide +kernel, rfl, by decide +kernel, by decide +kernel⟩
def sp_law_trees : Sp := fun vs H Q _ => ∃ (f : Addr) (n q : Nat) (rs : List Vrt), vs = [.ref f, nv q] ∧ FamAt H f n rs ∧ Fine n rs ∧ q ≤ 5 ∧ ∀ (c : Addr) H', Same H H' → TrAt H' rs n (q + 1) c → Q (.ref c) H'
section
variable {P : Program} {w : World} {K : PySem.W.Frag} {mg : Str → Option Value} {base : Heap}
theorem ok_law_trees {f f1 : Addr} {fd fd1 : FuncData} (D : DefIs K mg "_law_trees" s_law_trees ["_law_family_here", "_law_top"] f fd) (T : Txt mg) (D_law_fillings : DefIs K mg "_law_fillings" s_law_fillings ["_law_rows", "_law_slots", "_law_parts"] f1 fd1) : FnOk P w K mg base CX0 5 f fd ["_law_family_here", "_law_top"] sp_law_trees := by
  have G_law_fillings : FnOk P w K mg base CX0 4 f1 fd1 ["_law_rows", "_law_slots", "_law_parts"] (sp_law_fillings 4) := ok_law_fillings D_law_fillings T 4
  refine D.fn.ok sc_law_trees (fun vs H Q E h => ?_) (fun cdv A outer s H vs Q E hr h => ?_)
  · obtain ⟨f, n, q, rs, rfl, _⟩ := h
    rfl
  · obtain ⟨f, n, q, rs, rfl, hF, F, hq5, k⟩ := h
    obtain ⟨rt, vt, vs, hf, hvt, hR⟩ := id hF
    have n4 := F.n4
    have n1 := F.n1
    refine ⟨_, (pss_cons (ps_set (i := 2) sc_law_trees.nd rfl (Or.inl rfl) (pe_lst (pa_cons (pe_lc (own := [("_law_state", 8)]) (g := gName 8) (tt := tYes) rfl sc_law_trees.nd (pi_range1 (by rfl) T.b_range (pa_cons (pe_ix ix_tup (pv 0) pe_int (fun _ _ => rfl)) pa_nil)) (blkOk_by (own := [("_law_state", 8)]) (N := N_law_trees) (sc := defScope s_law_trees) (by decide +kernel)) (fun _ _ _ _ _ => pg_name (i := 8) sc_law_trees.nd rfl (Or.inl rfl)) (fun _ _ _ _ _ => pts_nil) (fun _ _ _ _ _ => (pe_lst pa_nil))) pa_nil)))
    (pss_cons (ps_for PassesOwn.never rfl (pi_range2 (by rfl) T.b_range (pa_cons pe_int (pa_cons (pe_op op_add (pv 1) pe_int) pa_nil))) (pg_name (i := 3) sc_law_trees.nd rfl (Or.inl rfl))
    (pss_cons (ps_setLc (i := 4) (own := [("_law_state", 8)]) (g := gName 8) (tt := tYes) rfl sc_law_trees.nd rfl rfl (sw_true rfl rfl rfl (by decide +kernel)) (pi_range1 (by rfl) T.b_range (pa_cons (pe_ix ix_tup (pv 0) pe_int (fun _ _ => rfl)) pa_nil)) (blkOk_by (own := [("_law_state", 8)]) (N := N_law_trees) (sc := defScope s_law_trees) (by decide +kernel)) (fun _ _ _ _ _ => pg_name (i := 8) sc_law_trees.nd rfl (Or.inl rfl)) (fun _ _ _ _ _ => pts_nil) (fun _ _ _ _ _ => (pe_lst pa_nil)))
      (pss_cons (ps_for PassesOwn.never rfl (pi_range1 (by rfl) T.b_range (pa_cons (pe_callB call_len_seq (by rfl) T.b_len PySem.boot_len (pa_cons (pe_ix ix_tup (pv 0) pe_int (fun _ _ => rfl)) pa_nil)) pa_nil)) (pg_name (i := 5) sc_law_trees.nd rfl (Or.inl rfl))
      (pss_cons (ps_set (i := 6) sc_law_trees.nd rfl (Or.inl rfl) (pe_ix ix_tup (pe_ix ix_tup (pv 0) pe_int (fun _ _ => rfl)) (pv 5) (fun _ _ => rfl)))
        (pss_one (ps_if (pt_cmpR op_notN (pe_ix ix_tup (pv 6) pe_int (fun _ _ => rfl)) pe_non (nomark _))
        (pss_one (ps_for PassesOwn.never rfl (pi_list (pe_call G_law_fillings (hr.mono (by first | decide | exact Nat.le_refl _)) (by rfl) D_law_fillings.mg D_law_fillings.fn.kp D_law_fillings.bd .nil pass0 (pa_cons (pv 2) (pa_cons (pe_ix ix_tup (pv 6) pe_int (fun _ _ => rfl)) (pa_cons (pe_op op_sub (pv 3) pe_int) pa_nil))))) (pg_name (i := 7) sc_law_trees.nd rfl (Or.inl rfl))
          (pss_one (ps_expr (pe_bm PySem.F.plainAttrs_list PySem.F.slot_list_append PySem.F.type_list_append mt_append (pe_ix ix_list (pv 4) (pe_ix ix_tup (pv 6) pe_int (fun _ _ => rfl)) (fun _ _ => rfl)) (pa_cons (pe_tup (pa_cons (pe_op op_add (pe_ix ix_tup (pv 6) pe_int (fun _ _ => rfl)) (pe_ix ix_tup (pv 7) pe_int (fun _ _ => rfl))) (pa_cons (pe_op op_catN (pe_tup (pa_cons (pv 5) pa_nil)) (pe_ix ix_tup (pv 7) pe_int (fun _ _ => rfl))) pa_nil))) pa_nil))))))
        pss_nil))))
      (pss_one (ps_expr (pe_bm PySem.F.plainAttrs_list PySem.F.slot_list_append PySem.F.type_list_append mt_append (pv 2) (pa_cons (pv 4) pa_nil)))))))
    (pss_one (ps_ret (pv 2))))), ?_⟩
    -- rows = [[[] for state in range(family[0])]]
    refine ⟨_, rfl, f, _, 0, _, rfl, rfl, SqT.of hf, atI_nat (j := 0) rfl, n, rfl, by omega, by omega, fun r0 hr0 => ?_⟩
    refine lc_range (n := ((n : Int)).toNat) (fun i H' => ∃ cs : List Addr, Bags H H' r0 cs ∧ cs.length = i) ⟨[], Bags.start (same_new hr0) upd_same, rfl⟩ ?_ ?_
    · rintro i H' hi ⟨cs, B, hl⟩
      refine ⟨rfl, ?_⟩
      refine ⟨Nat.zero_le _, fun l hl' => ?_⟩
      refine ⟨_, same_new hl' _ _ B.lst, ?_, cs ++ [l], B.snoc hr0 hl', by rw [List.length_append, hl]; rfl⟩
      rw [List.length_map]
      exact small1000 (by omega)
    rintro H1 ⟨cs, B, hcl⟩
    rw [Int.toNat_natCast] at hcl
    refine ⟨(by show 1 ≤ sizeLine; decide), fun c hc => ?_⟩
    have s2 := same_new hc (o := .lst [V.ref r0])
    have hHc : H c = none := B.same.free hc
    have C0 : TrAt (upd H1 c (.lst [V.ref r0])) rs n 1 c := by
      refine ⟨[r0], upd_same, rfl, fun i a e => ?_⟩
      cases i with
      | zero =>
        cases e
        refine ⟨ne_of_none B.lst hc, cs, s2 _ _ B.lst, hcl, fun s b eb => ?_⟩
        have hm : b ∈ cs := List.mem_of_getElem? eb
        exact ⟨ne_of_none (B.emp b hm) hc, [], s2 _ _ (B.emp b hm), Nat.zero_le _, fun v hv => absurd hv List.not_mem_nil⟩
      | succ i => simp at e
    -- for size in range(1, top + 1)
    refine ⟨_, rfl, _, _, rfl, rfl, 1, _, rfl, ⟨by decide, by decide, by omega, by omega⟩, for_range (lo := 1) (n := ((q : Int) + 1 - 1).toNat) (fun i σ H' => ∃ (y3 y4 y5 y6 y7 : Option V), Same H H' ∧ TrAt H' rs n (i + 1) c ∧ σ = [some (.ref f), some (nv q), some (.ref c), y3, y4, y5, y6, y7, none])
      ⟨none, none, none, none, none, B.same.trans s2, C0, rfl⟩ ?_ ?_⟩
    · rintro i σ H2 hi ⟨y3, y4, y5, y6, y7, sm, hC, rfl⟩
      have hi5 : i < 5 := by omega
      -- row = [[] for state in range(family[0])]
      refine ⟨_, rfl, f, _, 0, _, rfl, rfl, SqT.of (sm _ _ hf), atI_nat (j := 0) rfl, n, rfl, by omega, by omega, fun r hr => ?_⟩
      have hHr : H r = none := sm.free hr
      refine lc_range (n := ((n : Int)).toNat) (fun i H' => ∃ cs : List Addr, Bags H2 H' r cs ∧ cs.length = i) ⟨[], Bags.start (same_new hr) upd_same, rfl⟩ ?_ ?_
      · rintro i H' hi ⟨cs, B, hl⟩
        refine ⟨rfl, ?_⟩
        refine ⟨Nat.zero_le _, fun l hl' => ?_⟩
        refine ⟨_, same_new hl' _ _ B.lst, ?_, cs ++ [l], B.snoc hr hl', by rw [List.length_append, hl]; rfl⟩
        rw [List.length_map]
        exact small1000 (by omega)
      rintro H3 ⟨cs, B3, hcl⟩
      rw [Int.toNat_natCast] at hcl
      have M3 : Making H2 H3 rs n (i + 1) 0 r cs := B3.making hcl
      have sm3 := sm.trans B3.same
      have ei : V.int (1 + (i : Int)) = nv (i + 1) := congrArg V.int (by omega)
      have h14 := F.len
      -- for number in range(len(family[2]))
      refine ⟨_, rfl, f, _, 2, _, rfl, rfl, SqT.of (sm3 _ _ hf), atI_nat (j := 2) rfl, vt, vs, rfl, .inr (SqT.of (sm3 _ _ hvt)), rs.length, (by rw [hR.1]), by omega, by omega, for_range (n := ((rs.length : Int)).toNat) (fun j σ H' => ∃ (Bn : Nat) (y5 y6 y7 : Option V), Making H2 H' rs n (i + 1) Bn r cs ∧ 14 * Bn ≤ j * Rb (i + 1) ∧
          σ = [some (.ref f), some (nv q), some (.ref c), some (nv (i + 1)), some (.ref r), y5, y6, y7, none])
          ⟨0, y5, y6, y7, M3, Nat.zero_le _, ?_⟩ ?_ ?_⟩
      · show [some (V.ref f), some (nv q), some (.ref c), some (V.int (1 + (i : Int))), some (.ref r), y5, y6, y7, none] = _
        rw [ei]
      · rintro j σ H' hj ⟨Bn, y5, y6, y7, M, hBn, rfl⟩
        have hjl : j < rs.length := by omega
        obtain ⟨v, hv, ha⟩ := hR.2 j _ (List.getElem?_eq_getElem hjl)
        have sm4 := sm.trans M.same
        have ha' := ha.mono (Tups.of sm4)
        obtain ⟨a, b, rfl, h1, h2⟩ := id ha'
        have hqm : rs[j] ∈ rs := List.getElem_mem hjl
        have hpl := F.plug _ hqm
        have few := F.few _ hqm
        have ej : (0 : Int) + (j : Int) = (j : Int) := Int.zero_add _
        rw [ej]
        -- variant = family[2][number]
        refine ⟨_, rfl, f, _, 2, _, rfl, rfl, SqT.of (sm4 _ _ hf), atI_nat (j := 2) rfl, _, rfl, vt, vs, _, _, rfl, rfl, SqT.of (sm4 _ _ hvt), atI_nat hv, ?_⟩
        refine ⟨_, rfl, a, _, 2, _, rfl, rfl, SqT.of h1, atI_nat (j := 2) rfl, rfl, _, rfl, ?_⟩
        cases ep : rs[j].price with
        | none =>
          refine iteF ⟨Bn, _, _, _, M, Nat.le_trans hBn (Nat.mul_le_mul_right _ (Nat.le_succ j)), rfl⟩
        | some p =>
          rw [ep] at h1
          refine iteT ?_
          have hfit := Fb_fits (i + 1) (by omega) (by omega) rs[j].slots.length (Nat.lt_succ_of_le few)
          rw [Nat.add_sub_cancel] at hfit
          have hRs := Rb_small (i + 1)
          -- for filling in _law_fillings(rows, variant[1], size - 1)
          refine ⟨_, rfl, _, rfl, a, _, 1, _, rfl, rfl, SqT.of h1, atI_nat (j := 1) rfl, _, rfl, _, _, rfl, rfl, c, b, rs, i + 1, n, i, rs[j].slots, ?_, hC.mono M.same, h2, Nat.lt_succ_of_le few, few, fun s hs => F.slot _ hqm s hs, by omega, hi5, fun fp H5 s5 hfp hBag => ?_⟩
          · have e : V.int (((i + 1 : Nat) : Int) - 1) = nv i := congrArg V.int (by omega)
            show [V.ref c, V.ref b, V.int (((i + 1 : Nat) : Int) - 1)] = _
            rw [e]
          obtain ⟨us, u1, u2, u3⟩ := hBag
          have M5 := M.mono s5
          have hfpcs : ∀ x ∈ cs, x ≠ fp := fun x hx e => by
            subst e
            obtain ⟨s', hs', es'⟩ := List.getElem_of_mem hx
            obtain ⟨ws, w1, _⟩ := M.bag s' x (by rw [List.getElem?_eq_getElem hs', es'])
            rw [hfp] at w1
            cases w1
          refine ⟨fp, rfl, ⟨_, SqL.of u1⟩, for_list (K := K) (a := fp) (xs := us) (fun x σ H' => ∃ (y7 : Option V), Making H2 H' rs n (i + 1) (Bn + x) r cs ∧ Tups H5 H' ∧ H' fp = some (.lst us) ∧
              σ = [some (.ref f), some (nv q), some (.ref c), some (nv (i + 1)), some (.ref r), some (nv j), some (.ref a), y7, none])
              ⟨y7, M5, Tups.refl, u1, rfl⟩ (fun x σ H' _ hP => by obtain ⟨_, _, _, q, _⟩ := hP; exact SqL.of q) ?_ ?_⟩
          · rintro x u σ H6 hx ⟨y7, M6, tp6, e6, rfl⟩
            have hxl : x < us.length := (List.getElem?_eq_some_iff.mp hx).1
            obtain ⟨up, uq, ut, rfl, w1, w2, w3, w4⟩ := (u3 u (List.mem_of_getElem? hx)).mono tp6
            have h1' := (Tups.of s5).trans tp6 _ _ h1
            have hcpl : rs[j].plug < cs.length := by rw [M6.len]; exact hpl
            have hcs : cs[rs[j].plug]? = some cs[rs[j].plug] := List.getElem?_eq_getElem hcpl
            obtain ⟨zs, z1, z2, z3⟩ := M6.bag _ _ hcs
            -- row[variant[0]].append((variant[2] + filling[0], (number,) + filling[1]))
            refine ⟨_, rfl, _, rfl, a, _, 0, _, rfl, rfl, SqT.of h1', atI_nat (j := 0) rfl, r, _, _, _, rfl, rfl, SqL.of M6.lst, at_map hcs, .inl ⟨rfl, _, SqL.of z1⟩, ?_⟩
            refine ⟨_, rfl, a, _, 2, _, rfl, rfl, SqT.of h1', atI_nat (j := 2) rfl, _, rfl, up, _, 0, _, rfl, rfl, SqT.of w1, atI_nat (j := 0) rfl, (p : Int), _, rfl, rfl, ?_⟩
            refine ⟨_, rfl, (by show 1 ≤ sizeLine; decide), fun tp htp => ?_⟩
            have s7 := same_new htp (o := .tup [nv j])
            refine ⟨_, rfl, up, _, 1, _, rfl, rfl, SqT.of (s7 _ _ w1), atI_nat (j := 1) rfl, tp, uq, _, _, rfl, rfl, upd_same, s7 _ _ w2, by simp, ?_, fun qa H8 s8 hqa => ?_⟩
            · rw [List.length_map, List.length_singleton]
              exact Nat.le_of_lt (small1000 (by omega))
            refine ⟨(by show 2 ≤ sizeLine; decide), fun np hnp => ?_⟩
            have ec : V.int ((p : Int) + (cost rs ut : Int)) = nv (cost rs (j :: ut)) := congrArg V.int (by rw [cost_cons, price_of (List.getElem?_eq_getElem hjl) ep]; omega)
            have s9 := same_new hnp (o := .tup [V.int ((p : Int) + (cost rs ut : Int)), .ref qa])
            have s79 := s7.trans (s8.trans s9)
            have M9 := M6.mono s79
            have hcount : zs.length < sizeLine := by
              have g1 : j * Rb (i + 1) ≤ 13 * Rb (i + 1) := Nat.mul_le_mul_right _ (by omega)
              have g2 : Bn + x < 2000000 := by omega
              exact Nat.lt_of_le_of_lt z2 (Nat.lt_of_lt_of_le g2 (by rw [sizeLine_eq]; decide))
            refine ⟨cs[rs[j].plug], zs, _, rfl, rfl, s79 _ _ z1, hcount, ?_⟩
            have hpair : PairAt (upd H8 np (.tup [V.int ((p : Int) + (cost rs ut : Int)), .ref qa])) rs [rs[j].plug] (i + 1) (.ref np) := by
              refine ⟨np, qa, j :: ut, rfl, (by rw [upd_same]; show some (HO.tup [V.int ((p : Int) + (cost rs ut : Int)), .ref qa]) = _; rw [ec]), s9 _ _ hqa, ?_, by rw [List.length_cons, w4]⟩
              refine ⟨rs[j].plug, [], rs[j], rfl, List.getElem?_eq_getElem hjl, rfl, (by rw [ep]; exact (fun e => nomatch e)), ?_⟩
              rw [List.append_nil]
              exact w3
            refine ⟨_, M9.put hcs (s79 _ _ z1) hpair, (tp6.trans (Tups.of s79)).trans (Tups.upd_list (s79 _ _ z1)), ?_, rfl⟩
            rw [upd_ne (hfpcs _ (List.mem_of_getElem? hcs)).symm]
            exact s79 _ _ e6
          · rintro σ H6 ⟨y7, M6, tp6, e6, rfl⟩
            refine ⟨Bn + us.length, _, _, _, M6, ?_, rfl⟩
            rw [Nat.add_mul, Nat.one_mul]
            omega
      · rintro σ H' ⟨Bn, y5, y6, y7, M, hBn, rfl⟩
        rw [Int.toNat_natCast] at hBn
        have hBk : Bn ≤ Rb (i + 1) := by
          have g : rs.length * Rb (i + 1) ≤ 14 * Rb (i + 1) := Nat.mul_le_mul_right _ h14
          omega
        obtain ⟨as, h1, h2, _⟩ := hC.mono M.same
        -- rows.append(row)
        refine ⟨_, rfl, .inl ⟨rfl, _, SqL.of h1⟩, _, rfl, c, _, _, rfl, rfl, h1, ?_, ?_⟩
        · rw [List.length_map]
          exact small1000 (by omega)
        exact ⟨_, _, _, _, _, same_upd (sm.trans M.same) hHc, hC.snoc M hBk hr h1, rfl⟩
    · rintro σ H' ⟨y3, y4, y5, y6, y7, sm, hC, rfl⟩
      have en : ((q : Int) + 1 - 1).toNat = q := by omega
      rw [en] at hC
      exact ⟨_, rfl, k c H' sm hC⟩
end
end KW
set_option Elab.async false
set_option linter.all false
set_option maxRecDepth 100000
set_option maxHeartbeats 4000000
set_option pp.maxSteps 1200
/-! _law_fits, _law_some_tree. -/
namespace KW
open PySem PySem.Spec PyProof.Rows L2 KR K30

theorem fits_len {rs : List Vrt} : ∀ {t st : List Nat}, fits rs t st → st.length ≤ t.length
  | [], st, h => by
    have e : st = [] := h
    subst e
    exact Nat.le_refl _
  | k :: t, st, h => by
    obtain ⟨g, st', r, rfl, _, _, _, h4⟩ := h
    have q := fits_len h4
    rw [List.length_append] at q
    rw [List.length_cons, List.length_cons]
    omega

abbrev s_law_fits : Stmt := top 27
abbrev N_law_fits : List Str := ["_law_family_here", "_law_state", "_law_tree_here", "_law_stack", "_law_number", "_law_variant", "_law_goal", "_law_slot"]
theorem sc_law_fits : FnScope N_law_fits ["_law_family_here", "_law_state", "_law_tree_here"] (defScope s_law_fits) := ⟨rfl, rfl, rfl, by decide +kernel, rfl, by decide +kernel, by decide +kernel⟩
def sp_law_fits : Sp := fun vs H Q _ => ∃ (f t : Addr) (n s : Nat) (rs : List Vrt) (ks : List Nat), vs = [.ref f, nv s, .ref t] ∧ FamAt H f n rs ∧ H t = some (.tup (ks.map nv)) ∧ fits rs ks [s] ∧ ks.length ≤ 900 ∧ ∀ H', Same H H' → Q (.bl true) H'
section
variable {P : Program} {w : World} {K : PySem.W.Frag} {mg : Str → Option Value} {base : Heap}
theorem ok_law_fits {f : Addr} {fd : FuncData} (D : DefIs K mg "_law_fits" s_law_fits ["_law_family_here", "_law_state", "_law_tree_here"] f fd) (T : Txt mg) : FnOk P w K mg base CX0 1 f fd ["_law_family_here", "_law_state", "_law_tree_here"] sp_law_fits := by
  refine D.fn.ok sc_law_fits (fun vs H Q E h => ?_) (fun cdv A outer s H vs Q E hr h => ?_)
  · obtain ⟨f, t, n, s, rs, ks, rfl, _⟩ := h
    rfl
  · obtain ⟨f, t, n, s0, rs, ks, rfl, hF, ht, hfit, hlen, k⟩ := h
    obtain ⟨rt, vt, vs, hf, hvt, hR⟩ := id hF
    refine ⟨_, (pss_cons (ps_set (i := 3) sc_law_fits.nd rfl (Or.inl rfl) (pe_lst (pa_cons (pv 1) pa_nil)))
    (pss_cons (ps_for PassesOwn.never rfl (pi_tup (pv 2)) (pg_name (i := 4) sc_law_fits.nd rfl (Or.inl rfl))
    (pss_cons (ps_if (PW.pt (pw_or (pt_not (pt_truth (pv 3) (by intro _; rfl))) (pw_or (pt_cmpR op_lt (pv 4) pe_int (nomark _)) (pw_or1 (pt_cmpR op_ge (pv 4) (pe_callB call_len_seq (by rfl) T.b_len PySem.boot_len (pa_cons (pe_ix ix_tup (pv 0) pe_int (fun _ _ => rfl)) pa_nil)) (nomark _))))))
      (pss_one (ps_ret pe_bl))
      pss_nil)
      (pss_cons (ps_set (i := 5) sc_law_fits.nd rfl (Or.inl rfl) (pe_ix ix_tup (pe_ix ix_tup (pv 0) pe_int (fun _ _ => rfl)) (pv 4) (fun _ _ => rfl)))
      (pss_cons (ps_set (i := 6) sc_law_fits.nd rfl (Or.inl rfl) (pe_bm0 PySem.F.plainAttrs_list PySem.F.slot_list_pop PySem.F.type_list_pop mt_pop (pv 3)))
      (pss_cons (ps_if (PW.pt (pw_or (pt_cmpR op_isN (pe_ix ix_tup (pv 5) pe_int (fun _ _ => rfl)) pe_non (nomark _)) (pw_or1 (pt_cmpR op_ne (pe_ix ix_tup (pv 5) pe_int (fun _ _ => rfl)) (pv 6) (nomark _)))))
      (pss_one (ps_ret pe_bl))
      pss_nil)
      (pss_one (ps_for PassesOwn.never rfl (RT.pi_revA (by rfl) T.b_reversed (pe_ix ix_tup (pv 5) pe_int (fun _ _ => rfl))) (pg_name (i := 7) sc_law_fits.nd rfl (Or.inl rfl))
      (pss_one (ps_expr (pe_bm PySem.F.plainAttrs_list PySem.F.slot_list_append PySem.F.type_list_append mt_append (pv 3) (pa_cons (pv 7) pa_nil)))))))))))
    (pss_one (ps_ret (pe_notT (pv 3)))))), ?_⟩
    -- stack = [state]
    refine ⟨_, rfl, (by show 1 ≤ sizeLine; decide), fun sk hsk => ?_⟩
    -- for number in tree
    refine ⟨_, rfl, t, rfl, ⟨_, SqT.of (same_new hsk (o := .lst [nv s0]) _ _ ht)⟩, for_tup (K := K) (a := t) (xs := ks.map nv) (fun i σ H' => ∃ (stk : List Nat) (y4 y5 y6 y7 : Option V), Same H H' ∧ H' sk = some (.lst (stk.reverse.map nv)) ∧ fits rs (ks.drop i) stk ∧
        σ = [some (.ref f), some (nv s0), some (.ref t), some (.ref sk), y4, y5, y6, y7])
        ⟨[s0], none, none, none, none, same_new hsk, upd_same, hfit, rfl⟩ (fun i σ H' _ hP => by obtain ⟨_, _, _, _, _, q, _⟩ := hP; exact SqT.of (q _ _ ht)) ?_ ?_⟩
    · rintro i y σ H1 hi ⟨stk, y4, y5, y6, y7, sm, es, hft, rfl⟩
      obtain ⟨j, hj, rfl⟩ := map_get hi
      have hil : i < ks.length := (List.getElem?_eq_some_iff.mp hj).1
      have ed : ks.drop i = j :: ks.drop (i + 1) := by
        rw [List.drop_eq_getElem_cons hil]
        congr 1
        exact (List.getElem?_eq_some_iff.mp hj).2
      rw [ed] at hft
      have hfl := fits_len hft
      obtain ⟨g, stk, r, rfl, hr1, hr2, hr3, hr4⟩ := hft
      have hfl2 := fits_len hr4
      rw [List.length_drop, List.length_append] at hfl2
      have hjl : j < rs.length := (List.getElem?_eq_some_iff.mp hr1).1
      obtain ⟨v, hv, ha⟩ := hR.2 j r hr1
      have el : (g :: stk).reverse.map nv = stk.reverse.map nv ++ [nv g] := by
        rw [List.reverse_cons, List.map_append]
        rfl
      rw [el] at es
      have etrue : true = !(stk.reverse.map nv ++ [nv g]).isEmpty := by
        cases stk.reverse.map nv <;> rfl
      -- if not stack or number < 0 or number >= len(family[2])
      refine ⟨_, rfl, true, .inl ⟨_, SqL.of es, etrue⟩, iteF ?_⟩
      refine ⟨_, rfl, _, _, rfl, rfl, false, congrArg V.bl (decide_eq_false (show ¬ (j : Int) < 0 by omega)), iteF ?_⟩
      refine ⟨_, rfl, _, rfl, f, _, 2, _, rfl, rfl, SqT.of (sm _ _ hf), atI_nat (j := 2) rfl, vt, vs, rfl, .inr (SqT.of (sm _ _ hvt)), _, _, rfl, rfl, false, congrArg V.bl (decide_eq_false (show ¬ ((vs.length : Nat) : Int) ≤ (j : Int) by rw [hR.1]; omega)), iteF ?_⟩
      -- variant = family[2][number]; goal = stack.pop()
      obtain ⟨ra, rb, rfl, h1, h2⟩ := ha.mono (Tups.of sm)
      refine ⟨_, rfl, f, _, 2, _, rfl, rfl, SqT.of (sm _ _ hf), atI_nat (j := 2) rfl, _, rfl, vt, vs, _, _, rfl, rfl, SqT.of (sm _ _ hvt), atI_nat hv, ?_⟩
      refine ⟨_, rfl, .inl ⟨rfl, _, SqL.of es⟩, sk, _, nv g, rfl, rfl, es, ?_, ?_⟩
      · rw [List.length_append, List.length_singleton, Nat.add_sub_cancel, List.getElem?_append_right (Nat.le_refl _), Nat.sub_self]
        rfl
      rw [List.dropLast_concat]
      have sm2 : Same H (upd H1 sk (.lst (stk.reverse.map nv))) := same_upd sm hsk
      have tp : Tups H1 (upd H1 sk (.lst (stk.reverse.map nv))) := Tups.upd_list es
      have h1' := tp _ _ h1
      -- if variant[2] is None or variant[0] != goal
      refine ⟨_, rfl, ra, _, 2, _, rfl, rfl, SqT.of h1', atI_nat (j := 2) rfl, rfl, _, rfl, ?_⟩
      cases hp : r.price with
      | none => exact absurd hp hr3
      | some p =>
        refine iteF ?_
        subst hr2
        refine ⟨_, rfl, ra, _, 0, _, rfl, rfl, SqT.of h1', atI_nat (j := 0) rfl, _, rfl, rfl, _, rfl, iteNS rfl ?_⟩
        -- for slot in reversed(variant[1])
        refine ⟨_, rfl, ra, _, 1, _, rfl, rfl, SqT.of h1', atI_nat (j := 1) rfl, rb, r.slots.map nv, rfl, .inr ⟨SqT.of (tp _ _ h2), ?_⟩⟩
        refine RT.for_ItvT (K := K) (a := rb) (xs := r.slots.map nv) (fun x σ H' => ∃ y7 : Option V, Same H H' ∧ Tups H1 H' ∧ H' sk = some (.lst (stk.reverse.map nv ++ (r.slots.map nv).reverse.take x)) ∧
          σ = [some (.ref f), some (nv s0), some (.ref t), some (.ref sk), some (nv j), some (.ref ra), some (nv r.plug), y7])
          ⟨y7, sm2, tp, by rw [List.take_zero, List.append_nil]; exact upd_same, rfl⟩ (fun x σ H' hP => by obtain ⟨_, _, q1, _⟩ := hP; exact SqT.of (q1 _ _ h2)) ?_ ?_
        · rintro x u σ H' hx hu ⟨y7, sm3, tp3, e3, rfl⟩
          have hu' : (r.slots.map nv).reverse[x]? = some u := by
            rw [List.getElem?_reverse hx]
            exact hu
          refine ⟨_, rfl, .inl ⟨rfl, _, SqL.of e3⟩, _, rfl, sk, _, _, rfl, rfl, e3, ?_, ?_⟩
          · rw [List.length_append, List.length_map, List.length_reverse, List.length_take, List.length_reverse, List.length_map]
            exact small1000 (by omega)
          refine ⟨_, same_upd sm3 hsk, tp3.trans (Tups.upd_list e3), ?_, rfl⟩
          rw [upd_same, List.take_add_one, hu', List.append_assoc]
          rfl
        · rintro σ H' ⟨y7, sm3, tp3, e3, rfl⟩
          have etk : (r.slots.map nv).reverse.take (r.slots.map nv).length = (r.slots.map nv).reverse := List.take_of_length_le (by rw [List.length_reverse]; exact Nat.le_refl _)
          rw [etk] at e3
          refine ⟨r.slots ++ stk, _, _, _, _, sm3, ?_, hr4, rfl⟩
          rw [e3, List.reverse_append, List.map_append, ← List.map_reverse]
    · rintro σ H1 ⟨stk, y4, y5, y6, y7, sm, es, hft, rfl⟩
      rw [List.length_map, List.drop_length] at hft
      have e : stk = [] := hft
      subst e
      exact ⟨_, rfl, false, .inl ⟨_, SqL.of es, rfl⟩, k H1 sm⟩
end

/-! ### _law_some_tree -/
abbrev s_law_some_tree : Stmt := top 28
abbrev N_law_some_tree : List Str := ["_law_tape_here", "_law_family_here", "_law_room", "_law_sizes_here", "_law_small", "_law_state"]
theorem sc_law_some_tree : FnScope N_law_some_tree ["_law_tape_here", "_law_family_here", "_law_room"] (defScope s_law_some_tree) := ⟨rfl, rfl, rfl, by decide +kernel, rfl, by decide +kernel, by decide +kernel⟩
def sp_law_some_tree : Sp := fun vs H Q _ => ∃ (a b f : Addr) (n room : Nat) (rs : List Vrt), vs = [.ref a, .ref f, nv room] ∧ TapeAt H a b ∧ FamAt H f n rs ∧ Fine n rs ∧ room ≤ 40 ∧
  ∀ (p q : Addr) (s : Nat) (t : List Nat) H', But a H H' → TapeAt H' a b → H' p = some (.tup [nv s, .ref q]) → H' q = some (.tup (t.map nv)) → (t = [] ∨ (s < n ∧ fits rs t [s] ∧ t.length ≤ 100)) → Q (.ref p) H'
section
variable {P : Program} {w : World} {K : PySem.W.Frag} {mg : Str → Option Value} {base : Heap}
theorem ok_law_some_tree {f f1 f2 f3 f4 : Addr} {fd fd1 fd2 fd3 fd4 : FuncData} (D : DefIs K mg "_law_some_tree" s_law_some_tree ["_law_tape_here", "_law_family_here", "_law_room"] f fd) (T : Txt mg) (D_law_sizes : DefIs K mg "_law_sizes" s_law_sizes ["_law_family_here"] f1 fd1)
    (D_law_size : DefIs K mg "_law_size" s_law_size ["_law_variant", "_law_sizes_here"] f2 fd2) (D_law_draw : DefIs K mg "_law_draw" s_law_draw ["_law_tape_here", "_law_menu"] f3 fd3) (D_law_tree : DefIs K mg "_law_tree" s_law_tree ["_law_tape_here", "_law_family_here", "_law_sizes_here", "_law_state", "_law_room"] f4 fd4) : FnOk P w K mg base CX0 3 f fd ["_law_tape_here", "_law_family_here", "_law_room"] sp_law_some_tree := by
  have G_law_sizes : FnOk P w K mg base CX0 2 f1 fd1 ["_law_family_here"] sp_law_sizes := ok_law_sizes D_law_sizes T D_law_size
  have G_law_draw : FnOk P w K mg base CX0 1 f3 fd3 ["_law_tape_here", "_law_menu"] sp_law_draw := ok_law_draw D_law_draw T
  have G_law_tree : FnOk P w K mg base CX0 2 f4 fd4 ["_law_tape_here", "_law_family_here", "_law_sizes_here", "_law_state", "_law_room"] sp_law_tree := ok_law_tree D_law_tree T D_law_draw D_law_size
  refine D.fn.ok sc_law_some_tree (fun vs H Q E h => ?_) (fun cdv A outer s H vs Q E hr h => ?_)
  · obtain ⟨a, b, f, n, room, rs, rfl, _⟩ := h
    rfl
  · obtain ⟨a, b, f, n, room, rs, rfl, hT, hF, F, h40, k⟩ := h
    have n4 := F.n4
    refine ⟨_, (pss_cons (ps_set (i := 3) sc_law_some_tree.nd rfl (Or.inr rfl) (pe_call G_law_sizes (hr.mono (by first | decide | exact Nat.le_refl _)) (by rfl) D_law_sizes.mg D_law_sizes.fn.kp D_law_sizes.bd .nil pass0 (pa_cons (pv 1) pa_nil)))
    (pss_cons (ps_setLc (i := 4) (own := [("_law_state", 5)]) (g := gName 5) rfl sc_law_some_tree.nd rfl rfl (sw_true rfl rfl rfl (by decide +kernel)) (pi_range1 (by rfl) T.b_range (pa_cons (pe_ix ix_tup (pv 1) pe_int (fun _ _ => rfl)) pa_nil)) (blkOk_by (own := [("_law_state", 5)]) (N := N_law_some_tree) (sc := defScope s_law_some_tree) (by decide +kernel)) (fun _ _ _ _ _ => pg_name (i := 5) sc_law_some_tree.nd rfl (Or.inl rfl)) (fun _ _ _ _ _ => (pts_one (PW.pt (pw_and (pt_cmpR op_notN (pe_ix (show IxR _ (rIxL K) from ix_list) (pv 3) (pv 5) (fun _ _ => rfl)) pe_non (nomark _)) (pw_and1 (pt_cmpR op_le (pe_ix (show IxR _ (rIxL K) from ix_list) (pv 3) (pv 5) (fun _ _ => rfl)) pe_int (nomark _))))))) (fun _ _ _ _ _ => (pv 5)))
    (pss_cons (ps_if (pt_not (pt_truth (pv 4) (by intro _; rfl)))
    (pss_one (ps_ret (pe_tup (pa_cons pe_int (pa_cons (pe_tup pa_nil) pa_nil)))))
    pss_nil)
    (pss_cons (ps_set (i := 5) sc_law_some_tree.nd rfl (Or.inl rfl) (pe_ix ix_list (pv 4) (pe_call G_law_draw (hr.mono (by first | decide | exact Nat.le_refl _)) (by rfl) D_law_draw.mg D_law_draw.fn.kp D_law_draw.bd .nil pass0 (pa_cons (pv 0) (pa_cons (pe_callB call_len_seq (by rfl) T.b_len PySem.boot_len (pa_cons (pv 4) pa_nil)) pa_nil))) (fun _ _ => rfl)))
    (pss_one (ps_ret (pe_tup (pa_cons (pv 5) (pa_cons (pe_call G_law_tree (hr.mono (by first | decide | exact Nat.le_refl _)) (by rfl) D_law_tree.mg D_law_tree.fn.kp D_law_tree.bd .nil pass0 (pa_cons (pv 0) (pa_cons (pv 1) (pa_cons (pv 3) (pa_cons (pv 5) (pa_cons (pv 2) pa_nil)))))) pa_nil))))))))), ?_⟩
    -- sizes = _law_sizes(family)
    refine ⟨_, rfl, f, n, rs, rfl, hF, F, fun l z H1 s1 hl0 hl hz => ?_⟩
    have hzl : z.length = n := by
      rw [← emb_length, hz]
      exact least_length _ _
    obtain ⟨rt, vt, vs, hf, hvt, hR⟩ := hF.mono (Tups.of s1)
    have hT1 := hT.of_same s1
    -- small = [state for state in range(family[0]) if ..]
    refine ⟨_, rfl, f, _, 0, _, rfl, rfl, SqT.of hf, atI_nat (j := 0) rfl, n, rfl, by omega, by omega, fun d hd => ?_⟩
    refine lc_range (n := ((n : Int)).toNat) (fun i H' => Same H1 H' ∧ ∃ ss : List Nat, H' d = some (.lst (ss.map nv)) ∧ ss.length ≤ i ∧ ∀ s ∈ ss, s < n ∧ ∃ m, sAt z s = some m ∧ m ≤ 100) ⟨same_new hd, [], upd_same, Nat.le_refl _, fun s hs => absurd hs List.not_mem_nil⟩ ?_ ?_
    · rintro i H' hi ⟨sm, ss, es, hsl, hss⟩
      have hin : i < n := by omega
      have hat := sAt_map (z := z) (s := i) (by rw [hzl]; exact hin)
      have hat' : atI (z.map ov) (0 + (i : Int)) = some (ov (sAt z i)) := by
        rw [Int.zero_add]
        exact hat
      refine ⟨rfl, ?_⟩
      refine ⟨_, rfl, _, rfl, l, _, _, _, rfl, rfl, SqL.of (sm _ _ hl), hat', rfl, _, rfl, ?_⟩
      cases ez : sAt z i with
      | none => exact iteF (iteF ⟨sm, ss, es, by omega, hss⟩)
      | some m =>
        rw [ez] at hat'
        refine iteT ?_
        refine ⟨_, rfl, _, rfl, l, _, _, _, rfl, rfl, SqL.of (sm _ _ hl), hat', _, _, rfl, rfl, _, rfl, ite2 (fun c => ?_) (fun _ => ⟨sm, ss, es, by omega, hss⟩)⟩
        have hm : (m : Int) ≤ 100 := of_decide_eq_true c
        refine ⟨_, rfl, _, es, ?_, same_upd sm hd, ss ++ [i], ?_, ?_, fun s hs => ?_⟩
        · rw [List.length_map]
          exact small1000 (by omega)
        · rw [upd_same, List.map_append, Int.zero_add]
          rfl
        · rw [List.length_append, List.length_singleton]
          omega
        · rcases List.mem_append.mp hs with q | q
          · exact hss s q
          · have e : s = i := by simpa using q
            subst e
            exact ⟨hin, m, ez, by omega⟩
    rintro H2 ⟨s2, ss, es, hsl, hss⟩
    have hT2 := hT1.of_same s2
    have hF2 : FamAt H2 f n rs := hF.mono (Tups.of (s1.trans s2))
    have B2 : But a H H2 := But.of (s1.trans s2)
    -- if not small
    refine ⟨_, rfl, _, .inl ⟨_, SqL.of es, rfl⟩, ?_⟩
    cases ss with
    | nil =>
      refine iteT ?_
      refine ⟨Nat.zero_le _, fun q hq => ?_⟩
      have s3 := same_new hq (o := .tup [])
      refine ⟨(by show 2 ≤ sizeLine; decide), fun p hp => ?_⟩
      have s4 := same_new hp (o := .tup [V.int 0, .ref q])
      exact k p q 0 [] _ (B2.trans (But.of (s3.trans s4))) (hT2.of_same (s3.trans s4)) upd_same (s4 _ _ upd_same) (.inl rfl)
    | cons x ss =>
      refine iteF ?_
      -- state = small[draw(tape, len(small))]
      refine ⟨_, rfl, _, rfl, _, rfl, d, _, rfl, .inl (SqL.of es), a, b, (x :: ss).length, (by rw [List.length_map]; rfl), hT2, by omega, fun q H3 b3 t3 hq => ?_⟩
      obtain ⟨da, db⟩ := (hT1.ne hd)
      have hql : q < (x :: ss).length := by
        rw [List.length_cons] at hq ⊢
        omega
      obtain ⟨hsn, m, hm, hm100⟩ := hss _ (List.getElem_mem hql)
      refine ⟨d, _, _, _, rfl, rfl, SqL.of (b3 _ _ es da), at_map (List.getElem?_eq_getElem hql), ?_⟩
      have hla := sizes_ne hT2 (s2 _ _ hl)
      have hl3 := b3 _ _ (s2 _ _ hl) hla
      have hF3 := hF2.mono (hT2.tups b3)
      -- return (state, _law_tree(tape, family, sizes, state, room))
      refine ⟨_, rfl, _, rfl, _, rfl, _, rfl, _, rfl, _, rfl, a, b, f, l, n, _, room, m, rs, z, rfl, t3, hF3, F, hl3, hz, hm, hm100, h40, fun p t H4 b4 t4 hp hfit htl => ?_⟩
      refine ⟨(by show 2 ≤ sizeLine; decide), fun pr hpr => ?_⟩
      have s5 := same_new hpr (o := .tup [nv (x :: ss)[q], .ref p])
      exact k pr p _ t _ ((B2.trans (b3.trans b4)).trans (But.of s5)) (t4.of_same s5) upd_same (s5 _ _ hp) (.inr ⟨hsn, hfit, htl⟩)
end
end KW
set_option Elab.async false
set_option linter.all false
set_option maxRecDepth 100000
set_option maxHeartbeats 4000000
set_option pp.maxSteps 1200
/-! What the law's body leans on: no tree is before the first one, the texts of weights. -/
namespace KW
open PySem PySem.Spec PyProof.Rows L2 KR K30

theorem lex_cast : ∀ t u : List Nat, HT.lexLt (t.map fun k : Nat => (k : Int)) (u.map fun k : Nat => (k : Int)) = K30.lexLt t u
  | [], [] => rfl
  | [], _ :: _ => rfl
  | _ :: _, [] => rfl
  | x :: xs, y :: ys => by
    rw [List.map_cons, List.map_cons, HT.lexLt_cons, lex_cast xs ys]
    show _ = if x = y then K30.lexLt xs ys else decide (x < y)
    by_cases h : x = y
    · rw [if_pos h, if_pos (by omega)]
    · rw [if_neg h, if_neg (by omega)]
      exact decide_eq_decide.mpr (by omega)
theorem fits_some {n s : Nat} {rs : List Vrt} {t : List Nat} (F : Fine n rs) (h : fits rs t [s]) : ∃ x, at' (least n rs) s = some x ∧ wle x (cost rs t, t.length) := by
  obtain ⟨a, ha, hle⟩ := floor (settled F).low h
  obtain ⟨x, b, hx, hb, rfl⟩ := sumW_cons_some ha
  have e : (0, 0) = b := Option.some.inj hb
  subst e
  exact ⟨x, hx, hle⟩
theorem first_weight {n s : Nat} {rs : List Vrt} {u : List Nat} {x : Nat × Nat} (h : First rs (least n rs) u [s]) (hx : at' (least n rs) s = some x) : (cost rs u, u.length) = x :=
  h.weight (sumW_cons hx (rfl : sumW (least n rs) [] = some (0, 0)))
theorem fits_rows {rs : List Vrt} : ∀ {t st : List Nat}, fits rs t st → ∀ k ∈ t, ∃ r p, rs[k]? = some r ∧ r.price = some p
  | [], _, _, k, hk => absurd hk List.not_mem_nil
  | j :: t, st, h, k, hk => by
    obtain ⟨g, st', r, rfl, h1, h2, h3, h4⟩ := h
    rcases List.mem_cons.mp hk with e | e
    · subst e
      cases hp : r.price with
      | none => exact absurd hp h3
      | some p => exact ⟨r, p, h1, hp⟩
    · exact fits_rows h4 k e
/-- no tree is before the first one -/
theorem no_lt {K : PySem.W.Frag} {H : Hp} {a b p p' : Addr} {n s : Nat} {rs : List Vrt} {t u : List Nat} {Q : VK} {x : Nat × Nat} {c m c' m' : Int} (F : Fine n rs) (hft : fits rs t [s]) (hfu : First rs (least n rs) u [s]) (hx : at' (least n rs) s = some x)
    (ha : H a = some (.tup [.int c, .int m, .ref p])) (hb : H b = some (.tup [.int c', .int m', .ref p'])) (hp : H p = some (.tup (t.map nv))) (hp' : H p' = some (.tup (u.map nv)))
    (e1 : c = (cost rs t : Nat)) (e2 : m = (t.length : Nat)) (e3 : c' = (cost rs u : Nat)) (e4 : m' = (u.length : Nat)) (q : Q (.bl false) H) : rNoLt3 K (.ref a) (.ref b) H Q := by
  obtain ⟨y, hy, hle⟩ := fits_some F hft
  rw [hx] at hy
  cases hy
  have hw := first_weight hfu hx
  subst e1 e2 e3 e4
  subst hw
  unfold wle at hle
  dsimp only at hle
  have et : ∀ t : List Nat, (t.map fun k : Nat => (k : Int)).map V.int = t.map nv := fun t => by
    rw [List.map_map]
    rfl
  refine ⟨a, b, p, p', _, _, _, _, t.map fun k : Nat => (k : Int), u.map fun k : Nat => (k : Int), rfl, rfl, SqT.of ha, SqT.of hb, SqT.of (by rw [et]; exact hp), SqT.of (by rw [et]; exact hp'), ⟨by omega, fun z => by omega, fun z1 z2 => ?_⟩, q⟩
  rw [lex_cast]
  exact First.lex (settled F).low hfu hft (sumW_cons hx (rfl : sumW (least n rs) [] = some (0, 0))) (Prod.ext (by dsimp only; omega) (by dsimp only; omega))

/-! ### repr of a weight -/
theorem dp_pair {K : PySem.W.Frag} {H : Hp} {a : Addr} {c m : Int} (h : H a = some (.tup [.int c, .int m])) : Dp K H (.ref a) (.tuple [.int c, .int m]) := .tup (SqT.of h) (.cons (.int c) (.cons (.int m) .nil))
theorem log_small {k : Nat} (h : k < 2 ^ 60) : k.log2 < 1920 := by
  by_cases z : k = 0
  · subst z
    decide
  · have q := (Nat.log2_lt z).mpr h
    omega
theorem show_pair {c m : Nat} (hc : c ≤ 40000000000) (hm : m ≤ 40) : (PyData.tuple [.int (c : Int), .int (m : Int)]).showable = true ∧ (PyData.tuple [.int (c : Int), .int (m : Int)]).hasDict = false ∧ (PyData.tuple [.int (c : Int), .int (m : Int)]).depth ≤ 8 ∧
    (PyData.tuple [.int (c : Int), .int (m : Int)]).shown.length ≤ sizeLine := by
  have l1 : c.log2 < 1920 := log_small (by omega)
  have l2 : m.log2 < 1920 := log_small (by omega)
  refine ⟨?_, ?_, ?_, ?_⟩
  · simp only [PyData.showable, PyData.showableAll, Bool.and_true, Bool.and_eq_true, decide_eq_true_eq, Int.natAbs_natCast]
    exact ⟨l1, l2⟩
  · simp only [PyData.hasDict, PyData.hasDictAll, Bool.or_self]
  · simp only [PyData.depth, PyData.depthAll]
    decide
  · simp only [PyData.shown, PyData.shownAll]
    have h1 := int_text_length_le10 (a := (c : Int)) (k := 20) (by decide) (by rw [Int.natAbs_natCast]; omega)
    have h2 := int_text_length_le10 (a := (m : Int)) (k := 20) (by decide) (by rw [Int.natAbs_natCast]; omega)
    refine Nat.le_trans (fmt_text _) ?_
    rw [piled_cons, piled_cons, piled_nil]
    rw [PySem.ofString_length, PySem.ofString_length]
    have z : 50 ≤ sizeLine := by decide
    omega
end KW
set_option Elab.async false
set_option linter.all false
set_option maxRecDepth 100000
set_option maxHeartbeats 4000000
set_option pp.maxSteps 1200
/-! The law's body. -/
namespace KW
open PySem PySem.Spec PyProof.Rows L2 KR K30

theorem FirstAt.mono {H H' : Hp} {v : V} {n s : Nat} {rs : List Vrt} (h : FirstAt H v n rs s) (t : Tups H H') : FirstAt H' v n rs s := by
  rcases h with h | ⟨p, u, x, e, h1, h2, h3⟩
  · exact .inl h
  · exact .inr ⟨p, u, x, e, h1, t _ _ h2, h3⟩
/-- the list of the first trees -/
def FirstsAt (H : Hp) (vs : List V) (n : Nat) (rs : List Vrt) : Prop := ∀ (s : Nat) (v : V), vs[s]? = some v → FirstAt H v n rs s
theorem FirstsAt.mono {H H' : Hp} {vs : List V} {n : Nat} {rs : List Vrt} (h : FirstsAt H vs n rs) (t : Tups H H') : FirstsAt H' vs n rs := fun s v e => (h s v e).mono t
theorem first_len {n s : Nat} {rs : List Vrt} {u : List Nat} {x : Nat × Nat} (F : Fine n rs) (h : First rs (least n rs) u [s]) (hx : at' (least n rs) s = some x) : u.length ≤ 40 ∧ cost rs u ≤ 40000000000 := by
  have hw := first_weight h hx
  obtain ⟨h1, h2, h3⟩ := least_bound F hx
  subst hw
  exact ⟨h1, h2⟩
/-- where some tree fits, there is a first one -/
theorem FirstsAt.get {H : Hp} {vs : List V} {n s : Nat} {rs : List Vrt} {t : List Nat} (h : FirstsAt H vs n rs) (F : Fine n rs) (hs : s < vs.length) (ht : fits rs t [s]) : ∃ (u0 : Addr) (u : List Nat) (x : Nat × Nat), atI vs (s : Int) = some (.ref u0) ∧ at' (least n rs) s = some x ∧
    H u0 = some (.tup (u.map nv)) ∧ First rs (least n rs) u [s] ∧ u.length ≤ 40 := by
  obtain ⟨x, hx, _⟩ := fits_some F ht
  have e := List.getElem?_eq_getElem hs
  rcases h s _ e with ⟨h1, _⟩ | ⟨p, u, y, e1, h1, h2, h3⟩
  · rw [hx] at h1
    cases h1
  · exact ⟨p, u, y, by rw [atI_nat e, e1], h1, h2, h3, (first_len F h3 h1).1⟩
theorem room_menu : ∀ m : Nat, m < 4 → ∃ R : Nat, R ≤ 40 ∧ atI [V.int 2, .int 5, .int 12, .int 40] (m : Int) = some (nv R)
  | 0, _ => ⟨2, by decide, rfl⟩
  | 1, _ => ⟨5, by decide, rfl⟩
  | 2, _ => ⟨12, by decide, rfl⟩
  | 3, _ => ⟨40, by decide, rfl⟩
  | m + 4, h => by omega

abbrev s_law : Stmt := top 29
abbrev N_law : List Str := ["_law_script", "_law_tape_here", "_law_family_here", "_law_sizes_here", "_law_told", "_law_firsts", "_law_state", "_law_tree_here", "_law_k", "_law_pair", "_law_first", "_law_rows", "_law_row"]
theorem sc_law : FnScope N_law ["_law_script"] (defScope s_law) := ⟨rfl, rfl, rfl, by decide +kernel, rfl, by decide +kernel, by decide +kernel⟩
section
variable {P : Program} {w : World} {K : PySem.W.Frag} {mg : Str → Option Value}
theorem ok_law {f f_law_tape f_law_family f_law_draw f_law_price f_law_sizes f_law_size f_least_weights f_least_round f_weight_of f_first_tree f_check_parts f_first_roots f_tree_from f_law_fits f_law_priced f_law_some_tree f_law_tree f_law_trees f_law_fillings f_law_reach f_law_counts f_law_ways : Addr}
    {fd fd_law_tape fd_law_family fd_law_draw fd_law_price fd_law_sizes fd_law_size fd_least_weights fd_least_round fd_weight_of fd_first_tree fd_check_parts fd_first_roots fd_tree_from fd_law_fits fd_law_priced fd_law_some_tree fd_law_tree fd_law_trees fd_law_fillings fd_law_reach fd_law_counts fd_law_ways : FuncData}
    (D : DefIs K mg "law" s_law ["_law_script"] f fd) (T : Txt mg)
    (D_law_tape : DefIs K mg "_law_tape" s_law_tape ["_law_script"] f_law_tape fd_law_tape)
    (D_law_family : DefIs K mg "_law_family" s_law_family ["_law_tape_here", "_law_states", "_law_variants", "_law_low"] f_law_family fd_law_family)
    (D_law_draw : DefIs K mg "_law_draw" s_law_draw ["_law_tape_here", "_law_menu"] f_law_draw fd_law_draw)
    (D_law_price : DefIs K mg "_law_price" s_law_price ["_law_tape_here", "_law_mode", "_law_low"] f_law_price fd_law_price)
    (D_law_sizes : DefIs K mg "_law_sizes" s_law_sizes ["_law_family_here"] f_law_sizes fd_law_sizes)
    (D_law_size : DefIs K mg "_law_size" s_law_size ["_law_variant", "_law_sizes_here"] f_law_size fd_law_size)
    (D_least_weights : DefIs K mg "least_weights" s_least_weights ["family"] f_least_weights fd_least_weights)
    (D_least_round : DefIs K mg "least_round" s_least_round ["family", "weights"] f_least_round fd_least_round)
    (D_weight_of : DefIs K mg "weight_of" s_weight_of ["variant", "weights"] f_weight_of fd_weight_of)
    (D_first_tree : DefIs K mg "first_tree" s_first_tree ["family", "state"] f_first_tree fd_first_tree)
    (D_check_parts : DefIs K mg "check_parts" s_check_parts ["count"] f_check_parts fd_check_parts)
    (D_first_roots : DefIs K mg "first_roots" s_first_roots ["family", "weights"] f_first_roots fd_first_roots)
    (D_tree_from : DefIs K mg "tree_from" s_tree_from ["family", "roots", "state"] f_tree_from fd_tree_from)
    (D_law_fits : DefIs K mg "_law_fits" s_law_fits ["_law_family_here", "_law_state", "_law_tree_here"] f_law_fits fd_law_fits)
    (D_law_priced : DefIs K mg "_law_priced" s_law_priced ["_law_family_here", "_law_tree_here"] f_law_priced fd_law_priced)
    (D_law_some_tree : DefIs K mg "_law_some_tree" s_law_some_tree ["_law_tape_here", "_law_family_here", "_law_room"] f_law_some_tree fd_law_some_tree)
    (D_law_tree : DefIs K mg "_law_tree" s_law_tree ["_law_tape_here", "_law_family_here", "_law_sizes_here", "_law_state", "_law_room"] f_law_tree fd_law_tree)
    (D_law_trees : DefIs K mg "_law_trees" s_law_trees ["_law_family_here", "_law_top"] f_law_trees fd_law_trees)
    (D_law_fillings : DefIs K mg "_law_fillings" s_law_fillings ["_law_rows", "_law_slots", "_law_parts"] f_law_fillings fd_law_fillings)
    (D_law_reach : DefIs K mg "_law_reach" s_law_reach ["_law_counts_here", "_law_limit"] f_law_reach fd_law_reach)
    (D_law_counts : DefIs K mg "_law_counts" s_law_counts ["_law_family_here", "_law_top"] f_law_counts fd_law_counts)
    (D_law_ways : DefIs K mg "_law_ways" s_law_ways ["_law_counts_here", "_law_slots", "_law_parts"] f_law_ways fd_law_ways) (hb : ∀ (s : Shared) (u : Value), BindsTo s fd ⟨[u], []⟩ [("_law_script", u)]) : AtTop P w K mg f 63 := by
  refine top_of (k := 5) D.fn sc_law hb ⟨rfl, by decide, by decide⟩ (fun base cdv A s H a ns hK hns hr hgd hsq hlen hA => ?_)
  subst hA
  have hu64 := hr.units
  have G_law_tape : FnOk P w K mg base CX0 1 f_law_tape fd_law_tape ["_law_script"] (sp_law_tape K) := ok_law_tape D_law_tape T
  have G_law_family : FnOk P w K mg base CX0 3 f_law_family fd_law_family ["_law_tape_here", "_law_states", "_law_variants", "_law_low"] sp_law_family := ok_law_family D_law_family T D_law_draw D_law_price
  have G_law_draw : FnOk P w K mg base CX0 1 f_law_draw fd_law_draw ["_law_tape_here", "_law_menu"] sp_law_draw := ok_law_draw D_law_draw T
  have G_law_sizes : FnOk P w K mg base CX0 2 f_law_sizes fd_law_sizes ["_law_family_here"] sp_law_sizes := ok_law_sizes D_law_sizes T D_law_size
  have G_least_weights : FnOk P w K mg base CX0 3 f_least_weights fd_least_weights ["family"] sp_least_weights := ok_least_weights D_least_weights T D_least_round D_weight_of
  have G_first_tree : FnOk P w K mg base CX0 4 f_first_tree fd_first_tree ["family", "state"] sp_first_tree := ok_first_tree D_first_tree T D_least_weights D_least_round D_weight_of D_check_parts D_first_roots D_tree_from
  have G_law_fits : FnOk P w K mg base CX0 1 f_law_fits fd_law_fits ["_law_family_here", "_law_state", "_law_tree_here"] sp_law_fits := ok_law_fits D_law_fits T
  have G_law_priced : FnOk P w K mg base CX0 1 f_law_priced fd_law_priced ["_law_family_here", "_law_tree_here"] sp_law_priced := ok_law_priced D_law_priced T
  have G_law_some_tree : FnOk P w K mg base CX0 3 f_law_some_tree fd_law_some_tree ["_law_tape_here", "_law_family_here", "_law_room"] sp_law_some_tree := ok_law_some_tree D_law_some_tree T D_law_sizes D_law_size D_law_draw D_law_tree
  have G_law_trees : FnOk P w K mg base CX0 5 f_law_trees fd_law_trees ["_law_family_here", "_law_top"] sp_law_trees := ok_law_trees D_law_trees T D_law_fillings
  have G_law_reach : FnOk P w K mg base CX0 1 f_law_reach fd_law_reach ["_law_counts_here", "_law_limit"] sp_law_reach := ok_law_reach D_law_reach T
  have G_law_counts : FnOk P w K mg base CX0 5 f_law_counts fd_law_counts ["_law_family_here", "_law_top"] sp_law_counts := ok_law_counts D_law_counts T D_law_ways
  refine ⟨_, (pss_cons (ps_set (i := 1) sc_law.nd rfl (Or.inl rfl) (pe_call G_law_tape (hr.mono (by first | decide | exact Nat.le_refl _)) (by rfl) D_law_tape.mg D_law_tape.fn.kp D_law_tape.bd .nil pass0 (pa_cons (pv 0) pa_nil)))
    (pss_cons (ps_set (i := 2) sc_law.nd rfl (Or.inl rfl) (pe_call G_law_family (hr.mono (by first | decide | exact Nat.le_refl _)) (by rfl) D_law_family.mg D_law_family.fn.kp D_law_family.bd .nil pass0 (pa_cons (pv 1) (pa_cons pe_int (pa_cons pe_int (pa_cons pe_int pa_nil))))))
    (pss_cons (ps_set (i := 3) sc_law.nd rfl (Or.inl rfl) (pe_call G_law_sizes (hr.mono (by first | decide | exact Nat.le_refl _)) (by rfl) D_law_sizes.mg D_law_sizes.fn.kp D_law_sizes.bd .nil pass0 (pa_cons (pv 2) pa_nil)))
    (pss_cons (ps_set (i := 4) sc_law.nd rfl (Or.inl rfl) (pe_call G_least_weights (hr.mono (by first | decide | exact Nat.le_refl _)) (by rfl) D_least_weights.mg D_least_weights.fn.kp D_least_weights.bd .nil pass0 (pa_cons (pv 2) pa_nil)))
    (pss_cons (ps_set (i := 5) sc_law.nd rfl (Or.inl rfl) (pe_lst pa_nil))
    (pss_cons (ps_for PassesOwn.never rfl (pi_range1 (by rfl) T.b_range (pa_cons (pe_ix ix_tup (pv 2) pe_int (fun _ _ => rfl)) pa_nil)) (pg_name (i := 6) sc_law.nd rfl (Or.inl rfl))
    (pss_cons (ps_set (i := 7) sc_law.nd rfl (Or.inl rfl) (pe_call G_first_tree (hr.mono (by first | decide | exact Nat.le_refl _)) (by rfl) D_first_tree.mg D_first_tree.fn.kp D_first_tree.bd .nil pass0 (pa_cons (pv 2) (pa_cons (pv 6) pa_nil))))
      (pss_cons (ps_if (PW.pt (pw_or (pt_cmpR op_ne (pe_cmpR op_isN (pv 7) pe_non (nomark _)) (pe_cmpR op_isN (pe_ix ix_list (pv 3) (pv 6) (fun _ _ => rfl)) pe_non (nomark _)) (nomark _)) (pw_or1 (pt_cmpR op_ne (pe_cmpR op_isN (pe_ix ix_tup (pv 4) (pv 6) (fun _ _ => rfl)) pe_non (nomark _)) (pe_cmpR op_isN (pv 7) pe_non (nomark _)) (nomark _)))))
      (pss_one (ps_ret pe_bl))
      pss_nil)
      (pss_cons (ps_if (pt_cmpR op_notN (pv 7) pe_non (nomark _))
      (pss_cons (ps_if (PW.pt (pw_or (pt_not (pt_val (pe_callB call_isi (by rfl) T.b_isinstance (by decide +kernel) (pa_cons (pv 7) (pa_cons (pe_bltn (v := .ty "tuple") (by rfl) T.b_tuple (by decide +kernel) rfl) pa_nil))))) (pw_or1 (pt_not (pt_val (pe_call G_law_fits (hr.mono (by first | decide | exact Nat.le_refl _)) (by rfl) D_law_fits.mg D_law_fits.fn.kp D_law_fits.bd .nil pass0 (pa_cons (pv 2) (pa_cons (pv 6) (pa_cons (pv 7) pa_nil)))))))))
        (pss_one (ps_ret pe_bl))
        pss_nil)
        (pss_one (ps_if (pt_cmpR op_ne (pe_callB (KR.call_repr hgd hu64) (by rfl) T.b_repr (by decide +kernel) (pa_cons (pe_ix ix_tup (pv 4) (pv 6) (fun _ _ => rfl)) pa_nil)) (pe_callB (KR.call_repr hgd hu64) (by rfl) T.b_repr (by decide +kernel) (pa_cons (pe_tup (pa_cons (pe_call G_law_priced (hr.mono (by first | decide | exact Nat.le_refl _)) (by rfl) D_law_priced.mg D_law_priced.fn.kp D_law_priced.bd .nil pass0 (pa_cons (pv 2) (pa_cons (pv 7) pa_nil))) (pa_cons (pe_callB call_len_seq (by rfl) T.b_len PySem.boot_len (pa_cons (pv 7) pa_nil)) pa_nil))) pa_nil)) (nomark _))
        (pss_one (ps_ret pe_bl))
        pss_nil)))
      pss_nil)
      (pss_one (ps_expr (pe_bm PySem.F.plainAttrs_list PySem.F.slot_list_append PySem.F.type_list_append mt_append (pv 5) (pa_cons (pv 7) pa_nil))))))))
    (pss_cons (ps_for PassesOwn.never rfl (pi_range1 (by rfl) T.b_range (pa_cons (pe_call G_law_draw (hr.mono (by first | decide | exact Nat.le_refl _)) (by rfl) D_law_draw.mg D_law_draw.fn.kp D_law_draw.bd .nil pass0 (pa_cons (pv 1) (pa_cons pe_int pa_nil))) pa_nil)) (pg_name (i := 8) sc_law.nd rfl (Or.inl rfl))
    (pss_cons (ps_set (i := 9) sc_law.nd rfl (Or.inl rfl) (pe_call G_law_some_tree (hr.mono (by first | decide | exact Nat.le_refl _)) (by rfl) D_law_some_tree.mg D_law_some_tree.fn.kp D_law_some_tree.bd .nil pass0 (pa_cons (pv 1) (pa_cons (pv 2) (pa_cons (pe_ix ix_list (pe_lst (pa_cons pe_int (pa_cons pe_int (pa_cons pe_int (pa_cons pe_int pa_nil))))) (pe_call G_law_draw (hr.mono (by first | decide | exact Nat.le_refl _)) (by rfl) D_law_draw.mg D_law_draw.fn.kp D_law_draw.bd .nil pass0 (pa_cons (pv 1) (pa_cons pe_int pa_nil))) (fun _ _ => rfl)) pa_nil)))))
      (pss_one (ps_if (pt_truth (pe_ix ix_tup (pv 9) pe_int (fun _ _ => rfl)) (by intro _; rfl))
      (pss_cons (ps_set (i := 10) sc_law.nd rfl (Or.inl rfl) (pe_ix ix_list (pv 5) (pe_ix ix_tup (pv 9) pe_int (fun _ _ => rfl)) (fun _ _ => rfl)))
        (pss_one (ps_if (pt_cmpR (KR.op_noLt3 hu64) (pe_tup (pa_cons (pe_call G_law_priced (hr.mono (by first | decide | exact Nat.le_refl _)) (by rfl) D_law_priced.mg D_law_priced.fn.kp D_law_priced.bd .nil pass0 (pa_cons (pv 2) (pa_cons (pe_ix ix_tup (pv 9) pe_int (fun _ _ => rfl)) pa_nil))) (pa_cons (pe_callB call_len_seq (by rfl) T.b_len PySem.boot_len (pa_cons (pe_ix ix_tup (pv 9) pe_int (fun _ _ => rfl)) pa_nil)) (pa_cons (pe_ix ix_tup (pv 9) pe_int (fun _ _ => rfl)) pa_nil)))) (pe_tup (pa_cons (pe_call G_law_priced (hr.mono (by first | decide | exact Nat.le_refl _)) (by rfl) D_law_priced.mg D_law_priced.fn.kp D_law_priced.bd .nil pass0 (pa_cons (pv 2) (pa_cons (pv 10) pa_nil))) (pa_cons (pe_callB call_len_seq (by rfl) T.b_len PySem.boot_len (pa_cons (pv 10) pa_nil)) (pa_cons (pv 10) pa_nil)))) (nomark _))
        (pss_one (ps_ret pe_bl))
        pss_nil)))
      pss_nil))))
    (pss_cons (ps_set (i := 11) sc_law.nd rfl (Or.inl rfl) (pe_call G_law_trees (hr.mono (by first | decide | exact Nat.le_refl _)) (by rfl) D_law_trees.mg D_law_trees.fn.kp D_law_trees.bd .nil pass0 (pa_cons (pv 2) (pa_cons (pe_call G_law_reach (hr.mono (by first | decide | exact Nat.le_refl _)) (by rfl) D_law_reach.mg D_law_reach.fn.kp D_law_reach.bd .nil pass0 (pa_cons (pe_call G_law_counts (hr.mono (by first | decide | exact Nat.le_refl _)) (by rfl) D_law_counts.mg D_law_counts.fn.kp D_law_counts.bd .nil pass0 (pa_cons (pv 2) (pa_cons pe_int pa_nil))) (pa_cons pe_int pa_nil))) pa_nil))))
    (pss_cons (ps_for PassesOwn.never rfl (pi_list (pv 11)) (pg_name (i := 12) sc_law.nd rfl (Or.inl rfl))
    (pss_one (ps_for PassesOwn.never rfl (pi_range1 (by rfl) T.b_range (pa_cons (pe_ix ix_tup (pv 2) pe_int (fun _ _ => rfl)) pa_nil)) (pg_name (i := 6) sc_law.nd rfl (Or.inl rfl))
      (pss_one (ps_for PassesOwn.never rfl (pi_list (pe_ix ix_list (pv 12) (pv 6) (fun _ _ => rfl))) (pg_name (i := 9) sc_law.nd rfl (Or.inl rfl))
        (pss_cons (ps_set (i := 10) sc_law.nd rfl (Or.inl rfl) (pe_ix ix_list (pv 5) (pv 6) (fun _ _ => rfl)))
          (pss_one (ps_if (pt_cmpR (KR.op_noLt3 hu64) (pe_tup (pa_cons (pe_ix ix_tup (pv 9) pe_int (fun _ _ => rfl)) (pa_cons (pe_callB call_len_seq (by rfl) T.b_len PySem.boot_len (pa_cons (pe_ix ix_tup (pv 9) pe_int (fun _ _ => rfl)) pa_nil)) (pa_cons (pe_ix ix_tup (pv 9) pe_int (fun _ _ => rfl)) pa_nil)))) (pe_tup (pa_cons (pe_call G_law_priced (hr.mono (by first | decide | exact Nat.le_refl _)) (by rfl) D_law_priced.mg D_law_priced.fn.kp D_law_priced.bd .nil pass0 (pa_cons (pv 2) (pa_cons (pv 10) pa_nil))) (pa_cons (pe_callB call_len_seq (by rfl) T.b_len PySem.boot_len (pa_cons (pv 10) pa_nil)) (pa_cons (pv 10) pa_nil)))) (nomark _))
          (pss_one (ps_ret pe_bl))
          pss_nil))))))))
    (pss_one (ps_ret pe_bl))))))))))), ?_⟩
  -- tape, family, sizes, told
  refine ⟨_, rfl, a, ns, rfl, hsq, fun p b H1 s1 hp hT1 => ?_⟩
  refine ⟨_, rfl, p, b, rfl, hT1, fun fa n rs H2 b2 hT2 hF2 F => ?_⟩
  have n1 := F.n1
  have n4 := F.n4
  refine ⟨_, rfl, fa, n, rs, rfl, hF2, F, fun l z H3 s3 hl0 hl3 hz => ?_⟩
  have hzl : z.length = n := by
    rw [← emb_length, hz]
    exact least_length _ _
  have hT3 := hT2.of_same s3
  have hF3 := hF2.mono (Tups.of s3)
  refine ⟨_, rfl, fa, n, rs, rfl, hF3, F, fun tl H4 s4 hW4 => ?_⟩
  have hT4 := hT3.of_same s4
  -- firsts = []
  refine ⟨Nat.zero_le _, fun fl hfl => ?_⟩
  obtain ⟨flp, flb⟩ := hT4.ne hfl
  have s5 := same_new hfl (o := .lst [])
  have hF5 := (hF3.mono (Tups.of s4)).mono (Tups.of s5)
  obtain ⟨rt, vt, vs0, hf, hvt, hR⟩ := id hF5
  have hl5 := s5 _ _ (s4 _ _ hl3)
  have hW5 := hW4.mono (Tups.of s5)
  -- for state in range(family[0])
  refine ⟨_, rfl, fa, _, 0, _, rfl, rfl, SqT.of hf, atI_nat (j := 0) rfl, n, rfl, by omega, by omega, for_range (n := ((n : Int)).toNat) (fun i σ H' => ∃ (vs : List V) (y6 y7 : Option V), Same H4 H' ∧ H' fl = some (.lst vs) ∧ vs.length = i ∧ FirstsAt H' vs n rs ∧
      σ = [some (.ref a), some (.ref p), some (.ref fa), some (.ref l), some (.ref tl), some (.ref fl), y6, y7, none, none, none, none, none])
      ⟨[], none, none, s5, upd_same, rfl, fun s v e => by simp at e, rfl⟩ ?_ ?_⟩
  · rintro i σ H6 hi ⟨vs, y6, y7, sm, ev, hvl, hfs, rfl⟩
    have hin : i < n := by omega
    have hF6 : FamAt H6 fa n rs := hF3.mono (Tups.of (s4.trans sm))
    rw [Int.zero_add]
    have hl6 := sm _ _ (s4 _ _ hl3)
    obtain ⟨ws, hws, hW⟩ := hW4.mono (Tups.of sm)
    -- tree = first_tree(family, state)
    refine ⟨_, rfl, _, rfl, fa, n, i, rs, rfl, hF6, F, hin, fun v H7 s7 hv => ?_⟩
    have sm7 := sm.trans s7
    have hl7 := s7 _ _ hl6
    have hws7 := s7 _ _ hws
    have hF7 := hF6.mono (Tups.of s7)
    have ev7 := s7 _ _ ev
    have hat : atI (z.map ov) (i : Int) = some (ov (sAt z i)) := sAt_map (by rw [hzl]; exact hin)
    obtain ⟨v1, hv1, _, hv3⟩ := (hW.mono (Tups.of s7)).at (s := i) (by rw [least_length]; exact hin)
    have fin : ∀ H8, Tups H7 H8 → FirstsAt H8 (vs ++ [v]) n rs := fun H8 s8 s u e => by
      by_cases hs : s < vs.length
      · rw [List.getElem?_append_left hs] at e
        exact (hfs s u e).mono ((Tups.of s7).trans s8)
      · rw [List.getElem?_append_right (by omega)] at e
        have hl : s - vs.length < 1 := (List.getElem?_eq_some_iff.mp e).1
        have es : s = i := by omega
        have e0 : s - vs.length = 0 := by omega
        rw [e0] at e
        have eu : v = u := Option.some.inj e
        subst es eu
        exact hv.mono s8
    rcases id hv with ⟨hn, rfl⟩ | ⟨pr, t, x, rfl, hx, hpr, hft⟩
    · -- no tree
      have ez : sAt z i = none := (sizes_none hz i).mpr hn
      rw [ez] at hat
      rw [hn] at hv3
      have e1 : v1 = .non := hv3
      subst e1
      refine ⟨_, rfl, rfl, _, rfl, _, rfl, l, _, _, _, rfl, rfl, SqL.of hl7, hat, rfl, rfl, false, rfl, iteF ?_⟩
      refine ⟨_, rfl, _, rfl, tl, _, _, _, rfl, rfl, SqT.of hws7, hv1, rfl, _, rfl, rfl, rfl, false, rfl, iteF ?_⟩
      refine ⟨_, rfl, rfl, false, rfl, iteF ?_⟩
      refine ⟨_, rfl, .inl ⟨rfl, _, SqL.of ev7⟩, _, rfl, fl, _, _, rfl, rfl, ev7, ?_, ?_⟩
      · exact small1000 (by omega)
      · exact ⟨vs ++ [.non], _, _, same_upd sm7 hfl, upd_same, by rw [List.length_append, List.length_singleton, hvl], fin _ (Tups.upd_list ev7), rfl⟩
    · have hne : at' (least n rs) i ≠ none := by
        rw [hx]
        exact fun e => nomatch e
      obtain ⟨h40, hc40⟩ := first_len F hft hx
      have hrows := fits_rows hft.fits
      cases ez : sAt z i with
      | none => exact absurd ((sizes_none hz i).mp ez) hne
      | some m =>
        rw [ez] at hat
        rw [hx] at hv3
        obtain ⟨ta, rfl, hta⟩ := hv3
        have hw := first_weight hft hx
        subst hw
        refine ⟨_, rfl, rfl, _, rfl, _, rfl, l, _, _, _, rfl, rfl, SqL.of hl7, hat, rfl, rfl, false, rfl, iteF ?_⟩
        refine ⟨_, rfl, _, rfl, tl, _, _, _, rfl, rfl, SqT.of hws7, hv1, rfl, _, rfl, rfl, rfl, false, rfl, iteF ?_⟩
        refine ⟨_, rfl, rfl, true, rfl, iteT ?_⟩
        -- isinstance(tree, tuple), fits
        refine ⟨_, rfl, .ref pr, .ty "tuple", .type "tuple", .type "tuple", true, rfl, .ty _, .base (.tup hpr), kit_ty (by decide +kernel), true, rfl, iteF ?_⟩
        refine ⟨_, rfl, _, rfl, _, rfl, fa, pr, n, i, rs, t, rfl, hF7, hpr, hft.fits, by omega, fun H8 s8 => ⟨true, rfl, iteF ?_⟩⟩
        -- repr(told[state]) != repr((priced, len))
        have hta8 := s8 _ _ hta
        obtain ⟨w1, w2, w3, w4⟩ := show_pair hc40 h40
        refine ⟨_, rfl, _, rfl, tl, _, _, _, rfl, rfl, SqT.of (s8 _ _ hws7), hv1, ta, _, rfl, dp_pair hta8, w1, w2, w3, w4, ?_⟩
        refine ⟨_, rfl, _, rfl, fa, pr, n, rs, t, rfl, hF7.mono (Tups.of s8), s8 _ _ hpr, hrows, by omega, fun H9 s9 => ?_⟩
        refine ⟨_, rfl, pr, _, rfl, .inr (SqT.of (s9 _ _ (s8 _ _ hpr))), (by show 2 ≤ sizeLine; decide), fun q hq => ?_⟩
        have s10 := same_new hq (o := .tup [nv (cost rs t), .int ((t.map nv).length : Nat)])
        refine ⟨q, .tuple [.int (cost rs t : Nat), .int (t.length : Nat)], rfl, dp_pair (by rw [upd_same, List.length_map]), w1, w2, w3, w4, rfl, false, by simp, iteF ?_⟩
        have s79 := s8.trans (s9.trans s10)
        have ev10 := s79 _ _ ev7
        refine ⟨_, rfl, .inl ⟨rfl, _, SqL.of ev10⟩, _, rfl, fl, _, _, rfl, rfl, ev10, ?_, ?_⟩
        · exact small1000 (by omega)
        · exact ⟨vs ++ [.ref pr], _, _, same_upd (sm7.trans s79) hfl, upd_same, by rw [List.length_append, List.length_singleton, hvl], fin _ ((Tups.of s79).trans (Tups.upd_list ev10)), rfl⟩
  · rintro σ H6 ⟨vs, y6, y7, sm, ev, hvl, hfs, rfl⟩
    have hvn : vs.length = n := by omega
    have hT6 : TapeAt H6 p b := hT4.of_same sm
    have hF6 : FamAt H6 fa n rs := hF3.mono (Tups.of (s4.trans sm))
    -- for k in range(draw(tape, 9))
    refine ⟨_, rfl, p, b, 9, rfl, hT6, by decide, fun k9 H7 b7 hT7 hk9 => ?_⟩
    have B7 : Dr H6 H7 p b := ⟨b7, hT7⟩
    refine ⟨k9, rfl, by omega, by omega, for_range (n := ((k9 : Int)).toNat) (fun i σ H' => ∃ (y8 y9 y10 : Option V), Dr H6 H' p b ∧
      σ = [some (.ref a), some (.ref p), some (.ref fa), some (.ref l), some (.ref tl), some (.ref fl), y6, y7, y8, y9, y10, none, none])
      ⟨none, none, none, B7, rfl⟩ ?_ ?_⟩
    · rintro i σ H8 hi ⟨y8, y9, y10, B8, rfl⟩
      -- pair = some_tree(tape, family, [2, 5, 12, 40][draw(tape, 4)])
      refine ⟨_, rfl, _, rfl, (by show 4 ≤ sizeLine; decide), fun ml hml => ?_⟩
      have B9 := B8.same (same_new hml (o := .lst [V.int 2, .int 5, .int 12, .int 40]))
      refine ⟨_, rfl, p, b, 4, rfl, B9.tape, by decide, fun q4 H10 b10 t10 hq4 => ?_⟩
      obtain ⟨R, hR40, hat⟩ := room_menu q4 (by omega)
      obtain ⟨mp, mb⟩ := B8.tape.ne hml
      have B10 := B9.draw b10 t10
      refine ⟨ml, _, _, nv R, rfl, rfl, SqL.of (b10 _ _ upd_same mp), hat, p, b, fa, n, R, rs, rfl, t10, hF6.mono (B10.tups hT6), F, hR40, fun pp qq s t H11 b11 t11 hpp hqq hc => ?_⟩
      have B11 := B10.draw b11 t11
      have ev11 := B11.but _ _ ev flp
      have hF11 := hF6.mono (B11.tups hT6)
      have hfs11 := hfs.mono (B11.tups hT6)
      -- if pair[1]
      refine ⟨_, rfl, pp, _, 1, _, rfl, rfl, SqT.of hpp, atI_nat (j := 1) rfl, _, .inr (.inl ⟨_, SqT.of hqq, rfl⟩), ?_⟩
      cases t with
      | nil => exact iteF ⟨_, _, _, B11, rfl⟩
      | cons k t =>
        refine iteT ?_
        rcases hc with hc | ⟨hsn, hfit, htl⟩
        · cases hc
        obtain ⟨u0, u, x, hu1, hx, hu2, hu3, hu4⟩ := hfs11.get F (by omega) hfit
        -- first = firsts[pair[0]]
        refine ⟨_, rfl, _, rfl, pp, _, 0, _, rfl, rfl, SqT.of hpp, atI_nat (j := 0) rfl, fl, _, _, _, rfl, rfl, SqL.of ev11, hu1, ?_⟩
        -- the order
        refine ⟨_, rfl, _, rfl, pp, _, 1, _, rfl, rfl, SqT.of hpp, atI_nat (j := 1) rfl, fa, qq, n, rs, k :: t, rfl, hF11, hqq, fits_rows hfit, by omega, fun H12 s12 => ?_⟩
        refine ⟨_, rfl, pp, _, 1, _, rfl, rfl, SqT.of (s12 _ _ hpp), atI_nat (j := 1) rfl, qq, _, rfl, .inr (SqT.of (s12 _ _ hqq)), _, rfl, pp, _, 1, _, rfl, rfl, SqT.of (s12 _ _ hpp), atI_nat (j := 1) rfl, (by show 3 ≤ sizeLine; decide), fun la hla => ?_⟩
        have s13 := s12.trans (same_new hla (o := .tup [nv (cost rs (k :: t)), .int (((k :: t).map nv).length : Nat), .ref qq]))
        refine ⟨_, rfl, _, rfl, fa, u0, n, rs, u, rfl, hF11.mono (Tups.of s13), s13 _ _ hu2, fits_rows hu3.fits, by omega, fun H14 s14 => ?_⟩
        have s15 := s13.trans s14
        refine ⟨_, rfl, u0, _, rfl, .inr (SqT.of (s15 _ _ hu2)), _, rfl, (by show 3 ≤ sizeLine; decide), fun lb hlb => ?_⟩
        have s16 := same_new hlb (o := .tup [nv (cost rs u), .int ((u.map nv).length : Nat), .ref u0])
        exact no_lt F hfit hu3 hx (s16 _ _ (s14 _ _ upd_same)) upd_same (s16 _ _ (s15 _ _ hqq)) (s16 _ _ (s15 _ _ hu2)) rfl (by rw [List.length_map]) rfl (by rw [List.length_map]) ⟨_, rfl, iteF ⟨_, _, _, B11.same (s15.trans s16), rfl⟩⟩
    · rintro σ H8 ⟨y8, y9, y10, B8, rfl⟩
      have ev8 := B8.but _ _ ev flp
      have hF8 := hF6.mono (B8.tups hT6)
      have hfs8 := hfs.mono (B8.tups hT6)
      -- rows = trees(family, reach(counts(family, 5), 80))
      refine ⟨_, rfl, _, rfl, fa, n, rs, rfl, hF8, F, fun c H9 s9 hC => ?_⟩
      refine ⟨c, n, rfl, hC, fun q hq => ?_⟩
      refine ⟨fa, n, q, rs, rfl, hF8.mono (Tups.of s9), F, hq, fun tr H10 s10 hTr => ?_⟩
      have s8 := s9.trans s10
      have ev10 := s8 _ _ ev8
      have hF10 := hF8.mono (Tups.of s8)
      obtain ⟨rt2, vt2, vs2, hf10, _, _⟩ := id hF10
      have hfs10 := hfs8.mono (Tups.of s8)
      obtain ⟨as, htr, hasl, has⟩ := hTr
      -- for row in rows
      refine ⟨_, rfl, tr, rfl, ⟨_, SqL.of htr⟩, for_list (K := K) (a := tr) (xs := as.map V.ref) (fun i σ H' => ∃ (y6 y9 y10 y12 : Option V), Same H10 H' ∧
        σ = [some (.ref a), some (.ref p), some (.ref fa), some (.ref l), some (.ref tl), some (.ref fl), y6, y7, y8, y9, y10, some (.ref tr), y12])
        ⟨_, _, _, _, fun _ _ e => e, rfl⟩ (fun i σ H' _ hP => by obtain ⟨_, _, _, _, q, _⟩ := hP; exact SqL.of (q _ _ htr)) ?_ ?_⟩
      · rintro m y σ H11 hm ⟨y6, y9, y10, y12, s11, rfl⟩
        obtain ⟨ar, hm', rfl⟩ := map_get hm
        obtain ⟨_, bs, hbs, hbl, hbag⟩ := has m ar hm'
        -- for state in range(family[0])
        refine ⟨_, rfl, fa, _, 0, _, rfl, rfl, SqT.of (s11 _ _ hf10), atI_nat (j := 0) rfl, n, rfl, by omega, by omega, for_range (n := ((n : Int)).toNat) (fun i σ H' => ∃ (y6 y9 y10 : Option V), Same H10 H' ∧
          σ = [some (.ref a), some (.ref p), some (.ref fa), some (.ref l), some (.ref tl), some (.ref fl), y6, y7, y8, y9, y10, some (.ref tr), some (.ref ar)])
          ⟨_, _, _, s11, rfl⟩ ?_ ?_⟩
        · rintro i σ H12 hi ⟨y6, y9, y10, s12, rfl⟩
          have hin : i < n := by omega
          rw [Int.zero_add]
          have hib : bs[i]? = some bs[i] := List.getElem?_eq_getElem (by omega)
          obtain ⟨_, us, hus, _, hpair⟩ := hbag i _ hib
          -- for pair in row[state]
          refine ⟨_, rfl, _, rfl, ar, _, _, _, rfl, rfl, SqL.of (s12 _ _ hbs), at_map hib, _, rfl, ⟨_, SqL.of (s12 _ _ hus)⟩, for_list (K := K) (a := bs[i]) (xs := us) (fun x σ H' => ∃ (y9 y10 : Option V), Same H10 H' ∧
            σ = [some (.ref a), some (.ref p), some (.ref fa), some (.ref l), some (.ref tl), some (.ref fl), some (nv i), y7, y8, y9, y10, some (.ref tr), some (.ref ar)])
            ⟨_, _, s12, rfl⟩ (fun x σ H' _ hP => by obtain ⟨_, _, q, _⟩ := hP; exact SqL.of (q _ _ hus)) ?_ ?_⟩
          · rintro x v σ H13 hx0 ⟨y9, y10, s13, rfl⟩
            obtain ⟨pp, qq, t, rfl, hpp, hqq, hfit, htl⟩ := (hpair v (List.mem_of_getElem? hx0)).mono (Tups.of s13)
            obtain ⟨u0, u, x, hu1, hx, hu2, hu3, hu4⟩ := (hfs10.mono (Tups.of s13)).get F (by omega) hfit
            -- first = firsts[state]
            refine ⟨_, rfl, _, rfl, fl, _, _, _, rfl, rfl, SqL.of (s13 _ _ ev10), hu1, ?_⟩
            -- the order
            refine ⟨_, rfl, pp, _, 0, _, rfl, rfl, SqT.of hpp, atI_nat (j := 0) rfl, ?_⟩
            refine ⟨_, rfl, pp, _, 1, _, rfl, rfl, SqT.of hpp, atI_nat (j := 1) rfl, qq, _, rfl, .inr (SqT.of hqq), _, rfl, pp, _, 1, _, rfl, rfl, SqT.of hpp, atI_nat (j := 1) rfl, (by show 3 ≤ sizeLine; decide), fun la hla => ?_⟩
            have s14 := same_new hla (o := .tup [nv (cost rs t), .int ((t.map nv).length : Nat), .ref qq])
            refine ⟨_, rfl, _, rfl, fa, u0, n, rs, u, rfl, hF10.mono (Tups.of (s13.trans s14)), s14 _ _ hu2, fits_rows hu3.fits, by omega, fun H15 s15 => ?_⟩
            have s16 := s14.trans s15
            refine ⟨_, rfl, u0, _, rfl, .inr (SqT.of (s16 _ _ hu2)), _, rfl, (by show 3 ≤ sizeLine; decide), fun lb hlb => ?_⟩
            have s17 := same_new hlb (o := .tup [nv (cost rs u), .int ((u.map nv).length : Nat), .ref u0])
            exact no_lt F hfit hu3 hx (s17 _ _ (s15 _ _ upd_same)) upd_same (s17 _ _ (s16 _ _ hqq)) (s17 _ _ (s16 _ _ hu2)) rfl (by rw [List.length_map]) rfl (by rw [List.length_map]) ⟨_, rfl, iteF ⟨_, _, s13.trans (s16.trans s17), rfl⟩⟩
          · rintro σ H13 ⟨y9, y10, s13, rfl⟩
            exact ⟨_, _, _, s13, rfl⟩
        · rintro σ H12 ⟨y6, y9, y10, s12, rfl⟩
          exact ⟨_, _, _, _, s12, rfl⟩
      · rintro σ H11 ⟨y6, y9, y10, y12, s11, rfl⟩
        rfl
end
end KW
set_option Elab.async false
set_option linter.all false
set_option maxRecDepth 100000
set_option maxHeartbeats 4000000
/-! What the top has written; the law. -/
namespace KW
open PySem PySem.Spec PyProof.Rows L2 KR K30

theorem all_mk {P : Program} {w : World} {K : PySem.W.Frag} {h : Heap} {mg : Str → Option Value} {fa f1 f2 f3 f4 f5 f6 f7 f8 f9 f10 f11 f12 f13 f14 f15 f16 f17 f18 f19 f20 f21 f22 f23 : Addr} (X : K.In h) (G : h.Ns mainGlobals mg) (hfa : mg "law" = some (.ref fa))
    {od1 an1 od2 an2 od3 an3 od4 an4 od5 an5 od6 an6 od7 an7 od8 an8 od9 an9 od10 an10 od11 an11 od12 an12 od13 an13 od14 an14 od15 an15 od16 an16 od17 an17 od18 an18 od19 an19 od20 an20 od21 an21 od22 an22 od23 an23 : Option Addr} {sl1 sl2 sl3 sl4 sl5 sl6 sl7 sl8 sl9 sl10 sl11 sl12 sl13 sl14 sl15 sl16 sl17 sl18 sl19 sl20 sl21 sl22 sl23 : Array (Option Value)} {t : Tok}
    {oc1 kV1 dc1 pm1 cd1 ct1 oc2 kV2 dc2 pm2 cd2 ct2 oc3 kV3 dc3 pm3 cd3 ct3 oc4 kV4 dc4 pm4 cd4 ct4 oc5 kV5 dc5 pm5 cd5 ct5 oc6 kV6 dc6 pm6 cd6 ct6 oc7 kV7 dc7 pm7 cd7 ct7 oc8 kV8 dc8 pm8 cd8 ct8 oc9 kV9 dc9 pm9 cd9 ct9 oc10 kV10 dc10 pm10 cd10 ct10 oc11 kV11 dc11 pm11 cd11 ct11 oc12 kV12 dc12 pm12 cd12 ct12 oc13 kV13 dc13 pm13 cd13 ct13 oc14 kV14 dc14 pm14 cd14 ct14 oc15 kV15 dc15 pm15 cd15 ct15 oc16 kV16 dc16 pm16 cd16 ct16 oc17 kV17 dc17 pm17 cd17 ct17 oc18 kV18 dc18 pm18 cd18 ct18 oc19 kV19 dc19 pm19 cd19 ct19 oc20 kV20 dc20 pm20 cd20 ct20 oc21 kV21 dc21 pm21 cd21 ct21 oc22 kV22 dc22 pm22 cd22 ct22 oc23 kV23 dc23 pm23 cd23 ct23 : Value}
    (a1 : PySem.W.nsIn K mainGlobals "_law_tape" = some (some (.ref f1))) (l1 : K.lookup f1 = some ⟨oc1, od1, .func (PySem.W.fnOf "_law_tape" "_law_tape" (defArgs s_law_tape) (defBody s_law_tape) (defScope s_law_tape) .none kV1 dc1 pm1 an1 cd1 ct1), sl1⟩) (c1 : PySem.W.codeIn K cd1 "_law_tape" = true) (k1 : PySem.W.keepIn K (.ref f1) = true)
    (a2 : PySem.W.nsIn K mainGlobals "_law_family" = some (some (.ref f2))) (l2 : K.lookup f2 = some ⟨oc2, od2, .func (PySem.W.fnOf "_law_family" "_law_family" (defArgs s_law_family) (defBody s_law_family) (defScope s_law_family) .none kV2 dc2 pm2 an2 cd2 ct2), sl2⟩) (c2 : PySem.W.codeIn K cd2 "_law_family" = true) (k2 : PySem.W.keepIn K (.ref f2) = true)
    (a3 : PySem.W.nsIn K mainGlobals "_law_draw" = some (some (.ref f3))) (l3 : K.lookup f3 = some ⟨oc3, od3, .func (PySem.W.fnOf "_law_draw" "_law_draw" (defArgs s_law_draw) (defBody s_law_draw) (defScope s_law_draw) .none kV3 dc3 pm3 an3 cd3 ct3), sl3⟩) (c3 : PySem.W.codeIn K cd3 "_law_draw" = true) (k3 : PySem.W.keepIn K (.ref f3) = true)
    (a4 : PySem.W.nsIn K mainGlobals "_law_price" = some (some (.ref f4))) (l4 : K.lookup f4 = some ⟨oc4, od4, .func (PySem.W.fnOf "_law_price" "_law_price" (defArgs s_law_price) (defBody s_law_price) (defScope s_law_price) .none kV4 dc4 pm4 an4 cd4 ct4), sl4⟩) (c4 : PySem.W.codeIn K cd4 "_law_price" = true) (k4 : PySem.W.keepIn K (.ref f4) = true)
    (a5 : PySem.W.nsIn K mainGlobals "_law_sizes" = some (some (.ref f5))) (l5 : K.lookup f5 = some ⟨oc5, od5, .func (PySem.W.fnOf "_law_sizes" "_law_sizes" (defArgs s_law_sizes) (defBody s_law_sizes) (defScope s_law_sizes) .none kV5 dc5 pm5 an5 cd5 ct5), sl5⟩) (c5 : PySem.W.codeIn K cd5 "_law_sizes" = true) (k5 : PySem.W.keepIn K (.ref f5) = true)
    (a6 : PySem.W.nsIn K mainGlobals "_law_size" = some (some (.ref f6))) (l6 : K.lookup f6 = some ⟨oc6, od6, .func (PySem.W.fnOf "_law_size" "_law_size" (defArgs s_law_size) (defBody s_law_size) (defScope s_law_size) .none kV6 dc6 pm6 an6 cd6 ct6), sl6⟩) (c6 : PySem.W.codeIn K cd6 "_law_size" = true) (k6 : PySem.W.keepIn K (.ref f6) = true)
    (a7 : PySem.W.nsIn K mainGlobals "least_weights" = some (some (.ref f7))) (l7 : K.lookup f7 = some ⟨oc7, od7, .func (PySem.W.fnOf "least_weights" "least_weights" (defArgs s_least_weights) (defBody s_least_weights) (defScope s_least_weights) .none kV7 dc7 pm7 an7 cd7 ct7), sl7⟩) (c7 : PySem.W.codeIn K cd7 "least_weights" = true) (k7 : PySem.W.keepIn K (.ref f7) = true)
    (a8 : PySem.W.nsIn K mainGlobals "least_round" = some (some (.ref f8))) (l8 : K.lookup f8 = some ⟨oc8, od8, .func (PySem.W.fnOf "least_round" "least_round" (defArgs s_least_round) (defBody s_least_round) (defScope s_least_round) .none kV8 dc8 pm8 an8 cd8 ct8), sl8⟩) (c8 : PySem.W.codeIn K cd8 "least_round" = true) (k8 : PySem.W.keepIn K (.ref f8) = true)
    (a9 : PySem.W.nsIn K mainGlobals "weight_of" = some (some (.ref f9))) (l9 : K.lookup f9 = some ⟨oc9, od9, .func (PySem.W.fnOf "weight_of" "weight_of" (defArgs s_weight_of) (defBody s_weight_of) (defScope s_weight_of) .none kV9 dc9 pm9 an9 cd9 ct9), sl9⟩) (c9 : PySem.W.codeIn K cd9 "weight_of" = true) (k9 : PySem.W.keepIn K (.ref f9) = true)
    (a10 : PySem.W.nsIn K mainGlobals "first_tree" = some (some (.ref f10))) (l10 : K.lookup f10 = some ⟨oc10, od10, .func (PySem.W.fnOf "first_tree" "first_tree" (defArgs s_first_tree) (defBody s_first_tree) (defScope s_first_tree) .none kV10 dc10 pm10 an10 cd10 ct10), sl10⟩) (c10 : PySem.W.codeIn K cd10 "first_tree" = true) (k10 : PySem.W.keepIn K (.ref f10) = true)
    (a11 : PySem.W.nsIn K mainGlobals "check_parts" = some (some (.ref f11))) (l11 : K.lookup f11 = some ⟨oc11, od11, .func (PySem.W.fnOf "check_parts" "check_parts" (defArgs s_check_parts) (defBody s_check_parts) (defScope s_check_parts) .none kV11 dc11 pm11 an11 cd11 ct11), sl11⟩) (c11 : PySem.W.codeIn K cd11 "check_parts" = true) (k11 : PySem.W.keepIn K (.ref f11) = true)
    (a12 : PySem.W.nsIn K mainGlobals "first_roots" = some (some (.ref f12))) (l12 : K.lookup f12 = some ⟨oc12, od12, .func (PySem.W.fnOf "first_roots" "first_roots" (defArgs s_first_roots) (defBody s_first_roots) (defScope s_first_roots) .none kV12 dc12 pm12 an12 cd12 ct12), sl12⟩) (c12 : PySem.W.codeIn K cd12 "first_roots" = true) (k12 : PySem.W.keepIn K (.ref f12) = true)
    (a13 : PySem.W.nsIn K mainGlobals "tree_from" = some (some (.ref f13))) (l13 : K.lookup f13 = some ⟨oc13, od13, .func (PySem.W.fnOf "tree_from" "tree_from" (defArgs s_tree_from) (defBody s_tree_from) (defScope s_tree_from) .none kV13 dc13 pm13 an13 cd13 ct13), sl13⟩) (c13 : PySem.W.codeIn K cd13 "tree_from" = true) (k13 : PySem.W.keepIn K (.ref f13) = true)
    (a14 : PySem.W.nsIn K mainGlobals "_law_fits" = some (some (.ref f14))) (l14 : K.lookup f14 = some ⟨oc14, od14, .func (PySem.W.fnOf "_law_fits" "_law_fits" (defArgs s_law_fits) (defBody s_law_fits) (defScope s_law_fits) .none kV14 dc14 pm14 an14 cd14 ct14), sl14⟩) (c14 : PySem.W.codeIn K cd14 "_law_fits" = true) (k14 : PySem.W.keepIn K (.ref f14) = true)
    (a15 : PySem.W.nsIn K mainGlobals "_law_priced" = some (some (.ref f15))) (l15 : K.lookup f15 = some ⟨oc15, od15, .func (PySem.W.fnOf "_law_priced" "_law_priced" (defArgs s_law_priced) (defBody s_law_priced) (defScope s_law_priced) .none kV15 dc15 pm15 an15 cd15 ct15), sl15⟩) (c15 : PySem.W.codeIn K cd15 "_law_priced" = true) (k15 : PySem.W.keepIn K (.ref f15) = true)
    (a16 : PySem.W.nsIn K mainGlobals "_law_some_tree" = some (some (.ref f16))) (l16 : K.lookup f16 = some ⟨oc16, od16, .func (PySem.W.fnOf "_law_some_tree" "_law_some_tree" (defArgs s_law_some_tree) (defBody s_law_some_tree) (defScope s_law_some_tree) .none kV16 dc16 pm16 an16 cd16 ct16), sl16⟩) (c16 : PySem.W.codeIn K cd16 "_law_some_tree" = true) (k16 : PySem.W.keepIn K (.ref f16) = true)
    (a17 : PySem.W.nsIn K mainGlobals "_law_tree" = some (some (.ref f17))) (l17 : K.lookup f17 = some ⟨oc17, od17, .func (PySem.W.fnOf "_law_tree" "_law_tree" (defArgs s_law_tree) (defBody s_law_tree) (defScope s_law_tree) .none kV17 dc17 pm17 an17 cd17 ct17), sl17⟩) (c17 : PySem.W.codeIn K cd17 "_law_tree" = true) (k17 : PySem.W.keepIn K (.ref f17) = true)
    (a18 : PySem.W.nsIn K mainGlobals "_law_trees" = some (some (.ref f18))) (l18 : K.lookup f18 = some ⟨oc18, od18, .func (PySem.W.fnOf "_law_trees" "_law_trees" (defArgs s_law_trees) (defBody s_law_trees) (defScope s_law_trees) .none kV18 dc18 pm18 an18 cd18 ct18), sl18⟩) (c18 : PySem.W.codeIn K cd18 "_law_trees" = true) (k18 : PySem.W.keepIn K (.ref f18) = true)
    (a19 : PySem.W.nsIn K mainGlobals "_law_fillings" = some (some (.ref f19))) (l19 : K.lookup f19 = some ⟨oc19, od19, .func (PySem.W.fnOf "_law_fillings" "_law_fillings" (defArgs s_law_fillings) (defBody s_law_fillings) (defScope s_law_fillings) .none kV19 dc19 pm19 an19 cd19 ct19), sl19⟩) (c19 : PySem.W.codeIn K cd19 "_law_fillings" = true) (k19 : PySem.W.keepIn K (.ref f19) = true)
    (a20 : PySem.W.nsIn K mainGlobals "_law_reach" = some (some (.ref f20))) (l20 : K.lookup f20 = some ⟨oc20, od20, .func (PySem.W.fnOf "_law_reach" "_law_reach" (defArgs s_law_reach) (defBody s_law_reach) (defScope s_law_reach) .none kV20 dc20 pm20 an20 cd20 ct20), sl20⟩) (c20 : PySem.W.codeIn K cd20 "_law_reach" = true) (k20 : PySem.W.keepIn K (.ref f20) = true)
    (a21 : PySem.W.nsIn K mainGlobals "_law_counts" = some (some (.ref f21))) (l21 : K.lookup f21 = some ⟨oc21, od21, .func (PySem.W.fnOf "_law_counts" "_law_counts" (defArgs s_law_counts) (defBody s_law_counts) (defScope s_law_counts) .none kV21 dc21 pm21 an21 cd21 ct21), sl21⟩) (c21 : PySem.W.codeIn K cd21 "_law_counts" = true) (k21 : PySem.W.keepIn K (.ref f21) = true)
    (a22 : PySem.W.nsIn K mainGlobals "_law_ways" = some (some (.ref f22))) (l22 : K.lookup f22 = some ⟨oc22, od22, .func (PySem.W.fnOf "_law_ways" "_law_ways" (defArgs s_law_ways) (defBody s_law_ways) (defScope s_law_ways) .none kV22 dc22 pm22 an22 cd22 ct22), sl22⟩) (c22 : PySem.W.codeIn K cd22 "_law_ways" = true) (k22 : PySem.W.keepIn K (.ref f22) = true)
    (a23 : PySem.W.nsIn K mainGlobals "law" = some (some (.ref f23))) (l23 : K.lookup f23 = some ⟨oc23, od23, .func (PySem.W.fnOf "law" "law" (defArgs s_law) (defBody s_law) (defScope s_law) .none kV23 dc23 pm23 an23 cd23 ct23), sl23⟩) (c23 : PySem.W.codeIn K cd23 "law" = true) (k23 : PySem.W.keepIn K (.ref f23) = true)
    (z1 : PySem.W.nsIn K mainGlobals "len" = some none) (z2 : PySem.W.nsIn K mainGlobals "abs" = some none) (z3 : PySem.W.nsIn K mainGlobals "int" = some none) (z4 : PySem.W.nsIn K mainGlobals "max" = some none) (z5 : PySem.W.nsIn K mainGlobals "list" = some none) (z6 : PySem.W.nsIn K mainGlobals "tuple" = some none) (z7 : PySem.W.nsIn K mainGlobals "range" = some none) (z8 : PySem.W.nsIn K mainGlobals "sum" = some none) (z9 : PySem.W.nsIn K mainGlobals "repr" = some none) (z10 : PySem.W.nsIn K mainGlobals "isinstance" = some none) (z11 : PySem.W.nsIn K mainGlobals "enumerate" = some none) (z12 : PySem.W.nsIn K mainGlobals "reversed" = some none)
    (m1 : PySem.W.nsIn K mainGlobals "MOST_PARTS" = some (some (.int 100 t))) : AtTop P w K mg fa 63 := by
  have e := hfa.symm.trans (PySem.W.mg_of X G a23)
  cases e
  have T : Txt mg := ⟨PySem.W.mg_none_of X G z1, PySem.W.mg_none_of X G z2, PySem.W.mg_none_of X G z3, PySem.W.mg_none_of X G z4, PySem.W.mg_none_of X G z5, PySem.W.mg_none_of X G z6, PySem.W.mg_none_of X G z7, PySem.W.mg_none_of X G z8, PySem.W.mg_none_of X G z9, PySem.W.mg_none_of X G z10, PySem.W.mg_none_of X G z11, PySem.W.mg_none_of X G z12, ⟨_, PySem.W.mg_of X G m1⟩⟩
  have F1 := fun_mk (st := s_law_tape) l1 c1 k1
  have D_law_tape : DefIs K mg "_law_tape" s_law_tape ["_law_script"] f1 _ := ⟨F1, PySem.W.mg_of X G a1, F1.binds (ps := ["_law_script"]) fun _ _ _ _ _ _ us hl => match us, hl with | [_], _ => rfl⟩
  have F2 := fun_mk (st := s_law_family) l2 c2 k2
  have D_law_family : DefIs K mg "_law_family" s_law_family ["_law_tape_here", "_law_states", "_law_variants", "_law_low"] f2 _ := ⟨F2, PySem.W.mg_of X G a2, F2.binds (ps := ["_law_tape_here", "_law_states", "_law_variants", "_law_low"]) fun _ _ _ _ _ _ us hl => match us, hl with | [_, _, _, _], _ => rfl⟩
  have F3 := fun_mk (st := s_law_draw) l3 c3 k3
  have D_law_draw : DefIs K mg "_law_draw" s_law_draw ["_law_tape_here", "_law_menu"] f3 _ := ⟨F3, PySem.W.mg_of X G a3, F3.binds (ps := ["_law_tape_here", "_law_menu"]) fun _ _ _ _ _ _ us hl => match us, hl with | [_, _], _ => rfl⟩
  have F4 := fun_mk (st := s_law_price) l4 c4 k4
  have D_law_price : DefIs K mg "_law_price" s_law_price ["_law_tape_here", "_law_mode", "_law_low"] f4 _ := ⟨F4, PySem.W.mg_of X G a4, F4.binds (ps := ["_law_tape_here", "_law_mode", "_law_low"]) fun _ _ _ _ _ _ us hl => match us, hl with | [_, _, _], _ => rfl⟩
  have F5 := fun_mk (st := s_law_sizes) l5 c5 k5
  have D_law_sizes : DefIs K mg "_law_sizes" s_law_sizes ["_law_family_here"] f5 _ := ⟨F5, PySem.W.mg_of X G a5, F5.binds (ps := ["_law_family_here"]) fun _ _ _ _ _ _ us hl => match us, hl with | [_], _ => rfl⟩
  have F6 := fun_mk (st := s_law_size) l6 c6 k6
  have D_law_size : DefIs K mg "_law_size" s_law_size ["_law_variant", "_law_sizes_here"] f6 _ := ⟨F6, PySem.W.mg_of X G a6, F6.binds (ps := ["_law_variant", "_law_sizes_here"]) fun _ _ _ _ _ _ us hl => match us, hl with | [_, _], _ => rfl⟩
  have F7 := fun_mk (st := s_least_weights) l7 c7 k7
  have D_least_weights : DefIs K mg "least_weights" s_least_weights ["family"] f7 _ := ⟨F7, PySem.W.mg_of X G a7, F7.binds (ps := ["family"]) fun _ _ _ _ _ _ us hl => match us, hl with | [_], _ => rfl⟩
  have F8 := fun_mk (st := s_least_round) l8 c8 k8
  have D_least_round : DefIs K mg "least_round" s_least_round ["family", "weights"] f8 _ := ⟨F8, PySem.W.mg_of X G a8, F8.binds (ps := ["family", "weights"]) fun _ _ _ _ _ _ us hl => match us, hl with | [_, _], _ => rfl⟩
  have F9 := fun_mk (st := s_weight_of) l9 c9 k9
  have D_weight_of : DefIs K mg "weight_of" s_weight_of ["variant", "weights"] f9 _ := ⟨F9, PySem.W.mg_of X G a9, F9.binds (ps := ["variant", "weights"]) fun _ _ _ _ _ _ us hl => match us, hl with | [_, _], _ => rfl⟩
  have F10 := fun_mk (st := s_first_tree) l10 c10 k10
  have D_first_tree : DefIs K mg "first_tree" s_first_tree ["family", "state"] f10 _ := ⟨F10, PySem.W.mg_of X G a10, F10.binds (ps := ["family", "state"]) fun _ _ _ _ _ _ us hl => match us, hl with | [_, _], _ => rfl⟩
  have F11 := fun_mk (st := s_check_parts) l11 c11 k11
  have D_check_parts : DefIs K mg "check_parts" s_check_parts ["count"] f11 _ := ⟨F11, PySem.W.mg_of X G a11, F11.binds (ps := ["count"]) fun _ _ _ _ _ _ us hl => match us, hl with | [_], _ => rfl⟩
  have F12 := fun_mk (st := s_first_roots) l12 c12 k12
  have D_first_roots : DefIs K mg "first_roots" s_first_roots ["family", "weights"] f12 _ := ⟨F12, PySem.W.mg_of X G a12, F12.binds (ps := ["family", "weights"]) fun _ _ _ _ _ _ us hl => match us, hl with | [_, _], _ => rfl⟩
  have F13 := fun_mk (st := s_tree_from) l13 c13 k13
  have D_tree_from : DefIs K mg "tree_from" s_tree_from ["family", "roots", "state"] f13 _ := ⟨F13, PySem.W.mg_of X G a13, F13.binds (ps := ["family", "roots", "state"]) fun _ _ _ _ _ _ us hl => match us, hl with | [_, _, _], _ => rfl⟩
  have F14 := fun_mk (st := s_law_fits) l14 c14 k14
  have D_law_fits : DefIs K mg "_law_fits" s_law_fits ["_law_family_here", "_law_state", "_law_tree_here"] f14 _ := ⟨F14, PySem.W.mg_of X G a14, F14.binds (ps := ["_law_family_here", "_law_state", "_law_tree_here"]) fun _ _ _ _ _ _ us hl => match us, hl with | [_, _, _], _ => rfl⟩
  have F15 := fun_mk (st := s_law_priced) l15 c15 k15
  have D_law_priced : DefIs K mg "_law_priced" s_law_priced ["_law_family_here", "_law_tree_here"] f15 _ := ⟨F15, PySem.W.mg_of X G a15, F15.binds (ps := ["_law_family_here", "_law_tree_here"]) fun _ _ _ _ _ _ us hl => match us, hl with | [_, _], _ => rfl⟩
  have F16 := fun_mk (st := s_law_some_tree) l16 c16 k16
  have D_law_some_tree : DefIs K mg "_law_some_tree" s_law_some_tree ["_law_tape_here", "_law_family_here", "_law_room"] f16 _ := ⟨F16, PySem.W.mg_of X G a16, F16.binds (ps := ["_law_tape_here", "_law_family_here", "_law_room"]) fun _ _ _ _ _ _ us hl => match us, hl with | [_, _, _], _ => rfl⟩
  have F17 := fun_mk (st := s_law_tree) l17 c17 k17
  have D_law_tree : DefIs K mg "_law_tree" s_law_tree ["_law_tape_here", "_law_family_here", "_law_sizes_here", "_law_state", "_law_room"] f17 _ := ⟨F17, PySem.W.mg_of X G a17, F17.binds (ps := ["_law_tape_here", "_law_family_here", "_law_sizes_here", "_law_state", "_law_room"]) fun _ _ _ _ _ _ us hl => match us, hl with | [_, _, _, _, _], _ => rfl⟩
  have F18 := fun_mk (st := s_law_trees) l18 c18 k18
  have D_law_trees : DefIs K mg "_law_trees" s_law_trees ["_law_family_here", "_law_top"] f18 _ := ⟨F18, PySem.W.mg_of X G a18, F18.binds (ps := ["_law_family_here", "_law_top"]) fun _ _ _ _ _ _ us hl => match us, hl with | [_, _], _ => rfl⟩
  have F19 := fun_mk (st := s_law_fillings) l19 c19 k19
  have D_law_fillings : DefIs K mg "_law_fillings" s_law_fillings ["_law_rows", "_law_slots", "_law_parts"] f19 _ := ⟨F19, PySem.W.mg_of X G a19, F19.binds (ps := ["_law_rows", "_law_slots", "_law_parts"]) fun _ _ _ _ _ _ us hl => match us, hl with | [_, _, _], _ => rfl⟩
  have F20 := fun_mk (st := s_law_reach) l20 c20 k20
  have D_law_reach : DefIs K mg "_law_reach" s_law_reach ["_law_counts_here", "_law_limit"] f20 _ := ⟨F20, PySem.W.mg_of X G a20, F20.binds (ps := ["_law_counts_here", "_law_limit"]) fun _ _ _ _ _ _ us hl => match us, hl with | [_, _], _ => rfl⟩
  have F21 := fun_mk (st := s_law_counts) l21 c21 k21
  have D_law_counts : DefIs K mg "_law_counts" s_law_counts ["_law_family_here", "_law_top"] f21 _ := ⟨F21, PySem.W.mg_of X G a21, F21.binds (ps := ["_law_family_here", "_law_top"]) fun _ _ _ _ _ _ us hl => match us, hl with | [_, _], _ => rfl⟩
  have F22 := fun_mk (st := s_law_ways) l22 c22 k22
  have D_law_ways : DefIs K mg "_law_ways" s_law_ways ["_law_counts_here", "_law_slots", "_law_parts"] f22 _ := ⟨F22, PySem.W.mg_of X G a22, F22.binds (ps := ["_law_counts_here", "_law_slots", "_law_parts"]) fun _ _ _ _ _ _ us hl => match us, hl with | [_, _, _], _ => rfl⟩
  have F23 := fun_mk (st := s_law) l23 c23 k23
  have D_law : DefIs K mg "law" s_law ["_law_script"] fa _ := ⟨F23, PySem.W.mg_of X G a23, F23.binds (ps := ["_law_script"]) fun _ _ _ _ _ _ us hl => match us, hl with | [_], _ => rfl⟩
  exact ok_law D_law T D_law_tape D_law_family D_law_draw D_law_price D_law_sizes D_law_size D_least_weights D_least_round D_weight_of D_first_tree D_check_parts D_first_roots D_tree_from D_law_fits D_law_priced D_law_some_tree D_law_tree D_law_trees D_law_fillings D_law_reach D_law_counts D_law_ways fun s u => .of_eq rfl
end KW
open PySem PySem.W PyProof.Rows
set_option maxRecDepth 100000 in
set_option maxHeartbeats 0 in
theorem PySem.Challenge.cw_slotwise_k30_whole_no_tree_is_lighter_holds : PySem.Challenge.rw_slotwise_k30_whole_no_tree_is_lighter.Holds := by
  w_on; o_law; k_head; (case hw => w_witness2)
  k_fill
  refine KR.walk_top (l := PySem.Challenge.rw_slotwise_k30_whole_no_tree_is_lighter) (n := 63) rfl (by decide) rfl (fun w h Y => PySem.W.kIn_of Y) ?F
  case F =>
    intro w mg fa h KX G hmg
    refine' KW.all_mk KX G hmg ?a1 ?l1 ?c1 ?k1 ?a2 ?l2 ?c2 ?k2 ?a3 ?l3 ?c3 ?k3 ?a4 ?l4 ?c4 ?k4 ?a5 ?l5 ?c5 ?k5 ?a6 ?l6 ?c6 ?k6 ?a7 ?l7 ?c7 ?k7 ?a8 ?l8 ?c8 ?k8 ?a9 ?l9 ?c9 ?k9 ?a10 ?l10 ?c10 ?k10 ?a11 ?l11 ?c11 ?k11 ?a12 ?l12 ?c12 ?k12 ?a13 ?l13 ?c13 ?k13 ?a14 ?l14 ?c14 ?k14 ?a15 ?l15 ?c15 ?k15 ?a16 ?l16 ?c16 ?k16 ?a17 ?l17 ?c17 ?k17 ?a18 ?l18 ?c18 ?k18 ?a19 ?l19 ?c19 ?k19 ?a20 ?l20 ?c20 ?k20 ?a21 ?l21 ?c21 ?k21 ?a22 ?l22 ?c22 ?k22 ?a23 ?l23 ?c23 ?k23 ?z1 ?z2 ?z3 ?z4 ?z5 ?z6 ?z7 ?z8 ?z9 ?z10 ?z11 ?z12 ?m1
    (case a1 => k_is); (case l1 => k_is); (case c1 => k_is); (case k1 => k_is)
    (case a2 => k_is); (case l2 => k_is); (case c2 => k_is); (case k2 => k_is)
    (case a3 => k_is); (case l3 => k_is); (case c3 => k_is); (case k3 => k_is)
    (case a4 => k_is); (case l4 => k_is); (case c4 => k_is); (case k4 => k_is)
    (case a5 => k_is); (case l5 => k_is); (case c5 => k_is); (case k5 => k_is)
    (case a6 => k_is); (case l6 => k_is); (case c6 => k_is); (case k6 => k_is)
    (case a7 => k_is); (case l7 => k_is); (case c7 => k_is); (case k7 => k_is)
    (case a8 => k_is); (case l8 => k_is); (case c8 => k_is); (case k8 => k_is)
    (case a9 => k_is); (case l9 => k_is); (case c9 => k_is); (case k9 => k_is)
    (case a10 => k_is); (case l10 => k_is); (case c10 => k_is); (case k10 => k_is)
    (case a11 => k_is); (case l11 => k_is); (case c11 => k_is); (case k11 => k_is)
    (case a12 => k_is); (case l12 => k_is); (case c12 => k_is); (case k12 => k_is)
    (case a13 => k_is); (case l13 => k_is); (case c13 => k_is); (case k13 => k_is)
    (case a14 => k_is); (case l14 => k_is); (case c14 => k_is); (case k14 => k_is)
    (case a15 => k_is); (case l15 => k_is); (case c15 => k_is); (case k15 => k_is)
    (case a16 => k_is); (case l16 => k_is); (case c16 => k_is); (case k16 => k_is)
    (case a17 => k_is); (case l17 => k_is); (case c17 => k_is); (case k17 => k_is)
    (case a18 => k_is); (case l18 => k_is); (case c18 => k_is); (case k18 => k_is)
    (case a19 => k_is); (case l19 => k_is); (case c19 => k_is); (case k19 => k_is)
    (case a20 => k_is); (case l20 => k_is); (case c20 => k_is); (case k20 => k_is)
    (case a21 => k_is); (case l21 => k_is); (case c21 => k_is); (case k21 => k_is)
    (case a22 => k_is); (case l22 => k_is); (case c22 => k_is); (case k22 => k_is)
    (case a23 => k_is); (case l23 => k_is); (case c23 => k_is); (case k23 => k_is)
    (case z1 => k_is); (case z2 => k_is); (case z3 => k_is); (case z4 => k_is); (case z5 => k_is); (case z6 => k_is); (case z7 => k_is); (case z8 => k_is); (case z9 => k_is); (case z10 => k_is); (case z11 => k_is); (case z12 => k_is)
    (case m1 => k_is)
#print axioms PySem.Challenge.cw_slotwise_k30_whole_no_tree_is_lighter_holds
