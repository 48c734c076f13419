import PyProof.Rows.All
import Wide.All
import OpenK.AllK
import Wide.FinOn
import KE.KStateDown
import Lean
import HandS.ForMost
import HandS.Head0
import HandS.Head1
import HandS.Head2
import HandS.HeadEnd
import HandS.HeadHook4
import PySem.Challenge.RW_kaleidorooms_k83_whole_mended_logs
import HandS.Walk
import HandS.Zip
import KE.GoesEnum
import KE.KDictWalk
import KE.KDictDisplayH
import KE.SortKeyHeap
import HandS.SortKw
import KE.KDictCopyH
import KE.KDictSum
import HandS.TupAny
import HandS.IsInst
import HandS.Style
import HandS.Flow
import HandS.Conv
section
set_option autoImplicit false
namespace KM
/-! The plain law: what the walk over numbers keeps, what the law searches. -/

/-! ### order of lists, of pairs (doubted, play) -/
theorem lt_app : ∀ {xs ys : List Int} (zs : List Int), xs.length = ys.length → xs < ys → xs ++ zs < ys ++ zs
  | [], [], _, _, h => absurd h (List.lt_irrefl _)
  | [], _ :: _, _, h, _ => by simp at h
  | _ :: _, [], _, h, _ => by simp at h
  | x :: xs, y :: ys, zs, hl, h => by
    rw [List.cons_lt_cons_iff] at h
    rw [List.cons_append, List.cons_append, List.cons_lt_cons_iff]
    rcases h with h | ⟨e, h⟩
    · exact .inl h
    · exact .inr ⟨e, lt_app zs (by simpa using hl) h⟩

theorem tri (xs ys : List Int) : xs < ys ∨ xs = ys ∨ ys < xs := by
  by_cases h : xs < ys
  · exact .inl h
  · by_cases h' : ys < xs
    · exact .inr (.inr h')
    · exact .inr (.inl (List.le_antisymm (List.not_lt.mp h') (List.not_lt.mp h)))

abbrev Rk := List Int × List Int
def rkLt (a b : Rk) : Prop := a.1.length < b.1.length ∨ (a.1.length = b.1.length ∧ (a.1 < b.1 ∨ (a.1 = b.1 ∧ a.2 < b.2)))
instance (a b : Rk) : Decidable (rkLt a b) := by unfold rkLt; infer_instance
theorem rk_irr (a : Rk) : ¬ rkLt a a := by
  rintro (h | ⟨_, h | ⟨_, h⟩⟩)
  · exact Nat.lt_irrefl _ h
  · exact List.lt_irrefl _ h
  · exact List.lt_irrefl _ h
theorem rk_trans {a b c : Rk} (h : rkLt a b) (k : rkLt b c) : rkLt a c := by
  rcases h with h | ⟨e, h⟩ <;> rcases k with k | ⟨e', k⟩
  · exact .inl (Nat.lt_trans h k)
  · exact .inl (e' ▸ h)
  · exact .inl (e ▸ k)
  · refine .inr ⟨e.trans e', ?_⟩
    rcases h with h | ⟨q, h⟩ <;> rcases k with k | ⟨q', k⟩
    · exact .inl (List.lt_trans h k)
    · exact .inl (q' ▸ h)
    · exact .inl (q ▸ k)
    · exact .inr ⟨q.trans q', List.lt_trans h k⟩
theorem rk_tri (a b : Rk) : rkLt a b ∨ a = b ∨ rkLt b a := by
  rcases Nat.lt_trichotomy a.1.length b.1.length with h | h | h
  · exact .inl (.inl h)
  · rcases tri a.1 b.1 with k | k | k
    · exact .inl (.inr ⟨h, .inl k⟩)
    · rcases tri a.2 b.2 with m | m | m
      · exact .inl (.inr ⟨h, .inr ⟨k, m⟩⟩)
      · exact .inr (.inl (Prod.ext k m))
      · exact .inr (.inr (.inr ⟨h.symm, .inr ⟨k.symm, m⟩⟩))
    · exact .inr (.inr (.inr ⟨h.symm, .inl k⟩))
  · exact .inr (.inr (.inl h))
theorem rk_le_trans {a b c : Rk} (h : ¬ rkLt b a) (k : ¬ rkLt c b) : ¬ rkLt c a := fun m => by
  rcases rk_tri b a with q | q | q
  · exact h q
  · subst q; exact k m
  · exact k (rk_trans m q)
theorem rk_ext {a b : Rk} (m q : List Int) (hl : a.2.length = b.2.length) (h : rkLt a b) : rkLt (a.1 ++ m, a.2 ++ q) (b.1 ++ m, b.2 ++ q) := by
  rcases h with h | ⟨e, h | ⟨e', h⟩⟩
  · exact .inl (by simpa using h)
  · exact .inr ⟨by simp [e], .inl (lt_app _ e h)⟩
  · exact .inr ⟨by simp [e], .inr ⟨by show a.1 ++ m = b.1 ++ m; rw [e'], lt_app _ hl h⟩⟩
theorem rk_ext_le {a b : Rk} (m q : List Int) (hl : a.2.length = b.2.length) (h : ¬ rkLt b a) : ¬ rkLt (b.1 ++ m, b.2 ++ q) (a.1 ++ m, a.2 ++ q) := fun k => by
  rcases rk_tri a b with z | z | z
  · exact rk_irr _ (rk_trans (rk_ext m q hl z) k)
  · subst z; exact rk_irr _ k
  · exact h z

/-! ### lamps, entries, steps -/
inductive Ent where
  | pressed (l : Nat) | lost | seen (l : Nat) (z : Int)
  deriving DecidableEq
abbrev Pushes := List (List Int)
/-- the numbers behind a press -/
def press (P : Pushes) (xs : List Int) (l : Nat) : List Int :=
  (List.zipWith (fun x m => x + m * xs.getD l 0) xs (P.getD l [])).set l (-(xs.getD l 0))
/-- the lamps below 0 -/
def able (xs : List Int) : List Nat := (List.range xs.length).filter fun i => decide (xs.getD i 0 < 0)

/-- (numbers, (indexes doubted, play)) -/
abbrev Pt := List Int × Rk
def fit (e : Ent) (k : Nat) : Bool := match e with
  | .pressed l => decide (l = k)
  | .lost => true
  | .seen _ _ => false
/-- lamps pressed, numbers, indexes doubted -/
def steps (P : Pushes) (xs : List Int) (e : Ent) (i : Nat) : List (List Int × List Int × List Int) := match e with
  | .seen l z => [([], xs, if xs.getD l 0 = z then [] else [(i : Int)])]
  | e => (able xs).map fun (k : Nat) => ([(k : Int)], press P xs k, if fit e k = true then [] else [(i : Int)])
def offer (pt : Pt) (s : List Int × List Int × List Int) : Pt := (s.2.1, (pt.2.1 ++ s.2.2, pt.2.2 ++ s.1))
def offers (P : Pushes) (e : Ent) (i : Nat) (pt : Pt) : List Pt := (steps P pt.1 e i).map (offer pt)
/-- all that can be behind the first i entries -/
def ptsAt (P : Pushes) (start : List Int) (log : List Ent) : Nat → List Pt
  | 0 => [(start, ([], []))]
  | i + 1 => match log[i]? with
    | none => ptsAt P start log i
    | some e => (ptsAt P start log i).flatMap (offers P e i)
/-- how many presses the first i entries tell -/
def isPress (e : Ent) : Nat := match e with
  | .seen _ _ => 0
  | _ => 1
def pressesAt (log : List Ent) : Nat → Nat
  | 0 => 0
  | i + 1 => match log[i]? with
    | none => pressesAt log i
    | some e => pressesAt log i + isPress e
theorem steps_len {P : Pushes} {xs : List Int} {e : Ent} {i : Nat} {s : List Int × List Int × List Int} (h : s ∈ steps P xs e i) : s.1.length = isPress e := by
  cases e with
  | seen l z =>
    simp only [steps, List.mem_singleton] at h
    subst h; rfl
  | pressed l =>
    simp only [steps, List.mem_map] at h
    obtain ⟨k, _, rfl⟩ := h
    rfl
  | lost =>
    simp only [steps, List.mem_map] at h
    obtain ⟨k, _, rfl⟩ := h
    rfl
theorem pts_len {P : Pushes} {start : List Int} {log : List Ent} : ∀ {i : Nat} {e : Pt}, e ∈ ptsAt P start log i → e.2.2.length = pressesAt log i
  | 0, e, h => by
    simp only [ptsAt, List.mem_singleton] at h
    subst h; rfl
  | i + 1, e, h => by
    unfold ptsAt at h
    unfold pressesAt
    cases q : log[i]? with
    | none =>
      rw [q] at h
      exact pts_len (i := i) h
    | some en =>
      rw [q] at h
      obtain ⟨a, ha, hb⟩ := List.mem_flatMap.mp h
      obtain ⟨s, hs, rfl⟩ := List.mem_map.mp hb
      show (a.2.2 ++ s.1).length = _
      rw [List.length_append, pts_len (i := i) ha, steps_len hs]

/-! ### the dict: for each numbers the least -/
def lookM {α : Type} (d : List (List Int × α)) (k : List Int) : Option α := (d.find? fun (e : List Int × α) => decide (e.1 = k)).map (·.2)
/-- d[k] = v -/
def putM {α : Type} : List (List Int × α) → List Int → α → List (List Int × α)
  | [], k, v => [(k, v)]
  | e :: r, k, v => if e.1 = k then (k, v) :: r else e :: putM r k v
def keep (d : List Pt) (pt : Pt) : List Pt := match lookM d pt.1 with
  | none => putM d pt.1 pt.2
  | some v => if rkLt pt.2 v then putM d pt.1 pt.2 else d
theorem look_some {α : Type} {d : List (List Int × α)} {k : List Int} {v : α} (h : lookM d k = some v) : (k, v) ∈ d := by
  unfold lookM at h
  cases q : d.find? fun (e : List Int × α) => decide (e.1 = k) with
  | none => rw [q] at h; cases h
  | some e =>
    rw [q] at h
    have h1 : e.2 = v := Option.some.inj h
    have h2 : e.1 = k := of_decide_eq_true (List.find?_some (p := fun (e : List Int × α) => decide (e.1 = k)) q)
    rw [← h1, ← h2]
    exact List.mem_of_find?_eq_some q
theorem look_none {α : Type} {d : List (List Int × α)} {k : List Int} (h : lookM d k = none) : ∀ e ∈ d, e.1 ≠ k := fun e he z => by
  unfold lookM at h
  rw [Option.map_eq_none_iff, List.find?_eq_none] at h
  exact h e he (decide_eq_true z)
theorem put_mem {α : Type} {k : List Int} {v : α} : ∀ {d : List (List Int × α)} {e : List Int × α}, (d.map (·.1)).Nodup → (e ∈ putM d k v ↔ e = (k, v) ∨ (e ∈ d ∧ e.1 ≠ k))
  | [], e, _ => by simp [putM]
  | a :: r, e, hn => by
    rw [List.map_cons, List.nodup_cons] at hn
    unfold putM
    by_cases h : a.1 = k
    · rw [if_pos h]
      constructor
      · intro q
        rcases List.mem_cons.mp q with q | q
        · exact .inl q
        · exact .inr ⟨List.mem_cons_of_mem _ q, fun z => hn.1 (by rw [h, ← z]; exact List.mem_map_of_mem q)⟩
      · rintro (rfl | ⟨q, ne⟩)
        · exact List.mem_cons_self
        · rcases List.mem_cons.mp q with rfl | q
          · exact absurd h ne
          · exact List.mem_cons_of_mem _ q
    · rw [if_neg h, List.mem_cons, put_mem hn.2, List.mem_cons]
      constructor
      · rintro (rfl | q | ⟨q, ne⟩)
        · exact .inr ⟨.inl rfl, h⟩
        · exact .inl q
        · exact .inr ⟨.inr q, ne⟩
      · rintro (q | ⟨rfl | q, ne⟩)
        · exact .inr (.inl q)
        · exact .inl rfl
        · exact .inr (.inr ⟨q, ne⟩)
theorem put_nodup {α : Type} {k : List Int} {v : α} : ∀ {d : List (List Int × α)}, (d.map (·.1)).Nodup → ((putM d k v).map (·.1)).Nodup
  | [], _ => by simp [putM]
  | a :: r, hn => by
    have hn' := hn
    rw [List.map_cons, List.nodup_cons] at hn
    unfold putM
    by_cases h : a.1 = k
    · rw [if_pos h, List.map_cons, List.nodup_cons]
      exact ⟨by rw [← h]; exact hn.1, hn.2⟩
    · rw [if_neg h, List.map_cons, List.nodup_cons]
      refine ⟨fun q => ?_, put_nodup hn.2⟩
      obtain ⟨e, he, z⟩ := List.mem_map.mp q
      rcases (put_mem hn.2).mp he with rfl | ⟨q, _⟩
      · exact h z.symm
      · exact hn.1 (by rw [← z]; exact List.mem_map_of_mem q)
theorem put_len {α : Type} {k : List Int} {v : α} : ∀ {d : List (List Int × α)}, (putM d k v).length ≤ d.length + 1
  | [] => Nat.le_refl _
  | a :: r => by
    unfold putM
    split
    · exact Nat.le_succ _
    · exact Nat.succ_le_succ put_len
theorem keep_len {d : List Pt} {pt : Pt} : (keep d pt).length ≤ d.length + 1 := by
  unfold keep
  split
  · exact put_len
  · split
    · exact put_len
    · exact Nat.le_succ _

/-- d has, for each numbers of S, the least -/
structure DInv (S d : List Pt) : Prop where
  nd : (d.map (·.1)).Nodup
  least : ∀ e ∈ d, e ∈ S ∧ ∀ e' ∈ S, e'.1 = e.1 → ¬ rkLt e'.2 e.2
  all : ∀ e' ∈ S, ∃ e ∈ d, e.1 = e'.1
theorem DInv.nil : DInv [] [] := ⟨List.nodup_nil, fun _ h => absurd h List.not_mem_nil, fun _ h => absurd h List.not_mem_nil⟩
theorem DInv.keep {S d : List Pt} {pt : Pt} (h : DInv S d) : DInv (S ++ [pt]) (keep d pt) := by
  unfold KM.keep
  have putOk : (∀ e' ∈ S, e'.1 = pt.1 → ¬ rkLt e'.2 pt.2) → DInv (S ++ [pt]) (putM d pt.1 pt.2) := fun hl => by
    refine ⟨put_nodup h.nd, fun e he => ?_, fun e' he' => ?_⟩
    · rcases (put_mem h.nd).mp he with rfl | ⟨q, ne⟩
      · refine ⟨by simp, fun e' he' z => ?_⟩
        rcases List.mem_append.mp he' with m | m
        · exact hl e' m z
        · rw [List.mem_singleton.mp m]; exact rk_irr _
      · refine ⟨List.mem_append_left _ (h.least e q).1, fun e' he' z => ?_⟩
        rcases List.mem_append.mp he' with m | m
        · exact (h.least e q).2 e' m z
        · rw [List.mem_singleton.mp m] at z; exact absurd z.symm ne
    · by_cases z : e'.1 = pt.1
      · exact ⟨(pt.1, pt.2), (put_mem h.nd).mpr (.inl rfl), z.symm⟩
      · rcases List.mem_append.mp he' with m | m
        · obtain ⟨e, he, q⟩ := h.all e' m
          exact ⟨e, (put_mem h.nd).mpr (.inr ⟨he, by rw [q]; exact z⟩), q⟩
        · rw [List.mem_singleton.mp m] at z; exact absurd rfl z
  cases q : lookM d pt.1 with
  | none =>
    refine putOk fun e' he' z => ?_
    obtain ⟨e, he, y⟩ := h.all e' he'
    exact absurd (y.trans z) (look_none q e he)
  | some v =>
    have hv := look_some q
    show DInv (S ++ [pt]) (if rkLt pt.2 v then putM d pt.1 pt.2 else d)
    by_cases hlt : rkLt pt.2 v
    · rw [if_pos hlt]
      exact putOk fun e' he' z k => (h.least _ hv).2 e' he' z (rk_trans k hlt)
    · rw [if_neg hlt]
      refine ⟨h.nd, fun e he => ⟨List.mem_append_left _ (h.least e he).1, fun e' he' z => ?_⟩, fun e' he' => ?_⟩
      · rcases List.mem_append.mp he' with m | m
        · exact (h.least e he).2 e' m z
        · rw [List.mem_singleton.mp m] at z ⊢
          have : e = (pt.1, v) := by
            have nd := h.nd
            obtain ⟨i, hi, ei⟩ := List.mem_iff_getElem.mp he
            obtain ⟨j, hj, ej⟩ := List.mem_iff_getElem.mp hv
            have : i = j := by
              have := (List.getElem_inj (i := i) (j := j) (h₀ := by simpa using hi) (h₁ := by simpa using hj) nd).mp (by simp [ei, ej, z])
              exact this
            subst this
            exact ei.symm.trans ej
          rw [this]; exact hlt
      · rcases List.mem_append.mp he' with m | m
        · exact h.all e' m
        · rw [List.mem_singleton.mp m]
          exact ⟨_, hv, rfl⟩
theorem DInv.fold {S d : List Pt} (h : DInv S d) : ∀ (O : List Pt), DInv (S ++ O) (O.foldl KM.keep d)
  | [] => by simpa using h
  | o :: O => by
    have := (h.keep (pt := o)).fold O
    rwa [List.append_assoc] at this
/-- the least of each numbers is enough for the next entry -/
theorem DInv.step {P : Pushes} {e : Ent} {i : Nat} {S d d' : List Pt} {n : Nat} (h : DInv S d) (hl : ∀ a ∈ S, a.2.2.length = n) (h' : DInv (d.flatMap (offers P e i)) d') : DInv (S.flatMap (offers P e i)) d' := by
  -- each offer from S has one from d for the same numbers that is not above it
  have low : ∀ a ∈ S.flatMap (offers P e i), ∃ b ∈ d.flatMap (offers P e i), b.1 = a.1 ∧ ¬ rkLt a.2 b.2 := fun a ha => by
    obtain ⟨x, hx, hy⟩ := List.mem_flatMap.mp ha
    obtain ⟨s, hs, rfl⟩ := List.mem_map.mp hy
    obtain ⟨y, hyd, ye⟩ := h.all x hx
    refine ⟨offer y s, List.mem_flatMap.mpr ⟨y, hyd, List.mem_map.mpr ⟨s, by rw [ye]; exact hs, rfl⟩⟩, rfl, ?_⟩
    have q := (h.least y hyd).2 x hx ye.symm
    exact rk_ext_le (a := y.2) (b := x.2) s.2.2 s.1 ((hl y (h.least y hyd).1).trans (hl x hx).symm) q
  refine ⟨h'.nd, fun a ha => ?_, fun a ha => ?_⟩
  · obtain ⟨h1, h2⟩ := h'.least a ha
    refine ⟨?_, fun b hb z => ?_⟩
    · obtain ⟨y, hy, hz⟩ := List.mem_flatMap.mp h1
      exact List.mem_flatMap.mpr ⟨y, (h.least y hy).1, hz⟩
    · obtain ⟨c, hc, ce, cl⟩ := low b hb
      exact rk_le_trans (h2 c hc (ce.trans z)) cl
  · obtain ⟨b, hb, be, _⟩ := low a ha
    obtain ⟨c, hc, ce⟩ := h'.all b hb
    exact ⟨c, hc, ce.trans be⟩

/-- b is the least of all that can be -/
def Best (S : List Pt) (b : Rk) : Prop := (∃ k, (k, b) ∈ S) ∧ ∀ e ∈ S, ¬ rkLt e.2 b
theorem Best.of {S d : List Pt} (h : DInv S d) {b : Rk} (hb : ∃ k, (k, b) ∈ d) (hm : ∀ e ∈ d, ¬ rkLt e.2 b) : Best S b := by
  obtain ⟨k, hk⟩ := hb
  refine ⟨⟨k, (h.least _ hk).1⟩, fun e he => ?_⟩
  obtain ⟨c, hc, ce⟩ := h.all e he
  exact rk_le_trans (hm c hc) ((h.least c hc).2 e he ce.symm)
end KM
end

section
set_option autoImplicit false
set_option linter.all false
namespace KM
theorem press_len {P : Pushes} {xs : List Int} {k : Nat} (hr : ∀ r ∈ P, r.length = P.length) (hx : xs.length = P.length) (hk : k < P.length) : (press P xs k).length = P.length := by
  unfold press
  have e : P[k]? = some P[k] := List.getElem?_eq_getElem hk
  rw [List.length_set, List.length_zipWith, List.getD_eq_getElem?_getD, e, Option.getD_some, hr _ (List.getElem_mem hk), hx, Nat.min_self]
theorem mem_able {xs : List Int} {k : Nat} : k ∈ able xs ↔ k < xs.length ∧ xs.getD k 0 < 0 := by
  unfold able
  rw [List.mem_filter, List.mem_range, decide_eq_true_eq]
theorem able_len {xs : List Int} : (able xs).length ≤ xs.length := by
  have h := List.length_filter_le (fun i => decide (xs.getD i 0 < 0)) (List.range xs.length)
  rw [List.length_range] at h
  exact h
theorem steps_bd {P : Pushes} {xs : List Int} {e : Ent} {i : Nat} {s : List Int × List Int × List Int} (hr : ∀ r ∈ P, r.length = P.length) (hx : xs.length = P.length) (h : s ∈ steps P xs e i) : s.1.length ≤ 1 ∧ s.2.1.length = P.length ∧ s.2.2.length ≤ 1 := by
  have two : ∀ (c : Prop) [Decidable c], (if c then ([] : List Int) else [(i : Int)]).length ≤ 1 := fun c _ => by split <;> simp
  cases e with
  | seen l z =>
    simp only [steps, List.mem_singleton] at h
    subst h
    exact ⟨by simp, hx, two _⟩
  | pressed l =>
    simp only [steps, List.mem_map] at h
    obtain ⟨k, hk, rfl⟩ := h
    exact ⟨by simp, press_len hr hx (hx ▸ (mem_able.mp hk).1), two _⟩
  | lost =>
    simp only [steps, List.mem_map] at h
    obtain ⟨k, hk, rfl⟩ := h
    exact ⟨by simp, press_len hr hx (hx ▸ (mem_able.mp hk).1), by dsimp only; split <;> simp⟩
theorem steps_cnt {P : Pushes} {xs : List Int} {e : Ent} {i : Nat} (h : xs.length ≤ 3) : (steps P xs e i).length ≤ 3 := by
  have := able_len (xs := xs)
  cases e with
  | seen l z => simp [steps]
  | pressed l => simp only [steps, List.length_map]; omega
  | lost => simp only [steps, List.length_map]; omega
theorem pts_succ {P : Pushes} {start : List Int} {log : List Ent} {i : Nat} {e : Ent} (h : log[i]? = some e) : ptsAt P start log (i + 1) = (ptsAt P start log i).flatMap (offers P e i) := by
  show (match log[i]? with | none => _ | some e => _) = _
  rw [h]
theorem pts_bounds {P : Pushes} {start : List Int} {log : List Ent} (hr : ∀ r ∈ P, r.length = P.length) (hx : start.length = P.length) : ∀ {i : Nat} {e : Pt}, i ≤ log.length → e ∈ ptsAt P start log i → e.1.length = P.length ∧ e.2.1.length ≤ i ∧ e.2.2.length ≤ i
  | 0, e, _, h => by
    simp only [ptsAt, List.mem_singleton] at h
    subst h; exact ⟨hx, by simp, by simp⟩
  | i + 1, e, hi, h => by
    rw [pts_succ (List.getElem?_eq_getElem hi)] at h
    obtain ⟨a, ha, hb⟩ := List.mem_flatMap.mp h
    obtain ⟨s, hs, rfl⟩ := List.mem_map.mp hb
    obtain ⟨h1, h2, h3⟩ := pts_bounds hr hx (Nat.le_of_succ_le hi) ha
    obtain ⟨k1, k2, k3⟩ := steps_bd hr h1 hs
    refine ⟨k2, ?_, ?_⟩
    · show (a.2.1 ++ s.2.2).length ≤ _
      rw [List.length_append]; omega
    · show (a.2.2 ++ s.1).length ≤ _
      rw [List.length_append]; omega
theorem fold_len (O : List Pt) : ∀ (d : List Pt), (O.foldl keep d).length ≤ d.length + O.length := by
  induction O with
  | nil => intro d; simp
  | cons o O ih =>
    intro d
    have h1 := ih (keep d o)
    have h2 := keep_len (d := d) (pt := o)
    rw [List.foldl_cons, List.length_cons]
    omega
theorem flat_len {α β : Type} {f : α → List β} {n : Nat} : ∀ {xs : List α}, (∀ x ∈ xs, (f x).length ≤ n) → (xs.flatMap f).length ≤ n * xs.length
  | [], _ => by simp
  | x :: xs, h => by
    have h1 := h x List.mem_cons_self
    have h2 := flat_len (xs := xs) fun y hy => h y (List.mem_cons_of_mem _ hy)
    rw [List.flatMap_cons, List.length_append, List.length_cons, Nat.mul_add]
    omega
theorem take_full {α : Type} (xs : List α) {n : Nat} (h : xs.length ≤ n) : xs.take n = xs := List.take_of_length_le h
theorem take_add {α : Type} {xs : List α} {i : Nat} {x : α} (h : xs[i]? = some x) : xs.take (i + 1) = xs.take i ++ [x] := by rw [List.take_add_one, h]; rfl
/-- the offers of the first j of d, then r more of the next -/
def outs (P : Pushes) (e : Ent) (i : Nat) (D : List Pt) (j : Nat) : List Pt := (D.take j).flatMap (offers P e i)
def outsR (P : Pushes) (e : Ent) (i : Nat) (D : List Pt) (j : Nat) (pt : Pt) (r : Nat) : List Pt := outs P e i D j ++ ((steps P pt.1 e i).take r).map (offer pt)
theorem outsR_zero {P : Pushes} {e : Ent} {i : Nat} {D : List Pt} {j : Nat} {pt : Pt} : outsR P e i D j pt 0 = outs P e i D j := by simp [outsR]
theorem outsR_succ {P : Pushes} {e : Ent} {i : Nat} {D : List Pt} {j : Nat} {pt : Pt} {r : Nat} {s : List Int × List Int × List Int} (h : (steps P pt.1 e i)[r]? = some s) : outsR P e i D j pt (r + 1) = outsR P e i D j pt r ++ [offer pt s] := by
  unfold outsR
  rw [take_add h, List.map_append, ← List.append_assoc]
  rfl
theorem outs_succ {P : Pushes} {e : Ent} {i : Nat} {D : List Pt} {j : Nat} {pt : Pt} (h : D[j]? = some pt) : outsR P e i D j pt (steps P pt.1 e i).length = outs P e i D (j + 1) := by
  unfold outsR outs
  rw [take_full _ (Nat.le_refl _), take_add h, List.flatMap_append]
  simp [offers]
theorem outs_all {P : Pushes} {e : Ent} {i : Nat} {D : List Pt} : outs P e i D D.length = D.flatMap (offers P e i) := by
  unfold outs
  rw [take_full _ (Nat.le_refl _)]
theorem outs_len {P : Pushes} {e : Ent} {i : Nat} {D : List Pt} {j : Nat} (h : ∀ d ∈ D, d.1.length ≤ 3) : (outs P e i D j).length ≤ 3 * D.length := by
  unfold outs
  have h1 := flat_len (f := offers P e i) (n := 3) (xs := D.take j) fun x hx => by
    unfold offers
    rw [List.length_map]
    exact steps_cnt (h x (List.mem_of_mem_take hx))
  have h2 : (D.take j).length ≤ D.length := List.length_take_le' ..
  exact Nat.le_trans h1 (Nat.mul_le_mul_left 3 h2)
theorem outsR_len {P : Pushes} {e : Ent} {i : Nat} {D : List Pt} {j : Nat} {pt : Pt} {r : Nat} (h : ∀ d ∈ D, d.1.length ≤ 3) (hp : pt.1.length ≤ 3) : (outsR P e i D j pt r).length ≤ 3 * D.length + 3 := by
  unfold outsR
  rw [List.length_append, List.length_map]
  have h1 := outs_len (P := P) (e := e) (i := i) (j := j) h
  have h2 := steps_cnt (P := P) (e := e) (i := i) hp
  have h3 : ((steps P pt.1 e i).take r).length ≤ (steps P pt.1 e i).length := List.length_take_le' ..
  omega
theorem keep_none {d : List Pt} {pt : Pt} (h : lookM d pt.1 = none) : keep d pt = putM d pt.1 pt.2 := by unfold keep; rw [h]
theorem keep_lt {d : List Pt} {pt : Pt} {v : Rk} (h : lookM d pt.1 = some v) (c : rkLt pt.2 v) : keep d pt = putM d pt.1 pt.2 := by unfold keep; rw [h]; exact if_pos c
theorem keep_ge {d : List Pt} {pt : Pt} {v : Rk} (h : lookM d pt.1 = some v) (c : ¬ rkLt pt.2 v) : keep d pt = d := by unfold keep; rw [h]; exact if_neg c
theorem outs_nodup {O : List Pt} : ((O.foldl keep []).map (·.1)).Nodup := (DInv.fold DInv.nil O).nd
end KM
end

section
set_option autoImplicit false
set_option linter.all false
namespace KM
/-! a point with nothing doubted tells a run that fits the log -/
def rowF (P : Pushes) (start : List Int) (ps : List Int) : List Int := ps.foldl (fun xs k => press P xs k.toNat) start
theorem rowF_snoc {P : Pushes} {start ps : List Int} {k : Nat} : rowF P start (ps ++ [(k : Int)]) = press P (rowF P start ps) k := by
  unfold rowF
  rw [List.foldl_append]
  rfl
/-- what an entry asks of the run, a presses being done before it -/
def fitsAt (P : Pushes) (start ps : List Int) (a : Nat) : Ent → Prop
  | .seen l z => (rowF P start (ps.take a)).getD l 0 = z
  | .pressed l => ps[a]? = some (l : Int)
  | .lost => a < ps.length
structure Run (P : Pushes) (start : List Int) (log : List Ent) (i : Nat) (ps xs : List Int) : Prop where
  row : xs = rowF P start ps
  len : ps.length = pressesAt log i
  can : ∀ j, j < ps.length → ∃ k : Nat, ps[j]? = some (k : Int) ∧ k < P.length ∧ (rowF P start (ps.take j)).getD k 0 < 0
  fit : ∀ i', i' < i → ∀ e, log[i']? = some e → fitsAt P start ps (pressesAt log i') e
theorem presses_mono {log : List Ent} : ∀ {i j : Nat}, i ≤ j → pressesAt log i ≤ pressesAt log j := by
  intro i j h
  induction j with
  | zero => rw [Nat.le_zero.mp h]; exact Nat.le_refl _
  | succ j ih =>
    rcases Nat.lt_or_ge i (j + 1) with q | q
    · have h1 := ih (Nat.lt_succ_iff.mp q)
      refine Nat.le_trans h1 ?_
      show _ ≤ (match log[j]? with | none => pressesAt log j | some e => pressesAt log j + isPress e)
      split
      · exact Nat.le_refl _
      · exact Nat.le_add_right _ _
    · rw [Nat.le_antisymm h q]; exact Nat.le_refl _
theorem presses_succ {log : List Ent} {i : Nat} {e : Ent} (h : log[i]? = some e) : pressesAt log (i + 1) = pressesAt log i + isPress e := by
  show (match log[i]? with | none => _ | some e => _) = _
  rw [h]
theorem take_app {ps qs : List Int} {a : Nat} (h : a ≤ ps.length) : (ps ++ qs).take a = ps.take a := by rw [List.take_append_of_le_length h]
theorem fitsAt_app {P : Pushes} {start ps qs : List Int} {a : Nat} {e : Ent} (ha : a ≤ ps.length) (h : fitsAt P start ps a e) : fitsAt P start (ps ++ qs) a e := by
  cases e with
  | seen l z =>
    show (rowF P start ((ps ++ qs).take a)).getD l 0 = z
    rw [take_app ha]
    exact h
  | pressed l =>
    have h : ps[a]? = some (l : Int) := h
    show (ps ++ qs)[a]? = some (l : Int)
    have hlt := (List.getElem?_eq_some_iff.mp h).1
    rw [List.getElem?_append_left hlt]
    exact h
  | lost =>
    have h : a < ps.length := h
    show a < (ps ++ qs).length
    rw [List.length_append]
    omega
theorem run_of {P : Pushes} {start : List Int} {log : List Ent} (hr : ∀ r ∈ P, r.length = P.length) (hx : start.length = P.length) : ∀ {i : Nat} {ps xs : List Int}, i ≤ log.length → (xs, (([] : List Int), ps)) ∈ ptsAt P start log i → Run P start log i ps xs
  | 0, ps, xs, _, h => by
    simp only [ptsAt, List.mem_singleton, Prod.mk.injEq] at h
    obtain ⟨rfl, _, rfl⟩ := h
    exact ⟨rfl, rfl, fun j hj => absurd hj (Nat.not_lt_zero _), fun i' hi => absurd hi (Nat.not_lt_zero _)⟩
  | i + 1, ps, xs, hi, h => by
    have hn := pts_len h
    have he : log[i]? = some log[i] := List.getElem?_eq_getElem hi
    rw [pts_succ he] at h
    obtain ⟨a, ha, hb⟩ := List.mem_flatMap.mp h
    obtain ⟨s, hs, hz⟩ := List.mem_map.mp hb
    obtain ⟨xs', w', p'⟩ := a
    simp only [offer, Prod.mk.injEq, List.append_eq_nil_iff] at hz
    obtain ⟨rfl, ⟨rfl, hm⟩, rfl⟩ := hz
    have ih := run_of hr hx (Nat.le_of_succ_le hi) ha
    have hlen : xs'.length = P.length := (pts_bounds hr hx (Nat.le_of_succ_le hi) ha).1
    have old : ∀ i', i' < i → ∀ e, log[i']? = some e → fitsAt P start (p' ++ s.1) (pressesAt log i') e := fun i' hi' e he' =>
      fitsAt_app (by rw [ih.len]; exact presses_mono (Nat.le_of_lt hi')) (ih.fit i' hi' e he')
    have press' : ∀ k : Nat, k ∈ able xs' → s.1 = [(k : Int)] → s.2.1 = press P xs' k → fitsAt P start (p' ++ [(k : Int)]) (pressesAt log i) log[i] → Run P start log (i + 1) (p' ++ s.1) s.2.1 := fun k hk e1 e2 hf => by
      rw [e1] at hn old
      rw [e1, e2]
      obtain ⟨k1, k2⟩ := mem_able.mp hk
      refine ⟨by rw [rowF_snoc, ← ih.row], hn, fun j hj => ?_, fun i' hi' e he' => ?_⟩
      · rw [List.length_append, List.length_singleton] at hj
        rcases Nat.lt_or_ge j p'.length with q | q
        · obtain ⟨k', h1, h2, h3⟩ := ih.can j q
          exact ⟨k', by rw [List.getElem?_append_left q]; exact h1, h2, by rw [take_app (Nat.le_of_lt q)]; exact h3⟩
        · have : j = p'.length := by omega
          subst this
          refine ⟨k, by simp, hlen ▸ k1, ?_⟩
          rw [List.take_left' rfl, ← ih.row]
          exact k2
      · rcases Nat.lt_or_ge i' i with q | q
        · exact old i' q e he'
        · have : i' = i := by omega
          subst this
          rw [he] at he'
          obtain rfl := Option.some.inj he'
          exact hf
    have hP := ih.len
    cases e : log[i] with
    | seen l z =>
      rw [e] at hs
      simp only [steps, List.mem_singleton] at hs
      subst hs
      dsimp only at hm ⊢ hn
      have hz : xs'.getD l 0 = z := by
        by_cases c : xs'.getD l 0 = z
        · exact c
        · rw [if_neg c] at hm; cases hm
      rw [List.append_nil] at hn ⊢
      refine ⟨ih.row, hn, ih.can, fun i' hi' e' he' => ?_⟩
      rcases Nat.lt_or_ge i' i with q | q
      · exact ih.fit i' q e' he'
      · have : i' = i := by omega
        subst this
        rw [he, e] at he'
        obtain rfl := Option.some.inj he'
        show (rowF P start (p'.take (pressesAt log i'))).getD l 0 = z
        rw [← hP, List.take_length, ← ih.row]
        exact hz
    | pressed l =>
      rw [e] at hs
      simp only [steps, List.mem_map] at hs
      obtain ⟨k, hk, rfl⟩ := hs
      dsimp only at hm
      have hf : KM.fit (.pressed l) k = true := by
        by_cases c : KM.fit (.pressed l) k = true
        · exact c
        · rw [if_neg c] at hm; cases hm
      refine press' k hk rfl rfl ?_
      rw [e]
      show (p' ++ [(k : Int)])[pressesAt log i]? = some (l : Int)
      have : l = k := of_decide_eq_true hf
      rw [← hP, this]
      simp
    | lost =>
      rw [e] at hs
      simp only [steps, List.mem_map] at hs
      obtain ⟨k, hk, rfl⟩ := hs
      refine press' k hk rfl rfl ?_
      rw [e]
      show pressesAt log i < (p' ++ [(k : Int)]).length
      rw [← hP]
      simp
theorem presses_le {log : List Ent} : ∀ {i : Nat}, pressesAt log i ≤ i
  | 0 => Nat.le_refl _
  | i + 1 => by
    have ih := presses_le (log := log) (i := i)
    cases h : log[i]? with
    | none =>
      have e : pressesAt log (i + 1) = pressesAt log i := by
        show (match log[i]? with | none => _ | some e => _) = _
        rw [h]
      omega
    | some e =>
      have h1 := presses_succ h
      have h2 : isPress e ≤ 1 := by cases e <;> simp [isPress]
      omega
theorem Run.rows {P : Pushes} {start : List Int} {log : List Ent} {i : Nat} {ps xs : List Int} (hr : ∀ r ∈ P, r.length = P.length) (hx : start.length = P.length) (R : Run P start log i ps xs) : ∀ a, a ≤ ps.length → (rowF P start (ps.take a)).length = P.length
  | 0, _ => hx
  | a + 1, h => by
    obtain ⟨k, h1, h2, _⟩ := R.can a h
    rw [take_add h1, rowF_snoc]
    exact press_len hr (R.rows hr hx a (Nat.le_of_succ_le h)) h2
end KM
end

section
set_option autoImplicit false
set_option linter.all false
namespace KM
/-! what nearly fits, the entries of S being doubted -/
abbrev Np := List Int × List Int
def near1 (P : Pushes) (e : Ent) (i : Nat) (S : List Int) (q : Np) : List Np := match e with
  | .seen l z => if (i : Int) ∈ S ∨ q.2.getD l 0 = z then [q] else []
  | e => ((able q.2).filter fun k => decide (fit e k = true ∨ (i : Int) ∈ S)).map fun (k : Nat) => (q.1 ++ [(k : Int)], press P q.2 k)
def nearAt (P : Pushes) (start : List Int) (log : List Ent) (S : List Int) : Nat → List Np
  | 0 => [([], start)]
  | i + 1 => match log[i]? with
    | none => nearAt P start log S i
    | some e => (nearAt P start log S i).flatMap (near1 P e i S)
theorem near_succ {P : Pushes} {start : List Int} {log : List Ent} {S : List Int} {i : Nat} {e : Ent} (h : log[i]? = some e) : nearAt P start log S (i + 1) = (nearAt P start log S i).flatMap (near1 P e i S) := by
  show (match log[i]? with | none => _ | some e => _) = _
  rw [h]
theorem near1_iff {P : Pushes} {e : Ent} {i : Nat} {S : List Int} {q q' : Np} : q' ∈ near1 P e i S q ↔ ∃ s ∈ steps P q.2 e i, (∀ a ∈ s.2.2, a ∈ S) ∧ q' = (q.1 ++ s.1, s.2.1) := by
  have pr : ∀ e : Ent, (q' ∈ ((able q.2).filter fun k => decide (fit e k = true ∨ (i : Int) ∈ S)).map fun (k : Nat) => (q.1 ++ [(k : Int)], press P q.2 k)) ↔ ∃ s ∈ (able q.2).map (fun (k : Nat) => ([(k : Int)], press P q.2 k, if fit e k = true then [] else [(i : Int)])), (∀ a ∈ s.2.2, a ∈ S) ∧ q' = (q.1 ++ s.1, s.2.1) := fun e => by
    constructor
    · intro h
      obtain ⟨k, hk, rfl⟩ := List.mem_map.mp h
      obtain ⟨h1, h2⟩ := List.mem_filter.mp hk
      refine ⟨_, List.mem_map.mpr ⟨k, h1, rfl⟩, fun a ha => ?_, rfl⟩
      dsimp only at ha
      by_cases c : fit e k = true
      · rw [if_pos c] at ha; cases ha
      · rw [if_neg c] at ha
        rw [List.mem_singleton.mp ha]
        rcases of_decide_eq_true h2 with z | z
        · exact absurd z c
        · exact z
    · rintro ⟨s, hs, ha, rfl⟩
      obtain ⟨k, hk, rfl⟩ := List.mem_map.mp hs
      refine List.mem_map.mpr ⟨k, List.mem_filter.mpr ⟨hk, decide_eq_true ?_⟩, rfl⟩
      dsimp only at ha
      by_cases c : fit e k = true
      · exact .inl c
      · rw [if_neg c] at ha
        exact .inr (ha _ (List.mem_singleton.mpr rfl))
  cases e with
  | seen l z =>
    show q' ∈ (if (i : Int) ∈ S ∨ q.2.getD l 0 = z then [q] else []) ↔ ∃ s ∈ [([], q.2, if q.2.getD l 0 = z then [] else [(i : Int)])], (∀ a ∈ s.2.2, a ∈ S) ∧ q' = (q.1 ++ s.1, s.2.1)
    constructor
    · intro h
      by_cases c : (i : Int) ∈ S ∨ q.2.getD l 0 = z
      · rw [if_pos c] at h
        refine ⟨_, List.mem_singleton.mpr rfl, fun a ha => ?_, by rw [List.mem_singleton.mp h]; simp⟩
        dsimp only at ha
        by_cases d : q.2.getD l 0 = z
        · rw [if_pos d] at ha; cases ha
        · rw [if_neg d] at ha
          rw [List.mem_singleton.mp ha]
          exact c.resolve_right d
      · rw [if_neg c] at h; cases h
    · rintro ⟨s, hs, ha, rfl⟩
      rw [List.mem_singleton.mp hs] at ha ⊢
      dsimp only at ha ⊢
      have c : (i : Int) ∈ S ∨ q.2.getD l 0 = z := by
        by_cases d : q.2.getD l 0 = z
        · exact .inr d
        · rw [if_neg d] at ha
          exact .inl (ha _ (List.mem_singleton.mpr rfl))
      rw [if_pos c]
      simp
  | pressed l => exact pr (.pressed l)
  | lost => exact pr .lost
theorem near_iff {P : Pushes} {start : List Int} {log : List Ent} {S : List Int} : ∀ {i : Nat} {p xs : List Int}, (p, xs) ∈ nearAt P start log S i ↔ ∃ w, (xs, (w, p)) ∈ ptsAt P start log i ∧ ∀ a ∈ w, a ∈ S
  | 0, p, xs => by
    simp only [nearAt, ptsAt, List.mem_singleton, Prod.mk.injEq]
    constructor
    · rintro ⟨rfl, rfl⟩; exact ⟨[], ⟨rfl, rfl, rfl⟩, fun a h => by cases h⟩
    · rintro ⟨w, ⟨rfl, rfl, rfl⟩, _⟩; exact ⟨rfl, rfl⟩
  | i + 1, p, xs => by
    cases h : log[i]? with
    | none =>
      have e1 : nearAt P start log S (i + 1) = nearAt P start log S i := by
        show (match log[i]? with | none => _ | some e => _) = _
        rw [h]
      have e2 : ptsAt P start log (i + 1) = ptsAt P start log i := by
        show (match log[i]? with | none => _ | some e => _) = _
        rw [h]
      rw [e1, e2]
      exact near_iff
    | some e =>
      rw [near_succ h, pts_succ h]
      constructor
      · intro hm
        obtain ⟨q, hq, h1⟩ := List.mem_flatMap.mp hm
        obtain ⟨s, hs, ha, heq⟩ := near1_iff.mp h1
        obtain ⟨w, hw, hwS⟩ := near_iff.mp (show (q.1, q.2) ∈ nearAt P start log S i from hq)
        obtain ⟨rfl, rfl⟩ := Prod.mk.injEq .. ▸ heq
        refine ⟨w ++ s.2.2, List.mem_flatMap.mpr ⟨_, hw, List.mem_map.mpr ⟨s, hs, rfl⟩⟩, fun a h => ?_⟩
        rcases List.mem_append.mp h with h | h
        · exact hwS a h
        · exact ha a h
      · rintro ⟨w, hm, hS⟩
        obtain ⟨pt, hpt, h1⟩ := List.mem_flatMap.mp hm
        obtain ⟨s, hs, heq⟩ := List.mem_map.mp h1
        obtain ⟨xs', w', p'⟩ := pt
        simp only [offer, Prod.mk.injEq] at heq
        obtain ⟨rfl, rfl, rfl⟩ := heq
        refine List.mem_flatMap.mpr ⟨(p', xs'), near_iff.mpr ⟨w', hpt, fun a h => hS a (List.mem_append_left _ h)⟩, near1_iff.mpr ⟨s, hs, fun a h => hS a (List.mem_append_right _ h), rfl⟩⟩
theorem near1_cnt {P : Pushes} {e : Ent} {i : Nat} {S : List Int} {q : Np} (h : q.2.length ≤ 3) : (near1 P e i S q).length ≤ 3 := by
  have ha := able_len (xs := q.2)
  have two : ∀ (e : Ent), (((able q.2).filter fun k => decide (fit e k = true ∨ (i : Int) ∈ S)).map fun (k : Nat) => (q.1 ++ [(k : Int)], press P q.2 k)).length ≤ 3 := fun e => by
    rw [List.length_map]
    have := List.length_filter_le (fun k => decide (fit e k = true ∨ (i : Int) ∈ S)) (able q.2)
    omega
  cases e with
  | seen l z =>
    show (if (i : Int) ∈ S ∨ q.2.getD l 0 = z then [q] else []).length ≤ 3
    split <;> simp
  | pressed l => exact two _
  | lost => exact two _
theorem near_bd {P : Pushes} {start : List Int} {log : List Ent} {S : List Int} (hr : ∀ r ∈ P, r.length = P.length) (hx : start.length = P.length) {i : Nat} {q : Np} (hi : i ≤ log.length) (h : q ∈ nearAt P start log S i) : q.2.length = P.length ∧ q.1.length = pressesAt log i := by
  obtain ⟨w, hw, _⟩ := near_iff.mp (show (q.1, q.2) ∈ nearAt P start log S i from h)
  exact ⟨(pts_bounds hr hx hi hw).1, pts_len hw⟩
theorem near_cnt {P : Pushes} {start : List Int} {log : List Ent} {S : List Int} (hr : ∀ r ∈ P, r.length = P.length) (hx : start.length = P.length) (h3 : P.length ≤ 3) : ∀ {i : Nat}, i ≤ log.length → (nearAt P start log S i).length ≤ 3 ^ i
  | 0, _ => by simp [nearAt]
  | i + 1, hi => by
    have ih := near_cnt (S := S) hr hx h3 (Nat.le_of_succ_le hi)
    rw [near_succ (List.getElem?_eq_getElem hi)]
    have h1 := flat_len (f := near1 P log[i] i S) (n := 3) (xs := nearAt P start log S i) fun q hq => near1_cnt (by have := (near_bd hr hx (Nat.le_of_succ_le hi) hq).1; omega)
    have h2 : 3 ^ (i + 1) = 3 * 3 ^ i := by rw [Nat.pow_succ, Nat.mul_comm]
    rw [h2]
    exact Nat.le_trans h1 (Nat.mul_le_mul_left 3 ih)
theorem near_few {P : Pushes} {start : List Int} {log : List Ent} {S : List Int} : ∀ {i : Nat}, i ≤ log.length → pressesAt log i = 0 → (nearAt P start log S i).length ≤ 1
  | 0, _, _ => by simp [nearAt]
  | i + 1, hi, h0 => by
    have he : log[i]? = some log[i] := List.getElem?_eq_getElem hi
    rw [presses_succ he] at h0
    have ih := near_few (P := P) (start := start) (S := S) (Nat.le_of_succ_le hi) (by omega)
    rw [near_succ he]
    have h1 := flat_len (f := near1 P log[i] i S) (n := 1) (xs := nearAt P start log S i) fun q hq => by
      cases e : log[i] with
      | seen l z =>
        show (if (i : Int) ∈ S ∨ q.2.getD l 0 = z then [q] else []).length ≤ 1
        split <;> simp
      | pressed l => rw [e] at h0; simp [isPress] at h0
      | lost => rw [e] at h0; simp [isPress] at h0
    omega
end KM
end

section
set_option autoImplicit false
set_option linter.all false
namespace KM
/-! the lots, in order of size: the first that nearly fits is the least doubted -/
def posN (log : List Ent) (i : Nat) : List Nat := (List.range i).filter fun j => decide (log[j]? ≠ some .lost)
def posL (log : List Ent) (i : Nat) : List Int := (posN log i).map fun (j : Nat) => (j : Int)
def lotsF (acc : List (List Int)) (a : Int) : List (List Int) := acc ++ acc.map fun lot => lot ++ [a]
def lotsOf (L : List Int) : List (List Int) := L.foldl lotsF [[]]
theorem lots_snoc {L : List Int} {a : Int} : lotsOf (L ++ [a]) = lotsF (lotsOf L) a := by unfold lotsOf; rw [List.foldl_append]; rfl
theorem sub_snoc {S L : List Int} {a : Int} (h : S.Sublist (L ++ [a])) : S.Sublist L ∨ ∃ S', S = S' ++ [a] ∧ S'.Sublist L := by
  obtain ⟨S1, S2, rfl, h1, h2⟩ := List.sublist_append_iff.mp h
  cases S2 with
  | nil => rw [List.append_nil]; exact .inl h1
  | cons x xs =>
    have hl := h2.length_le
    simp at hl
    subst hl
    have : x = a := by
      have := h2.subset (List.mem_cons_self (a := x) (l := []))
      simpa using this
    subst this
    exact .inr ⟨S1, rfl, h1⟩
theorem lots_iff {S : List Int} : ∀ {L : List Int}, S ∈ lotsOf L ↔ S.Sublist L := by
  have : ∀ (n : Nat) (L : List Int) (S : List Int), L.length = n → (S ∈ lotsOf L ↔ S.Sublist L) := by
    intro n
    induction n with
    | zero =>
      intro L S h
      have : L = [] := List.length_eq_zero_iff.mp h
      subst this
      show S ∈ [[]] ↔ _
      rw [List.mem_singleton, List.sublist_nil]
    | succ n ih =>
      intro L S h
      have hne : L ≠ [] := fun z => by rw [z] at h; cases h
      obtain ⟨L', a, rfl⟩ : ∃ L' a, L = L' ++ [a] := ⟨L.dropLast, L.getLast hne, (List.dropLast_concat_getLast hne).symm⟩
      have hl : L'.length = n := by simpa using h
      rw [lots_snoc]
      unfold lotsF
      rw [List.mem_append, List.mem_map]
      constructor
      · rintro (h1 | ⟨S', h1, rfl⟩)
        · exact ((ih L' S hl).mp h1).trans (List.sublist_append_left _ _)
        · exact ((ih L' S' hl).mp h1).append (List.Sublist.refl _)
      · intro h1
        rcases sub_snoc h1 with h2 | ⟨S', rfl, h2⟩
        · exact .inl ((ih L' S hl).mpr h2)
        · exact .inr ⟨S', (ih L' S' hl).mpr h2, rfl⟩
  intro L
  exact this _ L S rfl
theorem lots_len {L : List Int} : (lotsOf L).length = 2 ^ L.length := by
  have : ∀ (L : List Int) (acc : List (List Int)), (L.foldl lotsF acc).length = acc.length * 2 ^ L.length := by
    intro L
    induction L with
    | nil => intro acc; simp
    | cons a L ih =>
      intro acc
      rw [List.foldl_cons, ih]
      unfold lotsF
      rw [List.length_append, List.length_map, List.length_cons, Nat.pow_succ]
      have : acc.length + acc.length = acc.length * 2 := by omega
      rw [this, Nat.mul_assoc, Nat.mul_comm 2]
  unfold lotsOf
  rw [this]
  simp
theorem asc_sub : ∀ {S w : List Int}, w.Pairwise (· < ·) → S.Pairwise (· < ·) → (∀ a ∈ w, a ∈ S) → w.Sublist S
  | [], [], _, _, _ => List.Sublist.refl _
  | [], a :: w, _, _, h => absurd (h a List.mem_cons_self) List.not_mem_nil
  | b :: S, [], _, _, _ => List.nil_sublist _
  | b :: S, a :: w, hw, hS, h => by
    obtain ⟨w1, w2⟩ := List.pairwise_cons.mp hw
    obtain ⟨s1, s2⟩ := List.pairwise_cons.mp hS
    by_cases e : a = b
    · subst e
      refine List.Sublist.cons_cons a (asc_sub w2 s2 fun x hx => ?_)
      rcases List.mem_cons.mp (h x (List.mem_cons_of_mem _ hx)) with rfl | q
      · exact absurd (w1 x hx) (Int.lt_irrefl _)
      · exact q
    · have ha : a ∈ S := by
        rcases List.mem_cons.mp (h a List.mem_cons_self) with q | q
        · exact absurd q e
        · exact q
      have hb := s1 a ha
      refine List.Sublist.cons b (asc_sub hw s2 fun x hx => ?_)
      rcases List.mem_cons.mp (h x hx) with rfl | q
      · rcases List.mem_cons.mp hx with rfl | q
        · exact absurd rfl e
        · have := w1 _ q; omega
      · exact q
theorem pos_asc {log : List Ent} {i : Nat} : (posL log i).Pairwise (· < ·) := by
  unfold posL posN
  refine List.Pairwise.map _ (R := (· < ·)) (fun a b h => Int.ofNat_lt.mpr h) ?_
  exact List.pairwise_lt_range.filter _
theorem pos_succ {log : List Ent} {i : Nat} : posL log (i + 1) = posL log i ++ (if decide (log[i]? ≠ some .lost) = true then [(i : Int)] else []) := by
  unfold posL posN
  rw [List.range_succ, List.filter_append, List.map_append, List.filter_cons, List.filter_nil]
  split <;> rfl
theorem pts_sub {P : Pushes} {start : List Int} {log : List Ent} : ∀ {i : Nat} {xs w p : List Int}, i ≤ log.length → (xs, (w, p)) ∈ ptsAt P start log i → w.Sublist (posL log i)
  | 0, xs, w, p, _, h => by
    simp only [ptsAt, List.mem_singleton, Prod.mk.injEq] at h
    rw [h.2.1]
    exact List.nil_sublist _
  | i + 1, xs, w, p, hi, h => by
    have he : log[i]? = some log[i] := List.getElem?_eq_getElem hi
    rw [pts_succ he] at h
    obtain ⟨pt, hpt, h1⟩ := List.mem_flatMap.mp h
    obtain ⟨s, hs, heq⟩ := List.mem_map.mp h1
    obtain ⟨xs', w', p'⟩ := pt
    simp only [offer, Prod.mk.injEq] at heq
    obtain ⟨rfl, rfl, rfl⟩ := heq
    have ih := pts_sub (Nat.le_of_succ_le hi) hpt
    rw [pos_succ]
    refine ih.append ?_
    have two : ∀ (c : Prop) [Decidable c], (if c then ([] : List Int) else [(i : Int)]).Sublist [(i : Int)] := fun c _ => by
      split
      · exact List.nil_sublist _
      · exact List.Sublist.refl _
    cases e : log[i] with
    | seen l z =>
      rw [e] at hs he
      rw [he]
      simp only [steps, List.mem_singleton] at hs
      subst hs
      simpa using two _
    | pressed l =>
      rw [e] at hs he
      rw [he]
      simp only [steps, List.mem_map] at hs
      obtain ⟨k, _, rfl⟩ := hs
      simpa using two _
    | lost =>
      rw [e] at hs
      simp only [steps, List.mem_map] at hs
      obtain ⟨k, _, rfl⟩ := hs
      simp [fit]
def lotLt (a b : List Int) : Prop := a.length < b.length ∨ (a.length = b.length ∧ a < b)
instance (a b : List Int) : Decidable (lotLt a b) := by unfold lotLt; infer_instance
section
variable {P : Pushes} {start : List Int} {log : List Ent}
abbrev lotsL (log : List Ent) : List (List Int) := lotsOf (posL log log.length)
structure First (P : Pushes) (start : List Int) (log : List Ent) (lot : List Int) : Prop where
  mem : lot ∈ lotsL log
  ne : nearAt P start log lot log.length ≠ []
  low : ∀ l ∈ lotsL log, nearAt P start log l log.length ≠ [] → ¬ lotLt l lot
theorem near_ne {S : List Int} {xs w p : List Int} (h : (xs, (w, p)) ∈ ptsAt P start log log.length) (hS : ∀ a ∈ w, a ∈ S) : nearAt P start log S log.length ≠ [] := fun z => by
  have := (near_iff (S := S)).mpr ⟨w, h, hS⟩
  rw [z] at this
  cases this
theorem none_of (h : ∀ l ∈ lotsL log, nearAt P start log l log.length = []) : ptsAt P start log log.length = [] := by
  refine List.eq_nil_iff_forall_not_mem.mpr fun e he => ?_
  obtain ⟨xs, w, p⟩ := e
  exact near_ne he (fun a h => h) (h w (lots_iff.mpr (pts_sub (Nat.le_refl _) he)))
theorem no_near (h : ptsAt P start log log.length = []) {S : List Int} : nearAt P start log S log.length = [] := by
  refine List.eq_nil_iff_forall_not_mem.mpr fun e he => ?_
  obtain ⟨w, hw, _⟩ := near_iff.mp (show (e.1, e.2) ∈ nearAt P start log S log.length from he)
  rw [h] at hw
  cases hw
theorem first_best {lot : List Int} {b : Rk} (F : First P start log lot) (hb : Best (ptsAt P start log log.length) b) : b.1 = lot := by
  obtain ⟨⟨k, hk⟩, hlow⟩ := hb
  have hbL : b.1.Sublist (posL log log.length) := pts_sub (Nat.le_refl _) hk
  have n1 := F.low b.1 (lots_iff.mpr hbL) (near_ne hk fun a h => h)
  obtain ⟨⟨p, xs⟩, hm⟩ := List.exists_mem_of_ne_nil _ F.ne
  obtain ⟨w, hw, hwS⟩ := near_iff.mp hm
  have hL := lots_iff.mp F.mem
  have hws : w.Sublist lot := asc_sub (pos_asc.sublist (pts_sub (Nat.le_refl _) hw)) (pos_asc.sublist hL) hwS
  have n2 := hlow _ hw
  have l1 := hws.length_le
  have l2 : b.1.length ≤ w.length := Nat.le_of_not_lt fun z => n2 (.inl z)
  have l3 : lot.length ≤ b.1.length := Nat.le_of_not_lt fun z => n1 (.inl z)
  have ew : w = lot := hws.eq_of_length (by omega)
  subst ew
  rcases tri b.1 w with q | q | q
  · exact absurd (Or.inr ⟨by omega, q⟩) n1
  · exact q
  · exact absurd (Or.inr ⟨by show w.length = b.1.length; omega, .inl q⟩) n2
theorem first_play {lot q0 : List Int} {pl : List (List Int)} {b : Rk} (F : First P start log lot) (hb : Best (ptsAt P start log log.length) b) (hm : ∀ q, q ∈ pl ↔ ∃ xs', (q, xs') ∈ nearAt P start log lot log.length) (h0 : q0 ∈ pl) (hlow : ∀ q ∈ pl, ¬ q < q0) : b.2 = q0 := by
  have e1 := first_best F hb
  obtain ⟨⟨k, hk⟩, hB⟩ := hb
  obtain ⟨xs', hx⟩ := (hm q0).mp h0
  obtain ⟨w, hw, hwS⟩ := near_iff.mp hx
  have hL := lots_iff.mp F.mem
  have hws : w.Sublist lot := asc_sub (pos_asc.sublist (pts_sub (Nat.le_refl _) hw)) (pos_asc.sublist hL) hwS
  have n2 := hB _ hw
  have l1 := hws.length_le
  have l2 : b.1.length ≤ w.length := Nat.le_of_not_lt fun z => n2 (.inl z)
  rw [e1] at l2
  have ew : w = lot := hws.eq_of_length (by omega)
  have n3 : ¬ b.2 < q0 := hlow b.2 ((hm b.2).mpr ⟨k, near_iff.mpr ⟨b.1, hk, by rw [e1]; exact fun a h => h⟩⟩)
  rcases tri b.2 q0 with q | q | q
  · exact absurd q n3
  · exact q
  · refine absurd (Or.inr ⟨?_, .inr ⟨?_, q⟩⟩) n2
    · show w.length = b.1.length
      rw [ew, e1]
    · show w = b.1
      rw [ew, e1]
end
end KM
end

section
set_option Elab.async false
set_option linter.all false
set_option maxRecDepth 100000
set_option maxHeartbeats 0
namespace KX
open PySem PySem.Spec PyProof.Rows L2
def top (i : Nat) : Stmt := PySem.Challenge.pw_kaleidorooms_k83_whole_mended_logs.main.body.getD i (.Pass ⟨0, 0, 0, 0⟩)
abbrev s_is_from : Stmt := top 11
abbrev s_are_pushes : Stmt := top 12
abbrev sH_init : Stmt := inClass (top 13) 0
abbrev sH_len : Stmt := inClass (top 13) 2
abbrev s_need_hall : Stmt := top 14
abbrev s_are_numbers : Stmt := top 17
abbrev s_need_numbers : Stmt := top 18
abbrev s_changed : Stmt := top 19
abbrev s_able_of : Stmt := top 20
abbrev s_is_entry : Stmt := top 25
abbrev s_need_log : Stmt := top 26
abbrev s_need_told : Stmt := top 27
abbrev s_agrees : Stmt := top 28
abbrev s_fits : Stmt := top 29
abbrev s_steps_by : Stmt := top 31
abbrev s_ranked : Stmt := top 32
abbrev s_nearest : Stmt := top 33
abbrev s_doubted : Stmt := top 34
abbrev s_mended : Stmt := top 35
abbrev s_law_taken : Stmt := top 37
abbrev s_law_pick : Stmt := top 38
abbrev s_law_alike : Stmt := top 39
abbrev s_law_press : Stmt := top 40
abbrev s_law_below : Stmt := top 41
abbrev s_law_named : Stmt := top 42
abbrev s_law_names : Stmt := top 43
abbrev s_law_flats : Stmt := top 44
abbrev s_law_mixed : Stmt := top 45
abbrev s_law_beside : Stmt := top 46
abbrev s_law_ending : Stmt := top 47
abbrev s_law_flat : Stmt := top 48
abbrev s_law_any : Stmt := top 49
abbrev s_law_one_hall : Stmt := top 50
abbrev s_law_numbers : Stmt := top 51
abbrev s_law_log : Stmt := top 52
abbrev s_law_nearly : Stmt := top 54
abbrev s_law : Stmt := top 55
end KX
end

section
set_option Elab.async false
set_option linter.all false
set_option maxRecDepth 100000
set_option maxHeartbeats 4000000
/-! A walk by enumerate over a tuple; a walk by zip over two tuples, as Walk. -/
namespace KR
open PySem PySem.Spec PyProof.Rows L2
/-- each item of the tuple at a, with its place, in a new pair -/
def ItE (K : PySem.W.Frag) (a : Addr) : It where
  go := fun i H => ∃ (ys : List V) (y : V), SqT K H a ys ∧ ys[i]? = some y
  yld := fun i H v H' => ∃ T y, v = .ref T ∧ H T = none ∧ H' = upd H T (.tup [.int (i : Nat), y]) ∧ ∀ ys, SqT K H a ys → ys[i]? = some y
  stop := fun i H => ∃ ys : List V, SqT K H a ys ∧ ys.length = i
theorem turnE {P : Program} {w : World} {K : PySem.W.Frag} {elts : List Expr} {kk : Nat} {tpos : Pos} {a e it : Addr} (hia : a ≠ it) (hea : e ≠ a) :
    Turn P w K (.Tuple elts kk tpos) (ItE K a) [e, it] e (fun i h => (∃ u, IsEnum h e it (i : Int) u) ∧ h.IsTupleIter it a i ∧ e ≠ it) where
  mem := List.mem_cons_self
  obj := fun i h st b hb => by
    obtain ⟨⟨u, q1⟩, ⟨o, q2, _, q3⟩, _⟩ := st
    rcases List.mem_cons.mp hb with z | hb
    · subst z; exact ⟨_, q1, fun v q => nomatch q⟩
    · rw [List.mem_singleton.mp hb]
      exact ⟨o, q2, fun v q => by rw [q3] at q; cases q⟩
  keep := fun i h h' ⟨⟨u, q1⟩, q2, q3⟩ k => ⟨⟨u, k e (by simp) _ q1⟩, q2.at fun o q => k it (by simp) o q, q3⟩
  item := by
    intro X hP hw hK hc i pins s σ H E I hf st hg
    subst hP hw hK
    obtain ⟨⟨old, q1⟩, q2, q3⟩ := st
    obtain ⟨ys, y, sq, hy⟩ := hg
    obtain ⟨its, rv, p, hz⟩ := I.tuple sq
    obtain ⟨u, hu, ru⟩ := rv.get hy
    have le : e < s.heap.objs.size := Heap.lt_size q1
    have li : it < s.heap.objs.size := let ⟨_, q, _⟩ := q2; Heap.lt_size q
    have hlt : i < its.toArray.size := by
      have := (List.getElem?_eq_some_iff.mp hu).1
      simpa using this
    have p' : s.heap.IsTuple a its.toArray := p
    refine wpAny_pyNext_enum_itemC (Draws.tuple (A := X.A.in1) (I.ok.hd hc) it a hia its.toArray) q1 ⟨q2, p'⟩ hlt q3 (by simp [q3, hea]) fun x h1 tk hx ho ht hT hsz hk => ?_
    have ex : x = u := by
      have hx' : its.toArray[i]? = some x := hx
      have : its.toArray[i]? = some u := by simpa using hu
      rw [this] at hx'
      exact (Option.some.inj hx').symm
    subst ex
    refine ⟨_, rfl, wpAny_letOwnedTupleGo_enum (s := { s with heap := h1, toks := tk + 1 }) ho fun h2 he sb => ?_⟩
    have hT2 : h2.get? s.heap.objs.size = some { cls := .type "tuple", data := .seq #[.int i tk, x] } := (sb.2 _ (Nat.ne_of_gt le)).trans hT
    have J : Inv X pins σ (upd H s.heap.objs.size (.tup [.int (i : Nat), y])) { s with heap := h2, toks := tk + 1 } := by
      refine I.turnedNew (ch := [e, it]) (fun b o hb q => ?_) hf (Nat.le_refl _) ⟨(by decide : 2 ≤ sizeLine), [.int i tk, x], .cons ⟨_, rfl⟩ (.cons ru .nil), ⟨_, hT2, rfl, _, rfl⟩⟩
      have nb : b ≠ e ∧ b ≠ it := by simpa using hb
      exact (sb.2 b nb.1).trans (hk b o nb.1 nb.2 q)
    refine ⟨.ref s.heap.objs.size, _, J, rfl, ⟨_, y, rfl, I.hok.fresh (Nat.le_refl _), rfl, fun zs hzs => by rw [I.tuple_inj hzs sq]; exact hy⟩, ⟨⟨x, he⟩, ht.1.at fun o q => (sb.2 it (Ne.symm q3)).trans q, q3⟩, fun b hb => ?_⟩
    have lb : b < s.heap.objs.size := by
      rcases List.mem_cons.mp hb with z | hb
      · rw [z]; exact le
      · rw [List.mem_singleton.mp hb]; exact li
    rw [upd_ne (Nat.ne_of_lt lb)]
    exact (hf b hb).1
  done := by
    intro X hP hw hK hc i pins s σ H E I hf st hg
    subst hP hw hK
    obtain ⟨⟨old, q1⟩, q2, q3⟩ := st
    obtain ⟨ys, sq, hl⟩ := hg
    obtain ⟨its, rv, p, hz⟩ := I.tuple sq
    have p' : s.heap.IsTuple a its.toArray := p
    obtain ⟨f0, f1, f2, f3, f4, f5⟩ := hf it (by simp)
    have hn : its.toArray.size = i := by rw [← hl, rv.length]; simp
    exact wpAny_pyNext_enum_endD (Draws.tuple (A := X.A.in1) (I.ok.hd hc) it a hia its.toArray) q1 (by rw [hn]; exact ⟨q2, p'⟩) fun h1 eb => ⟨rfl, I.turned (t' := s.toks) (fun b o hb q => eb b o hb q) f0 f1 f3 f4 f5⟩
  self := fun A i s Q E st h => let ⟨⟨_, q⟩, _⟩ := st; wpAny_pyIter_enum q h
/-- enumerate(t) begins -/
theorem meets_newT (a : Addr) (items : Array Value) :
    Meets (Builtin.«enumerate.__new__» ⟨[.type "enumerate", .ref a], []⟩) (fun _ R s => s.heap.IsTuple a items ∧
      R (.ok (.ret (.ref (s.heap.push { cls := .type "tuple_iterator", data := .fields #[.ref a, .int 0 0] }).objs.size)))
        { s with heap := (s.heap.push { cls := .type "tuple_iterator", data := .fields #[.ref a, .int 0 0] }).push { cls := .type "enumerate", data := .fields #[.none, .bool false, .ref s.heap.objs.size, rawInt 0, .none, .none] } }) :=
  .of_wp fun prog w A R s ⟨ht, h⟩ => by
    obtain ⟨hp, g, d, tk, os⟩ := s
    have hsub := sub_enumerate
    have q1 : ∀ {A' : Around} {E : Value → Shared → Prop} {Q : Value → Shared → Prop}, Q (.ref hp.objs.size) ⟨hp.push { cls := .type "tuple_iterator", data := .fields #[.ref a, .int 0 0] }, g, d, tk, os⟩ → wpAny (model prog w) A' (pyIter (.ref a)) Q E ⟨hp, g, d, tk, os⟩ :=
      fun q => wpAny_pyIter_tuple (s := ⟨hp, g, d, tk, os⟩) ht q
    wp_walk using q1
    refine wpAny_stack_any fun st => wpAny_pure ?_
    split
    · rename_i c _ _ _ _ _
      cases (c == Value.type "enumerate") <;> (wp_walk using q1; exact ⟨_, rfl, h⟩)
    · wp_walk using q1
      exact ⟨_, rfl, h⟩
theorem call_enumT {prog : Program} {w : World} {A : Around} {E : Value → Shared → Prop} {s : Shared} {a : Addr} {items : Array Value} {Q : Value → Shared → Prop} (ht : s.heap.IsTuple a items)
    (h : ∀ h', IsEnum h' (s.heap.objs.size + 1) s.heap.objs.size 0 .none → h'.IsTupleIter s.heap.objs.size a 0 → (∀ b o, s.heap.get? b = some o → h'.get? b = some o) → Q (.ref (s.heap.objs.size + 1)) { s with heap := h' }) :
    wpAny (model prog w) A (call (.type "enumerate") [.ref a]) Q E s := by
  refine callType_new F.called_enumerate (by decide) (F.typeCall_enumerate_1 _) (F.newCall_enumerate_1 _) (fun obj => F.args_object_init_2 obj _) F.entry_enumerate_new (meets_newT a items) ⟨ht, ?_⟩
  generalize ho : ({ cls := .type "tuple_iterator", data := .fields #[.ref a, .int 0 0] } : Obj) = o1
  have hf : (s.heap.push o1).get? s.heap.objs.size = some o1 := Heap.get?_push_size _ (by rw [← ho]; rfl)
  have hz : (s.heap.push o1).objs.size = s.heap.objs.size + 1 := Heap.size_push ..
  have he : IsEnum ((s.heap.push o1).push { cls := .type "enumerate", data := .fields #[.none, .bool false, .ref s.heap.objs.size, rawInt 0, .none, .none] }) (s.heap.objs.size + 1) s.heap.objs.size 0 .none := by
    have := Heap.get?_push_size (s.heap.push o1) (o := { cls := .type "enumerate", data := .fields #[.none, .bool false, .ref s.heap.objs.size, rawInt 0, .none, .none] }) rfl
    rwa [hz] at this
  show _ ∧ _
  rw [hz]
  exact ⟨⟨_, he, rfl⟩, h _ he ⟨o1, Heap.get?_push_of_some _ hf, by rw [← ho], by rw [← ho]; rfl⟩ fun b o x => Heap.get?_push_of_some _ (Heap.get?_push_of_some _ x)⟩
def iEnumT (K : PySem.W.Frag) (ta : TA) : TI := fun σ H R => ta σ H fun vs H1 => ∃ a ys, vs = [.ref a] ∧ SqT K H1 a ys ∧ R (ItE K a) H1
/-- for i, x in enumerate(t), t a tuple -/
theorem pi_enumT {X : Cx} {e : Expr} {ta : TA} {p pos tpos : Pos} {elts : List Expr} {kk : Nat} (hg : Gl X "enumerate") (hm : X.mg "enumerate" = none) (ha : PA X [e] ta) (hs : starEach [e] X.env = [(false, eval e X.env)] := by rfl) :
    PI X (.Tuple elts kk tpos) (.Call (.Name "enumerate" p) [e] [] pos) (iEnumT X.K ta) := by
  refine ⟨fun pins s σ H R I h => Call_ (ld_blt I hg hm boot_enumerate (PyProof.Rows.callWith_type1 (thn (ha.run pos pins s σ H _ I h) fun us s1 ⟨vs, H1, I1, r1, a, ys, ex, sq, q⟩ => ?_) hs rfl))⟩
  subst ex
  cases r1 with
  | cons r rr =>
    cases rr
    cases r
    obtain ⟨its, rv, pt, hz⟩ := I1.tuple sq
    have la : a < s1.heap.objs.size := pt.lt
    refine call_enumT (show s1.heap.IsTuple a its.toArray from pt) fun h1 q1 q2 hk => wpAny_pyIter_enum q1 ?_
    refine ⟨_, [s1.heap.objs.size + 1, s1.heap.objs.size], _, _, H1, rfl, I1.kept (t' := s1.toks) hk, turnE (Nat.ne_of_lt la) (Nat.ne_of_gt (Nat.lt_succ_of_lt la)), ⟨⟨.none, q1⟩, q2, Nat.succ_ne_self _⟩, fun b hb => ?_, q⟩
    have hle : s1.heap.objs.size ≤ b := by
      rcases List.mem_cons.mp hb with z | hb
      · rw [z]; exact Nat.le_succ _
      · rw [List.mem_singleton.mp hb]; exact Nat.le_refl _
    exact I1.fpOk hle (I1.hok.fresh hle)
theorem walkE {K : PySem.W.Frag} {a : Addr} {ys : List V} : Walk (ItE K a) ys.length (fun H => SqT K H a ys) (YPair (fun i => some (.int (i : Nat))) (fun i => ys[i]?)) :=
  ⟨fun i _ hi q => ⟨ys, ys[i], q, by simp [hi]⟩, fun _ q => ⟨ys, q, rfl⟩, fun i H v H' _ q ⟨T, y, h1, h2, h3, h4⟩ => ⟨T, _, y, h1, h2, h3, rfl, h4 ys q⟩⟩
theorem walkZ {K : PySem.W.Frag} {a b : Addr} {xs ys : List V} {n : Nat} (h1 : xs.length = n) (h2 : ys.length = n) : Walk (RZ.ItzT K a b) n (fun H => SqT K H a xs ∧ SqT K H b ys) (YPair (fun i => xs[i]?) (fun i => ys[i]?)) :=
  ⟨fun i _ hi q => ⟨xs, ys, xs[i], ys[i], q.1, q.2, by simp, by simp⟩, fun _ q => ⟨xs, ys, q.1, q.2, .inl (by omega)⟩,
    fun i H v H' _ q ⟨T, x, y, e1, e2, e3, e4, e5⟩ => ⟨T, x, y, e1, e2, e3, e4 xs q.1, e5 ys q.2⟩⟩
end KR
end

section
set_option Elab.async false
set_option linter.all false
set_option maxRecDepth 100000
set_option maxHeartbeats 4000000
/-! A walk over items() of a dict whose keys are tuples; a display of one such pair. -/
namespace KR
open PySem PySem.Spec PyProof.Rows L2
section
variable {X : Cx} {pins : List (Addr × Obj)} {σ : L2.St} {H : Hp} {s : Shared} {d : Addr} {o : Obj} {kvs : List (List L2.Key × V)}
/-- a locked dict of tuple keys: its entries, key and value -/
theorem frzT2 (I : Inv X pins σ H s) (h : H d = some (.frz o (.dT kvs))) :
    (d == sysModules) = false ∧ s.heap.get? d = some o ∧ ∃ (es : Array DictEntry) (ep : Nat), o.data = .dict es ep ∧ s.heap.DictRaw d es ep ∧ es.size = kvs.length ∧
      ∀ (i : Nat) (k : List L2.Key) (v : V) (hi : i < es.size), kvs[i]? = some (k, v) → ∃ q : Addr, es[i].key = .ref q ∧ H q = some (.tup (k.map kV)) ∧ RelV v es[i].val := by
  obtain ⟨hd, _, hs, xs, pr, o', es, ep, ho, hx, hdt, he, _⟩ := I.hok d _ h
  cases hd.symm.trans ho
  refine ⟨hs, hd, es, ep, hdt, ⟨o, hd, hx, hdt⟩, ?_, fun i k v hi e => ?_⟩
  · have l1 : es.size = xs.length := size_of_entries he
    have l2 : kvs.length = xs.length := Paired.length pr
    omega
  · obtain ⟨b, hb, e1, e2, e3⟩ := L2.paired_get pr e
    have q := entry_at he i
    rw [hb, Array.getElem?_eq_getElem hi] at q
    have q' : es[i] = entryOfKey (tupleKind (mixKind X.prog X.w)) b := Option.some.inj q
    exact ⟨b.2.1, by rw [q']; rfl, e2, by rw [q']; exact e3⟩
end
/-- the pairs, each a new tuple; the key's own tuple in it -/
def ItI (d : Addr) (o : Obj) (kvs : List (List L2.Key × V)) : It where
  go := fun i H => H d = some (.frz o (.dT kvs)) ∧ i < kvs.length
  yld := fun i H x H' => ∃ (T : Addr) (k : List L2.Key) (v : V) (q : Addr), kvs[i]? = some (k, v) ∧ x = .ref T ∧ H T = none ∧ H' = upd H T (.tup [.ref q, v]) ∧ H q = some (.tup (k.map kV))
  stop := fun i H => H d = some (.frz o (.dT kvs)) ∧ kvs.length ≤ i
theorem turnI {P : Program} {w : World} {K : PySem.W.Frag} {elts : List Expr} {kk : Nat} {tpos : Pos} {d it : Addr} {o : Obj} {kvs : List (List L2.Key × V)} {es : Array DictEntry} {ep : Nat} (hod : o.data = .dict es ep) :
    Turn P w K (.Tuple elts kk tpos) (ItI d o kvs) [it] it (fun i h => ∃ ok ov, IsItemIter h it d i es.size ep ok ov) where
  mem := List.mem_cons_self
  obj := fun i h ⟨_, _, e⟩ b hb => by rw [List.mem_singleton.mp hb]; exact ⟨_, e, fun v z => nomatch z⟩
  keep := fun i h h' ⟨ok, ov, e⟩ k => ⟨ok, ov, k it (by simp) _ e⟩
  item := by
    intro X hP hw hK hc i pins s σ H E I hf ⟨ok, ov, he⟩ ⟨hd, hi⟩
    subst hP hw hK
    obtain ⟨hs, hgd, es', ep', hdt, raw, hsz, ent⟩ := frzT2 I hd
    cases hod.symm.trans hdt
    have hi' : i < es.size := by rw [hsz]; exact hi
    obtain ⟨⟨k, v⟩, hkv⟩ : ∃ p, kvs[i]? = some p := ⟨kvs[i], List.getElem?_eq_getElem hi⟩
    obtain ⟨q, e1, e2, e3⟩ := ent i k v hi' hkv
    have hlt : it < s.heap.objs.size := Heap.lt_size he
    refine wpAny_pyNext_items_item_raw he raw hi' fun h1 ho hT hz hk => ⟨_, rfl, wpAny_letOwnedTupleGo_items (s := { s with heap := h1 }) ho fun h2 he2 sb => ?_⟩
    have hT2 : h2.get? s.heap.objs.size = some { cls := .type "tuple", data := .seq #[es[i].key, es[i].val] } := (sb.2 _ (Nat.ne_of_gt hlt)).trans hT
    have J : Inv X pins σ (upd H s.heap.objs.size (.tup [.ref q, v])) { s with heap := h2 } :=
      I.turnedNew (t' := s.toks) (ch := [it]) (fun b ob hb e => (sb.2 b (by simpa using hb)).trans (hk b ob (by simpa using hb) e)) hf (Nat.le_refl _)
        ⟨(by decide : 2 ≤ sizeLine), [es[i].key, es[i].val], .cons e1 (.cons e3 .nil), ⟨_, hT2, rfl, _, rfl⟩⟩
    refine ⟨.ref s.heap.objs.size, _, J, rfl, ⟨_, k, v, q, hkv, rfl, I.hok.fresh (Nat.le_refl _), rfl, e2⟩, ⟨_, _, he2⟩, fun b hb => ?_⟩
    rw [List.mem_singleton.mp hb, upd_ne (Nat.ne_of_lt hlt)]
    exact (hf it (by simp)).1
  done := by
    intro X hP hw hK hc i pins s σ H E I hf ⟨ok, ov, he⟩ ⟨hd, hi⟩
    subst hP hw hK
    obtain ⟨f0, f1, f2, f3, f4, f5⟩ := hf it (by simp)
    obtain ⟨hs, hgd, es', ep', hdt, raw, hsz, _⟩ := frzT2 I hd
    cases hod.symm.trans hdt
    exact wpAny_pyNext_items_end_raw (I.ok.hd hc) he raw (by rw [hsz]; exact hi) fun h1 eb => ⟨rfl, I.turned (t' := s.toks) (fun b ob hb e => eb b ob hb e) f0 f1 f3 f4 f5⟩
  self := fun A i s Q E ⟨_, _, e⟩ h => wpAny_pyIter_itemiter e h
def iItemsT (td : TE) : TI := fun σ H R => td σ H fun x H1 => ∃ d o kvs, x = .ref d ∧ H1 d = some (.frz o (.dT kvs)) ∧ R (ItI d o kvs) H1
theorem pi_itemsT {X : Cx} {e : Expr} {td : TE} {apos cpos tpos : Pos} {elts : List Expr} {kk : Nat} (he : PE X e td) (hbase : attributeBase e "items" X.env (eval e X.env) = eval e X.env := by rfl) (hline : (apos.endLine == cpos.line) = true := by rfl) :
    PI X (.Tuple elts kk tpos) (.Call (.Attribute e "items" apos) [] [] cpos) (iItemsT td) := by
  refine ⟨fun pins s σ H R I h => wpAny_Call_method (T := "dict") (id := "dict.items") hbase rfl hline F.plainAttrs_dict F.slot_dict_items F.type_dict_items (thn (he.run pins s σ H _ I h) fun u s1 ⟨x, H1, I1, rx, d, o, kvs, ex, hd, q⟩ => ?_)⟩
  subst ex
  obtain rfl : u = Value.ref d := rx
  obtain ⟨hs, hgd, es, ep, hdt, raw, hsz, _⟩ := frzT2 I1 hd
  have ty := raw.typeIs
  refine ⟨ty, ?_, ?_⟩
  · intro a ea
    cases ea
    obtain ⟨od, q1, q2, _⟩ := raw
    exact ⟨od, q1, q2.2.1⟩
  have I2 : Inv X pins σ H1 { s1 with heap := s1.heap.push { cls := .type "dict_items", data := .fields #[.ref d] } } := I1.kept (t' := s1.toks) fun b ob q => Heap.get?_push_of_some _ q
  have fin : wpAny (model X.prog X.w) X.A (pyIter (.ref s1.heap.objs.size)) (PIE X pins σ (.Tuple elts kk tpos) R) X.xe { s1 with heap := s1.heap.push { cls := .type "dict_items", data := .fields #[.ref d] } } := by
    refine wpAny_pyIter_items_raw (d := d) ⟨_, Heap.get?_push_size _ rfl, rfl, rfl⟩ (raw.at fun o e => Heap.get?_push_of_some _ e) (pi_one (tk := s1.toks) I2 _ (turnI hdt) ⟨.none, .none, Heap.get?_push_size _ rfl⟩ q)
  show wpAny _ _ (callWith cpos (.builtin "dict.items") [.ref d] [] []) _ X.xe s1
  exact method_meetsIn F.slot_dict_items F.entry_dict_items rfl (PySem.evalArgs_none ⟨rfl, ty, F.args_dict_items_1 _, _, meets_dict_items_raw d hs, ⟨es, ep, raw⟩, fin⟩)
theorem walkI {d : Addr} {o : Obj} {kvs : List (List L2.Key × V)} : Walk (ItI d o kvs) kvs.length (fun H => H d = some (.frz o (.dT kvs)))
    (fun i H x H' => ∃ (T : Addr) (k : List L2.Key) (v : V) (q : Addr), kvs[i]? = some (k, v) ∧ x = .ref T ∧ H T = none ∧ H' = upd H T (.tup [.ref q, v]) ∧ H q = some (.tup (k.map kV))) :=
  ⟨fun _ _ hi q => ⟨q, hi⟩, fun _ q => ⟨q, Nat.le_refl _⟩, fun _ _ _ _ _ _ y => y⟩

/-! ### {t: v}, t a tuple -/
def tDisp1 (tk tv : TE) : TE := fun σ H Q => ∀ p, H p = none → tk σ (upd H p (.dT [])) fun x H1 => tv σ H1 fun y H2 => ∃ (k : List L2.Key) (b : Addr), x = .ref b ∧ H2 p = some (.dT []) ∧ H2 b = some (.tup (k.map kV)) ∧ Q (.ref p) (upd H2 p (.dT [(k, y)]))
theorem pe_disp1 {X : Cx} {pos : Pos} {k v : Expr} {tk tv : TE} (hu : X.A.units + 1 < cLine) (hk : PE X k tk) (hv : PE X v tv) : PE X (.Dict [some k] [v] pos) (tDisp1 tk tv) := by
  refine ⟨fun pins s σ H Q I h => ?_⟩
  have hn := I.hok.fresh (Nat.le_refl s.heap.objs.size)
  have I1 := I.laid (a := s.heap.objs.size) (o := .dT []) (h' := s.heap.push { cls := .type "dict", data := .dict #[] }) (t' := s.toks) (fun _ _ q => Heap.get?_push_of_some _ q) (Nat.le_refl _) (dt_empty s.heap I.big)
  have pp : PPs X pos [some k] [v] [(tk, tv)] := pps_cons hk hv pps_nil
  refine wpAny_Dict_any rfl rfl (List.cons_ne_nil _ _) (by simp) (thn (pp.run pins _ σ _ (fun ps H2 => match ps with
    | [(x, y)] => ∃ (k : List L2.Key) (b : Addr), x = .ref b ∧ H2 s.heap.objs.size = some (.dT []) ∧ H2 b = some (.tup (k.map kV)) ∧ Q (.ref s.heap.objs.size) (upd H2 s.heap.objs.size (.dT [(k, y)]))
    | _ => False) I1 (h _ hn)) fun ws s2 ⟨ps, H2, I2, rel, q⟩ => ?_)
  match ps, q with
  | [(x, y)], ⟨k', b, ex, e1, e2, q⟩ =>
    subst ex
    cases rel with
    | @cons _ c _ _ r rr =>
      cases rr
      obtain ⟨u, v'⟩ := c
      obtain ⟨r1, r2⟩ := r
      obtain rfl : u = Value.ref b := r1
      obtain ⟨z, hd, xs, kt, dd⟩ := dt_of I2.hok e1
      cases kt
      refine wpAny_storeAllH (knd := tupleKind (mixKind X.prog X.w)) (Nat.lt_of_succ_lt hu) [(Value.ref b, v')] [(k', b, v')] [] s2 _ ⟨rfl, rfl, key_of I2.hok e2, trivial⟩ dd (by simp [sizeLine_eq]) fun h1 tk1 dd1 hs1 => ?_
      obtain ⟨o1, es, ep, a1, a2, a3, a4, _, a6⟩ := dd1
      have eb : upd H2 s.heap.objs.size (.dT [(k', y)]) b = some (.tup (k'.map kV)) := by
        rw [upd_ne (ne_of e2 e1 (fun z => nomatch z))]
        exact e2
      have new : ObjOk X.prog X.w (upd H2 s.heap.objs.size (.dT [(k', y)])) h1 s.heap.objs.size (.dT [(k', y)]) :=
        ⟨by simp [sizeLine_eq], hd, [(k', b, v')], .cons ⟨rfl, eb, r2⟩ .nil, o1, es, ep, a1, a2, a3, a4, a6⟩
      exact ⟨.ref s.heap.objs.size, _, d_write I2 (by rw [e1]; exact True.intro) hs1 ⟨o1, a1⟩ new, rfl, q⟩
end KR
end

section
set_option Elab.async false
set_option linter.all false
set_option maxRecDepth 100000
set_option maxHeartbeats 4000000
/-! d != {}; len(o) by an own __len__; < and sorted of data. -/
namespace KR
open PySem PySem.Spec PyProof.Rows L2
open PySem.W (alike alikeAll dataLt dataLe AllAlike Sortable EachIs)
section
variable {prog : Program} {w : World} {A : Around} {E : Value → Shared → Prop} {s : Shared}
theorem same_empty {nm : String} {a b : Addr} {es es' : Array DictEntry} {ep ep' : Nat} {Q : Bool → Shared → Prop} (ha : (a == sysModules) = false) (hb : (b == sysModules) = false)
    (da : s.heap.DictRaw a es ep) (db : s.heap.DictRaw b es' ep') (h0 : es'.size = 0) (h : Q (es.size == 0) s) : wpAny (model prog w) A (Builtin.Dict.samePairs nm a b) Q E s := by
  obtain ⟨oa, hoa, _, hda⟩ := da
  obtain ⟨ob, hob, _, hdb⟩ := db
  unfold Builtin.Dict.samePairs Builtin.Dict.showsAll
  rw [if_neg (by rw [ha]; decide), if_neg (by rw [hb]; decide)]
  refine wpAny_bind (wpAny_pure (wpAny_bind (wpAny_pure (wpAny_bind (wpAny_dictEntries hoa hda ?_)))))
  dsimp only
  refine wpAny_bind (wpAny_dictEntries hob hdb ?_)
  by_cases hs : es.size = 0
  · have e1 : (es.size != es'.size) = false := by simp [hs, h0]
    rw [e1, if_neg (by decide)]
    refine wpAny_bind (wpAny_dictEpoch hoa hda ?_)
    rw [hs] at h ⊢
    rw [Std.Legacy.Range.forIn_eq_forIn_range']
    simp only [Std.Legacy.Range.size, Nat.sub_zero, Nat.add_sub_cancel, Nat.div_one]
    refine wpAny_bind ?_
    show wpAny _ _ (forIn ([] : List Nat) _ _) _ _ _
    rw [List.forIn_nil]
    exact wpAny_pure (wpAny_pure h)
  · have e1 : (es.size != es'.size) = true := by simp [hs, h0]
    have e2 : (es.size == 0) = false := by simp [hs]
    rw [e2] at h
    rw [e1, if_pos rfl]
    exact wpAny_bind (wpAny_rule (wpAny_pure h))
theorem ne_empty {a b : Addr} {es es' : Array DictEntry} {ep ep' : Nat} {Q : Value → Shared → Prop} (ha : (a == sysModules) = false) (hb : (b == sysModules) = false)
    (da : s.heap.DictRaw a es ep) (db : s.heap.DictRaw b es' ep') (h0 : es'.size = 0) (hu : A.units < cLine) (h : Q (.bool (!(es.size == 0))) s) : wpAny (model prog w) A (compareOp .NotEq (.ref a) (.ref b)) Q E s := by
  refine wpAny_richCompare_same_room (op := .NotEq) da.typeIs db.typeIs PySem.F.slot_dict_ne (wpAny_call_entry PySem.F.slot_dict_ne da.typeIs PySem.F.entry_dict_ne ?_ (PySem.F.args_dict_ne_2 _ _)) hu
  show wpAny _ _ (Builtin.Dict.dictSlotArgs "__ne__" ⟨[.ref a, .ref b], []⟩ >>= _) _ _ s
  unfold Builtin.Dict.dictSlotArgs
  refine wpAny_bind (wpAny_bind (wpAny_notOrdered_dict da.typeIs ?_))
  refine wpAny_pure (wpAny_bind (wpAny_isInstance (T := "dict") db.typeIs PySem.F.sub_dict_dict ?_))
  simp only [Bool.not_true, Bool.false_eq_true, if_false]
  refine wpAny_bind (wpAny_pure (wpAny_bind (wpAny_pure (wpAny_bind (same_empty ha hb da db h0 ?_)))))
  exact wpAny_pure ⟨_, rfl, (fun x => nomatch x), by simpa using h⟩
end
section
variable {X : Cx}
/-- d != {}, d of tuple keys -/
def rNeE : R2 := fun x y H Q => ∃ a b kvs, x = .ref a ∧ y = .ref b ∧ H a = some (.dT kvs) ∧ H b = some (.dT []) ∧ Q (.bl (!kvs.isEmpty)) H
theorem op_neE (hu : X.A.units < cLine) : OpR X (compareOp .NotEq) rNeE := by
  intro pins s σ H x y v u Q I rx ry ⟨a, b, kvs, ex, ey, ea, eb, q⟩
  subst ex ey
  obtain rfl : v = Value.ref a := rx
  obtain rfl : u = Value.ref b := ry
  obtain ⟨_, ya, va, ra, da⟩ := dt_of I.hok ea
  obtain ⟨_, yb, vb, rb, db⟩ := dt_of I.hok eb
  obtain ⟨es, ep, w1, w2, _⟩ := da.raw
  obtain ⟨es', ep', w1', w2', _⟩ := db.raw
  have l1 : kvs.length = va.length := Paired.length ra
  have l2 : ([] : List (List L2.Key × V)).length = vb.length := Paired.length rb
  refine ne_empty ya yb w1 w1' (by rw [w2', ← l2]; rfl) hu (fin_bl I q ?_)
  have e : es.size = kvs.length := by omega
  rw [e]
  cases kvs <;> simp

/-- len(o) by the class's own __len__ -/
def rLenO (C : Addr) (sp : Sp) : List V → Hp → VK → Prop := fun xs H Q => ∃ a dx fs, xs = [.ref a] ∧ H a = some (.ins C dx fs) ∧ sp [.ref a] H (fun v H' => ∃ n : Int, v = .int n ∧ (0 ≤ n ∧ n < 2 ^ 63) ∧ Q (.int n) H') E0
theorem call_lenO {C f : Addr} {fd : FuncData} {k : Nat} {sp : Sp} (M : Meth X.K C "__len__" f) (F : FnOk X.prog X.w X.K X.mg X.base CX0 k f fd ["self"] sp) (hr : Room (k + 1) X.A) (hb : Binds X.K fd ["self"] []) : CallR X (.builtin "len") (rLenO C sp) := by
  intro pins s σ H xs us Q I r ⟨a, dx, fs, ex, ea, q⟩
  subst ex
  cases r with
  | cons r0 rr =>
    cases rr
    cases r0
    obtain ⟨mA, O, _⟩ := ins_get I.hok ea
    obtain ⟨od, J, _⟩ := O.look
    obtain ⟨m, Fr0⟩ := I.fr
    refine PySem.W.len_K Fr0 I.mod.kin J M.at_ M.fn ?_
    refine wpAny_call (codeAny_mono (F.run X.A.in1 X.stack s H ⟨[.ref a], []⟩ [.ref a] [.ref a] _ E0 hr.in1 I.env0.in1 (hb s [.ref a] I.kIn rfl) (.cons rfl .nil) q) fun r s' hq => ?_)
    cases r with
    | error er => exact False.elim hq
    | ok fl =>
      cases fl with
      | ret u =>
        obtain ⟨v, H', I3, rv, n, ev, hn, q3⟩ := I.after hq
        subst ev
        obtain ⟨t, rfl⟩ := rv
        exact ⟨hn, .int n, H', I3.tok _, ⟨_, rfl⟩, q3⟩
      | next => exact False.elim hq
      | brk => exact False.elim hq
      | cont => exact False.elim hq

/-- a < b of data of one form -/
def rLtD (K : PySem.W.Frag) : R2 := fun x y H Q => ∃ d e, Dp K H x d ∧ Dp K H y e ∧ alike d e = true ∧ d ≠ .none ∧ d.depth ≤ 60 ∧ Q (.bl (dataLt d e)) H
theorem op_ltD (hu : X.A.units + 64 < cLine) : OpR X (compareOp .Lt) (rLtD X.K) := by
  intro pins s σ H x y v u Q I rx ry ⟨d, e, hd, he, al, nn, dp, q⟩
  obtain ⟨as, r1⟩ := Dp.reads I d x v hd rx
  obtain ⟨bs, r2⟩ := Dp.reads I e y u he ry
  exact PySem.W.rcLt_alike d e X.A s v u as bs r1 r2 al nn (by omega) _ _ _ _ (fin_bl I q rfl)

/-! ### sorted of data -/
theorem dp_len {K : PySem.W.Frag} {H : Hp} : ∀ {xs : List V} {ds : List PyData}, DpAll K H xs ds → xs.length = ds.length
  | _, _, .nil => rfl
  | _, _, .cons _ t => congrArg (· + 1) (dp_len t)
abbrev sortP (bs : List (V × PyData)) : List (V × PyData) := bs.mergeSort (dataLe false fun b => b.2)
def rSortD (K : PySem.W.Frag) : List V → Hp → VK → Prop := fun vs H Q => ∃ (a : Addr) (bs : List (V × PyData)), vs = [.ref a] ∧ SqL K H a (bs.map (·.1)) ∧ DpAll K H (bs.map (·.1)) (bs.map (·.2)) ∧ AllAlike (bs.map (·.2)) ∧
  Sortable (bs.map (·.2)) ∧ (∀ b ∈ bs, b.2.depth ≤ 60) ∧ bs.length ≤ sizeLine ∧ ∀ p, H p = none → Q (.ref p) (upd H p (.lst ((sortP bs).map (·.1))))
theorem each_of {R : V → Value → Prop} : ∀ {bs : List (V × PyData)} {its : List Value}, Paired R (bs.map (·.1)) its → EachIs (fun v b => R b.1 v) its bs
  | [], _, r => by cases r; exact .nil
  | b :: bs, _, r => by
    rw [List.map_cons] at r
    cases r with
    | cons r t => exact .cons r (each_of t)
theorem each_back : ∀ {bs : List (V × PyData)} {its : List Value}, EachIs (fun v b => RelV b.1 v) its bs → Vals (bs.map (·.1)) its
  | [], _, r => by cases r; exact .nil
  | b :: bs, _, r => by
    cases r with
    | cons r t => exact .cons r (each_back t)
theorem each_reads {pins : List (Addr × Obj)} {σ : L2.St} {H : Hp} {s : Shared} (I : L2.Inv X pins σ H s) : ∀ {bs : List (V × PyData)} {its : List Value}, Vals (bs.map (·.1)) its → DpAll X.K H (bs.map (·.1)) (bs.map (·.2)) → EachIs (fun v b => ∃ as, Reads s.heap v b.2 as) its bs
  | [], _, r, _ => by cases r; exact .nil
  | b :: bs, _, r, d => by
    rw [List.map_cons] at r
    rw [List.map_cons, List.map_cons] at d
    cases r with
    | cons r t =>
      cases d with
      | cons d dd => exact .cons (Dp.reads I _ _ _ d r) (each_reads I t dd)
theorem cr_sortD (hu : X.A.units + 70 < cLine) : CallR X (.builtin "sorted") (rSortD X.K) := by
  intro pins s σ H vs us Q I r ⟨a, bs, ev, hs, hd, al, so, dp, hl, q⟩
  subst ev
  obtain ⟨its, rv, p, hz⟩ := I.list hs
  rw [Vals.ref1 r]
  refine PySem.W.sorted_data (enc := fun b : V × PyData => b.2) p.isList (each_of rv) (each_reads I rv hd) al so hl (fun b hb => by have := dp b hb; omega) fun out ho eo => ?_
  obtain ⟨ep, he'⟩ := PyProof.Rows.sortedAll_at s.heap its out.toArray
  have r2 := each_back eo
  have hlen : ((sortP bs).map (·.1)).length ≤ sizeLine := by
    rw [List.length_map, List.length_mergeSort]; exact hl
  exact ⟨.ref _, _, I.laid (o := .lst ((sortP bs).map (·.1))) (t' := s.toks) (fun _ _ => PyProof.Rows.sortedAll_old) (Nat.le_succ _) ⟨hlen, out, ep, r2, he'⟩, rfl, q _ (I.hok.fresh (Nat.le_succ _))⟩
end
end KR
end

section
set_option Elab.async false
set_option linter.all false
set_option maxRecDepth 100000
set_option maxHeartbeats 4000000
/-! sorted(d.values(), key=f), d of tuple keys, f a def that keeps all that is there. -/
namespace KR
open PySem PySem.Spec PyProof.Rows L2
open PySem.W (alike alikeAll dataLt dataLe AllAlike Sortable EachIs KeyPure KeepsBut KdlSrc)
/-- the view d.values() at p -/
def valuesO (p d : Addr) : HO := .ext fun h => h.IsValuesView p d
section
variable {X : Cx}
def rValuesT : V → List V → Hp → VK → Prop := fun x xs H Q => ∃ (a : Addr) (kvs : List (List L2.Key × V)), x = .ref a ∧ xs = [] ∧ H a = some (.dT kvs) ∧ ∀ p, H p = none → Q (.ref p) (upd H p (valuesO p a))
theorem mt_valuesT : MtR X "dict.values" rValuesT := by
  intro pins s σ H x xs v us Q I rx rxs ⟨a, kvs, ex, exs, ha, q⟩
  subst ex exs
  cases rx
  cases rxs
  obtain ⟨z, hd, ys, rel, dd⟩ := dt_of I.hok ha
  obtain ⟨es, ep, raw, _, _⟩ := dd.raw
  refine call_meetsIn F.slot_dict_values raw.typeIs F.entry_dict_values (F.args_dict_values_1 _) (meets_dict_values_raw a hd) ⟨⟨es, ep, raw⟩, ?_⟩
  have hf : H s.heap.objs.size = none := I.hok.fresh (Nat.le_refl _)
  have e : (s.heap.push { cls := .type "dict_values", data := .fields #[.ref a] }).get? s.heap.objs.size = some { cls := .type "dict_values", data := .fields #[.ref a] } := Heap.get?_push_size _ rfl
  have ok : ObjOk X.prog X.w (upd H s.heap.objs.size (valuesO s.heap.objs.size a)) (s.heap.push { cls := .type "dict_values", data := .fields #[.ref a] }) s.heap.objs.size (valuesO s.heap.objs.size a) :=
    ⟨⟨_, e, rfl, rfl⟩, ⟨_, e⟩, fun h1 h2 ⟨o, ho, r⟩ k => ⟨o, k o ho, r⟩⟩
  exact ⟨.ref s.heap.objs.size, _, I.laid (t' := s.toks) (fun b u e => Heap.get?_push_of_some _ e) (Nat.le_refl _) ok, rfl, q _ hf⟩

/-- the call f(x) keeps all that is there and gives the key d where Pre says so -/
def KeyFn (X : Cx) (f : Addr) (Pre : Hp → V → PyData → Prop) : Prop := ∀ (pins : List (Addr × Obj)) (s : Shared) (σ : L2.St) (H : Hp) (x : V) (v : Value) (d : PyData), L2.Inv X pins σ H s → RelV x v → Pre H x d →
  wpAny (model X.prog X.w) X.A.in1.in1 (call (.ref f) [v]) (KeyPure d s) (fun _ _ => False) s
def rSortVK (f : Addr) (Pre : Hp → V → PyData → Prop) : List V → List V → Hp → VK → Prop := fun vs zs H Q => ∃ (p a : Addr) (kvs : List (List L2.Key × V)) (bs : List (V × PyData)), vs = [.ref p] ∧ zs = [.ref f] ∧ H p = some (valuesO p a) ∧ H a = some (.dT kvs) ∧
  bs.map (·.1) = kvs.map (·.2) ∧ (∀ b ∈ bs, Pre H b.1 b.2) ∧ AllAlike (bs.map (·.2)) ∧ Sortable (bs.map (·.2)) ∧ (∀ b ∈ bs, b.2.depth ≤ 60) ∧ ∀ l, H l = none → Q (.ref l) (upd H l (.lst ((sortP bs).map (·.1))))
theorem each_of_at {R : Value → V × PyData → Prop} : ∀ {vs : List Value} {bs : List (V × PyData)}, vs.length = bs.length → (∀ (i : Nat) (v : Value) (b : V × PyData), vs[i]? = some v → bs[i]? = some b → R v b) → EachIs R vs bs
  | [], [], _, _ => .nil
  | [], _ :: _, h, _ => by simp at h
  | _ :: _, [], h, _ => by simp at h
  | v :: vs, b :: bs, h, k => .cons (k 0 v b rfl rfl) (each_of_at (by simpa using h) fun i v b e1 e2 => k (i + 1) v b (by simpa using e1) (by simpa using e2))
theorem cr_sortedVK {f : Addr} {Pre : Hp → V → PyData → Prop} (hu : X.A.units + 70 < cLine) (hc : X.calm = true) (KF : KeyFn X f Pre) : CallRK X (.builtin "sorted") [Str.ofString "key"] (rSortVK f Pre) := by
  intro pins s σ H vs zs us ws Q I r rz ⟨p, a, kvs, bs, ev, ez, hp, ha, hm, pre, al, so, dp, q⟩
  subst ev ez
  obtain rfl := Vals.ref1 r
  obtain rfl := Vals.ref1 rz
  have view : s.heap.IsValuesView p a := (show ObjOk X.prog X.w H s.heap p (valuesO p a) from I.hok p _ hp).1
  obtain ⟨z, hd, xs, rel, dd⟩ := dt_of I.hok ha
  obtain ⟨es, ep, raw, hsz, ent⟩ := dd.raw
  have l1 : kvs.length = xs.length := Paired.length rel
  have hbl : bs.length = es.size := by
    have := congrArg List.length hm
    rw [List.length_map, List.length_map] at this
    omega
  have hN : es.size ≤ sizeLine := by rw [hsz, ← l1]; exact z
  have hh : X.A.handled = none := I.ok.hd hc
  refine PyProof.Rows.call_function_entry_kw PyProof.Rows.kind_sorted PyProof.Rows.plain_sorted PyProof.Rows.entry_sorted (PyProof.Rows.ksk_s1 _ _) ?_
  unfold Builtin.«sorted»
  refine wpAny_bind (m := checkCount "sorted" 1 1 _) (wpAny_pure ?_)
  refine wpAny_bind (PySem.W.kdu_collect (A := X.A.in1) (KdlSrc.rawValues (r := p) (d := a) (es := es) (ep := ep)) hh ⟨view, raw⟩ hN fun h1 tk1 acc k1 hacc => ?_)
  -- the values as they were collected
  have e0 : EachIs (fun v b => RelV b.1 v ∧ b ∈ bs) acc.toList bs := by
    refine each_of_at (by rw [Array.length_toList, hacc.1, hbl]) fun i v b e1 e2 => ⟨?_, List.mem_of_getElem? e2⟩
    obtain ⟨hi, ev⟩ := hacc.2 i v (by rw [← Array.getElem?_toList]; exact e1)
    obtain ⟨y, hy, _, hval, _⟩ := ent i hi
    have e3 : (bs.map (·.1))[i]? = some b.1 := by rw [List.getElem?_map, e2]; rfl
    rw [hm, List.getElem?_map] at e3
    cases q2 : kvs[i]? with
    | none => rw [q2] at e3; cases e3
    | some kv =>
      rw [q2] at e3
      have e4 : kv.2 = b.1 := Option.some.inj e3
      obtain ⟨y', hy', _, _, rv⟩ := L2.paired_get rel q2
      rw [hy] at hy'
      cases hy'
      rw [ev, hval, ← e4]
      exact rv
  have hal : acc.toList.length = bs.length := e0.length
  refine wpAny_bind (wpAny_newList ?_ (by rw [hal, hbl]; exact hN))
  have hS : (h1.push (seqObj "list" acc.toList.toArray 0)).get? h1.objs.size = some (seqObj "list" acc.toList.toArray 0) := Heap.get?_push_size _ rfl
  refine wpAny_bind (wpAny_holding (PyProof.Rows.wpAny_call_entry_kw PyProof.Rows.slot_list_sort ⟨_, hS, rfl⟩ PyProof.Rows.entry_list_sort ?_ (PyProof.Rows.ksk_l1 _ _)))
  show wpAny (model X.prog X.w) X.A.in1.in1 (Builtin.«list.sort» ⟨[.ref h1.objs.size], [(Str.ofString "key", .ref f)]⟩) _ _ { s with heap := h1.push (seqObj "list" acc.toList.toArray 0), toks := tk1 }
  rw [PyProof.Rows.ksk_t1]
  have up : ∀ {g : Heap}, KeepsBut h1.objs.size (h1.push (seqObj "list" acc.toList.toArray 0)) g → ∀ b o, s.heap.get? b = some o → g.get? b = some o := fun {g} kp b o e =>
    kp b o (Nat.ne_of_lt (Heap.lt_size (k1 b o e))) (Heap.get?_push_of_some _ (k1 b o e))
  refine PySem.W.keyH_tree (A := X.A.in1.in1) (kz := bs.map (·.2)) (vs := acc.toList) (s := { s with heap := h1.push (seqObj "list" acc.toList.toArray 0), toks := tk1 }) hS (by rw [List.length_map, hal]) (by rw [hal, hbl]; exact hN) al so
    (fun d hd => by
      obtain ⟨b, hb, rfl⟩ := List.mem_map.mp hd
      have := dp b hb
      show X.A.units + 2 + _ < _
      omega)
    (PySem.W.keyH_turns (k := fun b : V × PyData => b.2) e0 fun v b hR _ h tk kp => KF pins _ σ H b.1 v b.2 (I.kept (t' := tk) (up kp)) hR.1 (pre b hR.2)) fun h' tk out c kp hD ko => ?_
  have eo := PySem.W.keyedOut_each (fun b : V × PyData => b.2) ko (e0.mono fun _ _ x => x.1)
  have r2 := each_back eo
  have hlen : ((sortP bs).map (·.1)).length ≤ sizeLine := by
    rw [List.length_map, List.length_mergeSort, hbl]; exact hN
  refine ⟨.none, rfl, wpAny_pure ⟨_, rfl, ?_⟩⟩
  have I1 : L2.Inv X pins σ H { s with heap := h1, toks := tk1 } := I.kept k1
  have up1 : ∀ b o, h1.get? b = some o → h'.get? b = some o := fun b o e => kp b o (Nat.ne_of_lt (Heap.lt_size e)) (Heap.get?_push_of_some _ e)
  exact ⟨.ref h1.objs.size, _, I1.laid (o := .lst ((sortP bs).map (·.1))) (t' := tk) up1 (Nat.le_refl _) ⟨hlen, out, c, r2, hD⟩, rfl, q _ (I1.hok.fresh (Nat.le_refl _))⟩
end
end KR
end

section
set_option Elab.async false
set_option linter.all false
set_option maxRecDepth 100000
set_option maxHeartbeats 4000000
/-! ranked(told): the key of a pair (doubted, play), nothing else changed. -/
namespace KX
open PySem PySem.Spec PyProof.Rows L2 KR
open PySem.W (KeyPure)
/-- what orders a pair -/
def rankD (ws ps : List Int) : PyData := .tuple [.int ws.length, .tuple (ws.map .int), .tuple (ps.map .int)]
/-- at x a pair of a tuple ws and a tuple ps -/
def PairAt (H : Hp) (x : V) (ws ps : List Int) : Prop := ∃ t a b, x = .ref t ∧ H t = some (.tup [.ref a, .ref b]) ∧ H a = some (.tup (ws.map V.int)) ∧ H b = some (.tup (ps.map V.int))
def RankPre (H : Hp) (x : V) (d : PyData) : Prop := ∃ ws ps, PairAt H x ws ps ∧ d = rankD ws ps
theorem readsAll_ints {h : Heap} : ∀ {ns : List Int} {us : List Value}, Vals (ns.map V.int) us → ReadsAll h us (ns.map .int) []
  | [], _, r => by cases r; exact .nil
  | n :: ns, _, r => by
    rw [List.map_cons] at r
    cases r with
    | cons r t =>
      obtain ⟨tk, rfl⟩ := r
      exact .cons (Reads.int n tk) (readsAll_ints t)
theorem readsTup {h : Heap} {t : Addr} {its : List Value} {ds : List PyData} (p : IsTup h t its.toArray) (r : ReadsAll h its ds []) : Reads h (.ref t) (.tuple ds) [] := by
  obtain ⟨o, h1, h2, n, h3⟩ := p
  exact .tuple h1 h2 h3 (by simpa using r)
theorem sc_ranked : FnScope ["told"] ["told"] (defScope s_ranked) := ⟨rfl, rfl, rfl, by decide +kernel, rfl, by decide +kernel, by decide +kernel⟩
theorem key_ranked {X : Cx} {f : Addr} {fd : FuncData} (F : Fun X.K "ranked" "ranked" s_ranked f fd) (hb : Binds X.K fd ["told"] []) (hr : Room 3 X.A) (hl : X.mg "len" = none) : KeyFn X f RankPre := by
  intro pins s σ H x v d I rx ⟨ws, ps, ⟨t, a, b, ex, ht, ha, hb'⟩, ed⟩
  subst ex ed
  obtain rfl : v = Value.ref t := rx
  obtain ⟨oc, od, kV, doc, pm, an, cdv, ct, osl, rfl, lk, hcd⟩ := F.ex
  have S := sc_ranked
  have lim : s.heap.NoLimit := I.nolimit
  have hr1 : Room 1 X.A.in1.in1 := hr.in1.in1
  have e0 : Env0 X.prog X.w X.K X.mg X.base X.A.in1.in1 X.stack s H := I.env0.in1.in1
  have hkind : ∀ y ∈ (["told"] : List Str).zip [Value.ref t], (defScope s_ranked).names.lookup y.1 = some .local ∨ ((defScope s_ranked).names.lookup y.1 = some .cell ∧ ((cellsFrom (s.heap.objs.size + 1) (defScope s_ranked).names []).lookup y.1).isSome = true) := fun y hy => by
    rcases S.par y.1 (List.of_mem_zip hy).1 with q | q
    · exact .inl q
    · exact .inr ⟨q, PySem.W.cellsFrom_some _ _ _ (.inl q)⟩
  refine wpAny_call (codeAny_call_function hr1.depth (I.kIn _ _ lk) rfl S.co S.gen rfl (PySem.W.codeRec_of I.kIn hcd) (hb s [.ref t] I.kIn rfl _ _ _ _ ?_))
  refine wpAny_newFunctionEnv_cells S.kind hkind fun env he s1 xc => ?_
  subst he
  refine ⟨lim.keeps xc.toInCall.keep, codeAny_func ?_⟩
  have kp : ∀ b o, s.heap.get? b = some o → s1.heap.get? b = some o := xc.toInCall.keep
  have J : L2.Inv (cxOf CX0 X.prog X.w X.K X.mg X.base ["told"] "ranked" (defScope s_ranked) f cdv X.A.in1.in1 X.stack s H E0) [] (L2.start ["told"] [.ref t]) H s1 :=
    inv_start S hr1.hd e0 rfl (.cons rfl .nil) xc
  obtain ⟨h1, tk1, rfl, hk1⟩ := xc.done
  generalize hs1 : ({ s with heap := h1, toks := tk1 } : Shared) = s1 at *
  -- the three tuples as they stand in s1
  obtain ⟨its, rt, pt, _⟩ := J.tuple (show SqT X.K H t [.ref a, .ref b] from .inl (.inl ht))
  obtain ⟨ia, ra, pa, za⟩ := J.tuple (show SqT X.K H a (ws.map V.int) from .inl (.inl ha))
  obtain ⟨ib, rb, pb, zb⟩ := J.tuple (show SqT X.K H b (ps.map V.int) from .inl (.inl hb'))
  cases rt with
  | cons q1 rt =>
    cases rt with
    | cons q2 rt =>
      cases rt
      cases q1
      cases q2
      obtain ⟨m, hn, hlk⟩ := J.loc
      obtain ⟨u0, ru0, look⟩ := hlk 0 "told" (.ref t) rfl rfl (.inl rfl)
      cases ru0
      have hk0 : (envOfC "ranked" (defScope s_ranked) s.heap.objs.size f cdv).kindOf "told" = some .local := rfl
      have hm0 : m "told" = some (.ref t) := by
        rcases look with ⟨_, q⟩ | ⟨q, _⟩
        · exact q
        · rcases q with q | q
          · exact absurd (hk0.symm.trans q) (by decide)
          · exact absurd (hk0.symm.trans q) (by decide)
      have hpt : ∀ n : Nat, IsTup ({ s1 with toks := n } : Shared).heap t [Value.ref a, Value.ref b].toArray := fun _ => pt
      -- told[0], told[1]
      have at0 : ∀ {Q E : Value → Shared → Prop} {p1 p2 p3 : Pos} {j n : Nat}, Q (.ref a) { s1 with toks := n + 1 } → wpAny (model X.prog X.w) (X.A.in1.in1.deeper (envOfC "ranked" (defScope s_ranked) s.heap.objs.size f cdv)) (eval (.Subscript (.Name "told" p1) (.Constant (.int 0) j p2) p3) (envOfC "ranked" (defScope s_ranked) s.heap.objs.size f cdv)) Q E { s1 with toks := n } := fun {Q E p1 p2 p3 j n} q =>
        Subscript_ (wpAny_Name (wpAny_loadName_local rfl hk0 hn hm0 (wpAny_Constant_int (subscriptTail_builtinR (x := .ref a) (hpt _).typeIs slot_tuple_getitem.lookup
          (getItem_tuple (j := 0) (Q := fun r s' => r = .ref a ∧ Q r s') (hpt _) (by decide) (by decide) rfl rfl ⟨rfl, q⟩) rfl))) (by decide))
      have at1 : ∀ {Q E : Value → Shared → Prop} {p1 p2 p3 : Pos} {j n : Nat}, Q (.ref b) { s1 with toks := n + 1 } → wpAny (model X.prog X.w) (X.A.in1.in1.deeper (envOfC "ranked" (defScope s_ranked) s.heap.objs.size f cdv)) (eval (.Subscript (.Name "told" p1) (.Constant (.int 1) j p2) p3) (envOfC "ranked" (defScope s_ranked) s.heap.objs.size f cdv)) Q E { s1 with toks := n } := fun {Q E p1 p2 p3 j n} q =>
        Subscript_ (wpAny_Name (wpAny_loadName_local rfl hk0 hn hm0 (wpAny_Constant_int (subscriptTail_builtinR (x := .ref b) (hpt _).typeIs slot_tuple_getitem.lookup
          (getItem_tuple (j := 1) (Q := fun r s' => r = .ref b ∧ Q r s') (hpt _) (by decide) (by decide) rfl rfl ⟨rfl, q⟩) rfl))) (by decide))
      have hfit : (ia.toArray.size : Int) < 2 ^ 63 := by
        have := ra.length
        have h63 := line63
        rw [List.size_toArray, ← this]
        omega
      have hia : ia.length = ws.length := by rw [← ra.length, List.length_map]
      refine wpAny_execs_cons (wpAny_Return_some (wpAny_Tuple_spliced (Calls.spliced_cons ?_)))
      refine wpAny_Call_Name_kw (ld_blt (J.tok s1.toks) rfl hl PySem.boot_len ?_)
      refine PyProof.Rows.callWith_builtin1 (Calls.spliced_cons (at0 (n := s1.toks) (Calls.spliced_nil ?_))) rfl rfl
      refine PyProof.Rows.len_tuple pa hfit ?_
      refine Calls.spliced_cons (at0 (n := s1.toks + 1 + 1 + 1) (Calls.spliced_cons (at1 (n := s1.toks + 1 + 1 + 1 + 1) (Calls.spliced_nil ⟨by show 3 ≤ sizeLine; decide, ?_⟩))))
      subst hs1
      refine ⟨_, _, rfl, fun b' o' e' => Heap.get?_push_of_some _ (kp b' o' e'), ?_⟩
      have old : ∀ (o : Obj) b' o', h1.get? b' = some o' → (h1.push o).get? b' = some o' := fun o b' o' e' => Heap.get?_push_of_some _ e'
      have rda : ∀ o : Obj, Reads (h1.push o) (.ref a) (.tuple (ws.map .int)) [] := fun o => PyProof.Rows.Reads.keeps (old o) (readsTup pa (readsAll_ints ra))
      have rdb : ∀ o : Obj, Reads (h1.push o) (.ref b) (.tuple (ps.map .int)) [] := fun o => PyProof.Rows.Reads.keeps (old o) (readsTup pb (readsAll_ints rb))
      have e3 : ((ia.toArray.size : Nat) : Int) = (ws.length : Int) := by rw [List.size_toArray, hia]
      rw [e3]
      exact readsTup (its := [_, _, _]) ⟨_, Heap.get?_push_size _ rfl, rfl, _, rfl⟩ (.cons (Reads.int _ _) (.cons (rda _) (.cons (rdb _) .nil)))
end KX
end

section
set_option Elab.async false
set_option linter.all false
set_option maxRecDepth 100000
set_option maxHeartbeats 1000000
/-! sorted of at most one item: also where it is an empty tuple. -/
namespace KR
open PySem PySem.Spec PyProof.Rows L2
open PySem.W (alike alikeAll dataLt dataLe AllAlike Sortable EachIs SortsAt dataKind dataKind_some dataKind_inv oneLt_alike sortVals_data each_map sorted_vals)
section
variable {prog : Program} {w : World} {A : Around} {E : Value → Shared → Prop} {s : Shared} {β : Type}
theorem sorts_few {vs : List Value} {ds : List PyData} (e : EachIs (fun v d => ∃ as, Reads s.heap v d as) vs ds) (al : AllAlike ds) (nn : ∀ d ∈ ds, d ≠ .none) (hu : ∀ d ∈ ds, A.units + d.depth < cLine) (few : vs.length < 2) : SortsAt prog w A s (dataKind s.heap ds) vs := by
  refine ⟨fun v hv => ?_, general', fun E x y a b Q ha hb hq => ?_, fun h2 => absurd h2 (by omega)⟩
  · obtain ⟨d, hd, as, r⟩ := e.left v hv
    exact ⟨_, dataKind_some al hd r⟩
  · obtain ⟨d, as, hd, ra, rfl⟩ := dataKind_inv ha
    obtain ⟨d', as', hd', rb, rfl⟩ := dataKind_inv hb
    show wpAny _ _ (oneLt' false x y) _ _ _
    exact oneLt_alike (fun z => by cases z) ra rb (al d hd d' hd') (nn d hd) (Nat.lt_of_le_of_lt (Nat.add_le_add_left (Nat.min_le_left _ _) _) (hu d hd)) hq
end
section
variable {X : Cx}
def rSortF (K : PySem.W.Frag) : List V → Hp → VK → Prop := fun vs H Q => ∃ (a : Addr) (bs : List (V × PyData)), vs = [.ref a] ∧ SqL K H a (bs.map (·.1)) ∧ DpAll K H (bs.map (·.1)) (bs.map (·.2)) ∧ AllAlike (bs.map (·.2)) ∧
  (Sortable (bs.map (·.2)) ∨ (bs.length < 2 ∧ ∀ b ∈ bs, b.2 ≠ .none)) ∧ (∀ b ∈ bs, b.2.depth ≤ 60) ∧ bs.length ≤ sizeLine ∧ ∀ p, H p = none → Q (.ref p) (upd H p (.lst ((sortP bs).map (·.1))))
theorem cr_sortF (hu : X.A.units + 70 < cLine) : CallR X (.builtin "sorted") (rSortF X.K) := by
  intro pins s σ H vs us Q I r ⟨a, bs, ev, hs, hd, al, so, dp, hl, q⟩
  rcases so with so | ⟨few, nn⟩
  · exact cr_sortD hu pins s σ H vs us Q I r ⟨a, bs, ev, hs, hd, al, so, dp, hl, q⟩
  subst ev
  obtain ⟨its, rv, p, hz⟩ := I.list hs
  rw [Vals.ref1 r]
  have e := each_of rv
  have er := each_reads I rv hd
  have er' : EachIs (fun v b => ∃ as, Reads (PySem.W.sortingHeap (PySem.W.copyHeap s.heap its) (s.heap.objs.size + 1) its) v b.2 as) its bs := er.mono fun _ _ ⟨as, r⟩ => ⟨as, PyProof.Rows.Reads.keeps (fun _ _ => PySem.W.sorting_copy_old) r⟩
  have S : SortsAt X.prog X.w X.A.in1.in1 { s with heap := PySem.W.sortingHeap (PySem.W.copyHeap s.heap its) (s.heap.objs.size + 1) its } (dataKind (PySem.W.sortingHeap (PySem.W.copyHeap s.heap its) (s.heap.objs.size + 1) its) (bs.map (·.2))) its :=
    sorts_few (s := { s with heap := PySem.W.sortingHeap (PySem.W.copyHeap s.heap its) (s.heap.objs.size + 1) its }) (each_map (R := fun v d => ∃ as, Reads (PySem.W.sortingHeap (PySem.W.copyHeap s.heap its) (s.heap.objs.size + 1) its) v d as) (fun b : V × PyData => b.2) er') al (fun d hd => by
      obtain ⟨b, hb, rfl⟩ := List.mem_map.mp hd
      exact nn b hb) (fun d hd => by
      obtain ⟨b, hb, rfl⟩ := List.mem_map.mp hd
      have := dp b hb
      show X.A.units + 1 + 1 + _ < _
      omega) (by rw [e.length]; exact few)
  refine sorted_vals p.isList S (by rw [e.length]; exact hl) ?_
  have eo := sortVals_data (enc := fun b : V × PyData => b.2) false e er' al
  obtain ⟨ep, he'⟩ := PyProof.Rows.sortedAll_at s.heap its (PySem.W.sortVals (dataKind (PySem.W.sortingHeap (PySem.W.copyHeap s.heap its) (s.heap.objs.size + 1) its) (bs.map (·.2))) false its its).toArray
  have r2 := each_back eo
  have hlen : ((sortP bs).map (·.1)).length ≤ sizeLine := by
    rw [List.length_map, List.length_mergeSort]; exact hl
  exact ⟨.ref _, _, I.laid (o := .lst ((sortP bs).map (·.1))) (t' := s.toks) (fun _ _ => PyProof.Rows.sortedAll_old) (Nat.le_succ _) ⟨hlen, _, ep, r2, he'⟩, rfl, q _ (I.hok.fresh (Nat.le_succ _))⟩
end
end KR
end

section
set_option Elab.async false
set_option linter.all false
set_option maxRecDepth 100000
set_option maxHeartbeats 0
namespace KX
open PySem PySem.Spec PyProof.Rows L2
def d_is_from : He.DefD := ⟨("is_from", none), "is_from", "is_from", defArgs s_is_from, defBody s_is_from, defScope s_is_from, [], []⟩
def d_are_pushes : He.DefD := ⟨("are_pushes", none), "are_pushes", "are_pushes", defArgs s_are_pushes, defBody s_are_pushes, defScope s_are_pushes, [], []⟩
def dH_init : He.DefD := ⟨("Hall", some "__init__"), "__init__", "Hall.__init__", defArgs sH_init, defBody sH_init, defScope sH_init, [], []⟩
def dH_len : He.DefD := ⟨("Hall", some "__len__"), "__len__", "Hall.__len__", defArgs sH_len, defBody sH_len, defScope sH_len, [], []⟩
def d_need_hall : He.DefD := ⟨("need_hall", none), "need_hall", "need_hall", defArgs s_need_hall, defBody s_need_hall, defScope s_need_hall, [], []⟩
def d_are_numbers : He.DefD := ⟨("are_numbers", none), "are_numbers", "are_numbers", defArgs s_are_numbers, defBody s_are_numbers, defScope s_are_numbers, [], []⟩
def d_need_numbers : He.DefD := ⟨("need_numbers", none), "need_numbers", "need_numbers", defArgs s_need_numbers, defBody s_need_numbers, defScope s_need_numbers, [], []⟩
def d_changed : He.DefD := ⟨("changed", none), "changed", "changed", defArgs s_changed, defBody s_changed, defScope s_changed, [], []⟩
def d_able_of : He.DefD := ⟨("able_of", none), "able_of", "able_of", defArgs s_able_of, defBody s_able_of, defScope s_able_of, [], []⟩
def d_is_entry : He.DefD := ⟨("is_entry", none), "is_entry", "is_entry", defArgs s_is_entry, defBody s_is_entry, defScope s_is_entry, [], []⟩
def d_need_log : He.DefD := ⟨("need_log", none), "need_log", "need_log", defArgs s_need_log, defBody s_need_log, defScope s_need_log, [], []⟩
def d_need_told : He.DefD := ⟨("need_told", none), "need_told", "need_told", defArgs s_need_told, defBody s_need_told, defScope s_need_told, [], []⟩
def d_agrees : He.DefD := ⟨("agrees", none), "agrees", "agrees", defArgs s_agrees, defBody s_agrees, defScope s_agrees, [], []⟩
def d_fits : He.DefD := ⟨("fits", none), "fits", "fits", defArgs s_fits, defBody s_fits, defScope s_fits, [], []⟩
def d_steps_by : He.DefD := ⟨("steps_by", none), "steps_by", "steps_by", defArgs s_steps_by, defBody s_steps_by, defScope s_steps_by, [], []⟩
def d_ranked : He.DefD := ⟨("ranked", none), "ranked", "ranked", defArgs s_ranked, defBody s_ranked, defScope s_ranked, [], []⟩
def d_nearest : He.DefD := ⟨("nearest", none), "nearest", "nearest", defArgs s_nearest, defBody s_nearest, defScope s_nearest, [], []⟩
def d_doubted : He.DefD := ⟨("doubted", none), "doubted", "doubted", defArgs s_doubted, defBody s_doubted, defScope s_doubted, [], []⟩
def d_mended : He.DefD := ⟨("mended", none), "mended", "mended", defArgs s_mended, defBody s_mended, defScope s_mended, [], []⟩
def d_law_taken : He.DefD := ⟨("_law_taken", none), "_law_taken", "_law_taken", defArgs s_law_taken, defBody s_law_taken, defScope s_law_taken, [], []⟩
def d_law_pick : He.DefD := ⟨("_law_pick", none), "_law_pick", "_law_pick", defArgs s_law_pick, defBody s_law_pick, defScope s_law_pick, [], []⟩
def d_law_alike : He.DefD := ⟨("_law_alike", none), "_law_alike", "_law_alike", defArgs s_law_alike, defBody s_law_alike, defScope s_law_alike, [], []⟩
def d_law_press : He.DefD := ⟨("_law_press", none), "_law_press", "_law_press", defArgs s_law_press, defBody s_law_press, defScope s_law_press, [], []⟩
def d_law_below : He.DefD := ⟨("_law_below", none), "_law_below", "_law_below", defArgs s_law_below, defBody s_law_below, defScope s_law_below, [], []⟩
def d_law_named : He.DefD := ⟨("_law_named", none), "_law_named", "_law_named", defArgs s_law_named, defBody s_law_named, defScope s_law_named, [], []⟩
def d_law_names : He.DefD := ⟨("_law_names", none), "_law_names", "_law_names", defArgs s_law_names, defBody s_law_names, defScope s_law_names, [], []⟩
def d_law_flats : He.DefD := ⟨("_law_flats", none), "_law_flats", "_law_flats", defArgs s_law_flats, defBody s_law_flats, defScope s_law_flats, [], []⟩
def d_law_mixed : He.DefD := ⟨("_law_mixed", none), "_law_mixed", "_law_mixed", defArgs s_law_mixed, defBody s_law_mixed, defScope s_law_mixed, [], []⟩
def d_law_beside : He.DefD := ⟨("_law_beside", none), "_law_beside", "_law_beside", defArgs s_law_beside, defBody s_law_beside, defScope s_law_beside, [], []⟩
def d_law_ending : He.DefD := ⟨("_law_ending", none), "_law_ending", "_law_ending", defArgs s_law_ending, defBody s_law_ending, defScope s_law_ending, [], []⟩
def d_law_flat : He.DefD := ⟨("_law_flat", none), "_law_flat", "_law_flat", defArgs s_law_flat, defBody s_law_flat, defScope s_law_flat, [], []⟩
def d_law_any : He.DefD := ⟨("_law_any", none), "_law_any", "_law_any", defArgs s_law_any, defBody s_law_any, defScope s_law_any, [], []⟩
def d_law_one_hall : He.DefD := ⟨("_law_one_hall", none), "_law_one_hall", "_law_one_hall", defArgs s_law_one_hall, defBody s_law_one_hall, defScope s_law_one_hall, [], []⟩
def d_law_numbers : He.DefD := ⟨("_law_numbers", none), "_law_numbers", "_law_numbers", defArgs s_law_numbers, defBody s_law_numbers, defScope s_law_numbers, [], []⟩
def d_law_log : He.DefD := ⟨("_law_log", none), "_law_log", "_law_log", defArgs s_law_log, defBody s_law_log, defScope s_law_log, [], []⟩
def d_law_nearly : He.DefD := ⟨("_law_nearly", none), "_law_nearly", "_law_nearly", defArgs s_law_nearly, defBody s_law_nearly, defScope s_law_nearly, [], []⟩
def d_law : He.DefD := ⟨("law", none), "law", "law", defArgs s_law, defBody s_law, defScope s_law, [], []⟩
def fn : List He.DefD := [d_is_from, d_are_pushes, dH_init, dH_len, d_need_hall, d_are_numbers, d_need_numbers, d_changed, d_able_of, d_is_entry, d_need_log, d_need_told, d_agrees, d_fits, d_steps_by, d_ranked, d_nearest, d_doubted, d_mended, d_law_taken, d_law_pick, d_law_alike, d_law_press, d_law_below, d_law_named, d_law_names, d_law_flats, d_law_mixed, d_law_beside, d_law_ending, d_law_flat, d_law_any, d_law_one_hall, d_law_numbers, d_law_log, d_law_nearly, d_law]
def fa : List He.Fa := [.glo "is_from", .glo "are_pushes", .glo "need_hall", .glo "are_numbers", .glo "need_numbers", .glo "changed", .glo "able_of", .glo "is_entry", .glo "need_log", .glo "need_told", .glo "agrees", .glo "fits", .glo "steps_by", .glo "ranked", .glo "nearest", .glo "doubted", .glo "mended", .glo "_law_taken", .glo "_law_pick", .glo "_law_alike", .glo "_law_press", .glo "_law_below", .glo "_law_named", .glo "_law_names", .glo "_law_flats", .glo "_law_mixed", .glo "_law_beside", .glo "_law_ending", .glo "_law_flat", .glo "_law_any", .glo "_law_one_hall", .glo "_law_numbers", .glo "_law_log", .glo "_law_nearly", .glo "law", .free "isinstance", .free "int", .free "bool", .free "tuple", .free "len", .free "all", .free "enumerate", .free "range", .free "zip", .free "str", .free "sorted", .free "list", .free "max", .int "MOST_LAMPS" 8, .int "MOST_PUSH" 4, .int "MOST_PRESSES" 5000, .int "MOST_ENTRIES" 20, .int "MOST_LOST" 6, .cls "Hall", .mkr "Hall", .noat "Hall" "told", .meth "Hall" "__len__", .glo "Hall", .glo "LOST"]
def ex (K : PySem.W.Frag) : Bool := He.tupB K "LOST" [.str "lost"] && (He.eqO (PySem.W.findIn K (.ref (He.ga K "Hall")) "__class__") (some (some (.builtin "object.__class__"))) &&
  (He.eqO (PySem.W.specialIn K (.builtin "object.__class__") "__get__") (some (some (.builtin "getset_descriptor.__get__"))) && (decide (PySem.W.takesIn K (.builtin "object.__class__") = some true) && decide (PySem.W.mroIn K (He.ga K "Hall") (.type "object") = some true))))
abbrev R : PySem.W.OpenRow := PySem.W.OpenLaw.row PySem.Challenge.rw_kaleidorooms_k83_whole_mended_logs
abbrev hk : PySem.W.Hook := He.hookX 5 fa fn [] [] ex
def ob (s : PySem.W.SharedT) : He.AlX := He.obsX 5 fa fn [] [] ex (HandSHeadRun.getT s)
theorem ob_eq (s : PySem.W.SharedT) : ob s = hk.obs s.abs := He.obsX_eq (HandSHeadRun.getT_eq s)
def loose1 : List PySem.Str := ["HallError", "BadPushes", "Lopsided", "BadHall", "BadNumbers", "BadPlay", "BadLog", "MOST_LAMPS", "MOST_PUSH", "Hall", "MOST_PRESSES", "MOST_ENTRIES", "MOST_LOST", "LOST", "_law_fitting", "is_from", "are_pushes", "need_hall", "are_numbers", "need_numbers", "changed", "able_of", "is_entry", "need_log"]
def loose2 : List PySem.Str := ["need_told", "agrees", "fits", "steps_by", "ranked", "nearest", "doubted", "mended", "_law_taken", "_law_pick", "_law_alike", "_law_press", "_law_below", "_law_named", "_law_names", "_law_flats", "_law_mixed", "_law_beside", "_law_ending", "_law_flat", "_law_any", "_law_one_hall", "_law_numbers", "_law_log", "_law_nearly"]
def loose : List PySem.Str := loose1 ++ loose2
theorem run (w : World) : HandSHeadRun.RunEq R (PySem.W.view R.prog [55]) hk ob 20000 loose w := by
  intro os
  kernel_rfl
end KX
end

section
set_option Elab.async false
set_option linter.all false
set_option maxRecDepth 100000
set_option maxHeartbeats 0

/-! What the top leaves, by names; a def's package (where it stands, how it binds, what it keeps), and its call. -/
namespace KX
open PySem PySem.Spec PyProof.Rows L2 KR
open He (ga ma)
theorem fun_of {K : PySem.W.Frag} {x q : Str} {st : Stmt} {f : Addr} {fd : FuncData} (F : FunD K x q (defArgs st) (defBody st) (defScope st) [] [] f fd) : Fun K x q st f fd := by
  obtain ⟨oc, od, dV, kV, doc, pm, an, cdv, ct, osl, e, lk, hcd, hD, _⟩ := F.ex
  rcases hD with ⟨_, z⟩ | ⟨z, _⟩
  · exact ⟨⟨oc, od, kV, doc, pm, an, cdv, ct, osl, by rw [e, z], lk, hcd⟩, F.kp⟩
  · exact absurd rfl z
/-- the def stands at f, with its arguments' binding -/
structure At (K : PySem.W.Frag) (x q : Str) (st : Stmt) (ps : List Str) (f : Addr) : Prop where
  ex : ∃ fd, Fun K x q st f fd ∧ Binds K fd ps []
structure Tx (K : PySem.W.Frag) (mg : Str → Option Value) : Prop where
  b_isinstance : mg "isinstance" = none
  b_int : mg "int" = none
  b_bool : mg "bool" = none
  b_tuple : mg "tuple" = none
  b_len : mg "len" = none
  b_all : mg "all" = none
  b_enumerate : mg "enumerate" = none
  b_range : mg "range" = none
  b_zip : mg "zip" = none
  b_str : mg "str" = none
  b_sorted : mg "sorted" = none
  b_list : mg "list" = none
  b_max : mg "max" = none
  i_MOST_LAMPS : ∃ t, mg "MOST_LAMPS" = some (.int 8 t)
  i_MOST_PUSH : ∃ t, mg "MOST_PUSH" = some (.int 4 t)
  i_MOST_PRESSES : ∃ t, mg "MOST_PRESSES" = some (.int 5000 t)
  i_MOST_ENTRIES : ∃ t, mg "MOST_ENTRIES" = some (.int 20 t)
  i_MOST_LOST : ∃ t, mg "MOST_LOST" = some (.int 6 t)
  d_is_from : At K "is_from" "is_from" s_is_from ["value", "low", "high"] (ga K "is_from")
  g_is_from : mg "is_from" = some (.ref (ga K "is_from"))
  d_are_pushes : At K "are_pushes" "are_pushes" s_are_pushes ["value", "lamp", "many"] (ga K "are_pushes")
  g_are_pushes : mg "are_pushes" = some (.ref (ga K "are_pushes"))
  d_H_init : At K "__init__" "Hall.__init__" sH_init ["self", "pushes"] (ma K (ga K "Hall") "__init__")
  d_H_len : At K "__len__" "Hall.__len__" sH_len ["self"] (ma K (ga K "Hall") "__len__")
  d_need_hall : At K "need_hall" "need_hall" s_need_hall ["hall"] (ga K "need_hall")
  g_need_hall : mg "need_hall" = some (.ref (ga K "need_hall"))
  d_are_numbers : At K "are_numbers" "are_numbers" s_are_numbers ["hall", "value"] (ga K "are_numbers")
  g_are_numbers : mg "are_numbers" = some (.ref (ga K "are_numbers"))
  d_need_numbers : At K "need_numbers" "need_numbers" s_need_numbers ["hall", "numbers"] (ga K "need_numbers")
  g_need_numbers : mg "need_numbers" = some (.ref (ga K "need_numbers"))
  d_changed : At K "changed" "changed" s_changed ["hall", "numbers", "lamp"] (ga K "changed")
  g_changed : mg "changed" = some (.ref (ga K "changed"))
  d_able_of : At K "able_of" "able_of" s_able_of ["numbers"] (ga K "able_of")
  g_able_of : mg "able_of" = some (.ref (ga K "able_of"))
  d_is_entry : At K "is_entry" "is_entry" s_is_entry ["hall", "value"] (ga K "is_entry")
  g_is_entry : mg "is_entry" = some (.ref (ga K "is_entry"))
  d_need_log : At K "need_log" "need_log" s_need_log ["hall", "log"] (ga K "need_log")
  g_need_log : mg "need_log" = some (.ref (ga K "need_log"))
  d_need_told : At K "need_told" "need_told" s_need_told ["hall", "start", "log"] (ga K "need_told")
  g_need_told : mg "need_told" = some (.ref (ga K "need_told"))
  d_agrees : At K "agrees" "agrees" s_agrees ["entry", "numbers"] (ga K "agrees")
  g_agrees : mg "agrees" = some (.ref (ga K "agrees"))
  d_fits : At K "fits" "fits" s_fits ["hall", "start", "play", "log"] (ga K "fits")
  g_fits : mg "fits" = some (.ref (ga K "fits"))
  d_steps_by : At K "steps_by" "steps_by" s_steps_by ["hall", "numbers", "entry", "index"] (ga K "steps_by")
  g_steps_by : mg "steps_by" = some (.ref (ga K "steps_by"))
  d_ranked : At K "ranked" "ranked" s_ranked ["told"] (ga K "ranked")
  g_ranked : mg "ranked" = some (.ref (ga K "ranked"))
  d_nearest : At K "nearest" "nearest" s_nearest ["hall", "start", "log"] (ga K "nearest")
  g_nearest : mg "nearest" = some (.ref (ga K "nearest"))
  d_doubted : At K "doubted" "doubted" s_doubted ["hall", "start", "log"] (ga K "doubted")
  g_doubted : mg "doubted" = some (.ref (ga K "doubted"))
  d_mended : At K "mended" "mended" s_mended ["hall", "start", "log"] (ga K "mended")
  g_mended : mg "mended" = some (.ref (ga K "mended"))
  d_law_taken : At K "_law_taken" "_law_taken" s_law_taken ["_law_row", "_law_many"] (ga K "_law_taken")
  g_law_taken : mg "_law_taken" = some (.ref (ga K "_law_taken"))
  d_law_pick : At K "_law_pick" "_law_pick" s_law_pick ["_law_row", "_law_some"] (ga K "_law_pick")
  g_law_pick : mg "_law_pick" = some (.ref (ga K "_law_pick"))
  d_law_alike : At K "_law_alike" "_law_alike" s_law_alike ["_law_found", "_law_due"] (ga K "_law_alike")
  g_law_alike : mg "_law_alike" = some (.ref (ga K "_law_alike"))
  d_law_press : At K "_law_press" "_law_press" s_law_press ["_law_pushes", "_law_numbers_here", "_law_lamp"] (ga K "_law_press")
  g_law_press : mg "_law_press" = some (.ref (ga K "_law_press"))
  d_law_below : At K "_law_below" "_law_below" s_law_below ["_law_numbers_here"] (ga K "_law_below")
  g_law_below : mg "_law_below" = some (.ref (ga K "_law_below"))
  d_law_named : At K "_law_named" "_law_named" s_law_named ["_law_letter", "_law_many"] (ga K "_law_named")
  g_law_named : mg "_law_named" = some (.ref (ga K "_law_named"))
  d_law_names : At K "_law_names" "_law_names" s_law_names ["_law_most"] (ga K "_law_names")
  g_law_names : mg "_law_names" = some (.ref (ga K "_law_names"))
  d_law_flats : At K "_law_flats" "_law_flats" s_law_flats ["_law_most"] (ga K "_law_flats")
  g_law_flats : mg "_law_flats" = some (.ref (ga K "_law_flats"))
  d_law_mixed : At K "_law_mixed" "_law_mixed" s_law_mixed ["_law_row", "_law_pushes"] (ga K "_law_mixed")
  g_law_mixed : mg "_law_mixed" = some (.ref (ga K "_law_mixed"))
  d_law_beside : At K "_law_beside" "_law_beside" s_law_beside ["_law_one", "_law_other"] (ga K "_law_beside")
  g_law_beside : mg "_law_beside" = some (.ref (ga K "_law_beside"))
  d_law_ending : At K "_law_ending" "_law_ending" s_law_ending ["_law_row", "_law_most"] (ga K "_law_ending")
  g_law_ending : mg "_law_ending" = some (.ref (ga K "_law_ending"))
  d_law_flat : At K "_law_flat" "_law_flat" s_law_flat ["_law_row", "_law_most"] (ga K "_law_flat")
  g_law_flat : mg "_law_flat" = some (.ref (ga K "_law_flat"))
  d_law_any : At K "_law_any" "_law_any" s_law_any ["_law_row", "_law_most"] (ga K "_law_any")
  g_law_any : mg "_law_any" = some (.ref (ga K "_law_any"))
  d_law_one_hall : At K "_law_one_hall" "_law_one_hall" s_law_one_hall ["_law_row", "_law_most"] (ga K "_law_one_hall")
  g_law_one_hall : mg "_law_one_hall" = some (.ref (ga K "_law_one_hall"))
  d_law_numbers : At K "_law_numbers" "_law_numbers" s_law_numbers ["_law_row", "_law_many", "_law_far"] (ga K "_law_numbers")
  g_law_numbers : mg "_law_numbers" = some (.ref (ga K "_law_numbers"))
  d_law_log : At K "_law_log" "_law_log" s_law_log ["_law_row", "_law_pushes", "_law_start", "_law_most"] (ga K "_law_log")
  g_law_log : mg "_law_log" = some (.ref (ga K "_law_log"))
  d_law_nearly : At K "_law_nearly" "_law_nearly" s_law_nearly ["_law_pushes", "_law_start", "_law_log_here", "_law_some"] (ga K "_law_nearly")
  g_law_nearly : mg "_law_nearly" = some (.ref (ga K "_law_nearly"))
  d_law : At K "law" "law" s_law ["_law_script"] (ga K "law")
  g_law : mg "law" = some (.ref (ga K "law"))
  g_Hall : mg "Hall" = some (.ref (ga K "Hall"))
  g_LOST : mg "LOST" = some (.ref (ga K "LOST"))
  cl : Cls K (ga K "Hall")
  mkH : Mk K (ga K "Hall") (ma K (ga K "Hall") "__init__")
  noT : NoAttr K (ga K "Hall") "told"
  mLen : Meth K (ga K "Hall") "__len__" (ma K (ga K "Hall") "__len__")
  lost : ∀ H : Hp, SqT K H (ga K "LOST") [.str "lost"]
  c1 : PySem.W.findIn K (.ref (ga K "Hall")) "__class__" = some (some (.builtin "object.__class__"))
  c2 : PySem.W.specialIn K (.builtin "object.__class__") "__get__" = some (some (.builtin "getset_descriptor.__get__"))
  c3 : PySem.W.takesIn K (.builtin "object.__class__") = some true
  c4 : PySem.W.mroIn K (ga K "Hall") (.type "object") = some true
/-- a def keeps its promise, over every base -/
def Has (P : Program) (w : World) (K : PySem.W.Frag) (mg : Str → Option Value) (base : Heap) (k : Nat) (x : Str) (ps : List Str) (sp : Sp) : Prop :=
  ∃ fd, FnOk P w K mg base CX0 k (ga K x) fd ps sp ∧ Binds K fd ps [] ∧ mg x = some (.ref (ga K x)) ∧ PySem.W.keepIn K (.ref (ga K x)) = true
theorem Has.mono {P : Program} {w : World} {K : PySem.W.Frag} {mg : Str → Option Value} {base : Heap} {j k : Nat} {x : Str} {ps : List Str} {sp : Sp} (h : Has P w K mg base j x ps sp) (l : j ≤ k) : Has P w K mg base k x ps sp :=
  let ⟨fd, F, r⟩ := h; ⟨fd, F.mono l, r⟩
/-- a def's package by its body's walk -/
theorem has_of {P : Program} {w : World} {K : PySem.W.Frag} {mg : Str → Option Value} {base : Heap} {k : Nat} {x : Str} {N ps : List Str} {st : Stmt} {sp : Sp} (D : At K x x st ps (ga K x)) (g : mg x = some (.ref (ga K x))) (S : FnScope N ps (defScope st)) (len : ∀ vs H Q E, sp vs H Q E → vs.length = ps.length)
    (body : ∀ (cdv : Value) (A : Around) (outer : List Env) (s : Shared) (H : Hp) (vs : List V) (Q : VK) (E : XK), Room k (A.deeper (envOfC x (defScope st) s.heap.objs.size (ga K x) cdv)) → sp vs H Q E →
      ∃ t, PSs (cxOf CX0 P w K mg base N x (defScope st) (ga K x) cdv A outer s H E).nox (defBody st) t ∧ t { nx := fun _ H' => Q .non H', rt := Q } (start N vs) H) : Has P w K mg base (k + 1) x ps sp :=
  let ⟨fd, F, b⟩ := D.ex
  ⟨fd, F.ok S len body, b, g, F.kp⟩
section
variable {X : Cx} {k : Nat} {x : Str} {ps : List Str} {sp : Sp} {e : Expr} {es : List Expr} {p pos : Pos} {t : TA}
/-- f(e, ..) by its package -/
theorem pe_has (h : Has X.prog X.w X.K X.mg X.base k x ps sp) (hr : Room k X.A) (ha : PA X (e :: es) t) (hg : Gl X x := by rfl) (hdb : (x == ("__debug__" : Str)) = false := by decide)
    (he : starEach (e :: es) X.env = (false, eval e X.env) :: starEach es X.env := by rfl) (hpl : (backTo pos (starEach es X.env)).any (·.1) = false := by rfl) :
    PE X (.Call (.Name x p) (e :: es) [] pos) (tCall sp [] E0 t) :=
  let ⟨_, F, b, m, kp⟩ := h
  pe_call F hr hg m kp b .nil pass0 ha hdb he hpl
end
end KX
end

section
set_option Elab.async false
set_option linter.all false
set_option maxRecDepth 100000
set_option maxHeartbeats 0

namespace KX
open PySem PySem.Spec PyProof.Rows L2 KR
open He (ga ma)
theorem tx_of {K : PySem.W.Frag} {w : World} {h : Heap} {mg : Str → Option Value} (X : K.In h) (G : h.Ns mainGlobals mg) (c : He.SaysX fa fn [] [] ex w h K) : Tx K mg := by
  have d : He.SaysD fa fn K := c.t.d
  have e : (He.tupB K "LOST" [.str "lost"] && (He.eqO (PySem.W.findIn K (.ref (He.ga K "Hall")) "__class__") (some (some (.builtin "object.__class__"))) &&
    (He.eqO (PySem.W.specialIn K (.builtin "object.__class__") "__get__") (some (some (.builtin "getset_descriptor.__get__"))) && (decide (PySem.W.takesIn K (.builtin "object.__class__") = some true) && decide (PySem.W.mroIn K (He.ga K "Hall") (.type "object") = some true))))) = true := c.more
  obtain ⟨e1, e⟩ := He.ba e
  obtain ⟨e2, e⟩ := He.ba e
  obtain ⟨e3, e⟩ := He.ba e
  obtain ⟨e4, e5⟩ := He.ba e
  have D0 : At K "is_from" "is_from" s_is_from ["value", "low", "high"] (ga K "is_from") := by
    obtain ⟨fd, F⟩ := d.def_ 0 (d := d_is_from) rfl
    have F1 : Fun K "is_from" "is_from" s_is_from (ga K "is_from") fd := fun_of F
    exact ⟨fd, F1, F1.binds fun _ _ _ _ _ _ us hl => match us, hl with | [_, _, _], _ => rfl⟩
  have D1 : At K "are_pushes" "are_pushes" s_are_pushes ["value", "lamp", "many"] (ga K "are_pushes") := by
    obtain ⟨fd, F⟩ := d.def_ 1 (d := d_are_pushes) rfl
    have F1 : Fun K "are_pushes" "are_pushes" s_are_pushes (ga K "are_pushes") fd := fun_of F
    exact ⟨fd, F1, F1.binds fun _ _ _ _ _ _ us hl => match us, hl with | [_, _, _], _ => rfl⟩
  have D2 : At K "__init__" "Hall.__init__" sH_init ["self", "pushes"] (ma K (ga K "Hall") "__init__") := by
    obtain ⟨fd, F⟩ := d.def_ 2 (d := dH_init) rfl
    have F1 : Fun K "__init__" "Hall.__init__" sH_init (ma K (ga K "Hall") "__init__") fd := fun_of F
    exact ⟨fd, F1, F1.binds fun _ _ _ _ _ _ us hl => match us, hl with | [_, _], _ => rfl⟩
  have D3 : At K "__len__" "Hall.__len__" sH_len ["self"] (ma K (ga K "Hall") "__len__") := by
    obtain ⟨fd, F⟩ := d.def_ 3 (d := dH_len) rfl
    have F1 : Fun K "__len__" "Hall.__len__" sH_len (ma K (ga K "Hall") "__len__") fd := fun_of F
    exact ⟨fd, F1, F1.binds fun _ _ _ _ _ _ us hl => match us, hl with | [_], _ => rfl⟩
  have D4 : At K "need_hall" "need_hall" s_need_hall ["hall"] (ga K "need_hall") := by
    obtain ⟨fd, F⟩ := d.def_ 4 (d := d_need_hall) rfl
    have F1 : Fun K "need_hall" "need_hall" s_need_hall (ga K "need_hall") fd := fun_of F
    exact ⟨fd, F1, F1.binds fun _ _ _ _ _ _ us hl => match us, hl with | [_], _ => rfl⟩
  have D5 : At K "are_numbers" "are_numbers" s_are_numbers ["hall", "value"] (ga K "are_numbers") := by
    obtain ⟨fd, F⟩ := d.def_ 5 (d := d_are_numbers) rfl
    have F1 : Fun K "are_numbers" "are_numbers" s_are_numbers (ga K "are_numbers") fd := fun_of F
    exact ⟨fd, F1, F1.binds fun _ _ _ _ _ _ us hl => match us, hl with | [_, _], _ => rfl⟩
  have D6 : At K "need_numbers" "need_numbers" s_need_numbers ["hall", "numbers"] (ga K "need_numbers") := by
    obtain ⟨fd, F⟩ := d.def_ 6 (d := d_need_numbers) rfl
    have F1 : Fun K "need_numbers" "need_numbers" s_need_numbers (ga K "need_numbers") fd := fun_of F
    exact ⟨fd, F1, F1.binds fun _ _ _ _ _ _ us hl => match us, hl with | [_, _], _ => rfl⟩
  have D7 : At K "changed" "changed" s_changed ["hall", "numbers", "lamp"] (ga K "changed") := by
    obtain ⟨fd, F⟩ := d.def_ 7 (d := d_changed) rfl
    have F1 : Fun K "changed" "changed" s_changed (ga K "changed") fd := fun_of F
    exact ⟨fd, F1, F1.binds fun _ _ _ _ _ _ us hl => match us, hl with | [_, _, _], _ => rfl⟩
  have D8 : At K "able_of" "able_of" s_able_of ["numbers"] (ga K "able_of") := by
    obtain ⟨fd, F⟩ := d.def_ 8 (d := d_able_of) rfl
    have F1 : Fun K "able_of" "able_of" s_able_of (ga K "able_of") fd := fun_of F
    exact ⟨fd, F1, F1.binds fun _ _ _ _ _ _ us hl => match us, hl with | [_], _ => rfl⟩
  have D9 : At K "is_entry" "is_entry" s_is_entry ["hall", "value"] (ga K "is_entry") := by
    obtain ⟨fd, F⟩ := d.def_ 9 (d := d_is_entry) rfl
    have F1 : Fun K "is_entry" "is_entry" s_is_entry (ga K "is_entry") fd := fun_of F
    exact ⟨fd, F1, F1.binds fun _ _ _ _ _ _ us hl => match us, hl with | [_, _], _ => rfl⟩
  have D10 : At K "need_log" "need_log" s_need_log ["hall", "log"] (ga K "need_log") := by
    obtain ⟨fd, F⟩ := d.def_ 10 (d := d_need_log) rfl
    have F1 : Fun K "need_log" "need_log" s_need_log (ga K "need_log") fd := fun_of F
    exact ⟨fd, F1, F1.binds fun _ _ _ _ _ _ us hl => match us, hl with | [_, _], _ => rfl⟩
  have D11 : At K "need_told" "need_told" s_need_told ["hall", "start", "log"] (ga K "need_told") := by
    obtain ⟨fd, F⟩ := d.def_ 11 (d := d_need_told) rfl
    have F1 : Fun K "need_told" "need_told" s_need_told (ga K "need_told") fd := fun_of F
    exact ⟨fd, F1, F1.binds fun _ _ _ _ _ _ us hl => match us, hl with | [_, _, _], _ => rfl⟩
  have D12 : At K "agrees" "agrees" s_agrees ["entry", "numbers"] (ga K "agrees") := by
    obtain ⟨fd, F⟩ := d.def_ 12 (d := d_agrees) rfl
    have F1 : Fun K "agrees" "agrees" s_agrees (ga K "agrees") fd := fun_of F
    exact ⟨fd, F1, F1.binds fun _ _ _ _ _ _ us hl => match us, hl with | [_, _], _ => rfl⟩
  have D13 : At K "fits" "fits" s_fits ["hall", "start", "play", "log"] (ga K "fits") := by
    obtain ⟨fd, F⟩ := d.def_ 13 (d := d_fits) rfl
    have F1 : Fun K "fits" "fits" s_fits (ga K "fits") fd := fun_of F
    exact ⟨fd, F1, F1.binds fun _ _ _ _ _ _ us hl => match us, hl with | [_, _, _, _], _ => rfl⟩
  have D14 : At K "steps_by" "steps_by" s_steps_by ["hall", "numbers", "entry", "index"] (ga K "steps_by") := by
    obtain ⟨fd, F⟩ := d.def_ 14 (d := d_steps_by) rfl
    have F1 : Fun K "steps_by" "steps_by" s_steps_by (ga K "steps_by") fd := fun_of F
    exact ⟨fd, F1, F1.binds fun _ _ _ _ _ _ us hl => match us, hl with | [_, _, _, _], _ => rfl⟩
  have D15 : At K "ranked" "ranked" s_ranked ["told"] (ga K "ranked") := by
    obtain ⟨fd, F⟩ := d.def_ 15 (d := d_ranked) rfl
    have F1 : Fun K "ranked" "ranked" s_ranked (ga K "ranked") fd := fun_of F
    exact ⟨fd, F1, F1.binds fun _ _ _ _ _ _ us hl => match us, hl with | [_], _ => rfl⟩
  have D16 : At K "nearest" "nearest" s_nearest ["hall", "start", "log"] (ga K "nearest") := by
    obtain ⟨fd, F⟩ := d.def_ 16 (d := d_nearest) rfl
    have F1 : Fun K "nearest" "nearest" s_nearest (ga K "nearest") fd := fun_of F
    exact ⟨fd, F1, F1.binds fun _ _ _ _ _ _ us hl => match us, hl with | [_, _, _], _ => rfl⟩
  have D17 : At K "doubted" "doubted" s_doubted ["hall", "start", "log"] (ga K "doubted") := by
    obtain ⟨fd, F⟩ := d.def_ 17 (d := d_doubted) rfl
    have F1 : Fun K "doubted" "doubted" s_doubted (ga K "doubted") fd := fun_of F
    exact ⟨fd, F1, F1.binds fun _ _ _ _ _ _ us hl => match us, hl with | [_, _, _], _ => rfl⟩
  have D18 : At K "mended" "mended" s_mended ["hall", "start", "log"] (ga K "mended") := by
    obtain ⟨fd, F⟩ := d.def_ 18 (d := d_mended) rfl
    have F1 : Fun K "mended" "mended" s_mended (ga K "mended") fd := fun_of F
    exact ⟨fd, F1, F1.binds fun _ _ _ _ _ _ us hl => match us, hl with | [_, _, _], _ => rfl⟩
  have D19 : At K "_law_taken" "_law_taken" s_law_taken ["_law_row", "_law_many"] (ga K "_law_taken") := by
    obtain ⟨fd, F⟩ := d.def_ 19 (d := d_law_taken) rfl
    have F1 : Fun K "_law_taken" "_law_taken" s_law_taken (ga K "_law_taken") fd := fun_of F
    exact ⟨fd, F1, F1.binds fun _ _ _ _ _ _ us hl => match us, hl with | [_, _], _ => rfl⟩
  have D20 : At K "_law_pick" "_law_pick" s_law_pick ["_law_row", "_law_some"] (ga K "_law_pick") := by
    obtain ⟨fd, F⟩ := d.def_ 20 (d := d_law_pick) rfl
    have F1 : Fun K "_law_pick" "_law_pick" s_law_pick (ga K "_law_pick") fd := fun_of F
    exact ⟨fd, F1, F1.binds fun _ _ _ _ _ _ us hl => match us, hl with | [_, _], _ => rfl⟩
  have D21 : At K "_law_alike" "_law_alike" s_law_alike ["_law_found", "_law_due"] (ga K "_law_alike") := by
    obtain ⟨fd, F⟩ := d.def_ 21 (d := d_law_alike) rfl
    have F1 : Fun K "_law_alike" "_law_alike" s_law_alike (ga K "_law_alike") fd := fun_of F
    exact ⟨fd, F1, F1.binds fun _ _ _ _ _ _ us hl => match us, hl with | [_, _], _ => rfl⟩
  have D22 : At K "_law_press" "_law_press" s_law_press ["_law_pushes", "_law_numbers_here", "_law_lamp"] (ga K "_law_press") := by
    obtain ⟨fd, F⟩ := d.def_ 22 (d := d_law_press) rfl
    have F1 : Fun K "_law_press" "_law_press" s_law_press (ga K "_law_press") fd := fun_of F
    exact ⟨fd, F1, F1.binds fun _ _ _ _ _ _ us hl => match us, hl with | [_, _, _], _ => rfl⟩
  have D23 : At K "_law_below" "_law_below" s_law_below ["_law_numbers_here"] (ga K "_law_below") := by
    obtain ⟨fd, F⟩ := d.def_ 23 (d := d_law_below) rfl
    have F1 : Fun K "_law_below" "_law_below" s_law_below (ga K "_law_below") fd := fun_of F
    exact ⟨fd, F1, F1.binds fun _ _ _ _ _ _ us hl => match us, hl with | [_], _ => rfl⟩
  have D24 : At K "_law_named" "_law_named" s_law_named ["_law_letter", "_law_many"] (ga K "_law_named") := by
    obtain ⟨fd, F⟩ := d.def_ 24 (d := d_law_named) rfl
    have F1 : Fun K "_law_named" "_law_named" s_law_named (ga K "_law_named") fd := fun_of F
    exact ⟨fd, F1, F1.binds fun _ _ _ _ _ _ us hl => match us, hl with | [_, _], _ => rfl⟩
  have D25 : At K "_law_names" "_law_names" s_law_names ["_law_most"] (ga K "_law_names") := by
    obtain ⟨fd, F⟩ := d.def_ 25 (d := d_law_names) rfl
    have F1 : Fun K "_law_names" "_law_names" s_law_names (ga K "_law_names") fd := fun_of F
    exact ⟨fd, F1, F1.binds fun _ _ _ _ _ _ us hl => match us, hl with | [_], _ => rfl⟩
  have D26 : At K "_law_flats" "_law_flats" s_law_flats ["_law_most"] (ga K "_law_flats") := by
    obtain ⟨fd, F⟩ := d.def_ 26 (d := d_law_flats) rfl
    have F1 : Fun K "_law_flats" "_law_flats" s_law_flats (ga K "_law_flats") fd := fun_of F
    exact ⟨fd, F1, F1.binds fun _ _ _ _ _ _ us hl => match us, hl with | [_], _ => rfl⟩
  have D27 : At K "_law_mixed" "_law_mixed" s_law_mixed ["_law_row", "_law_pushes"] (ga K "_law_mixed") := by
    obtain ⟨fd, F⟩ := d.def_ 27 (d := d_law_mixed) rfl
    have F1 : Fun K "_law_mixed" "_law_mixed" s_law_mixed (ga K "_law_mixed") fd := fun_of F
    exact ⟨fd, F1, F1.binds fun _ _ _ _ _ _ us hl => match us, hl with | [_, _], _ => rfl⟩
  have D28 : At K "_law_beside" "_law_beside" s_law_beside ["_law_one", "_law_other"] (ga K "_law_beside") := by
    obtain ⟨fd, F⟩ := d.def_ 28 (d := d_law_beside) rfl
    have F1 : Fun K "_law_beside" "_law_beside" s_law_beside (ga K "_law_beside") fd := fun_of F
    exact ⟨fd, F1, F1.binds fun _ _ _ _ _ _ us hl => match us, hl with | [_, _], _ => rfl⟩
  have D29 : At K "_law_ending" "_law_ending" s_law_ending ["_law_row", "_law_most"] (ga K "_law_ending") := by
    obtain ⟨fd, F⟩ := d.def_ 29 (d := d_law_ending) rfl
    have F1 : Fun K "_law_ending" "_law_ending" s_law_ending (ga K "_law_ending") fd := fun_of F
    exact ⟨fd, F1, F1.binds fun _ _ _ _ _ _ us hl => match us, hl with | [_, _], _ => rfl⟩
  have D30 : At K "_law_flat" "_law_flat" s_law_flat ["_law_row", "_law_most"] (ga K "_law_flat") := by
    obtain ⟨fd, F⟩ := d.def_ 30 (d := d_law_flat) rfl
    have F1 : Fun K "_law_flat" "_law_flat" s_law_flat (ga K "_law_flat") fd := fun_of F
    exact ⟨fd, F1, F1.binds fun _ _ _ _ _ _ us hl => match us, hl with | [_, _], _ => rfl⟩
  have D31 : At K "_law_any" "_law_any" s_law_any ["_law_row", "_law_most"] (ga K "_law_any") := by
    obtain ⟨fd, F⟩ := d.def_ 31 (d := d_law_any) rfl
    have F1 : Fun K "_law_any" "_law_any" s_law_any (ga K "_law_any") fd := fun_of F
    exact ⟨fd, F1, F1.binds fun _ _ _ _ _ _ us hl => match us, hl with | [_, _], _ => rfl⟩
  have D32 : At K "_law_one_hall" "_law_one_hall" s_law_one_hall ["_law_row", "_law_most"] (ga K "_law_one_hall") := by
    obtain ⟨fd, F⟩ := d.def_ 32 (d := d_law_one_hall) rfl
    have F1 : Fun K "_law_one_hall" "_law_one_hall" s_law_one_hall (ga K "_law_one_hall") fd := fun_of F
    exact ⟨fd, F1, F1.binds fun _ _ _ _ _ _ us hl => match us, hl with | [_, _], _ => rfl⟩
  have D33 : At K "_law_numbers" "_law_numbers" s_law_numbers ["_law_row", "_law_many", "_law_far"] (ga K "_law_numbers") := by
    obtain ⟨fd, F⟩ := d.def_ 33 (d := d_law_numbers) rfl
    have F1 : Fun K "_law_numbers" "_law_numbers" s_law_numbers (ga K "_law_numbers") fd := fun_of F
    exact ⟨fd, F1, F1.binds fun _ _ _ _ _ _ us hl => match us, hl with | [_, _, _], _ => rfl⟩
  have D34 : At K "_law_log" "_law_log" s_law_log ["_law_row", "_law_pushes", "_law_start", "_law_most"] (ga K "_law_log") := by
    obtain ⟨fd, F⟩ := d.def_ 34 (d := d_law_log) rfl
    have F1 : Fun K "_law_log" "_law_log" s_law_log (ga K "_law_log") fd := fun_of F
    exact ⟨fd, F1, F1.binds fun _ _ _ _ _ _ us hl => match us, hl with | [_, _, _, _], _ => rfl⟩
  have D35 : At K "_law_nearly" "_law_nearly" s_law_nearly ["_law_pushes", "_law_start", "_law_log_here", "_law_some"] (ga K "_law_nearly") := by
    obtain ⟨fd, F⟩ := d.def_ 35 (d := d_law_nearly) rfl
    have F1 : Fun K "_law_nearly" "_law_nearly" s_law_nearly (ga K "_law_nearly") fd := fun_of F
    exact ⟨fd, F1, F1.binds fun _ _ _ _ _ _ us hl => match us, hl with | [_, _, _, _], _ => rfl⟩
  have D36 : At K "law" "law" s_law ["_law_script"] (ga K "law") := by
    obtain ⟨fd, F⟩ := d.def_ 36 (d := d_law) rfl
    have F1 : Fun K "law" "law" s_law (ga K "law") fd := fun_of F
    exact ⟨fd, F1, F1.binds fun _ _ _ _ _ _ us hl => match us, hl with | [_], _ => rfl⟩
  exact {
    b_isinstance := He.free_ok X G (d.fact 35 (f := .free "isinstance") rfl)
    b_int := He.free_ok X G (d.fact 36 (f := .free "int") rfl)
    b_bool := He.free_ok X G (d.fact 37 (f := .free "bool") rfl)
    b_tuple := He.free_ok X G (d.fact 38 (f := .free "tuple") rfl)
    b_len := He.free_ok X G (d.fact 39 (f := .free "len") rfl)
    b_all := He.free_ok X G (d.fact 40 (f := .free "all") rfl)
    b_enumerate := He.free_ok X G (d.fact 41 (f := .free "enumerate") rfl)
    b_range := He.free_ok X G (d.fact 42 (f := .free "range") rfl)
    b_zip := He.free_ok X G (d.fact 43 (f := .free "zip") rfl)
    b_str := He.free_ok X G (d.fact 44 (f := .free "str") rfl)
    b_sorted := He.free_ok X G (d.fact 45 (f := .free "sorted") rfl)
    b_list := He.free_ok X G (d.fact 46 (f := .free "list") rfl)
    b_max := He.free_ok X G (d.fact 47 (f := .free "max") rfl)
    i_MOST_LAMPS := He.int_ok X G (d.fact 48 (f := .int "MOST_LAMPS" 8) rfl)
    i_MOST_PUSH := He.int_ok X G (d.fact 49 (f := .int "MOST_PUSH" 4) rfl)
    i_MOST_PRESSES := He.int_ok X G (d.fact 50 (f := .int "MOST_PRESSES" 5000) rfl)
    i_MOST_ENTRIES := He.int_ok X G (d.fact 51 (f := .int "MOST_ENTRIES" 20) rfl)
    i_MOST_LOST := He.int_ok X G (d.fact 52 (f := .int "MOST_LOST" 6) rfl)
    d_is_from := D0
    g_is_from := He.glo_ok X G (d.fact 0 (f := .glo "is_from") rfl)
    d_are_pushes := D1
    g_are_pushes := He.glo_ok X G (d.fact 1 (f := .glo "are_pushes") rfl)
    d_H_init := D2
    d_H_len := D3
    d_need_hall := D4
    g_need_hall := He.glo_ok X G (d.fact 2 (f := .glo "need_hall") rfl)
    d_are_numbers := D5
    g_are_numbers := He.glo_ok X G (d.fact 3 (f := .glo "are_numbers") rfl)
    d_need_numbers := D6
    g_need_numbers := He.glo_ok X G (d.fact 4 (f := .glo "need_numbers") rfl)
    d_changed := D7
    g_changed := He.glo_ok X G (d.fact 5 (f := .glo "changed") rfl)
    d_able_of := D8
    g_able_of := He.glo_ok X G (d.fact 6 (f := .glo "able_of") rfl)
    d_is_entry := D9
    g_is_entry := He.glo_ok X G (d.fact 7 (f := .glo "is_entry") rfl)
    d_need_log := D10
    g_need_log := He.glo_ok X G (d.fact 8 (f := .glo "need_log") rfl)
    d_need_told := D11
    g_need_told := He.glo_ok X G (d.fact 9 (f := .glo "need_told") rfl)
    d_agrees := D12
    g_agrees := He.glo_ok X G (d.fact 10 (f := .glo "agrees") rfl)
    d_fits := D13
    g_fits := He.glo_ok X G (d.fact 11 (f := .glo "fits") rfl)
    d_steps_by := D14
    g_steps_by := He.glo_ok X G (d.fact 12 (f := .glo "steps_by") rfl)
    d_ranked := D15
    g_ranked := He.glo_ok X G (d.fact 13 (f := .glo "ranked") rfl)
    d_nearest := D16
    g_nearest := He.glo_ok X G (d.fact 14 (f := .glo "nearest") rfl)
    d_doubted := D17
    g_doubted := He.glo_ok X G (d.fact 15 (f := .glo "doubted") rfl)
    d_mended := D18
    g_mended := He.glo_ok X G (d.fact 16 (f := .glo "mended") rfl)
    d_law_taken := D19
    g_law_taken := He.glo_ok X G (d.fact 17 (f := .glo "_law_taken") rfl)
    d_law_pick := D20
    g_law_pick := He.glo_ok X G (d.fact 18 (f := .glo "_law_pick") rfl)
    d_law_alike := D21
    g_law_alike := He.glo_ok X G (d.fact 19 (f := .glo "_law_alike") rfl)
    d_law_press := D22
    g_law_press := He.glo_ok X G (d.fact 20 (f := .glo "_law_press") rfl)
    d_law_below := D23
    g_law_below := He.glo_ok X G (d.fact 21 (f := .glo "_law_below") rfl)
    d_law_named := D24
    g_law_named := He.glo_ok X G (d.fact 22 (f := .glo "_law_named") rfl)
    d_law_names := D25
    g_law_names := He.glo_ok X G (d.fact 23 (f := .glo "_law_names") rfl)
    d_law_flats := D26
    g_law_flats := He.glo_ok X G (d.fact 24 (f := .glo "_law_flats") rfl)
    d_law_mixed := D27
    g_law_mixed := He.glo_ok X G (d.fact 25 (f := .glo "_law_mixed") rfl)
    d_law_beside := D28
    g_law_beside := He.glo_ok X G (d.fact 26 (f := .glo "_law_beside") rfl)
    d_law_ending := D29
    g_law_ending := He.glo_ok X G (d.fact 27 (f := .glo "_law_ending") rfl)
    d_law_flat := D30
    g_law_flat := He.glo_ok X G (d.fact 28 (f := .glo "_law_flat") rfl)
    d_law_any := D31
    g_law_any := He.glo_ok X G (d.fact 29 (f := .glo "_law_any") rfl)
    d_law_one_hall := D32
    g_law_one_hall := He.glo_ok X G (d.fact 30 (f := .glo "_law_one_hall") rfl)
    d_law_numbers := D33
    g_law_numbers := He.glo_ok X G (d.fact 31 (f := .glo "_law_numbers") rfl)
    d_law_log := D34
    g_law_log := He.glo_ok X G (d.fact 32 (f := .glo "_law_log") rfl)
    d_law_nearly := D35
    g_law_nearly := He.glo_ok X G (d.fact 33 (f := .glo "_law_nearly") rfl)
    d_law := D36
    g_law := He.glo_ok X G (d.fact 34 (f := .glo "law") rfl)
    g_Hall := He.glo_ok X G (d.fact 57 (f := .glo "Hall") rfl)
    g_LOST := He.glo_ok X G (d.fact 58 (f := .glo "LOST") rfl)
    cl := He.cls_ok (d.fact 53 (f := .cls "Hall") rfl)
    mkH := He.mkr_ok (d.fact 54 (f := .mkr "Hall") rfl)
    noT := He.noat_ok (d.fact 55 (f := .noat "Hall" "told") rfl)
    mLen := He.meth_ok (d.fact 56 (f := .meth "Hall" "__len__") rfl)
    lost := fun H => He.tupB_ok e1 H
    c1 := He.eqO_ok e2
    c2 := He.eqO_ok e3
    c3 := of_decide_eq_true e4
    c4 := of_decide_eq_true e5 }
end KX
end

section
set_option Elab.async false
set_option linter.all false
set_option maxRecDepth 100000
set_option maxHeartbeats 4000000
/-! What the objects are; is_from, are_pushes, the hall, need_hall. -/
namespace KX
open PySem PySem.Spec PyProof.Rows L2 KR KM
open He (ga ma)
/-! ### what stands where -/
abbrev iv : Int → V := V.int
/-- a tuple of ints; of such tuples -/
def IT (H : Hp) (x : V) (ns : List Int) : Prop := ∃ t, x = .ref t ∧ H t = some (.tup (ns.map iv))
def MT (H : Hp) (x : V) (P : Pushes) : Prop := ∃ t rs, x = .ref t ∧ H t = some (.tup rs) ∧ Paired (IT H) rs P
def entV : Ent → List V
  | .pressed l => [.str "pressed", .int l]
  | .lost => [.str "lost"]
  | .seen l z => [.str "seen", .int l, .int z]
def EnT (H : Hp) (x : V) (e : Ent) : Prop := ∃ t, x = .ref t ∧ H t = some (.tup (entV e))
def LgT (H : Hp) (x : V) (log : List Ent) : Prop := ∃ t es, x = .ref t ∧ H t = some (.tup es) ∧ Paired (EnT H) es log
/-- pushes that a hall may have -/
structure GoodP (P : Pushes) : Prop where
  pos : 1 ≤ P.length
  most : P.length ≤ 8
  rows : ∀ r ∈ P, r.length = P.length
  rng : ∀ r ∈ P, ∀ z ∈ r, 0 ≤ z ∧ z ≤ 4
  diag : ∀ (i : Nat) (r : List Int), P[i]? = some r → r[i]? = some 0
  sym : ∀ (i j : Nat) (r q : List Int) (y z : Int), P[i]? = some r → r[j]? = some y → P[j]? = some q → q[i]? = some z → (y = 0 ↔ z = 0)
def HaT (K : PySem.W.Frag) (H : Hp) (x : V) (P : Pushes) : Prop := ∃ a dx v, x = .ref a ∧ H a = some (.ins (ga K "Hall") dx [("told", v)]) ∧ MT H v P ∧ GoodP P
section
variable {K : PySem.W.Frag} {H H' : Hp} {x : V}
theorem IT.same (e : Same H H') {ns : List Int} (h : IT H x ns) : IT H' x ns := let ⟨t, a, b⟩ := h; ⟨t, a, e _ _ b⟩
theorem MT.same (e : Same H H') {P : Pushes} (h : MT H x P) : MT H' x P := let ⟨t, rs, a, b, c⟩ := h; ⟨t, rs, a, e _ _ b, L2.Paired.mapP c fun _ _ q => q.same e⟩
theorem EnT.same (e : Same H H') {n : Ent} (h : EnT H x n) : EnT H' x n := let ⟨t, a, b⟩ := h; ⟨t, a, e _ _ b⟩
theorem LgT.same (e : Same H H') {log : List Ent} (h : LgT H x log) : LgT H' x log := let ⟨t, rs, a, b, c⟩ := h; ⟨t, rs, a, e _ _ b, L2.Paired.mapP c fun _ _ q => q.same e⟩
theorem HaT.same (e : Same H H') {P : Pushes} (h : HaT K H x P) : HaT K H' x P := let ⟨a, dx, v, p, q, r, g⟩ := h; ⟨a, dx, v, p, e _ _ q, r.same e, g⟩
theorem snew {p : Addr} {o : HO} (h : H p = none) : Same H (upd H p o) := fun b u e => by rw [upd_ne (ne_of_none e h)]; exact e
theorem sput {p : Addr} {o : HO} {H0 : Hp} (e : Same H0 H) (h : H0 p = none) : Same H0 (upd H p o) := fun b u q => by rw [upd_ne (ne_of_none q h)]; exact e b u q
theorem sqT {a : Addr} {xs : List V} (h : H a = some (.tup xs)) : SqT K H a xs := .inl (.inl h)
end
/-! ### classes asked -/
section
variable {K : PySem.W.Frag} {mg : Str → Option Value} {H : Hp}
theorem ty_hall (T : Tx K mg) {a dx : Addr} {fs : List (Str × V)} (e : H a = some (.ins (ga K "Hall") dx fs)) : TyX K H (.ref a) (.ref (ga K "Hall")) := .base (.ins e T.cl T.c1 T.c2 T.c3 T.c4)
theorem kit_own {C : Addr} : PySem.W.kitOne K (.ref C) (.ref C) = some true := by unfold PySem.W.kitOne; rw [if_pos (by simp)]
theorem k_int_int : PySem.W.kitOne K (.type "int") (.type "int") = some true := kit_ty (by decide +kernel)
theorem k_int_bool : PySem.W.kitOne K (.type "int") (.type "bool") = some false := kit_ty (by decide +kernel)
theorem k_tup_tup : PySem.W.kitOne K (.type "tuple") (.type "tuple") = some true := kit_ty (by decide +kernel)
theorem k_str_str : PySem.W.kitOne K (.type "str") (.type "str") = some true := kit_ty (by decide +kernel)
end
/-- isinstance(x, T) of a built-in T -/
theorem pe_isB {X : Cx} {e : Expr} {te : TE} {n : Str} {T : String} {p q pos : Pos} (hm : X.mg "isinstance" = none) (hn : X.mg n = none) (he : PE X e te) (hv : bootBuiltins n = some (.type T)) (hg : Gl X "isinstance" := by rfl) (hg2 : Gl X n := by rfl) (hx : n ≠ "__name__" := by decide) (hd : (n == ("__debug__" : Str)) = false := by decide)
    (h1 : starEach [e, .Name n q] X.env = (false, eval e X.env) :: starEach [.Name n q] X.env := by rfl) (h2 : (backTo pos (starEach [.Name n q] X.env)).any (·.1) = false := by rfl) (h3 : starEach [.Name n q] X.env = (false, eval (.Name n q) X.env) :: starEach [] X.env := by rfl) :
    PE X (.Call (.Name "isinstance" p) [e, .Name n q] [] pos) (tCB (rIsi X.K) (tCons te (tCons (tC (.ty T)) tNil))) :=
  pe_callB call_isi hg hm (by decide +kernel) (pa_cons he (pa_cons (pe_bltn (v := .ty T) hg2 hn hv rfl hx hd) pa_nil h3) h1) (by decide) (by decide) h1 h2
theorem bb_int : bootBuiltins "int" = some (.type "int") := by decide +kernel
theorem bb_bool : bootBuiltins "bool" = some (.type "bool") := by decide +kernel
theorem bb_tuple : bootBuiltins "tuple" = some (.type "tuple") := by decide +kernel
theorem bb_str : bootBuiltins "str" = some (.type "str") := by decide +kernel
/-! ### is_from -/
section
variable {P : Program} {w : World} {K : PySem.W.Frag} {mg : Str → Option Value} {base : Heap}
def sp_is_from : Sp := fun vs H Q _ => ∃ a lo hi : Int, vs = [.int a, .int lo, .int hi] ∧ Q (.bl (decide (lo ≤ a) && decide (a ≤ hi))) H
theorem sc_is_from : FnScope ["value", "low", "high"] ["value", "low", "high"] (defScope s_is_from) := ⟨rfl, rfl, rfl, by decide +kernel, rfl, by decide +kernel, by decide +kernel⟩
theorem ok_is_from (T : Tx K mg) : Has P w K mg base 1 "is_from" ["value", "low", "high"] sp_is_from := by
  refine has_of T.d_is_from T.g_is_from sc_is_from (fun vs H Q E h => ?_) (fun cdv A outer s H vs Q E hr h => ?_)
  · obtain ⟨a, lo, hi, rfl, _⟩ := h
    rfl
  · obtain ⟨a, lo, hi, rfl, q⟩ := h
    refine ⟨_, pss_one (ps_ret (pe_and (pe_isB T.b_isinstance T.b_int (pv 0) bb_int) (pe_and (pe_not (pe_isB T.b_isinstance T.b_bool (pv 0) bb_bool)) (pe_one (pe_chain op_le op_le (pv 1) (pv 0) (pv 2)))))), ?_⟩
    refine ⟨_, rfl, _, _, _, _, true, rfl, .ty _, .base (.int _), k_int_int, true, rfl, iteT ?_⟩
    refine ⟨_, rfl, _, _, _, _, false, rfl, .ty _, .base (.int _), k_int_bool, false, rfl, true, rfl, iteT ?_⟩
    refine ⟨_, rfl, _, rfl, _, _, rfl, rfl, _, rfl, ?_⟩
    refine ite2 (fun c => ?_) (fun c => ?_)
    · refine ⟨_, rfl, _, _, rfl, rfl, ?_⟩
      rw [c] at q
      exact q
    · have c' : decide (lo ≤ a) = false := by simpa using c
      rw [c'] at q
      exact q
end
end KX
end

section
set_option Elab.async false
set_option linter.all false
set_option maxRecDepth 100000
set_option maxHeartbeats 4000000
namespace KX
open PySem PySem.Spec PyProof.Rows L2 KR KM
open He (ga ma)
theorem map_at {α : Type} {f : α → V} {xs : List α} {i : Nat} {v : V} (h : (xs.map f)[i]? = some v) : ∃ z, xs[i]? = some z ∧ v = f z := by
  rw [List.getElem?_map] at h
  cases e : xs[i]? with
  | none => rw [e] at h; cases h
  | some z => rw [e] at h; exact ⟨z, rfl, (Option.some.inj h).symm⟩
theorem lcY {A B : Hp → Prop} {σ : L2.St} {H : Hp} (h : A H) : tYes σ H (fun b H3 => if b = true then A H3 else B H3) := iteT (A := A H) (B := B H) h
theorem sz8 {n : Nat} (h : n ≤ 100000) : n < sizeLine := Nat.lt_of_le_of_lt h (by decide)
section
variable {P : Program} {w : World} {K : PySem.W.Frag} {mg : Str → Option Value} {base : Heap}
def sp_are_pushes : Sp := fun vs H Q _ => ∃ (x : V) (l : Nat) (ns : List Int), vs = [x, .int l, .int ns.length] ∧ IT H x ns ∧ (∀ z ∈ ns, 0 ≤ z ∧ z ≤ 4) ∧ ns[l]? = some 0 ∧ ns.length ≤ 8 ∧ ∀ H', Same H H' → Q (.bl true) H'
theorem sc_are_pushes : FnScope ["value", "lamp", "many", "one"] ["value", "lamp", "many"] (defScope s_are_pushes) := ⟨rfl, rfl, rfl, by decide +kernel, rfl, by decide +kernel, by decide +kernel⟩
theorem ok_are_pushes (T : Tx K mg) : Has P w K mg base 2 "are_pushes" ["value", "lamp", "many"] sp_are_pushes := by
  obtain ⟨t4, h4⟩ := T.i_MOST_PUSH
  refine has_of T.d_are_pushes T.g_are_pushes sc_are_pushes (fun vs H Q E h => ?_) (fun cdv A outer s H vs Q E hr h => ?_)
  · obtain ⟨x, l, ns, rfl, _⟩ := h
    rfl
  · obtain ⟨x, l, ns, rfl, ⟨t, rfl, ht⟩, hz, hl, h8, q⟩ := h
    have nd := sc_are_pushes.nd
    refine ⟨_, pss_cons (ps_if (PW.pt (pw_or (pt_not (pt_val (pe_isB T.b_isinstance T.b_tuple (pv 0) bb_tuple))) (pw_or (pt_cmpR op_ne (pe_callB call_len_seq (by rfl) T.b_len PySem.boot_len (pa_cons (pv 0) pa_nil)) (pv 2) (nomark _))
        (pw_or1 (pt_not (pt_val (pe_callB (cr_all rfl) (by rfl) T.b_all (by decide +kernel) (pa_cons (pe_lc (own := [("one", 3)]) (g := gName 3) (tt := tYes) rfl nd (pi_tup (pv 0)) (blkOk_by (N := ["value", "lamp", "many", "one"]) (sc := defScope s_are_pushes) (by decide +kernel))
          (fun _ _ _ _ _ => pg_name (i := 3) nd rfl (Or.inl rfl)) (fun _ _ _ _ _ => pts_nil) (fun _ _ _ _ _ => pe_has (ok_is_from T) hr (pa_cons (pv 3) (pa_cons pe_int (pa_cons (pe_glob (v := .int 4) (by rfl) h4 ⟨_, rfl⟩) pa_nil))))) pa_nil)))))))) (pss_one (ps_ret pe_bl)) pss_nil)
      (pss_one (ps_ret (pe_cmpR op_eq (pe_ix ix_tup (pv 0) (pv 1) (fun _ _ => rfl)) pe_int (nomark _)))), ?_⟩
    refine ⟨_, rfl, _, _, _, _, true, rfl, .ty _, .base (.tup ht), k_tup_tup, true, rfl, iteF ?_⟩
    refine ⟨_, rfl, _, _, rfl, .inr (sqT ht), _, rfl, rfl, _, rfl, ?_⟩
    have e1 : (!decide (V.int ((ns.map iv).length : Int) = V.int (ns.length : Int))) = false := by simp
    show if (!decide (V.int ((ns.map iv).length : Int) = V.int (ns.length : Int))) = true then _ else _
    rw [e1]
    refine iteF ?_
    refine ⟨_, rfl, t, rfl, ⟨_, sqT ht⟩, fun D hD => lc_tup (K := K) (a := t) (xs := ns.map iv) (fun i H' => Same H H' ∧ H' D = some (.lst ((List.replicate i true).map V.bl))) ⟨snew hD, upd_same⟩ (fun i H' _ p => sqT (p.1 _ _ ht)) (fun i y H' hy p => ?_) (fun H' p => ?_)⟩
    · obtain ⟨z, hz1, rfl⟩ := map_at hy
      have hi := (List.getElem?_eq_some_iff.mp hz1).1
      obtain ⟨z1, z2⟩ := hz z (List.mem_of_getElem? hz1)
      refine ⟨rfl, lcY ⟨_, rfl, z, 0, 4, rfl, ?_⟩⟩
      refine ⟨_, p.2, sz8 (by simp; omega), sput p.1 hD, ?_⟩
      rw [upd_same, decide_eq_true z1, decide_eq_true z2, List.replicate_succ']
      simp
    · refine ⟨_, _, rfl, SqL.of p.2, true, ?_, iteF ?_⟩
      · simp
      · refine ⟨_, rfl, _, rfl, t, _, _, _, rfl, rfl, sqT (p.1 _ _ ht), atI_nat (j := l) (by rw [List.getElem?_map, hl]; rfl), rfl, ?_⟩
        have e2 : decide (V.int 0 = V.int 0) = true := by simp
        show Q (V.bl (decide (V.int 0 = V.int 0))) H'
        rw [e2]
        exact q H' p.1
end
end KX
end

section
set_option Elab.async false
set_option linter.all false
set_option maxRecDepth 100000
set_option maxHeartbeats 4000000
namespace KX
open PySem PySem.Spec PyProof.Rows L2 KR KM
open He (ga ma)
theorem pget {α β : Type} {F : α → β → Prop} {xs : List α} {ys : List β} (h : Paired F xs ys) {i : Nat} {x : α} (e : xs[i]? = some x) : ∃ y, ys[i]? = some y ∧ F x y := L2.paired_get h e
theorem pget' {α β : Type} {F : α → β → Prop} : ∀ {xs : List α} {ys : List β}, Paired F xs ys → ∀ {i : Nat} {y : β}, ys[i]? = some y → ∃ x, xs[i]? = some x ∧ F x y
  | _, _, .nil, i, y, e => by simp at e
  | _, _, .cons r t, 0, y, e => ⟨_, rfl, by have := Option.some.inj e; subst this; exact r⟩
  | _, _, .cons r t, i + 1, y, e => by
    obtain ⟨x, h1, h2⟩ := pget' t (i := i) (by simpa using e)
    exact ⟨x, by simpa using h1, h2⟩
section
variable {P : Program} {w : World} {K : PySem.W.Frag} {mg : Str → Option Value} {base : Heap}
def sp_init (K : PySem.W.Frag) : Sp := fun vs H Q _ => ∃ (x dx : Addr) (v : V) (M : Pushes), vs = [.ref x, v] ∧ H x = some (.ins (ga K "Hall") dx []) ∧ MT H v M ∧ GoodP M ∧ ∀ H', Same H H' → Q .non (upd H' x (.ins (ga K "Hall") dx [("told", v)]))
theorem sc_init : FnScope ["self", "pushes", "index", "own", "one", "other"] ["self", "pushes"] (defScope sH_init) := ⟨rfl, rfl, rfl, by decide +kernel, rfl, by decide +kernel, by decide +kernel⟩
theorem ok_init (T : Tx K mg) : ∃ fd, FnOk P w K mg base CX0 3 (ma K (ga K "Hall") "__init__") fd ["self", "pushes"] (sp_init K) ∧ Binds K fd ["self", "pushes"] [] := by
  obtain ⟨t8, h8⟩ := T.i_MOST_LAMPS
  obtain ⟨fd, F, b⟩ := T.d_H_init.ex
  refine ⟨fd, F.ok sc_init (fun vs H Q E h => ?_) (fun cdv A outer s H vs Q E hr h => ?_), b⟩
  · obtain ⟨x, dx, v, M, rfl, _⟩ := h
    rfl
  · obtain ⟨x, dx, _, M, rfl, hx, ⟨t, rs, rfl, ht, hp⟩, g, q⟩ := h
    have nd := sc_init.nd
    have lr : rs.length = M.length := Paired.length hp
    have gp := g.pos
    have gm := g.most
    refine ⟨_, pss_cons (ps_if (PW.pt (pw_or (pt_not (pt_val (pe_isB T.b_isinstance T.b_tuple (pv 1) bb_tuple))) (pw_or1 (pt_not (pt_chain op_le op_le pe_int (pe_callB call_len_seq (by rfl) T.b_len PySem.boot_len (pa_cons (pv 1) pa_nil)) (pe_glob (v := .int 8) (by rfl) h8 ⟨_, rfl⟩)))))) (pss_one ps_never) pss_nil)
      (pss_cons (ps_for PassesOwn.never rfl (pi_enumT (by rfl) T.b_enumerate (pa_cons (pv 1) pa_nil)) (pg_tup rfl (pgs_cons (pg_name (i := 2) nd rfl (Or.inl rfl)) (pgs_cons (pg_name (i := 3) nd rfl (Or.inl rfl)) pgs_nil)))
        (pss_one (ps_if (pt_not (pt_val (pe_has (ok_are_pushes T) hr (pa_cons (pv 3) (pa_cons (pv 2) (pa_cons (pe_callB call_len_seq (by rfl) T.b_len PySem.boot_len (pa_cons (pv 1) pa_nil)) pa_nil)))))) (pss_one ps_never) pss_nil)))
      (pss_cons (ps_for PassesOwn.never rfl (pi_enumT (by rfl) T.b_enumerate (pa_cons (pv 1) pa_nil)) (pg_tup rfl (pgs_cons (pg_name (i := 4) nd rfl (Or.inl rfl)) (pgs_cons (pg_name (i := 3) nd rfl (Or.inl rfl)) pgs_nil)))
        (pss_one (ps_for PassesOwn.never rfl (pi_range2 (by rfl) T.b_range (pa_cons (pe_op op_add (pv 4) pe_int) (pa_cons (pe_callB call_len_seq (by rfl) T.b_len PySem.boot_len (pa_cons (pv 1) pa_nil)) pa_nil))) (pg_name (i := 5) nd rfl (Or.inl rfl))
          (pss_one (ps_if (pt_cmpR op_ne (pe_cmpR op_eq (pe_ix ix_tup (pv 3) (pv 5) (fun _ _ => rfl)) pe_int (nomark _)) (pe_cmpR op_eq (pe_ix ix_tup (pe_ix ix_tup (pv 1) (pv 5) (fun _ _ => rfl)) (pv 4) (fun _ _ => rfl)) pe_int (nomark _)) (nomark _)) (pss_one ps_never) pss_nil)))))
      (pss_one (ps_fld (pv 0) (pv 1) rfl)))), ?_⟩
    -- the first test
    refine ⟨_, rfl, _, _, _, _, true, rfl, .ty _, .base (.tup ht), k_tup_tup, true, rfl, iteF ?_⟩
    refine ⟨_, rfl, _, _, rfl, .inr (sqT ht), _, _, rfl, rfl, _, rfl, ?_⟩
    rw [decide_eq_true (show (1 : Int) ≤ (rs.length : Int) by omega)]
    refine iteT ⟨_, _, rfl, rfl, _, rfl, ?_⟩
    rw [decide_eq_true (show (rs.length : Int) ≤ 8 by omega)]
    refine iteF ?_
    -- each row
    refine ⟨_, rfl, t, rs, rfl, sqT ht, for_it (walkE (K := K) (a := t) (ys := rs)) (fun i σ H' => ∃ v w, σ = [some (.ref x), some (.ref t), v, w, none, none] ∧ Same H H') ⟨none, none, rfl, Same.refl H⟩ (fun i σ H' _ ⟨_, _, _, e⟩ => sqT (e _ _ ht)) ?_ ?_⟩
    · rintro i y σ H' H'' hi ⟨v1, w1, rfl, e⟩ ⟨Tn, z1, z2, rfl, hT, rfl, k1, k2⟩
      cases k1
      obtain ⟨r, hr1, hr2⟩ := pget hp k2
      have hrm := List.mem_of_getElem? hr1
      have e' : Same H (upd H' Tn (.tup [.int (i : Nat), z2])) := e.trans (snew hT)
      refine ⟨Tn, _, rfl, sqT upd_same, rfl, _, _, rfl, _, _, rfl, rfl, ?_⟩
      refine ⟨_, rfl, _, rfl, _, rfl, _, _, rfl, .inr (sqT (e' _ _ ht)), z2, i, r, ?_, hr2.same e', g.rng r hrm, g.diag i r hr1, by have := g.rows r hrm; omega, fun H3 e3 => ⟨true, rfl, iteF ?_⟩⟩
      · have := g.rows r hrm
        rw [lr, this]
        rfl
      · exact ⟨_, _, rfl, e'.trans e3⟩
    · rintro σ H' ⟨v1, w1, rfl, e⟩
      -- each pair
      refine ⟨_, rfl, t, rs, rfl, sqT (e _ _ ht), for_it (walkE (K := K) (a := t) (ys := rs)) (fun i σ H' => ∃ v w u p, σ = [some (.ref x), some (.ref t), v, w, u, p] ∧ Same H H') ⟨v1, w1, none, none, rfl, e⟩ (fun i σ H' _ ⟨_, _, _, _, _, e⟩ => sqT (e _ _ ht)) ?_ ?_⟩
      · rintro i y σ H' H'' hi ⟨v1, w1, u1, p1, rfl, e⟩ ⟨Tn, z1, z2, rfl, hT, rfl, k1, k2⟩
        cases k1
        obtain ⟨r, hr1, tr, er, hr2⟩ := pget hp k2
        subst er
        have hrm := List.mem_of_getElem? hr1
        have hrl := g.rows r hrm
        have e' : Same H (upd H' Tn (.tup [.int (i : Nat), .ref tr])) := e.trans (snew hT)
        refine ⟨Tn, _, rfl, sqT upd_same, rfl, _, _, rfl, _, _, rfl, rfl, ?_⟩
        refine ⟨_, rfl, _, _, rfl, rfl, _, rfl, _, _, rfl, .inr (sqT (e' _ _ ht)), _, _, rfl, ⟨by omega, by omega, by omega, by omega⟩, for_it walk_range (fun j σ H' => ∃ v p, σ = [some (.ref x), some (.ref t), v, some (.ref tr), some (.int (i : Nat)), p] ∧ Same H H') ⟨_, _, rfl, e'⟩ (fun _ _ _ _ _ => trivial) ?_ ?_⟩
        · rintro j y σ H3 H4 hj ⟨v3, p3, rfl, e3⟩ ⟨rfl, rfl⟩
          have ej : (i : Int) + 1 + (j : Int) = ((i + 1 + j : Nat) : Int) := by omega
          have hj2 : i + 1 + j < rs.length := by omega
          obtain ⟨z3, k3⟩ : ∃ z, rs[i + 1 + j]? = some z := ⟨_, List.getElem?_eq_getElem hj2⟩
          obtain ⟨r', hq1, tq, eq, hq2⟩ := pget hp k3
          subst eq
          have hql := g.rows r' (List.mem_of_getElem? hq1)
          obtain ⟨a1, ha1⟩ : ∃ z, r[i + 1 + j]? = some z := ⟨_, List.getElem?_eq_getElem (by omega)⟩
          obtain ⟨a2, ha2⟩ : ∃ z, r'[i]? = some z := ⟨_, List.getElem?_eq_getElem (by omega)⟩
          have sy := g.sym i (i + 1 + j) r r' a1 a2 hr1 ha1 hq1 ha2
          refine ⟨_, rfl, _, rfl, tr, _, _, _, rfl, rfl, sqT (e3 _ _ hr2), at_of (j := i + 1 + j) ej (by rw [List.getElem?_map, ha1]; rfl), rfl, ?_⟩
          refine ⟨_, rfl, _, rfl, t, _, _, _, rfl, rfl, sqT (e3 _ _ ht), at_of (j := i + 1 + j) ej k3, _, rfl, tq, _, _, _, rfl, rfl, sqT (e3 _ _ hq2), atI_nat (j := i) (by rw [List.getElem?_map, ha2]; rfl), rfl, rfl, _, rfl, ?_⟩
          have ez : decide (V.bl (decide (iv a1 = V.int 0)) = V.bl (decide (iv a2 = V.int 0))) = true := by
            rw [dec_bl]
            have b1 : decide (iv a1 = V.int 0) = decide (a1 = 0) := by simp [iv]
            have b2 : decide (iv a2 = V.int 0) = decide (a2 = 0) := by simp [iv]
            rw [b1, b2]
            simp [sy]
          rw [ez]
          exact iteF ⟨_, _, rfl, e3⟩
        · rintro σ H3 ⟨v3, p3, rfl, e3⟩
          exact ⟨_, _, _, _, rfl, e3⟩
      · rintro σ H' ⟨v1, w1, u1, p1, rfl, e⟩
        exact ⟨_, rfl, _, rfl, x, _, dx, [], rfl, e _ _ hx, T.cl, T.noT, by decide, q H' e⟩
end
end KX
end

section
set_option Elab.async false
set_option linter.all false
set_option maxRecDepth 100000
set_option maxHeartbeats 4000000
namespace KX
open PySem PySem.Spec PyProof.Rows L2 KR KM
open He (ga ma)
section
variable {P : Program} {w : World} {K : PySem.W.Frag} {mg : Str → Option Value} {base : Heap}
/-! ### len(hall) -/
def sp_len (K : PySem.W.Frag) : Sp := fun vs H Q _ => ∃ (x : V) (M : Pushes), vs = [x] ∧ HaT K H x M ∧ Q (.int M.length) H
theorem sc_len : FnScope ["self"] ["self"] (defScope sH_len) := ⟨rfl, rfl, rfl, by decide +kernel, rfl, by decide +kernel, by decide +kernel⟩
theorem ok_len (T : Tx K mg) : ∃ fd, FnOk P w K mg base CX0 1 (ma K (ga K "Hall") "__len__") fd ["self"] (sp_len K) ∧ Binds K fd ["self"] [] := by
  obtain ⟨fd, F, b⟩ := T.d_H_len.ex
  refine ⟨fd, F.ok sc_len (fun vs H Q E h => ?_) (fun cdv A outer s H vs Q E hr h => ?_), b⟩
  · obtain ⟨x, M, rfl, _⟩ := h
    rfl
  · obtain ⟨x, M, rfl, ⟨a, dx, v, rfl, ha, ⟨t, rs, rfl, ht, hp⟩, g⟩, q⟩ := h
    refine ⟨_, pss_one (ps_ret (pe_callB call_len_seq (by rfl) T.b_len PySem.boot_len (pa_cons (pe_fld (pv 0) rfl) pa_nil))), ?_⟩
    refine ⟨_, rfl, a, _, dx, _, _, rfl, ha, T.cl, T.noT, rfl, t, _, rfl, .inr (sqT ht), ?_⟩
    have e : rs.length = M.length := Paired.length hp
    rw [e]
    exact q
/-- len(hall), the hall in slot i -/
def tLenH (K : PySem.W.Frag) (i : Nat) : TE := fun σ H Q => ∃ x M, σ[i]? = some (some x) ∧ HaT K H x M ∧ Q (.int M.length) H
theorem pe_lenH {X : Cx} (i : Nat) {x : Str} {p q pos : Pos} (T : Tx X.K X.mg) (hr : Room 2 X.A) (hN : X.N[i]? = some x := by rfl) (hv : Vis X.env.scope x := by first | exact Or.inl rfl | exact Or.inr (Or.inl rfl) | exact Or.inr (Or.inr rfl)) (hg : Gl X "len" := by rfl)
    (hd : (x == ("__debug__" : Str)) = false := by decide) (hcd : (x == ("__classdict__" : Str)) = false := by decide)
    (h1 : starEach [.Name x q] X.env = (false, eval (.Name x q) X.env) :: starEach [] X.env := by rfl) (h2 : (backTo pos (starEach [] X.env)).any (·.1) = false := by rfl) : PE X (.Call (.Name "len" p) [.Name x q] [] pos) (tLenH X.K i) := by
  obtain ⟨fd, F, b⟩ := ok_len (P := X.prog) (w := X.w) (base := X.base) T
  refine ⟨fun pins s σ H Q I ⟨y, M, e, ha, qq⟩ => ?_⟩
  refine (pe_callB (call_lenO T.mLen F hr b) hg T.b_len PySem.boot_len (pa_cons (pv i hN hv hd hcd) pa_nil h1) (by decide) (by decide) h1 h2).run pins s σ H Q I ?_
  obtain ⟨a, dx, v, rfl, h3, h4, g⟩ := id ha
  have gm := g.most
  exact ⟨_, e, a, dx, _, rfl, h3, _, M, rfl, ha, _, rfl, ⟨by omega, by omega⟩, qq⟩
/-! ### need_hall -/
def sp_need_hall (K : PySem.W.Frag) : Sp := fun vs H Q _ => ∃ (x : V) (M : Pushes), vs = [x] ∧ HaT K H x M ∧ Q .non H
theorem sc_need_hall : FnScope ["hall"] ["hall"] (defScope s_need_hall) := ⟨rfl, rfl, rfl, by decide +kernel, rfl, by decide +kernel, by decide +kernel⟩
theorem pe_isH {X : Cx} {e : Expr} {te : TE} {p q pos : Pos} (T : Tx X.K X.mg) (he : PE X e te) (hg : Gl X "isinstance" := by rfl) (hg2 : Gl X "Hall" := by rfl)
    (h1 : starEach [e, .Name "Hall" q] X.env = (false, eval e X.env) :: starEach [.Name "Hall" q] X.env := by rfl) (h2 : (backTo pos (starEach [.Name "Hall" q] X.env)).any (·.1) = false := by rfl) (h3 : starEach [.Name "Hall" q] X.env = (false, eval (.Name "Hall" q) X.env) :: starEach [] X.env := by rfl) :
    PE X (.Call (.Name "isinstance" p) [e, .Name "Hall" q] [] pos) (tCB (rIsi X.K) (tCons te (tCons (tC (.ref (ga X.K "Hall"))) tNil))) :=
  pe_callB call_isi hg T.b_isinstance (by decide +kernel) (pa_cons he (pa_cons (pe_glob (v := .ref (ga X.K "Hall")) hg2 T.g_Hall rfl) pa_nil h3) h1) (by decide) (by decide) h1 h2
theorem ok_need_hall (T : Tx K mg) : Has P w K mg base 1 "need_hall" ["hall"] (sp_need_hall K) := by
  refine has_of T.d_need_hall T.g_need_hall sc_need_hall (fun vs H Q E h => ?_) (fun cdv A outer s H vs Q E hr h => ?_)
  · obtain ⟨x, M, rfl, _⟩ := h
    rfl
  · obtain ⟨x, M, rfl, ⟨a, dx, v, rfl, ha, hm, g⟩, q⟩ := h
    refine ⟨_, pss_one (ps_if (pt_not (pt_val (pe_isH T (pv 0)))) (pss_one ps_never) pss_nil), ?_⟩
    exact ⟨_, rfl, _, _, _, _, true, rfl, .own _, ty_hall T ha, kit_own, true, rfl, iteF q⟩
/-! ### are_numbers, need_numbers -/
def sp_are_numbers (K : PySem.W.Frag) : Sp := fun vs H Q _ => ∃ (h x : V) (M : Pushes) (ns : List Int), vs = [h, x] ∧ HaT K H h M ∧ IT H x ns ∧ ns.length = M.length ∧ ∀ H', Same H H' → Q (.bl true) H'
theorem sc_are_numbers : FnScope ["hall", "value", "one"] ["hall", "value"] (defScope s_are_numbers) := ⟨rfl, rfl, rfl, by decide +kernel, rfl, by decide +kernel, by decide +kernel⟩
theorem ok_are_numbers (T : Tx K mg) : Has P w K mg base 3 "are_numbers" ["hall", "value"] (sp_are_numbers K) := by
  refine has_of T.d_are_numbers T.g_are_numbers sc_are_numbers (fun vs H Q E h => ?_) (fun cdv A outer s H vs Q E hr h => ?_)
  · obtain ⟨h, x, M, ns, rfl, _⟩ := h
    rfl
  · obtain ⟨h, x, M, ns, rfl, hh, ⟨t, rfl, ht⟩, hl, q⟩ := h
    have nd := sc_are_numbers.nd
    have g : GoodP M := by obtain ⟨_, _, _, _, _, _, g⟩ := hh; exact g
    have gm := g.most
    refine ⟨_, pss_cons (ps_if (PW.pt (pw_or (pt_not (pt_val (pe_isB T.b_isinstance T.b_tuple (pv 1) bb_tuple))) (pw_or1 (pt_cmpR op_ne (pe_callB call_len_seq (by rfl) T.b_len PySem.boot_len (pa_cons (pv 1) pa_nil)) (pe_lenH 0 T hr) (nomark _))))) (pss_one (ps_ret pe_bl)) pss_nil)
      (pss_one (ps_ret (pe_callB (cr_all rfl) (by rfl) T.b_all (by decide +kernel) (pa_cons (pe_lc (own := [("one", 2)]) (g := gName 2) (tt := tYes) (te := tAndV (tCB (rIsi K) (tCons (tVar 2) (tCons (tC (.ty "int")) tNil))) (tNotV (tCB (rIsi K) (tCons (tVar 2) (tCons (tC (.ty "bool")) tNil))))) rfl nd (pi_tup (pv 1)) (blkOk_by (N := ["hall", "value", "one"]) (sc := defScope s_are_numbers) (by decide +kernel))
          (fun _ _ _ _ _ => pg_name (i := 2) nd rfl (Or.inl rfl)) (fun _ _ _ _ _ => pts_nil) (fun _ _ _ _ _ => pe_and (pe_isB T.b_isinstance T.b_int (pv 2) bb_int) (pe_one (pe_not (pe_isB T.b_isinstance T.b_bool (pv 2) bb_bool))))) pa_nil)))), ?_⟩
    refine ⟨_, rfl, _, _, _, _, true, rfl, .ty _, .base (.tup ht), k_tup_tup, true, rfl, iteF ?_⟩
    refine ⟨_, rfl, _, _, rfl, .inr (sqT ht), _, M, rfl, hh, rfl, _, rfl, ?_⟩
    rw [show (!decide (V.int ((ns.map iv).length : Int) = V.int (M.length : Int))) = false by simp [hl]]
    refine iteF ?_
    refine ⟨_, rfl, t, rfl, ⟨_, sqT ht⟩, fun D hD => lc_tup (K := K) (a := t) (xs := ns.map iv) (fun i H' => Same H H' ∧ H' D = some (.lst ((List.replicate i true).map V.bl))) ⟨snew hD, upd_same⟩ (fun i H' _ p => sqT (p.1 _ _ ht)) (fun i y H' hy p => ?_) (fun H' p => ?_)⟩
    · obtain ⟨z, hz1, rfl⟩ := map_at hy
      have hi := (List.getElem?_eq_some_iff.mp hz1).1
      refine ⟨rfl, lcY ⟨_, rfl, _, _, _, _, true, rfl, .ty _, .base (.int _), k_int_int, true, rfl, iteT ⟨_, rfl, _, _, _, _, false, rfl, .ty _, .base (.int _), k_int_bool, false, rfl, ?_⟩⟩⟩
      refine ⟨_, p.2, sz8 (by simp; omega), sput p.1 hD, ?_⟩
      rw [upd_same, List.replicate_succ']
      simp
    · refine ⟨_, _, rfl, SqL.of p.2, ?_⟩
      have e : ((List.replicate (ns.map iv).length true).all id) = true := by simp
      rw [e]
      exact q H' p.1
def sp_need_numbers (K : PySem.W.Frag) : Sp := fun vs H Q _ => ∃ (h x : V) (M : Pushes) (ns : List Int), vs = [h, x] ∧ HaT K H h M ∧ IT H x ns ∧ ns.length = M.length ∧ ∀ H', Same H H' → Q .non H'
theorem sc_need_numbers : FnScope ["hall", "numbers"] ["hall", "numbers"] (defScope s_need_numbers) := ⟨rfl, rfl, rfl, by decide +kernel, rfl, by decide +kernel, by decide +kernel⟩
theorem ok_need_numbers (T : Tx K mg) : Has P w K mg base 4 "need_numbers" ["hall", "numbers"] (sp_need_numbers K) := by
  refine has_of T.d_need_numbers T.g_need_numbers sc_need_numbers (fun vs H Q E h => ?_) (fun cdv A outer s H vs Q E hr h => ?_)
  · obtain ⟨h, x, M, ns, rfl, _⟩ := h
    rfl
  · obtain ⟨h, x, M, ns, rfl, hh, hx, hl, q⟩ := h
    refine ⟨_, pss_cons (ps_expr (pe_has ((ok_need_hall T).mono (by decide)) hr (pa_cons (pv 0) pa_nil))) (pss_one (ps_if (pt_not (pt_val (pe_has (ok_are_numbers T) hr (pa_cons (pv 0) (pa_cons (pv 1) pa_nil))))) (pss_one ps_never) pss_nil)), ?_⟩
    refine ⟨_, rfl, _, M, rfl, hh, ?_⟩
    exact ⟨_, rfl, _, rfl, _, _, M, ns, rfl, hh, hx, hl, fun H' e => ⟨true, rfl, iteF (q H' e)⟩⟩
/-! ### able_of -/
def ableI (xs : List Int) : List Int := (able xs).map fun (k : Nat) => (k : Int)
def sp_able_of : Sp := fun vs H Q _ => ∃ (x : V) (ns : List Int), vs = [x] ∧ IT H x ns ∧ ns.length ≤ 8 ∧ ∀ v H', Same H H' → IT H' v (ableI ns) → Q v H'
theorem sc_able_of : FnScope ["numbers", "lamp", "number"] ["numbers"] (defScope s_able_of) := ⟨rfl, rfl, rfl, by decide +kernel, rfl, by decide +kernel, by decide +kernel⟩
theorem ok_able_of (T : Tx K mg) : Has P w K mg base 1 "able_of" ["numbers"] sp_able_of := by
  refine has_of T.d_able_of T.g_able_of sc_able_of (fun vs H Q E h => ?_) (fun cdv A outer s H vs Q E hr h => ?_)
  · obtain ⟨x, ns, rfl, _⟩ := h
    rfl
  · obtain ⟨x, ns, rfl, ⟨t, rfl, ht⟩, h8, q⟩ := h
    have nd := sc_able_of.nd
    refine ⟨_, pss_one (ps_ret (pe_callTy call_tuple_of (by rfl) T.b_tuple (by decide +kernel) (pa_cons (pe_lc (own := [("lamp", 1), ("number", 2)]) (g := gTup K 2 (gCons (gName 1) (gCons (gName 2) gNil))) rfl nd (pi_enumT (by rfl) T.b_enumerate (pa_cons (pv 0) pa_nil)) (blkOk_by (N := ["numbers", "lamp", "number"]) (sc := defScope s_able_of) (by decide +kernel))
      (fun _ _ _ _ _ => pg_tup rfl (pgs_cons (pg_name (i := 1) nd rfl (Or.inl rfl)) (pgs_cons (pg_name (i := 2) nd rfl (Or.inl rfl)) pgs_nil))) (fun _ _ _ _ _ => pts_one (pt_cmpR op_lt (pv 2) pe_int (nomark _))) (fun _ _ _ _ _ => pv 1)) pa_nil))), ?_⟩
    refine ⟨_, rfl, t, _, rfl, sqT ht, fun D hD => lc_it (walkE (K := K) (a := t) (ys := ns.map iv)) (fun i H' => Same H H' ∧ H' D = some (.lst (((List.range i).filter fun j => decide (ns.getD j 0 < 0)).map fun (j : Nat) => V.int j))) ⟨snew hD, upd_same⟩ (fun i H' _ p => sqT (p.1 _ _ ht)) (fun i y H' H'' hi p y2 => ?_) (fun H' p => ?_)⟩
    · obtain ⟨Tn, z1, z2, rfl, hT, rfl, k1, k2⟩ := y2
      cases k1
      obtain ⟨z, hz1, rfl⟩ := map_at k2
      have e' : Same H (upd H' Tn (.tup [.int (i : Nat), iv z])) := p.1.trans (snew hT)
      have hD' : (upd H' Tn (.tup [.int (i : Nat), iv z])) D = some (.lst (((List.range i).filter fun j => decide (ns.getD j 0 < 0)).map fun (j : Nat) => V.int j)) := by
        rw [upd_ne (ne_of_none p.2 hT)]; exact p.2
      have ez : ns.getD i 0 = z := by rw [List.getD_eq_getElem?_getD, hz1]; rfl
      refine ⟨Tn, _, rfl, sqT upd_same, rfl, _, _, rfl, _, _, rfl, rfl, rfl, ?_⟩
      refine ⟨_, rfl, _, _, rfl, rfl, _, rfl, ?_⟩
      rw [List.range_succ, List.filter_append]
      refine ite2 (fun c => ?_) (fun c => ?_)
      · refine ⟨_, rfl, _, hD', sz8 ?_, sput e' hD, ?_⟩
        · rw [List.length_map]
          have := List.length_filter_le (fun j => decide (ns.getD j 0 < 0)) (List.range i)
          rw [List.length_range] at this
          rw [List.length_map] at hi
          omega
        · rw [upd_same]
          have c' : decide (ns.getD i 0 < 0) = true := by rw [ez]; exact c
          simp only [List.filter_cons, c', if_true, List.filter_nil, List.map_append, List.map_cons, List.map_nil]
      · have c' : decide (ns.getD i 0 < 0) = false := by rw [ez]; exact eq_false_of_ne_true c
        refine ⟨e', ?_⟩
        rw [hD']
        rw [List.filter_cons, c']
        simp only [List.filter_nil, Bool.false_eq_true, if_false, List.append_nil]
    · refine ⟨D, _, rfl, .inl ⟨SqL.of p.2, fun l hl => ?_⟩⟩
      refine q _ _ (p.1.trans (snew hl)) ⟨l, rfl, ?_⟩
      rw [upd_same]
      unfold ableI able
      simp [List.map_map, Function.comp_def]
end
end KX
end

section
set_option Elab.async false
set_option linter.all false
set_option maxRecDepth 100000
set_option maxHeartbeats 4000000
namespace KX
open PySem PySem.Spec PyProof.Rows L2 KR KM
open He (ga ma)
theorem getD_of {α : Type} {xs : List α} {i : Nat} {z d : α} (h : xs[i]? = some z) : xs.getD i d = z := by rw [List.getD_eq_getElem?_getD, h]; rfl
theorem ixN_nat {n i : Nat} (h : i < n) : ixN n (i : Int) = some i := by
  unfold ixN
  simp [h]
section
variable {P : Program} {w : World} {K : PySem.W.Frag} {mg : Str → Option Value} {base : Heap}
/-! ### changed -/
def sp_changed (K : PySem.W.Frag) : Sp := fun vs H Q _ => ∃ (h x : V) (l : Nat) (M : Pushes) (ns : List Int), vs = [h, x, .int l] ∧ HaT K H h M ∧ IT H x ns ∧ ns.length = M.length ∧ l < M.length ∧ ∀ v H', Same H H' → IT H' v (press M ns l) → Q v H'
theorem sc_changed : FnScope ["hall", "numbers", "lamp", "own", "found", "number", "many"] ["hall", "numbers", "lamp"] (defScope s_changed) := ⟨rfl, rfl, rfl, by decide +kernel, rfl, by decide +kernel, by decide +kernel⟩
theorem ok_changed (T : Tx K mg) : Has P w K mg base 1 "changed" ["hall", "numbers", "lamp"] (sp_changed K) := by
  refine has_of T.d_changed T.g_changed sc_changed (fun vs H Q E h => ?_) (fun cdv A outer s H vs Q E hr h => ?_)
  · obtain ⟨_, _, _, _, _, rfl, _⟩ := h
    rfl
  · obtain ⟨_, _, l, M, ns, rfl, ⟨a, dx, v, rfl, ha, ⟨tm, rs, rfl, htm, hp⟩, g⟩, ⟨t, rfl, ht⟩, hl, hlt, q⟩ := h
    have nd := sc_changed.nd
    have gm := g.most
    obtain ⟨own, ho⟩ : ∃ z, ns[l]? = some z := ⟨_, List.getElem?_eq_getElem (by omega)⟩
    obtain ⟨row, hrw⟩ : ∃ z, M[l]? = some z := ⟨_, List.getElem?_eq_getElem hlt⟩
    obtain ⟨_, hr1, tr, rfl, hr2⟩ := pget' hp hrw
    have hrl := g.rows row (List.mem_of_getElem? hrw)
    have hrg := g.rng row (List.mem_of_getElem? hrw)
    have eO : ns.getD l 0 = own := getD_of ho
    have eR : M.getD l [] = row := getD_of hrw
    refine ⟨_, pss_cons (ps_set (i := 3) nd rfl (Or.inr rfl) (pe_ix ix_tup (pv 1) (pv 2) (fun _ _ => rfl)))
      (pss_cons (ps_setLc (i := 4) (own := [("number", 5), ("many", 6)]) (g := gTup K 2 (gCons (gName 5) (gCons (gName 6) gNil))) (tt := tYes) rfl nd rfl rfl (sw_true rfl rfl rfl (by decide +kernel))
        (RZ.pi_zipA (by rfl) T.b_zip (pa_cons (pv 1) (pa_cons (pe_ix ix_tup (pe_fld (pv 0) rfl) (pv 2) (fun _ _ => rfl)) pa_nil))) (blkOk_by (N := ["hall", "numbers", "lamp", "own", "found", "number", "many"]) (sc := defScope s_changed) (by decide +kernel))
        (fun _ _ _ _ _ => pg_tup rfl (pgs_cons (pg_name (i := 5) nd rfl (Or.inl rfl)) (pgs_cons (pg_name (i := 6) nd rfl (Or.inl rfl)) pgs_nil))) (fun _ _ _ _ _ => pts_nil) (fun _ _ _ _ _ => pe_op op_add (pv 5) (pe_op op_mul (pv 6) (pv 3))))
      (pss_cons (ps_asg (pe_un un_neg (pv 3)) (pg_sub (pv 4) (pv 2) set_list))
      (pss_one (ps_ret (pe_callTy call_tuple_of (by rfl) T.b_tuple (by decide +kernel) (pa_cons (pv 4) pa_nil)))))), ?_⟩
    refine ⟨_, rfl, _, rfl, t, _, _, _, rfl, rfl, sqT ht, atI_nat (j := l) (by rw [List.getElem?_map, ho]; rfl), ?_⟩
    refine ⟨_, rfl, _, rfl, a, _, dx, _, _, rfl, ha, T.cl, T.noT, rfl, _, rfl, tm, _, _, _, rfl, rfl, sqT htm, atI_nat (j := l) hr1, t, tr, _, _, rfl, .inr ⟨sqT ht, sqT hr2, fun D hD => ?_⟩⟩
    refine lc_it (walkZ (K := K) (a := t) (b := tr) (xs := ns.map iv) (ys := row.map iv) (n := ns.length) (by simp) (by simp; omega)) (fun i H' => Same H H' ∧ H' D = some (.lst (((List.zipWith (fun x m => x + m * own) ns row).take i).map iv))) ⟨snew hD, upd_same⟩ (fun i H' _ p => ⟨sqT (p.1 _ _ ht), sqT (p.1 _ _ hr2)⟩) (fun i y H' H'' hi p y2 => ?_) (fun H' p => ?_)
    · obtain ⟨Tn, z1, z2, rfl, hT, rfl, k1, k2⟩ := y2
      obtain ⟨x, hx1, rfl⟩ := map_at k1
      obtain ⟨m, hm1, rfl⟩ := map_at k2
      obtain ⟨g1, g2⟩ := hrg m (List.mem_of_getElem? hm1)
      have e' : Same H (upd H' Tn (.tup [iv x, iv m])) := p.1.trans (snew hT)
      refine ⟨Tn, _, rfl, sqT upd_same, rfl, _, _, rfl, _, _, rfl, rfl, rfl, lcY ?_⟩
      refine ⟨_, rfl, _, rfl, _, rfl, _, _, rfl, rfl, .inl ⟨by omega, by omega⟩, _, _, rfl, rfl, _, by rw [upd_ne (ne_of_none p.2 hT)]; exact p.2, sz8 ?_, sput e' hD, ?_⟩
      · rw [List.length_map, List.length_take]; omega
      · rw [upd_same]
        have hz : (List.zipWith (fun x m => x + m * own) ns row)[i]? = some (x + m * own) := by
          rw [List.getElem?_zipWith, hx1, hm1]
        rw [List.take_add_one, hz, List.map_append]
        rfl
    · have lz : (List.zipWith (fun x m => x + m * own) ns row).length = ns.length := by rw [List.length_zipWith]; omega
      rw [List.take_of_length_le (Nat.le_of_eq lz)] at p
      refine ⟨_, rfl, _, rfl, _, rfl, _, rfl, D, _, _, l, rfl, rfl, p.2, ixN_nat (by rw [List.length_map, lz]; omega), ?_⟩
      refine ⟨_, rfl, D, _, rfl, .inl ⟨SqL.of upd_same, fun l2 hl2 => ?_⟩⟩
      refine q _ _ ((sput p.1 hD).trans (snew hl2)) ⟨l2, rfl, ?_⟩
      rw [upd_same]
      unfold press
      rw [eO, eR, List.map_set]
end
end KX
end

section
set_option Elab.async false
set_option linter.all false
set_option maxRecDepth 100000
set_option maxHeartbeats 4000000
namespace KX
open PySem PySem.Spec PyProof.Rows L2 KR KM
open He (ga ma)
def lostD : PyData := .tuple [.str "lost"]
def entD : Ent → PyData
  | .pressed l => .tuple [.str "pressed", .int l]
  | .lost => lostD
  | .seen l z => .tuple [.str "seen", .int l, .int z]
theorem lost_shaped : SeqAt.shaped lostD = true := by decide +kernel
theorem ent_shaped : ∀ e, SeqAt.shaped (entD e) = true := fun e => by
  cases e with
  | lost => exact lost_shaped
  | pressed l => simp [entD, SeqAt.shaped, PyData.canLay0, PyData.canLayAll0, PyData.depth, PyData.depthAll]; decide +kernel
  | seen l z => simp [entD, SeqAt.shaped, PyData.canLay0, PyData.canLayAll0, PyData.depth, PyData.depthAll]; decide +kernel
theorem str_ps : (Str.ofString "pressed" == Str.ofString "seen") = false := by decide +kernel
theorem ent_eqv : ∀ e, PyData.eqv (entD e) lostD = decide (e = .lost)
  | .pressed l => by simp [entD, lostD, PyData.eqv, PyData.eqvAll]
  | .lost => by simp [entD, lostD, PyData.eqv, PyData.eqvAll]
  | .seen l z => by simp [entD, lostD, PyData.eqv, PyData.eqvAll]
def entOk (n : Nat) : Ent → Prop
  | .pressed l => l < n
  | .lost => True
  | .seen l _ => l < n
section
variable {K : PySem.W.Frag} {H : Hp}
theorem dp_ent {x : V} {e : Ent} (h : EnT H x e) : Dp K H x (entD e) := by
  obtain ⟨t, rfl, ht⟩ := h
  cases e with
  | pressed l => exact .tup (sqT ht) (.cons (.str _) (.cons (.int _) .nil))
  | lost => exact .tup (sqT ht) (.cons (.str _) .nil)
  | seen l z => exact .tup (sqT ht) (.cons (.str _) (.cons (.int _) (.cons (.int _) .nil)))
theorem dp_lost {mg : Str → Option Value} (T : Tx K mg) : Dp K H (.ref (ga K "LOST")) lostD := .tup (T.lost H) (.cons (.str _) .nil)
theorem r_lost {x y : V} {e : Ent} {Q : VK} (h : EnT H x e) (h2 : Dp K H y lostD) (q : Q (.bl (decide (e = .lost))) H) : rEqD K x y H Q :=
  ⟨_, _, dp_ent h, h2, ent_shaped e, lost_shaped, by rw [ent_eqv]; exact q⟩
end
section
variable {P : Program} {w : World} {K : PySem.W.Frag} {mg : Str → Option Value} {base : Heap}
def sp_is_entry (K : PySem.W.Frag) : Sp := fun vs H Q _ => ∃ (h x : V) (M : Pushes) (e : Ent), vs = [h, x] ∧ HaT K H h M ∧ EnT H x e ∧ entOk M.length e ∧ ∀ H', Same H H' → Q (.bl true) H'
theorem sc_is_entry : FnScope ["hall", "value"] ["hall", "value"] (defScope s_is_entry) := ⟨rfl, rfl, rfl, by decide +kernel, rfl, by decide +kernel, by decide +kernel⟩
theorem ok_is_entry (T : Tx K mg) : Has P w K mg base 3 "is_entry" ["hall", "value"] (sp_is_entry K) := by
  refine has_of T.d_is_entry T.g_is_entry sc_is_entry (fun vs H Q E h => ?_) (fun cdv A outer s H vs Q E hr h => ?_)
  · obtain ⟨_, _, _, _, rfl, _⟩ := h
    rfl
  · obtain ⟨h, x, M, e, rfl, hh, ⟨t, rfl, ht⟩, ok, q⟩ := h
    have g : GoodP M := by obtain ⟨_, _, _, _, _, _, g⟩ := hh; exact g
    refine ⟨_, pss_cons (ps_if (PW.pt (pw_or (pt_not (pt_val (pe_isB T.b_isinstance T.b_tuple (pv 1) bb_tuple))) (pw_or (pt_cmpR op_notIn_seq (pe_callB call_len_seq (by rfl) T.b_len PySem.boot_len (pa_cons (pv 1) pa_nil)) (pe_tup (pa_cons pe_int (pa_cons pe_int (pa_cons pe_int pa_nil)))) (by rfl))
        (pw_or1 (pt_not (pt_val (pe_isB T.b_isinstance T.b_str (pe_ix ix_tup (pv 1) pe_int (fun _ _ => rfl)) bb_str))))))) (pss_one (ps_ret pe_bl)) pss_nil)
      (pss_cons (ps_if (pt_cmpR op_eq (pe_callB call_len_seq (by rfl) T.b_len PySem.boot_len (pa_cons (pv 1) pa_nil)) pe_int (nomark _)) (pss_one (ps_ret (pe_cmpR (op_eqD hr.units) (pv 1) (pe_glob (v := .ref (ga K "LOST")) (by rfl) T.g_LOST rfl) (nomark _)))) pss_nil)
      (pss_cons (ps_if (pt_not (pt_val (pe_has ((ok_is_from T).mono (by decide)) hr (pa_cons (pe_ix ix_tup (pv 1) pe_int (fun _ _ => rfl)) (pa_cons pe_int (pa_cons (pe_op op_sub (pe_lenH 0 T hr) pe_int) pa_nil)))))) (pss_one (ps_ret pe_bl)) pss_nil)
      (pss_cons (ps_if (pt_cmpR op_eq (pe_callB call_len_seq (by rfl) T.b_len PySem.boot_len (pa_cons (pv 1) pa_nil)) pe_int (nomark _)) (pss_one (ps_ret (pe_cmpR op_eq (pe_ix ix_tup (pv 1) pe_int (fun _ _ => rfl)) pe_str (nomark _)))) pss_nil)
      (pss_one (ps_ret (pe_and (pe_cmpR op_eq (pe_ix ix_tup (pv 1) pe_int (fun _ _ => rfl)) pe_str (nomark _)) (pe_and (pe_isB T.b_isinstance T.b_int (pe_ix ix_tup (pv 1) pe_int (fun _ _ => rfl)) bb_int) (pe_one (pe_not (pe_isB T.b_isinstance T.b_bool (pe_ix ix_tup (pv 1) pe_int (fun _ _ => rfl)) bb_bool)))))))))), ?_⟩
    refine ⟨_, rfl, _, _, _, _, true, rfl, .ty _, .base (.tup ht), k_tup_tup, true, rfl, iteF ?_⟩
    refine ⟨_, rfl, _, _, rfl, .inr (sqT ht), by show 3 ≤ sizeLine; decide, fun u hu => ?_⟩
    have e1 : Same H (upd H u (.tup [.int 1, .int 2, .int 3])) := snew hu
    have ht1 := e1 _ _ ht
    refine ⟨u, _, rfl, .inr (sqT upd_same), rfl, rfl, _, rfl, ?_⟩
    cases e with
    | pressed l =>
      refine iteF ?_
      refine ⟨_, rfl, t, _, _, _, rfl, rfl, sqT ht1, atI_nat (j := 0) rfl, _, _, _, _, true, rfl, .ty _, .base (.str _), k_str_str, true, rfl, iteF ?_⟩
      refine ⟨_, rfl, _, _, rfl, .inr (sqT ht1), rfl, _, rfl, iteF ?_⟩
      have c1 : (0 : Int) ≤ l := by omega
      have c2 : (l : Int) ≤ (M.length : Int) - 1 := by have : l < M.length := ok; omega
      refine ⟨_, rfl, t, _, _, _, rfl, rfl, sqT ht1, atI_nat (j := 1) rfl, _, M, rfl, hh.same e1, _, _, rfl, rfl, _, _, _, rfl, _, rfl, ?_⟩
      rw [decide_eq_true c1, decide_eq_true c2]
      refine iteF ⟨_, rfl, _, _, rfl, .inr (sqT ht1), rfl, _, rfl, iteT ?_⟩
      refine ⟨_, rfl, t, _, _, _, rfl, rfl, sqT ht1, atI_nat (j := 0) rfl, rfl, ?_⟩
      have e : decide (V.str "pressed" = V.str "pressed") = true := by simp
      show Q (.bl (decide (V.str "pressed" = V.str "pressed"))) _
      rw [e]
      exact q _ e1
    | lost =>
      refine iteF ?_
      refine ⟨_, rfl, t, _, _, _, rfl, rfl, sqT ht1, atI_nat (j := 0) rfl, _, _, _, _, true, rfl, .ty _, .base (.str _), k_str_str, true, rfl, iteF ?_⟩
      refine ⟨_, rfl, _, _, rfl, .inr (sqT ht1), rfl, _, rfl, iteT ?_⟩
      exact ⟨_, rfl, r_lost (e := .lost) ⟨t, rfl, ht1⟩ (dp_lost T) (q _ e1)⟩
    | seen l z =>
      refine iteF ?_
      refine ⟨_, rfl, t, _, _, _, rfl, rfl, sqT ht1, atI_nat (j := 0) rfl, _, _, _, _, true, rfl, .ty _, .base (.str _), k_str_str, true, rfl, iteF ?_⟩
      refine ⟨_, rfl, _, _, rfl, .inr (sqT ht1), rfl, _, rfl, iteF ?_⟩
      have c1 : (0 : Int) ≤ l := by omega
      have c2 : (l : Int) ≤ (M.length : Int) - 1 := by have : l < M.length := ok; omega
      refine ⟨_, rfl, t, _, _, _, rfl, rfl, sqT ht1, atI_nat (j := 1) rfl, _, M, rfl, hh.same e1, _, _, rfl, rfl, _, _, _, rfl, _, rfl, ?_⟩
      rw [decide_eq_true c1, decide_eq_true c2]
      refine iteF ⟨_, rfl, _, _, rfl, .inr (sqT ht1), rfl, _, rfl, iteF ?_⟩
      refine ⟨_, rfl, t, _, _, _, rfl, rfl, sqT ht1, atI_nat (j := 0) rfl, rfl, ?_⟩
      have e : decide (V.str "seen" = V.str "seen") = true := by simp
      refine ⟨decide (V.str "seen" = V.str "seen"), rfl, ?_⟩
      rw [e]
      refine iteT ⟨_, rfl, t, _, _, _, rfl, rfl, sqT ht1, atI_nat (j := 2) rfl, _, _, _, _, true, rfl, .ty _, .base (.int _), k_int_int, true, rfl, iteT ?_⟩
      exact ⟨_, rfl, t, _, _, _, rfl, rfl, sqT ht1, atI_nat (j := 2) rfl, _, _, _, _, false, rfl, .ty _, .base (.int _), k_int_bool, false, rfl, q _ e1⟩
/-! ### need_log, need_told -/
def lostN (log : List Ent) : Nat := log.countP fun e => decide (e = .lost)
structure GoodL (n : Nat) (log : List Ent) : Prop where
  len : log.length ≤ 20
  lost : lostN log ≤ 6
  ok : ∀ e ∈ log, entOk n e
def sp_need_log (K : PySem.W.Frag) : Sp := fun vs H Q _ => ∃ (h x : V) (M : Pushes) (log : List Ent), vs = [h, x] ∧ HaT K H h M ∧ LgT H x log ∧ GoodL M.length log ∧ ∀ H', Same H H' → Q .non H'
theorem sc_need_log : FnScope ["hall", "log", "lost", "index", "entry"] ["hall", "log"] (defScope s_need_log) := ⟨rfl, rfl, rfl, by decide +kernel, rfl, by decide +kernel, by decide +kernel⟩
theorem lost_step {log : List Ent} {i : Nat} {e : Ent} (h : log[i]? = some e) : lostN (log.take (i + 1)) = lostN (log.take i) + (if decide (e = .lost) = true then 1 else 0) := by
  unfold lostN
  rw [List.take_add_one, h, List.countP_append]
  simp [List.countP_cons]
theorem lost_le {log : List Ent} {i : Nat} : lostN (log.take i) ≤ lostN log := List.Sublist.countP_le (List.take_sublist _ _)
theorem ok_need_log (T : Tx K mg) : Has P w K mg base 4 "need_log" ["hall", "log"] (sp_need_log K) := by
  obtain ⟨t20, h20⟩ := T.i_MOST_ENTRIES
  obtain ⟨t6, h6⟩ := T.i_MOST_LOST
  refine has_of T.d_need_log T.g_need_log sc_need_log (fun vs H Q E h => ?_) (fun cdv A outer s H vs Q E hr h => ?_)
  · obtain ⟨_, _, _, _, rfl, _⟩ := h
    rfl
  · obtain ⟨h, x, M, log, rfl, hh, ⟨t, es, rfl, ht, hp⟩, g, q⟩ := h
    have nd := sc_need_log.nd
    have le : es.length = log.length := Paired.length hp
    have g20 := g.len
    refine ⟨_, pss_cons (ps_if (PW.pt (pw_or (pt_not (pt_val (pe_isB T.b_isinstance T.b_tuple (pv 1) bb_tuple))) (pw_or1 (pt_cmpR op_gt (pe_callB call_len_seq (by rfl) T.b_len PySem.boot_len (pa_cons (pv 1) pa_nil)) (pe_glob (v := .int 20) (by rfl) h20 ⟨_, rfl⟩) (nomark _))))) (pss_one ps_never) pss_nil)
      (pss_cons (ps_set (i := 2) nd rfl (Or.inl rfl) pe_int)
      (pss_one (ps_for PassesOwn.never rfl (pi_enumT (by rfl) T.b_enumerate (pa_cons (pv 1) pa_nil)) (pg_tup rfl (pgs_cons (pg_name (i := 3) nd rfl (Or.inl rfl)) (pgs_cons (pg_name (i := 4) nd rfl (Or.inl rfl)) pgs_nil)))
        (pss_cons (ps_aug (i := 2) nd rfl (.inl rfl) (pe_callTy call_int1 (by rfl) T.b_int (by decide +kernel) (pa_cons (pe_cmpR (op_eqD hr.units) (pv 4) (pe_glob (v := .ref (ga K "LOST")) (by rfl) T.g_LOST rfl) (nomark _)) pa_nil)) ip_add)
        (pss_one (ps_if (PW.pt (pw_or (pt_not (pt_val (pe_has (ok_is_entry T) hr (pa_cons (pv 0) (pa_cons (pv 4) pa_nil))))) (pw_or1 (pt_cmpR op_gt (pv 2) (pe_glob (v := .int 6) (by rfl) h6 ⟨_, rfl⟩) (nomark _))))) (pss_one ps_never) pss_nil)))))), ?_⟩
    refine ⟨_, rfl, _, _, _, _, true, rfl, .ty _, .base (.tup ht), k_tup_tup, true, rfl, iteF ?_⟩
    refine ⟨_, rfl, _, _, rfl, .inr (sqT ht), _, _, rfl, rfl, _, rfl, ?_⟩
    rw [decide_eq_false (show ¬ ((es.length : Int) > 20) by omega)]
    refine iteF ?_
    refine ⟨_, rfl, t, es, rfl, sqT ht, for_it (walkE (K := K) (a := t) (ys := es)) (fun i σ H' => ∃ u v, σ = [some h, some (.ref t), some (.int (lostN (log.take i) : Nat)), u, v] ∧ Same H H') ⟨none, none, rfl, Same.refl H⟩ (fun i σ H' _ ⟨_, _, _, e⟩ => sqT (e _ _ ht)) ?_ ?_⟩
    · rintro i y σ H' H'' hi ⟨v1, w1, rfl, e⟩ ⟨Tn, z1, z2, rfl, hT, rfl, k1, k2⟩
      cases k1
      obtain ⟨en, he1, he2⟩ := pget hp k2
      have e' : Same H (upd H' Tn (.tup [.int (i : Nat), z2])) := e.trans (snew hT)
      refine ⟨Tn, _, rfl, sqT upd_same, rfl, _, _, rfl, _, _, rfl, rfl, ?_⟩
      refine ⟨_, rfl, _, rfl, ?_⟩
      refine ⟨_, _, dp_ent (he2.same e'), dp_lost T, ent_shaped _, lost_shaped, ?_⟩
      rw [ent_eqv]
      refine .inr ⟨_, rfl, ?_⟩
      refine ⟨_, _, rfl, rfl, ?_⟩
      have hs := lost_step he1
      have eN : ((lostN (log.take i) : Nat) : Int) + (if decide (en = .lost) = true then 1 else 0) = ((lostN (log.take (i + 1)) : Nat) : Int) := by
        rw [hs]; split <;> simp
      refine ⟨_, rfl, _, rfl, _, _, M, en, rfl, hh.same e', he2.same e', g.ok en (List.mem_of_getElem? he1), fun H3 e3 => ⟨true, rfl, iteF ?_⟩⟩
      dsimp only
      rw [eN]
      refine ⟨_, rfl, _, _, rfl, rfl, _, rfl, ?_⟩
      have g6 := Nat.le_trans (lost_le (log := log) (i := i + 1)) g.lost
      rw [decide_eq_false (show ¬ (((lostN (log.take (i + 1)) : Nat) : Int) > 6) by omega)]
      exact iteF ⟨_, _, rfl, e'.trans e3⟩
    · rintro σ H' ⟨v1, w1, rfl, e⟩
      exact q H' e
end
end KX
end

section
set_option Elab.async false
set_option linter.all false
set_option maxRecDepth 100000
set_option maxHeartbeats 4000000
namespace KX
open PySem PySem.Spec PyProof.Rows L2 KR KM
open He (ga ma)
/-- what may change: lists, dicts, locked dicts -/
def soft : HO → Bool
  | .lst _ => true
  | .dT _ => true
  | .frz _ (.dT _) => true
  | _ => false
def Kp (H H' : Hp) : Prop := ∀ b u, soft u = false → H b = some u → H' b = some u
theorem Kp.refl (H : Hp) : Kp H H := fun _ _ _ h => h
theorem Kp.trans {H1 H2 H3 : Hp} (a : Kp H1 H2) (b : Kp H2 H3) : Kp H1 H3 := fun x u l h => b x u l (a x u l h)
theorem kps {H H' : Hp} (e : Same H H') : Kp H H' := fun b u _ h => e b u h
theorem kpu {H : Hp} {D : Addr} {o' o : HO} (h : H D = some o') (s : soft o' = true := by rfl) : Kp H (upd H D o) := fun b u l q => by
  by_cases z : b = D
  · subst z; rw [h] at q; rw [← Option.some.inj q, s] at l; cases l
  · rw [upd_ne z]; exact q
theorem kpl {H : Hp} {D : Addr} {xs : List V} {o : HO} (h : H D = some (.lst xs)) : Kp H (upd H D o) := kpu h
theorem kpn {H : Hp} {D : Addr} {o : HO} (h : H D = none) : Kp H (upd H D o) := kps (snew h)
def StT (H : Hp) (x : V) (s : List Int × List Int × List Int) : Prop := ∃ t a b c, x = .ref t ∧ H t = some (.tup [a, b, c]) ∧ IT H a s.1 ∧ IT H b s.2.1 ∧ IT H c s.2.2
section
variable {K : PySem.W.Frag} {H H' : Hp} {x : V}
theorem Kp.tup (e : Kp H H') {t : Addr} {xs : List V} (h : H t = some (.tup xs)) : H' t = some (.tup xs) := e _ _ rfl h
theorem IT.kp (e : Kp H H') {ns : List Int} (h : IT H x ns) : IT H' x ns := let ⟨t, a, b⟩ := h; ⟨t, a, e.tup b⟩
theorem MT.kp (e : Kp H H') {P : Pushes} (h : MT H x P) : MT H' x P := let ⟨t, rs, a, b, c⟩ := h; ⟨t, rs, a, e.tup b, L2.Paired.mapP c fun _ _ q => q.kp e⟩
theorem EnT.kp (e : Kp H H') {n : Ent} (h : EnT H x n) : EnT H' x n := let ⟨t, a, b⟩ := h; ⟨t, a, e.tup b⟩
theorem LgT.kp (e : Kp H H') {log : List Ent} (h : LgT H x log) : LgT H' x log := let ⟨t, rs, a, b, c⟩ := h; ⟨t, rs, a, e.tup b, L2.Paired.mapP c fun _ _ q => q.kp e⟩
theorem HaT.kp (e : Kp H H') {P : Pushes} (h : HaT K H x P) : HaT K H' x P := let ⟨a, dx, v, p, q, r, g⟩ := h; ⟨a, dx, v, p, e _ _ rfl q, r.kp e, g⟩
theorem StT.kp (e : Kp H H') {s : List Int × List Int × List Int} (h : StT H x s) : StT H' x s := let ⟨t, a, b, c, p, q, r, u, v⟩ := h; ⟨t, a, b, c, p, e.tup q, r.kp e, u.kp e, v.kp e⟩
theorem pair_app {α β : Type} {F : α → β → Prop} : ∀ {xs : List α} {ys : List β} {x : α} {y : β}, Paired F xs ys → F x y → Paired F (xs ++ [x]) (ys ++ [y])
  | _, _, _, _, .nil, h => .cons h .nil
  | _, _, _, _, .cons r t, h => .cons r (pair_app t h)
theorem take_step {α : Type} {xs : List α} {i : Nat} {x : α} (h : xs[i]? = some x) : xs.take (i + 1) = xs.take i ++ [x] := by rw [List.take_add_one, h]; rfl
end
section
variable {P : Program} {w : World} {K : PySem.W.Frag} {mg : Str → Option Value} {base : Heap}
def sp_need_told (K : PySem.W.Frag) : Sp := fun vs H Q _ => ∃ (h x y : V) (M : Pushes) (ns : List Int) (log : List Ent), vs = [h, x, y] ∧ HaT K H h M ∧ IT H x ns ∧ ns.length = M.length ∧ LgT H y log ∧ GoodL M.length log ∧ ∀ H', Same H H' → Q .non H'
theorem sc_need_told : FnScope ["hall", "start", "log"] ["hall", "start", "log"] (defScope s_need_told) := ⟨rfl, rfl, rfl, by decide +kernel, rfl, by decide +kernel, by decide +kernel⟩
theorem ok_need_told (T : Tx K mg) : Has P w K mg base 5 "need_told" ["hall", "start", "log"] (sp_need_told K) := by
  refine has_of T.d_need_told T.g_need_told sc_need_told (fun vs H Q E h => ?_) (fun cdv A outer s H vs Q E hr h => ?_)
  · obtain ⟨_, _, _, _, _, _, rfl, _⟩ := h
    rfl
  · obtain ⟨h, x, y, M, ns, log, rfl, hh, hx, hl, hy, g, q⟩ := h
    refine ⟨_, pss_cons (ps_expr (pe_has (ok_need_numbers T) hr (pa_cons (pv 0) (pa_cons (pv 1) pa_nil)))) (pss_one (ps_expr (pe_has (ok_need_log T) hr (pa_cons (pv 0) (pa_cons (pv 2) pa_nil))))), ?_⟩
    refine ⟨_, rfl, _, rfl, _, _, M, ns, rfl, hh, hx, hl, fun H1 e1 => ?_⟩
    exact ⟨_, rfl, _, rfl, _, _, M, log, rfl, hh.same e1, hy.same e1, g, fun H2 e2 => q _ (e1.trans e2)⟩
/-! ### agrees -/
def sp_agrees : Sp := fun vs H Q _ => ∃ (x y : V) (l : Nat) (z : Int) (ns : List Int), vs = [x, y] ∧ EnT H x (.seen l z) ∧ IT H y ns ∧ l < ns.length ∧ Q (.bl (decide (ns.getD l 0 = z))) H
theorem sc_agrees : FnScope ["entry", "numbers"] ["entry", "numbers"] (defScope s_agrees) := ⟨rfl, rfl, rfl, by decide +kernel, rfl, by decide +kernel, by decide +kernel⟩
theorem ok_agrees (T : Tx K mg) : Has P w K mg base 1 "agrees" ["entry", "numbers"] sp_agrees := by
  refine has_of T.d_agrees T.g_agrees sc_agrees (fun vs H Q E h => ?_) (fun cdv A outer s H vs Q E hr h => ?_)
  · obtain ⟨_, _, _, _, _, rfl, _⟩ := h
    rfl
  · obtain ⟨x, y, l, z, ns, rfl, ⟨t, rfl, ht⟩, ⟨u, rfl, hu⟩, hl, q⟩ := h
    obtain ⟨own, ho⟩ : ∃ z, ns[l]? = some z := ⟨_, List.getElem?_eq_getElem hl⟩
    rw [getD_of ho] at q
    refine ⟨_, pss_one (ps_ret (pe_cmpR op_eq (pe_ix ix_tup (pv 1) (pe_ix ix_tup (pv 0) pe_int (fun _ _ => rfl)) (fun _ _ => rfl)) (pe_ix ix_tup (pv 0) pe_int (fun _ _ => rfl)) (nomark _))), ?_⟩
    refine ⟨_, rfl, _, rfl, t, _, _, _, rfl, rfl, sqT ht, atI_nat (j := 1) rfl, u, _, _, _, rfl, rfl, sqT hu, atI_nat (j := l) (by rw [List.getElem?_map, ho]; rfl), ?_⟩
    refine ⟨_, rfl, t, _, _, _, rfl, rfl, sqT ht, atI_nat (j := 2) rfl, rfl, ?_⟩
    have e : decide (V.int own = V.int z) = decide (own = z) := by simp
    show Q (.bl (decide (V.int own = V.int z))) H
    rw [e]
    exact q
/-! ### steps_by -/
def sp_steps_by (K : PySem.W.Frag) : Sp := fun vs H Q _ => ∃ (h x y : V) (i : Nat) (M : Pushes) (ns : List Int) (e : Ent), vs = [h, x, y, .int i] ∧ HaT K H h M ∧ IT H x ns ∧ ns.length = M.length ∧ EnT H y e ∧ entOk M.length e ∧
  ∀ p xs H', Same H H' → H p = none → H' p = some (.lst xs) → Paired (StT H') xs (steps M ns e i) → Q (.ref p) H'
theorem sc_steps_by : FnScope ["hall", "numbers", "entry", "index", "found", "lamp", "wrong"] ["hall", "numbers", "entry", "index"] (defScope s_steps_by) := ⟨rfl, rfl, rfl, by decide +kernel, rfl, by decide +kernel, by decide +kernel⟩
theorem able_lt {ns : List Int} {k : Nat} (h : k ∈ able ns) : k < ns.length := by
  unfold able at h
  exact List.mem_range.mp (List.mem_filter.mp h).1
theorem ok_steps_by (T : Tx K mg) : Has P w K mg base 2 "steps_by" ["hall", "numbers", "entry", "index"] (sp_steps_by K) := by
  refine has_of T.d_steps_by T.g_steps_by sc_steps_by (fun vs H Q E h => ?_) (fun cdv A outer s H vs Q E hr h => ?_)
  · obtain ⟨_, _, _, _, _, _, _, rfl, _⟩ := h
    rfl
  · obtain ⟨h, x, y, ix, M, ns, e, rfl, hh, hx, hl, hy, ok, q⟩ := h
    have g : GoodP M := by obtain ⟨_, _, _, _, _, _, g⟩ := hh; exact g
    have gm := g.most
    have nd := sc_steps_by.nd
    refine ⟨_, pss_cons (ps_if (pt_cmpR op_eq (pe_ix ix_tup (pv 2) pe_int (fun _ _ => rfl)) pe_str (nomark _)) (pss_one (ps_ret (pe_lst (pa_cons (pe_tup (pa_cons (pe_tup pa_nil) (pa_cons (pv 1) (pa_cons (pe_ifExp (pt_val (pe_has (ok_agrees T) hr (pa_cons (pv 2) (pa_cons (pv 1) pa_nil)))) (pe_tup pa_nil) (pe_tup (pa_cons (pv 3) pa_nil))) pa_nil)))) pa_nil)))) pss_nil)
      (pss_cons (ps_set (i := 4) nd rfl (Or.inl rfl) (pe_lst pa_nil))
      (pss_cons (ps_for PassesOwn.never rfl (pi_tup (pe_has (ok_able_of T) hr (pa_cons (pv 1) pa_nil))) (pg_name (i := 5) nd rfl (Or.inl rfl))
        (pss_cons (ps_set (i := 6) nd rfl (Or.inl rfl) (pe_ifExp (PW.pt (pw_or (pt_cmpR (op_eqD hr.units) (pv 2) (pe_glob (v := .ref (ga K "LOST")) (by rfl) T.g_LOST rfl) (nomark _)) (pw_or1 (pt_cmpR op_eq (pe_ix ix_tup (pv 2) pe_int (fun _ _ => rfl)) (pv 5) (nomark _))))) (pe_tup pa_nil) (pe_tup (pa_cons (pv 3) pa_nil))))
        (pss_one (ps_expr (pe_bm PySem.F.plainAttrs_list PySem.F.slot_list_append PySem.F.type_list_append mt_append (pv 4) (pa_cons (pe_tup (pa_cons (pe_tup (pa_cons (pv 5) pa_nil)) (pa_cons (pe_has (ok_changed T) hr (pa_cons (pv 0) (pa_cons (pv 1) (pa_cons (pv 5) pa_nil)))) (pa_cons (pv 6) pa_nil)))) pa_nil))))))
      (pss_one (ps_ret (pv 4))))), ?_⟩
    have z0 : (0 : Nat) ≤ sizeLine := Nat.zero_le _
    have z1 : (1 : Nat) ≤ sizeLine := by decide
    have z3 : (3 : Nat) ≤ sizeLine := by decide
    by_cases hs : ∃ l z, e = .seen l z
    · obtain ⟨l, z, rfl⟩ := hs
      obtain ⟨t, rfl, ht⟩ := id hy
      obtain ⟨tx, rfl, htx⟩ := id hx
      refine ⟨_, rfl, t, _, _, _, rfl, rfl, sqT ht, atI_nat (j := 0) rfl, rfl, _, rfl, ?_⟩
      rw [show decide (V.str "seen" = V.str "seen") = true by simp]
      refine iteT ⟨z0, fun p1 hp1 => ?_⟩
      have e1 : Same H (upd H p1 (.tup [])) := snew hp1
      refine ⟨_, rfl, _, rfl, _, rfl, _, _, l, z, ns, rfl, hy.same e1, hx.same e1, by rw [hl]; exact ok, _, rfl, ?_⟩
      have fin : ∀ (H2 : Hp) (p2 : Addr) (more : List Int), Same H H2 → H2 p1 = some (.tup []) → H2 p2 = some (.tup (more.map iv)) → steps M ns (.seen l z) ix = [([], ns, more)] → ∀ p3, H2 p3 = none → ∀ p4, (upd H2 p3 (.tup [.ref p1, .ref tx, .ref p2])) p4 = none → Q (.ref p4) (upd (upd H2 p3 (.tup [.ref p1, .ref tx, .ref p2])) p4 (.lst [.ref p3])) := fun H2 p2 more e2 h1 h2 es p3 hp3 p4 hp4 => by
        have k1 := (snew (o := .tup [.ref p1, .ref tx, .ref p2]) hp3)
        have k2 := (snew (o := .lst [.ref p3]) hp4)
        have k3 := k1.trans k2
        have n4 : H p4 = none := by
          cases q4 : H p4 with
          | none => rfl
          | some u => have := k1 _ _ (e2 _ _ q4); rw [hp4] at this; cases this
        refine q p4 _ _ (e2.trans k3) n4 upd_same ?_
        rw [es]
        exact .cons ⟨p3, _, _, _, rfl, k2 _ _ upd_same, ⟨p1, rfl, k3 _ _ h1⟩, ⟨tx, rfl, k3 _ _ (e2 _ _ htx)⟩, ⟨p2, rfl, k3 _ _ h2⟩⟩ .nil
      refine ite2 (fun c => ?_) (fun c => ?_)
      · refine ⟨z0, fun p2 hp2 => ?_⟩
        refine ⟨z3, fun p3 hp3 => ⟨z1, fun p4 hp4 => ?_⟩⟩
        refine fin _ p2 [] (e1.trans (snew hp2)) ((snew hp2) _ _ upd_same) upd_same ?_ p3 hp3 p4 hp4
        have c' : ns.getD l 0 = z := of_decide_eq_true c
        simp only [steps, if_pos c']
      · refine ⟨_, rfl, z1, fun p2 hp2 => ?_⟩
        refine ⟨z3, fun p3 hp3 => ⟨z1, fun p4 hp4 => ?_⟩⟩
        refine fin _ p2 [(ix : Int)] (e1.trans (snew hp2)) ((snew hp2) _ _ upd_same) upd_same ?_ p3 hp3 p4 hp4
        have c' : ¬ ns.getD l 0 = z := fun k => c (decide_eq_true k)
        simp only [steps, if_neg c']
    · have es : steps M ns e ix = (able ns).map fun (k : Nat) => ([(k : Int)], press M ns k, if fit e k = true then [] else [(ix : Int)]) := by
        cases e with
        | seen l z => exact absurd ⟨l, z, rfl⟩ hs
        | pressed l => rfl
        | lost => rfl
      have ef : ∃ t c vs, y = .ref t ∧ H t = some (.tup (.str c :: vs)) ∧ decide (V.str c = V.str "seen") = false := by
        obtain ⟨t, rfl, ht⟩ := hy
        cases e with
        | seen l z => exact absurd ⟨l, z, rfl⟩ hs
        | pressed l => exact ⟨t, _, _, rfl, ht, by decide +kernel⟩
        | lost => exact ⟨t, _, _, rfl, ht, by decide +kernel⟩
      obtain ⟨t, c, vs, rfl, ht, ec⟩ := ef
      refine ⟨_, rfl, t, _, _, _, rfl, rfl, sqT ht, atI_nat (j := 0) rfl, rfl, _, rfl, ?_⟩
      rw [ec]
      refine iteF ⟨z0, fun D hD => ?_⟩
      have e1 : Same H (upd H D (.lst [])) := snew hD
      refine ⟨_, rfl, x, ns, rfl, hx.same e1, by omega, fun v H1 e2 hv => ?_⟩
      obtain ⟨t', rfl, ht'⟩ := hv
      refine ⟨t', rfl, ⟨_, sqT ht'⟩, for_tup (K := K) (a := t') (xs := (ableI ns).map iv) (fun i σ H' => ∃ u v xs, σ = [some h, some x, some (.ref t), some (.int ix), some (.ref D), u, v] ∧ Same H H' ∧ H' D = some (.lst xs) ∧ Paired (StT H') xs ((steps M ns e ix).take i) ∧ H' t' = some (.tup ((ableI ns).map iv)))
        ⟨none, none, [], rfl, e1.trans e2, e2 _ _ upd_same, .nil, ht'⟩ (fun i σ H' _ ⟨_, _, _, _, _, _, _, e⟩ => sqT e) ?_ ?_⟩
      · rintro i yv σ H0 hy0 ⟨u0, v0, xs, rfl, eh, hD0, hP, ht0⟩
        obtain ⟨z, hz, rfl⟩ := map_at hy0
        have hk : ∃ k, (able ns)[i]? = some k ∧ z = (k : Int) := by
          unfold ableI at hz
          rw [List.getElem?_map] at hz
          cases ek : (able ns)[i]? with
          | none => rw [ek] at hz; cases hz
          | some k => rw [ek] at hz; exact ⟨k, rfl, (Option.some.inj hz).symm⟩
        obtain ⟨k, hk, rfl⟩ := hk
        have hkl : k < M.length := by rw [← hl]; exact able_lt (List.mem_of_getElem? hk)
        have hln : (able ns).length ≤ 8 := by
          have := List.length_filter_le (fun i => decide (ns.getD i 0 < 0)) (List.range ns.length)
          rw [List.length_range] at this
          exact Nat.le_trans this (by omega)
        have hil : i < (able ns).length := (List.getElem?_eq_some_iff.mp hk).1
        have hst : (steps M ns e ix)[i]? = some ([(k : Int)], press M ns k, if fit e k = true then [] else [(ix : Int)]) := by rw [es, List.getElem?_map, hk]; rfl
        refine ⟨_, rfl, ?_⟩
        refine ⟨_, _, dp_ent (hy.same eh), dp_lost T, ent_shaped _, lost_shaped, ?_⟩
        rw [ent_eqv]
        refine ⟨_, rfl, ?_⟩
        cases e with
        | seen l z => exact absurd ⟨l, z, rfl⟩ hs
        | lost =>
          rw [show decide (Ent.lost = Ent.lost) = true from rfl]
          refine iteT ⟨z0, fun p1 hp1 => ?_⟩
          have e3 : Same H0 (upd H0 p1 (.tup (([] : List Int).map iv))) := snew hp1
          have f3 := eh.trans e3
          refine ⟨_, rfl, .inl ⟨rfl, _, SqL.of (e3 _ _ hD0)⟩, _, rfl, z1, fun p2 hp2 => ?_⟩
          have f4 := f3.trans (snew (o := .tup [.int (k : Int)]) hp2)
          refine ⟨_, rfl, _, rfl, _, rfl, h, x, k, M, ns, rfl, hh.same f4, hx.same f4, hl, hkl, fun v H4 e4 hv => ?_⟩
          have f5 := f4.trans e4
          have d1 := e4 _ _ ((snew (o := .tup [.int (k : Int)]) hp2) _ _ (upd_same (H := H0) (a := p1) (o := .tup (([] : List Int).map iv))))
          have d2 := e4 _ _ (upd_same (H := upd H0 p1 (.tup (([] : List Int).map iv))) (a := p2) (o := .tup [.int (k : Int)]))
          have d3 := e4 _ _ ((snew (o := .tup [.int (k : Int)]) hp2) _ _ (e3 _ _ hD0))
          have d4 := e4 _ _ ((snew (o := .tup [.int (k : Int)]) hp2) _ _ (e3 _ _ ht0))
          refine ⟨_, rfl, z3, fun p3 hp3 => ?_⟩
          have e6 := snew (o := .tup [.ref p2, v, .ref p1]) hp3
          refine ⟨D, xs, _, rfl, rfl, e6 _ _ d3, sz8 (by have := Paired.length hP; rw [List.length_take] at this; omega), ?_⟩
          have dl : (upd H4 p3 (.tup [.ref p2, v, .ref p1])) D = some (.lst xs) := e6 _ _ d3
          have e7 := kpl (o := .lst (xs ++ [.ref p3])) dl
          refine ⟨_, _, _, rfl, sput (f5.trans e6) hD, upd_same, ?_, e7.tup (e6 _ _ d4)⟩
          rw [take_step hst]
          refine pair_app (L2.Paired.mapP hP fun _ _ q => ((q.kp (kps e3)).kp (kps (snew (o := .tup [.int (k : Int)]) hp2))).kp (((kps e4).trans (kps e6)).trans e7)) ?_
          exact ⟨p3, _, _, _, rfl, e7.tup upd_same, ⟨p2, rfl, e7.tup (e6 _ _ d2)⟩, (hv.same e6).kp e7, ⟨p1, rfl, e7.tup (e6 _ _ d1)⟩⟩
        | pressed l =>
          rw [show decide (Ent.pressed l = Ent.lost) = false from rfl]
          obtain ⟨t9, r9, ht9⟩ := id hy
          obtain rfl := V.ref.inj r9
          refine iteF ⟨_, rfl, _, _, _, _, rfl, rfl, sqT (eh _ _ ht9), atI_nat (j := 1) rfl, _, rfl, rfl, _, rfl, ?_⟩
          refine ite2 (fun c => ?_) (fun c => ?_)
          · have c' : l = k := by exact Int.ofNat.inj (V.int.inj (of_decide_eq_true c))
            have hf : fit (Ent.pressed l) k = true := by simp [fit, c']
            rw [if_pos hf] at hst
            refine ⟨z0, fun p1 hp1 => ?_⟩
            have e3 : Same H0 (upd H0 p1 (.tup (([] : List Int).map iv))) := snew hp1
            have f3 := eh.trans e3
            refine ⟨_, rfl, .inl ⟨rfl, _, SqL.of (e3 _ _ hD0)⟩, _, rfl, z1, fun p2 hp2 => ?_⟩
            have f4 := f3.trans (snew (o := .tup [.int (k : Int)]) hp2)
            refine ⟨_, rfl, _, rfl, _, rfl, h, x, k, M, ns, rfl, hh.same f4, hx.same f4, hl, hkl, fun v H4 e4 hv => ?_⟩
            have f5 := f4.trans e4
            have d1 := e4 _ _ ((snew (o := .tup [.int (k : Int)]) hp2) _ _ (upd_same (H := H0) (a := p1) (o := .tup (([] : List Int).map iv))))
            have d2 := e4 _ _ (upd_same (H := upd H0 p1 (.tup (([] : List Int).map iv))) (a := p2) (o := .tup [.int (k : Int)]))
            have d3 := e4 _ _ ((snew (o := .tup [.int (k : Int)]) hp2) _ _ (e3 _ _ hD0))
            have d4 := e4 _ _ ((snew (o := .tup [.int (k : Int)]) hp2) _ _ (e3 _ _ ht0))
            refine ⟨_, rfl, z3, fun p3 hp3 => ?_⟩
            have e6 := snew (o := .tup [.ref p2, v, .ref p1]) hp3
            refine ⟨D, xs, _, rfl, rfl, e6 _ _ d3, sz8 (by have := Paired.length hP; rw [List.length_take] at this; omega), ?_⟩
            have dl : (upd H4 p3 (.tup [.ref p2, v, .ref p1])) D = some (.lst xs) := e6 _ _ d3
            have e7 := kpl (o := .lst (xs ++ [.ref p3])) dl
            refine ⟨_, _, _, rfl, sput (f5.trans e6) hD, upd_same, ?_, e7.tup (e6 _ _ d4)⟩
            rw [take_step hst]
            refine pair_app (L2.Paired.mapP hP fun _ _ q => ((q.kp (kps e3)).kp (kps (snew (o := .tup [.int (k : Int)]) hp2))).kp (((kps e4).trans (kps e6)).trans e7)) ?_
            exact ⟨p3, _, _, _, rfl, e7.tup upd_same, ⟨p2, rfl, e7.tup (e6 _ _ d2)⟩, (hv.same e6).kp e7, ⟨p1, rfl, e7.tup (e6 _ _ d1)⟩⟩
          · have c' : ¬ l = k := fun z => c (by rw [z]; simp)
            have hf : ¬ fit (Ent.pressed l) k = true := by simp [fit, c']
            rw [if_neg hf] at hst
            refine ⟨_, rfl, z1, fun p1 hp1 => ?_⟩
            have e3 : Same H0 (upd H0 p1 (.tup ([(ix : Int)].map iv))) := snew hp1
            have f3 := eh.trans e3
            refine ⟨_, rfl, .inl ⟨rfl, _, SqL.of (e3 _ _ hD0)⟩, _, rfl, z1, fun p2 hp2 => ?_⟩
            have f4 := f3.trans (snew (o := .tup [.int (k : Int)]) hp2)
            refine ⟨_, rfl, _, rfl, _, rfl, h, x, k, M, ns, rfl, hh.same f4, hx.same f4, hl, hkl, fun v H4 e4 hv => ?_⟩
            have f5 := f4.trans e4
            have d1 := e4 _ _ ((snew (o := .tup [.int (k : Int)]) hp2) _ _ (upd_same (H := H0) (a := p1) (o := .tup ([(ix : Int)].map iv))))
            have d2 := e4 _ _ (upd_same (H := upd H0 p1 (.tup ([(ix : Int)].map iv))) (a := p2) (o := .tup [.int (k : Int)]))
            have d3 := e4 _ _ ((snew (o := .tup [.int (k : Int)]) hp2) _ _ (e3 _ _ hD0))
            have d4 := e4 _ _ ((snew (o := .tup [.int (k : Int)]) hp2) _ _ (e3 _ _ ht0))
            refine ⟨_, rfl, z3, fun p3 hp3 => ?_⟩
            have e6 := snew (o := .tup [.ref p2, v, .ref p1]) hp3
            refine ⟨D, xs, _, rfl, rfl, e6 _ _ d3, sz8 (by have := Paired.length hP; rw [List.length_take] at this; omega), ?_⟩
            have dl : (upd H4 p3 (.tup [.ref p2, v, .ref p1])) D = some (.lst xs) := e6 _ _ d3
            have e7 := kpl (o := .lst (xs ++ [.ref p3])) dl
            refine ⟨_, _, _, rfl, sput (f5.trans e6) hD, upd_same, ?_, e7.tup (e6 _ _ d4)⟩
            rw [take_step hst]
            refine pair_app (L2.Paired.mapP hP fun _ _ q => ((q.kp (kps e3)).kp (kps (snew (o := .tup [.int (k : Int)]) hp2))).kp (((kps e4).trans (kps e6)).trans e7)) ?_
            exact ⟨p3, _, _, _, rfl, e7.tup upd_same, ⟨p2, rfl, e7.tup (e6 _ _ d2)⟩, (hv.same e6).kp e7, ⟨p1, rfl, e7.tup (e6 _ _ d1)⟩⟩
      · rintro σ H' ⟨u, v, xs, rfl, e, hDl, hP, _⟩
        rw [List.take_of_length_le (by rw [es, List.length_map]; simp [ableI])] at hP
        exact ⟨_, rfl, q D xs H' e hD hDl hP⟩
end
end KX
end

section
set_option Elab.async false
set_option linter.all false
set_option maxRecDepth 100000
set_option maxHeartbeats 4000000
namespace KX
open PySem PySem.Spec PyProof.Rows L2 KR KM
open PySem.W (dataLt alike alikeAll rowLt dataLt_cons dataLt_ints dataLt_int)
abbrev kI (xs : List Int) : List L2.Key := xs.map Sum.inl
theorem kI_inj {a b : List Int} (h : kI a = kI b) : a = b := (List.map_inj_right fun _ _ e => Sum.inl.inj e).mp h
theorem kI_V (xs : List Int) : (kI xs).map kV = xs.map iv := by
  unfold kI
  rw [List.map_map]
  rfl
def PaT (H : Hp) (x : V) (r : Rk) : Prop := PairAt H x r.1 r.2
theorem PaT.kp {H H' : Hp} {x : V} {r : Rk} (e : Kp H H') (h : PaT H x r) : PaT H' x r := let ⟨t, a, b, p, q, u, v⟩ := h; ⟨t, a, b, p, e.tup q, e.tup u, e.tup v⟩
def DRel (H : Hp) (kvs : List (List L2.Key × V)) (D : List Pt) : Prop := Paired (fun kv (e : Pt) => kv.1 = kI e.1 ∧ PaT H kv.2 e.2) kvs D
theorem DRel.kp {H H' : Hp} {kvs : List (List L2.Key × V)} {D : List Pt} (e : Kp H H') (h : DRel H kvs D) : DRel H' kvs D := L2.Paired.mapP h fun _ _ q => ⟨q.1, q.2.kp e⟩
theorem look_cons_pos {α : Type} {e : List Int × α} {r : List (List Int × α)} {k : List Int} (h : e.1 = k) : lookM (e :: r) k = some e.2 := by simp [lookM, List.find?_cons, h]
theorem look_cons_neg {α : Type} {e : List Int × α} {r : List (List Int × α)} {k : List Int} (h : ¬ e.1 = k) : lookM (e :: r) k = lookM r k := by simp [lookM, List.find?_cons, h]
theorem drel_get {H : Hp} {k : List Int} : ∀ {kvs : List (List L2.Key × V)} {D : List Pt}, DRel H kvs D → (lookM D k = none → valV kvs (kI k) = none) ∧ (∀ r, lookM D k = some r → ∃ v, valV kvs (kI k) = some v ∧ PaT H v r)
  | _, _, .nil => ⟨fun _ => rfl, fun r h => by simp [lookM] at h⟩
  | kv :: kvs, e :: D, .cons h t => by
    obtain ⟨i1, i2⟩ := drel_get (k := k) t
    by_cases c : e.1 = k
    · have c' : kv.1 = kI k := by rw [h.1, c]
      rw [look_cons_pos c, valV_pos c']
      exact ⟨fun z => (by cases z), fun r z => (by obtain rfl := Option.some.inj z; exact ⟨_, rfl, h.2⟩)⟩
    · have c' : ¬ kv.1 = kI k := fun z => c (kI_inj (h.1.symm.trans z))
      rw [look_cons_neg c, valV_neg c']
      exact ⟨i1, i2⟩
theorem putK_neg {κ : Type} [DecidableEq κ] {p : κ × V} {r : List (κ × V)} {k : κ} {v : V} (h : ¬ p.1 = k) : putK (p :: r) k v = p :: putK r k v := by
  unfold putK
  rw [List.any_cons, decide_eq_false h, Bool.false_or]
  by_cases c : (r.any fun kv => decide (kv.1 = k)) = true
  · rw [if_pos c, if_pos c, List.map_cons, if_neg h]
  · rw [if_neg c, if_neg c]; rfl
theorem putK_pos {κ : Type} [DecidableEq κ] {p : κ × V} {r : List (κ × V)} {k : κ} {v : V} (h : p.1 = k) (n : ∀ q ∈ r, ¬ q.1 = k) : putK (p :: r) k v = (p.1, v) :: r := by
  unfold putK
  rw [List.any_cons, decide_eq_true h, Bool.true_or, if_pos rfl, List.map_cons, if_pos h]
  congr 1
  exact (List.map_congr_left fun q hq => if_neg (n q hq)).trans (List.map_id r)
theorem drel_keys {H : Hp} : ∀ {kvs : List (List L2.Key × V)} {D : List Pt}, DRel H kvs D → ∀ q ∈ kvs, ∃ e ∈ D, q.1 = kI e.1
  | _, _, .nil, q, h => by cases h
  | _, _, .cons h t, q, hq => by
    rcases List.mem_cons.mp hq with rfl | hq
    · exact ⟨_, List.mem_cons_self, h.1⟩
    · obtain ⟨e, he, z⟩ := drel_keys t q hq
      exact ⟨e, List.mem_cons_of_mem _ he, z⟩
theorem drel_put {H : Hp} {k : List Int} {v : V} {r : Rk} (hv : PaT H v r) : ∀ {kvs : List (List L2.Key × V)} {D : List Pt}, DRel H kvs D → (D.map (·.1)).Nodup → DRel H (putK kvs (kI k) v) (putM D k r)
  | _, _, .nil, _ => .cons ⟨rfl, hv⟩ .nil
  | kv :: kvs, e :: D, .cons h t, nd => by
    rw [List.map_cons, List.nodup_cons] at nd
    by_cases c : e.1 = k
    · have c' : kv.1 = kI k := by rw [h.1, c]
      rw [putK_pos c' fun q hq z => ?_]
      · unfold putM
        rw [if_pos c]
        exact .cons ⟨c', hv⟩ t
      · obtain ⟨e', he', z'⟩ := drel_keys t q hq
        have : e'.1 = k := kI_inj (z'.symm.trans z)
        exact nd.1 (by rw [c, ← this]; exact List.mem_map_of_mem he')
    · have c' : ¬ kv.1 = kI k := fun z => c (kI_inj (h.1.symm.trans z))
      rw [putK_neg c']
      unfold putM
      rw [if_neg c]
      exact .cons h (drel_put hv t nd.2)
/-! ### the order -/
theorem eqv_ints : ∀ {xs ys : List Int}, PyData.eqv (.tuple (xs.map .int)) (.tuple (ys.map .int)) = decide (xs = ys)
  | [], [] => by simp [PyData.eqv, PyData.eqvAll]
  | [], _ :: _ => by simp [PyData.eqv, PyData.eqvAll]
  | _ :: _, [] => by simp [PyData.eqv, PyData.eqvAll]
  | x :: xs, y :: ys => by
    have ih := eqv_ints (xs := xs) (ys := ys)
    simp only [PyData.eqv] at ih
    simp only [List.map_cons, PyData.eqv, PyData.eqvAll, ih]
    by_cases h1 : x = y <;> by_cases h2 : xs = ys <;> simp [h1, h2]
theorem alike_ints : ∀ {xs ys : List Int}, alikeAll (xs.map .int) (ys.map .int) = true
  | [], _ => by simp [alikeAll]
  | _ :: _, [] => by simp [alikeAll]
  | x :: xs, y :: ys => by
    rw [List.map_cons, List.map_cons, alikeAll, alike_ints (xs := xs) (ys := ys)]
    simp [alike]
theorem rowLt_nil : rowLt [] [] = false := PyProof.Rows.lex_irrefl _
theorem row_cons {x y : PyData} {xs ys : List PyData} (h : alike x y = true) : rowLt (x :: xs) (y :: ys) = if PyData.eqv x y = true then rowLt xs ys else dataLt x y := dataLt_cons h xs ys
theorem data_row (xs ys : List PyData) : dataLt (.tuple xs) (.tuple ys) = rowLt xs ys := rfl
theorem rank_alike (a b : Rk) : alike (rankD a.1 a.2) (rankD b.1 b.2) = true := by
  unfold rankD
  simp [alike, alikeAll, alike_ints]
theorem rank_lt (a b : Rk) : dataLt (rankD a.1 a.2) (rankD b.1 b.2) = decide (rkLt a b) := by
  unfold rankD
  rw [data_row, row_cons (by simp [alike]), row_cons (by simp [alike, alike_ints]), row_cons (by simp [alike, alike_ints]), rowLt_nil, eqv_ints, eqv_ints, data_row, data_row, dataLt_ints, dataLt_ints, dataLt_int]
  simp only [PyData.eqv, beq_iff_eq, decide_eq_true_eq]
  have key : decide (rkLt a b) = decide (a.1.length < b.1.length ∨ (a.1.length = b.1.length ∧ (a.1 < b.1 ∨ (a.1 = b.1 ∧ a.2 < b.2)))) := decide_eq_decide.mpr Iff.rfl
  rw [key]
  obtain ⟨a1, a2⟩ := a
  obtain ⟨b1, b2⟩ := b
  dsimp only
  by_cases h1 : a1.length = b1.length
  · rw [if_pos (by rw [h1])]
    by_cases h2 : a1 = b1
    · subst h2
      by_cases h3 : a2 = b2
      · subst h3
        simp [List.lt_irrefl]
      · simp [h3, List.lt_irrefl]
    · rw [if_neg h2, h1]
      simp [h2]
  · rw [if_neg (by omega)]
    simp only [h1, false_and, or_false]
    exact decide_eq_decide.mpr (by omega)
theorem rank_depth (a : Rk) : (rankD a.1 a.2).depth ≤ 60 := by
  have hd : ∀ xs : List Int, PyData.depthAll (xs.map .int) ≤ 1 := fun xs => by
    induction xs with
    | nil => simp [PyData.depthAll]
    | cons x xs ih => simp only [List.map_cons, PyData.depthAll, PyData.depth]; omega
  have h1 := hd a.1
  have h2 := hd a.2
  unfold rankD
  simp only [PyData.depth, PyData.depthAll]
  omega
end KX
end

section
set_option Elab.async false
set_option linter.all false
set_option maxRecDepth 100000
set_option maxHeartbeats 4000000
namespace KX
open PySem PySem.Spec PyProof.Rows L2 KR KM
open PySem.W (dataLt dataLe alike alikeAll keyToks AllAlike Sortable)
theorem data_trans {a b c : PyData} (h : dataLt b a = false) (k : dataLt c b = false) : dataLt c a = false := by
  cases e : dataLt c a with
  | false => rfl
  | true =>
    rcases PyProof.Rows.lex_negTrans (O := PyProof.Rows.itemOrd) (keyToks c) (keyToks b) (keyToks a) e with q | q
    · exact absurd (q.symm.trans k) (by simp)
    · exact absurd (q.symm.trans h) (by simp)
theorem data_total (a b : PyData) : dataLt b a = false ∨ dataLt a b = false := by
  cases e : dataLt b a with
  | false => exact .inl rfl
  | true =>
    refine .inr ?_
    cases e2 : dataLt a b with
    | false => rfl
    | true =>
      have h : dataLt a a = true := PyProof.Rows.lex_trans (O := PyProof.Rows.itemOrd) (keyToks a) (keyToks b) (keyToks a) e2 e
      have h2 : dataLt a a = false := PyProof.Rows.lex_irrefl (O := PyProof.Rows.itemOrd) (keyToks a)
      exact absurd (h.symm.trans h2) (by simp)
theorem data_sorted (bs : List (V × PyData)) : (sortP bs).Pairwise fun a b => dataLt b.2 a.2 = false := by
  have h := List.pairwise_mergeSort (le := dataLe false fun b : V × PyData => b.2)
    (fun a b c h1 h2 => by
      have h1' : (!dataLt b.2 a.2) = true := h1
      have h2' : (!dataLt c.2 b.2) = true := h2
      show (!dataLt c.2 a.2) = true
      rw [data_trans (by simpa using h1') (by simpa using h2')]; rfl)
    (fun a b => by
      show ((!dataLt b.2 a.2) || (!dataLt a.2 b.2)) = true
      rcases data_total a.2 b.2 with q | q <;> rw [q] <;> simp) bs
  exact h.imp fun {a b} q => by
    have q' : (!dataLt b.2 a.2) = true := q
    simpa using q'
theorem sort_head {bs : List (V × PyData)} (h : bs ≠ []) : ∃ b0 r, sortP bs = b0 :: r ∧ b0 ∈ bs ∧ ∀ b ∈ bs, dataLt b.2 b0.2 = false := by
  have hp := List.mergeSort_perm bs (dataLe false fun b : V × PyData => b.2)
  have hs := data_sorted bs
  cases e : sortP bs with
  | nil =>
    have := hp.length_eq
    rw [show bs.mergeSort (dataLe false fun b : V × PyData => b.2) = [] from e] at this
    exact absurd (List.length_eq_zero_iff.mp this.symm) h
  | cons b0 r =>
    refine ⟨b0, r, rfl, hp.mem_iff.mp (by rw [show bs.mergeSort (dataLe false fun b : V × PyData => b.2) = b0 :: r from e]; exact List.mem_cons_self), fun b hb => ?_⟩
    have hb' : b ∈ sortP bs := hp.mem_iff.mpr hb
    rw [e] at hb' hs
    rcases List.mem_cons.mp hb' with rfl | q
    · exact PyProof.Rows.lex_irrefl (O := PyProof.Rows.itemOrd) _
    · exact (List.pairwise_cons.mp hs).1 b q
/-- what the sort is given -/
def bsOf (kvs : List (List L2.Key × V)) (D : List Pt) : List (V × PyData) := (kvs.zip D).map fun q => (q.1.2, rankD q.2.2.1 q.2.2.2)
theorem bs_fst {H : Hp} : ∀ {kvs : List (List L2.Key × V)} {D : List Pt}, DRel H kvs D → (bsOf kvs D).map (·.1) = kvs.map (·.2)
  | _, _, .nil => rfl
  | kv :: kvs, e :: D, .cons h t => by
    have ih := bs_fst t
    unfold bsOf at ih ⊢
    rw [List.zip_cons_cons, List.map_cons, List.map_cons, List.map_cons, ih]
theorem bs_mem {H : Hp} : ∀ {kvs : List (List L2.Key × V)} {D : List Pt}, DRel H kvs D → ∀ b ∈ bsOf kvs D, ∃ e ∈ D, PaT H b.1 e.2 ∧ b.2 = rankD e.2.1 e.2.2
  | _, _, .nil, b, h => by cases h
  | kv :: kvs, e :: D, .cons h t, b, hb => by
    unfold bsOf at hb
    rw [List.zip_cons_cons, List.map_cons] at hb
    rcases List.mem_cons.mp hb with rfl | hb
    · exact ⟨e, List.mem_cons_self, h.2, rfl⟩
    · obtain ⟨e', he, z⟩ := bs_mem t b hb
      exact ⟨e', List.mem_cons_of_mem _ he, z⟩
theorem bs_all {H : Hp} : ∀ {kvs : List (List L2.Key × V)} {D : List Pt}, DRel H kvs D → ∀ e ∈ D, ∃ b ∈ bsOf kvs D, b.2 = rankD e.2.1 e.2.2
  | _, _, .nil, e, h => by cases h
  | kv :: kvs, e :: D, .cons h t, e', he => by
    have eq : bsOf (kv :: kvs) (e :: D) = (kv.2, rankD e.2.1 e.2.2) :: bsOf kvs D := by unfold bsOf; rw [List.zip_cons_cons, List.map_cons]
    rw [eq]
    rcases List.mem_cons.mp he with rfl | he
    · exact ⟨_, List.mem_cons_self, rfl⟩
    · obtain ⟨b, hb, z⟩ := bs_all t e' he
      exact ⟨b, List.mem_cons_of_mem _ hb, z⟩
theorem bs_alike {H : Hp} {kvs : List (List L2.Key × V)} {D : List Pt} (h : DRel H kvs D) : AllAlike ((bsOf kvs D).map (·.2)) := by
  intro d hd d' hd'
  obtain ⟨b, hb, rfl⟩ := List.mem_map.mp hd
  obtain ⟨b', hb', rfl⟩ := List.mem_map.mp hd'
  obtain ⟨e, _, _, z⟩ := bs_mem h b hb
  obtain ⟨e', _, _, z'⟩ := bs_mem h b' hb'
  rw [z, z']
  exact rank_alike e.2 e'.2
theorem bs_sortable {H : Hp} {kvs : List (List L2.Key × V)} {D : List Pt} (h : DRel H kvs D) : Sortable ((bsOf kvs D).map (·.2)) := by
  refine .inl fun d hd => ?_
  obtain ⟨b, hb, rfl⟩ := List.mem_map.mp hd
  obtain ⟨e, _, _, z⟩ := bs_mem h b hb
  exact ⟨_, _, z⟩
theorem bs_best {H : Hp} {kvs : List (List L2.Key × V)} {D S : List Pt} (h : DRel H kvs D) (hI : DInv S D) (hne : kvs ≠ []) : ∃ b0 r, (sortP (bsOf kvs D)).map (·.1) = b0 :: r ∧ ∃ b, Best S b ∧ PaT H b0 b := by
  have hb : bsOf kvs D ≠ [] := fun z => hne (by
    have := bs_fst h
    rw [z] at this
    exact List.map_eq_nil_iff.mp this.symm)
  obtain ⟨b0, r, e1, e2, e3⟩ := sort_head hb
  obtain ⟨e, he, hp, hz⟩ := bs_mem h b0 e2
  refine ⟨b0.1, r.map (·.1), by rw [e1]; rfl, e.2, Best.of hI ⟨e.1, he⟩ fun e' he' => ?_, hp⟩
  obtain ⟨b', hb', z'⟩ := bs_all h e' he'
  have := e3 b' hb'
  rw [z', hz, rank_lt] at this
  exact of_decide_eq_false this
end KX
end

section
set_option Elab.async false
set_option linter.all false
set_option maxRecDepth 100000
set_option maxHeartbeats 4000000
namespace KX
open PySem PySem.Spec PyProof.Rows L2 KR KM
open He (ga ma)
theorem hu70 {A : Around} {k : Nat} (hr : Room k A) : A.units + 70 < cLine := by have := hr.un; omega
/-- at v what ranks r -/
def RkT (H : Hp) (v : V) (r : Rk) : Prop := ∃ t a b, v = .ref t ∧ H t = some (.tup [.int r.1.length, .ref a, .ref b]) ∧ H a = some (.tup (r.1.map iv)) ∧ H b = some (.tup (r.2.map iv))
theorem RkT.kp {H H' : Hp} {v : V} {r : Rk} (e : Kp H H') (h : RkT H v r) : RkT H' v r := let ⟨t, a, b, p, q, u, w⟩ := h; ⟨t, a, b, p, e.tup q, e.tup u, e.tup w⟩
theorem dp_ints {K : PySem.W.Frag} {H : Hp} : ∀ {xs : List Int}, DpAll K H (xs.map iv) (xs.map .int)
  | [] => .nil
  | x :: xs => .cons (.int x) dp_ints
theorem RkT.dp {K : PySem.W.Frag} {H : Hp} {v : V} {r : Rk} (h : RkT H v r) : Dp K H v (rankD r.1 r.2) := by
  obtain ⟨t, a, b, rfl, h1, h2, h3⟩ := h
  exact .tup (sqT h1) (.cons (.int _) (.cons (.tup (sqT h2) dp_ints) (.cons (.tup (sqT h3) dp_ints) .nil)))
theorem r_cat {K : PySem.W.Frag} {H : Hp} {x y : V} {ws ms : List Int} {Q : VK} (hx : IT H x ws) (hy : IT H y ms) (hl : ws.length + ms.length ≤ 100000) (q : ∀ v H', Same H H' → IT H' v (ws ++ ms) → Q v H') : rCatA K x y H Q := by
  obtain ⟨a, rfl, ha⟩ := hx
  obtain ⟨b, rfl, hb⟩ := hy
  refine ⟨a, b, _, _, rfl, rfl, sqT ha, sqT hb, Nat.le_of_lt (sz8 (by simpa using hl)), fun z => ?_, fun z z2 => ?_, fun z z2 p hp => ?_⟩
  · have : ws = [] := List.map_eq_nil_iff.mp z
    subst this
    exact q _ _ (Same.refl H) ⟨b, rfl, hb⟩
  · have : ms = [] := List.map_eq_nil_iff.mp z2
    subst this
    exact q _ _ (Same.refl H) ⟨a, rfl, by rw [List.append_nil]; exact ha⟩
  · exact q _ _ (snew hp) ⟨p, rfl, by rw [upd_same, List.map_append]⟩
section
variable {P : Program} {w : World} {K : PySem.W.Frag} {mg : Str → Option Value} {base : Heap}
def sp_ranked : Sp := fun vs H Q _ => ∃ (x : V) (r : Rk), vs = [x] ∧ PaT H x r ∧ ∀ v H', Same H H' → RkT H' v r → Q v H'
theorem ok_ranked (T : Tx K mg) : Has P w K mg base 1 "ranked" ["told"] sp_ranked := by
  refine has_of T.d_ranked T.g_ranked sc_ranked (fun vs H Q E h => ?_) (fun cdv A outer s H vs Q E hr h => ?_)
  · obtain ⟨_, _, rfl, _⟩ := h
    rfl
  · obtain ⟨x, r, rfl, ⟨t, a, b, rfl, ht, ha, hb⟩, q⟩ := h
    refine ⟨_, pss_one (ps_ret (pe_tup (pa_cons (pe_callB call_len_seq (by rfl) T.b_len PySem.boot_len (pa_cons (pe_ix ix_tup (pv 0) pe_int (fun _ _ => rfl)) pa_nil)) (pa_cons (pe_ix ix_tup (pv 0) pe_int (fun _ _ => rfl)) (pa_cons (pe_ix ix_tup (pv 0) pe_int (fun _ _ => rfl)) pa_nil))))), ?_⟩
    refine ⟨_, rfl, t, _, _, _, rfl, rfl, sqT ht, atI_nat (j := 0) rfl, _, _, rfl, .inr (sqT ha), _, rfl, t, _, _, _, rfl, rfl, sqT ht, atI_nat (j := 0) rfl, _, rfl, t, _, _, _, rfl, rfl, sqT ht, atI_nat (j := 1) rfl, by show 3 ≤ sizeLine; decide, fun p hp => ?_⟩
    have e := snew (o := .tup [.int ((r.1.map V.int).length : Nat), .ref a, .ref b]) hp
    exact q _ _ e ⟨p, a, b, rfl, by rw [upd_same, List.length_map], e _ _ ha, e _ _ hb⟩
/-! ### nearest -/
structure NI (H : Hp) (d p : Addr) (od : Obj) (kvs : List (List L2.Key × V)) (D D3 : List Pt) (H7 : Hp) : Prop where
  same : Same H H7
  lk : H7 d = some (.frz od (.dT kvs))
  old : DRel H7 kvs D
  cur : ∃ kvs3, H7 p = some (.dT kvs3) ∧ DRel H7 kvs3 D3
structure NJ (p3 : Addr) (xs : List V) (ss : List (List Int × List Int × List Int)) (q a b : V) (ns ws ps : List Int) (H7 : Hp) : Prop where
  lst : H7 p3 = some (.lst xs)
  st : Paired (StT H7) xs ss
  iq : IT H7 q ns
  ia : IT H7 a ws
  ib : IT H7 b ps
section
variable {H H7 H8 : Hp} {d p p3 : Addr} {od : Obj} {kvs : List (List L2.Key × V)} {D D3 : List Pt} {xs : List V} {ss : List (List Int × List Int × List Int)} {q a b : V} {ns ws ps : List Int}
theorem NI.go (h : NI H d p od kvs D D3 H7) (e : Same H7 H8) : NI H d p od kvs D D3 H8 :=
  let ⟨k3, c1, c2⟩ := h.cur
  ⟨h.same.trans e, e _ _ h.lk, h.old.kp (kps e), k3, e _ _ c1, c2.kp (kps e)⟩
theorem NJ.go (h : NJ p3 xs ss q a b ns ws ps H7) (e : Same H7 H8) : NJ p3 xs ss q a b ns ws ps H8 :=
  ⟨e _ _ h.lst, L2.Paired.mapP h.st fun _ _ z => z.kp (kps e), h.iq.same e, h.ia.same e, h.ib.same e⟩
theorem NI.put (h : NI H d p od kvs D D3 H7) (hp : H p = none) {kvs3 : List (List L2.Key × V)} (c1 : H7 p = some (.dT kvs3)) (c2 : DRel H7 kvs3 D3) (nd : (D3.map (·.1)).Nodup) {k : List Int} {v : V} {r : Rk} (hv : PaT H7 v r) :
    NI H d p od kvs D (putM D3 k r) (upd H7 p (.dT (putK kvs3 (kI k) v))) := by
  have e := kpu (o := .dT (putK kvs3 (kI k) v)) c1
  have ne : d ≠ p := fun z => by
    have h1 := h.lk
    rw [z, c1] at h1
    cases h1
  exact ⟨sput h.same hp, by rw [upd_ne ne]; exact h.lk, h.old.kp e, _, upd_same, (drel_put hv c2 nd).kp e⟩
theorem NJ.put (h : NJ p3 xs ss q a b ns ws ps H7) {kvs3 : List (List L2.Key × V)} {o : HO} (c1 : H7 p = some (.dT kvs3)) : NJ p3 xs ss q a b ns ws ps (upd H7 p o) := by
  have e := kpu (o := o) c1
  have ne : p3 ≠ p := fun z => by
    have h1 := h.lst
    rw [z, c1] at h1
    cases h1
  exact ⟨by rw [upd_ne ne]; exact h.lst, L2.Paired.mapP h.st fun _ _ z => z.kp e, h.iq.kp e, h.ia.kp e, h.ib.kp e⟩
end
def sp_nearest (K : PySem.W.Frag) : Sp := fun vs H Q _ => ∃ (h x y : V) (M : Pushes) (ns : List Int) (log : List Ent), vs = [h, x, y] ∧ HaT K H h M ∧ IT H x ns ∧ ns.length = M.length ∧ M.length ≤ 3 ∧ LgT H y log ∧ log.length ≤ 7 ∧ (∀ e ∈ log, entOk M.length e) ∧
  ∀ v H', Same H H' → ((ptsAt M ns log log.length = [] ∧ v = .non) ∨ ∃ b, Best (ptsAt M ns log log.length) b ∧ PaT H' v b) → Q v H'
def PO (H : Hp) (M : Pushes) (ns : List Int) (log : List Ent) (h x y : V) (i : Nat) (σ : L2.St) (H' : Hp) : Prop := ∃ d kvs D u4 u5 u6 u7 u8 u9 u10 u11 u12 u13,
  σ = [some h, some x, some y, some (.ref d), u4, u5, u6, u7, u8, u9, u10, u11, u12, u13] ∧ Same H H' ∧ H d = none ∧ H' d = some (.dT kvs) ∧ DRel H' kvs D ∧ DInv (ptsAt M ns log i) D ∧ D.length ≤ 3 ^ i
theorem none_back {H H' : Hp} {p : Addr} (e : Same H H') (h : H' p = none) : H p = none := by
  cases q : H p with
  | none => rfl
  | some u => have := e _ _ q; rw [h] at this; cases this
theorem sc_nearest : FnScope ["hall", "start", "log", "found", "index", "entry", "later", "numbers", "wrong", "play", "pressed", "there", "more", "told"] ["hall", "start", "log"] (defScope s_nearest) := ⟨rfl, rfl, rfl, by decide +kernel, rfl, by decide +kernel, by decide +kernel⟩
theorem ok_nearest (T : Tx K mg) : Has P w K mg base 4 "nearest" ["hall", "start", "log"] (sp_nearest K) := by
  obtain ⟨fdr, Fr, br⟩ := T.d_ranked.ex
  refine has_of T.d_nearest T.g_nearest sc_nearest (fun vs H Q E h => ?_) (fun cdv A outer s H vs Q E hr h => ?_)
  · obtain ⟨_, _, _, _, _, _, rfl, _⟩ := h
    rfl
  · obtain ⟨h, x, y, M, ns, log, rfl, hh, hx, hl, h3, hy, h7, ok, q⟩ := h
    have nd := sc_nearest.nd
    have hu := hu_of hr
    refine ⟨_, pss_cons (ps_set (i := 3) nd rfl (Or.inl rfl) (pe_disp1 hu (pv 1) (pe_tup (pa_cons (pe_tup pa_nil) (pa_cons (pe_tup pa_nil) pa_nil)))))
      (pss_cons (ps_for PassesOwn.never rfl (pi_enumT (by rfl) T.b_enumerate (pa_cons (pv 2) pa_nil)) (pg_tup rfl (pgs_cons (pg_name (i := 4) nd rfl (Or.inl rfl)) (pgs_cons (pg_name (i := 5) nd rfl (Or.inl rfl)) pgs_nil)))
        (pss_cons (ps_set (i := 6) nd rfl (Or.inl rfl) pe_dnewT)
        (pss_cons (ps_lock (ps_for PassesOwn.never rfl (pi_itemsT (pv 3)) (pg_tup rfl (pgs_cons (pg_name (i := 7) nd rfl (Or.inl rfl)) (pgs_cons (pg_tup rfl (pgs_cons (pg_name (i := 8) nd rfl (Or.inl rfl)) (pgs_cons (pg_name (i := 9) nd rfl (Or.inl rfl)) pgs_nil))) pgs_nil)))
          (pss_one (ps_for PassesOwn.never rfl (pi_list (pe_has ((ok_steps_by T).mono (by decide)) hr (pa_cons (pv 0) (pa_cons (pv 7) (pa_cons (pv 5) (pa_cons (pv 4) pa_nil)))))) (pg_tup rfl (pgs_cons (pg_name (i := 10) nd rfl (Or.inl rfl)) (pgs_cons (pg_name (i := 11) nd rfl (Or.inl rfl)) (pgs_cons (pg_name (i := 12) nd rfl (Or.inl rfl)) pgs_nil))))
            (pss_cons (ps_set (i := 13) nd rfl (Or.inl rfl) (pe_tup (pa_cons (pe_op op_catA (pv 8) (pv 12)) (pa_cons (pe_op op_catA (pv 9) (pv 10)) pa_nil))))
            (pss_one (ps_if (PW.pt (pw_or (pt_cmp (pc_dnotin hu (pv 11) (pv 6))) (pw_or1 (pt_cmpR (op_ltD hr.units) (pe_has ((ok_ranked T).mono (by decide)) hr (pa_cons (pv 13) pa_nil)) (pe_has ((ok_ranked T).mono (by decide)) hr (pa_cons (pe_dget hu (pv 6) (pv 11) (fun _ _ => rfl)) pa_nil)) (nomark _))))) (pss_one (ps_dput hu (pv 6) (pv 11) (pv 13) rfl)) pss_nil)))))))
        (pss_one (ps_set (i := 3) nd rfl (Or.inl rfl) (pv 6))))))
      (pss_one (ps_ret (pe_ifExp (pt_cmpR (op_neE hr.units0) (pv 3) pe_dnewT (nomark _))
        (pe_ix ix_list (pe_callBK (cr_sortedVK (hu70 hr) rfl (key_ranked Fr br (hr.mono (by decide)) T.b_len)) (by rfl) T.b_sorted (by decide +kernel) (pa_cons (pe_bm0 PySem.F.plainAttrs_dict PySem.F.slot_dict_values PySem.F.type_dict_values mt_valuesT (pv 3)) pa_nil) (pk_cons (pe_glob (v := .ref (ga K "ranked")) (by rfl) T.g_ranked rfl) pk_nil)) pe_int (fun _ _ => rfl)) pe_non)))), ?_⟩
    have z0 : (0 : Nat) ≤ sizeLine := Nat.zero_le _
    have z2 : (2 : Nat) ≤ sizeLine := by decide
    have g : GoodP M := by obtain ⟨_, _, _, _, _, _, g⟩ := hh; exact g
    obtain ⟨tx, rfl, htx⟩ := id hx
    obtain ⟨t, es, rfl, ht, hp⟩ := id hy
    have le : es.length = log.length := Paired.length hp
    refine fun d hd => ⟨_, rfl, z0, fun p1 hp1 => ⟨z0, fun p2 hp2 => ⟨z2, fun p3 hp3 => ?_⟩⟩⟩
    have e1 := snew (o := .dT []) hd
    have e2 := snew (o := .tup []) hp1
    have e3 := snew (o := .tup []) hp2
    have e4 := snew (o := .tup [.ref p1, .ref p2]) hp3
    have e14 := e1.trans (e2.trans (e3.trans e4))
    have hdd := (e2.trans (e3.trans e4)) _ _ (upd_same (H := H) (a := d) (o := .dT []))
    have kk := kpu (o := .dT [(kI ns, .ref p3)]) hdd
    refine ⟨kI ns, tx, rfl, hdd, by rw [kI_V]; exact e14 _ _ htx, ?_⟩
    refine ⟨_, rfl, t, es, rfl, sqT (kk.tup (e14 _ _ ht)), for_it (walkE (K := K) (a := t) (ys := es)) (PO H M ns log h (.ref tx) (.ref t))
      ⟨d, _, [(ns, ([], []))], none, none, none, none, none, none, none, none, none, none, rfl, sput e14 hd, hd, upd_same, .cons ⟨rfl, p3, p1, p2, rfl, kk.tup upd_same, kk.tup ((e3.trans e4) _ _ upd_same), kk.tup (e4 _ _ upd_same)⟩ .nil, DInv.nil.keep (pt := (ns, ([], []))), Nat.le_refl _⟩
      (fun i σ H' _ ⟨_, _, _, _, _, _, _, _, _, _, _, _, _, _, e, _⟩ => sqT (e _ _ ht)) ?_ ?_⟩
    · rintro i yv σ H' H'' hi ⟨d, kvs, D, u4, u5, u6, u7, u8, u9, u10, u11, u12, u13, rfl, e, hd, hdd, hr', hI, hn⟩ ⟨Tn, z1, ez, rfl, hT, rfl, k1, k2⟩
      cases k1
      obtain ⟨en, he1, he2⟩ := pget hp k2
      have hok := ok en (List.mem_of_getElem? he1)
      have hil : i < log.length := by rw [← le]; exact hi
      refine ⟨Tn, _, rfl, sqT upd_same, rfl, _, _, rfl, _, _, rfl, rfl, ?_⟩
      refine fun p hpn => ?_
      have ea := snew (o := .tup [.int (i : Nat), ez]) hT
      have eb := snew (o := .dT []) hpn
      have hp0 : H p = none := none_back (e.trans ea) hpn
      have hdb := eb _ _ (ea _ _ hdd)
      have npd : d ≠ p := ne_of_none (ea _ _ hdd) hpn
      refine ⟨d, _, hdb, trivial, fun od => ?_⟩
      have el := kpu (o := .frz od (.dT kvs)) hdb
      have lD : kvs.length = D.length := Paired.length hr'
      have bd : ∀ dd ∈ D, dd.1.length = M.length ∧ dd.2.1.length ≤ i ∧ dd.2.2.length ≤ i := fun dd hdd => pts_bounds g.rows hl (Nat.le_of_lt hil) (hI.least dd hdd).1
      have bd3 : ∀ dd ∈ D, dd.1.length ≤ 3 := fun dd hdd => by have := (bd dd hdd).1; omega
      have nD : D.length ≤ 2187 := Nat.le_trans hn (Nat.le_trans (Nat.pow_le_pow_right (by decide) (show i ≤ 7 by omega)) (by decide))
      refine ⟨_, rfl, d, od, kvs, rfl, upd_same, for_it (walkI (d := d) (o := od) (kvs := kvs)) (fun j σ H4 => ∃ u7 u8 u9 u10 u11 u12 u13, σ = [some h, some (.ref tx), some (.ref t), some (.ref d), some (.int (i : Nat)), some ez, some (.ref p), u7, u8, u9, u10, u11, u12, u13] ∧ NI H d p od kvs D ((outs M en i D j).foldl keep []) H4)
        ⟨u7, u8, u9, u10, u11, u12, u13, rfl, ⟨sput (e.trans (ea.trans eb)) hd, upd_same, (hr'.kp (kps (ea.trans eb))).kp el, [], by rw [upd_ne npd.symm, upd_same], .nil⟩⟩ (fun j σ H4 _ ⟨_, _, _, _, _, _, _, _, hN⟩ => hN.lk) ?_ ?_⟩
      · rintro j yv σ H4 H5 hj ⟨v7, v8, v9, v10, v11, v12, v13, rfl, hN⟩ ⟨T2, k, v, qa, hk, rfl, hT2, rfl, hq⟩
        obtain ⟨pt, hpt, hk1, hPv⟩ := pget hN.old hk
        have hk1 : k = kI pt.1 := hk1
        subst hk1
        rw [kI_V] at hq
        obtain ⟨t2, a2, b2, hv, h2, ha2, hb2⟩ := hPv
        have hv : v = .ref t2 := hv
        subst hv
        have hpm := List.mem_of_getElem? hpt
        obtain ⟨bd1, bd2, bd4⟩ := bd pt hpm
        have e5 := snew (o := .tup [.ref qa, .ref t2]) hT2
        have sm := hN.same.trans e5
        refine ⟨T2, _, rfl, sqT upd_same, rfl, _, _, rfl, _, _, rfl, t2, _, rfl, sqT (e5 _ _ h2), rfl, _, _, rfl, _, _, rfl, rfl, rfl, ?_⟩
        refine ⟨_, rfl, _, rfl, _, rfl, _, rfl, h, .ref qa, ez, i, M, pt.1, en, rfl, hh.same sm, ⟨qa, rfl, e5 _ _ hq⟩, bd1, he2.same sm, hok, fun q3 xs H6 e6 hq3 hxs hP => ?_⟩
        have e56 := e5.trans e6
        refine ⟨q3, rfl, ⟨_, SqL.of hxs⟩, for_list (K := K) (a := q3) (xs := xs) (fun r σ H7 => ∃ u10 u11 u12 u13, σ = [some h, some (.ref tx), some (.ref t), some (.ref d), some (.int (i : Nat)), some ez, some (.ref p), some (.ref qa), some (.ref a2), some (.ref b2), u10, u11, u12, u13] ∧ NI H d p od kvs D ((outsR M en i D j pt r).foldl keep []) H7 ∧ NJ q3 xs (steps M pt.1 en i) (.ref qa) (.ref a2) (.ref b2) pt.1 pt.2.1 pt.2.2 H7)
          ⟨v10, v11, v12, v13, rfl, by rw [outsR_zero]; exact hN.go e56, hxs, hP, ⟨qa, rfl, e56 _ _ hq⟩, ⟨a2, rfl, e56 _ _ ha2⟩, ⟨b2, rfl, e56 _ _ hb2⟩⟩ (fun r σ H7 _ ⟨_, _, _, _, _, _, hJ⟩ => SqL.of hJ.lst) ?_ ?_⟩
        · rintro r yv σ H7 hyr ⟨w10, w11, w12, w13, rfl, hN7, hJ7⟩
          obtain ⟨s3, hs, ts, sa, sb, sc, rfl, hts, hsa, hsb, hsc⟩ := pget hJ7.st hyr
          obtain ⟨tb, rfl, htb⟩ := id hsb
          obtain ⟨sl1, sl2, sl3⟩ := steps_bd g.rows bd1 (List.mem_of_getElem? hs)
          refine ⟨ts, _, rfl, sqT hts, rfl, _, _, rfl, _, _, rfl, _, _, rfl, rfl, ?_⟩
          refine ⟨_, rfl, _, rfl, ?_⟩
          refine r_cat (K := K) hJ7.ia hsc (by omega) fun v1 H8 e8 hv1 => ?_
          refine ⟨_, rfl, _, rfl, ?_⟩
          refine r_cat (K := K) (hJ7.ib.same e8) (hsa.same e8) (by omega) fun v2 H9 e9 hv2 => ?_
          refine ⟨z2, fun p4 hp4 => ?_⟩
          have eA := e8.trans (e9.trans (snew (o := .tup [v1, v2]) hp4))
          have hPA : PaT (upd H9 p4 (.tup [v1, v2])) (.ref p4) (offer pt s3).2 := by
            obtain ⟨w1, rfl, hw1⟩ := hv1
            obtain ⟨w2, rfl, hw2⟩ := hv2
            exact ⟨p4, w1, w2, rfl, upd_same, (e9.trans (snew hp4)) _ _ hw1, (snew hp4) _ _ hw2⟩
          have hN10 := hN7.go eA
          have hJ10 := hJ7.go eA
          obtain ⟨kvs3, c1, c2⟩ := hN10.cur
          have htb' : (upd H9 p4 (.tup [v1, v2])) tb = some (.tup ((kI s3.2.1).map kV)) := by rw [kI_V]; exact eA _ _ htb
          have nxt : (outsR M en i D j pt (r + 1)).foldl keep [] = keep ((outsR M en i D j pt r).foldl keep []) (offer pt s3) := by rw [outsR_succ hs, List.foldl_append]; rfl
          have ndk := outs_nodup (O := outsR M en i D j pt r)
          have size : kvs3.length < sizeLine := by
            have h1 : kvs3.length = ((outsR M en i D j pt r).foldl keep []).length := Paired.length c2
            have h2 := fold_len (outsR M en i D j pt r) []
            have h3 := outsR_len (P := M) (e := en) (i := i) (D := D) (j := j) (pt := pt) (r := r) bd3 (by omega)
            simp only [List.length_nil] at h2
            exact sz8 (by omega)
          refine ⟨_, rfl, _, rfl, p, _, rfl, DGet.t c1 htb', _, rfl, ?_⟩
          cases hlk : lookM ((outsR M en i D j pt r).foldl keep []) s3.2.1 with
          | none =>
            rw [(drel_get c2).1 hlk]
            have kp : keep ((outsR M en i D j pt r).foldl keep []) (offer pt s3) = putM ((outsR M en i D j pt r).foldl keep []) s3.2.1 (offer pt s3).2 := keep_none hlk
            refine iteT ⟨_, rfl, _, rfl, _, rfl, p, _, rfl, DPut.t c1 htb' size, ?_⟩
            exact ⟨_, _, _, _, rfl, by rw [nxt, kp]; exact hN10.put hp0 c1 c2 ndk hPA, hJ10.put c1⟩
          | some r0 =>
            obtain ⟨v0, hv0, hpv0⟩ := (drel_get c2).2 r0 hlk
            rw [hv0]
            refine iteF ?_
            refine ⟨_, rfl, .ref p4, (offer pt s3).2, rfl, hPA, fun w1 H11 e11 hw1 => ?_⟩
            refine ⟨_, rfl, _, rfl, p, v0, rfl, (by rw [← hv0]; exact DGet.t (e11 _ _ c1) (e11 _ _ htb')), v0, r0, rfl, hpv0.kp (kps e11), fun w2 H12 e12 hw2 => ?_⟩
            refine ⟨_, _, (hw1.kp (kps e12)).dp, hw2.dp, rank_alike _ _, (by intro z; cases z), rank_depth _, ?_⟩
            rw [rank_lt]
            have e1112 := e11.trans e12
            refine ⟨_, rfl, ite2 (fun c => ?_) (fun c => ?_)⟩
            · have kp : keep ((outsR M en i D j pt r).foldl keep []) (offer pt s3) = putM ((outsR M en i D j pt r).foldl keep []) s3.2.1 (offer pt s3).2 := keep_lt hlk (of_decide_eq_true c)
              refine ⟨_, rfl, _, rfl, _, rfl, p, _, rfl, DPut.t (e1112 _ _ c1) (e1112 _ _ htb') size, ?_⟩
              exact ⟨_, _, _, _, rfl, by rw [nxt, kp]; exact (hN10.go e1112).put hp0 (e1112 _ _ c1) (c2.kp (kps e1112)) ndk (hPA.kp (kps e1112)), (hJ10.go e1112).put (e1112 _ _ c1)⟩
            · have kp : keep ((outsR M en i D j pt r).foldl keep []) (offer pt s3) = (outsR M en i D j pt r).foldl keep [] := keep_ge hlk (fun z => c (decide_eq_true z))
              exact ⟨_, _, _, _, rfl, by rw [nxt, kp]; exact hN10.go e1112, hJ10.go e1112⟩
        · rintro σ H7 ⟨w10, w11, w12, w13, rfl, hN7, hJ7⟩
          have lx : xs.length = (steps M pt.1 en i).length := Paired.length hJ7.st
          rw [lx, outs_succ hpt] at hN7
          exact ⟨_, _, _, _, _, _, _, rfl, hN7⟩
      · rintro σ H4 ⟨v7, v8, v9, v10, v11, v12, v13, rfl, hN⟩
        rw [lD, outs_all] at hN
        obtain ⟨kvs3, c1, c2⟩ := hN.cur
        refine ⟨hN.lk, _, rfl, ?_⟩
        refine ⟨p, kvs3, _, _, _, _, _, _, _, _, _, _, _, rfl, sput hN.same hd, hp0, by rw [upd_ne npd.symm]; exact c1, c2.kp (kpu hN.lk), ?_, ?_⟩
        · rw [pts_succ he1]
          exact hI.step (n := pressesAt log i) (fun a ha => pts_len ha) (DInv.fold DInv.nil _)
        · have h1 := fold_len (D.flatMap (offers M en i)) []
          have h2 := outs_len (P := M) (e := en) (i := i) (D := D) (j := D.length) bd3
          rw [outs_all] at h2
          simp only [List.length_nil] at h1
          have h3 : 3 ^ (i + 1) = 3 * 3 ^ i := by rw [Nat.pow_succ, Nat.mul_comm]
          omega
    · rintro σ H' ⟨d, kvs, D, u4, u5, u6, u7, u8, u9, u10, u11, u12, u13, rfl, e, hd, hdd, hr', hI, hn⟩
      rw [le] at hI
      refine ⟨_, rfl, fun p hp => ⟨d, p, kvs, rfl, rfl, (snew hp) _ _ hdd, upd_same, _, rfl, ?_⟩⟩
      cases kvs with
      | nil =>
        refine iteF (q _ _ (e.trans (snew hp)) (.inl ⟨?_, rfl⟩))
        cases hr'
        refine List.eq_nil_iff_forall_not_mem.mpr fun e' he' => ?_
        obtain ⟨e2, he2, _⟩ := hI.all e' he'
        cases he2
      | cons kv rest =>
        have ep := snew (o := .dT []) hp
        refine iteT ⟨_, rfl, .inr (.inr (.inl ⟨rfl, .inr ⟨_, ep _ _ hdd⟩⟩)), d, _, rfl, rfl, ep _ _ hdd, fun p5 hp5 => ?_⟩
        have e5 := snew (o := valuesO p5 d) hp5
        have hr2 := hr'.kp (kps (ep.trans e5))
        obtain ⟨b0, r, hb0, b, hbest, hpa⟩ := bs_best hr2 hI (by simp)
        refine ⟨p5, d, _, bsOf (kv :: rest) D, rfl, rfl, upd_same, e5 _ _ (ep _ _ hdd), bs_fst hr2, fun b hb => ?_, bs_alike hr2, bs_sortable hr2, fun b hb => ?_, fun l hl => ?_⟩
        · obtain ⟨e', _, h1, h2⟩ := bs_mem hr2 b hb
          exact ⟨_, _, h1, h2⟩
        · obtain ⟨e', _, h1, h2⟩ := bs_mem hr2 b hb
          rw [h2]
          exact rank_depth e'.2
        · refine ⟨l, _, _, b0, rfl, rfl, SqL.of upd_same, atI_nat (j := 0) (by rw [hb0]; rfl), ?_⟩
          exact q _ _ (e.trans (ep.trans (e5.trans (snew hl)))) (.inr ⟨b, hbest, hpa.kp (kps (snew hl))⟩)
end
end KX
end

section
set_option Elab.async false
set_option linter.all false
set_option maxRecDepth 100000
set_option maxHeartbeats 4000000
namespace KX
open PySem PySem.Spec PyProof.Rows L2 KR KM
open He (ga ma)
section
variable {P : Program} {w : World} {K : PySem.W.Frag} {mg : Str → Option Value} {base : Heap}
def sp_doubted (K : PySem.W.Frag) (f : Rk → List Int) : Sp := fun vs H Q _ => ∃ (h x y : V) (M : Pushes) (ns : List Int) (log : List Ent), vs = [h, x, y] ∧ HaT K H h M ∧ IT H x ns ∧ ns.length = M.length ∧ M.length ≤ 3 ∧ LgT H y log ∧ log.length ≤ 7 ∧ GoodL M.length log ∧
  ∀ v H', Same H H' → ((ptsAt M ns log log.length = [] ∧ v = .non) ∨ ∃ b, Best (ptsAt M ns log log.length) b ∧ IT H' v (f b)) → Q v H'
theorem sc_doubted : FnScope ["hall", "start", "log", "best"] ["hall", "start", "log"] (defScope s_doubted) := ⟨rfl, rfl, rfl, by decide +kernel, rfl, by decide +kernel, by decide +kernel⟩
theorem sc_mended : FnScope ["hall", "start", "log", "best"] ["hall", "start", "log"] (defScope s_mended) := ⟨rfl, rfl, rfl, by decide +kernel, rfl, by decide +kernel, by decide +kernel⟩
theorem ok_doubted (T : Tx K mg) : Has P w K mg base 6 "doubted" ["hall", "start", "log"] (sp_doubted K fun b => b.1) := by
  refine has_of T.d_doubted T.g_doubted sc_doubted (fun vs H Q E h => ?_) (fun cdv A outer s H vs Q E hr h => ?_)
  · obtain ⟨_, _, _, _, _, _, rfl, _⟩ := h
    rfl
  · obtain ⟨h, x, y, M, ns, log, rfl, hh, hx, hl, h3, hy, h7, g, q⟩ := h
    have nd := sc_doubted.nd
    refine ⟨_, pss_cons (ps_expr (pe_has (ok_need_told T) hr (pa_cons (pv 0) (pa_cons (pv 1) (pa_cons (pv 2) pa_nil))))) (pss_cons (ps_set (i := 3) nd rfl (Or.inl rfl) (pe_has ((ok_nearest T).mono (by decide)) hr (pa_cons (pv 0) (pa_cons (pv 1) (pa_cons (pv 2) pa_nil)))))
      (pss_one (ps_ret (pe_ifExp (pt_cmpR op_notN (pv 3) pe_non (nomark _)) (pe_ix ix_tup (pv 3) pe_int (fun _ _ => rfl)) pe_non)))), ?_⟩
    refine ⟨_, rfl, _, rfl, _, rfl, _, _, _, M, ns, log, rfl, hh, hx, hl, hy, g, fun H1 e1 => ?_⟩
    refine ⟨_, rfl, _, rfl, _, rfl, _, _, _, M, ns, log, rfl, hh.same e1, hx.same e1, hl, h3, hy.same e1, h7, g.ok, fun v H2 e2 hv => ?_⟩
    rcases hv with ⟨hp, rfl⟩ | ⟨b, hb, t, a, c, rfl, h1, h2, h3⟩
    · exact ⟨_, rfl, rfl, _, rfl, iteF (q _ _ (e1.trans e2) (.inl ⟨hp, rfl⟩))⟩
    · exact ⟨_, rfl, rfl, _, rfl, iteT ⟨_, rfl, t, _, _, _, rfl, rfl, sqT h1, atI_nat (j := 0) rfl, q _ _ (e1.trans e2) (.inr ⟨b, hb, a, rfl, h2⟩)⟩⟩
theorem ok_mended (T : Tx K mg) : Has P w K mg base 6 "mended" ["hall", "start", "log"] (sp_doubted K fun b => b.2) := by
  refine has_of T.d_mended T.g_mended sc_mended (fun vs H Q E h => ?_) (fun cdv A outer s H vs Q E hr h => ?_)
  · obtain ⟨_, _, _, _, _, _, rfl, _⟩ := h
    rfl
  · obtain ⟨h, x, y, M, ns, log, rfl, hh, hx, hl, h3, hy, h7, g, q⟩ := h
    have nd := sc_mended.nd
    refine ⟨_, pss_cons (ps_expr (pe_has (ok_need_told T) hr (pa_cons (pv 0) (pa_cons (pv 1) (pa_cons (pv 2) pa_nil))))) (pss_cons (ps_set (i := 3) nd rfl (Or.inl rfl) (pe_has ((ok_nearest T).mono (by decide)) hr (pa_cons (pv 0) (pa_cons (pv 1) (pa_cons (pv 2) pa_nil)))))
      (pss_one (ps_ret (pe_ifExp (pt_cmpR op_notN (pv 3) pe_non (nomark _)) (pe_ix ix_tup (pv 3) pe_int (fun _ _ => rfl)) pe_non)))), ?_⟩
    refine ⟨_, rfl, _, rfl, _, rfl, _, _, _, M, ns, log, rfl, hh, hx, hl, hy, g, fun H1 e1 => ?_⟩
    refine ⟨_, rfl, _, rfl, _, rfl, _, _, _, M, ns, log, rfl, hh.same e1, hx.same e1, hl, h3, hy.same e1, h7, g.ok, fun v H2 e2 hv => ?_⟩
    rcases hv with ⟨hp, rfl⟩ | ⟨b, hb, t, a, c, rfl, h1, h2, h3⟩
    · exact ⟨_, rfl, rfl, _, rfl, iteF (q _ _ (e1.trans e2) (.inl ⟨hp, rfl⟩))⟩
    · exact ⟨_, rfl, rfl, _, rfl, iteT ⟨_, rfl, t, _, _, _, rfl, rfl, sqT h1, atI_nat (j := 1) rfl, q _ _ (e1.trans e2) (.inr ⟨b, hb, c, rfl, h3⟩)⟩⟩
end
end KX
end

section
set_option Elab.async false
set_option linter.all false
set_option maxRecDepth 100000
set_option maxHeartbeats 4000000
namespace KX
open PySem PySem.Spec PyProof.Rows L2 KR KM
open He (ga ma)
def rowsL (M : Pushes) (ns ps : List Int) (j : Nat) : List (List Int) := (List.range j).map fun a => rowF M ns (ps.take a)
theorem rowsL_succ {M : Pushes} {ns ps : List Int} {j : Nat} : rowsL M ns ps (j + 1) = rowsL M ns ps j ++ [rowF M ns (ps.take j)] := by
  unfold rowsL
  rw [List.range_succ, List.map_append]
  rfl
theorem rowsL_at {M : Pushes} {ns ps : List Int} {j a : Nat} (h : a < j) : (rowsL M ns ps j)[a]? = some (rowF M ns (ps.take a)) := by
  unfold rowsL
  rw [List.getElem?_map, List.getElem?_range h]
  rfl
section
variable {P : Program} {w : World} {K : PySem.W.Frag} {mg : Str → Option Value} {base : Heap}
def sp_fits (K : PySem.W.Frag) : Sp := fun vs H Q _ => ∃ (h x y z : V) (M : Pushes) (ns ps xs : List Int) (log : List Ent), vs = [h, x, y, z] ∧ HaT K H h M ∧ IT H x ns ∧ ns.length = M.length ∧ IT H y ps ∧ LgT H z log ∧ GoodL M.length log ∧ Run M ns log log.length ps xs ∧ ∀ H', Same H H' → Q (.bl true) H'
theorem sc_fits : FnScope ["hall", "start", "play", "log", "rows", "index", "lamp", "at", "entry"] ["hall", "start", "play", "log"] (defScope s_fits) := ⟨rfl, rfl, rfl, by decide +kernel, rfl, by decide +kernel, by decide +kernel⟩
theorem ok_fits (T : Tx K mg) : Has P w K mg base 5 "fits" ["hall", "start", "play", "log"] (sp_fits K) := by
  obtain ⟨t5, h5⟩ := T.i_MOST_PRESSES
  refine has_of T.d_fits T.g_fits sc_fits (fun vs H Q E h => ?_) (fun cdv A outer s H vs Q E hr h => ?_)
  · obtain ⟨_, _, _, _, _, _, _, _, _, rfl, _⟩ := h
    rfl
  · obtain ⟨h, x, y, z, M, ns, ps, xs, log, rfl, hh, hx, hl, hy, hz, gl, R, q⟩ := h
    have nd := sc_fits.nd
    have g : GoodP M := by obtain ⟨_, _, _, _, _, _, g⟩ := hh; exact g
    refine ⟨_, pss_cons (ps_expr (pe_has (ok_need_numbers T) hr (pa_cons (pv 0) (pa_cons (pv 1) pa_nil))))
      (pss_cons (ps_if (PW.pt (pw_or (pt_not (pt_val (pe_isB T.b_isinstance T.b_tuple (pv 2) bb_tuple))) (pw_or1 (pt_cmpR op_gt (pe_callB call_len_seq (by rfl) T.b_len PySem.boot_len (pa_cons (pv 2) pa_nil)) (pe_glob (v := .int 5000) (by rfl) h5 ⟨_, rfl⟩) (nomark _))))) (pss_one ps_never) pss_nil)
      (pss_cons (ps_set (i := 4) nd rfl (Or.inl rfl) (pe_lst (pa_cons (pv 1) pa_nil)))
      (pss_cons (ps_for PassesOwn.never rfl (pi_enumT (by rfl) T.b_enumerate (pa_cons (pv 2) pa_nil)) (pg_tup rfl (pgs_cons (pg_name (i := 5) nd rfl (Or.inl rfl)) (pgs_cons (pg_name (i := 6) nd rfl (Or.inl rfl)) pgs_nil)))
        (pss_cons (ps_if (PW.pt (pw_or (pt_not (pt_val (pe_has ((ok_is_from T).mono (by decide)) hr (pa_cons (pv 6) (pa_cons pe_int (pa_cons (pe_op op_sub (pe_lenH 0 T (hr.mono (by decide))) pe_int) pa_nil)))))) (pw_or1 (pt_cmpR op_ge (pe_ix ix_tup (pe_ix ix_list (pv 4) (pe_un un_neg pe_int) (fun _ _ => rfl)) (pv 6) (fun _ _ => rfl)) pe_int (nomark _))))) (pss_one ps_never) pss_nil)
        (pss_one (ps_expr (pe_bm PySem.F.plainAttrs_list PySem.F.slot_list_append PySem.F.type_list_append mt_append (pv 4) (pa_cons (pe_has ((ok_changed T).mono (by decide)) hr (pa_cons (pv 0) (pa_cons (pe_ix ix_list (pv 4) (pe_un un_neg pe_int) (fun _ _ => rfl)) (pa_cons (pv 6) pa_nil)))) pa_nil))))))
      (pss_cons (ps_expr (pe_has (ok_need_log T) hr (pa_cons (pv 0) (pa_cons (pv 3) pa_nil))))
      (pss_cons (ps_set (i := 7) nd rfl (Or.inl rfl) pe_int)
      (pss_cons (ps_for PassesOwn.never rfl (pi_tup (pv 3)) (pg_name (i := 8) nd rfl (Or.inl rfl))
        (pss_one (ps_if (pt_cmpR op_eq (pe_ix ix_tup (pv 8) pe_int (fun _ _ => rfl)) pe_str (nomark _))
          (pss_one (ps_if (pt_not (pt_val (pe_has ((ok_agrees T).mono (by decide)) hr (pa_cons (pv 8) (pa_cons (pe_ix ix_list (pv 4) (pv 7) (fun _ _ => rfl)) pa_nil))))) (pss_one (ps_ret pe_bl)) pss_nil))
          (pss_one (ps_if (PW.pt (pw_or (pt_cmpR op_eq (pv 7) (pe_callB call_len_seq (by rfl) T.b_len PySem.boot_len (pa_cons (pv 2) pa_nil)) (nomark _)) (pw_or1 (PW.pt (pw_and (pt_cmpR (op_neD hr.units) (pv 8) (pe_glob (v := .ref (ga K "LOST")) (by rfl) T.g_LOST rfl) (nomark _)) (pw_and1 (pt_cmpR op_ne (pe_ix ix_tup (pv 8) pe_int (fun _ _ => rfl)) (pe_ix ix_tup (pv 2) (pv 7) (fun _ _ => rfl)) (nomark _))))))))
            (pss_one (ps_ret pe_bl)) (pss_one (ps_aug (i := 7) nd rfl (.inl rfl) pe_int ip_add)))))))
      (pss_one (ps_ret (pe_cmpR op_eq (pv 7) (pe_callB call_len_seq (by rfl) T.b_len PySem.boot_len (pa_cons (pv 2) pa_nil)) (nomark _)))))))))), ?_⟩
    obtain ⟨ty, rfl, hty⟩ := id hy
    obtain ⟨tz, es, rfl, htz, hp⟩ := id hz
    have le : es.length = log.length := Paired.length hp
    have nps : ps.length ≤ 20 := by have h1 := R.len; have h2 := presses_le (log := log) (i := log.length); have h3 := gl.len; omega
    refine ⟨_, rfl, _, rfl, h, x, M, ns, rfl, hh, hx, hl, fun H1 e1 => ?_⟩
    refine ⟨_, rfl, _, _, _, _, true, rfl, .ty _, .base (.tup (e1 _ _ hty)), k_tup_tup, true, rfl, iteF ?_⟩
    refine ⟨_, rfl, _, _, rfl, .inr (sqT (e1 _ _ hty)), _, _, rfl, rfl, _, rfl, ?_⟩
    rw [List.length_map, decide_eq_false (show ¬ ((ps.length : Int) > 5000) by omega)]
    refine iteF ⟨_, rfl, by show 1 ≤ sizeLine; decide, fun D hD => ?_⟩
    have hD0 : H D = none := none_back e1 hD
    have e2 := sput (o := .lst [x]) e1 hD0
    refine ⟨_, rfl, ty, _, rfl, sqT (e2 _ _ hty), for_it (walkE (K := K) (a := ty) (ys := ps.map iv)) (fun j σ H' => ∃ u5 u6 u7 u8 rv v, σ = [some h, some x, some (.ref ty), some (.ref tz), some (.ref D), u5, u6, u7, u8] ∧ Same H H' ∧ H' D = some (.lst (rv ++ [v])) ∧ Paired (IT H') rv (rowsL M ns ps j) ∧ IT H' v (rowF M ns (ps.take j)))
      ⟨none, none, none, none, [], x, rfl, e2, upd_same, .nil, hx.same e2⟩ (fun i σ H' _ ⟨_, _, _, _, _, _, _, e, _⟩ => sqT (e _ _ hty)) ?_ ?_⟩
    · rintro j yv σ H' H'' hj ⟨u5, u6, u7, u8, rv, v, rfl, e, hDl, hP, hv⟩ ⟨Tn, z1, zz, rfl, hT, rfl, k1, k2⟩
      cases k1
      obtain ⟨kz, hk0, rfl⟩ := map_at k2
      rw [List.length_map] at hj
      obtain ⟨k, hk1, hkM, hneg⟩ := R.can j hj
      obtain rfl : kz = (k : Int) := Option.some.inj (hk0.symm.trans hk1)
      have ea := snew (o := .tup [.int (j : Nat), iv (k : Int)]) hT
      have e' := e.trans ea
      have hDa := ea _ _ hDl
      have hva := hv.same ea
      obtain ⟨tv, rfl, htv⟩ := id hva
      have hrl := R.rows g.rows hl j (Nat.le_of_lt hj)
      obtain ⟨own, ho⟩ : ∃ z, (rowF M ns (ps.take j))[k]? = some z := ⟨_, List.getElem?_eq_getElem (by omega)⟩
      rw [getD_of ho] at hneg
      have c1 : (0 : Int) ≤ k := by omega
      have c2 : (k : Int) ≤ (M.length : Int) - 1 := by omega
      refine ⟨Tn, _, rfl, sqT upd_same, rfl, _, _, rfl, _, _, rfl, rfl, ?_⟩
      refine ⟨_, rfl, _, M, rfl, hh.same e', _, _, rfl, rfl, _, _, _, rfl, _, rfl, ?_⟩
      rw [decide_eq_true c1, decide_eq_true c2]
      refine iteF ⟨_, rfl, _, rfl, D, _, _, .ref tv, rfl, rfl, SqL.of hDa, atI_last rv (.ref tv), _, rfl, tv, _, _, _, rfl, rfl, sqT htv, atI_nat (j := k) (by rw [List.getElem?_map, ho]; rfl), _, _, rfl, rfl, _, rfl, ?_⟩
      rw [decide_eq_false (show ¬ (own ≥ 0) by omega)]
      refine iteF ?_
      refine ⟨_, rfl, .inl ⟨rfl, _, SqL.of hDa⟩, _, rfl, _, rfl, _, rfl, D, _, _, .ref tv, rfl, rfl, SqL.of hDa, atI_last rv (.ref tv), _, rfl, h, .ref tv, k, M, _, rfl, hh.same e', hva, hrl, hkM, fun v2 H3 e3 hv2 => ?_⟩
      have hD3 := e3 _ _ hDa
      have lr : rv.length = j := by rw [Paired.length hP]; unfold rowsL; rw [List.length_map, List.length_range]
      refine ⟨D, _, v2, rfl, rfl, hD3, sz8 (by rw [List.length_append, lr, List.length_singleton]; omega), ?_⟩
      have kk := kpl (o := .lst (rv ++ [V.ref tv] ++ [v2])) hD3
      refine ⟨_, _, _, _, rv ++ [.ref tv], v2, rfl, sput (e'.trans e3) hD0, upd_same, ?_, ?_⟩
      · rw [rowsL_succ]
        exact pair_app (L2.Paired.mapP hP fun _ _ q => ((q.same ea).same e3).kp kk) ((hva.same e3).kp kk)
      · rw [take_step hk1, rowF_snoc]
        exact hv2.kp kk
    · rintro σ H' ⟨u5, u6, u7, u8, rv, v, rfl, e, hDl, hP, hv⟩
      rw [List.length_map] at hP hv
      have hPa := pair_app hP hv
      rw [← rowsL_succ] at hPa
      refine ⟨_, rfl, _, rfl, h, _, M, log, rfl, hh.same e, hz.same e, gl, fun H3 e3 => ?_⟩
      have e13 := e.trans e3
      refine ⟨_, rfl, tz, rfl, ⟨_, sqT (e13 _ _ htz)⟩, for_tup (K := K) (a := tz) (xs := es) (fun i σ H4 => ∃ u5 u6 u8, σ = [some h, some x, some (.ref ty), some (.ref tz), some (.ref D), u5, u6, some (.int (pressesAt log i : Nat)), u8] ∧ Same H H4 ∧ H4 D = some (.lst (rv ++ [v])) ∧ Paired (IT H4) (rv ++ [v]) (rowsL M ns ps (ps.length + 1)))
        ⟨u5, u6, u8, rfl, e13, e3 _ _ hDl, L2.Paired.mapP hPa fun _ _ q => q.same e3⟩ (fun i σ H4 _ ⟨_, _, _, _, e, _⟩ => sqT (e _ _ htz)) ?_ ?_⟩
      · rintro i ev σ H4 hev ⟨u5, u6, u8, rfl, e, hDl, hPa⟩
        obtain ⟨en, hen, hEn⟩ := pget hp hev
        have hil := (List.getElem?_eq_some_iff.mp hen).1
        have hf := R.fit i hil en hen
        have hok := gl.ok en (List.mem_of_getElem? hen)
        have hps := presses_succ hen
        have hEn4 := hEn.same e
        obtain ⟨te, rfl, hte⟩ := id hEn4
        have ha : pressesAt log i ≤ ps.length := by rw [R.len]; exact presses_mono (Nat.le_of_lt hil)
        cases en with
        | seen l zz =>
          refine ⟨_, rfl, te, _, _, _, rfl, rfl, sqT hte, atI_nat (j := 0) rfl, rfl, _, rfl, ?_⟩
          rw [show decide (V.str "seen" = V.str "seen") = true by simp]
          obtain ⟨rw1, hrw, hrwI⟩ := pget' hPa (rowsL_at (M := M) (ns := ns) (ps := ps) (show pressesAt log i < ps.length + 1 by omega))
          have hf : (rowF M ns (ps.take (pressesAt log i))).getD l 0 = zz := hf
          refine iteT ⟨_, rfl, _, rfl, _, rfl, D, _, _, rw1, rfl, rfl, SqL.of hDl, atI_nat (j := pressesAt log i) hrw, _, rw1, l, zz, _, rfl, hEn4, hrwI, by rw [R.rows g.rows hl _ ha]; exact hok, _, rfl, ?_⟩
          rw [decide_eq_true hf]
          refine iteF ⟨u5, u6, some (.ref te), ?_, e, hDl, hPa⟩
          rw [hps]
          rfl
        | pressed l =>
          have hf : ps[pressesAt log i]? = some (l : Int) := hf
          have hlt := (List.getElem?_eq_some_iff.mp hf).1
          refine ⟨_, rfl, te, _, _, _, rfl, rfl, sqT hte, atI_nat (j := 0) rfl, rfl, _, rfl, ?_⟩
          rw [show decide (V.str "pressed" = V.str "seen") = false by decide +kernel]
          refine iteF ⟨_, rfl, _, rfl, _, _, rfl, .inr (sqT (e _ _ hty)), rfl, _, rfl, ?_⟩
          rw [List.length_map, decide_eq_false (show ¬ (V.int (pressesAt log i : Nat) = V.int (ps.length : Nat)) by intro z; have := V.int.inj z; omega)]
          refine iteF ⟨_, rfl, _, _, dp_ent hEn4, dp_lost T, ent_shaped _, lost_shaped, ?_⟩
          rw [ent_eqv]
          refine ⟨_, rfl, iteT ⟨_, rfl, te, _, _, _, rfl, rfl, sqT hte, atI_nat (j := 1) rfl, _, rfl, _, rfl, ty, _, _, _, rfl, rfl, sqT (e _ _ hty), atI_nat (j := pressesAt log i) (by rw [List.getElem?_map, hf]; rfl), rfl, _, rfl, ?_⟩⟩
          rw [show (!decide (V.int (l : Int) = iv (l : Int))) = false by simp [iv]]
          refine iteF ⟨_, rfl, _, _, rfl, rfl, u5, u6, some (.ref te), ?_, e, hDl, hPa⟩
          rw [hps]
          rfl
        | lost =>
          have hf : pressesAt log i < ps.length := hf
          refine ⟨_, rfl, te, _, _, _, rfl, rfl, sqT hte, atI_nat (j := 0) rfl, rfl, _, rfl, ?_⟩
          rw [show decide (V.str "lost" = V.str "seen") = false by decide +kernel]
          refine iteF ⟨_, rfl, _, rfl, _, _, rfl, .inr (sqT (e _ _ hty)), rfl, _, rfl, ?_⟩
          rw [List.length_map, decide_eq_false (show ¬ (V.int (pressesAt log i : Nat) = V.int (ps.length : Nat)) by intro z; have := V.int.inj z; omega)]
          refine iteF ⟨_, rfl, _, _, dp_ent hEn4, dp_lost T, ent_shaped _, lost_shaped, ?_⟩
          rw [ent_eqv]
          refine ⟨_, rfl, iteF ⟨_, rfl, _, _, rfl, rfl, u5, u6, some (.ref te), ?_, e, hDl, hPa⟩⟩
          rw [hps]
          rfl
      · rintro σ H4 ⟨u5, u6, u8, rfl, e, hDl, hPa⟩
        refine ⟨_, rfl, _, rfl, _, _, rfl, .inr (sqT (e _ _ hty)), rfl, ?_⟩
        rw [le, ← R.len, List.length_map]
        show Q (.bl (decide (V.int (ps.length : Nat) = V.int (ps.length : Nat)))) H4
        rw [show decide (V.int (ps.length : Nat) = V.int (ps.length : Nat)) = true by simp]
        exact q _ e
end
end KX
end

section
set_option Elab.async false
set_option linter.all false
set_option maxRecDepth 100000
set_option maxHeartbeats 4000000
namespace KX
open PySem PySem.Spec PyProof.Rows L2 KR KM
open He (ga ma)
/-! the law's row: the script, how many read, the seed, what is left -/
def Off (r : Addr) (H H' : Hp) : Prop := ∀ b u, b ≠ r → H b = some u → H' b = some u
theorem Off.refl (r : Addr) (H : Hp) : Off r H H := fun _ _ _ h => h
theorem Off.trans {r : Addr} {H1 H2 H3 : Hp} (a : Off r H1 H2) (b : Off r H2 H3) : Off r H1 H3 := fun x u n h => b x u n (a x u n h)
theorem Same.off {r : Addr} {H H' : Hp} (e : Same H H') : Off r H H' := fun b u _ h => e b u h
theorem Off.seq {K : PySem.W.Frag} {r : Addr} {H H' : Hp} {a : Addr} {xs : List V} (e : Off r H H') (n : a ≠ r) (h : SqL K H a xs) : SqL K H' a xs := by
  rcases h with (h | ⟨o, h⟩) | h
  · exact .inl (.inl (e _ _ n h))
  · exact .inl (.inr ⟨o, e _ _ n h⟩)
  · exact .inr h
abbrev rowL (scr : Addr) (c1 : Nat) (c2 c3 : Int) : List V := [.ref scr, .int c1, .int c2, .int c3]
/-- from Hs to H nothing but the row changed -/
structure RO (K : PySem.W.Frag) (r scr : Addr) (sc : List Int) (Hs H : Hp) : Prop where
  src : (scr ≠ r ∧ SqL K Hs scr (sc.map iv)) ∨ ∀ G, SqL K G scr (sc.map iv)
  was : ∃ xs, Hs r = some (.lst xs)
  off : Off r Hs H
  row : ∃ (c1 : Nat) (c2 c3 : Int), H r = some (.lst (rowL scr c1 c2 c3)) ∧ 0 ≤ c2 ∧ c2 < 2147483647
section
variable {K : PySem.W.Frag} {r scr : Addr} {sc : List Int} {Hs H H' : Hp} {p : Addr} {o : HO}
theorem src_off {ns : List V} (h : (scr ≠ r ∧ SqL K Hs scr ns) ∨ ∀ G, SqL K G scr ns) (o : Off r Hs H) : SqL K H scr ns := h.elim (fun q => o.seq q.1 q.2) fun q => q H
theorem RO.here (h : RO K r scr sc Hs H) : RO K r scr sc H H := ⟨h.src.elim (fun q => .inl ⟨q.1, h.off.seq q.1 q.2⟩) .inr, let ⟨_, _, _, a, _⟩ := h.row; ⟨_, a⟩, Off.refl _ _, h.row⟩
theorem RO.then (h : RO K r scr sc Hs H) (k : RO K r scr sc H H') : RO K r scr sc Hs H' := ⟨h.src, h.was, h.off.trans k.off, k.row⟩
theorem RO.same (h : RO K r scr sc Hs H) (e : Same H H') : RO K r scr sc Hs H' := ⟨h.src, h.was, h.off.trans (Same.off e), let ⟨_, _, _, a, b⟩ := h.row; ⟨_, _, _, e _ _ a, b⟩⟩
theorem RO.new (h : RO K r scr sc Hs H) (hp : H p = none) : RO K r scr sc Hs (upd H p o) := h.same (snew hp)
/-- a store at what was not there at first -/
theorem RO.put (h : RO K r scr sc Hs H) (hp : Hs p = none) : RO K r scr sc Hs (upd H p o) := by
  have n : p ≠ r := fun z => by
    obtain ⟨_, q⟩ := h.was
    rw [← z, hp] at q
    cases q
  refine ⟨h.src, h.was, fun b u nb q => ?_, ?_⟩
  · by_cases z : b = p
    · subst z; rw [hp] at q; cases q
    · rw [upd_ne z]; exact h.off b u nb q
  · obtain ⟨c1, c2, c3, a, b⟩ := h.row
    exact ⟨c1, c2, c3, by rw [upd_ne n.symm]; exact a, b⟩
theorem RO.kp (h : RO K r scr sc Hs H) : Kp Hs H := fun b u s q => by
  by_cases z : b = r
  · subst z
    obtain ⟨_, w⟩ := h.was
    rw [w] at q
    rw [← Option.some.inj q] at s
    cases s
  · exact h.off b u z q
theorem RO.row0 (h : RO K r scr sc Hs Hs) (h' : RO K r scr sc Hs H) : ∃ (c1 : Nat) (c2 c3 : Int), Hs r = some (.lst (rowL scr c1 c2 c3)) := let ⟨c1, c2, c3, a, _⟩ := h.row; ⟨c1, c2, c3, a⟩
theorem RO.at (h : RO K r scr sc Hs H) (n : p ≠ r) (hp : Hs p = some o) : H p = some o := h.off _ _ n hp
theorem RO.free (h : RO K r scr sc Hs H) (hp : H p = none) : Hs p = none := by
  cases q : Hs p with
  | none => rfl
  | some u =>
    by_cases z : p = r
    · subst z
      obtain ⟨_, _, _, a, _⟩ := h.row
      rw [hp] at a; cases a
    · have := h.off _ _ z q
      rw [hp] at this; cases this
end
section
variable {P : Program} {w : World} {K : PySem.W.Frag} {mg : Str → Option Value} {base : Heap}
def sp_taken (K : PySem.W.Frag) : Sp := fun vs H Q _ => ∃ (r scr : Addr) (sc : List Int) (m : Int), vs = [.ref r, .int m] ∧ RO K r scr sc H H ∧ 0 < m ∧ m < 1073741824 ∧ ∀ (z : Nat) H', (z : Int) < m → RO K r scr sc H H' → Q (.int z) H'
theorem sc_taken : FnScope ["_law_row", "_law_many", "_law_found", "_law_cell"] ["_law_row", "_law_many"] (defScope s_law_taken) := ⟨rfl, rfl, rfl, by decide +kernel, rfl, by decide +kernel, by decide +kernel⟩
theorem mod_nat {i m : Int} (h : 0 < m) : ∃ z : Nat, i % m = (z : Int) ∧ (z : Int) < m := by
  have h1 := Int.emod_nonneg i (show m ≠ 0 by omega)
  have h2 := Int.emod_lt_of_pos i h
  exact ⟨(i % m).toNat, by omega, by omega⟩
theorem ok_taken (T : Tx K mg) : Has P w K mg base 1 "_law_taken" ["_law_row", "_law_many"] (sp_taken K) := by
  refine has_of T.d_law_taken T.g_law_taken sc_taken (fun vs H Q E h => ?_) (fun cdv A outer s H vs Q E hr h => ?_)
  · obtain ⟨_, _, _, _, rfl, _⟩ := h
    rfl
  · obtain ⟨r, scr, sc, m, rfl, R, hm, hm2, q⟩ := h
    obtain ⟨c1, c2, c3, hrw, hc, hc2⟩ := R.row
    have nd := sc_taken.nd
    refine ⟨_, pss_cons (ps_if (pt_cmpR op_gt (pe_ix ix_list (pv 0) pe_int (fun _ _ => rfl)) pe_int (nomark _))
        (pss_cons (ps_set (i := 2) nd rfl (Or.inl rfl) (pe_op op_mod (pe_callTy call_int1 (by rfl) T.b_int (by decide +kernel) (pa_cons (pe_ix ix_list (pv 0) pe_int (fun _ _ => rfl)) pa_nil)) (pv 1)))
        (pss_cons (ps_asg (pe_op op_fdiv (pe_ix ix_list (pv 0) pe_int (fun _ _ => rfl)) (pv 1)) (pg_sub (pv 0) pe_int set_list))
        (pss_one (ps_ret (pv 2))))) pss_nil)
      (pss_cons (ps_asg (pe_op op_add (pe_ix ix_list (pv 0) pe_int (fun _ _ => rfl)) pe_int) (pg_sub (pv 0) pe_int set_list))
      (pss_cons (ps_if (pt_cmpR op_gt (pe_ix ix_list (pv 0) pe_int (fun _ _ => rfl)) (pe_callB call_len_seq (by rfl) T.b_len PySem.boot_len (pa_cons (pe_ix ix_list (pv 0) pe_int (fun _ _ => rfl)) pa_nil)) (nomark _))
        (pss_cons (ps_asg (pe_op op_mod (pe_callTy call_int1 (by rfl) T.b_int (by decide +kernel) (pa_cons (pe_op op_add (pe_op op_mul (pe_ix ix_list (pv 0) pe_int (fun _ _ => rfl)) pe_int) pe_int) pa_nil)) pe_int) (pg_sub (pv 0) pe_int set_list))
        (pss_one (ps_ret (pe_op op_mod (pe_callTy call_int1 (by rfl) T.b_int (by decide +kernel) (pa_cons (pe_op op_fdiv (pe_ix ix_list (pv 0) pe_int (fun _ _ => rfl)) pe_int) pa_nil)) (pv 1))))) pss_nil)
      (pss_cons (ps_set (i := 3) nd rfl (Or.inl rfl) (pe_ix ix_list (pe_ix ix_list (pv 0) pe_int (fun _ _ => rfl)) (pe_op op_sub (pe_ix ix_list (pv 0) pe_int (fun _ _ => rfl)) pe_int) (fun _ _ => rfl)))
      (pss_cons (ps_asg (pe_op op_mod (pe_callTy call_int1 (by rfl) T.b_int (by decide +kernel) (pa_cons (pe_op op_add (pe_op op_add (pe_op op_mul (pe_ix ix_list (pv 0) pe_int (fun _ _ => rfl)) pe_int) (pv 3)) pe_int) pa_nil)) pe_int) (pg_sub (pv 0) pe_int set_list))
      (pss_cons (ps_if (pt_cmpR op_ge (pv 3) (pe_op op_pow pe_int pe_int) (nomark _)) (pss_one (ps_asg (pe_op op_fdiv (pv 3) (pv 1)) (pg_sub (pv 0) pe_int set_list))) pss_nil)
      (pss_one (ps_ret (pe_op op_mod (pe_callTy call_int1 (by rfl) T.b_int (by decide +kernel) (pa_cons (pv 3) pa_nil)) (pv 1))))))))), ?_⟩
    have fin : ∀ (z : Int) (xs : List V) (d1 : Nat) (d2 d3 : Int), xs = rowL scr d1 d2 d3 → 0 ≤ d2 → d2 < 2147483647 → ∀ H', Off r H H' → H' r = some (.lst xs) → Q (.int (z % m)) H' := fun z xs d1 d2 d3 ex h1 h2 H' ho hx => by
      obtain ⟨zz, e1, e2⟩ := mod_nat (i := z) hm
      rw [e1]
      exact q zz _ e2 ⟨R.src, R.was, ho, d1, d2, d3, by rw [hx, ex], h1, h2⟩
    have offp : ∀ (H' : Hp) (o : HO), Off r H H' → Off r H (upd H' r o) := fun H' o e b u n h => by rw [upd_ne n]; exact e b u n h
    refine ⟨_, rfl, r, _, _, .int c3, rfl, rfl, SqL.of hrw, atI_nat (j := 3) rfl, _, _, rfl, rfl, _, rfl, ite2 (fun c => ?_) (fun c => ?_)⟩
    · refine ⟨_, rfl, r, _, _, .int c3, rfl, rfl, SqL.of hrw, atI_nat (j := 3) rfl, .inl ⟨_, rfl, _, rfl, _, _, rfl, rfl, hm, ?_⟩⟩
      refine ⟨_, rfl, r, _, _, .int c3, rfl, rfl, SqL.of hrw, atI_nat (j := 3) rfl, _, rfl, _, _, rfl, rfl, ⟨hm, hm2⟩, ?_⟩
      refine ⟨_, rfl, r, _, _, 3, rfl, rfl, hrw, ixN_nat (i := 3) (by show 3 < 4; decide), _, rfl, ?_⟩
      exact fin c3 _ c1 c2 (c3 / m) rfl hc hc2 _ (offp _ _ (Off.refl _ _)) upd_same
    · refine ⟨_, rfl, r, _, _, .int c1, rfl, rfl, SqL.of hrw, atI_nat (j := 1) rfl, _, _, rfl, rfl, _, rfl, r, _, _, 1, rfl, rfl, hrw, ixN_nat (i := 1) (by show 1 < 4; decide), ?_⟩
      have h1 : ∀ o, Off r H (upd H r o) := fun o => offp _ _ (Off.refl _ _)
      have r1 : (upd H r (.lst ([V.ref scr, .int c1, .int c2, .int c3].set 1 (.int (c1 + 1))))) r = some (.lst (rowL scr (c1 + 1) c2 c3)) := upd_same
      have s1 := src_off R.src (h1 (.lst ([V.ref scr, .int c1, .int c2, .int c3].set 1 (.int (c1 + 1)))))
      refine ⟨_, rfl, r, _, _, .int ((c1 + 1 : Nat) : Int), rfl, rfl, SqL.of r1, atI_nat (j := 1) rfl, _, rfl, r, _, _, .ref scr, rfl, rfl, SqL.of r1, atI_nat (j := 0) rfl, _, _, rfl, .inl s1, _, _, rfl, rfl, _, rfl, ?_⟩
      rw [List.length_map]
      refine ite2 (fun c => ?_) (fun c => ?_)
      · refine ⟨_, rfl, r, _, _, .int c2, rfl, rfl, SqL.of r1, atI_nat (j := 2) rfl, _, _, rfl, rfl, .inl ⟨by omega, by omega⟩, _, _, rfl, rfl, .inl ⟨_, rfl, _, _, rfl, rfl, (by show (0 : Int) < 2147483647; decide), _, rfl, r, _, _, 2, rfl, rfl, r1, ixN_nat (i := 2) (by show 2 < 4; decide), ?_⟩⟩
        have b1 := Int.emod_nonneg (c2 * 48271 + 11) (show (2147483647 : Int) ≠ 0 by decide)
        have b2 := Int.emod_lt_of_pos (c2 * 48271 + 11) (show (0 : Int) < 2147483647 by decide)
        refine ⟨_, rfl, r, _, _, .int ((c2 * 48271 + 11) % 2147483647), rfl, rfl, SqL.of upd_same, atI_nat (j := 2) rfl, _, _, rfl, rfl, ⟨by decide, by decide⟩, .inl ⟨_, rfl, _, rfl, _, _, rfl, rfl, hm, ?_⟩⟩
        exact fin _ _ (c1 + 1) ((c2 * 48271 + 11) % 2147483647) c3 rfl b1 b2 _ (offp _ _ (h1 _)) upd_same
      · have hlt : c1 < sc.length := by
          have := of_decide_eq_false (eq_false_of_ne_true c)
          omega
        have hcell : sc[c1]? = some sc[c1] := List.getElem?_eq_getElem hlt
        generalize sc[c1] = cell at hcell
        refine ⟨_, rfl, r, _, _, .ref scr, rfl, rfl, SqL.of r1, atI_nat (j := 0) rfl, _, rfl, r, _, _, .int ((c1 + 1 : Nat) : Int), rfl, rfl, SqL.of r1, atI_nat (j := 1) rfl, _, _, rfl, rfl, scr, _, _, .int cell, rfl, rfl, s1, at_of (j := c1) (by omega) (by rw [List.getElem?_map, hcell]; rfl), ?_⟩
        refine ⟨_, rfl, r, _, _, .int c2, rfl, rfl, SqL.of r1, atI_nat (j := 2) rfl, _, _, rfl, rfl, .inl ⟨by omega, by omega⟩, _, rfl, _, _, rfl, rfl, _, _, rfl, rfl, .inl ⟨_, rfl, _, _, rfl, rfl, (by show (0 : Int) < 2147483647; decide), _, rfl, r, _, _, 2, rfl, rfl, r1, ixN_nat (i := 2) (by show 2 < 4; decide), ?_⟩⟩
        have b1 := Int.emod_nonneg (c2 * 48271 + cell + 11) (show (2147483647 : Int) ≠ 0 by decide)
        have b2 := Int.emod_lt_of_pos (c2 * 48271 + cell + 11) (show (0 : Int) < 2147483647 by decide)
        refine ⟨_, rfl, _, _, rfl, rfl, ⟨by decide, by decide, by decide⟩, _, _, rfl, rfl, _, rfl, ite2 (fun c => ?_) (fun c => ?_)⟩
        · refine ⟨_, rfl, _, rfl, _, _, rfl, rfl, ⟨hm, hm2⟩, _, rfl, r, _, _, 3, rfl, rfl, upd_same, ixN_nat (i := 3) (by show 3 < 4; decide), ?_⟩
          refine ⟨_, rfl, .inl ⟨_, rfl, _, rfl, _, _, rfl, rfl, hm, ?_⟩⟩
          exact fin _ _ (c1 + 1) ((c2 * 48271 + cell + 11) % 2147483647) (cell / m) rfl b1 b2 _ (offp _ _ (offp _ _ (h1 _))) upd_same
        · refine ⟨_, rfl, .inl ⟨_, rfl, _, rfl, _, _, rfl, rfl, hm, ?_⟩⟩
          exact fin _ _ (c1 + 1) ((c2 * 48271 + cell + 11) % 2147483647) c3 rfl b1 b2 _ (offp _ _ (h1 _)) upd_same
end
end KX
end

section
set_option Elab.async false
set_option linter.all false
set_option maxRecDepth 100000
set_option maxHeartbeats 4000000
namespace KX
open PySem PySem.Spec PyProof.Rows L2 KR KM
open He (ga ma)
abbrev tAdd : TE → TE → TE := tOp (rI0 fun i j => V.int (i + j))
abbrev tSub : TE → TE → TE := tOp (rI0 fun i j => V.int (i - j))
abbrev tMul : TE → TE → TE := tOp (rI CMul fun i j => V.int (i * j))
abbrev tLt : TE → TE → TE := tOp (rI0 fun i j => V.bl (decide (i < j)))
section
variable {P : Program} {w : World} {K : PySem.W.Frag} {mg : Str → Option Value} {base : Heap}
/-! ### pick -/
def sp_pick (K : PySem.W.Frag) : Sp := fun vs H Q _ => ∃ (r scr p : Addr) (sc : List Int) (xs : List V), vs = [.ref r, .ref p] ∧ RO K r scr sc H H ∧ H p = some (.lst xs) ∧ p ≠ r ∧ 0 < xs.length ∧ xs.length ≤ 100000 ∧ ∀ (i : Nat) x H', xs[i]? = some x → RO K r scr sc H H' → Q x H'
theorem sc_pick : FnScope ["_law_row", "_law_some"] ["_law_row", "_law_some"] (defScope s_law_pick) := ⟨rfl, rfl, rfl, by decide +kernel, rfl, by decide +kernel, by decide +kernel⟩
theorem ok_pick (T : Tx K mg) : Has P w K mg base 2 "_law_pick" ["_law_row", "_law_some"] (sp_pick K) := by
  refine has_of T.d_law_pick T.g_law_pick sc_pick (fun vs H Q E h => ?_) (fun cdv A outer s H vs Q E hr h => ?_)
  · obtain ⟨_, _, _, _, _, rfl, _⟩ := h
    rfl
  · obtain ⟨r, scr, p, sc, xs, rfl, R, hp, hpr, h0, h1, q⟩ := h
    refine ⟨_, pss_one (ps_ret (pe_ix ix_list (pv 1) (pe_has (ok_taken T) hr (pa_cons (pv 0) (pa_cons (pe_callB call_len_seq (by rfl) T.b_len PySem.boot_len (pa_cons (pv 1) pa_nil)) pa_nil))) (fun _ _ => rfl))), ?_⟩
    refine ⟨_, rfl, _, rfl, _, rfl, p, _, rfl, .inl (SqL.of hp), r, scr, sc, _, rfl, R, by omega, by omega, fun z H' hz R' => ?_⟩
    obtain ⟨x, hx⟩ : ∃ x, xs[z]? = some x := ⟨_, List.getElem?_eq_getElem (by omega)⟩
    exact ⟨p, _, _, x, rfl, rfl, SqL.of (R'.at hpr hp), atI_nat hx, q z x H' hx R'⟩
/-! ### press, below -/
def sp_lpress : Sp := fun vs H Q _ => ∃ (h x : V) (l : Nat) (M : Pushes) (ns : List Int), vs = [h, x, .int l] ∧ MT H h M ∧ GoodP M ∧ IT H x ns ∧ ns.length = M.length ∧ l < M.length ∧ ∀ v H', Same H H' → IT H' v (press M ns l) → Q v H'
theorem sc_lpress : FnScope ["_law_pushes", "_law_numbers_here", "_law_lamp", "_law_found", "_law_at"] ["_law_pushes", "_law_numbers_here", "_law_lamp"] (defScope s_law_press) := ⟨rfl, rfl, rfl, by decide +kernel, rfl, by decide +kernel, by decide +kernel⟩
theorem ok_lpress (T : Tx K mg) : Has P w K mg base 1 "_law_press" ["_law_pushes", "_law_numbers_here", "_law_lamp"] sp_lpress := by
  refine has_of T.d_law_press T.g_law_press sc_lpress (fun vs H Q E h => ?_) (fun cdv A outer s H vs Q E hr h => ?_)
  · obtain ⟨_, _, _, _, _, rfl, _⟩ := h
    rfl
  · obtain ⟨_, _, l, M, ns, rfl, ⟨tm, rs, rfl, htm, hp⟩, g, ⟨t, rfl, ht⟩, hl, hlt, q⟩ := h
    have nd := sc_lpress.nd
    have gm := g.most
    obtain ⟨own, ho⟩ : ∃ z, ns[l]? = some z := ⟨_, List.getElem?_eq_getElem (by omega)⟩
    obtain ⟨row, hrw⟩ : ∃ z, M[l]? = some z := ⟨_, List.getElem?_eq_getElem hlt⟩
    obtain ⟨_, hr1, tr, rfl, hr2⟩ := pget' hp hrw
    have hrl := g.rows row (List.mem_of_getElem? hrw)
    have hrg := g.rng row (List.mem_of_getElem? hrw)
    have eO : ns.getD l 0 = own := getD_of ho
    have eR : M.getD l [] = row := getD_of hrw
    refine ⟨_, pss_cons (ps_setLc (i := 3) (own := [("_law_at", 4)]) (g := gName 4) (tt := tYes) (te := tAdd (tOp (rIxT K) (tVar 1) (tVar 4)) (tMul (tOp (rIxT K) (tOp (rIxT K) (tVar 0) (tVar 2)) (tVar 4)) (tOp (rIxT K) (tVar 1) (tVar 2)))) rfl nd rfl rfl (sw_true rfl rfl rfl (by decide +kernel))
        (pi_range1 (by rfl) T.b_range (pa_cons (pe_callB call_len_seq (by rfl) T.b_len PySem.boot_len (pa_cons (pv 1) pa_nil)) pa_nil)) (blkOk_by (N := ["_law_pushes", "_law_numbers_here", "_law_lamp", "_law_found", "_law_at"]) (sc := defScope s_law_press) (by decide +kernel))
        (fun _ _ _ _ _ => pg_name (i := 4) nd rfl (Or.inl rfl)) (fun _ _ _ _ _ => pts_nil) (fun _ _ _ _ _ => pe_op op_add (pe_ix ix_tup (pv 1) (pv 4) (fun _ _ => rfl)) (pe_op op_mul (pe_ix ix_tup (pe_ix ix_tup (pv 0) (pv 2) (fun _ _ => rfl)) (pv 4) (fun _ _ => rfl)) (pe_ix ix_tup (pv 1) (pv 2) (fun _ _ => rfl)))))
      (pss_cons (ps_asg (pe_op op_sub pe_int (pe_ix ix_tup (pv 1) (pv 2) (fun _ _ => rfl))) (pg_sub (pv 3) (pv 2) set_list))
      (pss_one (ps_ret (pe_callTy call_tuple_of (by rfl) T.b_tuple (by decide +kernel) (pa_cons (pv 3) pa_nil))))), ?_⟩
    refine ⟨_, rfl, t, _, rfl, .inr (sqT ht), ns.length, by rw [List.length_map], by omega, by omega, fun D hD => ?_⟩
    refine lc_range (lo := 0) (n := ns.length) (fun i H' => Same H H' ∧ H' D = some (.lst (((List.zipWith (fun x m => x + m * own) ns row).take i).map iv))) ⟨snew hD, upd_same⟩ (fun i H' hi p => ?_) (fun H' p => ?_)
    · obtain ⟨x, hx1⟩ : ∃ z, ns[i]? = some z := ⟨_, List.getElem?_eq_getElem hi⟩
      obtain ⟨m, hm1⟩ : ∃ z, row[i]? = some z := ⟨_, List.getElem?_eq_getElem (by omega)⟩
      obtain ⟨g1, g2⟩ := hrg m (List.mem_of_getElem? hm1)
      have e0 : (0 : Int) + (i : Nat) = (i : Nat) := Int.zero_add _
      refine ⟨rfl, lcY ?_⟩
      refine ⟨_, rfl, _, rfl, t, _, _, _, rfl, rfl, sqT (p.1 _ _ ht), at_of (j := i) e0 (by rw [List.getElem?_map, hx1]; rfl), ?_⟩
      refine ⟨_, rfl, _, rfl, tm, _, _, _, rfl, rfl, sqT (p.1 _ _ htm), atI_nat (j := l) hr1, _, rfl, tr, _, _, _, rfl, rfl, sqT (p.1 _ _ hr2), at_of (j := i) e0 (by rw [List.getElem?_map, hm1]; rfl), ?_⟩
      refine ⟨_, rfl, _, rfl, t, _, _, _, rfl, rfl, sqT (p.1 _ _ ht), atI_nat (j := l) (by rw [List.getElem?_map, ho]; rfl), _, _, rfl, rfl, .inl ⟨by omega, by omega⟩, _, _, rfl, rfl, _, p.2, sz8 ?_, sput p.1 hD, ?_⟩
      · rw [List.length_map, List.length_take]; omega
      · rw [upd_same]
        have hz : (List.zipWith (fun x m => x + m * own) ns row)[i]? = some (x + m * own) := by
          rw [List.getElem?_zipWith, hx1, hm1]
        rw [take_step hz, List.map_append]
        rfl
    · have lz : (List.zipWith (fun x m => x + m * own) ns row).length = ns.length := by rw [List.length_zipWith]; omega
      rw [List.take_of_length_le (Nat.le_of_eq lz)] at p
      refine ⟨_, rfl, _, rfl, t, _, _, _, rfl, rfl, sqT (p.1 _ _ ht), atI_nat (j := l) (by rw [List.getElem?_map, ho]; rfl), _, _, rfl, rfl, _, rfl, _, rfl, D, _, _, l, rfl, rfl, p.2, ixN_nat (by rw [List.length_map, lz]; omega), ?_⟩
      refine ⟨_, rfl, D, _, rfl, .inl ⟨SqL.of upd_same, fun l2 hl2 => ?_⟩⟩
      refine q _ _ ((sput p.1 hD).trans (snew hl2)) ⟨l2, rfl, ?_⟩
      rw [upd_same]
      unfold press
      rw [eO, eR, List.map_set]
      have ez : (0 : Int) - own = -own := by omega
      rw [← ez]
def sp_below : Sp := fun vs H Q _ => ∃ (x : V) (ns : List Int), vs = [x] ∧ IT H x ns ∧ ns.length ≤ 8 ∧ ∀ p H', Same H H' → H p = none → H' p = some (.lst ((ableI ns).map iv)) → Q (.ref p) H'
theorem sc_below : FnScope ["_law_numbers_here", "_law_lamp"] ["_law_numbers_here"] (defScope s_law_below) := ⟨rfl, rfl, rfl, by decide +kernel, rfl, by decide +kernel, by decide +kernel⟩
theorem ok_below (T : Tx K mg) : Has P w K mg base 1 "_law_below" ["_law_numbers_here"] sp_below := by
  refine has_of T.d_law_below T.g_law_below sc_below (fun vs H Q E h => ?_) (fun cdv A outer s H vs Q E hr h => ?_)
  · obtain ⟨_, _, rfl, _⟩ := h
    rfl
  · obtain ⟨x, ns, rfl, ⟨t, rfl, ht⟩, h8, q⟩ := h
    have nd := sc_below.nd
    refine ⟨_, pss_one (ps_ret (pe_lc (own := [("_law_lamp", 1)]) (g := gName 1) (tt := tTest (tLt (tOp (rIxT K) (tVar 0) (tVar 1)) (tC (.int 0)))) (te := tVar 1) rfl nd (pi_range1 (by rfl) T.b_range (pa_cons (pe_callB call_len_seq (by rfl) T.b_len PySem.boot_len (pa_cons (pv 0) pa_nil)) pa_nil)) (blkOk_by (N := ["_law_numbers_here", "_law_lamp"]) (sc := defScope s_law_below) (by decide +kernel))
      (fun _ _ _ _ _ => pg_name (i := 1) nd rfl (Or.inl rfl)) (fun _ _ _ _ _ => pts_one (pt_cmpR op_lt (pe_ix ix_tup (pv 0) (pv 1) (fun _ _ => rfl)) pe_int (nomark _))) (fun _ _ _ _ _ => pv 1))), ?_⟩
    refine ⟨_, rfl, t, _, rfl, .inr (sqT ht), ns.length, by rw [List.length_map], by omega, by omega, fun D hD => ?_⟩
    refine lc_range (lo := 0) (n := ns.length) (fun i H' => Same H H' ∧ H' D = some (.lst (((List.range i).filter fun j => decide (ns.getD j 0 < 0)).map fun (j : Nat) => V.int j))) ⟨snew hD, upd_same⟩ (fun i H' hi p => ?_) (fun H' p => ?_)
    · obtain ⟨z, hz1⟩ : ∃ z, ns[i]? = some z := ⟨_, List.getElem?_eq_getElem hi⟩
      have e0 : (0 : Int) + (i : Nat) = (i : Nat) := Int.zero_add _
      have ez : ns.getD i 0 = z := getD_of hz1
      refine ⟨rfl, _, rfl, _, rfl, t, _, _, _, rfl, rfl, sqT (p.1 _ _ ht), at_of (j := i) e0 (by rw [List.getElem?_map, hz1]; rfl), _, _, rfl, rfl, _, rfl, ?_⟩
      rw [List.range_succ, List.filter_append]
      refine ite2 (fun c => ?_) (fun c => ?_)
      · refine ⟨_, rfl, _, p.2, sz8 ?_, sput p.1 hD, ?_⟩
        · rw [List.length_map]
          have := List.length_filter_le (fun j => decide (ns.getD j 0 < 0)) (List.range i)
          rw [List.length_range] at this
          omega
        · rw [upd_same]
          have c' : decide (ns.getD i 0 < 0) = true := by rw [ez]; exact c
          rw [e0]
          simp only [List.filter_cons, c', if_true, List.filter_nil, List.map_append, List.map_cons, List.map_nil]
      · have c' : decide (ns.getD i 0 < 0) = false := by rw [ez]; exact eq_false_of_ne_true c
        refine ⟨p.1, ?_⟩
        rw [p.2]
        rw [List.filter_cons, c']
        simp only [List.filter_nil, Bool.false_eq_true, if_false, List.append_nil]
    · refine q D H' p.1 hD ?_
      rw [p.2]
      unfold ableI able
      rw [List.map_map]
      rfl
/-! ### numbers -/
def sp_numbers (K : PySem.W.Frag) : Sp := fun vs H Q _ => ∃ (r scr : Addr) (sc : List Int) (n : Nat), vs = [.ref r, .int n, .int 3] ∧ RO K r scr sc H H ∧ n ≤ 100 ∧ ∀ v ns H', RO K r scr sc H H' → IT H' v ns → ns.length = n → Q v H'
theorem sc_numbers : FnScope ["_law_row", "_law_many", "_law_far", "_law_lamp"] ["_law_row", "_law_many", "_law_far"] (defScope s_law_numbers) := ⟨rfl, rfl, rfl, by decide +kernel, rfl, by decide +kernel, by decide +kernel⟩
theorem ok_numbers (T : Tx K mg) : Has P w K mg base 2 "_law_numbers" ["_law_row", "_law_many", "_law_far"] (sp_numbers K) := by
  refine has_of T.d_law_numbers T.g_law_numbers sc_numbers (fun vs H Q E h => ?_) (fun cdv A outer s H vs Q E hr h => ?_)
  · obtain ⟨_, _, _, _, rfl, _⟩ := h
    rfl
  · obtain ⟨r, scr, sc, n, rfl, R, hn, q⟩ := h
    have nd := sc_numbers.nd
    refine ⟨_, pss_one (ps_ret (pe_callTy call_tuple_of (by rfl) T.b_tuple (by decide +kernel) (pa_cons (pe_lc (own := [("_law_lamp", 3)]) (g := gName 3) (tt := tYes) (te := tSub (tCall (sp_taken K) [] E0 (tCons (tVar 0) (tCons (tAdd (tMul (tC (.int 2)) (tVar 2)) (tC (.int 1))) tNil))) (tVar 2)) rfl nd (pi_range1 (by rfl) T.b_range (pa_cons (pv 1) pa_nil)) (blkOk_by (N := ["_law_row", "_law_many", "_law_far", "_law_lamp"]) (sc := defScope s_law_numbers) (by decide +kernel))
      (fun _ _ _ _ _ => pg_name (i := 3) nd rfl (Or.inl rfl)) (fun _ _ _ _ _ => pts_nil) (fun _ _ _ _ _ => pe_op op_sub (pe_has (ok_taken T) hr (pa_cons (pv 0) (pa_cons (pe_op op_add (pe_op op_mul pe_int (pv 2)) pe_int) pa_nil))) (pv 2))) pa_nil))), ?_⟩
    refine ⟨_, rfl, n, rfl, by omega, by omega, fun D hD => ?_⟩
    refine lc_range (lo := 0) (n := n) (fun i H' => ∃ ns : List Int, RO K r scr sc H H' ∧ H' D = some (.lst (ns.map iv)) ∧ ns.length = i) ⟨[], R.put hD, upd_same, rfl⟩ (fun i H' hi p => ?_) (fun H' p => ?_)
    · obtain ⟨ns, R', hd, hl⟩ := p
      refine ⟨rfl, lcY ⟨_, rfl, _, rfl, _, _, rfl, rfl, .inl ⟨by decide, by decide⟩, _, _, rfl, rfl, r, scr, sc, _, rfl, R'.here, by decide, by decide, fun z H3 hz R3 => ?_⟩⟩
      have nD : D ≠ r := fun z => by
        obtain ⟨_, w⟩ := R.was
        rw [← z, hD] at w
        cases w
      refine ⟨_, rfl, _, _, rfl, rfl, _, R3.at nD hd, sz8 (by rw [List.length_map]; omega), ns ++ [(z : Int) - 3], (R'.then R3).put hD, ?_, ?_⟩
      · rw [upd_same, List.map_append]
        rfl
      · rw [List.length_append, hl]; rfl
    · obtain ⟨ns, R', hd, hl⟩ := p
      exact ⟨D, _, rfl, .inl ⟨SqL.of hd, fun l hl2 => q _ ns _ (R'.new hl2) ⟨l, rfl, upd_same⟩ hl⟩⟩
end
end KX
end

section
set_option Elab.async false
set_option linter.all false
set_option maxRecDepth 100000
set_option maxHeartbeats 4000000
namespace KX
open PySem PySem.Spec PyProof.Rows L2 KR KM
open He (ga ma)
section
variable {P : Program} {w : World} {K : PySem.W.Frag} {mg : Str → Option Value} {base : Heap}
/-! ### alike -/
theorem bb_list : bootBuiltins "list" = some (.type "list") := by decide +kernel
theorem k_non_str : PySem.W.kitOne K (.type "NoneType") (.type "str") = some false := kit_ty (by decide +kernel)
theorem k_int_str : PySem.W.kitOne K (.type "int") (.type "str") = some false := kit_ty (by decide +kernel)
theorem k_tup_list : PySem.W.kitOne K (.type "tuple") (.type "list") = some false := kit_ty (by decide +kernel)
theorem tl_any {T : String} {b : Bool} (h1 : PySem.W.kitOne K (.type T) (.type "tuple") = some b) (h2 : PySem.W.kitOne K (.type T) (.type "list") = some false) : PySem.W.kitAny K (.type T) [.type "tuple", .type "list"] = some b := by
  cases b with
  | true => exact kitAny_cons (r := true) h1 (fun z => by cases z) (fun _ => rfl)
  | false => exact kitAny_cons (r := false) h1 (fun _ => kitAny_cons (r := false) h2 (fun _ => rfl) (fun z => by cases z)) (fun z => by cases z)
end
section
variable {X : Cx}
/-- isinstance(x, (tuple, list)) -/
theorem pe_isTL {e : Expr} {te : TE} {p q1 q2 q3 pos : Pos} {kk : Nat} (hm : X.mg "isinstance" = none) (h1 : X.mg "tuple" = none) (h2 : X.mg "list" = none) (he : PE X e te) (hg : Gl X "isinstance" := by rfl) (hg1 : Gl X "tuple" := by rfl) (hg2 : Gl X "list" := by rfl)
    (s1 : starEach [e, .Tuple [.Name "tuple" q1, .Name "list" q2] kk q3] X.env = (false, eval e X.env) :: starEach [.Tuple [.Name "tuple" q1, .Name "list" q2] kk q3] X.env := by rfl) (s2 : (backTo pos (starEach [.Tuple [.Name "tuple" q1, .Name "list" q2] kk q3] X.env)).any (·.1) = false := by rfl) (s3 : starEach [.Tuple [.Name "tuple" q1, .Name "list" q2] kk q3] X.env = (false, eval (.Tuple [.Name "tuple" q1, .Name "list" q2] kk q3) X.env) :: starEach [] X.env := by rfl)
    (s4 : starEach [.Name "tuple" q1, .Name "list" q2] X.env = (false, eval (.Name "tuple" q1) X.env) :: starEach [.Name "list" q2] X.env := by rfl) (s5 : starEach [.Name "list" q2] X.env = (false, eval (.Name "list" q2) X.env) :: starEach [] X.env := by rfl) :
    PE X (.Call (.Name "isinstance" p) [e, .Tuple [.Name "tuple" q1, .Name "list" q2] kk q3] [] pos) (tCB (rIsiT X.K) (tCons te (tCons (tTup (tCons (tC (.ty "tuple")) (tCons (tC (.ty "list")) tNil))) tNil))) :=
  pe_callB call_isiT hg hm (by decide +kernel) (pa_cons he (pa_cons (pe_tup (pa_cons (pe_bltn (v := .ty "tuple") hg1 h1 bb_tuple rfl) (pa_cons (pe_bltn (v := .ty "list") hg2 h2 bb_list rfl) pa_nil s5) s4)) pa_nil s3) s1) (by decide) (by decide) s1 s2
theorem cls_tl : Paired ClsV [V.ty "tuple", V.ty "list"] [Value.type "tuple", Value.type "list"] := .cons (.ty _) (.cons (.ty _) .nil)
end
section
variable {P : Program} {w : World} {K : PySem.W.Frag} {mg : Str → Option Value} {base : Heap}
def sp_alikeI : Sp := fun vs H Q _ => ∃ a : Int, vs = [.int a, .int a] ∧ ∀ H', Same H H' → Q (.bl true) H'
def sp_alike : Sp := fun vs H Q _ => ∃ (x y : V), vs = [x, y] ∧ ((x = .non ∧ y = .non) ∨ ∃ ns, IT H x ns ∧ IT H y ns ∧ ns.length ≤ 100000) ∧ ∀ H', Same H H' → Q (.bl true) H'
theorem sc_alike : FnScope ["_law_found", "_law_due", "_law_k"] ["_law_found", "_law_due"] (defScope s_law_alike) := ⟨rfl, rfl, rfl, by decide +kernel, rfl, by decide +kernel, by decide +kernel⟩
theorem ok_alikeI (T : Tx K mg) : Has P w K mg base 1 "_law_alike" ["_law_found", "_law_due"] sp_alikeI := by
  refine has_of T.d_law_alike T.g_law_alike sc_alike (fun vs H Q E h => ?_) (fun cdv A outer s H vs Q E hr h => ?_)
  · obtain ⟨_, rfl, _⟩ := h
    rfl
  · obtain ⟨a, rfl, q⟩ := h
    have nd := sc_alike.nd
    refine ⟨_, pss_cons (ps_if (pt_val (pe_isTL T.b_isinstance T.b_tuple T.b_list (pv 1))) (pss_cons ps_never (pss_cons ps_never (pss_one ps_never))) pss_nil)
      (pss_cons (ps_if (PW.pt (pw_or (pt_cmpR op_isN (pv 1) pe_non (nomark _)) (pw_or1 (pt_val (pe_isB T.b_isinstance T.b_str (pv 1) bb_str))))) (pss_one ps_never) pss_nil)
      (pss_one (ps_ret (pe_and (pe_isB T.b_isinstance T.b_int (pv 0) bb_int) (pe_and (pe_cmpR op_eq (pe_isB T.b_isinstance T.b_bool (pv 0) bb_bool) (pe_isB T.b_isinstance T.b_bool (pv 1) bb_bool) (nomark _)) (pe_one (pe_cmpR op_eq (pv 0) (pv 1) (nomark _)))))))), ?_⟩
    refine ⟨_, rfl, by show 2 ≤ sizeLine; decide, fun tp htp => ⟨_, tp, _, _, _, false, rfl, upd_same, cls_tl, .base (.int _), tl_any (kit_ty (by decide +kernel)) (kit_ty (by decide +kernel)), false, rfl, iteF ?_⟩⟩
    refine ⟨_, rfl, rfl, _, rfl, ?_⟩
    rw [show decide (V.int a = V.non) = false from by simp]
    refine iteF ⟨_, rfl, _, _, _, _, false, rfl, .ty _, .base (.int _), k_int_str, false, rfl, iteF ?_⟩
    refine ⟨_, rfl, _, _, _, _, true, rfl, .ty _, .base (.int _), k_int_int, true, rfl, iteT ?_⟩
    refine ⟨_, rfl, _, _, _, _, false, rfl, .ty _, .base (.int _), k_int_bool, _, rfl, _, _, _, _, false, rfl, .ty _, .base (.int _), k_int_bool, rfl, ?_⟩
    refine ⟨decide (V.bl false = V.bl false), rfl, ?_⟩
    rw [show decide (V.bl false = V.bl false) = true by simp]
    refine iteT ⟨_, rfl, _, rfl, rfl, ?_⟩
    show Q (.bl (decide (V.int a = V.int a))) _
    rw [show decide (V.int a = V.int a) = true by simp]
    exact q _ (snew htp)
theorem ok_alike (T : Tx K mg) : Has P w K mg base 2 "_law_alike" ["_law_found", "_law_due"] sp_alike := by
  refine has_of T.d_law_alike T.g_law_alike sc_alike (fun vs H Q E h => ?_) (fun cdv A outer s H vs Q E hr h => ?_)
  · obtain ⟨_, _, rfl, _⟩ := h
    rfl
  · obtain ⟨x, y, rfl, hc, q⟩ := h
    have nd := sc_alike.nd
    have z2 : (2 : Nat) ≤ sizeLine := by decide
    refine ⟨_, pss_cons (ps_if (pt_val (pe_isTL T.b_isinstance T.b_tuple T.b_list (pv 1)))
        (pss_cons (ps_if (PW.pt (pw_or (pt_not (pt_val (pe_isTL T.b_isinstance T.b_tuple T.b_list (pv 0)))) (pw_or1 (pt_cmpR op_ne (pe_isB T.b_isinstance T.b_list (pv 0) bb_list) (pe_isB T.b_isinstance T.b_list (pv 1) bb_list) (nomark _))))) (pss_one (ps_ret pe_bl)) pss_nil)
        (pss_cons (ps_if (pt_cmpR op_ne (pe_callB call_len_seq (by rfl) T.b_len PySem.boot_len (pa_cons (pv 0) pa_nil)) (pe_callB call_len_seq (by rfl) T.b_len PySem.boot_len (pa_cons (pv 1) pa_nil)) (nomark _)) (pss_one (ps_ret pe_bl)) pss_nil)
        (pss_one (ps_ret (pe_cmpR (op_eqD hr.units) (pe_lc (own := [("_law_k", 2)]) (g := gName 2) (tt := tNot (tB (tCall sp_alikeI [] E0 (tCons (tOp (rIxT K) (tVar 0) (tVar 2)) (tCons (tOp (rIxT K) (tVar 1) (tVar 2)) tNil))))) (te := tVar 2) rfl nd (pi_range1 (by rfl) T.b_range (pa_cons (pe_callB call_len_seq (by rfl) T.b_len PySem.boot_len (pa_cons (pv 1) pa_nil)) pa_nil)) (blkOk_by (N := ["_law_found", "_law_due", "_law_k"]) (sc := defScope s_law_alike) (by decide +kernel))
          (fun _ _ _ _ _ => pg_name (i := 2) nd rfl (Or.inl rfl)) (fun _ _ _ _ _ => pts_one (pt_not (pt_val (pe_has (ok_alikeI T) hr (pa_cons (pe_ix ix_tup (pv 0) (pv 2) (fun _ _ => rfl)) (pa_cons (pe_ix ix_tup (pv 1) (pv 2) (fun _ _ => rfl)) pa_nil)))))) (fun _ _ _ _ _ => pv 2)) (pe_lst pa_nil) (nomark _)))))) pss_nil)
      (pss_cons (ps_if (PW.pt (pw_or (pt_cmpR op_isN (pv 1) pe_non (nomark _)) (pw_or1 (pt_val (pe_isB T.b_isinstance T.b_str (pv 1) bb_str))))) (pss_one (ps_ret (pe_and (pe_cmpR op_eq (pv 0) (pv 1) (nomark _)) (pe_one (pe_cmpR op_eq (pe_isB T.b_isinstance T.b_str (pv 0) bb_str) (pe_isB T.b_isinstance T.b_str (pv 1) bb_str) (nomark _)))))) pss_nil)
      (pss_one ps_never)), ?_⟩
    rcases hc with ⟨rfl, rfl⟩ | ⟨ns, ⟨a, rfl, ha⟩, ⟨b, rfl, hb⟩, hl⟩
    · refine ⟨_, rfl, z2, fun tp htp => ⟨_, tp, _, _, _, false, rfl, upd_same, cls_tl, .base .non, tl_any (kit_ty (by decide +kernel)) (kit_ty (by decide +kernel)), false, rfl, iteF ?_⟩⟩
      refine ⟨_, rfl, rfl, _, rfl, iteT ?_⟩
      refine ⟨_, rfl, _, rfl, rfl, ?_⟩
      refine ⟨decide (V.non = V.non), rfl, ?_⟩
      rw [show decide (V.non = V.non) = true by simp]
      refine iteT ⟨_, rfl, _, _, _, _, false, rfl, .ty _, .base .non, k_non_str, _, rfl, _, _, _, _, false, rfl, .ty _, .base .non, k_non_str, rfl, ?_⟩
      show Q (.bl (decide (V.bl false = V.bl false))) _
      rw [show decide (V.bl false = V.bl false) = true by simp]
      exact q _ (snew htp)
    · refine ⟨_, rfl, z2, fun tp htp => ?_⟩
      have e1 := snew (o := .tup [.ty "tuple", .ty "list"]) htp
      refine ⟨_, tp, _, _, _, true, rfl, upd_same, cls_tl, .base (.tup (e1 _ _ hb)), tl_any k_tup_tup k_tup_list, true, rfl, iteT ?_⟩
      refine ⟨_, rfl, z2, fun tq htq => ?_⟩
      have e2 := e1.trans (snew (o := .tup [.ty "tuple", .ty "list"]) htq)
      refine ⟨_, tq, _, _, _, true, rfl, upd_same, cls_tl, .base (.tup (e2 _ _ ha)), tl_any k_tup_tup k_tup_list, true, rfl, iteF ?_⟩
      refine ⟨_, rfl, _, _, _, _, false, rfl, .ty _, .base (.tup (e2 _ _ ha)), k_tup_list, _, rfl, _, _, _, _, false, rfl, .ty _, .base (.tup (e2 _ _ hb)), k_tup_list, rfl, _, rfl, ?_⟩
      rw [show (!decide (V.bl false = V.bl false)) = false by simp]
      refine iteF ⟨_, rfl, _, _, rfl, .inr (sqT (e2 _ _ ha)), _, rfl, _, _, rfl, .inr (sqT (e2 _ _ hb)), rfl, _, rfl, ?_⟩
      rw [show (!decide (V.int ((ns.map iv).length : Int) = V.int ((ns.map iv).length : Int))) = false by simp]
      refine iteF ?_
      refine ⟨_, rfl, b, _, rfl, .inr (sqT (e2 _ _ hb)), ns.length, by rw [List.length_map], by omega, by omega, fun D hD => ?_⟩
      refine lc_range (lo := 0) (n := ns.length) (fun i H' => Same H H' ∧ H' D = some (.lst [])) ⟨e2.trans (snew hD), upd_same⟩ (fun i H' hi p => ?_) (fun H' p => ?_)
      · obtain ⟨z, hz1⟩ : ∃ z, ns[i]? = some z := ⟨_, List.getElem?_eq_getElem hi⟩
        have e0 : (0 : Int) + (i : Nat) = (i : Nat) := Int.zero_add _
        have hz2 : (ns.map iv)[i]? = some (iv z) := by rw [List.getElem?_map, hz1]; rfl
        refine ⟨rfl, _, rfl, _, rfl, a, _, _, _, rfl, rfl, sqT (p.1 _ _ ha), at_of (j := i) e0 hz2, _, rfl, _, rfl, b, _, _, _, rfl, rfl, sqT (p.1 _ _ hb), at_of (j := i) e0 hz2, z, rfl, fun H3 e3 => ⟨true, rfl, iteF ⟨p.1.trans e3, e3 _ _ p.2⟩⟩⟩
      · refine ⟨Nat.zero_le _, fun D2 hD2 => ?_⟩
        have e3 := snew (o := .lst []) hD2
        refine ⟨.list [], .list [], .lst (SqL.of (e3 _ _ p.2)) .nil, .lst (SqL.of upd_same) .nil, rfl, rfl, ?_⟩
        rw [show PyData.eqv (.list []) (.list []) = true by simp [PyData.eqv, PyData.eqvAll]]
        exact q _ (p.1.trans e3)
end
end KX
end

section
set_option Elab.async false
set_option linter.all false
set_option maxRecDepth 100000
set_option maxHeartbeats 4000000
namespace KX
open PySem PySem.Spec PyProof.Rows L2 KR KM
open He (ga ma)
/-! ### lists of rows -/
abbrev Mat := Nat → Nat → Int
def rowV (n : Nat) (m : Mat) (i : Nat) : List V := (List.range n).map fun j => V.int (m i j)
theorem rowV_len {n : Nat} {m : Mat} {i : Nat} : (rowV n m i).length = n := by unfold rowV; rw [List.length_map, List.length_range]
theorem rowV_at {n : Nat} {m : Mat} {i j : Nat} (h : j < n) : (rowV n m i)[j]? = some (.int (m i j)) := by
  unfold rowV
  rw [List.getElem?_map, List.getElem?_range h]
  rfl
def setm (m : Mat) (i j : Nat) (v : Int) : Mat := fun a b => if a = i ∧ b = j then v else m a b
theorem rowV_set {n : Nat} {m : Mat} {i j : Nat} {v : Int} (h : j < n) : (rowV n m i).set j (.int v) = rowV n (setm m i j v) i := by
  refine List.ext_getElem? fun k => ?_
  rw [List.getElem?_set, rowV_len]
  by_cases c : k < n
  · rw [rowV_at c, rowV_at c]
    by_cases q : j = k
    · subst q
      rw [if_pos rfl, if_pos c]
      simp [setm]
    · rw [if_neg q]
      have : ¬ k = j := fun z => q z.symm
      simp [setm, this]
  · have h1 : (rowV n m i)[k]? = none := List.getElem?_eq_none (by rw [rowV_len]; omega)
    have h2 : (rowV n (setm m i j v) i)[k]? = none := List.getElem?_eq_none (by rw [rowV_len]; omega)
    rw [h1, h2, if_neg (by omega)]
theorem rowV_ne {n : Nat} {m : Mat} {i i' j : Nat} {v : Int} (h : i' ≠ i) : rowV n (setm m i j v) i' = rowV n m i' := by
  unfold rowV
  refine List.map_congr_left fun k _ => ?_
  simp [setm, h]
structure GoodM (n : Nat) (m : Mat) : Prop where
  rng : ∀ i j, i < n → j < n → 0 ≤ m i j ∧ m i j ≤ 4
  diag : ∀ i, i < n → m i i = 0
  sym : ∀ i j, i < n → j < n → (m i j = 0 ↔ m j i = 0)
theorem GoodM.zero (n : Nat) : GoodM n fun _ _ => 0 := ⟨fun _ _ _ _ => ⟨Int.le_refl _, by decide⟩, fun _ _ => rfl, fun _ _ _ _ => Iff.rfl⟩
theorem GoodM.both {n : Nat} {m : Mat} (g : GoodM n m) {i j : Nat} {v w : Int} (h : i ≠ j) (hv : 1 ≤ v ∧ v ≤ 4) (hw : 1 ≤ w ∧ w ≤ 4) : GoodM n (setm (setm m i j v) j i w) := by
  refine ⟨fun a b ha hb => ?_, fun a ha => ?_, fun a b ha hb => ?_⟩
  · unfold setm
    split
    · omega
    · split
      · omega
      · exact g.rng a b ha hb
  · unfold setm
    rw [if_neg (by omega), if_neg (by omega)]
    exact g.diag a ha
  · have := g.sym a b ha hb
    unfold setm
    by_cases c1 : a = j ∧ b = i
    · rw [if_pos c1, if_neg (show ¬ (b = j ∧ a = i) by omega), if_pos (show b = i ∧ a = j by omega)]
      omega
    · by_cases c2 : a = i ∧ b = j
      · rw [if_neg c1, if_pos c2, if_pos (show b = j ∧ a = i by omega)]
        omega
      · rw [if_neg c1, if_neg c2, if_neg (show ¬ (b = j ∧ a = i) by omega), if_neg (show ¬ (b = i ∧ a = j) by omega)]
        exact this
theorem GoodM.one {n : Nat} {m : Mat} (g : GoodM n m) {i j : Nat} {v : Int} (hi : i < n) (hj : j < n) (h : m i j ≠ 0) (hv : 1 ≤ v ∧ v ≤ 4) : GoodM n (setm m i j v) := by
  have hne : i ≠ j := fun z => h (by rw [z]; exact g.diag j hj)
  have h' : m j i ≠ 0 := fun z => h ((g.sym i j hi hj).mpr z)
  refine ⟨fun a b ha hb => ?_, fun a ha => ?_, fun a b ha hb => ?_⟩
  · unfold setm
    split
    · omega
    · exact g.rng a b ha hb
  · unfold setm
    rw [if_neg (by omega)]
    exact g.diag a ha
  · have := g.sym a b ha hb
    unfold setm
    by_cases c1 : a = i ∧ b = j
    · rw [if_pos c1, if_neg (show ¬ (b = i ∧ a = j) by omega)]
      rw [c1.1, c1.2]
      omega
    · by_cases c2 : b = i ∧ a = j
      · rw [if_neg c1, if_pos c2, c2.1, c2.2]
        omega
      · rw [if_neg c1, if_neg c2]
        exact this
structure MatL (H : Hp) (p : Addr) (rs : List Addr) (n : Nat) (m : Mat) : Prop where
  top : H p = some (.lst (rs.map V.ref))
  len : rs.length = n
  nd : rs.Nodup
  row : ∀ i a, rs[i]? = some a → H a = some (.lst (rowV n m i))
theorem MatL.same {H H' : Hp} {p : Addr} {rs : List Addr} {n : Nat} {m : Mat} (e : Same H H') (h : MatL H p rs n m) : MatL H' p rs n m := ⟨e _ _ h.top, h.len, h.nd, fun i a q => e _ _ (h.row i a q)⟩
theorem MatL.kp' {H H' : Hp} {p : Addr} {rs : List Addr} {n : Nat} {m : Mat} (h : MatL H p rs n m) (e : ∀ b u, H b = some u → H' b = some u) : MatL H' p rs n m := h.same e
theorem at_ix {n i : Nat} {z : Int} (e : z = (i : Int)) (h : i < n) : ixN n z = some i := by rw [e]; exact ixN_nat h
theorem MatL.ne {H : Hp} {p : Addr} {rs : List Addr} {n : Nat} {m : Mat} (h : MatL H p rs n m) {i : Nat} {a : Addr} (hi : rs[i]? = some a) : p ≠ a := fun z => by
  have h1 := h.top
  have h2 := h.row i a hi
  rw [z, h2] at h1
  have hl := (List.getElem?_eq_some_iff.mp hi).1
  have hn : 0 < n := by rw [← h.len]; omega
  have e : rowV n m i = rs.map V.ref := by injection (Option.some.inj h1)
  have e0 := rowV_at (m := m) (i := i) hn
  rw [e, List.getElem?_map] at e0
  cases q : rs[0]? with
  | none => rw [q] at e0; cases e0
  | some b => rw [q] at e0; cases e0
theorem MatL.set {H : Hp} {p : Addr} {rs : List Addr} {n : Nat} {m : Mat} (h : MatL H p rs n m) {i j : Nat} {a : Addr} {v : Int} (hi : rs[i]? = some a) (hj : j < n) : MatL (upd H a (.lst ((rowV n m i).set j (.int v)))) p rs n (setm m i j v) := by
  refine ⟨by rw [upd_ne (h.ne hi)]; exact h.top, h.len, h.nd, fun k b hk => ?_⟩
  by_cases z : k = i
  · subst z
    have : b = a := Option.some.inj (hk.symm.trans hi)
    subst this
    rw [upd_same, rowV_set hj]
  · have nb : b ≠ a := fun q => z (by
      subst q
      exact nd_ix h.nd hk hi)
    rw [upd_ne nb, rowV_ne z]
    exact h.row k b hk
theorem rep_row (n : Nat) (i : Nat) : (List.replicate n [V.int 0]).flatten = rowV n (fun _ _ => 0) i := by
  unfold rowV
  induction n with
  | zero => rfl
  | succ n ih => rw [List.replicate_succ', List.flatten_append, ih, List.range_succ, List.map_append]; rfl
/-! ### the names -/
inductive NameOk : Str → Nat → Prop
  | a (n : Nat) : NameOk "a" n
  | b {n : Nat} (h : 2 ≤ n) : NameOk "b" n
  | c {n : Nat} (h : 3 ≤ n) : NameOk "c" n
  | g : NameOk "g" 2
theorem name_de {c : Str} {n : Nat} (h : NameOk c n) : inV (.str c) [.str "d", .str "e"] = false := by
  cases h <;> decide +kernel
abbrev spots (t1 t2 t3 t4 : V) : List (L2.Key × V) := [(Sum.inr "b", t1), (Sum.inr "c", t2), (Sum.inr "f", t3), (Sum.inr "g", t4)]
theorem spot_a (t1 t2 t3 t4 : V) : valV (mergeK [] (spots t1 t2 t3 t4)) (Sum.inr "a") = none := rfl
theorem spot_b (t1 t2 t3 t4 : V) : valV (mergeK [] (spots t1 t2 t3 t4)) (Sum.inr "b") = some t1 := rfl
theorem spot_c (t1 t2 t3 t4 : V) : valV (mergeK [] (spots t1 t2 t3 t4)) (Sum.inr "c") = some t2 := rfl
theorem spot_g (t1 t2 t3 t4 : V) : valV (mergeK [] (spots t1 t2 t3 t4)) (Sum.inr "g") = some t4 := rfl
section
variable {P : Program} {w : World} {K : PySem.W.Frag} {mg : Str → Option Value} {base : Heap}
def sp_named : Sp := fun vs H Q _ => ∃ (c : Str) (n : Nat), vs = [.str c, .int n] ∧ NameOk c n ∧ 1 ≤ n ∧ n ≤ 3 ∧
  ∀ p rs m H', Same H H' → H p = none → (∀ a ∈ rs, H a = none) → MatL H' p rs n m → GoodM n m → (∀ l, 1 ≤ l → l < n → m l (l - 1) ≠ 0) → Q (.ref p) H'
theorem sc_named : FnScope ["_law_letter", "_law_many", "_law_found", "_law_lamp", "_law_mate", "_law_spot", "_law_one", "_law_other", "_law_more"] ["_law_letter", "_law_many"] (defScope s_law_named) := ⟨rfl, rfl, rfl, by decide +kernel, rfl, by decide +kernel, by decide +kernel⟩
theorem ok_named (T : Tx K mg) : Has P w K mg base 1 "_law_named" ["_law_letter", "_law_many"] sp_named := by
  refine has_of T.d_law_named T.g_law_named sc_named (fun vs H Q E h => ?_) (fun cdv A outer s H vs Q E hr h => ?_)
  · obtain ⟨_, _, rfl, _⟩ := h
    rfl
  · obtain ⟨c, n, rfl, hc, h1, h3, q⟩ := h
    have nd := sc_named.nd
    have hu := hu_of hr
    refine ⟨_, pss_cons (ps_setLc (i := 2) (own := [("_law_lamp", 3)]) (g := gName 3) (tt := tYes) rfl nd rfl rfl (sw_true rfl rfl rfl (by decide +kernel)) (pi_range1 (by rfl) T.b_range (pa_cons (pv 1) pa_nil)) (blkOk_by (N := ["_law_letter", "_law_many", "_law_found", "_law_lamp", "_law_mate", "_law_spot", "_law_one", "_law_other", "_law_more"]) (sc := defScope s_law_named) (by decide +kernel))
        (fun _ _ _ _ _ => pg_name (i := 3) nd rfl (Or.inl rfl)) (fun _ _ _ _ _ => pts_nil) (fun _ _ _ _ _ => pe_op op_rep (pe_lst (pa_cons pe_int pa_nil)) (pv 1)))
      (pss_cons (ps_for PassesOwn.never rfl (pi_range2 (by rfl) T.b_range (pa_cons pe_int (pa_cons (pv 1) pa_nil))) (pg_name (i := 3) nd rfl (Or.inl rfl))
        (pss_cons (ps_set (i := 4) nd rfl (Or.inl rfl) (pe_op op_sub (pv 3) pe_int))
        (pss_cons (ps_if (PW.pt (pw_and (pt_cmpR op_in_seq (pv 0) (pe_lst (pa_cons pe_str (pa_cons pe_str pa_nil))) (by rfl)) (pw_and1 (pt_cmpR op_eq (pv 3) (pe_op op_sub (pv 1) pe_int) (nomark _))))) (pss_one ps_never) pss_nil)
        (pss_cons (ps_asg pe_int (pg_sub (pe_ix ix_list (pv 2) (pv 3) (fun _ _ => rfl)) (pv 4) set_list))
        (pss_one (ps_asg pe_int (pg_sub (pe_ix ix_list (pv 2) (pv 4) (fun _ _ => rfl)) (pv 3) set_list)))))))
      (pss_cons (ps_set (i := 5) nd rfl (Or.inl rfl) (pe_disp (pps_cons pe_str (pe_tup (pa_cons (pe_op op_sub (pv 1) pe_int) (pa_cons (pe_op op_sub (pv 1) pe_int) (pa_cons pe_int pa_nil)))) (pps_cons pe_str (pe_tup (pa_cons (pe_op op_sub (pv 1) pe_int) (pa_cons (pe_op op_sub (pv 1) pe_int) (pa_cons pe_int pa_nil)))) (pps_cons pe_str (pe_tup (pa_cons pe_int (pa_cons pe_int (pa_cons pe_int pa_nil)))) (pps_cons pe_str (pe_tup (pa_cons pe_int (pa_cons pe_int (pa_cons pe_int pa_nil)))) pps_nil)))) (by rfl) (by rfl) (fun z => by cases z) (by decide)))
      (pss_cons (ps_if (pt_cmp (pc_din hu (pv 0) (pv 5))) (pss_cons (ps_asg (pe_dget hu (pv 5) (pv 0) (fun _ _ => rfl)) (pg_tup rfl (pgs_cons (pg_name (i := 6) nd rfl (Or.inl rfl)) (pgs_cons (pg_name (i := 7) nd rfl (Or.inl rfl)) (pgs_cons (pg_name (i := 8) nd rfl (Or.inl rfl)) pgs_nil)))))
        (pss_one (ps_asg (pv 8) (pg_sub (pe_ix ix_list (pv 2) (pv 6) (fun _ _ => rfl)) (pv 7) set_list)))) pss_nil)
      (pss_one (ps_ret (pv 2)))))), ?_⟩
    refine ⟨_, rfl, n, rfl, by omega, by omega, fun D hD => ?_⟩
    refine lc_range (lo := 0) (n := n) (fun i H' => ∃ rs : List Addr, Same H H' ∧ H' D = some (.lst (rs.map V.ref)) ∧ rs.length = i ∧ rs.Nodup ∧ ∀ a ∈ rs, H a = none ∧ H' a = some (.lst (rowV n (fun _ _ => 0) 0))) ⟨[], snew hD, upd_same, rfl, List.nodup_nil, fun _ h => by cases h⟩ (fun i H' hi p => ?_) (fun H' p => ?_)
    · obtain ⟨rs, e, hDl, hl, hnd, hrs⟩ := p
      refine ⟨rfl, lcY ⟨by show 1 ≤ sizeLine; decide, fun p1 hp1 => ⟨_, rfl, p1, _, _, rfl, rfl, upd_same, by omega, by omega, by show 1 * _ ≤ sizeLine; exact Nat.le_of_lt (sz8 (by omega)), fun p2 hp2 => ?_⟩⟩⟩
      have e1 := snew (o := .lst [.int 0]) hp1
      have e2 := snew (o := .lst ((List.replicate ((n : Nat) : Int).toNat [V.int 0]).flatten)) hp2
      have e12 := e1.trans e2
      have hDl2 := e12 _ _ hDl
      refine ⟨_, hDl2, sz8 (by rw [List.length_map]; omega), rs ++ [p2], sput (e.trans e12) hD, by rw [upd_same, List.map_append]; rfl, by rw [List.length_append, hl]; rfl, ?_, fun a ha => ?_⟩
      · refine List.nodup_append.mpr ⟨hnd, by simp, fun a ha b hb z => ?_⟩
        have hb' : b = p2 := List.mem_singleton.mp hb
        subst hb'
        subst z
        have := e1 _ _ (hrs a ha).2
        rw [hp2] at this
        cases this
      · have nDa : a ≠ D → (upd (upd (upd H' p1 (.lst [.int 0])) p2 (.lst ((List.replicate ((n : Nat) : Int).toNat [V.int 0]).flatten))) D (.lst (rs.map V.ref ++ [.ref p2]))) a = (upd (upd H' p1 (.lst [.int 0])) p2 (.lst ((List.replicate ((n : Nat) : Int).toNat [V.int 0]).flatten))) a := fun z => upd_ne z
        rcases List.mem_append.mp ha with ha | ha
        · have h2 := (hrs a ha).2
          have nz : a ≠ D := fun z => by
            rw [z, hDl] at h2
            have hn0 : (rowV n (fun _ _ => 0) 0)[0]? = some (V.int 0) := rowV_at (by omega)
            have e : rs.map V.ref = rowV n (fun _ _ => 0) 0 := by injection (Option.some.inj h2)
            rw [← e, List.getElem?_map] at hn0
            cases q : rs[0]? with
            | none => rw [q] at hn0; cases hn0
            | some b => rw [q] at hn0; cases hn0
          exact ⟨(hrs a ha).1, by rw [upd_ne nz]; exact e12 _ _ h2⟩
        · have ha' : a = p2 := List.mem_singleton.mp ha
          subst ha'
          have nz : a ≠ D := fun z => by
            have := e1 _ _ hDl
            rw [← z, hp2] at this
            cases this
          refine ⟨none_back (e.trans e1) hp2, ?_⟩
          rw [upd_ne nz, upd_same, Int.toNat_natCast, rep_row n 0]
    · obtain ⟨rs, e, hDl, hl, hnd, hrs⟩ := p
      have hnew : ∀ a ∈ rs, H a = none := fun a ha => (hrs a ha).1
      have M0 : MatL H' D rs n fun _ _ => 0 := ⟨hDl, hl, hnd, fun i a ha => (hrs a (List.mem_of_getElem? ha)).2⟩
      refine ⟨_, rfl, 1, _, rfl, ⟨by decide, by decide, by omega, by omega⟩, for_range (lo := 1) (n := ((n : Int) - 1).toNat) (fun j σ H' => ∃ m u3 u4 u5 u6 u7 u8, σ = [some (.str c), some (.int n), some (.ref D), u3, u4, u5, u6, u7, u8] ∧ Same H H' ∧ MatL H' D rs n m ∧ GoodM n m ∧ ∀ l, 1 ≤ l → l ≤ j → m l (l - 1) ≠ 0)
        ⟨_, none, none, none, none, none, none, rfl, e, M0, GoodM.zero n, fun l a b => by omega⟩ ?_ ?_⟩
      · rintro i σ H4 hi ⟨m, u3, u4, u5, u6, u7, u8, rfl, e, ML, g, ad⟩
        have hi2 : i + 1 < n := by omega
        have ei : (1 : Int) + (i : Nat) = ((i + 1 : Nat) : Int) := by omega
        obtain ⟨a1, ha1⟩ : ∃ a, rs[i + 1]? = some a := ⟨_, List.getElem?_eq_getElem (by rw [hl]; exact hi2)⟩
        obtain ⟨a0, ha0⟩ : ∃ a, rs[i]? = some a := ⟨_, List.getElem?_eq_getElem (by omega)⟩
        refine ⟨_, rfl, _, _, rfl, rfl, ?_⟩
        refine ⟨_, rfl, by show 2 ≤ sizeLine; decide, fun p1 hp1 => ⟨p1, _, rfl, .inl (SqL.of upd_same), rfl, rfl, _, rfl, ?_⟩⟩
        have e1 := snew (o := .lst [.str "d", .str "e"]) hp1
        have ML1 := ML.same e1
        refine ite2 (fun z => absurd (show inV (.str c) [.str "d", .str "e"] = true from z) (by rw [name_de hc]; decide)) (fun _ => ?_)
        have em : (1 : Int) + (i : Nat) - 1 = (i : Nat) := by omega
        have ar1 : (rs.map V.ref)[i + 1]? = some (.ref a1) := by rw [List.getElem?_map, ha1]; rfl
        have ar0 : (rs.map V.ref)[i]? = some (.ref a0) := by rw [List.getElem?_map, ha0]; rfl
        refine ⟨_, rfl, _, rfl, D, _, _, .ref a1, rfl, rfl, SqL.of ML1.top, at_of ei ar1, _, rfl, a1, _, _, i, rfl, rfl, ML1.row _ _ ha1, ?_, ?_⟩
        · rw [em]; exact ixN_nat (by rw [rowV_len]; omega)
        have ML2 := ML1.set (v := 1) ha1 (show i < n by omega)
        refine ⟨_, rfl, _, rfl, D, _, _, .ref a0, rfl, rfl, SqL.of ML2.top, at_of em ar0, _, rfl, a0, _, _, i + 1, rfl, rfl, ML2.row _ _ ha0, ?_, ?_⟩
        · rw [ei]; exact ixN_nat (by rw [rowV_len]; omega)
        have ML3 := ML2.set (v := 1) ha0 hi2
        refine ⟨_, _, _, _, _, _, _, rfl, sput (sput (e.trans e1) (hnew _ (List.mem_of_getElem? ha1))) (hnew _ (List.mem_of_getElem? ha0)), ML3, g.both (by omega) ⟨by decide, by decide⟩ ⟨by decide, by decide⟩, fun l l1 l2 => ?_⟩
        unfold setm
        by_cases z : l = i + 1
        · subst z
          rw [if_neg (by omega), if_pos (by omega)]
          decide
        · rw [if_neg (by omega), if_neg (by omega)]
          exact ad l l1 (by omega)
      · rintro σ H4 ⟨m, u3, u4, u5, u6, u7, u8, rfl, e, ML, g, ad⟩
        have z3 : (3 : Nat) ≤ sizeLine := by decide
        refine fun dp hdp => ⟨_, rfl, _, _, rfl, rfl, _, rfl, _, _, rfl, rfl, z3, fun t1 ht1 => ⟨_, rfl, _, _, rfl, rfl, _, rfl, _, _, rfl, rfl, z3, fun t2 ht2 => ⟨z3, fun t3 ht3 => ⟨z3, fun t4 ht4 => ?_⟩⟩⟩⟩
        have f0 := snew (o := .dK []) hdp
        have f1 := snew (o := .tup [.int (n - 2), .int (n - 1), .int 2]) ht1
        have f2 := snew (o := .tup [.int (n - 1), .int (n - 2), .int 2]) ht2
        have f3 := snew (o := .tup [.int 1, .int 2, .int 2]) ht3
        have f4 := snew (o := .tup [.int 0, .int 1, .int 3]) ht4
        have hdd := (f1.trans (f2.trans (f3.trans f4))) _ _ (upd_same (H := H4) (a := dp) (o := .dK []))
        refine ⟨hdd, spots (.ref t1) (.ref t2) (.ref t3) (.ref t4), rfl, by show 4 ≤ 15; decide, ?_⟩
        have e5 := e.trans (f0.trans (f1.trans (f2.trans (f3.trans f4))))
        have dp0 : H dp = none := none_back e hdp
        have e6 := sput (o := .dK (mergeK [] (spots (.ref t1) (.ref t2) (.ref t3) (.ref t4)))) e5 dp0
        have kk : ∀ b u, b ≠ dp → H4 b = some u → (upd (upd (upd (upd (upd (upd H4 dp (.dK [])) t1 (.tup [.int (n - 2), .int (n - 1), .int 2])) t2 (.tup [.int (n - 1), .int (n - 2), .int 2])) t3 (.tup [.int 1, .int 2, .int 2])) t4 (.tup [.int 0, .int 1, .int 3])) dp (.dK (mergeK [] (spots (.ref t1) (.ref t2) (.ref t3) (.ref t4))))) b = some u := fun b u nb hb => by
          rw [upd_ne nb]
          exact (f0.trans (f1.trans (f2.trans (f3.trans f4)))) _ _ hb
        have kk := fun b u hb => kk b u (ne_of_none hb hdp) hb
        have tt : ∀ {a : Addr} {xs : List V}, (upd (upd (upd (upd (upd H4 dp (.dK [])) t1 (.tup [.int (n - 2), .int (n - 1), .int 2])) t2 (.tup [.int (n - 1), .int (n - 2), .int 2])) t3 (.tup [.int 1, .int 2, .int 2])) t4 (.tup [.int 0, .int 1, .int 3])) a = some (.tup xs) → (upd (upd (upd (upd (upd (upd H4 dp (.dK [])) t1 (.tup [.int (n - 2), .int (n - 1), .int 2])) t2 (.tup [.int (n - 1), .int (n - 2), .int 2])) t3 (.tup [.int 1, .int 2, .int 2])) t4 (.tup [.int 0, .int 1, .int 3])) dp (.dK (mergeK [] (spots (.ref t1) (.ref t2) (.ref t3) (.ref t4))))) a = some (.tup xs) := fun {a xs} ha => by
          have : a ≠ dp := fun z => by rw [z, hdd] at ha; cases ha
          rw [upd_ne this]; exact ha
        refine ⟨_, rfl, _, rfl, dp, _, rfl, DGet.k (k := Sum.inr c) upd_same, _, rfl, ?_⟩
        cases hc with
        | a =>
          rw [spot_a]
          exact iteF ⟨_, rfl, q D rs m _ e6 hD hnew (ML.kp' kk) g fun l l1 l2 => ad l l1 (by omega)⟩
        | b h2 =>
          rw [spot_b]
          refine iteT ⟨_, rfl, _, rfl, dp, .ref t1, rfl, DGet.k (k := Sum.inr "b") upd_same, t1, _, rfl, sqT (tt ((f2.trans (f3.trans f4)) _ _ upd_same)), rfl, _, _, rfl, _, _, rfl, _, _, rfl, rfl, ?_⟩
          obtain ⟨aa, haa⟩ : ∃ a, rs[n - 2]? = some a := ⟨_, List.getElem?_eq_getElem (by rw [hl]; omega)⟩
          have ML6 := ML.kp' kk
          refine ⟨_, rfl, _, rfl, _, rfl, D, _, _, .ref aa, rfl, rfl, SqL.of ML6.top, at_of (j := n - 2) (by omega) (by rw [List.getElem?_map, haa]; rfl), _, rfl, aa, _, _, n - 1, rfl, rfl, ML6.row _ _ haa, at_ix (by omega) (by rw [rowV_len]; omega), ?_⟩
          have hne : m (n - 2) (n - 1) ≠ 0 := fun z => ad (n - 1) (by omega) (by omega) ((g.sym (n - 1) (n - 2) (by omega) (by omega)).mpr z)
          have ML7 := ML6.set (v := 2) haa (show n - 1 < n by omega)
          refine ⟨_, rfl, q D rs _ _ (sput e6 (hnew _ (List.mem_of_getElem? haa))) hD hnew ML7 (g.one (by omega) (by omega) hne ⟨by decide, by decide⟩) fun l l1 l2 => ?_⟩
          unfold setm
          split
          · decide
          · exact ad l l1 (by omega)
        | c h3' =>
          rw [spot_c]
          refine iteT ⟨_, rfl, _, rfl, dp, .ref t2, rfl, DGet.k (k := Sum.inr "c") upd_same, t2, _, rfl, sqT (tt ((f3.trans f4) _ _ upd_same)), rfl, _, _, rfl, _, _, rfl, _, _, rfl, rfl, ?_⟩
          obtain ⟨aa, haa⟩ : ∃ a, rs[n - 1]? = some a := ⟨_, List.getElem?_eq_getElem (by rw [hl]; omega)⟩
          have ML6 := ML.kp' kk
          refine ⟨_, rfl, _, rfl, _, rfl, D, _, _, .ref aa, rfl, rfl, SqL.of ML6.top, at_of (j := n - 1) (by omega) (by rw [List.getElem?_map, haa]; rfl), _, rfl, aa, _, _, n - 2, rfl, rfl, ML6.row _ _ haa, at_ix (by omega) (by rw [rowV_len]; omega), ?_⟩
          have hne : m (n - 1) (n - 2) ≠ 0 := ad (n - 1) (by omega) (by omega)
          have ML7 := ML6.set (v := 2) haa (show n - 2 < n by omega)
          refine ⟨_, rfl, q D rs _ _ (sput e6 (hnew _ (List.mem_of_getElem? haa))) hD hnew ML7 (g.one (by omega) (by omega) hne ⟨by decide, by decide⟩) fun l l1 l2 => ?_⟩
          unfold setm
          split
          · decide
          · exact ad l l1 (by omega)
        | g =>
          rw [spot_g]
          refine iteT ⟨_, rfl, _, rfl, dp, .ref t4, rfl, DGet.k (k := Sum.inr "g") upd_same, t4, _, rfl, sqT (tt upd_same), rfl, _, _, rfl, _, _, rfl, _, _, rfl, rfl, ?_⟩
          obtain ⟨aa, haa⟩ : ∃ a, rs[0]? = some a := ⟨_, List.getElem?_eq_getElem (by rw [hl]; omega)⟩
          have ML6 := ML.kp' kk
          refine ⟨_, rfl, _, rfl, _, rfl, D, _, _, .ref aa, rfl, rfl, SqL.of ML6.top, at_of (j := 0) (by omega) (by rw [List.getElem?_map, haa]; rfl), _, rfl, aa, _, _, 1, rfl, rfl, ML6.row _ _ haa, at_ix (by omega) (by rw [rowV_len]; omega), ?_⟩
          have hne : m (0) (1) ≠ 0 := fun z => ad 1 (by omega) (by omega) ((g.sym 1 0 (by omega) (by omega)).mpr z)
          have ML7 := ML6.set (v := 3) haa (show 1 < 2 by omega)
          refine ⟨_, rfl, q D rs _ _ (sput e6 (hnew _ (List.mem_of_getElem? haa))) hD hnew ML7 (g.one (by omega) (by omega) hne ⟨by decide, by decide⟩) fun l l1 l2 => ?_⟩
          unfold setm
          split
          · decide
          · exact ad l l1 (by omega)
end
end KX
end

section
set_option Elab.async false
set_option linter.all false
set_option maxRecDepth 100000
set_option maxHeartbeats 4000000
namespace KX
open PySem PySem.Spec PyProof.Rows L2 KR KM
open He (ga ma)
theorem pe_weak {X : Cx} {e : Expr} {t t' : TE} (h : PE X e t) (k : ∀ σ H Q, t' σ H Q → t σ H Q) : PE X e t' := ⟨fun pins s σ H Q I q => h.run pins s σ H Q I (k σ H Q q)⟩
/-! ### names -/
def NmV (H : Hp) (n : Nat) (v : V) : Prop := ∃ t c k, v = .ref t ∧ H t = some (.tup [.str c, .int (k : Nat)]) ∧ NameOk c k ∧ 1 ≤ k ∧ k ≤ n
theorem NmV.same {H H' : Hp} {n : Nat} {v : V} (e : Same H H') (h : NmV H n v) : NmV H' n v := let ⟨t, c, k, a, b, d⟩ := h; ⟨t, c, k, a, e _ _ b, d⟩
/-- [(c, many)] * int(..) -/
def tPc (c : Str) (b : Int → Bool) : TE := fun σ H Q => ∃ k : Int, σ[2]? = some (some (.int k)) ∧ ∀ p ys H', Same H H' → H' p = some (.lst ys) → ys.length ≤ 1 → (∀ v ∈ ys, b k = true ∧ ∃ t, v = .ref t ∧ H' t = some (.tup [.str c, .int k])) → Q (.ref p) H'
theorem k_pc {c : Str} {b : Int → Bool} {tb : TE} (htb : ∀ (σ : L2.St) (H : Hp) (Q : VK), (∃ k : Int, σ[2]? = some (some (.int k)) ∧ Q (.bl (b k)) H) → tb σ H Q) :
    ∀ (σ : L2.St) (H : Hp) (Q : VK), tPc c b σ H Q → tOp rRep (tLst (tCons (tTup (tCons (tC (.str c)) (tCons (tVar 2) tNil))) tNil)) (tCB (fun xs H Q => (∃ i, xs = [V.int i] ∧ Q (V.int i) H) ∨ ∃ k, xs = [V.bl k] ∧ Q (V.int (if k = true then 1 else 0)) H) (tCons tb tNil)) σ H Q := by
  intro σ H Q ⟨k, hk, q⟩
  refine ⟨_, hk, by show 2 ≤ sizeLine; decide, fun t ht => ⟨by show 1 ≤ sizeLine; decide, fun p hp => ?_⟩⟩
  have e1 := snew (o := .tup [.str c, .int k]) ht
  have e2 := snew (o := .lst [.ref t]) hp
  refine htb _ _ _ ⟨k, hk, .inr ⟨_, rfl, ?_⟩⟩
  refine ⟨p, _, _, rfl, rfl, upd_same, by split <;> decide, by split <;> decide, ?_, fun p2 hp2 => ?_⟩
  · show 1 * _ ≤ sizeLine
    split <;> exact Nat.le_of_lt (sz8 (by decide))
  · have e3 := snew (o := .lst (List.replicate ((if b k = true then (1 : Int) else 0)).toNat [V.ref t]).flatten) hp2
    refine q p2 _ _ (e1.trans (e2.trans e3)) upd_same ?_ fun v hv => ?_
    · cases b k <;> simp
    · by_cases hb : b k = true
      · rw [if_pos hb] at hv
        have : v = .ref t := by simpa using hv
        exact ⟨hb, t, this, (e2.trans e3) _ _ upd_same⟩
      · rw [if_neg hb] at hv; simp at hv
section
variable {P : Program} {w : World} {K : PySem.W.Frag} {mg : Str → Option Value} {base : Heap}
def sp_names : Sp := fun vs H Q _ => ∃ n : Nat, vs = [.int n] ∧ 1 ≤ n ∧ n ≤ 3 ∧ ∀ p xs H', Same H H' → H p = none → H' p = some (.lst xs) → 0 < xs.length → xs.length ≤ 1000 → (∀ v ∈ xs, NmV H' n v) → Q (.ref p) H'
theorem sc_names : FnScope ["_law_most", "_law_found", "_law_many"] ["_law_most"] (defScope s_law_names) := ⟨rfl, rfl, rfl, by decide +kernel, rfl, by decide +kernel, by decide +kernel⟩
theorem cat_mem {H1 H2 H3 : Hp} {n : Nat} {xs ys : List V} (h1 : ∀ v ∈ xs, NmV H1 n v) (h2 : ∀ v ∈ ys, NmV H2 n v) (e1 : Same H1 H3) (e2 : Same H2 H3) : ∀ v ∈ xs ++ ys, NmV H3 n v := fun v hv => by
  rcases List.mem_append.mp hv with q | q
  · exact (h1 v q).same e1
  · exact (h2 v q).same e2
theorem ok_names (T : Tx K mg) : Has P w K mg base 1 "_law_names" ["_law_most"] sp_names := by
  refine has_of T.d_law_names T.g_law_names sc_names (fun vs H Q E h => ?_) (fun cdv A outer s H vs Q E hr h => ?_)
  · obtain ⟨_, rfl, _⟩ := h
    rfl
  · obtain ⟨n, rfl, h1, h3, q⟩ := h
    have nd := sc_names.nd
    have kG : ∀ m : Int, ∀ (σ : L2.St) (H : Hp) (Q : VK), (∃ k : Int, σ[2]? = some (some (.int k)) ∧ Q (.bl (decide (m < k))) H) → tOp (rI0 fun i j => V.bl (decide (j < i))) (tVar 2) (tC (.int m)) σ H Q := fun m σ H Q ⟨k, hk, q⟩ => ⟨_, hk, _, _, rfl, rfl, q⟩
    have kE : ∀ m : Int, ∀ (σ : L2.St) (H : Hp) (Q : VK), (∃ k : Int, σ[2]? = some (some (.int k)) ∧ Q (.bl (decide (k = m))) H) → tOp rEq (tVar 2) (tC (.int m)) σ H Q := fun m σ H Q ⟨k, hk, q⟩ => ⟨_, hk, rfl, by
      have e : decide (V.int k = V.int m) = decide (k = m) := by simp
      show Q (.bl (decide (V.int k = V.int m))) H
      rw [e]; exact q⟩
    refine ⟨_, pss_cons (ps_set (i := 1) nd rfl (Or.inl rfl) (pe_lst pa_nil))
      (pss_cons (ps_for PassesOwn.never rfl (pi_range2 (by rfl) T.b_range (pa_cons pe_int (pa_cons (pe_op op_add (pv 0) pe_int) pa_nil))) (pg_name (i := 2) nd rfl (Or.inl rfl))
        (pss_cons (ps_set (i := 1) nd rfl (Or.inl rfl) (pe_op op_cat (pe_op op_cat (pe_op op_cat (pv 1) (pe_lst (pa_cons (pe_tup (pa_cons pe_str (pa_cons (pv 2) pa_nil))) pa_nil)))
            (pe_weak (pe_op op_rep (pe_lst (pa_cons (pe_tup (pa_cons pe_str (pa_cons (pv 2) pa_nil))) pa_nil)) (pe_callTy call_int1 (by rfl) T.b_int (by decide +kernel) (pa_cons (pe_cmpR op_gt (pv 2) pe_int (nomark _)) pa_nil))) (k_pc (c := "b") (kG 1))))
            (pe_weak (pe_op op_rep (pe_lst (pa_cons (pe_tup (pa_cons pe_str (pa_cons (pv 2) pa_nil))) pa_nil)) (pe_callTy call_int1 (by rfl) T.b_int (by decide +kernel) (pa_cons (pe_cmpR op_gt (pv 2) pe_int (nomark _)) pa_nil))) (k_pc (c := "c") (kG 2)))))
        (pss_cons (ps_set (i := 1) nd rfl (Or.inl rfl) (pe_op op_cat (pe_op op_cat (pv 1)
            (pe_weak (pe_op op_rep (pe_lst (pa_cons (pe_tup (pa_cons pe_str (pa_cons (pv 2) pa_nil))) pa_nil)) (pe_callTy call_int1 (by rfl) T.b_int (by decide +kernel) (pa_cons (pe_cmpR op_gt (pv 2) pe_int (nomark _)) pa_nil))) (k_pc (c := "d") (kG 3))))
            (pe_weak (pe_op op_rep (pe_lst (pa_cons (pe_tup (pa_cons pe_str (pa_cons (pv 2) pa_nil))) pa_nil)) (pe_callTy call_int1 (by rfl) T.b_int (by decide +kernel) (pa_cons (pe_cmpR op_gt (pv 2) pe_int (nomark _)) pa_nil))) (k_pc (c := "e") (kG 5)))))
        (pss_one (ps_set (i := 1) nd rfl (Or.inl rfl) (pe_op op_cat (pe_op op_cat (pv 1)
            (pe_weak (pe_op op_rep (pe_lst (pa_cons (pe_tup (pa_cons pe_str (pa_cons (pv 2) pa_nil))) pa_nil)) (pe_callTy call_int1 (by rfl) T.b_int (by decide +kernel) (pa_cons (pe_cmpR op_eq (pv 2) pe_int (nomark _)) pa_nil))) (k_pc (c := "f") (kE 4))))
            (pe_weak (pe_op op_rep (pe_lst (pa_cons (pe_tup (pa_cons pe_str (pa_cons (pv 2) pa_nil))) pa_nil)) (pe_callTy call_int1 (by rfl) T.b_int (by decide +kernel) (pa_cons (pe_cmpR op_eq (pv 2) pe_int (nomark _)) pa_nil))) (k_pc (c := "g") (kE 2)))))))))
      (pss_one (ps_ret (pv 1)))), ?_⟩
    refine ⟨Nat.zero_le _, fun p hp => ?_⟩
    have e0 := snew (o := .lst []) hp
    refine ⟨_, rfl, _, _, rfl, rfl, 1, _, rfl, ⟨by decide, by decide, by omega, by omega⟩, for_range (lo := 1) (n := ((n : Int) + 1 - 1).toNat) (fun i σ H' => ∃ p xs u, σ = [some (.int n), some (.ref p), u] ∧ Same H H' ∧ H p = none ∧ H' p = some (.lst xs) ∧ (i = 0 ∨ 0 < xs.length) ∧ xs.length ≤ 7 * i ∧ ∀ v ∈ xs, NmV H' n v)
      ⟨p, [], none, rfl, e0, hp, upd_same, .inl rfl, by decide, fun v hv => by cases hv⟩ ?_ ?_⟩
    · rintro i σ H1 hi ⟨p, xs, u, rfl, e, hp, hx, h0, hlen, hN⟩
      have hi3 : i + 1 ≤ n := by omega
      have ek : (1 : Int) + (i : Nat) = ((i + 1 : Nat) : Int) := by omega
      rw [ek]
      generalize hk : i + 1 = k at *
      have sz : ∀ {m : Nat}, m ≤ 1000 → m ≤ sizeLine := fun h => Nat.le_of_lt (sz8 (by omega))
      refine ⟨_, rfl, _, rfl, by show 2 ≤ sizeLine; decide, fun t ht => ⟨by show 1 ≤ sizeLine; decide, fun p1 hp1 => ?_⟩⟩
      have a1 := snew (o := .tup [.str "a", .int (k : Nat)]) ht
      have a2 := snew (o := .lst [.ref t]) hp1
      have a12 := a1.trans a2
      refine ⟨p, p1, _, _, rfl, rfl, a12 _ _ hx, upd_same, sz (by simp only [List.length_singleton]; omega), fun p2 hp2 => ?_⟩
      have a3 := snew (o := .lst (xs ++ [.ref t])) hp2
      refine ⟨_, rfl, fun q1 y1 G1 b1 f1 l1 m1 => ?_⟩
      refine ⟨p2, q1, _, _, rfl, rfl, b1 _ _ upd_same, f1, sz (by simp only [List.length_append, List.length_singleton]; omega), fun p3 hp3 => ?_⟩
      have a4 := snew (o := .lst (xs ++ [.ref t] ++ y1)) hp3
      refine ⟨_, rfl, fun q2 y2 G2 b2 f2 l2 m2 => ?_⟩
      refine ⟨p3, q2, _, _, rfl, rfl, b2 _ _ upd_same, f2, sz (by simp only [List.length_append, List.length_singleton]; omega), fun p4 hp4 => ?_⟩
      have a5 := snew (o := .lst (xs ++ [.ref t] ++ y1 ++ y2)) hp4
      -- the second
      refine ⟨_, rfl, _, rfl, fun q3 y3 G3 b3 f3 l3 m3 => ?_⟩
      refine ⟨p4, q3, _, _, rfl, rfl, b3 _ _ upd_same, f3, sz (by simp only [List.length_append, List.length_singleton]; omega), fun p5 hp5 => ?_⟩
      have a6 := snew (o := .lst (xs ++ [.ref t] ++ y1 ++ y2 ++ y3)) hp5
      refine ⟨_, rfl, fun q4 y4 G4 b4 f4 l4 m4 => ?_⟩
      refine ⟨p5, q4, _, _, rfl, rfl, b4 _ _ upd_same, f4, sz (by simp only [List.length_append, List.length_singleton]; omega), fun p6 hp6 => ?_⟩
      have a7 := snew (o := .lst (xs ++ [.ref t] ++ y1 ++ y2 ++ y3 ++ y4)) hp6
      -- the third
      refine ⟨_, rfl, _, rfl, fun q5 y5 G5 b5 f5 l5 m5 => ?_⟩
      refine ⟨p6, q5, _, _, rfl, rfl, b5 _ _ upd_same, f5, sz (by simp only [List.length_append, List.length_singleton]; omega), fun p7 hp7 => ?_⟩
      have a8 := snew (o := .lst (xs ++ [.ref t] ++ y1 ++ y2 ++ y3 ++ y4 ++ y5)) hp7
      refine ⟨_, rfl, fun q6 y6 G6 b6 f6 l6 m6 => ?_⟩
      refine ⟨p7, q6, _, _, rfl, rfl, b6 _ _ upd_same, f6, sz (by simp only [List.length_append, List.length_singleton]; omega), fun p8 hp8 => ?_⟩
      have a9 := snew (o := .lst (xs ++ [.ref t] ++ y1 ++ y2 ++ y3 ++ y4 ++ y5 ++ y6)) hp8
      have s6 := a9
      have s5 := a8.trans (b6.trans s6)
      have s4 := a7.trans (b5.trans s5)
      have s3 := a6.trans (b4.trans s4)
      have s2 := a5.trans (b3.trans s3)
      have s1 := a4.trans (b2.trans s2)
      have s0 := a3.trans (b1.trans s1)
      have sE := e.trans (a12.trans s0)
      have one : ∀ {c : Str} {b : Bool} {ys : List V} {G : Hp}, (∀ v ∈ ys, b = true ∧ ∃ t, v = .ref t ∧ G t = some (.tup [.str c, .int (k : Nat)])) → (b = true → NameOk c k) → ∀ v ∈ ys, NmV G n v := fun m hb v hv => by
        obtain ⟨z1, t, z2, z3⟩ := m v hv
        exact ⟨t, _, k, z2, z3, hb z1, by omega, hi3⟩
      refine ⟨p8, _, _, rfl, sE, none_back (e.trans (a12.trans (a3.trans (b1.trans (a4.trans (b2.trans (a5.trans (b3.trans (a6.trans (b4.trans (a7.trans (b5.trans (a8.trans b6))))))))))))) hp8, upd_same, .inr (by simp only [List.length_append, List.length_singleton]; omega), by simp only [List.length_append, List.length_singleton]; omega, ?_⟩
      have h0 : ∀ v ∈ [V.ref t], NmV (upd (upd H1 t (.tup [.str "a", .int (k : Nat)])) p1 (.lst [.ref t])) n v := fun v hv => by
        have : v = .ref t := by simpa using hv
        exact ⟨t, "a", k, this, a2 _ _ upd_same, .a k, by omega, hi3⟩
      have r1 := cat_mem hN h0 (a12.trans (Same.refl _)) (Same.refl _)
      have r2 := cat_mem r1 (one m1 fun z => .b (by have := of_decide_eq_true z; omega)) (a3.trans b1) (Same.refl _)
      have r3 := cat_mem r2 (one m2 fun z => .c (by have := of_decide_eq_true z; omega)) (a4.trans b2) (Same.refl _)
      have r4 := cat_mem r3 (one m3 fun z => absurd (of_decide_eq_true z) (by omega)) (a5.trans b3) (Same.refl _)
      have r5 := cat_mem r4 (one m4 fun z => absurd (of_decide_eq_true z) (by omega)) (a6.trans b4) (Same.refl _)
      have r6 := cat_mem r5 (one m5 fun z => absurd (of_decide_eq_true z) (by omega)) (a7.trans b5) (Same.refl _)
      have r7 := cat_mem r6 (one m6 fun z => by
        have : k = 2 := by have := of_decide_eq_true z; omega
        rw [this]; exact .g) (a8.trans b6) (Same.refl _)
      exact fun v hv => (r7 v hv).same s6
    · rintro σ H' ⟨p, xs, u, rfl, e, hp, hx, h0, hlen, hN⟩
      exact ⟨_, rfl, q p xs H' e hp hx (by rcases h0 with h | h <;> omega) (by omega) hN⟩
end
end KX
end

section
set_option Elab.async false
set_option linter.all false
set_option maxRecDepth 100000
set_option maxHeartbeats 4000000
namespace KX
open PySem PySem.Spec PyProof.Rows L2 KR KM
open He (ga ma)
/-! ### rows that are read -/
def MatR (H : Hp) (x : V) (n : Nat) (m : Mat) : Prop := ∃ (p : Addr) (rs : List Addr), x = .ref p ∧ H p = some (.lst (rs.map V.ref)) ∧ rs.length = n ∧ ∀ i a, rs[i]? = some a → H a = some (.lst (rowV n m i))
theorem MatL.r {H : Hp} {p : Addr} {rs : List Addr} {n : Nat} {m : Mat} (h : MatL H p rs n m) : MatR H (.ref p) n m := ⟨p, rs, rfl, h.top, h.len, h.row⟩
theorem MatR.same {H H' : Hp} {x : V} {n : Nat} {m : Mat} (e : Same H H') (h : MatR H x n m) : MatR H' x n m := let ⟨p, rs, a, b, c, d⟩ := h; ⟨p, rs, a, e _ _ b, c, fun i a q => e _ _ (d i a q)⟩
theorem row_no {scr : Addr} {c1 : Nat} {c2 c3 : Int} {rs : List Addr} (h : rs.map V.ref = rowL scr c1 c2 c3) : False := by
  have h1 : (rs.map V.ref)[1]? = some (V.int c1) := by rw [h]; rfl
  rw [List.getElem?_map] at h1
  cases q : rs[1]? with
  | none => rw [q] at h1; cases h1
  | some b => rw [q] at h1; cases h1
theorem row_no2 {scr : Addr} {c1 : Nat} {c2 c3 : Int} {n : Nat} {m : Mat} {i : Nat} (h : rowV n m i = rowL scr c1 c2 c3) : False := by
  have h1 : (rowV n m i)[0]? = some (V.ref scr) := by rw [h]; rfl
  unfold rowV at h1
  rw [List.getElem?_map] at h1
  cases q : (List.range n)[0]? with
  | none => rw [q] at h1; cases h1
  | some b => rw [q] at h1; cases h1
section
variable {K : PySem.W.Frag} {r scr : Addr} {sc : List Int} {Hs H : Hp}
theorem RO.n1 (R : RO K r scr sc Hs Hs) {p : Addr} {rs : List Addr} (h : Hs p = some (.lst (rs.map V.ref))) : p ≠ r := fun z => by
  obtain ⟨c1, c2, c3, a, _⟩ := R.row
  rw [z, a] at h
  have : rowL scr c1 c2 c3 = rs.map V.ref := by injection (Option.some.inj h)
  exact row_no this.symm
theorem RO.n2 (R : RO K r scr sc Hs Hs) {p : Addr} {n : Nat} {m : Mat} {i : Nat} (h : Hs p = some (.lst (rowV n m i))) : p ≠ r := fun z => by
  obtain ⟨c1, c2, c3, a, _⟩ := R.row
  rw [z, a] at h
  have : rowL scr c1 c2 c3 = rowV n m i := by injection (Option.some.inj h)
  exact row_no2 this.symm
theorem MatR.ro (R0 : RO K r scr sc Hs Hs) (R : RO K r scr sc Hs H) {x : V} {n : Nat} {m : Mat} (h : MatR Hs x n m) : MatR H x n m :=
  let ⟨p, rs, a, b, c, d⟩ := h
  ⟨p, rs, a, R.at (R0.n1 b) b, c, fun i a q => R.at (R0.n2 (d i a q)) (d i a q)⟩
theorem MatL.ro (R0 : RO K r scr sc Hs Hs) (R : RO K r scr sc Hs H) {p : Addr} {rs : List Addr} {n : Nat} {m : Mat} (h : MatL Hs p rs n m) : MatL H p rs n m :=
  ⟨R.at (R0.n1 h.top) h.top, h.len, h.nd, fun i a q => R.at (R0.n2 (h.row i a q)) (h.row i a q)⟩
end
/-! ### beside -/
def blk (n : Nat) (m m2 : Mat) : Mat := fun i j => if i < n then (if j < n then m i j else 0) else (if j < n then 0 else m2 (i - n) (j - n))
theorem GoodM.blk {n k : Nat} {m m2 : Mat} (g : GoodM n m) (g2 : GoodM k m2) : GoodM (n + k) (KX.blk n m m2) := by
  refine ⟨fun i j hi hj => ?_, fun i hi => ?_, fun i j hi hj => ?_⟩
  · unfold KX.blk
    by_cases c1 : i < n <;> by_cases c2 : j < n
    · rw [if_pos c1, if_pos c2]; exact g.rng i j c1 c2
    · rw [if_pos c1, if_neg c2]; decide
    · rw [if_neg c1, if_pos c2]; decide
    · rw [if_neg c1, if_neg c2]; exact g2.rng _ _ (by omega) (by omega)
  · unfold KX.blk
    by_cases c1 : i < n
    · rw [if_pos c1, if_pos c1]; exact g.diag i c1
    · rw [if_neg c1, if_neg c1]; exact g2.diag _ (by omega)
  · unfold KX.blk
    by_cases c1 : i < n <;> by_cases c2 : j < n
    · rw [if_pos c1, if_pos c2, if_pos c2, if_pos c1]; exact g.sym i j c1 c2
    · rw [if_pos c1, if_neg c2, if_neg c2, if_pos c1]
    · rw [if_neg c1, if_pos c2, if_pos c2, if_neg c1]
    · rw [if_neg c1, if_neg c2, if_neg c2, if_neg c1]; exact g2.sym _ _ (by omega) (by omega)
theorem rowV_app {n k : Nat} {m1 m2 m : Mat} {i1 i2 i : Nat} (h1 : ∀ j, j < n → m i j = m1 i1 j) (h2 : ∀ j, j < k → m i (n + j) = m2 i2 j) : rowV n m1 i1 ++ rowV k m2 i2 = rowV (n + k) m i := by
  unfold rowV
  rw [List.range_add, List.map_append, List.map_map]
  congr 1
  · exact List.map_congr_left fun j hj => by rw [h1 j (List.mem_range.mp hj)]
  · exact List.map_congr_left fun j hj => by
      show V.int _ = V.int (m i (n + j))
      rw [h2 j (List.mem_range.mp hj)]
section
variable {P : Program} {w : World} {K : PySem.W.Frag} {mg : Str → Option Value} {base : Heap}
def sp_beside : Sp := fun vs H Q _ => ∃ (x y : V) (n k : Nat) (m m2 : Mat), vs = [x, y] ∧ MatR H x n m ∧ MatR H y k m2 ∧ n ≤ 100 ∧ k ≤ 100 ∧ ∀ v H', Same H H' → MatR H' v (n + k) (blk n m m2) → Q v H'
theorem sc_beside : FnScope ["_law_one", "_law_other", "_law_found", "_law_own"] ["_law_one", "_law_other"] (defScope s_law_beside) := ⟨rfl, rfl, rfl, by decide +kernel, rfl, by decide +kernel, by decide +kernel⟩
theorem ok_beside (T : Tx K mg) : Has P w K mg base 1 "_law_beside" ["_law_one", "_law_other"] sp_beside := by
  refine has_of T.d_law_beside T.g_law_beside sc_beside (fun vs H Q E h => ?_) (fun cdv A outer s H vs Q E hr h => ?_)
  · obtain ⟨_, _, _, _, _, _, rfl, _⟩ := h
    rfl
  · obtain ⟨_, _, n, k, m, m2, rfl, ⟨p, rs, rfl, hp, hl, hrs⟩, ⟨p2, rs2, rfl, hp2, hl2, hrs2⟩, hn, hk, q⟩ := h
    have nd := sc_beside.nd
    let tLst1 : TE := tCB (fun xs H Q => ∃ p ys, xs = [V.ref p] ∧ (SqL K H p ys ∨ SqT K H p ys) ∧ ∀ l, H l = none → Q (.ref l) (upd H l (.lst ys))) (tCons (tVar 3) tNil)
    let tLen1 : Nat → TE := fun i => tCB (fun xs H Q => ∃ p ys, xs = [V.ref p] ∧ (SqL K H p ys ∨ SqT K H p ys) ∧ Q (.int ys.length) H) (tCons (tVar i) tNil)
    refine ⟨_, pss_cons (ps_setLc (i := 2) (own := [("_law_own", 3)]) (g := gName 3) (tt := tYes) (te := tOp rCat tLst1 (tOp rRep (tLst (tCons (tC (.int 0)) tNil)) (tLen1 1))) rfl nd rfl rfl (sw_true rfl rfl rfl (by decide +kernel)) (pi_list (pv 0)) (blkOk_by (N := ["_law_one", "_law_other", "_law_found", "_law_own"]) (sc := defScope s_law_beside) (by decide +kernel))
        (fun _ _ _ _ _ => pg_name (i := 3) nd rfl (Or.inl rfl)) (fun _ _ _ _ _ => pts_nil) (fun _ _ _ _ _ => pe_op op_cat (pe_callTy call_list_of (by rfl) T.b_list (by decide +kernel) (pa_cons (pv 3) pa_nil)) (pe_op op_rep (pe_lst (pa_cons pe_int pa_nil)) (pe_callB call_len_seq (by rfl) T.b_len PySem.boot_len (pa_cons (pv 1) pa_nil)))))
      (pss_one (ps_ret (pe_op op_cat (pv 2) (pe_lc (own := [("_law_own", 3)]) (g := gName 3) (tt := tYes) (te := tOp rCat (tOp rRep (tLst (tCons (tC (.int 0)) tNil)) (tLen1 0)) tLst1) rfl nd (pi_list (pv 1)) (blkOk_by (N := ["_law_one", "_law_other", "_law_found", "_law_own"]) (sc := defScope s_law_beside) (by decide +kernel))
        (fun _ _ _ _ _ => pg_name (i := 3) nd rfl (Or.inl rfl)) (fun _ _ _ _ _ => pts_nil) (fun _ _ _ _ _ => pe_op op_cat (pe_op op_rep (pe_lst (pa_cons pe_int pa_nil)) (pe_callB call_len_seq (by rfl) T.b_len PySem.boot_len (pa_cons (pv 0) pa_nil))) (pe_callTy call_list_of (by rfl) T.b_list (by decide +kernel) (pa_cons (pv 3) pa_nil))))))), ?_⟩
    have sz : ∀ {m : Nat}, m ≤ 10000 → m ≤ sizeLine := fun h => Nat.le_of_lt (sz8 (by omega))
    refine ⟨_, rfl, p, rfl, ⟨_, SqL.of hp⟩, fun D hD => ?_⟩
    refine lc_list (K := K) (a := p) (xs := rs.map V.ref) (fun i H' => ∃ qs : List Addr, Same H H' ∧ H' D = some (.lst (qs.map V.ref)) ∧ qs.length = i ∧ ∀ j a, qs[j]? = some a → H' a = some (.lst (rowV (n + k) (blk n m m2) j)) ∧ a ≠ D) ⟨[], snew hD, upd_same, rfl, fun j a h => by simp at h⟩ (fun i H' _ ⟨_, e, _⟩ => SqL.of (e _ _ hp)) (fun i y H' hy pz => ?_) (fun H' pz => ?_)
    · obtain ⟨qs, e, hDl, hql, hq⟩ := pz
      rw [List.getElem?_map] at hy
      obtain ⟨a, ha, rfl⟩ := Option.map_eq_some_iff.mp hy
      have hi : i < n := by rw [← hl]; exact (List.getElem?_eq_some_iff.mp ha).1
      refine ⟨rfl, lcY ⟨_, rfl, a, _, rfl, .inl (SqL.of (e _ _ (hrs i a ha))), fun l1 hl1 => ?_⟩⟩
      have a1 := snew (o := .lst (rowV n m i)) hl1
      refine ⟨by show 1 ≤ sizeLine; decide, fun l2 hl2' => ?_⟩
      have a2 := snew (o := .lst [.int 0]) hl2'
      refine ⟨_, rfl, p2, _, rfl, .inl (SqL.of ((e.trans (a1.trans a2)) _ _ hp2)), l2, _, _, rfl, rfl, upd_same, by omega, by rw [List.length_map]; omega, sz (by rw [List.length_map]; show 1 * _ ≤ _; omega), fun l3 hl3 => ?_⟩
      have a3 := snew (o := .lst (List.replicate ((rs2.map V.ref).length : Int).toNat [V.int 0]).flatten) hl3
      refine ⟨l1, l3, _, _, rfl, rfl, (a2.trans a3) _ _ upd_same, upd_same, sz (by rw [rowV_len]; simp; omega), fun l4 hl4 => ?_⟩
      have a4 := snew (o := .lst (rowV n m i ++ (List.replicate ((rs2.map V.ref).length : Int).toNat [V.int 0]).flatten)) hl4
      have aa := a1.trans (a2.trans (a3.trans a4))
      have hDl2 := aa _ _ hDl
      have nD : l4 ≠ D := fun z => by
        have := (a1.trans (a2.trans a3)) _ _ hDl
        rw [← z, hl4] at this
        cases this
      refine ⟨_, hDl2, by rw [List.length_map]; exact sz8 (by omega), qs ++ [l4], sput (e.trans aa) hD, by rw [upd_same, List.map_append]; rfl, by rw [List.length_append, hql]; rfl, fun j b hb => ?_⟩
      rcases Nat.lt_or_ge j qs.length with c | c
      · rw [List.getElem?_append_left c] at hb
        obtain ⟨h1, h2⟩ := hq j b hb
        exact ⟨by rw [upd_ne h2]; exact aa _ _ h1, h2⟩
      · have hj : j = qs.length := by
          have := (List.getElem?_eq_some_iff.mp hb).1
          rw [List.length_append, List.length_singleton] at this
          omega
        subst hj
        have hb' : b = l4 := by
          rw [List.getElem?_append_right (Nat.le_refl _), Nat.sub_self] at hb
          exact (Option.some.inj hb).symm
        subst hb'
        refine ⟨?_, nD⟩
        rw [upd_ne nD, upd_same, List.length_map, Int.toNat_natCast, hl2, rep_row k 0, hql]
        rw [rowV_app (m := blk n m m2) (i := i) (fun j hj => ?_) (fun j hj => ?_)]
        · unfold blk; rw [if_pos hi, if_pos hj]
        · unfold blk; rw [if_pos hi, if_neg (by omega)]
    · obtain ⟨qs, e, hDl, hql, hq⟩ := pz
      rw [List.length_map, hl] at hql
      refine ⟨_, rfl, _, rfl, p2, rfl, ⟨_, SqL.of (e _ _ hp2)⟩, fun D2 hD2 => ?_⟩
      have hD20 : H D2 = none := none_back e hD2
      refine lc_list (K := K) (a := p2) (xs := rs2.map V.ref) (fun i H2 => ∃ qs2 : List Addr, Same H H2 ∧ Same H' H2 ∧ H2 D2 = some (.lst (qs2.map V.ref)) ∧ qs2.length = i ∧ ∀ j a, qs2[j]? = some a → H2 a = some (.lst (rowV (n + k) (blk n m m2) (n + j))) ∧ a ≠ D2) ⟨[], e.trans (snew hD2), snew hD2, upd_same, rfl, fun j a h => by simp at h⟩ (fun i H2 _ ⟨_, e, _⟩ => SqL.of (e _ _ hp2)) (fun i y H2 hy pz => ?_) (fun H2 pz => ?_)
      · obtain ⟨qs2, e2, e2', hDl2, hql2, hq2⟩ := pz
        rw [List.getElem?_map] at hy
        obtain ⟨a, ha, rfl⟩ := Option.map_eq_some_iff.mp hy
        have hi : i < k := by rw [← hl2]; exact (List.getElem?_eq_some_iff.mp ha).1
        refine ⟨rfl, lcY ⟨by show 1 ≤ sizeLine; decide, fun l2 hl2' => ?_⟩⟩
        have a1 := snew (o := .lst [.int 0]) hl2'
        refine ⟨_, rfl, p, _, rfl, .inl (SqL.of ((e2.trans a1) _ _ hp)), l2, _, _, rfl, rfl, upd_same, by omega, by rw [List.length_map]; omega, sz (by rw [List.length_map]; show 1 * _ ≤ _; omega), fun l3 hl3 => ?_⟩
        have a2 := snew (o := .lst (List.replicate ((rs.map V.ref).length : Int).toNat [V.int 0]).flatten) hl3
        refine ⟨_, rfl, a, _, rfl, .inl (SqL.of ((e2.trans (a1.trans a2)) _ _ (hrs2 i a ha))), fun l1 hl1 => ?_⟩
        have a3 := snew (o := .lst (rowV k m2 i)) hl1
        refine ⟨l3, l1, _, _, rfl, rfl, a3 _ _ upd_same, upd_same, sz (by rw [rowV_len]; simp; omega), fun l4 hl4 => ?_⟩
        have a4 := snew (o := .lst ((List.replicate ((rs.map V.ref).length : Int).toNat [V.int 0]).flatten ++ rowV k m2 i)) hl4
        have aa := a1.trans (a2.trans (a3.trans a4))
        have hDl3 := aa _ _ hDl2
        have nD : l4 ≠ D2 := fun z => by
          have := (a1.trans (a2.trans a3)) _ _ hDl2
          rw [← z, hl4] at this
          cases this
        refine ⟨_, hDl3, by rw [List.length_map]; exact sz8 (by omega), qs2 ++ [l4], sput (e2.trans aa) hD20, sput (e2'.trans aa) hD2, by rw [upd_same, List.map_append]; rfl, by rw [List.length_append, hql2]; rfl, fun j b hb => ?_⟩
        rcases Nat.lt_or_ge j qs2.length with c | c
        · rw [List.getElem?_append_left c] at hb
          obtain ⟨h1, h2⟩ := hq2 j b hb
          exact ⟨by rw [upd_ne h2]; exact aa _ _ h1, h2⟩
        · have hj : j = qs2.length := by
            have := (List.getElem?_eq_some_iff.mp hb).1
            rw [List.length_append, List.length_singleton] at this
            omega
          subst hj
          have hb' : b = l4 := by
            rw [List.getElem?_append_right (Nat.le_refl _), Nat.sub_self] at hb
            exact (Option.some.inj hb).symm
          subst hb'
          refine ⟨?_, nD⟩
          rw [upd_ne nD, upd_same, List.length_map, Int.toNat_natCast, hl, rep_row n 0, hql2]
          rw [rowV_app (m := blk n m m2) (i := n + i) (fun j hj => ?_) (fun j hj => ?_)]
          · unfold blk; rw [if_neg (by omega), if_pos hj]
          · unfold blk; rw [if_neg (by omega), if_neg (by omega), Nat.add_sub_cancel_left, Nat.add_sub_cancel_left]
      · obtain ⟨qs2, e2, e2', hDl2, hql2, hq2⟩ := pz
        rw [List.length_map, hl2] at hql2
        refine ⟨D, D2, _, _, rfl, rfl, e2' _ _ hDl, hDl2, sz (by rw [List.length_map, List.length_map]; omega), fun l hl' => ?_⟩
        have a1 := snew (o := .lst (qs.map V.ref ++ qs2.map V.ref)) hl'
        refine q _ _ (e2.trans a1) ⟨l, qs ++ qs2, rfl, by rw [upd_same, List.map_append], by rw [List.length_append]; omega, fun i a hi => ?_⟩
        rcases Nat.lt_or_ge i qs.length with c | c
        · rw [List.getElem?_append_left c] at hi
          exact a1 _ _ (e2' _ _ (hq i a hi).1)
        · rw [List.getElem?_append_right c] at hi
          have h1 := (hq2 _ a hi).1
          have e3 : n + (i - qs.length) = i := by omega
          rw [e3] at h1
          exact a1 _ _ h1
end
end KX
end

section
set_option Elab.async false
set_option linter.all false
set_option maxRecDepth 100000
set_option maxHeartbeats 4000000
namespace KX
open PySem PySem.Spec PyProof.Rows L2 KR KM
open He (ga ma)
def scMix : Scope := { kind := .function, names := [(".0", .local), ("_law_one", .cell), ("tuple", .globalImplicit), ("_law_order", .cell), ("_law_pushes", .cell)], isGenerator := false, isCoroutine := false }
section
variable {P : Program} {w : World} {K : PySem.W.Frag} {mg : Str → Option Value} {base : Heap}
def pick2 (m : Mat) (ord : List Nat) : Pushes := ord.map fun a => ord.map fun b => m a b
def sp_mixed (K : PySem.W.Frag) : Sp := fun vs H Q _ => ∃ (r scr : Addr) (sc : List Int) (x : V) (n : Nat) (m : Mat), vs = [.ref r, x] ∧ RO K r scr sc H H ∧ MatR H x n m ∧ n ≤ 100 ∧ ∀ v ord H', RO K r scr sc H H' → ord.length = n → (∀ a ∈ ord, a < n) → MT H' v (pick2 m ord) → Q v H'
theorem sc_mixed : FnScope ["_law_row", "_law_pushes", "_law_left", "_law_order", "_law_one", "_law_other"] ["_law_row", "_law_pushes"] (defScope s_law_mixed) := ⟨rfl, rfl, rfl, by decide +kernel, rfl, by decide +kernel, by decide +kernel⟩
abbrev natV (xs : List Nat) : List V := xs.map fun (k : Nat) => V.int k
theorem map_erase {α β : Type} {f : α → β} : ∀ {xs : List α} {i : Nat}, (xs.map f).eraseIdx i = (xs.eraseIdx i).map f
  | [], _ => by simp
  | _ :: _, 0 => by simp
  | x :: xs, i + 1 => by simp [map_erase (xs := xs) (i := i)]
theorem dp_nats {K : PySem.W.Frag} {H : Hp} : ∀ {xs : List Nat}, DpAll K H (natV xs) (xs.map fun (k : Nat) => PyData.int k)
  | [] => .nil
  | x :: xs => .cons (.int x) dp_nats
theorem nats_shaped : ∀ xs : List Nat, SeqAt.shaped (.list (xs.map fun (k : Nat) => PyData.int k)) = true := fun xs => by
  have h1 : PyData.canLayAll0 (xs.map fun (k : Nat) => PyData.int k) = true := by
    induction xs with
    | nil => rfl
    | cons x xs ih => simp [PyData.canLayAll0, PyData.canLay0] at ih ⊢; exact ih
  have h2 : PyData.depthAll (xs.map fun (k : Nat) => PyData.int k) ≤ 1 := by
    induction xs with
    | nil => simp [PyData.depthAll]
    | cons x xs ih => simp [PyData.depthAll, PyData.depth] at ih ⊢; exact ih (by simp [PyData.canLayAll0, PyData.canLay0] at h1 ⊢; exact h1)
  unfold SeqAt.shaped
  rw [Bool.and_eq_true]
  refine ⟨by simpa [PyData.canLay0] using h1, decide_eq_true ?_⟩
  simp only [PyData.depth]
  omega
theorem nats_eqv (xs : List Nat) : PyData.eqv (.list (xs.map fun (k : Nat) => PyData.int k)) (.list []) = decide (xs = []) := by
  cases xs <;> simp [PyData.eqv, PyData.eqvAll]
theorem ok_mixed (T : Tx K mg) : Has P w K mg base 2 "_law_mixed" ["_law_row", "_law_pushes"] (sp_mixed K) := by
  refine has_of T.d_law_mixed T.g_law_mixed sc_mixed (fun vs H Q E h => ?_) (fun cdv A outer s H vs Q E hr h => ?_)
  · obtain ⟨_, _, _, _, _, _, rfl, _⟩ := h
    rfl
  · obtain ⟨r, scr, sc, x, n, m, rfl, R, hx, hn, q⟩ := h
    obtain ⟨p, rs, rfl, hp, hl, hrs⟩ := id hx
    have nd := sc_mixed.nd
    let teIn : TE := tOp (rIxL K) (tOp (rIxL K) (tVar 1) (tVar 4)) (tVar 5)
    let tTu : TE → TE := fun t => tCB (fun xs H Q => ∃ p ys, xs = [V.ref p] ∧ ((SqL K H p ys ∧ ∀ l, H l = none → Q (.ref l) (upd H l (.tup ys))) ∨ (SqT K H p ys ∧ Q (.ref p) H))) (tCons t tNil)
    refine ⟨_, pss_cons (ps_asg (pe_tup (pa_cons (pe_listRg rfl (by rfl) T.b_list (prg_1 (by rfl) T.b_range (pe_callB call_len_seq (by rfl) T.b_len PySem.boot_len (pa_cons (pv 1) pa_nil)))) (pa_cons (pe_lst pa_nil) pa_nil))) (pg_tup rfl (pgs_cons (pg_name (i := 2) nd rfl (Or.inl rfl)) (pgs_cons (pg_name (i := 3) nd rfl (Or.inr rfl)) pgs_nil))))
      (pss_cons (ps_while PassesOwn.never (pt_cmpR (op_neD hr.units) (pv 2) (pe_lst pa_nil) (nomark _))
        (pss_one (ps_expr (pe_bm PySem.F.plainAttrs_list PySem.F.slot_list_append PySem.F.type_list_append mt_append (pv 3) (pa_cons (pe_bm PySem.F.plainAttrs_list PySem.F.slot_list_pop PySem.F.type_list_pop mt_popAt (pv 2) (pa_cons (pe_has (ok_taken T) hr (pa_cons (pv 0) (pa_cons (pe_callB call_len_seq (by rfl) T.b_len PySem.boot_len (pa_cons (pv 2) pa_nil)) pa_nil))) pa_nil)) pa_nil)))))
      (pss_one (ps_ret (pe_callTy call_tuple_of (by rfl) T.b_tuple (by decide +kernel) (pa_cons (pe_lc (own := [("_law_one", 4)]) (g := gName 4) (tt := tYes) (te := tTu (tLc (iList K (tVar 3)) (gName 5) tYes teIn [5])) rfl nd (pi_list (pv 3)) (blkOk_by (N := ["_law_row", "_law_pushes", "_law_left", "_law_order", "_law_one", "_law_other"]) (sc := defScope s_law_mixed) (by decide +kernel))
        (fun _ _ _ _ _ => pg_name (i := 4) nd rfl (Or.inr rfl)) (fun _ _ _ _ _ => pts_nil)
        (fun _ _ _ _ _ => pe_callTy call_tuple_of (by rfl) T.b_tuple (by decide +kernel) (pa_cons (pe_lc (own := [("_law_other", 5)]) (g := gName 5) (tt := tYes) (te := teIn) rfl nd (pi_list (pv 3)) (blkOk_by (N := ["_law_row", "_law_pushes", "_law_left", "_law_order", "_law_one", "_law_other"]) (sc := scMix) (by decide +kernel))
          (fun _ _ _ _ _ => pg_name (i := 5) nd rfl (Or.inl rfl)) (fun _ _ _ _ _ => pts_nil) (fun _ _ _ _ _ => pe_ix ix_list (pe_ix ix_list (pv 1) (pv 4) (fun _ _ => rfl)) (pv 5) (fun _ _ => rfl))) pa_nil))) pa_nil))))), ?_⟩
    have sz : ∀ {m : Nat}, m ≤ 10000 → m ≤ sizeLine := fun h => Nat.le_of_lt (sz8 (by omega))
    have pr : p ≠ r := R.n1 hp
    obtain ⟨c1, c2, c3, hrow, _⟩ := id R.row
    refine ⟨_, rfl, p, _, rfl, .inl (SqL.of hp), _, rfl, RgOk.of_le (by decide) (by rw [List.length_map]; omega) (by decide) (by omega), fun L hL => ⟨Nat.zero_le _, fun O hO => ⟨by show 2 ≤ sizeLine; decide, fun t ht => ?_⟩⟩⟩
    have a1 := snew (o := .lst (rgV 0 ((rs.map V.ref).length : Nat))) hL
    have a2 := snew (o := .lst []) hO
    have a3 := snew (o := .tup [.ref L, .ref O]) ht
    have hO0 : H O = none := none_back a1 hO
    have LO : L ≠ O := ne_of_none (upd_same (H := H) (a := L) (o := .lst (rgV 0 ((rs.map V.ref).length : Nat)))) hO
    have Lr : L ≠ r := fun z => by rw [z, hrow] at hL; cases hL
    have Or' : O ≠ r := fun z => by rw [z, hrow] at hO0; cases hO0
    have rg : rgV 0 ((rs.map V.ref).length : Nat) = natV (List.range n) := by
      unfold rgV
      rw [List.length_map, hl]
      have e : ((n : Int) - 0).toNat = n := by omega
      rw [e]
      exact List.map_congr_left fun i _ => by rw [Int.zero_add]
    refine ⟨t, _, rfl, sqT upd_same, rfl, _, _, rfl, _, _, rfl, rfl, ?_⟩
    refine ⟨fun k σ H' => ∃ left ord : List Nat, k = left.length ∧ σ = [some (.ref r), some (.ref p), some (.ref L), some (.ref O), none, none] ∧ RO K r scr sc H H' ∧ H' L = some (.lst (natV left)) ∧ H' O = some (.lst (natV ord)) ∧ left.length + ord.length = n ∧ (∀ a ∈ left, a < n) ∧ ∀ a ∈ ord, a < n,
      ⟨_, List.range n, [], rfl, rfl, R.same (a1.trans (a2.trans a3)), by rw [← rg]; exact (a2.trans a3) _ _ upd_same, a3 _ _ upd_same, by rw [List.length_range]; rfl, fun a ha => List.mem_range.mp ha, fun a ha => by cases ha⟩, ?_⟩
    rintro k σ H1 ⟨left, ord, rfl, rfl, R1, hL1, hO1, hlen, hle, hoe⟩
    refine ⟨_, rfl, Nat.zero_le _, fun q0 hq0 => ?_⟩
    have b1 := snew (o := .lst []) hq0
    refine ⟨_, _, .lst (SqL.of (b1 _ _ hL1)) dp_nats, .lst (SqL.of upd_same) .nil, nats_shaped _, rfl, ?_⟩
    rw [nats_eqv]
    refine ⟨_, rfl, ?_⟩
    cases left with
    | cons a l =>
      have R2 := R1.same b1
      refine iteT ⟨fun σ' H' => ∃ left ord : List Nat, l.length = left.length ∧ σ' = [some (.ref r), some (.ref p), some (.ref L), some (.ref O), none, none] ∧ RO K r scr sc H H' ∧ H' L = some (.lst (natV left)) ∧ H' O = some (.lst (natV ord)) ∧ left.length + ord.length = n ∧ (∀ a ∈ left, a < n) ∧ ∀ a ∈ ord, a < n, fun σ' H' p => ⟨l.length, Nat.lt_succ_self _, p⟩, ?_⟩
      refine ⟨_, rfl, .inl ⟨rfl, _, SqL.of (b1 _ _ hO1)⟩, _, rfl, .inl ⟨rfl, _, SqL.of (b1 _ _ hL1)⟩, _, rfl, _, rfl, L, _, rfl, .inl (SqL.of (b1 _ _ hL1)), r, scr, sc, _, rfl, R2.here, ?_, ?_, fun z H3 hz R3 => ?_⟩
      · rw [List.length_map, List.length_cons]; omega
      · rw [List.length_map, List.length_cons]
        have : (a :: l).length + ord.length = n := hlen
        rw [List.length_cons] at this
        omega
      rw [List.length_map] at hz
      have hz' : z < (a :: l).length := by omega
      obtain ⟨y, hy⟩ : ∃ y, (a :: l)[z]? = some y := ⟨_, List.getElem?_eq_getElem hz'⟩
      have hL3 := R3.at Lr (b1 _ _ hL1)
      have hO3 := R3.at Or' (b1 _ _ hO1)
      refine ⟨L, _, _, z, .int y, rfl, rfl, hL3, by omega, by omega, ?_, by rw [List.getElem?_map, hy]; rfl, ?_⟩
      · exact (seqIndex_of (by omega) (by rw [List.length_map]; omega)).trans (by rw [Int.toNat_natCast])
      have hO4 : (upd H3 L (.lst ((natV (a :: l)).eraseIdx z))) O = some (.lst (natV ord)) := by rw [upd_ne LO.symm]; exact hO3
      refine ⟨O, _, _, rfl, rfl, hO4, sz8 (by rw [List.length_map]; omega), (a :: l).eraseIdx z, ord ++ [y], ?_, rfl, ((R2.then R3).put hL).put hO0, ?_, by rw [upd_same]; show _ = some (HO.lst ((ord ++ [y]).map _)); rw [List.map_append]; rfl, ?_, ?_, ?_⟩
      · rw [List.length_eraseIdx, if_pos hz']; rfl
      · rw [upd_ne LO, upd_same, map_erase]
      · rw [List.length_eraseIdx, if_pos hz', List.length_append, List.length_singleton]
        rw [List.length_cons] at hlen ⊢
        omega
      · exact fun b hb => hle b (List.mem_of_mem_eraseIdx hb)
      · intro b hb
        rcases List.mem_append.mp hb with hb | hb
        · exact hoe b hb
        · rw [List.mem_singleton.mp hb]
          exact hle y (List.mem_of_getElem? hy)
    | nil =>
      have hol : ord.length = n := by simpa using hlen
      have R2 := R1.same b1
      have hO2 := b1 _ _ hO1
      refine iteF ?_
      refine ⟨_, rfl, O, rfl, ⟨_, SqL.of hO2⟩, fun D hD => ?_⟩
      have hD0 : H D = none := R2.free hD
      have DO : O ≠ D := ne_of_none hO2 hD
      refine lc_list (K := K) (a := O) (xs := natV ord) (fun i H' => ∃ ts : List V, RO K r scr sc H H' ∧ H' D = some (.lst ts) ∧ Paired (IT H') ts ((pick2 m ord).take i) ∧ H' O = some (.lst (natV ord)))
        ⟨[], R2.put hD0, upd_same, .nil, by rw [upd_ne DO]; exact hO2⟩ (fun i H' _ ⟨_, _, _, _, h⟩ => SqL.of h) (fun i y H' hy pz => ?_) (fun H' pz => ?_)
      · obtain ⟨ts, R', hDt, hP, hOt⟩ := pz
        rw [List.getElem?_map] at hy
        obtain ⟨a, ha, rfl⟩ := Option.map_eq_some_iff.mp hy
        have han : a < n := hoe a (List.mem_of_getElem? ha)
        obtain ⟨ra, hra⟩ : ∃ ra, rs[a]? = some ra := ⟨_, List.getElem?_eq_getElem (by rw [hl]; exact han)⟩
        refine ⟨rfl, lcY ?_⟩
        refine ⟨_, rfl, O, rfl, ⟨_, SqL.of hOt⟩, fun D2 hD2 => ?_⟩
        have hD20 : H D2 = none := R'.free hD2
        refine lc_list (K := K) (a := O) (xs := natV ord) (fun j H2 => Same H' H2 ∧ H2 D2 = some (.lst ((ord.take j).map fun b => iv (m a b))))
          ⟨snew hD2, upd_same⟩ (fun j H2 _ h => SqL.of (h.1 _ _ hOt)) (fun j y H2 hy pz => ?_) (fun H2 pz => ?_)
        · rw [List.getElem?_map] at hy
          obtain ⟨b, hb, rfl⟩ := Option.map_eq_some_iff.mp hy
          have hbn : b < n := hoe b (List.mem_of_getElem? hb)
          have R2 := R'.same pz.1
          refine ⟨rfl, lcY ⟨_, rfl, _, rfl, p, _, _, .ref ra, rfl, rfl, SqL.of (R2.at pr hp), atI_nat (j := a) (by rw [List.getElem?_map, hra]; rfl), _, rfl, ra, _, _, .int (m a b), rfl, rfl, SqL.of (R2.at (R.n2 (hrs a ra hra)) (hrs a ra hra)), atI_nat (j := b) (rowV_at hbn), _, pz.2, sz8 (by rw [List.length_map, List.length_take]; omega), sput pz.1 hD2, ?_⟩⟩
          rw [upd_same, take_step hb, List.map_append]
          rfl
        · rw [List.length_map, List.take_length] at pz
          refine ⟨D2, _, rfl, .inl ⟨SqL.of pz.2, fun l hl' => ?_⟩⟩
          have g1 := pz.1.trans (snew (o := .tup (ord.map fun b => iv (m a b))) hl')
          have hDl := g1 _ _ hDt
          have kk := kpl (o := .lst (ts ++ [.ref l])) hDl
          have lts : ts.length ≤ 100 := by rw [Paired.length hP, List.length_take]; unfold pick2; rw [List.length_map]; omega
          refine ⟨_, hDl, sz8 (by omega), ts ++ [.ref l], (R'.same g1).put hD0, upd_same, ?_, by rw [upd_ne DO]; exact g1 _ _ hOt⟩
          have hst : (pick2 m ord)[i]? = some (ord.map fun b => m a b) := by unfold pick2; rw [List.getElem?_map, ha]; rfl
          rw [take_step hst]
          refine pair_app (L2.Paired.mapP hP fun _ _ q => (q.same g1).kp kk) ⟨l, rfl, ?_⟩
          have nl : l ≠ D := (ne_of_none (pz.1 _ _ hDt) hl').symm
          rw [upd_ne nl, upd_same, List.map_map]
          rfl
      · obtain ⟨ts, R', hDt, hP, hOt⟩ := pz
        rw [List.length_map] at hP
        have hfull : (pick2 m ord).take ord.length = pick2 m ord := List.take_of_length_le (by unfold pick2; rw [List.length_map]; exact Nat.le_refl _)
        rw [hfull] at hP
        refine ⟨D, _, rfl, .inl ⟨SqL.of hDt, fun l hl' => ?_⟩⟩
        exact q _ ord _ (R'.new hl') hol hoe ⟨l, ts, rfl, upd_same, L2.Paired.mapP hP fun _ _ q => q.same (snew hl')⟩
end
end KX
end

section
set_option Elab.async false
set_option linter.all false
set_option maxRecDepth 100000
set_option maxHeartbeats 4000000
namespace KX
open PySem PySem.Spec PyProof.Rows L2 KR KM
open He (ga ma)
theorem Off.free {F : Addr} {B H : Hp} {a : Addr} {o : HO} (h : Off F B H) (hF : H F = some o) (ha : H a = none) : B a = none := by
  cases q : B a with
  | none => rfl
  | some u =>
    by_cases z : a = F
    · rw [z, hF] at ha; cases ha
    · have := h _ _ z q; rw [ha] at this; cases this
theorem Off.put {F : Addr} {B H : Hp} {a : Addr} {o : HO} (h : Off F B H) (ha : B a = none) : Off F B (upd H a o) := fun b u n q => by
  by_cases z : b = a
  · subst z; rw [ha] at q; cases q
  · rw [upd_ne z]; exact h b u n q
theorem Off.at {F : Addr} {B H : Hp} {o : HO} (h : Off F B H) : Off F B (upd H F o) := fun b u n q => by rw [upd_ne n]; exact h b u n q
/-- a good list of rows that stays while F changes -/
def FlV (F : Addr) (H : Hp) (v : V) : Prop := ∀ H', Off F H H' → ∃ n m, MatR H' v n m ∧ GoodM n m ∧ 1 ≤ n ∧ n ≤ 3
theorem FlV.off {F : Addr} {H H' : Hp} {v : V} (h : FlV F H v) (e : Off F H H') : FlV F H' v := fun H2 e2 => h H2 (e.trans e2)
theorem FlV.of {F p : Addr} {H : Hp} {rs : List Addr} {n : Nat} {m : Mat} (top : H p = some (.lst (rs.map V.ref))) (hl : rs.length = n) (row : ∀ i a, rs[i]? = some a → H a = some (.lst (rowV n m i))) (np : p ≠ F) (nr : ∀ a ∈ rs, a ≠ F) (g : GoodM n m) (h1 : 1 ≤ n) (h3 : n ≤ 3) : FlV F H (.ref p) := fun H' e =>
  ⟨n, m, ⟨p, rs, rfl, e _ _ np top, hl, fun i a q => e _ _ (nr a (List.mem_of_getElem? q)) (row i a q)⟩, g, h1, h3⟩
def m2 (a b c d : Int) : Mat := fun i j => if i = 0 then (if j = 0 then a else b) else (if j = 0 then c else d)
def m3 : Mat := fun i j => if i = 0 then (if j = 1 then 1 else 0) else if i = 1 then (if j = 0 then 1 else if j = 2 then 3 else 0) else (if j = 1 then 1 else 0)
theorem m2_good {b c : Int} (hb : 1 ≤ b ∧ b ≤ 4) (hc : 1 ≤ c ∧ c ≤ 4) : GoodM 2 (m2 0 b c 0) := by
  refine ⟨fun i j hi hj => ?_, fun i hi => ?_, fun i j hi hj => ?_⟩
  all_goals
    unfold m2
    have hi' : i = 0 ∨ i = 1 := by omega
    rcases hi' with rfl | rfl
    all_goals first
      | (have hj' : j = 0 ∨ j = 1 := by omega
         rcases hj' with rfl | rfl <;> simp <;> omega)
      | simp
theorem m3_good : GoodM 3 m3 := by
  have hh : ∀ i, i < 3 → i = 0 ∨ i = 1 ∨ i = 2 := fun i h => by omega
  refine ⟨fun i j hi hj => ?_, fun i hi => ?_, fun i j hi hj => ?_⟩
  · rcases hh i hi with rfl | rfl | rfl <;> rcases hh j hj with rfl | rfl | rfl <;> decide
  · rcases hh i hi with rfl | rfl | rfl <;> rfl
  · rcases hh i hi with rfl | rfl | rfl <;> rcases hh j hj with rfl | rfl | rfl <;> decide
/-- a display of two rows -/
def tM2 (a b c d : Int) : TE := fun σ H Q => ∀ p r1 r2 H', Same H H' → H p = none → H r1 = none → H r2 = none → H' p = some (.lst [.ref r1, .ref r2]) → H' r1 = some (.lst [.int a, .int b]) → H' r2 = some (.lst [.int c, .int d]) → Q (.ref p) H'
abbrev tR (xs : List Int) : TE := tLst (xs.foldr (fun i t => tCons (tC (.int i)) t) tNil)
theorem k_m2 {a b c d : Int} : ∀ (σ : L2.St) (H : Hp) (Q : VK), tM2 a b c d σ H Q → tLst (tCons (tR [a, b]) (tCons (tR [c, d]) tNil)) σ H Q := by
  intro σ H Q q
  have z2 : (2 : Nat) ≤ sizeLine := by decide
  refine ⟨z2, fun r1 h1 => ⟨z2, fun r2 h2 => ⟨z2, fun p hp => ?_⟩⟩⟩
  have e1 := snew (o := .lst [.int a, .int b]) h1
  have e2 := snew (o := .lst [.int c, .int d]) h2
  have e3 := snew (o := .lst [.ref r1, .ref r2]) hp
  exact q p r1 r2 _ (e1.trans (e2.trans e3)) (none_back (e1.trans e2) hp) h1 (none_back e1 h2) upd_same ((e2.trans e3) _ _ upd_same) (e3 _ _ upd_same)
theorem m2_row {H : Hp} {r1 r2 : Addr} {b c : Int} (h1 : H r1 = some (.lst [.int 0, .int b])) (h2 : H r2 = some (.lst [.int c, .int 0])) : ∀ i a, [r1, r2][i]? = some a → H a = some (.lst (rowV 2 (m2 0 b c 0) i)) := fun i a q => by
  match i, q with
  | 0, q => have : r1 = a := Option.some.inj q; subst this; exact h1
  | 1, q => have : r2 = a := Option.some.inj q; subst this; exact h2
  | i + 2, q => simp at q
structure FS (H : Hp) (F : Addr) (H' : Hp) (xs : List V) (k : Nat) : Prop where
  same : Same H H'
  top : H' F = some (.lst xs)
  pos : 0 < xs.length
  len : xs.length ≤ k
  all : ∀ v ∈ xs, FlV F H' v
theorem FS.go {H B B' : Hp} {F : Addr} {xs : List V} {k : Nat} (h : FS H F B xs k) (e : Same B B') : FS H F B' xs k := ⟨h.same.trans e, e _ _ h.top, h.pos, h.len, fun v hv => (h.all v hv).off (Same.off e)⟩
theorem FS.add {H B Hx : Hp} {F p : Addr} {xs : List V} {k : Nat} {rs : List Addr} {n : Nat} {m : Mat} (h : FS H F B xs k) (hF : H F = none) (e : Same B Hx) (top : Hx p = some (.lst (rs.map V.ref))) (hl : rs.length = n) (row : ∀ i a, rs[i]? = some a → Hx a = some (.lst (rowV n m i))) (np : B p = none) (nr : ∀ a ∈ rs, B a = none) (g : GoodM n m) (h1 : 1 ≤ n) (h3 : n ≤ 3) :
    FS H F (upd Hx F (.lst (xs ++ [.ref p]))) (xs ++ [.ref p]) (k + 1) := by
  have h' := h.go e
  have o : Off F Hx (upd Hx F (.lst (xs ++ [.ref p]))) := (Off.refl F Hx).at
  refine ⟨sput h'.same hF, upd_same, by rw [List.length_append]; have := h.pos; omega, by rw [List.length_append]; have := h.len; simp; omega, fun v hv => ?_⟩
  rcases List.mem_append.mp hv with q | q
  · exact (h'.all v q).off o
  · have : v = .ref p := by simpa using q
    subst this
    exact (FlV.of top hl row (ne_of_none h.top np).symm (fun a ha => (ne_of_none h.top (nr a ha)).symm) g h1 h3).off o
section
variable {P : Program} {w : World} {K : PySem.W.Frag} {mg : Str → Option Value} {base : Heap}
def sp_flats : Sp := fun vs H Q _ => vs = [.int 3] ∧ ∀ p xs H', Same H H' → H p = none → H' p = some (.lst xs) → 0 < xs.length → xs.length ≤ 1000 → (∀ v ∈ xs, FlV p H' v) → Q (.ref p) H'
theorem sc_flats : FnScope ["_law_most", "_law_found", "_law_many", "_law_ring", "_law_one", "_law_other", "_law_chain", "_law_six"] ["_law_most"] (defScope s_law_flats) := ⟨rfl, rfl, rfl, by decide +kernel, rfl, by decide +kernel, by decide +kernel⟩
theorem ok_flats (T : Tx K mg) : Has P w K mg base 2 "_law_flats" ["_law_most"] sp_flats := by
  refine has_of T.d_law_flats T.g_law_flats sc_flats (fun vs H Q E h => ?_) (fun cdv A outer s H vs Q E hr h => ?_)
  · obtain ⟨rfl, _⟩ := h
    rfl
  · obtain ⟨rfl, q⟩ := h
    have nd := sc_flats.nd
    refine ⟨_, pss_cons (ps_set (i := 1) nd rfl (Or.inl rfl) (pe_lst (pa_cons
          (pe_weak (pe_lst (pa_cons (pe_lst (pa_cons pe_int (pa_cons pe_int pa_nil))) (pa_cons (pe_lst (pa_cons pe_int (pa_cons pe_int pa_nil))) pa_nil))) (k_m2 (a := 0) (b := 2) (c := 2) (d := 0))) (pa_cons
          (pe_weak (pe_lst (pa_cons (pe_lst (pa_cons pe_int (pa_cons pe_int pa_nil))) (pa_cons (pe_lst (pa_cons pe_int (pa_cons pe_int pa_nil))) pa_nil))) (k_m2 (a := 0) (b := 4) (c := 1) (d := 0))) (pa_cons
          (pe_weak (pe_lst (pa_cons (pe_lst (pa_cons pe_int (pa_cons pe_int pa_nil))) (pa_cons (pe_lst (pa_cons pe_int (pa_cons pe_int pa_nil))) pa_nil))) (k_m2 (a := 0) (b := 1) (c := 4) (d := 0))) pa_nil)))))
      (pss_cons (ps_for PassesOwn.never rfl (pi_range2 (by rfl) T.b_range (pa_cons pe_int (pa_cons (pe_op op_add (pv 0) pe_int) pa_nil))) (pg_name (i := 2) nd rfl (Or.inl rfl))
        (pss_cons (ps_set (i := 3) nd rfl (Or.inl rfl) (pe_has (ok_named T) hr (pa_cons pe_str (pa_cons (pv 2) pa_nil))))
        (pss_cons (ps_asg (pe_tup (pa_cons pe_int (pa_cons pe_int pa_nil))) (pg_tup rfl (pgs_cons (pg_sub (pe_ix ix_list (pv 3) pe_int (fun _ _ => rfl)) (pe_op op_sub (pv 2) pe_int) set_list) (pgs_cons (pg_sub (pe_ix ix_list (pv 3) (pe_op op_sub (pv 2) pe_int) (fun _ _ => rfl)) pe_int set_list) pgs_nil))))
        (pss_cons (ps_expr (pe_bm PySem.F.plainAttrs_list PySem.F.slot_list_append PySem.F.type_list_append mt_append (pv 1) (pa_cons (pv 3) pa_nil)))
        (pss_cons (ps_for PassesOwn.never rfl (pi_list (pe_lst (pa_cons (pe_tup (pa_cons pe_int (pa_cons pe_int pa_nil))) (pa_cons (pe_tup (pa_cons pe_int (pa_cons pe_int pa_nil))) (pa_cons (pe_tup (pa_cons pe_int (pa_cons pe_int pa_nil))) (pa_cons (pe_tup (pa_cons pe_int (pa_cons pe_int pa_nil))) pa_nil)))))) (pg_tup rfl (pgs_cons (pg_name (i := 4) nd rfl (Or.inl rfl)) (pgs_cons (pg_name (i := 5) nd rfl (Or.inl rfl)) pgs_nil)))
          (pss_cons (ps_set (i := 6) nd rfl (Or.inl rfl) (pe_has (ok_named T) hr (pa_cons pe_str (pa_cons (pv 2) pa_nil))))
          (pss_cons (ps_asg (pe_tup (pa_cons (pv 4) (pa_cons (pe_op op_sub pe_int (pv 4)) pa_nil))) (pg_tup rfl (pgs_cons (pg_sub (pe_ix ix_list (pv 6) pe_int (fun _ _ => rfl)) pe_int set_list) (pgs_cons (pg_sub (pe_ix ix_list (pv 6) pe_int (fun _ _ => rfl)) pe_int set_list) pgs_nil))))
          (pss_cons (ps_asg (pe_tup (pa_cons (pv 5) (pa_cons (pe_op op_sub pe_int (pv 5)) pa_nil))) (pg_tup rfl (pgs_cons (pg_sub (pe_ix ix_list (pv 6) (pe_op op_sub (pv 2) pe_int) (fun _ _ => rfl)) (pe_op op_sub (pv 2) pe_int) set_list) (pgs_cons (pg_sub (pe_ix ix_list (pv 6) (pe_op op_sub (pv 2) pe_int) (fun _ _ => rfl)) (pe_op op_sub (pv 2) pe_int) set_list) pgs_nil))))
          (pss_one (ps_expr (pe_bm PySem.F.plainAttrs_list PySem.F.slot_list_append PySem.F.type_list_append mt_append (pv 1) (pa_cons (pv 6) pa_nil))))))))
        (pss_cons (ps_if (pt_cmpR op_eq (pv 2) pe_int (nomark _))
          (pss_cons (ps_set (i := 7) nd rfl (Or.inl rfl) (pe_has (ok_named T) hr (pa_cons pe_str (pa_cons pe_int pa_nil))))
          (pss_cons (ps_expr (pe_bm PySem.F.plainAttrs_list PySem.F.slot_list_append PySem.F.type_list_append mt_append (pv 1) (pa_cons (pe_lst (pa_cons (pe_lst (pa_cons pe_int (pa_cons pe_int (pa_cons pe_int pa_nil)))) (pa_cons (pe_lst (pa_cons pe_int (pa_cons pe_int (pa_cons pe_int pa_nil)))) (pa_cons (pe_lst (pa_cons pe_int (pa_cons pe_int (pa_cons pe_int pa_nil)))) pa_nil)))) pa_nil)))
          (pss_cons (ps_asg pe_int (pg_sub (pe_ix ix_list (pv 7) pe_int (fun _ _ => rfl)) pe_int set_list))
          (pss_one (ps_expr (pe_bm PySem.F.plainAttrs_list PySem.F.slot_list_append PySem.F.type_list_append mt_append (pv 1) (pa_cons (pv 7) pa_nil))))))) pss_nil)
        (pss_one (ps_if (pt_cmpR op_eq (pv 2) pe_int (nomark _)) (pss_one ps_never) pss_nil))))))))
      (pss_one (ps_ret (pv 1)))), ?_⟩
    have z2 : (2 : Nat) ≤ sizeLine := by decide
    have z3 : (3 : Nat) ≤ sizeLine := by decide
    refine fun p1 a1 b1 H1 e1 n1 na1 nb1 f1 fa1 fb1 => fun p2 a2 b2 H2 e2 n2 na2 nb2 f2 fa2 fb2 => fun p3 a3 b3 H3 e3 n3 na3 nb3 f3 fa3 fb3 => ⟨z3, fun F hF => ?_⟩
    have e13 := e1.trans (e2.trans e3)
    have hF0 : H F = none := none_back e13 hF
    have eF := snew (o := .lst [.ref p1, .ref p2, .ref p3]) hF
    have two : ∀ {p a b : Addr} {x y : Int} {G : Hp}, Same G H3 → G p = some (.lst [.ref a, .ref b]) → G a = some (.lst [.int 0, .int x]) → G b = some (.lst [.int y, .int 0]) → (1 ≤ x ∧ x ≤ 4) → (1 ≤ y ∧ y ≤ 4) → FlV F (upd H3 F (.lst [.ref p1, .ref p2, .ref p3])) (.ref p) := fun {p a b x y G} e hp ha hb hx hy => by
      have hp := e _ _ hp
      have ha := e _ _ ha
      have hb := e _ _ hb
      refine FlV.of (rs := [a, b]) (n := 2) (m := m2 0 x y 0) (eF _ _ hp) rfl (m2_row (eF _ _ ha) (eF _ _ hb)) (ne_of_none hp hF) (fun c hc => ?_) (m2_good hx hy) (by decide) (by decide)
      rcases List.mem_cons.mp hc with rfl | hc
      · exact ne_of_none ha hF
      · have := List.mem_singleton.mp hc
        subst this
        exact ne_of_none hb hF
    have S0 : FS H F (upd H3 F (.lst [.ref p1, .ref p2, .ref p3])) [.ref p1, .ref p2, .ref p3] 3 := ⟨e13.trans eF, upd_same, by simp, by simp, fun v hv => by
      rcases List.mem_cons.mp hv with rfl | hv
      · exact two (e2.trans e3) f1 fa1 fb1 ⟨by decide, by decide⟩ ⟨by decide, by decide⟩
      · rcases List.mem_cons.mp hv with rfl | hv
        · exact two e3 f2 fa2 fb2 ⟨by decide, by decide⟩ ⟨by decide, by decide⟩
        · have := List.mem_singleton.mp hv
          subst this
          exact two (Same.refl _) f3 fa3 fb3 ⟨by decide, by decide⟩ ⟨by decide, by decide⟩⟩
    refine ⟨_, rfl, _, _, rfl, rfl, 3, _, rfl, ⟨by decide, by decide, by decide, by decide⟩, for_range (lo := 3) (n := ((3 : Int) + 1 - 3).toNat) (fun i σ H' => ∃ xs u2 u3 u4 u5 u6 u7, σ = [some (.int 3), some (.ref F), u2, u3, u4, u5, u6, u7] ∧ FS H F H' xs (3 + 7 * i))
      ⟨_, none, none, none, none, none, none, rfl, S0⟩ ?_ ?_⟩
    · rintro i σ B hi ⟨xs, u2, u3, u4, u5, u6, u7, rfl, S⟩
      have i0 : i = 0 := by omega
      subst i0
      have e30 : (3 : Int) + ((0 : Nat) : Int) = 3 := rfl
      rw [e30]
      -- the ring
      refine ⟨_, rfl, "a", 3, rfl, .a 3, by decide, by decide, fun p4 rs4 m4 H4 e4 n4 nr4 ML4 g4 ad4 => ?_⟩
      obtain ⟨x0, hx0⟩ : ∃ a, rs4[0]? = some a := ⟨_, List.getElem?_eq_getElem (by rw [ML4.len]; decide)⟩
      obtain ⟨x2, hx2⟩ : ∃ a, rs4[2]? = some a := ⟨_, List.getElem?_eq_getElem (by rw [ML4.len]; decide)⟩
      have mp : ∀ {rs : List Addr} {i : Nat} {a : Addr}, rs[i]? = some a → (rs.map V.ref)[i]? = some (.ref a) := fun h => by rw [List.getElem?_map, h]; rfl
      refine ⟨z2, fun t4 ht4 => ⟨t4, _, rfl, sqT upd_same, rfl, _, _, rfl, ?_⟩⟩
      have ML5 := ML4.same (snew (o := .tup [.int 1, .int 1]) ht4)
      refine ⟨_, rfl, p4, _, _, .ref x0, rfl, rfl, SqL.of ML5.top, atI_nat (j := 0) (mp hx0), _, rfl, _, _, rfl, rfl, x0, _, _, 2, rfl, rfl, ML5.row _ _ hx0, at_ix (i := 2) rfl (by rw [rowV_len]; decide), ?_⟩
      have ML6 := ML5.set (v := 1) hx0 (show 2 < 3 by decide)
      refine ⟨_, _, rfl, _, rfl, _, rfl, _, _, rfl, rfl, p4, _, _, .ref x2, rfl, rfl, SqL.of ML6.top, at_of (j := 2) rfl (mp hx2), x2, _, _, 0, rfl, rfl, ML6.row _ _ hx2, at_ix (i := 0) rfl (by rw [rowV_len]; decide), rfl, ?_⟩
      have ML7 := ML6.set (v := 1) hx2 (show 0 < 3 by decide)
      have g7 := g4.both (i := 0) (j := 2) (v := 1) (w := 1) (by decide) ⟨by decide, by decide⟩ ⟨by decide, by decide⟩
      have e7 := sput (o := .lst ((rowV 3 (setm m4 0 2 1) 2).set 0 (.int 1))) (sput (o := .lst ((rowV 3 m4 0).set 2 (.int 1))) (e4.trans (snew (o := .tup [.int 1, .int 1]) ht4)) (nr4 _ (List.mem_of_getElem? hx0))) (nr4 _ (List.mem_of_getElem? hx2))
      have S7 := S.go e7
      refine ⟨_, rfl, .inl ⟨rfl, _, SqL.of S7.top⟩, _, rfl, F, _, _, rfl, rfl, S7.top, sz8 (by have := S.len; omega), ?_⟩
      have S8 := S.add hF0 e7 ML7.top ML7.len ML7.row n4 nr4 g7 (by decide) (by decide)
      -- the chains
      revert S8
      generalize upd _ F _ = B2
      intro S8
      generalize xs ++ [V.ref p4] = xs8 at S8
      refine ⟨z2, fun t1 ht1 => ⟨z2, fun t2 ht2 => ⟨z2, fun t3 ht3 => ⟨z2, fun t5 ht5 => ⟨by show 4 ≤ sizeLine; decide, fun lp hlp => ?_⟩⟩⟩⟩⟩
      have c1 := snew (o := .tup [.int 2, .int 1]) ht1
      have c2 := snew (o := .tup [.int 1, .int 2]) ht2
      have c3 := snew (o := .tup [.int 1, .int 1]) ht3
      have c4 := snew (o := .tup [.int 2, .int 2]) ht5
      have c5 := snew (o := .lst [.ref t1, .ref t2, .ref t3, .ref t5]) hlp
      have S9 := S8.go (c1.trans (c2.trans (c3.trans (c4.trans c5))))
      have lF : lp ≠ F := (ne_of_none ((c1.trans (c2.trans (c3.trans c4))) _ _ S8.top) hlp).symm
      have q0 := upd_same (H := upd (upd (upd (upd B2 t1 (.tup [.int 2, .int 1])) t2 (.tup [.int 1, .int 2])) t3 (.tup [.int 1, .int 1])) t5 (.tup [.int 2, .int 2])) (a := lp) (o := .lst [.ref t1, .ref t2, .ref t3, .ref t5])
      have q1 := (c2.trans (c3.trans (c4.trans c5))) _ _ upd_same
      have q2 := (c3.trans (c4.trans c5)) _ _ upd_same
      have q3 := (c4.trans c5) _ _ upd_same
      have q5 := c5 _ _ upd_same
      revert S9 q0 q1 q2 q3 q5
      generalize upd _ lp _ = Bl
      intro S9 q0 q1 q2 q3 q5
      have hx4 : ∀ (j : Nat) (x : V), [V.ref t1, .ref t2, .ref t3, .ref t5][j]? = some x → ∃ (t : Addr) (a b : Int), x = .ref t ∧ Bl t = some (.tup [.int a, .int b]) ∧ (1 ≤ a ∧ a ≤ 2) ∧ (1 ≤ b ∧ b ≤ 2) := fun j x h => by
        match j, h with
        | 0, h => exact ⟨t1, 2, 1, (Option.some.inj h).symm, q1, by decide, by decide⟩
        | 1, h => exact ⟨t2, 1, 2, (Option.some.inj h).symm, q2, by decide, by decide⟩
        | 2, h => exact ⟨t3, 1, 1, (Option.some.inj h).symm, q3, by decide, by decide⟩
        | 3, h => exact ⟨t5, 2, 2, (Option.some.inj h).symm, q5, by decide, by decide⟩
        | j + 4, h => simp at h
      refine ⟨lp, rfl, ⟨_, SqL.of q0⟩, for_list (K := K) (a := lp) (xs := [.ref t1, .ref t2, .ref t3, .ref t5]) (fun j σ H' => ∃ xs u4 u5 u6, σ = [some (.int 3), some (.ref F), some (.int 3), some (.ref p4), u4, u5, u6, u7] ∧ FS H F H' xs (3 + 7 * 0 + 1 + j) ∧ Off F Bl H')
        ⟨_, u4, u5, u6, rfl, S9, Off.refl _ _⟩ (fun j σ H' _ ⟨_, _, _, _, _, _, O⟩ => SqL.of (O _ _ lF q0)) ?_ ?_⟩
      · rintro j yv σ H5 hyj ⟨ys, v4, v5, v6, rfl, S, O⟩
        obtain ⟨t, a, b, rfl, ht, ⟨ha1, ha2⟩, ⟨hb1, hb2⟩⟩ := hx4 j yv hyj
        have htF : t ≠ F := ne_of ht S9.top (by intro z; cases z)
        refine ⟨t, _, rfl, sqT (O _ _ htF ht), rfl, _, _, rfl, _, _, rfl, rfl, ?_⟩
        refine ⟨_, rfl, "a", 3, rfl, .a 3, by decide, by decide, fun p6 rs6 m6 H6 e6 n6 nr6 ML6 g6 ad6 => ?_⟩
        obtain ⟨x0, hx0⟩ : ∃ a, rs6[0]? = some a := ⟨_, List.getElem?_eq_getElem (by rw [ML6.len]; decide)⟩
        obtain ⟨x1, hx1⟩ : ∃ a, rs6[1]? = some a := ⟨_, List.getElem?_eq_getElem (by rw [ML6.len]; decide)⟩
        obtain ⟨x2, hx2⟩ : ∃ a, rs6[2]? = some a := ⟨_, List.getElem?_eq_getElem (by rw [ML6.len]; decide)⟩
        have w0 := nr6 _ (List.mem_of_getElem? hx0)
        have w1 := nr6 _ (List.mem_of_getElem? hx1)
        have w2 := nr6 _ (List.mem_of_getElem? hx2)
        refine ⟨_, rfl, _, rfl, _, _, rfl, rfl, z2, fun t6 ht6 => ⟨t6, _, rfl, sqT upd_same, rfl, _, _, rfl, ?_⟩⟩
        have d1 := snew (o := .tup [.int a, .int (3 - a)]) ht6
        have N0 := ML6.same d1
        have E0 := e6.trans d1
        refine ⟨_, rfl, p6, _, _, .ref x0, rfl, rfl, SqL.of N0.top, atI_nat (j := 0) (mp hx0), x0, _, _, 1, rfl, rfl, N0.row _ _ hx0, at_ix (i := 1) rfl (by rw [rowV_len]; decide), ?_⟩
        have N1 := N0.set (v := a) hx0 (show 1 < 3 by decide)
        have E1 := sput (o := .lst ((rowV 3 m6 0).set 1 (.int a))) E0 w0
        refine ⟨_, _, rfl, _, rfl, p6, _, _, .ref x1, rfl, rfl, SqL.of N1.top, atI_nat (j := 1) (mp hx1), x1, _, _, 0, rfl, rfl, N1.row _ _ hx1, at_ix (i := 0) rfl (by rw [rowV_len]; decide), rfl, ?_⟩
        have N2 := N1.set (v := 3 - a) hx1 (show 0 < 3 by decide)
        have E2 := sput (o := .lst ((rowV 3 (setm m6 0 1 a) 1).set 0 (.int (3 - a)))) E1 w1
        have G2 := g6.both (i := 0) (j := 1) (v := a) (w := 3 - a) (by decide) ⟨ha1, by omega⟩ ⟨by omega, by omega⟩
        refine ⟨_, rfl, _, rfl, _, _, rfl, rfl, z2, fun t7 ht7 => ⟨t7, _, rfl, sqT upd_same, rfl, _, _, rfl, ?_⟩⟩
        have d2 := snew (o := .tup [.int b, .int (3 - b)]) ht7
        have N3 := N2.same d2
        have E3 := E2.trans d2
        refine ⟨_, rfl, _, rfl, _, _, rfl, rfl, p6, _, _, .ref x2, rfl, rfl, SqL.of N3.top, at_of (j := 2) rfl (mp hx2), _, rfl, _, _, rfl, rfl, x2, _, _, 1, rfl, rfl, N3.row _ _ hx2, at_ix (i := 1) rfl (by rw [rowV_len]; decide), ?_⟩
        have N4 := N3.set (v := b) hx2 (show 1 < 3 by decide)
        have E4 := sput (o := .lst ((rowV 3 (setm (setm m6 0 1 a) 1 0 (3 - a)) 2).set 1 (.int b))) E3 w2
        refine ⟨_, _, rfl, _, rfl, _, rfl, _, _, rfl, rfl, p6, _, _, .ref x1, rfl, rfl, SqL.of N4.top, at_of (j := 1) rfl (mp hx1), _, rfl, _, _, rfl, rfl, x1, _, _, 2, rfl, rfl, N4.row _ _ hx1, at_ix (i := 2) rfl (by rw [rowV_len]; decide), rfl, ?_⟩
        have N5 := N4.set (v := 3 - b) hx1 (show 2 < 3 by decide)
        have E5 := sput (o := .lst ((rowV 3 (setm (setm (setm m6 0 1 a) 1 0 (3 - a)) 2 1 b) 1).set 2 (.int (3 - b)))) E4 w1
        have G5 := G2.both (i := 2) (j := 1) (v := b) (w := 3 - b) (by decide) ⟨hb1, by omega⟩ ⟨by omega, by omega⟩
        have S5 := S.go E5
        refine ⟨_, rfl, .inl ⟨rfl, _, SqL.of S5.top⟩, _, rfl, F, _, _, rfl, rfl, S5.top, sz8 (by have := S.len; have := (List.getElem?_eq_some_iff.mp hyj).1; simp at this; omega), ?_⟩
        exact ⟨_, _, _, _, rfl, S.add hF0 E5 N5.top N5.len N5.row n6 nr6 G5 (by decide) (by decide), (O.trans (Same.off E5)).at⟩
      · rintro σ H5 ⟨ys, v4, v5, v6, rfl, S, O⟩
        refine ⟨_, rfl, rfl, _, rfl, ?_⟩
        rw [show decide (V.int 3 = V.int 3) = true by simp]
        refine iteT ⟨"a", 3, rfl, .a 3, by decide, by decide, fun p6 rs6 m6 H6 e6 n6 nr6 ML6 g6 ad6 => ?_⟩
        have S6 := S.go e6
        refine ⟨_, rfl, .inl ⟨rfl, _, SqL.of S6.top⟩, z3, fun r1 hr1 => ⟨z3, fun r2 hr2 => ⟨z3, fun r3 hr3 => ⟨z3, fun p8 hp8 => ?_⟩⟩⟩⟩
        have d1 := snew (o := .lst [.int 0, .int 1, .int 0]) hr1
        have d2 := snew (o := .lst [.int 1, .int 0, .int 3]) hr2
        have d3 := snew (o := .lst [.int 0, .int 1, .int 0]) hr3
        have d4 := snew (o := .lst [.ref r1, .ref r2, .ref r3]) hp8
        have d14 := d1.trans (d2.trans (d3.trans d4))
        have S7 := S6.go d14
        refine ⟨F, _, _, rfl, rfl, S7.top, sz8 (by have := S.len; simp at this; omega), ?_⟩
        have rows : ∀ (i : Nat) (a : Addr), [r1, r2, r3][i]? = some a → (upd (upd (upd (upd H6 r1 (.lst [.int 0, .int 1, .int 0])) r2 (.lst [.int 1, .int 0, .int 3])) r3 (.lst [.int 0, .int 1, .int 0])) p8 (.lst [.ref r1, .ref r2, .ref r3])) a = some (.lst (rowV 3 m3 i)) := fun i a h => by
          match i, h with
          | 0, h => have : r1 = a := Option.some.inj h; subst this; exact (d2.trans (d3.trans d4)) _ _ upd_same
          | 1, h => have : r2 = a := Option.some.inj h; subst this; exact (d3.trans d4) _ _ upd_same
          | 2, h => have : r3 = a := Option.some.inj h; subst this; exact d4 _ _ upd_same
          | i + 3, h => simp at h
        have S8 := S6.add hF0 d14 (rs := [r1, r2, r3]) (p := p8) upd_same rfl rows (none_back (d1.trans (d2.trans d3)) hp8) (fun a ha => by
          rcases List.mem_cons.mp ha with rfl | ha
          · exact hr1
          · rcases List.mem_cons.mp ha with rfl | ha
            · exact none_back d1 hr2
            · have := List.mem_singleton.mp ha
              subst this
              exact none_back (d1.trans d2) hr3) m3_good (by simp) (by simp)
        have nF : ∀ {a : Addr}, H5 a = none → a ≠ F := fun h => (ne_of_none S.top h).symm
        have M7 := ML6.same d14
        obtain ⟨x2, hx2⟩ : ∃ a, rs6[2]? = some a := ⟨_, List.getElem?_eq_getElem (by rw [ML6.len]; decide)⟩
        have N0 : MatL (upd (upd (upd (upd (upd H6 r1 (.lst [.int 0, .int 1, .int 0])) r2 (.lst [.int 1, .int 0, .int 3])) r3 (.lst [.int 0, .int 1, .int 0])) p8 (.lst [.ref r1, .ref r2, .ref r3])) F (.lst (ys ++ [.ref p8]))) p6 rs6 3 m6 :=
          ⟨by rw [upd_ne (nF n6)]; exact M7.top, M7.len, M7.nd, fun i a h => by rw [upd_ne (nF (nr6 a (List.mem_of_getElem? h)))]; exact M7.row i a h⟩
        refine ⟨_, rfl, p6, _, _, .ref x2, rfl, rfl, SqL.of N0.top, atI_nat (j := 2) (mp hx2), x2, _, _, 1, rfl, rfl, N0.row _ _ hx2, at_ix (i := 1) rfl (by rw [rowV_len]; decide), ?_⟩
        have N1 := N0.set (v := 3) hx2 (show 1 < 3 by decide)
        have G1 := g6.one (i := 2) (j := 1) (v := 3) (by decide) (by decide) (ad6 2 (by decide) (by decide)) ⟨by decide, by decide⟩
        have w2 := nr6 _ (List.mem_of_getElem? hx2)
        have h6x := ML6.row _ _ hx2
        have nx : ∀ {a : Addr} {G : Hp}, Same H6 G → G a = none → a ≠ x2 := fun e h z => by
          have := e _ _ h6x
          rw [← z, h] at this
          cases this
        have Fx : F ≠ x2 := ne_of_none S.top w2
        have lys := S.len
        have lpos := S.pos
        have OW : Off F H5 (upd (upd (upd (upd (upd (upd (upd H6 r1 (.lst [.int 0, .int 1, .int 0])) r2 (.lst [.int 1, .int 0, .int 3])) r3 (.lst [.int 0, .int 1, .int 0])) p8 (.lst [.ref r1, .ref r2, .ref r3])) F (.lst (ys ++ [.ref p8]))) x2 (.lst ((rowV 3 m6 2).set 1 (.int 3)))) F (.lst (ys ++ [.ref p8] ++ [.ref p6]))) := (((Same.off (e6.trans d14)).at).put w2).at
        refine ⟨_, rfl, .inl ⟨rfl, _, SqL.of (by rw [upd_ne Fx]; exact S8.top)⟩, _, rfl, F, _, _, rfl, rfl, (by rw [upd_ne Fx]; exact S8.top), sz8 (by rw [List.length_append]; simp at lys ⊢; omega), ?_⟩
        refine ⟨_, rfl, rfl, _, rfl, ?_⟩
        rw [show decide (V.int 3 = V.int 5) = false by simp]
        refine iteF ⟨_, _, _, _, _, _, _, rfl, sput (sput S8.same (none_back S.same w2)) hF0, upd_same, by simp, by simp at lys ⊢; omega, fun v hv => ?_⟩
        have oo : ∀ {G : Hp} {o : HO}, Off F G (upd G F o) := fun {G o} => (Off.refl F G).at
        rcases List.mem_append.mp hv with hv | hv
        · rcases List.mem_append.mp hv with hv | hv
          · exact (S.all v hv).off OW
          · have := List.mem_singleton.mp hv
            subst this
            have r1F := nF (none_back e6 hr1)
            have r2F := nF (none_back (e6.trans d1) hr2)
            have r3F := nF (none_back (e6.trans (d1.trans d2)) hr3)
            have p8F := nF (none_back (e6.trans (d1.trans (d2.trans d3))) hp8)
            have r1x := nx (Same.refl _) hr1
            have r2x := nx d1 hr2
            have r3x := nx (d1.trans d2) hr3
            have p8x := nx (d1.trans (d2.trans d3)) hp8
            refine (FlV.of (rs := [r1, r2, r3]) (n := 3) (m := m3) (by rw [upd_ne p8x, upd_ne p8F, upd_same]; rfl) rfl (fun i a h => ?_) p8F (fun a ha => ?_) m3_good (by decide) (by decide)).off oo
            · have hr := rows i a h
              match i, h with
              | 0, h => have : r1 = a := Option.some.inj h; subst this; rw [upd_ne r1x, upd_ne r1F]; exact hr
              | 1, h => have : r2 = a := Option.some.inj h; subst this; rw [upd_ne r2x, upd_ne r2F]; exact hr
              | 2, h => have : r3 = a := Option.some.inj h; subst this; rw [upd_ne r3x, upd_ne r3F]; exact hr
              | i + 3, h => simp at h
            · rcases List.mem_cons.mp ha with rfl | ha
              · exact r1F
              · rcases List.mem_cons.mp ha with rfl | ha
                · exact r2F
                · have := List.mem_singleton.mp ha
                  subst this
                  exact r3F
        · have := List.mem_singleton.mp hv
          subst this
          exact (FlV.of N1.top N1.len N1.row (nF n6) (fun a ha => nF (nr6 a ha)) G1 (by decide) (by decide)).off oo
    · rintro σ H' ⟨xs, u2, u3, u4, u5, u6, u7, rfl, S⟩
      exact ⟨_, rfl, q F xs H' S.same hF0 S.top S.pos (by have := S.len; omega) S.all⟩
end
end KX
end

section
set_option Elab.async false
set_option linter.all false
set_option maxRecDepth 100000
set_option maxHeartbeats 4000000
namespace KX
open PySem PySem.Spec PyProof.Rows L2 KR KM
open He (ga ma)
theorem good_pick {n : Nat} {m : Mat} {ord : List Nat} (g : GoodM n m) (hl : ord.length = n) (ho : ∀ a ∈ ord, a < n) (h1 : 1 ≤ n) (h3 : n ≤ 8) : GoodP (pick2 m ord) := by
  have len : (pick2 m ord).length = n := by unfold pick2; rw [List.length_map, hl]
  have at' : ∀ {i : Nat} {r : List Int}, (pick2 m ord)[i]? = some r → ∃ a, ord[i]? = some a ∧ r = ord.map fun b => m a b := fun {i r} h => by
    unfold pick2 at h
    rw [List.getElem?_map] at h
    obtain ⟨a, ha, rfl⟩ := Option.map_eq_some_iff.mp h
    exact ⟨a, ha, rfl⟩
  have at2 : ∀ {a i : Nat} {z : Int}, (ord.map fun b => m a b)[i]? = some z → ∃ b, ord[i]? = some b ∧ z = m a b := fun {a i z} h => by
    rw [List.getElem?_map] at h
    obtain ⟨b, hb, rfl⟩ := Option.map_eq_some_iff.mp h
    exact ⟨b, hb, rfl⟩
  refine ⟨by omega, by omega, fun r hr => ?_, fun r hr z hz => ?_, fun i r h => ?_, fun i j r q y z hi hy hj hz => ?_⟩
  · obtain ⟨a, _, rfl⟩ := List.mem_map.mp hr
    rw [List.length_map, len, hl]
  · obtain ⟨a, ha, rfl⟩ := List.mem_map.mp hr
    obtain ⟨b, hb, rfl⟩ := List.mem_map.mp hz
    exact g.rng a b (ho a ha) (ho b hb)
  · obtain ⟨a, ha, rfl⟩ := at' h
    rw [List.getElem?_map, ha]
    show some (m a a) = some 0
    rw [g.diag a (ho a (List.mem_of_getElem? ha))]
  · obtain ⟨a, ha, rfl⟩ := at' hi
    obtain ⟨b, hb, rfl⟩ := at' hj
    obtain ⟨b', hb', rfl⟩ := at2 hy
    obtain ⟨a', ha', rfl⟩ := at2 hz
    obtain rfl : b' = b := Option.some.inj (hb'.symm.trans hb)
    obtain rfl : a' = a := Option.some.inj (ha'.symm.trans ha)
    exact g.sym a' b' (ho _ (List.mem_of_getElem? ha)) (ho _ (List.mem_of_getElem? hb))
section
variable {P : Program} {w : World} {K : PySem.W.Frag} {mg : Str → Option Value} {base : Heap}
def sp_hall (K : PySem.W.Frag) : Sp := fun vs H Q _ => ∃ (r scr : Addr) (sc : List Int), vs = [.ref r, .int 3] ∧ RO K r scr sc H H ∧ ∀ v M H', RO K r scr sc H H' → MT H' v M → GoodP M → M.length ≤ 3 → Q v H'
theorem NmV.kp {H H' : Hp} {n : Nat} {v : V} (e : Kp H H') (h : NmV H n v) : NmV H' n v := let ⟨t, c, k, a, b, d⟩ := h; ⟨t, c, k, a, e.tup b, d⟩
theorem sc_ending : FnScope ["_law_row", "_law_most", "_law_letter", "_law_many", "_law_found", "_law_turn"] ["_law_row", "_law_most"] (defScope s_law_ending) := ⟨rfl, rfl, rfl, by decide +kernel, rfl, by decide +kernel, by decide +kernel⟩
theorem len_matR {K : PySem.W.Frag} {H : Hp} {x : V} {n : Nat} {m : Mat} (h : MatR H x n m) : ∃ p ys, [x] = [V.ref p] ∧ (SqL K H p ys ∨ SqT K H p ys) ∧ ys.length = n := by
  obtain ⟨p, rs, rfl, hp, hl, _⟩ := h
  exact ⟨p, _, rfl, .inl (SqL.of hp), by rw [List.length_map, hl]⟩
theorem ok_ending (T : Tx K mg) : Has P w K mg base 3 "_law_ending" ["_law_row", "_law_most"] (sp_hall K) := by
  refine has_of T.d_law_ending T.g_law_ending sc_ending (fun vs H Q E h => ?_) (fun cdv A outer s H vs Q E hr h => ?_)
  · obtain ⟨_, _, _, rfl, _⟩ := h
    rfl
  · obtain ⟨r, scr, sc, rfl, R, q⟩ := h
    have nd := sc_ending.nd
    refine ⟨_, pss_cons (ps_asg (pe_has (ok_pick T) hr (pa_cons (pv 0) (pa_cons (pe_has ((ok_names T).mono (by decide)) hr (pa_cons (pv 1) pa_nil)) pa_nil))) (pg_tup rfl (pgs_cons (pg_name (i := 2) nd rfl (Or.inl rfl)) (pgs_cons (pg_name (i := 3) nd rfl (Or.inl rfl)) pgs_nil))))
      (pss_cons (ps_set (i := 4) nd rfl (Or.inl rfl) (pe_has ((ok_named T).mono (by decide)) hr (pa_cons (pv 2) (pa_cons (pv 3) pa_nil))))
      (pss_cons (ps_for PassesOwn.never rfl (pi_range1 (by rfl) T.b_range (pa_cons (pe_has ((ok_taken T).mono (by decide)) hr (pa_cons (pv 0) (pa_cons pe_int pa_nil))) pa_nil)) (pg_name (i := 5) nd rfl (Or.inl rfl))
        (pss_one (ps_if (pt_cmpR op_lt (pe_callB call_len_seq (by rfl) T.b_len PySem.boot_len (pa_cons (pv 4) pa_nil)) (pv 1) (nomark _))
          (pss_cons (ps_asg (pe_has (ok_pick T) hr (pa_cons (pv 0) (pa_cons (pe_has ((ok_names T).mono (by decide)) hr (pa_cons (pe_op op_sub (pv 1) (pe_callB call_len_seq (by rfl) T.b_len PySem.boot_len (pa_cons (pv 4) pa_nil))) pa_nil)) pa_nil))) (pg_tup rfl (pgs_cons (pg_name (i := 2) nd rfl (Or.inl rfl)) (pgs_cons (pg_name (i := 3) nd rfl (Or.inl rfl)) pgs_nil))))
          (pss_one (ps_set (i := 4) nd rfl (Or.inl rfl) (pe_has ((ok_beside T).mono (by decide)) hr (pa_cons (pv 4) (pa_cons (pe_has ((ok_named T).mono (by decide)) hr (pa_cons (pv 2) (pa_cons (pv 3) pa_nil))) pa_nil)))))) pss_nil)))
      (pss_one (ps_ret (pe_has (ok_mixed T) hr (pa_cons (pv 0) (pa_cons (pv 4) pa_nil))))))), ?_⟩
    have rN : ∀ {G G' : Hp} {p : Addr}, RO K r scr sc G G' → G' p = none → p ≠ r := fun R h z => by
      obtain ⟨_, _, _, a, _⟩ := R.row
      rw [z, a] at h; cases h
    refine ⟨_, rfl, _, rfl, 3, rfl, by decide, by decide, fun p xs H1 e1 hp hx h0 hlen hN => ?_⟩
    have R1 := R.same e1
    have pr : p ≠ r := rN R hp
    refine ⟨r, scr, p, sc, xs, rfl, R1.here, hx, pr, h0, by omega, fun i x H2 hi R2 => ?_⟩
    obtain ⟨t, c, k, rfl, ht, hok, k1, k3⟩ := (hN x (List.mem_of_getElem? hi)).kp R2.kp
    have R02 := R1.then R2
    refine ⟨t, _, rfl, sqT ht, rfl, _, _, rfl, _, _, rfl, rfl, ?_⟩
    refine ⟨_, rfl, _, rfl, c, k, rfl, hok, k1, k3, fun p2 rs2 m2 H3 e3 n3 nr3 ML3 g3 _ => ?_⟩
    have R03 := R02.same e3
    refine ⟨_, rfl, r, scr, sc, 3, rfl, R03.here, by decide, by decide, fun z H4 hz R4 => ?_⟩
    have R04 := R03.then R4
    have M4 := ML3.r.ro R03.here R4
    refine ⟨z, rfl, by omega, by omega, for_range (lo := 0) (n := z) (fun i σ H' => ∃ n m x u2 u3 u5, σ = [some (.ref r), some (.int 3), u2, u3, some x, u5] ∧ RO K r scr sc H H' ∧ MatR H' x n m ∧ GoodM n m ∧ 1 ≤ n ∧ n ≤ 3)
      ⟨k, m2, _, _, _, none, rfl, R04, M4, g3, k1, k3⟩ ?_ ?_⟩
    · rintro i σ H5 hi ⟨n, m, x, u2, u3, u5, rfl, R5, M5, g5, n1, n3⟩
      obtain ⟨lp, ly, le, ls, ll⟩ := len_matR (K := K) M5
      refine ⟨_, rfl, lp, ly, le, ls, _, rfl, _, _, rfl, rfl, _, rfl, ite2 (fun c => ?_) (fun c => ?_)⟩
      · have hlt : (ly.length : Int) < 3 := of_decide_eq_true c
        refine ⟨_, rfl, _, rfl, _, rfl, lp, ly, le, ls, _, _, rfl, rfl, 3 - n, by show [V.int ((3 : Int) - (ly.length : Int))] = [V.int ((3 - n : Nat) : Int)]; rw [show (3 : Int) - (ly.length : Int) = ((3 - n : Nat) : Int) by omega], by omega, by omega, fun p xs H6 e6 hp hx h0 hlen hN => ?_⟩
        have R6 := R5.same e6
        refine ⟨r, scr, p, sc, xs, rfl, R6.here, hx, rN R5 hp, h0, by omega, fun i x2 H7 hi R7 => ?_⟩
        obtain ⟨t, c, k, rfl, ht, hok, k1, k3⟩ := (hN x2 (List.mem_of_getElem? hi)).kp R7.kp
        refine ⟨t, _, rfl, sqT ht, rfl, _, _, rfl, _, _, rfl, rfl, ?_⟩
        have M7 := (M5.same e6).ro R6.here R7
        refine ⟨_, rfl, _, rfl, _, rfl, c, k, rfl, hok, k1, by omega, fun p2 rs2 m2 H8 e8 n8 nr8 ML8 g8 _ => ?_⟩
        refine ⟨_, _, n, k, m, m2, rfl, M7.same e8, ML8.r, by omega, by omega, fun v H9 e9 M9 => ?_⟩
        exact ⟨n + k, _, v, _, _, _, rfl, ((R6.then R7).same e8).same e9, M9, g5.blk g8, by omega, by omega⟩
      · exact ⟨n, m, x, _, _, _, rfl, R5, M5, g5, n1, n3⟩
    · rintro σ H5 ⟨n, m, x, u2, u3, u5, rfl, R5, M5, g5, n1, n3⟩
      refine ⟨_, rfl, _, rfl, r, scr, sc, x, n, m, rfl, R5.here, M5, by omega, fun v ord H6 R6 hol hoe hM => ?_⟩
      exact q v _ H6 (R5.then R6) hM (good_pick g5 hol hoe n1 (by omega)) (by unfold pick2; rw [List.length_map]; omega)
theorem sc_flat : FnScope ["_law_row", "_law_most", "_law_found", "_law_letter", "_law_many"] ["_law_row", "_law_most"] (defScope s_law_flat) := ⟨rfl, rfl, rfl, by decide +kernel, rfl, by decide +kernel, by decide +kernel⟩
theorem ok_flat (T : Tx K mg) : Has P w K mg base 3 "_law_flat" ["_law_row", "_law_most"] (sp_hall K) := by
  refine has_of T.d_law_flat T.g_law_flat sc_flat (fun vs H Q E h => ?_) (fun cdv A outer s H vs Q E hr h => ?_)
  · obtain ⟨_, _, _, rfl, _⟩ := h
    rfl
  · obtain ⟨r, scr, sc, rfl, R, q⟩ := h
    have nd := sc_flat.nd
    refine ⟨_, pss_cons (ps_set (i := 2) nd rfl (Or.inl rfl) (pe_has (ok_pick T) hr (pa_cons (pv 0) (pa_cons (pe_has (ok_flats T) hr (pa_cons (pv 1) pa_nil)) pa_nil))))
      (pss_cons (ps_if (PW.pt (pw_and (pt_cmpR op_lt (pe_callB call_len_seq (by rfl) T.b_len PySem.boot_len (pa_cons (pv 2) pa_nil)) (pv 1) (nomark _)) (pw_and1 (pt_cmpR op_eq (pe_has ((ok_taken T).mono (by decide)) hr (pa_cons (pv 0) (pa_cons pe_int pa_nil))) pe_int (nomark _)))))
          (pss_cons (ps_asg (pe_has (ok_pick T) hr (pa_cons (pv 0) (pa_cons (pe_has ((ok_names T).mono (by decide)) hr (pa_cons (pe_op op_sub (pv 1) (pe_callB call_len_seq (by rfl) T.b_len PySem.boot_len (pa_cons (pv 2) pa_nil))) pa_nil)) pa_nil))) (pg_tup rfl (pgs_cons (pg_name (i := 3) nd rfl (Or.inl rfl)) (pgs_cons (pg_name (i := 4) nd rfl (Or.inl rfl)) pgs_nil))))
          (pss_one (ps_set (i := 2) nd rfl (Or.inl rfl) (pe_has ((ok_beside T).mono (by decide)) hr (pa_cons (pv 2) (pa_cons (pe_has ((ok_named T).mono (by decide)) hr (pa_cons (pv 3) (pa_cons (pv 4) pa_nil))) pa_nil)))))) pss_nil)
      (pss_one (ps_ret (pe_has (ok_mixed T) hr (pa_cons (pv 0) (pa_cons (pv 2) pa_nil)))))), ?_⟩
    have rN : ∀ {G G' : Hp} {p : Addr}, RO K r scr sc G G' → G' p = none → p ≠ r := fun R h z => by
      obtain ⟨_, _, _, a, _⟩ := R.row
      rw [z, a] at h; cases h
    have fin : ∀ {n : Nat} {m : Mat} {x : V} {H5 : Hp} {u3 u4 : Option V}, RO K r scr sc H H5 → MatR H5 x n m → GoodM n m → 1 ≤ n → n ≤ 3 → tCall (sp_mixed K) [] E0 (tCons (tVar 0) (tCons (tVar 2) tNil)) [some (.ref r), some (.int 3), some x, u3, u4] H5 Q := fun {n m x H5 u3 u4} R5 M5 g5 n1 n3 =>
      ⟨_, rfl, _, rfl, r, scr, sc, x, n, m, rfl, R5.here, M5, by omega, fun v ord H6 R6 hol hoe hM => q v _ H6 (R5.then R6) hM (good_pick g5 hol hoe n1 (by omega)) (by unfold pick2; rw [List.length_map]; omega)⟩
    refine ⟨_, rfl, _, rfl, rfl, fun p xs H1 e1 hp hx h0 hlen hF => ?_⟩
    have R1 := R.same e1
    have pr : p ≠ r := rN R hp
    refine ⟨r, scr, p, sc, xs, rfl, R1.here, hx, pr, h0, by omega, fun i x H2 hi R2 => ?_⟩
    obtain ⟨n, m, M1, g1, n1, n3⟩ := hF x (List.mem_of_getElem? hi) H1 (Off.refl _ _)
    have M2 := M1.ro R1.here R2
    have R02 := R1.then R2
    obtain ⟨lp, ly, le, ls, ll⟩ := len_matR (K := K) M2
    refine ⟨_, rfl, lp, ly, le, ls, _, rfl, _, _, rfl, rfl, _, rfl, ite2 (fun c => ?_) (fun c => ?_)⟩
    · have hlt : (ly.length : Int) < 3 := of_decide_eq_true c
      refine ⟨_, rfl, r, scr, sc, 3, rfl, R02.here, by decide, by decide, fun z H3 hz R3 => ?_⟩
      have M3 := M2.ro R02.here R3
      have R03 := R02.then R3
      obtain ⟨lp, ly, le, ls, ll⟩ := len_matR (K := K) M3
      refine ⟨rfl, _, rfl, ite2 (fun c => ?_) (fun c => ?_)⟩
      · refine ⟨_, rfl, _, rfl, _, rfl, lp, ly, le, ls, _, _, rfl, rfl, 3 - n, by show [V.int ((3 : Int) - (ly.length : Int))] = [V.int ((3 - n : Nat) : Int)]; rw [show (3 : Int) - (ly.length : Int) = ((3 - n : Nat) : Int) by omega], by omega, by omega, fun p xs H6 e6 hp hx h0 hlen hN => ?_⟩
        have R6 := R03.same e6
        refine ⟨r, scr, p, sc, xs, rfl, R6.here, hx, rN R03 hp, h0, by omega, fun i x2 H7 hi R7 => ?_⟩
        obtain ⟨t, c, k, rfl, ht, hok, k1, k3⟩ := (hN x2 (List.mem_of_getElem? hi)).kp R7.kp
        refine ⟨t, _, rfl, sqT ht, rfl, _, _, rfl, _, _, rfl, rfl, ?_⟩
        have M7 := (M3.same e6).ro R6.here R7
        refine ⟨_, rfl, _, rfl, _, rfl, c, k, rfl, hok, k1, by omega, fun p2 rs2 m2 H8 e8 n8 nr8 ML8 g8 _ => ?_⟩
        refine ⟨_, _, n, k, m, m2, rfl, M7.same e8, ML8.r, by omega, by omega, fun v H9 e9 M9 => ?_⟩
        exact fin (((R6.then R7).same e8).same e9) M9 (g1.blk g8) (by omega) (by omega)
      · exact fin R03 M3 g1 n1 n3
    · exact fin R02 M2 g1 n1 n3
end
end KX
end

section
set_option Elab.async false
set_option linter.all false
set_option maxRecDepth 100000
set_option maxHeartbeats 1000000
namespace KX
open PySem PySem.Spec PyProof.Rows L2 KR KM
open He (ga ma)
def PrV (H : Hp) (v : V) : Prop := ∃ (t : Addr) (a b : Int), v = .ref t ∧ H t = some (.tup [.int a, .int b]) ∧ (1 ≤ a ∧ a ≤ 4) ∧ (1 ≤ b ∧ b ≤ 4)
theorem PrV.kp {H H' : Hp} {v : V} (e : Kp H H') (h : PrV H v) : PrV H' v := let ⟨t, a, b, p, q, u⟩ := h; ⟨t, a, b, p, e.tup q, u⟩
/-- a list of pairs, written -/
def tPl (l : List (Int × Int)) : TA := l.foldr (fun ab r => tCons (tTup (tCons (tC (.int ab.1)) (tCons (tC (.int ab.2)) tNil))) r) tNil
theorem k_pl : ∀ (l : List (Int × Int)), (∀ ab ∈ l, (1 ≤ ab.1 ∧ ab.1 ≤ 4) ∧ (1 ≤ ab.2 ∧ ab.2 ≤ 4)) → ∀ (σ : L2.St) (H : Hp) (Q : List V → Hp → Prop), (∀ xs H', Same H H' → xs.length = l.length → (∀ v ∈ xs, PrV H' v) → Q xs H') → tPl l σ H Q
  | [], _, σ, H, Q, q => q [] H (Same.refl H) rfl fun v h => by cases h
  | ab :: l, hl, σ, H, Q, q => by
    refine ⟨by show 2 ≤ sizeLine; decide, fun t ht => ?_⟩
    have e1 := snew (o := .tup [.int ab.1, .int ab.2]) ht
    refine k_pl l (fun x hx => hl x (List.mem_cons_of_mem _ hx)) σ _ _ fun xs H' e hlen hx => ?_
    refine q _ H' (e1.trans e) (by rw [List.length_cons, List.length_cons, hlen]) fun v hv => ?_
    rcases List.mem_cons.mp hv with rfl | hv
    · exact ⟨t, ab.1, ab.2, rfl, e _ _ upd_same, hl ab List.mem_cons_self⟩
    · exact hx v hv
abbrev prL : List (Int × Int) := [(1, 1), (1, 1), (1, 1), (1, 2), (2, 1), (1, 3), (3, 1), (2, 2), (1, 4), (4, 1), (3, 2), (4, 4)]
def tPrs : TE := fun σ H Q => ∀ p xs H', Same H H' → H p = none → H' p = some (.lst xs) → xs.length = 12 → (∀ v ∈ xs, PrV H' v) → Q (.ref p) H'
theorem prL_ok : ∀ ab ∈ prL, (1 ≤ ab.1 ∧ ab.1 ≤ 4) ∧ (1 ≤ ab.2 ∧ ab.2 ≤ 4) := by decide
theorem k_prs (σ : L2.St) (H : Hp) (Q : VK) (q : tPrs σ H Q) : tLst (tPl prL) σ H Q := by
  unfold tLst
  refine k_pl prL prL_ok σ H (fun xs H1 => xs.length ≤ sizeLine ∧ ∀ p, H1 p = none → Q (.ref p) (upd H1 p (.lst xs))) fun xs H' e hl hx => ?_
  have hl : xs.length = 12 := hl
  refine ⟨Nat.le_of_lt (sz8 (by rw [hl]; decide)), fun p hp => ?_⟩
  have e1 := snew (o := .lst xs) hp
  exact q p xs _ (e.trans e1) (none_back e hp) upd_same hl fun v hv => (hx v hv).kp (kps e1)
section
variable {P : Program} {w : World} {K : PySem.W.Frag} {mg : Str → Option Value} {base : Heap}
theorem sc_any : FnScope ["_law_row", "_law_most", "_law_many", "_law_thin", "_law_found", "_law_pairs", "_law_one", "_law_other", "_law_lamp", "_law_own"] ["_law_row", "_law_most"] (defScope s_law_any) := ⟨rfl, rfl, rfl, by decide +kernel, rfl, by decide +kernel, by decide +kernel⟩
theorem ok_any (T : Tx K mg) : Has P w K mg base 3 "_law_any" ["_law_row", "_law_most"] (sp_hall K) := by
  refine has_of T.d_law_any T.g_law_any sc_any (fun vs H Q E h => ?_) (fun cdv A outer s H vs Q E hr h => ?_)
  · obtain ⟨_, _, _, rfl, _⟩ := h
    rfl
  · obtain ⟨r, scr, sc, rfl, R, q⟩ := h
    have nd := sc_any.nd
    let tTu : TE → TE := fun t => tCB (fun xs H Q => ∃ p ys, xs = [V.ref p] ∧ ((SqL K H p ys ∧ ∀ l, H l = none → Q (.ref l) (upd H l (.tup ys))) ∨ (SqT K H p ys ∧ Q (.ref p) H))) (tCons t tNil)
    have pp : ∀ {X : Cx} {e1 e2 : Expr} {pos : Pos} {k : Nat} {a b : Int}, PE X e1 (tC (.int a)) → PE X e2 (tC (.int b)) → starEach [e1, e2] X.env = (false, eval e1 X.env) :: starEach [e2] X.env → starEach [e2] X.env = (false, eval e2 X.env) :: starEach [] X.env → PE X (.Tuple [e1, e2] k pos) (tTup (tCons (tC (.int a)) (tCons (tC (.int b)) tNil))) := fun h1 h2 s1 s2 => pe_tup (pa_cons h1 (pa_cons h2 pa_nil s2) s1)
    refine ⟨_, pss_cons (ps_asg (pe_tup (pa_cons (pe_op op_add pe_int (pe_has ((ok_taken T).mono (by decide)) hr (pa_cons (pv 0) (pa_cons (pv 1) pa_nil)))) (pa_cons (pe_op op_add pe_int (pe_has ((ok_taken T).mono (by decide)) hr (pa_cons (pv 0) (pa_cons pe_int pa_nil)))) pa_nil))) (pg_tup rfl (pgs_cons (pg_name (i := 2) nd rfl (Or.inr rfl)) (pgs_cons (pg_name (i := 3) nd rfl (Or.inl rfl)) pgs_nil))))
      (pss_cons (ps_setLc (i := 4) (own := [("_law_lamp", 8)]) (g := gName 8) (tt := tYes) rfl nd rfl rfl (sw_true rfl rfl rfl (by decide +kernel)) (pi_range1 (by rfl) T.b_range (pa_cons (pv 2) pa_nil)) (blkOk_by (N := ["_law_row", "_law_most", "_law_many", "_law_thin", "_law_found", "_law_pairs", "_law_one", "_law_other", "_law_lamp", "_law_own"]) (sc := defScope s_law_any) (by decide +kernel))
        (fun _ _ _ _ _ => pg_name (i := 8) nd rfl (Or.inl rfl)) (fun _ _ _ _ _ => pts_nil) (fun _ _ _ _ _ => pe_op op_rep (pe_lst (pa_cons pe_int pa_nil)) (pv 2)))
      (pss_cons (ps_set (i := 5) nd rfl (Or.inl rfl) (pe_weak (pe_lst (pa_cons (pe_tup (pa_cons pe_int (pa_cons pe_int pa_nil))) (pa_cons (pe_tup (pa_cons pe_int (pa_cons pe_int pa_nil))) (pa_cons (pe_tup (pa_cons pe_int (pa_cons pe_int pa_nil))) (pa_cons (pe_tup (pa_cons pe_int (pa_cons pe_int pa_nil))) (pa_cons (pe_tup (pa_cons pe_int (pa_cons pe_int pa_nil))) (pa_cons (pe_tup (pa_cons pe_int (pa_cons pe_int pa_nil))) (pa_cons (pe_tup (pa_cons pe_int (pa_cons pe_int pa_nil))) (pa_cons (pe_tup (pa_cons pe_int (pa_cons pe_int pa_nil))) (pa_cons (pe_tup (pa_cons pe_int (pa_cons pe_int pa_nil))) (pa_cons (pe_tup (pa_cons pe_int (pa_cons pe_int pa_nil))) (pa_cons (pe_tup (pa_cons pe_int (pa_cons pe_int pa_nil))) (pa_cons (pe_tup (pa_cons pe_int (pa_cons pe_int pa_nil))) pa_nil))))))))))))) k_prs))
      (pss_cons (ps_for PassesOwn.never rfl (pi_range1 (by rfl) T.b_range (pa_cons (pv 2) pa_nil)) (pg_name (i := 6) nd rfl (Or.inl rfl))
        (pss_one (ps_for PassesOwn.never rfl (pi_range1 (by rfl) T.b_range (pa_cons (pv 6) pa_nil)) (pg_name (i := 7) nd rfl (Or.inl rfl))
          (pss_one (ps_if (pt_cmpR op_eq (pe_has ((ok_taken T).mono (by decide)) hr (pa_cons (pv 0) (pa_cons (pv 3) pa_nil))) pe_int (nomark _))
            (pss_one (ps_asg (pe_has (ok_pick T) hr (pa_cons (pv 0) (pa_cons (pv 5) pa_nil))) (pg_tup rfl (pgs_cons (pg_sub (pe_ix ix_list (pv 4) (pv 6) (fun _ _ => rfl)) (pv 7) set_list) (pgs_cons (pg_sub (pe_ix ix_list (pv 4) (pv 7) (fun _ _ => rfl)) (pv 6) set_list) pgs_nil))))) pss_nil)))))
      (pss_one (ps_ret (pe_callTy call_tuple_of (by rfl) T.b_tuple (by decide +kernel) (pa_cons (pe_lc (own := [("_law_own", 9)]) (g := gName 9) (tt := tYes) (te := tTu (tVar 9)) rfl nd (pi_list (pv 4)) (blkOk_by (N := ["_law_row", "_law_most", "_law_many", "_law_thin", "_law_found", "_law_pairs", "_law_one", "_law_other", "_law_lamp", "_law_own"]) (sc := defScope s_law_any) (by decide +kernel))
        (fun _ _ _ _ _ => pg_name (i := 9) nd rfl (Or.inl rfl)) (fun _ _ _ _ _ => pts_nil) (fun _ _ _ _ _ => pe_callTy call_tuple_of (by rfl) T.b_tuple (by decide +kernel) (pa_cons (pv 9) pa_nil))) pa_nil))))))), ?_⟩
    refine ⟨_, rfl, _, rfl, r, scr, sc, 3, rfl, R, by decide, by decide, fun z1 H1 hz1 R1 => ?_⟩
    refine ⟨_, _, rfl, rfl, _, rfl, r, scr, sc, 3, rfl, R1.here, by decide, by decide, fun z2 H2 hz2 R2 => ?_⟩
    have R12 := R1.then R2
    refine ⟨_, _, rfl, rfl, by show 2 ≤ sizeLine; decide, fun t ht => ⟨t, _, rfl, sqT upd_same, rfl, _, _, rfl, _, _, rfl, rfl, ?_⟩⟩
    have R3 := R12.new (o := .tup [.int (1 + z1), .int (2 + z2)]) ht
    have en : (1 : Int) + (z1 : Int) = ((z1 + 1 : Nat) : Int) := by omega
    dsimp only
    rw [en] at R3 ⊢
    generalize hn : z1 + 1 = n at R3 ⊢
    have n1 : 1 ≤ n := by omega
    have n3 : n ≤ 3 := by omega
    generalize hB0 : upd H2 t (.tup [.int ((n : Nat) : Int), .int (2 + z2)]) = B0 at R3 ⊢
    refine ⟨_, rfl, n, rfl, by omega, by omega, fun D hD => ?_⟩
    have hD0 : H D = none := R3.free hD
    refine lc_range (lo := 0) (n := n) (fun i H' => ∃ rs : List Addr, RO K r scr sc H H' ∧ H' D = some (.lst (rs.map V.ref)) ∧ rs.length = i ∧ rs.Nodup ∧ ∀ a ∈ rs, H a = none ∧ H' a = some (.lst (rowV n (fun _ _ => 0) 0))) ⟨[], R3.put hD0, upd_same, rfl, List.nodup_nil, fun _ h => by cases h⟩ (fun i H' hi p => ?_) (fun H' p => ?_)
    · obtain ⟨rs, e, hDl, hl, hnd, hrs⟩ := p
      refine ⟨rfl, lcY ⟨by show 1 ≤ sizeLine; decide, fun p1 hp1 => ⟨_, rfl, p1, _, _, rfl, rfl, upd_same, by omega, by omega, by show 1 * _ ≤ sizeLine; exact Nat.le_of_lt (sz8 (by omega)), fun p2 hp2 => ?_⟩⟩⟩
      have e1 := snew (o := .lst [.int 0]) hp1
      have e2 := snew (o := .lst ((List.replicate ((n : Nat) : Int).toNat [V.int 0]).flatten)) hp2
      have e12 := e1.trans e2
      have hDl2 := e12 _ _ hDl
      refine ⟨_, hDl2, sz8 (by rw [List.length_map]; omega), rs ++ [p2], (e.same e12).put hD0, by rw [upd_same, List.map_append]; rfl, by rw [List.length_append, hl]; rfl, ?_, fun a ha => ?_⟩
      · refine List.nodup_append.mpr ⟨hnd, by simp, fun a ha b hb z => ?_⟩
        have hb' : b = p2 := List.mem_singleton.mp hb
        subst hb'
        subst z
        have := e1 _ _ (hrs a ha).2
        rw [hp2] at this
        cases this
      · rcases List.mem_append.mp ha with ha | ha
        · have h2 := (hrs a ha).2
          have nz : a ≠ D := fun z => by
            rw [z, hDl] at h2
            have hn0 : (rowV n (fun _ _ => 0) 0)[0]? = some (V.int 0) := rowV_at (by omega)
            have e : rs.map V.ref = rowV n (fun _ _ => 0) 0 := by injection (Option.some.inj h2)
            rw [← e, List.getElem?_map] at hn0
            cases q : rs[0]? with
            | none => rw [q] at hn0; cases hn0
            | some b => rw [q] at hn0; cases hn0
          exact ⟨(hrs a ha).1, by rw [upd_ne nz]; exact e12 _ _ h2⟩
        · have ha' : a = p2 := List.mem_singleton.mp ha
          subst ha'
          have nz : a ≠ D := fun z => by
            have := e1 _ _ hDl
            rw [← z, hp2] at this
            cases this
          refine ⟨(e.same e1).free hp2, ?_⟩
          rw [upd_ne nz, upd_same, Int.toNat_natCast, rep_row n 0]
    · obtain ⟨rs, R4, hDl, hl, hnd, hrs⟩ := p
      have hnew : ∀ a ∈ rs, H a = none := fun a ha => (hrs a ha).1
      have M0 : MatL H' D rs n fun _ _ => 0 := ⟨hDl, hl, hnd, fun i a ha => (hrs a (List.mem_of_getElem? ha)).2⟩
      refine fun pl prs H5 e5 hpl0 hpl h12 hpr => ?_
      have R5 := R4.same e5
      have M5 := M0.same e5
      have plr : pl ≠ r := fun z => by
        obtain ⟨_, _, _, a, _⟩ := R4.row
        rw [z, a] at hpl0; cases hpl0
      have plrow : ∀ a ∈ rs, pl ≠ a := fun a ha => (ne_of_none (hrs a ha).2 hpl0).symm
      let Iv : Mat → Hp → Prop := fun m G => RO K r scr sc H G ∧ MatL G D rs n m ∧ GoodM n m ∧ G pl = some (.lst prs) ∧ ∀ v ∈ prs, PrV G v
      have I5 : Iv (fun _ _ => 0) H5 := ⟨R5, M5, GoodM.zero n, hpl, hpr⟩
      refine ⟨_, rfl, n, rfl, by omega, by omega, for_range (lo := 0) (n := n) (fun i σ G => ∃ m u6 u7, σ = [some (.ref r), some (.int 3), some (.int (n : Nat)), some (.int (2 + z2)), some (.ref D), some (.ref pl), u6, u7, none, none] ∧ Iv m G) ⟨_, none, none, rfl, I5⟩ ?_ ?_⟩
      · rintro i σ G hi ⟨m, u6, u7, rfl, I⟩
        rw [Int.zero_add]
        refine ⟨_, rfl, i, rfl, by omega, by omega, for_range (lo := 0) (n := i) (fun j σ G => ∃ m u7, σ = [some (.ref r), some (.int 3), some (.int (n : Nat)), some (.int (2 + z2)), some (.ref D), some (.ref pl), some (.int (i : Nat)), u7, none, none] ∧ Iv m G) ⟨_, u7, rfl, I⟩ ?_ ?_⟩
        · rintro j σ G hj ⟨m, u7, rfl, RG, MG, gG, hplG, hprG⟩
          rw [Int.zero_add]
          refine ⟨_, rfl, _, rfl, r, scr, sc, _, rfl, RG.here, by omega, by omega, fun z3 G1 hz3 R1' => ?_⟩
          have MG1 := MG.ro RG.here R1'
          have RG1 := RG.then R1'
          have hplG1 := R1'.at plr hplG
          have hprG1 : ∀ v ∈ prs, PrV G1 v := fun v hv => (hprG v hv).kp R1'.kp
          refine ⟨rfl, _, rfl, ite2 (fun c => ?_) (fun c => ?_)⟩
          · refine ⟨_, rfl, _, rfl, r, scr, pl, sc, prs, rfl, RG1.here, hplG1, plr, by omega, by omega, fun k x G2 hk R2' => ?_⟩
            have MG2 := MG1.ro RG1.here R2'
            have RG2 := RG1.then R2'
            have hplG2 := R2'.at plr hplG1
            have hprG2 : ∀ v ∈ prs, PrV G2 v := fun v hv => (hprG1 v hv).kp R2'.kp
            obtain ⟨tp, a, b, rfl, htp, ha, hb⟩ := hprG2 x (List.mem_of_getElem? hk)
            obtain ⟨ai, hai⟩ : ∃ a, rs[i]? = some a := ⟨_, List.getElem?_eq_getElem (by omega)⟩
            obtain ⟨aj, haj⟩ : ∃ a, rs[j]? = some a := ⟨_, List.getElem?_eq_getElem (by omega)⟩
            have mi : ai ∈ rs := List.mem_of_getElem? hai
            have mj : aj ∈ rs := List.mem_of_getElem? haj
            refine ⟨tp, _, rfl, sqT htp, rfl, _, _, rfl, ?_⟩
            refine ⟨_, rfl, _, rfl, D, _, _, .ref ai, rfl, rfl, SqL.of MG2.top, atI_nat (j := i) (by rw [List.getElem?_map, hai]; rfl), _, rfl, ai, _, _, j, rfl, rfl, MG2.row _ _ hai, ixN_nat (by rw [rowV_len]; omega), ?_⟩
            have MG3 := MG2.set (v := a) hai (show j < n by omega)
            have k3 := kpl (o := .lst ((rowV n m i).set j (.int a))) (MG2.row _ _ hai)
            refine ⟨_, _, rfl, _, rfl, _, rfl, D, _, _, .ref aj, rfl, rfl, SqL.of MG3.top, atI_nat (j := j) (by rw [List.getElem?_map, haj]; rfl), _, rfl, aj, _, _, i, rfl, rfl, MG3.row _ _ haj, ixN_nat (by rw [rowV_len]; omega), rfl, ?_⟩
            have MG4 := MG3.set (v := b) haj (show i < n by omega)
            have k4 := kpl (o := .lst ((rowV n (setm m i j a) j).set i (.int b))) (MG3.row _ _ haj)
            refine ⟨_, _, rfl, (RG2.put (hnew ai mi)).put (hnew aj mj), MG4, gG.both (by omega) ha hb, ?_, fun v hv => ((hprG2 v hv).kp k3).kp k4⟩
            rw [upd_ne (plrow aj mj), upd_ne (plrow ai mi)]
            exact hplG2
          · exact ⟨m, _, rfl, RG1, MG1, gG, hplG1, hprG1⟩
        · rintro σ G ⟨m, u7, rfl, I⟩
          exact ⟨m, _, _, rfl, I⟩
      · rintro σ G ⟨m, u6, u7, rfl, RG, MG, gG, hplG, hprG⟩
        have hD1 := MG.top
        refine ⟨_, rfl, D, rfl, ⟨_, SqL.of hD1⟩, fun Dt hDt => ?_⟩
        refine lc_list (K := K) (a := D) (xs := rs.map V.ref) (fun i G' => ∃ ts : List V, Same G G' ∧ G' Dt = some (.lst ts) ∧ Paired (IT G') ts ((pick2 m (List.range n)).take i)) ⟨[], snew hDt, upd_same, .nil⟩ (fun i G' _ ⟨_, e, _⟩ => SqL.of (e _ _ hD1)) (fun i y G' hy pz => ?_) (fun G' pz => ?_)
        · obtain ⟨ts, e, hDts, hP⟩ := pz
          rw [List.getElem?_map] at hy
          obtain ⟨a, ha, rfl⟩ := Option.map_eq_some_iff.mp hy
          have hin : i < n := by rw [← hl]; exact (List.getElem?_eq_some_iff.mp ha).1
          refine ⟨rfl, lcY ⟨_, rfl, a, _, rfl, .inl ⟨SqL.of (e _ _ (MG.row i a ha)), fun l hl' => ?_⟩⟩⟩
          have e1 := snew (o := .tup (rowV n m i)) hl'
          have hDt2 := e1 _ _ hDts
          have kk := kpl (o := .lst (ts ++ [.ref l])) hDt2
          have lts : ts.length ≤ 100 := by rw [Paired.length hP, List.length_take]; unfold pick2; rw [List.length_map, List.length_range]; omega
          refine ⟨_, hDt2, sz8 (by omega), ts ++ [.ref l], sput (e.trans e1) hDt, upd_same, ?_⟩
          have hst : (pick2 m (List.range n))[i]? = some ((List.range n).map fun b => m i b) := by unfold pick2; rw [List.getElem?_map, List.getElem?_range hin]; rfl
          rw [take_step hst]
          refine pair_app (L2.Paired.mapP hP fun _ _ q => (q.same e1).kp kk) ⟨l, rfl, ?_⟩
          have nl : l ≠ Dt := (ne_of_none hDts hl').symm
          rw [upd_ne nl, upd_same, List.map_map]
          rfl
        · obtain ⟨ts, e, hDts, hP⟩ := pz
          have hfull : (pick2 m (List.range n)).take (rs.map V.ref).length = pick2 m (List.range n) := List.take_of_length_le (by unfold pick2; rw [List.length_map, List.length_map, List.length_range]; omega)
          rw [hfull] at hP
          refine ⟨Dt, _, rfl, .inl ⟨SqL.of hDts, fun l hl' => ?_⟩⟩
          refine q _ (pick2 m (List.range n)) _ ((RG.same e).new hl') ⟨l, ts, rfl, upd_same, L2.Paired.mapP hP fun _ _ q => q.same (snew hl')⟩ (good_pick gG List.length_range (fun a ha => List.mem_range.mp ha) n1 (by omega)) (by unfold pick2; rw [List.length_map, List.length_range]; exact n3)
theorem sc_one_hall : FnScope ["_law_row", "_law_most", "_law_way"] ["_law_row", "_law_most"] (defScope s_law_one_hall) := ⟨rfl, rfl, rfl, by decide +kernel, rfl, by decide +kernel, by decide +kernel⟩
theorem ok_one_hall (T : Tx K mg) : Has P w K mg base 4 "_law_one_hall" ["_law_row", "_law_most"] (sp_hall K) := by
  refine has_of T.d_law_one_hall T.g_law_one_hall sc_one_hall (fun vs H Q E h => ?_) (fun cdv A outer s H vs Q E hr h => ?_)
  · obtain ⟨_, _, _, rfl, _⟩ := h
    rfl
  · obtain ⟨r, scr, sc, rfl, R, q⟩ := h
    have nd := sc_one_hall.nd
    refine ⟨_, pss_cons (ps_set (i := 2) nd rfl (Or.inl rfl) (pe_has ((ok_taken T).mono (by decide)) hr (pa_cons (pv 0) (pa_cons pe_int pa_nil))))
      (pss_cons (ps_if (pt_cmpR op_eq (pv 2) pe_int (nomark _)) (pss_one (ps_ret (pe_has (ok_any T) hr (pa_cons (pv 0) (pa_cons (pv 1) pa_nil))))) pss_nil)
      (pss_one (ps_ret (pe_ifExp (pt_cmpR op_eq (pv 2) pe_int (nomark _)) (pe_has (ok_flat T) hr (pa_cons (pv 0) (pa_cons (pe_callB (call_max2 rfl) (by rfl) T.b_max (by decide +kernel) (pa_cons pe_int (pa_cons (pv 1) pa_nil))) pa_nil))) (pe_has (ok_ending T) hr (pa_cons (pv 0) (pa_cons (pv 1) pa_nil))))))), ?_⟩
    refine ⟨_, rfl, r, scr, sc, 4, rfl, R, by decide, by decide, fun z H1 hz R1 => ?_⟩
    have fin : ∀ v M H', RO K r scr sc H1 H' → MT H' v M → GoodP M → M.length ≤ 3 → Q v H' := fun v M H' h => q v M H' (R1.then h)
    refine ⟨_, rfl, rfl, _, rfl, ite2 (fun c => ?_) (fun c => ?_)⟩
    · exact ⟨_, rfl, _, rfl, r, scr, sc, rfl, R1.here, fin⟩
    · refine ⟨_, rfl, rfl, _, rfl, ite2 (fun c => ?_) (fun c => ?_)⟩
      · exact ⟨_, rfl, _, rfl, _, _, rfl, r, scr, sc, rfl, R1.here, fin⟩
      · exact ⟨_, rfl, _, rfl, r, scr, sc, rfl, R1.here, fin⟩
end
end KX
end

section
set_option Elab.async false
set_option linter.all false
set_option maxRecDepth 100000
set_option maxHeartbeats 1000000
namespace KX
open PySem PySem.Spec PyProof.Rows L2 KR KM
open He (ga ma)
theorem able_nat (ns : List Int) : (ableI ns).map iv = natV (able ns) := by unfold ableI; rw [List.map_map]; rfl
theorem r_catL {K : PySem.W.Frag} {H : Hp} {x v : V} {b : Addr} {log : List Ent} {e : Ent} {Q : VK} (hx : LgT H x log) (hb : H b = some (.tup [v])) (hv : EnT H v e) (hl : log.length ≤ 1000) (q : ∀ v' H', Same H H' → LgT H' v' (log ++ [e]) → Q v' H') : rCatA K x (.ref b) H Q := by
  obtain ⟨a, es, rfl, ha, hp⟩ := hx
  have le : es.length = log.length := Paired.length hp
  refine ⟨a, b, _, _, rfl, rfl, sqT ha, sqT hb, Nat.le_of_lt (sz8 (by simp; omega)), fun z => ?_, fun z z2 => (by cases z2), fun z z2 p hp' => ?_⟩
  · subst z
    cases hp
    exact q _ _ (Same.refl H) ⟨b, _, rfl, hb, .cons hv .nil⟩
  · have e1 := snew (o := .tup (es ++ [v])) hp'
    exact q _ _ e1 ⟨p, _, rfl, upd_same, pair_app (L2.Paired.mapP hp fun _ _ q => q.same e1) (hv.same e1)⟩
theorem lost_snoc {log : List Ent} {e : Ent} : lostN (log ++ [e]) = lostN log + (if decide (e = .lost) = true then 1 else 0) := by
  unfold lostN
  rw [List.countP_append]
  simp [List.countP_cons]
/-! ### parts of the log's turn -/
def tIsLost (K : PySem.W.Frag) : TE := fun σ H Q => ∃ (r scr : Addr) (sc : List Int) (c : Int), σ[0]? = some (some (.ref r)) ∧ σ[7]? = some (some (.int c)) ∧ RO K r scr sc H H ∧ ∀ (b : Bool) H', RO K r scr sc H H' → (b = true → c < 5) → Q (.bl b) H'
abbrev tTk (K : PySem.W.Frag) (n : Int) : TE := tCall (sp_taken K) [] E0 (tCons (tVar 0) (tCons (tC (.int n)) tNil))
abbrev tGt : TE → TE → TE := tOp (rI0 fun i j => V.bl (decide (j < i)))
theorem k_isl {K : PySem.W.Frag} (σ : L2.St) (H : Hp) (Q : VK) (h : tIsLost K σ H Q) : tAndV (tLt (tVar 7) (tC (.int 5))) (tOp rEq (tTk K 2) (tC (.int 0))) σ H Q := by
  obtain ⟨r, scr, sc, c, h0, h7, R, q⟩ := h
  exact ⟨_, h7, _, _, rfl, rfl, _, rfl, ite2 (fun z => ⟨_, h0, r, scr, sc, 2, rfl, R, by decide, by decide, fun w H' _ R' => ⟨rfl, q _ H' R' (fun _ => of_decide_eq_true z)⟩⟩) (fun z => q false H R (fun z => by cases z))⟩
abbrev tLen (K : PySem.W.Frag) (i : Nat) : TE := tCB (fun xs H Q => ∃ p ys, xs = [V.ref p] ∧ (SqL K H p ys ∨ SqT K H p ys) ∧ Q (.int ys.length) H) (tCons (tVar i) tNil)
def tNoted (K : PySem.W.Frag) : TE := fun σ H Q => ∃ (r scr tm : Addr) (sc : List Int) (rs : List V) (l : Nat), σ[0]? = some (some (.ref r)) ∧ σ[1]? = some (some (.ref tm)) ∧ σ[11]? = some (some (.int l)) ∧ RO K r scr sc H H ∧ H tm = some (.tup rs) ∧ 0 < rs.length ∧ rs.length ≤ 100 ∧ l < rs.length ∧ ∀ (k : Nat) H', RO K r scr sc H H' → k < rs.length → Q (.int k) H'
theorem k_noted {K : PySem.W.Frag} (σ : L2.St) (H : Hp) (Q : VK) (h : tNoted K σ H Q) : tIf (tTest (tGt (tTk K 8) (tC (.int 0)))) (tVar 11) (tCall (sp_taken K) [] E0 (tCons (tVar 0) (tCons (tLen K 1) tNil))) σ H Q := by
  obtain ⟨r, scr, tm, sc, rs, l, h0, h1, h11, R, hm, l0, l1, hl, q⟩ := h
  refine ⟨_, h0, r, scr, sc, 8, rfl, R, by decide, by decide, fun w H' _ R' => ⟨_, _, rfl, rfl, _, rfl, ite2 (fun z => ⟨_, h11, q l H' R' hl⟩) (fun z => ?_)⟩⟩
  exact ⟨_, h0, _, h1, tm, _, rfl, .inr (sqT (R'.kp.tup hm)), r, scr, sc, _, rfl, R'.here, by omega, by omega, fun k H2 hk R2 => q k H2 (R'.then R2) (by omega)⟩
def tMore (K : PySem.W.Frag) : TE := fun σ H Q => ∃ (r scr : Addr) (sc : List Int), σ[0]? = some (some (.ref r)) ∧ RO K r scr sc H H ∧ ∀ (k : Int) H', RO K r scr sc H H' → Q (.int k) H'
theorem k_more {K : PySem.W.Frag} (σ : L2.St) (H : Hp) (Q : VK) (h : tMore K σ H Q) : tIf (tTest (tGt (tTk K 7) (tC (.int 0)))) (tC (.int 0)) (tSub (tTk K 5) (tC (.int 2))) σ H Q := by
  obtain ⟨r, scr, sc, h0, R, q⟩ := h
  refine ⟨_, h0, r, scr, sc, 7, rfl, R, by decide, by decide, fun w H' _ R' => ⟨_, _, rfl, rfl, _, rfl, ite2 (fun z => q 0 H' R') (fun z => ?_)⟩⟩
  exact ⟨_, h0, r, scr, sc, 5, rfl, R'.here, by decide, by decide, fun k H2 hk R2 => ⟨_, _, rfl, rfl, q _ H2 (R'.then R2)⟩⟩
def tEnt : TE := fun σ H Q => ∃ (b : Bool) (l : Nat), σ[12]? = some (some (.bl b)) ∧ σ[13]? = some (some (.int l)) ∧ ∀ t H', Same H H' → H' t = some (.tup (entV (if b = true then .lost else .pressed l))) → Q (.ref t) H'
theorem k_ent (σ : L2.St) (H : Hp) (Q : VK) (h : tEnt σ H Q) : tIf (tB (tVar 12)) (tTup (tCons (tC (.str "lost")) tNil)) (tTup (tCons (tC (.str "pressed")) (tCons (tVar 13) tNil))) σ H Q := by
  obtain ⟨b, l, h12, h13, q⟩ := h
  refine ⟨_, h12, b, rfl, ite2 (fun z => ?_) (fun z => ?_)⟩
  · exact ⟨by show 1 ≤ sizeLine; decide, fun t ht => q t _ (snew ht) (by rw [upd_same, if_pos z]; rfl)⟩
  · exact ⟨_, h13, by show 2 ≤ sizeLine; decide, fun t ht => q t _ (snew ht) (by rw [upd_same, if_neg z]; rfl)⟩
section
variable {P : Program} {w : World} {K : PySem.W.Frag} {mg : Str → Option Value} {base : Heap}
def sp_log (K : PySem.W.Frag) : Sp := fun vs H Q _ => ∃ (r scr : Addr) (sc : List Int) (x y : V) (M : Pushes) (ns : List Int), vs = [.ref r, x, y, .int 7] ∧ RO K r scr sc H H ∧ MT H x M ∧ GoodP M ∧ M.length ≤ 3 ∧ IT H y ns ∧ ns.length = M.length ∧
  ∀ t vl vp log H', RO K r scr sc H H' → H' t = some (.tup [vl, vp]) → LgT H' vl log → log.length ≤ 7 → lostN log ≤ 5 → (∀ e ∈ log, entOk M.length e) → Q (.ref t) H'
structure LI (K : PySem.W.Frag) (r scr : Addr) (sc : List Int) (H : Hp) (M : Pushes) (i : Nat) (vl vp vn : V) (lostc : Nat) (log : List Ent) (ps ns : List Int) (H' : Hp) : Prop where
  ro : RO K r scr sc H H'
  lg : LgT H' vl log
  pl : IT H' vp ps
  nm : IT H' vn ns
  nl : ns.length = M.length
  ll : log.length ≤ i
  lo : lostN log = lostc
  lc : lostc ≤ 5
  ok : ∀ e ∈ log, entOk M.length e
  pn : ps.length ≤ i
theorem sc_log : FnScope ["_law_row", "_law_pushes", "_law_start", "_law_most", "_law_log_here", "_law_play", "_law_numbers_here", "_law_lost", "_law_turn", "_law_some", "_law_way", "_law_lamp", "_law_is_lost", "_law_noted", "_law_more"] ["_law_row", "_law_pushes", "_law_start", "_law_most"] (defScope s_law_log) := ⟨rfl, rfl, rfl, by decide +kernel, rfl, by decide +kernel, by decide +kernel⟩
theorem ok_log (T : Tx K mg) : Has P w K mg base 3 "_law_log" ["_law_row", "_law_pushes", "_law_start", "_law_most"] (sp_log K) := by
  refine has_of T.d_law_log T.g_law_log sc_log (fun vs H Q E h => ?_) (fun cdv A outer s H vs Q E hr h => ?_)
  · obtain ⟨_, _, _, _, _, _, _, rfl, _⟩ := h
    rfl
  · obtain ⟨r, scr, sc, x, y, M, ns0, rfl, R, hM, g, h3, hy, hl0, q⟩ := h
    have nd := sc_log.nd
    have gp := g.pos
    refine ⟨_, pss_cons (ps_asg (pe_tup (pa_cons (pe_tup pa_nil) (pa_cons (pe_tup pa_nil) (pa_cons (pv 2) (pa_cons pe_int pa_nil))))) (pg_tup rfl (pgs_cons (pg_name (i := 4) nd rfl (Or.inl rfl)) (pgs_cons (pg_name (i := 5) nd rfl (Or.inl rfl)) (pgs_cons (pg_name (i := 6) nd rfl (Or.inl rfl)) (pgs_cons (pg_name (i := 7) nd rfl (Or.inl rfl)) pgs_nil))))))
      (pss_cons (ps_for PassesOwn.never rfl (pi_range1 (by rfl) T.b_range (pa_cons (pe_has ((ok_taken T).mono (by decide)) hr (pa_cons (pv 0) (pa_cons (pe_op op_add (pv 3) pe_int) pa_nil))) pa_nil)) (pg_name (i := 8) nd rfl (Or.inl rfl))
        (pss_cons (ps_par (i := 9) (j := 10) rfl nd rfl rfl (by decide) rfl rfl (pa_cons (pe_has ((ok_below T).mono (by decide)) hr (pa_cons (pv 6) pa_nil)) (pa_cons (pe_has ((ok_taken T).mono (by decide)) hr (pa_cons (pv 0) (pa_cons pe_int pa_nil))) pa_nil)) (by rfl))
        (pss_one (ps_if (PW.pt (pw_and (pt_cmpR op_lt (pv 10) pe_int (nomark _)) (pw_and1 (pt_cmpR (op_neD hr.units) (pv 9) (pe_lst pa_nil) (nomark _)))))
          (pss_cons (ps_set (i := 11) nd rfl (Or.inl rfl) (pe_has (ok_pick T) hr (pa_cons (pv 0) (pa_cons (pv 9) pa_nil))))
          (pss_cons (ps_par (i := 5) (j := 6) rfl nd rfl rfl (by decide) rfl rfl (pa_cons (pe_op op_catA (pv 5) (pe_tup (pa_cons (pv 11) pa_nil))) (pa_cons (pe_has ((ok_lpress T).mono (by decide)) hr (pa_cons (pv 1) (pa_cons (pv 6) (pa_cons (pv 11) pa_nil)))) pa_nil)) (by rfl))
          (pss_cons (ps_set (i := 12) nd rfl (Or.inl rfl) (pe_weak (pe_and (pe_cmpR op_lt (pv 7) pe_int (nomark _)) (pe_one (pe_cmpR op_eq (pe_has ((ok_taken T).mono (by decide)) hr (pa_cons (pv 0) (pa_cons pe_int pa_nil))) pe_int (nomark _)))) k_isl))
          (pss_cons (ps_set (i := 13) nd rfl (Or.inl rfl) (pe_weak (pe_ifExp (pt_cmpR op_gt (pe_has ((ok_taken T).mono (by decide)) hr (pa_cons (pv 0) (pa_cons pe_int pa_nil))) pe_int (nomark _)) (pv 11) (pe_has ((ok_taken T).mono (by decide)) hr (pa_cons (pv 0) (pa_cons (pe_callB call_len_seq (by rfl) T.b_len PySem.boot_len (pa_cons (pv 1) pa_nil)) pa_nil)))) k_noted))
          (pss_one (ps_par (i := 4) (j := 7) rfl nd rfl rfl (by decide) rfl rfl (pa_cons (pe_op op_catA (pv 4) (pe_tup (pa_cons (pe_weak (pe_ifExp (pt_val (pv 12)) (pe_tup (pa_cons pe_str pa_nil)) (pe_tup (pa_cons pe_str (pa_cons (pv 13) pa_nil)))) k_ent) pa_nil))) (pa_cons (pe_op op_add (pv 7) (pe_callTy call_int1 (by rfl) T.b_int (by decide +kernel) (pa_cons (pv 12) pa_nil))) pa_nil)) (by rfl)))))))
          (pss_cons (ps_set (i := 11) nd rfl (Or.inl rfl) (pe_has ((ok_taken T).mono (by decide)) hr (pa_cons (pv 0) (pa_cons (pe_callB call_len_seq (by rfl) T.b_len PySem.boot_len (pa_cons (pv 1) pa_nil)) pa_nil))))
          (pss_cons (ps_set (i := 14) nd rfl (Or.inl rfl) (pe_weak (pe_ifExp (pt_cmpR op_gt (pe_has ((ok_taken T).mono (by decide)) hr (pa_cons (pv 0) (pa_cons pe_int pa_nil))) pe_int (nomark _)) pe_int (pe_op op_sub (pe_has ((ok_taken T).mono (by decide)) hr (pa_cons (pv 0) (pa_cons pe_int pa_nil))) pe_int)) k_more))
          (pss_one (ps_set (i := 4) nd rfl (Or.inl rfl) (pe_op op_catA (pv 4) (pe_tup (pa_cons (pe_tup (pa_cons pe_str (pa_cons (pv 11) (pa_cons (pe_op op_add (pe_ix ix_tup (pv 6) (pv 11) (fun _ _ => rfl)) (pv 14)) pa_nil)))) pa_nil)))))))))))
      (pss_one (ps_ret (pe_tup (pa_cons (pv 4) (pa_cons (pv 5) pa_nil)))))), ?_⟩
    obtain ⟨tm, rsM, rfl, htm, hPm⟩ := id hM
    have lrs : rsM.length = M.length := Paired.length hPm
    have z0 : (0 : Nat) ≤ sizeLine := Nat.zero_le _
    have z1 : (1 : Nat) ≤ sizeLine := by decide
    have z2 : (2 : Nat) ≤ sizeLine := by decide
    have z3 : (3 : Nat) ≤ sizeLine := by decide
    have rN : ∀ {G G' : Hp} {p : Addr}, RO K r scr sc G G' → G' p = none → p ≠ r := fun R h z => by
      obtain ⟨_, _, _, a, _⟩ := R.row
      rw [z, a] at h; cases h
    refine ⟨z0, fun p1 hp1 => ⟨z0, fun p2 hp2 => ⟨_, rfl, by show 4 ≤ sizeLine; decide, fun t ht => ⟨t, _, rfl, sqT upd_same, rfl, _, _, rfl, _, _, rfl, _, _, rfl, _, _, rfl, rfl, ?_⟩⟩⟩⟩
    have e1 := snew (o := .tup []) hp1
    have e2 := snew (o := .tup []) hp2
    have e3 := snew (o := .tup [.ref p1, .ref p2, y, .int 0]) ht
    have e13 := e1.trans (e2.trans e3)
    have R3 := R.same e13
    refine ⟨_, rfl, _, rfl, _, _, rfl, rfl, r, scr, sc, _, rfl, R3.here, by decide, by decide, fun z H4 hz R4 => ?_⟩
    have hz7 : (z : Int) < 8 := hz
    have R34 := R3.then R4
    refine ⟨z, rfl, by omega, by omega, for_range (lo := 0) (n := z) (fun i σ H' => ∃ vl vp vn lostc log ps ns u8 u9 u10 u11 u12 u13 u14, σ = [some (.ref r), some (.ref tm), some y, some (.int 7), some vl, some vp, some vn, some (.int ((lostc : Nat) : Int)), u8, u9, u10, u11, u12, u13, u14] ∧ LI K r scr sc H M i vl vp vn lostc log ps ns H')
      ⟨_, _, y, 0, [], [], ns0, none, none, none, none, none, none, none, rfl, ⟨R34, ⟨p1, [], rfl, R4.kp.tup ((e2.trans e3) _ _ upd_same), .nil⟩, ⟨p2, rfl, R4.kp.tup (e3 _ _ upd_same)⟩, (hy.same e13).kp R4.kp, hl0, Nat.le_refl _, rfl, by decide, fun e h => (by cases h), Nat.le_refl _⟩⟩ ?_ ?_⟩
    · rintro i σ B hi ⟨vl, vp, vn, lostc, log, ps, ns, u8, u9, u10, u11, u12, u13, u14, rfl, L⟩
      have hi7 : i < 7 := by omega
      obtain ⟨tn, rfl, htn⟩ := id L.nm
      refine ⟨_, rfl, _, ns, rfl, L.nm, by have := L.nl; omega, fun p H1 a1 hp hpx => ?_⟩
      have R1 := L.ro.same a1
      refine ⟨_, rfl, r, scr, sc, 3, rfl, R1.here, by decide, by decide, fun w H2 hw R2 => ?_⟩
      have pr : p ≠ r := rN L.ro hp
      have hpx2 := R2.at pr hpx
      rw [able_nat] at hpx2
      have R12 := R1.then R2
      have K12 : Kp B H2 := (kps a1).trans R2.kp
      refine ⟨_, _, rfl, ?_⟩
      refine ⟨_, rfl, _, _, rfl, rfl, _, rfl, ite2 (fun c => ?_) (fun c => ?_)⟩
      · refine ⟨_, rfl, z0, fun q0 hq0 => ?_⟩
        have b1 := snew (o := .lst []) hq0
        refine ⟨_, _, .lst (SqL.of (b1 _ _ hpx2)) dp_nats, .lst (SqL.of upd_same) .nil, nats_shaped _, rfl, ?_⟩
        rw [nats_eqv]
        have R13 := R12.same b1
        have K13 := K12.trans (kps b1)
        refine ⟨_, rfl, ite2 (fun c2 => ?_) (fun c2 => ?_)⟩
        · have ne : able ns ≠ [] := by simpa using c2
          have al : (able ns).length ≤ 3 := by have := able_len (xs := ns); have := L.nl; omega
          refine ⟨_, rfl, _, rfl, r, scr, p, sc, _, rfl, R13.here, b1 _ _ hpx2, pr, by rw [List.length_map]; exact List.length_pos_iff.mpr ne, by rw [List.length_map]; omega, fun k xv H4 hk R4' => ?_⟩
          rw [List.getElem?_map] at hk
          obtain ⟨l, hl, rfl⟩ := Option.map_eq_some_iff.mp hk
          have hlM : l < M.length := by rw [← L.nl]; exact able_lt (List.mem_of_getElem? hl)
          have R14 := R13.then R4'
          have K14 := K13.trans R4'.kp
          refine ⟨_, rfl, _, rfl, z1, fun t1 ht1 => ?_⟩
          have f1 := snew (o := .tup [.int (l : Nat)]) ht1
          have K15 := K14.trans (kps f1)
          refine r_cat (K := K) (ws := ps) (ms := [(l : Int)]) (L.pl.kp K15) ⟨t1, rfl, upd_same⟩ (by have := L.pn; simp; omega) fun v1 H5 e5 hv1 => ?_
          have R15 := (R14.same f1).same e5
          have K16 := K15.trans (kps e5)
          refine ⟨_, rfl, _, rfl, _, rfl, _, _, l, M, ns, rfl, hM.kp R15.kp, g, L.nm.kp K16, L.nl, hlM, fun v2 H6 e6 hv2 => ⟨_, _, rfl, ?_⟩⟩
          have R16 := R15.same e6
          have K17 := K16.trans (kps e6)
          refine ⟨r, scr, sc, (lostc : Nat), rfl, rfl, R16.here, fun b H7 R7 hb => ?_⟩
          have R17 := R16.then R7
          refine ⟨r, scr, tm, sc, rsM, l, rfl, rfl, rfl, R17.here, R17.kp.tup htm, by omega, by omega, by omega, fun nt H8 R8 hnt => ?_⟩
          have R18 := R17.then R8
          have K18 := (K17.trans R7.kp).trans R8.kp
          refine ⟨_, rfl, b, nt, rfl, rfl, fun t3 H9 e9 ht3 => ⟨z1, fun t4 ht4 => ?_⟩⟩
          have f4 := snew (o := .tup [.ref t3]) ht4
          have K19 := K18.trans (kps (e9.trans f4))
          refine r_catL (K := K) (log := log) (v := .ref t3) (e := if b = true then .lost else .pressed nt) (L.lg.kp K19) upd_same ⟨t3, rfl, f4 _ _ ht3⟩ (by have := L.ll; omega) fun v' H10 e10 hv' => ?_
          have K20 := K19.trans (kps e10)
          have eR : Kp H6 H10 := ((R7.kp.trans R8.kp).trans (kps (e9.trans f4))).trans (kps e10)
          refine ⟨_, rfl, _, rfl, .inr ⟨_, rfl, _, _, rfl, rfl, _, _, rfl, ?_⟩⟩
          have elc : ((lostc : Nat) : Int) + (if b = true then (1 : Int) else 0) = ((lostc + (if b = true then 1 else 0) : Nat) : Int) := by cases b <;> simp
          dsimp only
          rw [elc]
          refine ⟨v', v1, v2, _, _, ps ++ [(l : Int)], press M ns l, _, _, _, _, _, _, _, rfl, ⟨((R18.same e9).same f4).same e10, hv', ((hv1.same e6).kp eR), hv2.kp eR, press_len g.rows L.nl hlM, by rw [List.length_append]; have := L.ll; simp; omega, ?_, ?_, fun e he => ?_, by rw [List.length_append]; have := L.pn; simp; omega⟩⟩
          · rw [lost_snoc, L.lo]
            cases b <;> simp
          · have := L.lc
            cases b with
            | true => have := hb rfl; simp; omega
            | false => simp; omega
          · rcases List.mem_append.mp he with he | he
            · exact L.ok e he
            · rw [List.mem_singleton.mp he]
              cases b with
              | true => trivial
              | false => show nt < M.length; omega
        · refine ⟨_, rfl, _, rfl, tm, _, rfl, .inr (sqT (R13.kp.tup htm)), r, scr, sc, _, rfl, R13.here, by omega, by omega, fun l G1 hl1 S1 => ?_⟩
          have hlM : l < M.length := by omega
          have RX1 := R13.then S1
          refine ⟨r, scr, sc, rfl, RX1.here, fun mv G2 S2 => ?_⟩
          have RX2 := RX1.then S2
          have KK := (K13.trans S1.kp).trans S2.kp
          obtain ⟨zz, hzz⟩ : ∃ z, ns[l]? = some z := ⟨_, List.getElem?_eq_getElem (by rw [L.nl]; exact hlM)⟩
          refine ⟨_, rfl, _, rfl, _, rfl, _, rfl, tn, _, _, _, rfl, rfl, sqT (KK.tup htn), atI_nat (j := l) (by rw [List.getElem?_map, hzz]; rfl), _, rfl, _, _, rfl, rfl, z3, fun t1 ht1 => ⟨z1, fun t2 ht2 => ?_⟩⟩
          have f1 := snew (o := .tup [.str "seen", .int (l : Nat), .int (zz + mv)]) ht1
          have f2 := snew (o := .tup [.ref t1]) ht2
          have K3 := KK.trans (kps (f1.trans f2))
          refine r_catL (K := K) (log := log) (v := .ref t1) (e := .seen l (zz + mv)) (L.lg.kp K3) upd_same ⟨t1, rfl, f2 _ _ upd_same⟩ (by have := L.ll; omega) fun v' H9 e9 hv' => ?_
          have K9 := K3.trans (kps e9)
          refine ⟨v', vp, .ref tn, lostc, _, ps, ns, _, _, _, _, _, _, _, rfl, ⟨(RX2.same (f1.trans f2)).same e9, hv', L.pl.kp K9, L.nm.kp K9, L.nl, by rw [List.length_append]; have := L.ll; simp; omega, by rw [lost_snoc, L.lo]; simp, L.lc, fun e he => ?_, by have := L.pn; omega⟩⟩
          rcases List.mem_append.mp he with he | he
          · exact L.ok e he
          · rw [List.mem_singleton.mp he]; exact hlM
      · refine ⟨_, rfl, _, rfl, tm, _, rfl, .inr (sqT (R12.kp.tup htm)), r, scr, sc, _, rfl, R12.here, by omega, by omega, fun l G1 hl1 S1 => ?_⟩
        have hlM : l < M.length := by omega
        have RX1 := R12.then S1
        refine ⟨r, scr, sc, rfl, RX1.here, fun mv G2 S2 => ?_⟩
        have RX2 := RX1.then S2
        have KK := (K12.trans S1.kp).trans S2.kp
        obtain ⟨zz, hzz⟩ : ∃ z, ns[l]? = some z := ⟨_, List.getElem?_eq_getElem (by rw [L.nl]; exact hlM)⟩
        refine ⟨_, rfl, _, rfl, _, rfl, _, rfl, tn, _, _, _, rfl, rfl, sqT (KK.tup htn), atI_nat (j := l) (by rw [List.getElem?_map, hzz]; rfl), _, rfl, _, _, rfl, rfl, z3, fun t1 ht1 => ⟨z1, fun t2 ht2 => ?_⟩⟩
        have f1 := snew (o := .tup [.str "seen", .int (l : Nat), .int (zz + mv)]) ht1
        have f2 := snew (o := .tup [.ref t1]) ht2
        have K3 := KK.trans (kps (f1.trans f2))
        refine r_catL (K := K) (log := log) (v := .ref t1) (e := .seen l (zz + mv)) (L.lg.kp K3) upd_same ⟨t1, rfl, f2 _ _ upd_same⟩ (by have := L.ll; omega) fun v' H9 e9 hv' => ?_
        have K9 := K3.trans (kps e9)
        refine ⟨v', vp, .ref tn, lostc, _, ps, ns, _, _, _, _, _, _, _, rfl, ⟨(RX2.same (f1.trans f2)).same e9, hv', L.pl.kp K9, L.nm.kp K9, L.nl, by rw [List.length_append]; have := L.ll; simp; omega, by rw [lost_snoc, L.lo]; simp, L.lc, fun e he => ?_, by have := L.pn; omega⟩⟩
        rcases List.mem_append.mp he with he | he
        · exact L.ok e he
        · rw [List.mem_singleton.mp he]; exact hlM
    · rintro σ G ⟨vl, vp, vn, lostc, log, ps, ns, u8, u9, u10, u11, u12, u13, u14, rfl, L⟩
      refine ⟨_, rfl, _, rfl, z2, fun t9 ht9 => ?_⟩
      exact q t9 vl vp log _ (L.ro.new ht9) upd_same (L.lg.same (snew ht9)) (by have := L.ll; omega) (by rw [L.lo]; exact L.lc) L.ok
end
end KX
end

section
set_option Elab.async false
set_option linter.all false
set_option maxRecDepth 100000
set_option maxHeartbeats 1000000
namespace KX
open PySem PySem.Spec PyProof.Rows L2 KR KM
open PySem.W (dataLt dataLe alike alikeAll AllAlike Sortable rowLt dataLt_ints)
open He (ga ma)
theorem pt_weak {X : Cx} {e : Expr} {t t' : TT} (h : PT X e t) (k : ∀ σ H Q, t' σ H Q → t σ H Q) : PT X e t' := ⟨fun pins s σ H Q I q => h.run pins s σ H Q I (k σ H Q q)⟩
theorem in_ints {i : Int} {S : List Int} : inV (.int i) (S.map iv) = decide (i ∈ S) := by
  unfold inV
  rw [List.any_map]
  induction S with
  | nil => simp
  | cons x S ih =>
    rw [List.any_cons, ih]
    have e : ((fun y => eqV y (V.int i)) ∘ iv) x = decide (x = i) := by
      show (x == i) = _
      by_cases h : x = i <;> simp [h]
    rw [e]
    by_cases h : x = i
    · simp [h]
    · have : ¬ i = x := fun z => h z.symm
      simp [h, this]
theorem flat_ints {S : List Int} : (S.map iv).all flatV = true := by
  rw [List.all_map, List.all_eq_true]
  intro x _
  rfl
/-- where the turn stands -/
structure NT (σ : L2.St) (H : Hp) (i : Nat) (e : Ent) (S : List Int) : Prop where
  ex : ∃ (tl ts : Addr) (es : List V) (ea : V), σ[2]? = some (some (.ref tl)) ∧ σ[5]? = some (some (.int (i : Nat))) ∧ σ[3]? = some (some (.ref ts)) ∧ H tl = some (.tup es) ∧ es[i]? = some ea ∧ EnT H ea e ∧ H ts = some (.tup (S.map iv))
def tSo (K : PySem.W.Frag) : TE := fun σ H Q => ∃ (i : Nat) (l : Nat) (z : Int) (S : List Int) (vn : V) (ns : List Int), NT σ H i (.seen l z) S ∧ σ[8]? = some (some vn) ∧ IT H vn ns ∧ l < ns.length ∧ Q (.bl (decide ((i : Int) ∈ S ∨ ns.getD l 0 = z))) H
theorem k_so {K : PySem.W.Frag} (σ : L2.St) (H : Hp) (Q : VK) (h : tSo K σ H Q) : tOrV (tOp (rIn K false) (tVar 5) (tVar 3)) (tOp rEq (tOp (rIxT K) (tVar 8) (tOp (rIxT K) (tOp (rIxT K) (tVar 2) (tVar 5)) (tC (.int 1)))) (tOp (rIxT K) (tOp (rIxT K) (tVar 2) (tVar 5)) (tC (.int 2)))) σ H Q := by
  obtain ⟨i, l, z, S, vn, ns, ⟨tl, ts, es, ea, h2, h5, h3, hl, hi, ⟨te, rfl, hte⟩, hs⟩, h8, ⟨tn, rfl, htn⟩, hln, q⟩ := h
  refine ⟨_, h5, _, h3, ts, _, rfl, .inr (sqT hs), rfl, flat_ints, _, rfl, ?_⟩
  show if inV (.int (i : Nat)) (S.map iv) = true then _ else _
  rw [in_ints]
  refine ite2 (fun c => ?_) (fun c => ?_)
  · have c' := of_decide_eq_true c
    rw [decide_eq_true (show ((i : Int) ∈ S ∨ ns.getD l 0 = z) from .inl c')] at q
    exact q
  · obtain ⟨own, ho⟩ : ∃ z, ns[l]? = some z := ⟨_, List.getElem?_eq_getElem hln⟩
    refine ⟨_, h8, _, h2, _, h5, tl, _, _, _, rfl, rfl, sqT hl, atI_nat hi, te, _, _, _, rfl, rfl, sqT hte, atI_nat (j := 1) rfl, tn, _, _, _, rfl, rfl, sqT htn, atI_nat (j := l) (by rw [List.getElem?_map, ho]; rfl), ?_⟩
    refine ⟨_, h2, _, h5, tl, _, _, _, rfl, rfl, sqT hl, atI_nat hi, te, _, _, _, rfl, rfl, sqT hte, atI_nat (j := 2) rfl, rfl, ?_⟩
    have c' : ¬ (i : Int) ∈ S := fun z => c (decide_eq_true z)
    rw [getD_of ho] at q
    have e1 : decide ((i : Int) ∈ S ∨ own = z) = decide (V.int own = V.int z) := by simp [c']
    rw [e1] at q
    exact q
def tNr (K : PySem.W.Frag) : TT := fun σ H Q => ∃ (i k : Nat) (e : Ent) (S : List Int), NT σ H i e S ∧ (∀ l z, e ≠ .seen l z) ∧ σ[10]? = some (some (.int (k : Nat))) ∧ ∀ H', Same H H' → Q (decide (fit e k = true ∨ (i : Int) ∈ S)) H'
theorem k_nr {K : PySem.W.Frag} (σ : L2.St) (H : Hp) (Q : Bool → Hp → Prop) (h : tNr K σ H Q) : tOr (tTest (tOp (rEqD K) (tOp (rIxT K) (tVar 2) (tVar 5)) (tTup (tCons (tC (.str "lost")) tNil)))) (tOr (tTest (tOp (rIn K false) (tVar 5) (tVar 3))) (tTest (tOp rEq (tOp (rIxT K) (tOp (rIxT K) (tVar 2) (tVar 5)) (tC (.int 1))) (tVar 10)))) σ H Q := by
  obtain ⟨i, k, e, S, ⟨tl, ts, es, ea, h2, h5, h3, hl, hi, hE, hs⟩, hne, h10, q⟩ := h
  refine ⟨_, h2, _, h5, tl, _, _, _, rfl, rfl, sqT hl, atI_nat hi, by show 1 ≤ sizeLine; decide, fun p hp => ?_⟩
  have e1 := snew (o := .tup [.str "lost"]) hp
  have q1 := q _ e1
  refine ⟨_, _, dp_ent (hE.same e1), .tup (sqT upd_same) (.cons (.str _) .nil), ent_shaped _, lost_shaped, ?_⟩
  show ∃ k, V.bl (PyData.eqv (entD e) lostD) = V.bl k ∧ _
  rw [ent_eqv]
  obtain ⟨te, rfl, hte⟩ := id hE
  cases e with
  | seen l z => exact absurd rfl (hne l z)
  | lost =>
    refine ⟨_, rfl, iteT ?_⟩
    have : decide (fit Ent.lost k = true ∨ (i : Int) ∈ S) = true := decide_eq_true (.inl rfl)
    rw [this] at q1
    exact q1
  | pressed l =>
    refine ⟨_, rfl, iteF ⟨_, h5, _, h3, ts, _, rfl, .inr (sqT (e1 _ _ hs)), rfl, flat_ints, _, rfl, ?_⟩⟩
    show if inV (.int (i : Nat)) (S.map iv) = true then _ else _
    rw [in_ints]
    refine ite2 (fun c => ?_) (fun c => ?_)
    · rw [decide_eq_true (show (fit (.pressed l) k = true ∨ (i : Int) ∈ S) from .inr (of_decide_eq_true c))] at q1
      exact q1
    · have c' : ¬ (i : Int) ∈ S := fun z => c (decide_eq_true z)
      refine ⟨_, h2, _, h5, tl, _, _, _, rfl, rfl, sqT (e1 _ _ hl), atI_nat hi, te, _, _, _, rfl, rfl, sqT (e1 _ _ hte), atI_nat (j := 1) rfl, _, h10, rfl, _, rfl, ?_⟩
      have e2 : decide (fit (.pressed l) k = true ∨ (i : Int) ∈ S) = decide (V.int (l : Nat) = V.int (k : Nat)) := by
        simp [c', fit]
        omega
      rw [e2] at q1
      exact q1
/-- a play and the numbers behind it -/
def PnT (H : Hp) (v : V) (q : Np) : Prop := ∃ t a b, v = .ref t ∧ H t = some (.tup [a, b]) ∧ IT H a q.1 ∧ IT H b q.2
theorem PnT.kp {H H' : Hp} {v : V} {q : Np} (e : Kp H H') (h : PnT H v q) : PnT H' v q := let ⟨t, a, b, p, r, u, w⟩ := h; ⟨t, a, b, p, e.tup r, u.kp e, w.kp e⟩
def dec : PyData → List Int
  | .tuple ds => ds.map fun
    | .int i => i
    | _ => 0
  | _ => []
theorem dec_ints (p : List Int) : dec (.tuple (p.map .int)) = p := by
  show (p.map PyData.int).map _ = p
  rw [List.map_map]
  exact (List.map_congr_left fun _ _ => rfl).trans (List.map_id p)
def plB (ws : List V) (ps : List (List Int)) : List (V × PyData) := (ws.zip ps).map fun q => (q.1, .tuple (q.2.map .int))
section
variable {K : PySem.W.Frag} {H : Hp}
theorem plB_fst : ∀ {ws : List V} {ps : List (List Int)}, Paired (IT H) ws ps → (plB ws ps).map (·.1) = ws
  | _, _, .nil => rfl
  | w :: ws, p :: ps, .cons h t => by
    have ih := plB_fst t
    unfold plB at ih ⊢
    rw [List.zip_cons_cons, List.map_cons, List.map_cons, ih]
theorem plB_snd : ∀ {ws : List V} {ps : List (List Int)}, Paired (IT H) ws ps → (plB ws ps).map (fun b => dec b.2) = ps
  | _, _, .nil => rfl
  | w :: ws, p :: ps, .cons h t => by
    have ih := plB_snd t
    unfold plB at ih ⊢
    rw [List.zip_cons_cons, List.map_cons, List.map_cons, ih, dec_ints]
theorem plB_mem : ∀ {ws : List V} {ps : List (List Int)}, Paired (IT H) ws ps → ∀ b ∈ plB ws ps, ∃ p ∈ ps, IT H b.1 p ∧ b.2 = .tuple (p.map .int)
  | _, _, .nil, b, h => by cases h
  | w :: ws, p :: ps, .cons h t, b, hb => by
    unfold plB at hb
    rw [List.zip_cons_cons, List.map_cons] at hb
    rcases List.mem_cons.mp hb with rfl | hb
    · exact ⟨p, List.mem_cons_self, h, rfl⟩
    · obtain ⟨p', hp, z⟩ := plB_mem t b hb
      exact ⟨p', List.mem_cons_of_mem _ hp, z⟩
theorem plB_dp : ∀ {ws : List V} {ps : List (List Int)}, Paired (IT H) ws ps → DpAll K H ((plB ws ps).map (·.1)) ((plB ws ps).map (·.2))
  | _, _, .nil => .nil
  | w :: ws, p :: ps, .cons h t => by
    have ih := plB_dp t
    obtain ⟨a, rfl, ha⟩ := h
    exact .cons (.tup (sqT ha) dp_ints) ih
theorem plB_alike {ws : List V} {ps : List (List Int)} (h : Paired (IT H) ws ps) : AllAlike ((plB ws ps).map (·.2)) := by
  intro d hd d' hd'
  obtain ⟨b, hb, rfl⟩ := List.mem_map.mp hd
  obtain ⟨b', hb', rfl⟩ := List.mem_map.mp hd'
  obtain ⟨p, _, _, z⟩ := plB_mem h b hb
  obtain ⟨p', _, _, z'⟩ := plB_mem h b' hb'
  rw [z, z']
  simp [alike, alike_ints]
theorem ints_depth (p : List Int) : (PyData.tuple (p.map .int)).depth ≤ 60 := by
  have hd : PyData.depthAll (p.map .int) ≤ 1 := by
    induction p with
    | nil => simp [PyData.depthAll]
    | cons x xs ih => simp only [List.map_cons, PyData.depthAll, PyData.depth]; omega
  simp only [PyData.depth]
  omega
theorem pair_of {α : Type} {F : V → List Int → Prop} : ∀ (bs : List (V × PyData)), (∀ b ∈ bs, F b.1 (dec b.2)) → Paired F (bs.map (·.1)) (bs.map fun b => dec b.2)
  | [], _ => .nil
  | b :: bs, h => .cons (h b List.mem_cons_self) (pair_of (α := α) bs fun x hx => h x (List.mem_cons_of_mem _ hx))
end
/-- plays, in order -/
structure Plays (H : Hp) (xs : List V) (Near : List Np) (pl : List (List Int)) : Prop where
  vals : Paired (IT H) xs pl
  mem : ∀ q, q ∈ pl ↔ ∃ xs', (q, xs') ∈ Near
  low : ∀ q0 r, pl = q0 :: r → ∀ q ∈ pl, ¬ q < q0
theorem plays_of {H H' : Hp} {ws : List V} {near : List Np} (h : Paired (IT H) ws (near.map (·.1))) (e : Same H H') : Plays H' ((sortP (plB ws (near.map (·.1)))).map (·.1)) near ((sortP (plB ws (near.map (·.1)))).map fun b => dec b.2) := by
  have hp := List.mergeSort_perm (plB ws (near.map (·.1))) (dataLe false fun b : V × PyData => b.2)
  have hmem : ∀ b, b ∈ sortP (plB ws (near.map (·.1))) ↔ b ∈ plB ws (near.map (·.1)) := fun b => hp.mem_iff
  refine ⟨pair_of (α := Unit) _ fun b hb => ?_, fun q => ?_, fun q0 r hq q hq' => ?_⟩
  · obtain ⟨p, _, h1, h2⟩ := plB_mem h b ((hmem b).mp hb)
    rw [h2, dec_ints]
    exact h1.same e
  · have e1 : (plB ws (near.map (·.1))).map (fun b => dec b.2) = near.map (·.1) := plB_snd h
    have e2 := (hp.map (fun b => dec b.2)).mem_iff (a := q)
    rw [e1] at e2
    rw [show (q ∈ (sortP (plB ws (near.map (·.1)))).map fun b => dec b.2) ↔ q ∈ near.map (·.1) from e2, List.mem_map]
    constructor
    · rintro ⟨x, hx, rfl⟩; exact ⟨x.2, hx⟩
    · rintro ⟨xs', hx⟩; exact ⟨_, hx, rfl⟩
  · have hs := data_sorted (plB ws (near.map (·.1)))
    cases hS : sortP (plB ws (near.map (·.1))) with
    | nil => rw [hS] at hq; cases hq
    | cons b0 bs =>
      rw [hS] at hq hq' hs hmem
      rw [List.map_cons] at hq
      obtain ⟨rfl, _⟩ := List.cons.inj hq
      obtain ⟨b, hb, rfl⟩ := List.mem_map.mp hq'
      obtain ⟨p, _, _, hz⟩ := plB_mem h b ((hmem b).mp hb)
      obtain ⟨p0, _, _, hz0⟩ := plB_mem h b0 ((hmem b0).mp List.mem_cons_self)
      rw [hz, hz0, dec_ints, dec_ints]
      rcases List.mem_cons.mp hb with rfl | hb
      · rw [hz] at hz0
        have : p.map PyData.int = p0.map PyData.int := by injection hz0
        have : p = p0 := (List.map_inj_right fun _ _ e => PyData.int.inj e).mp this
        rw [this]
        exact List.lt_irrefl _
      · have := (List.pairwise_cons.mp hs).1 b hb
        rw [hz, hz0, data_row, dataLt_ints] at this
        exact of_decide_eq_false this
end KX
end

section
set_option Elab.async false
set_option linter.all false
set_option maxRecDepth 100000
set_option maxHeartbeats 1000000
namespace KX
open PySem PySem.Spec PyProof.Rows L2 KR KM
open He (ga ma)
section
variable {P : Program} {w : World} {K : PySem.W.Frag} {mg : Str → Option Value} {base : Heap}
def sp_nearly : Sp := fun vs H Q _ => ∃ (x y z u : V) (M : Pushes) (ns : List Int) (log : List Ent) (S : List Int), vs = [x, y, z, u] ∧ MT H x M ∧ GoodP M ∧ M.length ≤ 3 ∧ IT H y ns ∧ ns.length = M.length ∧ LgT H z log ∧ log.length ≤ 7 ∧ (∀ e ∈ log, entOk M.length e) ∧ IT H u S ∧
  ∀ p xs pl H', Same H H' → H p = none → H' p = some (.lst xs) → Plays H' xs (nearAt M ns log S log.length) pl → Q (.ref p) H'
theorem sc_nearly : FnScope ["_law_pushes", "_law_start", "_law_log_here", "_law_some", "_law_found", "_law_at", "_law_longer", "_law_play", "_law_numbers_here", "_law_is_so", "_law_lamp"] ["_law_pushes", "_law_start", "_law_log_here", "_law_some"] (defScope s_law_nearly) := ⟨rfl, rfl, rfl, by decide +kernel, rfl, by decide +kernel, by decide +kernel⟩
structure QI (H : Hp) (f : Addr) (vs : List V) (near : List Np) (G : Hp) : Prop where
  same : Same H G
  fnd : G f = some (.lst vs)
  old : Paired (PnT G) vs near
theorem QI.go {H G G' : Hp} {f : Addr} {vs : List V} {near : List Np} (h : QI H f vs near G) (e : Same G G') : QI H f vs near G' := ⟨h.same.trans e, e _ _ h.fnd, L2.Paired.mapP h.old fun _ _ q => q.kp (kps e)⟩
theorem pair_nil {α β : Type} {F : α → β → Prop} {xs : List α} {ys : List β} (h : Paired F xs ys) : Paired F (xs ++ []) (ys ++ []) := by rw [List.append_nil, List.append_nil]; exact h
theorem ok_nearly (T : Tx K mg) : Has P w K mg base 2 "_law_nearly" ["_law_pushes", "_law_start", "_law_log_here", "_law_some"] sp_nearly := by
  refine has_of T.d_law_nearly T.g_law_nearly sc_nearly (fun vs H Q E h => ?_) (fun cdv A outer s H vs Q E hr h => ?_)
  · obtain ⟨_, _, _, _, _, _, _, _, rfl, _⟩ := h
    rfl
  · obtain ⟨x, y, z, u, M, ns, log, S, rfl, hM, g, h3, hy, hl, hz, h7, ok, hu0, q⟩ := h
    have nd := sc_nearly.nd
    refine ⟨_, pss_cons (ps_set (i := 4) nd rfl (Or.inl rfl) (pe_lst (pa_cons (pe_tup (pa_cons (pe_tup pa_nil) (pa_cons (pv 1) pa_nil))) pa_nil)))
      (pss_cons (ps_for PassesOwn.never rfl (pi_range1 (by rfl) T.b_range (pa_cons (pe_callB call_len_seq (by rfl) T.b_len PySem.boot_len (pa_cons (pv 2) pa_nil)) pa_nil)) (pg_name (i := 5) nd rfl (Or.inl rfl))
        (pss_cons (ps_set (i := 6) nd rfl (Or.inl rfl) (pe_lst pa_nil))
        (pss_cons (ps_for PassesOwn.never rfl (pi_list (pv 4)) (pg_tup rfl (pgs_cons (pg_name (i := 7) nd rfl (Or.inl rfl)) (pgs_cons (pg_name (i := 8) nd rfl (Or.inl rfl)) pgs_nil)))
          (pss_one (ps_if (pt_cmpR op_eq (pe_ix ix_tup (pe_ix ix_tup (pv 2) (pv 5) (fun _ _ => rfl)) pe_int (fun _ _ => rfl)) pe_str (nomark _))
            (pss_cons (ps_set (i := 9) nd rfl (Or.inl rfl) (pe_weak (pe_or (pe_cmpR op_in_seq (pv 5) (pv 3) (by rfl)) (pe_one (pe_cmpR op_eq (pe_ix ix_tup (pv 8) (pe_ix ix_tup (pe_ix ix_tup (pv 2) (pv 5) (fun _ _ => rfl)) pe_int (fun _ _ => rfl)) (fun _ _ => rfl)) (pe_ix ix_tup (pe_ix ix_tup (pv 2) (pv 5) (fun _ _ => rfl)) pe_int (fun _ _ => rfl)) (nomark _)))) k_so))
            (pss_one (ps_set (i := 6) nd rfl (Or.inl rfl) (pe_op op_cat (pv 6) (pe_ifExp (pt_val (pv 9)) (pe_lst (pa_cons (pe_tup (pa_cons (pv 7) (pa_cons (pv 8) pa_nil))) pa_nil)) (pe_lst pa_nil))))))
            (pss_one (ps_for PassesOwn.never rfl (pi_list (pe_has (ok_below T) hr (pa_cons (pv 8) pa_nil))) (pg_name (i := 10) nd rfl (Or.inl rfl))
              (pss_one (ps_if (pt_weak (PW.pt (pw_or (pt_cmpR (op_eqD hr.units) (pe_ix ix_tup (pv 2) (pv 5) (fun _ _ => rfl)) (pe_tup (pa_cons pe_str pa_nil)) (nomark _)) (pw_or (pt_cmpR op_in_seq (pv 5) (pv 3) (by rfl)) (pw_or1 (pt_cmpR op_eq (pe_ix ix_tup (pe_ix ix_tup (pv 2) (pv 5) (fun _ _ => rfl)) pe_int (fun _ _ => rfl)) (pv 10) (nomark _)))))) k_nr)
                (pss_one (ps_expr (pe_bm PySem.F.plainAttrs_list PySem.F.slot_list_append PySem.F.type_list_append mt_append (pv 6) (pa_cons (pe_tup (pa_cons (pe_op op_catA (pv 7) (pe_tup (pa_cons (pv 10) pa_nil))) (pa_cons (pe_has (ok_lpress T) hr (pa_cons (pv 0) (pa_cons (pv 8) (pa_cons (pv 10) pa_nil)))) pa_nil))) pa_nil)))) pss_nil)))))))
        (pss_one (ps_set (i := 4) nd rfl (Or.inl rfl) (pv 6))))))
      (pss_one (ps_ret (pe_callB (cr_sortF (hu70 hr)) (by rfl) T.b_sorted (by decide +kernel) (pa_cons (pe_lc (own := [("_law_play", 7), ("_law_numbers_here", 8)]) (g := gTup K 2 (gCons (gName 7) (gCons (gName 8) gNil))) (tt := tYes) (te := tVar 7) rfl nd (pi_list (pv 4)) (blkOk_by (N := ["_law_pushes", "_law_start", "_law_log_here", "_law_some", "_law_found", "_law_at", "_law_longer", "_law_play", "_law_numbers_here", "_law_is_so", "_law_lamp"]) (sc := defScope s_law_nearly) (by decide +kernel))
        (fun _ _ _ _ _ => pg_tup rfl (pgs_cons (pg_name (i := 7) nd rfl (Or.inl rfl)) (pgs_cons (pg_name (i := 8) nd rfl (Or.inl rfl)) pgs_nil))) (fun _ _ _ _ _ => pts_nil) (fun _ _ _ _ _ => pv 7)) pa_nil))))), ?_⟩
    have z0 : (0 : Nat) ≤ sizeLine := Nat.zero_le _
    have z1 : (1 : Nat) ≤ sizeLine := by decide
    have z2 : (2 : Nat) ≤ sizeLine := by decide
    obtain ⟨tl, es, rfl, htl, hp⟩ := id hz
    obtain ⟨ts, rfl, hts⟩ := id hu0
    have le : es.length = log.length := Paired.length hp
    refine ⟨z0, fun p1 hp1 => ⟨_, rfl, z2, fun t1 ht1 => ⟨z1, fun f hf => ?_⟩⟩⟩
    have e1 := snew (o := .tup []) hp1
    have e2 := snew (o := .tup [.ref p1, y]) ht1
    have e3 := snew (o := .lst [.ref t1]) hf
    have e13 := e1.trans (e2.trans e3)
    refine ⟨_, rfl, tl, _, rfl, .inr (sqT (e13 _ _ htl)), es.length, rfl, by omega, by omega, for_range (lo := 0) (n := es.length) (fun i σ G => ∃ f vs u5 u6 u7 u8 u9 u10, σ = [some x, some y, some (.ref tl), some (.ref ts), some (.ref f), u5, u6, u7, u8, u9, u10] ∧ QI H f vs (nearAt M ns log S i) G)
      ⟨f, _, none, none, none, none, none, none, rfl, e13, upd_same, .cons ⟨t1, _, _, rfl, e3 _ _ upd_same, ⟨p1, rfl, (e2.trans e3) _ _ upd_same⟩, hy.same e13⟩ .nil⟩ ?_ ?_⟩
    · rintro i σ B hi ⟨f, vs, u5, u6, u7, u8, u9, u10, rfl, I⟩
      rw [Int.zero_add]
      have hil : i < log.length := by omega
      obtain ⟨en, hen⟩ : ∃ e, log[i]? = some e := ⟨_, List.getElem?_eq_getElem hil⟩
      obtain ⟨ea, hea, hEa⟩ := pget' hp hen
      have hok := ok en (List.mem_of_getElem? hen)
      have cnt : (nearAt M ns log S i).length ≤ 2187 := Nat.le_trans (near_cnt g.rows hl h3 (Nat.le_of_lt hil)) (Nat.le_trans (Nat.pow_le_pow_right (by decide) (show i ≤ 7 by omega)) (by decide))
      refine ⟨z0, fun p hpn => ?_⟩
      have eb := snew (o := .lst []) hpn
      have I0 := I.go eb
      refine ⟨_, rfl, f, rfl, ⟨_, SqL.of I0.fnd⟩, for_list (K := K) (a := f) (xs := vs) (fun j σ G => ∃ p ws u7 u8 u9 u10, σ = [some x, some y, some (.ref tl), some (.ref ts), some (.ref f), some (.int (i : Nat)), some (.ref p), u7, u8, u9, u10] ∧ QI H f vs (nearAt M ns log S i) G ∧ H p = none ∧ p ≠ f ∧ G p = some (.lst ws) ∧ Paired (PnT G) ws (((nearAt M ns log S i).take j).flatMap (near1 M en i S)))
        ⟨p, [], _, _, _, _, rfl, I0, none_back I.same hpn, (ne_of_none I.fnd hpn).symm, upd_same, .nil⟩ (fun j σ G _ ⟨_, _, _, _, _, _, _, I, _⟩ => SqL.of I.fnd) ?_ ?_⟩
      · rintro j yv σ G hyj ⟨p, ws, v7, v8, v9, v10, rfl, IG, hp0, hpf, hws, hPw⟩
        obtain ⟨qq, hqq, tq, va, vb, rfl, htq, hva, hvb⟩ := pget IG.old hyj
        have hqm := List.mem_of_getElem? hqq
        obtain ⟨bd1, bd2⟩ := near_bd g.rows hl (Nat.le_of_lt hil) hqm
        have bd3 := presses_le (log := log) (i := i)
        have lws : ws.length ≤ 6561 := by
          have h1 := Paired.length hPw
          have h2 := flat_len (f := near1 M en i S) (n := 3) (xs := (nearAt M ns log S i).take j) fun qx hqx => near1_cnt (by have := (near_bd g.rows hl (Nat.le_of_lt hil) (List.mem_of_mem_take hqx)).1; omega)
          have h4 : ((nearAt M ns log S i).take j).length ≤ (nearAt M ns log S i).length := List.length_take_le' ..
          omega
        have nextTake : ((nearAt M ns log S i).take (j + 1)).flatMap (near1 M en i S) = ((nearAt M ns log S i).take j).flatMap (near1 M en i S) ++ near1 M en i S qq := by
          rw [take_step hqq, List.flatMap_append]
          simp
        refine ⟨tq, _, rfl, sqT htq, rfl, _, _, rfl, _, _, rfl, rfl, ?_⟩
        have hEG := hEa.same IG.same
        obtain ⟨te, rfl, hte⟩ := id hEG
        have nt : ∀ {G' : Hp} {u6 u7 u8 u9 u10 : Option V}, Same G G' → NT [some x, some y, some (.ref tl), some (.ref ts), some (.ref f), some (.int (i : Nat)), u6, u7, u8, u9, u10] G' i en S := fun {G' u6 u7 u8 u9 u10} e => ⟨tl, ts, es, .ref te, rfl, rfl, rfl, e _ _ (IG.same _ _ htl), hea, hEG.same e, e _ _ (IG.same _ _ hts)⟩
        refine ⟨_, rfl, _, rfl, tl, _, _, _, rfl, rfl, sqT (IG.same _ _ htl), atI_nat hea, ?_⟩
        by_cases hs : ∃ l zz, en = .seen l zz
        · obtain ⟨l, zz, rfl⟩ := hs
          refine ⟨te, _, _, _, rfl, rfl, sqT hte, atI_nat (j := 0) rfl, rfl, _, rfl, ?_⟩
          rw [show decide (V.str "seen" = V.str "seen") = true by simp]
          refine iteT ⟨i, l, zz, S, vb, qq.2, nt (Same.refl _), rfl, hvb, by rw [bd1]; exact hok, ?_⟩
          refine ⟨_, rfl, _, rfl, _, rfl, ite2 (fun c => ?_) (fun c => ?_)⟩
          · refine ⟨_, rfl, _, rfl, z2, fun t3 ht3 => ⟨z1, fun p3 hp3 => ?_⟩⟩
            have f1 := snew (o := .tup [va, vb]) ht3
            have f2 := snew (o := .lst [.ref t3]) hp3
            refine ⟨p, p3, _, _, rfl, rfl, (f1.trans f2) _ _ hws, upd_same, Nat.le_of_lt (sz8 (by simp; omega)), fun p4 hp4 => ?_⟩
            have f3 := snew (o := .lst (ws ++ [.ref t3])) hp4
            have fA := f1.trans (f2.trans f3)
            refine ⟨p4, _, _, _, _, _, rfl, IG.go fA, none_back (IG.same.trans (f1.trans f2)) hp4, (ne_of_none ((f1.trans f2) _ _ IG.fnd) hp4).symm, upd_same, ?_⟩
            rw [nextTake]
            have e1 : near1 M (.seen l zz) i S qq = [qq] := if_pos (of_decide_eq_true c)
            rw [e1]
            exact pair_app (L2.Paired.mapP hPw fun _ _ q => q.kp (kps fA)) ⟨t3, va, vb, rfl, (f2.trans f3) _ _ upd_same, hva.same fA, hvb.same fA⟩
          · refine ⟨z0, fun p3 hp3 => ?_⟩
            have f2 := snew (o := .lst []) hp3
            refine ⟨p, p3, _, _, rfl, rfl, f2 _ _ hws, upd_same, Nat.le_of_lt (sz8 (by simp; omega)), fun p4 hp4 => ?_⟩
            have f3 := snew (o := .lst (ws ++ [])) hp4
            have fA := f2.trans f3
            refine ⟨p4, _, _, _, _, _, rfl, IG.go fA, none_back (IG.same.trans f2) hp4, (ne_of_none (f2 _ _ IG.fnd) hp4).symm, upd_same, ?_⟩
            rw [nextTake]
            have e1 : near1 M (.seen l zz) i S qq = [] := if_neg (of_decide_eq_false (eq_false_of_ne_true c))
            rw [e1]
            exact pair_nil (L2.Paired.mapP hPw fun _ _ q => q.kp (kps fA))
        · have ef : ∃ c vs', entV en = .str c :: vs' ∧ decide (V.str c = V.str "seen") = false := by
            cases en with
            | seen l zz => exact absurd ⟨l, zz, rfl⟩ hs
            | pressed l => exact ⟨_, _, rfl, by decide +kernel⟩
            | lost => exact ⟨_, _, rfl, by decide +kernel⟩
          obtain ⟨c, vs', ec, ecd⟩ := ef
          have n1 : near1 M en i S qq = ((able qq.2).filter fun k => decide (fit en k = true ∨ (i : Int) ∈ S)).map fun (k : Nat) => (qq.1 ++ [(k : Int)], press M qq.2 k) := by
            cases en with
            | seen l zz => exact absurd ⟨l, zz, rfl⟩ hs
            | pressed l => rfl
            | lost => rfl
          rw [ec] at hte
          refine ⟨te, _, _, _, rfl, rfl, sqT hte, atI_nat (j := 0) rfl, rfl, _, rfl, ?_⟩
          rw [ecd]
          have al : (able qq.2).length ≤ 3 := by have := able_len (xs := qq.2); omega
          refine iteF ⟨_, rfl, vb, qq.2, rfl, hvb, by omega, fun pb H1 a1 hpb hpbl => ?_⟩
          rw [able_nat] at hpbl
          have ppb : p ≠ pb := ne_of_none hws hpb
          have I1 := IG.go a1
          have same1 : Same G H1 := a1
          refine ⟨pb, rfl, ⟨_, SqL.of hpbl⟩, for_list (K := K) (a := pb) (xs := natV (able qq.2)) (fun r σ G' => ∃ ws u10, σ = [some x, some y, some (.ref tl), some (.ref ts), some (.ref f), some (.int (i : Nat)), some (.ref p), some va, some vb, v9, u10] ∧ QI H f vs (nearAt M ns log S i) G' ∧ G' p = some (.lst ws) ∧ ws.length ≤ 6561 + r ∧ G' pb = some (.lst (natV (able qq.2))) ∧ IT G' va qq.1 ∧ IT G' vb qq.2 ∧
              Paired (PnT G') ws (((nearAt M ns log S i).take j).flatMap (near1 M en i S) ++ (((able qq.2).take r).filter fun k => decide (fit en k = true ∨ (i : Int) ∈ S)).map fun (k : Nat) => (qq.1 ++ [(k : Int)], press M qq.2 k)))
            ⟨ws, v10, rfl, I1, a1 _ _ hws, by omega, hpbl, hva.same a1, hvb.same a1, by simpa using L2.Paired.mapP hPw fun _ _ q => q.kp (kps a1)⟩ (fun r σ G' _ ⟨_, _, _, _, _, _, h, _⟩ => SqL.of h) ?_ ?_⟩
          · rintro r kv σ G1 hkr ⟨ws1, w10, rfl, J, hw1, lw1, hpb1, hva1, hvb1, hP1⟩
            rw [List.getElem?_map] at hkr
            obtain ⟨k, hk, rfl⟩ := Option.map_eq_some_iff.mp hkr
            have hkM : k < M.length := by rw [← bd1]; exact able_lt (List.mem_of_getElem? hk)
            have hrl := (List.getElem?_eq_some_iff.mp hk).1
            have stepF : (((able qq.2).take (r + 1)).filter fun k => decide (fit en k = true ∨ (i : Int) ∈ S)) = (((able qq.2).take r).filter fun k => decide (fit en k = true ∨ (i : Int) ∈ S)) ++ (if decide (fit en k = true ∨ (i : Int) ∈ S) = true then [k] else []) := by
              rw [take_step hk, List.filter_append, List.filter_cons, List.filter_nil]
            have ntG : NT [some x, some y, some (.ref tl), some (.ref ts), some (.ref f), some (.int (i : Nat)), some (.ref p), some va, some vb, v9, some (.int (k : Nat))] G1 i en S := ⟨tl, ts, es, .ref te, rfl, rfl, rfl, J.same _ _ htl, hea, hEa.same J.same, J.same _ _ hts⟩
            refine ⟨i, k, en, S, ntG, fun l zz h => hs ⟨l, zz, h⟩, rfl, fun G2 e2 => ite2 (fun c => ?_) (fun c => ?_)⟩
            · have J2 := J.go e2
              refine ⟨_, rfl, .inl ⟨rfl, _, SqL.of (e2 _ _ hw1)⟩, _, rfl, _, rfl, z1, fun t1 ht1 => ?_⟩
              have f1 := snew (o := .tup [.int (k : Nat)]) ht1
              refine r_cat (K := K) (ws := qq.1) (ms := [(k : Int)]) ((hva1.same e2).same f1) ⟨t1, rfl, upd_same⟩ (by simp; omega) fun v1 G3 e3 hv1 => ?_
              have e23 := e2.trans (f1.trans e3)
              refine ⟨_, rfl, _, rfl, _, rfl, _, _, k, M, qq.2, rfl, hM.same (J.same.trans e23), g, hvb1.same e23, bd1, hkM, fun v2 G4 e4 hv2 => ⟨z2, fun t2 ht2 => ?_⟩⟩
              have f5 := snew (o := .tup [v1, v2]) ht2
              have e25 := e23.trans (e4.trans f5)
              have hw2 := e25 _ _ hw1
              have kk := kpl (o := .lst (ws1 ++ [.ref t2])) hw2
              have J5 := J.go e25
              refine ⟨p, _, _, rfl, rfl, hw2, sz8 (by omega), ?_⟩
              refine ⟨ws1 ++ [.ref t2], _, rfl, ⟨sput J5.same hp0, by rw [upd_ne hpf.symm]; exact J5.fnd, L2.Paired.mapP J5.old fun _ _ q => q.kp kk⟩, upd_same, by rw [List.length_append]; simp; omega, by rw [upd_ne ppb.symm]; exact e25 _ _ hpb1, (hva1.same e25).kp kk, (hvb1.same e25).kp kk, ?_⟩
              rw [stepF, if_pos c, List.map_append, ← List.append_assoc]
              exact pair_app (L2.Paired.mapP hP1 fun _ _ q => (q.kp (kps e25)).kp kk) ⟨t2, v1, v2, rfl, kk.tup upd_same, (hv1.same (e4.trans f5)).kp kk, (hv2.same f5).kp kk⟩
            · refine ⟨ws1, _, rfl, J.go e2, e2 _ _ hw1, by omega, e2 _ _ hpb1, hva1.same e2, hvb1.same e2, ?_⟩
              rw [stepF, if_neg c, List.append_nil]
              exact L2.Paired.mapP hP1 fun _ _ q => q.kp (kps e2)
          · rintro σ G1 ⟨ws1, w10, rfl, J, hw1, lw1, hpb1, hva1, hvb1, hP1⟩
            rw [List.length_map, List.take_length, ← n1, ← nextTake] at hP1
            exact ⟨p, ws1, _, _, _, _, rfl, J, hp0, hpf, hw1, hP1⟩
      · rintro σ G ⟨p, ws, v7, v8, v9, v10, rfl, IG, hp0, hpf, hws, hPw⟩
        have lv : vs.length = (nearAt M ns log S i).length := Paired.length IG.old
        rw [lv, List.take_length, ← near_succ hen] at hPw
        exact ⟨_, rfl, p, ws, _, _, _, _, _, _, rfl, IG.same, hws, hPw⟩
    · rintro σ G ⟨f, vs, u5, u6, u7, u8, u9, u10, rfl, I⟩
      rw [le] at I
      have cnt : (nearAt M ns log S log.length).length ≤ 2187 := Nat.le_trans (near_cnt g.rows hl h3 (Nat.le_refl _)) (Nat.le_trans (Nat.pow_le_pow_right (by decide) h7) (by decide))
      refine ⟨_, rfl, f, rfl, ⟨_, SqL.of I.fnd⟩, fun D hD => ?_⟩
      refine lc_list (K := K) (a := f) (xs := vs) (fun i G' => ∃ ws : List V, Same G G' ∧ G' D = some (.lst ws) ∧ Paired (IT G') ws (((nearAt M ns log S log.length).map (·.1)).take i)) ⟨[], snew hD, upd_same, .nil⟩ (fun i G' _ ⟨_, e, _⟩ => SqL.of (e _ _ I.fnd)) (fun i yv G' hyj pz => ?_) (fun G' pz => ?_)
      · obtain ⟨ws, e, hDw, hP⟩ := pz
        obtain ⟨qq, hqq, tq, va, vb, rfl, htq, hva, hvb⟩ := pget I.old hyj
        refine ⟨tq, _, rfl, sqT (e _ _ htq), rfl, _, _, rfl, _, _, rfl, rfl, rfl, lcY ?_⟩
        have kk := kpl (o := .lst (ws ++ [va])) hDw
        have hst : ((nearAt M ns log S log.length).map (·.1))[i]? = some qq.1 := by rw [List.getElem?_map, hqq]; rfl
        refine ⟨_, rfl, _, hDw, sz8 (by rw [Paired.length hP, List.length_take, List.length_map]; omega), ws ++ [va], sput e hD, upd_same, ?_⟩
        rw [take_step hst]
        exact pair_app (L2.Paired.mapP hP fun _ _ q => q.kp kk) ((hva.same e).kp kk)
      · obtain ⟨ws, e, hDw, hP⟩ := pz
        have lv : vs.length = (nearAt M ns log S log.length).length := Paired.length I.old
        rw [lv, List.take_of_length_le (by rw [List.length_map]; exact Nat.le_refl _)] at hP
        have lw : ws.length = (nearAt M ns log S log.length).length := by rw [Paired.length hP, List.length_map]
        have f1 := plB_fst hP
        have lB : (plB ws ((nearAt M ns log S log.length).map (·.1))).length = ws.length := by
          have := congrArg List.length f1
          rw [List.length_map] at this
          exact this
        refine ⟨D, plB ws ((nearAt M ns log S log.length).map (·.1)), rfl, SqL.of (by rw [f1]; exact hDw), plB_dp hP, plB_alike hP, ?_, fun b hb => ?_, Nat.le_of_lt (sz8 (by omega)), fun pr hpr => ?_⟩
        · by_cases c0 : pressesAt log log.length = 0
          · refine .inr ⟨by have := near_few (P := M) (start := ns) (log := log) (S := S) (Nat.le_refl _) c0; omega, fun b hb z => ?_⟩
            obtain ⟨p, _, _, hz⟩ := plB_mem hP b hb
            rw [hz] at z; cases z
          · refine .inl (.inl fun d hd => ?_)
            obtain ⟨b, hb, rfl⟩ := List.mem_map.mp hd
            obtain ⟨p, hpm, _, hz⟩ := plB_mem hP b hb
            obtain ⟨qx, hqx, rfl⟩ := List.mem_map.mp hpm
            have hlen := (near_bd g.rows hl (Nat.le_refl _) hqx).2
            cases hc : qx.1 with
            | nil => rw [hc] at hlen; exact absurd hlen.symm c0
            | cons a as => rw [hz, hc]; exact ⟨_, _, rfl⟩
        · obtain ⟨p, _, _, hz⟩ := plB_mem hP b hb
          rw [hz]
          exact ints_depth p
        · have ef := snew (o := .lst ((sortP (plB ws ((nearAt M ns log S log.length).map (·.1)))).map (·.1))) hpr
          exact q pr _ _ _ (I.same.trans (e.trans ef)) (none_back (I.same.trans e) hpr) upd_same (plays_of hP ef)
end
end KX
end

section
set_option Elab.async false
set_option linter.all false
set_option maxRecDepth 100000
set_option maxHeartbeats 1000000
namespace KX
open PySem PySem.Spec PyProof.Rows L2 KR KM
open PySem.W (dataLt dataLe alike alikeAll AllAlike Sortable rowLt dataLt_ints dataLt_int)
open He (ga ma)
/-! ### a size and a lot -/
def RwT (H : Hp) (v : V) (lot : List Int) : Prop := ∃ t a, v = .ref t ∧ H t = some (.tup [.int lot.length, a]) ∧ IT H a lot
theorem RwT.kp {H H' : Hp} {v : V} {l : List Int} (e : Kp H H') (h : RwT H v l) : RwT H' v l := let ⟨t, a, p, q, r⟩ := h; ⟨t, a, p, e.tup q, r.kp e⟩
def rwD (lot : List Int) : PyData := .tuple [.int lot.length, .tuple (lot.map .int)]
def decR : PyData → List Int
  | .tuple [_, d] => dec d
  | _ => []
theorem decR_rw (l : List Int) : decR (rwD l) = l := dec_ints l
theorem rw_alike (a b : List Int) : alike (rwD a) (rwD b) = true := by
  unfold rwD
  simp [alike, alikeAll, alike_ints]
theorem rw_lt (a b : List Int) : dataLt (rwD a) (rwD b) = decide (lotLt a b) := by
  unfold rwD
  rw [data_row, row_cons (by simp [alike]), row_cons (by simp [alike, alike_ints]), rowLt_nil, eqv_ints, data_row, dataLt_ints, dataLt_int]
  simp only [PyData.eqv, beq_iff_eq, decide_eq_true_eq]
  have key : decide (lotLt a b) = decide (a.length < b.length ∨ (a.length = b.length ∧ a < b)) := decide_eq_decide.mpr Iff.rfl
  rw [key]
  by_cases h1 : a.length = b.length
  · rw [if_pos (by rw [h1])]
    by_cases h2 : a = b
    · subst h2
      simp [List.lt_irrefl]
    · rw [if_neg h2, h1]
      simp
  · rw [if_neg (by omega)]
    simp only [h1, false_and, or_false]
    exact decide_eq_decide.mpr (by omega)
theorem rw_depth (l : List Int) : (rwD l).depth ≤ 60 := by
  have hd : PyData.depthAll (l.map .int) ≤ 1 := by
    induction l with
    | nil => simp [PyData.depthAll]
    | cons x xs ih => simp only [List.map_cons, PyData.depthAll, PyData.depth]; omega
  unfold rwD
  simp only [PyData.depth, PyData.depthAll]
  omega
def rwB (ws : List V) (ps : List (List Int)) : List (V × PyData) := (ws.zip ps).map fun q => (q.1, rwD q.2)
section
variable {K : PySem.W.Frag} {H : Hp}
theorem rwB_fst : ∀ {ws : List V} {ps : List (List Int)}, Paired (RwT H) ws ps → (rwB ws ps).map (·.1) = ws
  | _, _, .nil => rfl
  | w :: ws, p :: ps, .cons h t => by
    have ih := rwB_fst t
    unfold rwB at ih ⊢
    rw [List.zip_cons_cons, List.map_cons, List.map_cons, ih]
theorem rwB_snd : ∀ {ws : List V} {ps : List (List Int)}, Paired (RwT H) ws ps → (rwB ws ps).map (fun b => decR b.2) = ps
  | _, _, .nil => rfl
  | w :: ws, p :: ps, .cons h t => by
    have ih := rwB_snd t
    unfold rwB at ih ⊢
    rw [List.zip_cons_cons, List.map_cons, List.map_cons, ih, decR_rw]
theorem rwB_mem : ∀ {ws : List V} {ps : List (List Int)}, Paired (RwT H) ws ps → ∀ b ∈ rwB ws ps, ∃ p ∈ ps, RwT H b.1 p ∧ b.2 = rwD p
  | _, _, .nil, b, h => by cases h
  | w :: ws, p :: ps, .cons h t, b, hb => by
    unfold rwB at hb
    rw [List.zip_cons_cons, List.map_cons] at hb
    rcases List.mem_cons.mp hb with rfl | hb
    · exact ⟨p, List.mem_cons_self, h, rfl⟩
    · obtain ⟨p', hp, z⟩ := rwB_mem t b hb
      exact ⟨p', List.mem_cons_of_mem _ hp, z⟩
theorem rwB_dp : ∀ {ws : List V} {ps : List (List Int)}, Paired (RwT H) ws ps → DpAll K H ((rwB ws ps).map (·.1)) ((rwB ws ps).map (·.2))
  | _, _, .nil => .nil
  | w :: ws, p :: ps, .cons h t => by
    have ih := rwB_dp t
    obtain ⟨t, a, rfl, ht, b, rfl, hb⟩ := h
    exact .cons (.tup (sqT ht) (.cons (.int _) (.cons (.tup (sqT hb) dp_ints) .nil))) ih
theorem rwB_alike {ws : List V} {ps : List (List Int)} (h : Paired (RwT H) ws ps) : AllAlike ((rwB ws ps).map (·.2)) := by
  intro d hd d' hd'
  obtain ⟨b, hb, rfl⟩ := List.mem_map.mp hd
  obtain ⟨b', hb', rfl⟩ := List.mem_map.mp hd'
  obtain ⟨p, _, _, z⟩ := rwB_mem h b hb
  obtain ⟨p', _, _, z'⟩ := rwB_mem h b' hb'
  rw [z, z']
  exact rw_alike p p'
theorem pair_ofR {F : V → List Int → Prop} : ∀ (bs : List (V × PyData)), (∀ b ∈ bs, F b.1 (decR b.2)) → Paired F (bs.map (·.1)) (bs.map fun b => decR b.2)
  | [], _ => .nil
  | b :: bs, h => .cons (h b List.mem_cons_self) (pair_ofR bs fun x hx => h x (List.mem_cons_of_mem _ hx))
/-- rows in order -/
structure Rows (H : Hp) (xs : List V) (lots sl : List (List Int)) : Prop where
  vals : Paired (RwT H) xs sl
  mem : ∀ l, l ∈ sl ↔ l ∈ lots
  ord : sl.Pairwise fun a b => ¬ lotLt b a
theorem rows_of {H' : Hp} {ws : List V} {lots : List (List Int)} (h : Paired (RwT H) ws lots) (e : Same H H') : Rows H' ((sortP (rwB ws lots)).map (·.1)) lots ((sortP (rwB ws lots)).map fun b => decR b.2) := by
  have hp := List.mergeSort_perm (rwB ws lots) (dataLe false fun b : V × PyData => b.2)
  have hmem : ∀ b, b ∈ sortP (rwB ws lots) ↔ b ∈ rwB ws lots := fun b => hp.mem_iff
  refine ⟨pair_ofR _ fun b hb => ?_, fun q => ?_, ?_⟩
  · obtain ⟨p, _, h1, h2⟩ := rwB_mem h b ((hmem b).mp hb)
    rw [h2, decR_rw]
    exact h1.kp (kps e)
  · have e2 := (hp.map (fun b => decR b.2)).mem_iff (a := q)
    rw [rwB_snd h] at e2
    exact e2
  · rw [List.pairwise_map]
    have hs := data_sorted (rwB ws lots)
    refine List.Pairwise.imp_of_mem (R := fun a b => dataLt b.2 a.2 = false) (fun {a b} ha hb q => ?_) hs
    obtain ⟨p, _, _, hz⟩ := rwB_mem h a ((hmem a).mp ha)
    obtain ⟨p', _, _, hz'⟩ := rwB_mem h b ((hmem b).mp hb)
    rw [hz, hz', rw_lt] at q
    rw [hz, hz', decR_rw, decR_rw]
    exact of_decide_eq_false q
end
/-! ### lists of tuples of ints, logs: as data -/
def plD (pl : List (List Int)) : PyData := .list (pl.map fun p => .tuple (p.map .int))
theorem can_ints (p : List Int) : PyData.canLayAll0 (p.map .int) = true := by
  induction p with
  | nil => rfl
  | cons x xs ih => simp only [List.map_cons, PyData.canLayAll0, PyData.canLay0, ih, Bool.and_self]
theorem dep_ints (p : List Int) : PyData.depthAll (p.map .int) ≤ 1 := by
  induction p with
  | nil => simp [PyData.depthAll]
  | cons x xs ih => simp only [List.map_cons, PyData.depthAll, PyData.depth]; omega
theorem pl_shaped (pl : List (List Int)) : SeqAt.shaped (plD pl) = true := by
  have h1 : PyData.canLayAll0 (pl.map fun p => .tuple (p.map .int)) = true := by
    induction pl with
    | nil => rfl
    | cons x xs ih => simp only [List.map_cons, PyData.canLayAll0, PyData.canLay0, ih, can_ints, Bool.and_self]
  have h2 : PyData.depthAll (pl.map fun p => .tuple (p.map .int)) ≤ 2 := by
    clear h1
    induction pl with
    | nil => simp [PyData.depthAll]
    | cons x xs ih => simp only [List.map_cons, PyData.depthAll, PyData.depth]; have := dep_ints x; omega
  unfold SeqAt.shaped plD
  rw [Bool.and_eq_true]
  refine ⟨by simpa [PyData.canLay0] using h1, decide_eq_true ?_⟩
  simp only [PyData.depth]
  omega
theorem pl_eqv (pl : List (List Int)) : PyData.eqv (plD pl) (.list []) = decide (pl = []) := by
  unfold plD
  cases pl <;> simp [PyData.eqv, PyData.eqvAll]
theorem dp_pls {K : PySem.W.Frag} {H : Hp} : ∀ {xs : List V} {pl : List (List Int)}, Paired (IT H) xs pl → DpAll K H xs (pl.map fun p => .tuple (p.map .int))
  | _, _, .nil => .nil
  | _, _, .cons ⟨a, e, h⟩ t => by subst e; exact .cons (.tup (sqT h) dp_ints) (dp_pls t)
theorem ints_shaped (p : List Int) : SeqAt.shaped (.tuple (p.map .int)) = true := by
  unfold SeqAt.shaped
  rw [Bool.and_eq_true]
  refine ⟨by simpa [PyData.canLay0] using can_ints p, decide_eq_true ?_⟩
  have := dep_ints p
  simp only [PyData.depth]
  omega
theorem log_can : ∀ (log : List Ent), PyData.canLayAll0 (log.map entD) = true ∧ PyData.depthAll (log.map entD) ≤ 3
  | [] => ⟨rfl, by simp [PyData.depthAll]⟩
  | e :: log => by
    obtain ⟨h1, h2⟩ := log_can log
    have c1 := SeqAt.canLay_of_shaped (ent_shaped e)
    have c2 : (entD e).depth ≤ 2 := by cases e <;> simp [entD, lostD, PyData.depth, PyData.depthAll]
    refine ⟨by simp only [List.map_cons, PyData.canLayAll0, c1, h1, Bool.and_self], ?_⟩
    simp only [List.map_cons, PyData.depthAll]
    omega
theorem log_shaped (log : List Ent) : SeqAt.shaped (.tuple (log.map entD)) = true := by
  obtain ⟨h1, h2⟩ := log_can log
  unfold SeqAt.shaped
  rw [Bool.and_eq_true]
  refine ⟨by simpa [PyData.canLay0] using h1, decide_eq_true ?_⟩
  simp only [PyData.depth]
  omega
theorem log_eqv (log : List Ent) : PyData.eqv (.tuple (log.map entD)) (.tuple []) = decide (log = []) := by
  cases log <;> simp [PyData.eqv, PyData.eqvAll]
theorem dp_log {K : PySem.W.Frag} {H : Hp} : ∀ {xs : List V} {log : List Ent}, Paired (EnT H) xs log → DpAll K H xs (log.map entD)
  | _, _, .nil => .nil
  | _, _, .cons h t => .cons (dp_ent h) (dp_log t)
end KX
end

section
set_option Elab.async false
set_option linter.all false
set_option maxRecDepth 100000
set_option maxHeartbeats 1000000
namespace KX
open PySem PySem.Spec PyProof.Rows L2 KR KM
open He (ga ma)
theorem ps_weak {X : Cx} {st : Stmt} {t t' : TS} (h : PS X st t) (k : ∀ D σ H, t' D σ H → t D σ H) : PS X st t' := ⟨fun pins s σ H D I q => h.run pins s σ H D I (k D σ H q)⟩
abbrev sg (scr r x h st v : V) (u2 u7 u8 u9 u10 u11 u12 : Option V) : L2.St := [some scr, some r, u2, some x, some h, some st, some v, u7, u8, u9, u10, u11, u12, none]
/-- what a turn has made -/
structure LF (K : PySem.W.Frag) (M : Pushes) (ns : List Int) (log : List Ent) (x h st v : V) (H : Hp) : Prop where
  mt : MT H x M
  ha : HaT K H h M
  it : IT H st ns
  nl : ns.length = M.length
  m3 : M.length ≤ 3
  lg : LgT H v log
  l7 : log.length ≤ 7
  gl : GoodL M.length log
theorem LF.go {K : PySem.W.Frag} {M : Pushes} {ns : List Int} {log : List Ent} {x h st v : V} {H H' : Hp} (F : LF K M ns log x h st v H) (e : Same H H') : LF K M ns log x h st v H' := ⟨F.mt.same e, F.ha.same e, F.it.same e, F.nl, F.m3, F.lg.same e, F.l7, F.gl⟩
theorem pair_take {α β : Type} {F : α → β → Prop} : ∀ {xs : List α} {ys : List β} (k : Nat), Paired F xs ys → Paired F (xs.take k) (ys.take k)
  | _, _, 0, _ => .nil
  | _, _, k + 1, .nil => .nil
  | _, _, k + 1, .cons h t => .cons h (pair_take k t)
theorem pair_drop {α β : Type} {F : α → β → Prop} : ∀ {xs : List α} {ys : List β} (k : Nat), Paired F xs ys → Paired F (xs.drop k) (ys.drop k)
  | _, _, 0, h => h
  | _, _, k + 1, .nil => .nil
  | _, _, k + 1, .cons h t => pair_drop k t
theorem pair_cat {α β : Type} {F : α → β → Prop} : ∀ {xs : List α} {ys : List β} {xs' : List α} {ys' : List β}, Paired F xs ys → Paired F xs' ys' → Paired F (xs ++ xs') (ys ++ ys')
  | _, _, _, _, .nil, h => h
  | _, _, _, _, .cons h t, h' => .cons h (pair_cat t h')
theorem r_catLL {K : PySem.W.Frag} {H : Hp} {x y : V} {l1 l2 : List Ent} {Q : VK} (hx : LgT H x l1) (hy : LgT H y l2) (hl : l1.length + l2.length ≤ 1000) (q : ∀ v' H', Same H H' → LgT H' v' (l1 ++ l2) → Q v' H') : rCatA K x y H Q := by
  obtain ⟨a, es, rfl, ha, hp⟩ := hx
  obtain ⟨b, fs, rfl, hb, hq⟩ := hy
  have le : es.length = l1.length := Paired.length hp
  have lf : fs.length = l2.length := Paired.length hq
  refine ⟨a, b, _, _, rfl, rfl, sqT ha, sqT hb, Nat.le_of_lt (sz8 (by omega)), fun z => ?_, fun z z2 => ?_, fun z z2 p hp' => ?_⟩
  · subst z
    cases hp
    exact q _ _ (Same.refl H) ⟨b, _, rfl, hb, hq⟩
  · subst z2
    cases hq
    exact q _ _ (Same.refl H) ⟨a, _, rfl, ha, by rw [List.append_nil]; exact hp⟩
  · have e1 := snew (o := .tup (es ++ fs)) hp'
    exact q _ _ e1 ⟨p, _, rfl, upd_same, pair_cat (L2.Paired.mapP hp fun _ _ q => q.same e1) (L2.Paired.mapP hq fun _ _ q => q.same e1)⟩
theorem r_sl {K : PySem.W.Frag} {H : Hp} {a : Addr} {xs : List V} {lo hi : Option Int} {Q : VK} (ha : H a = some (.tup xs)) (q : ∀ b H', Same H H' → H' b = some (.tup (cutV xs lo hi)) → Q (.ref b) H') : rSlA K (.ref a) lo hi H Q := by
  refine ⟨a, xs, rfl, sqT ha, fun z => ?_, fun _ p hp => q p _ (snew hp) upd_same⟩
  refine q a H (Same.refl H) ?_
  have e : cutV xs lo hi = xs := by
    unfold cutV
    rw [z.1, z.2]
    simp
  rw [e]
  exact ha
theorem cut_lo {xs : List V} {k : Nat} (h : k ≤ xs.length) : cutV xs none (some (k : Int)) = xs.take k := by
  unfold cutV
  rw [HT.sIx_nat, HT.sIx_none, Nat.min_eq_left h]
  simp
theorem cut_hi {xs : List V} {k : Nat} (h : k ≤ xs.length) : cutV xs (some (k : Int)) none = xs.drop k := by
  unfold cutV
  rw [HT.sIx_nat, HT.sIx_none, Nat.min_eq_left h]
  exact List.take_of_length_le (by rw [List.length_drop]; exact Nat.le_refl _)
def tEdit (K : PySem.W.Frag) : TS := fun D σ H => ∃ (r scr : Addr) (sc : List Int) (scV x h st v : V) (u2 u7 u8 u9 u10 u11 u12 : Option V) (M : Pushes) (log : List Ent), σ = sg scV (.ref r) x h st v u2 u7 u8 u9 u10 u11 u12 ∧ RO K r scr sc H H ∧ MT H x M ∧ GoodP M ∧ M.length ≤ 3 ∧ LgT H v log ∧ log.length ≤ 7 ∧ lostN log ≤ 5 ∧ (∀ e ∈ log, entOk M.length e) ∧
  ∀ v' u7' log' H', RO K r scr sc H H' → LgT H' v' log' → log'.length ≤ 7 → GoodL M.length log' → D.nx (sg scV (.ref r) x h st v' u2 u7' u8 u9 u10 u11 u12) H'
def tLots (K : PySem.W.Frag) : TS := fun D σ H => ∃ (scV r x h st v : V) (lp : Addr) (u2 u7 u9 u10 u11 u12 : Option V) (log : List Ent) (vs : List V), σ = sg scV r x h st v u2 u7 (some (.ref lp)) u9 u10 u11 u12 ∧ LgT H v log ∧ log.length ≤ 7 ∧ H lp = some (.lst vs) ∧ Paired (IT H) vs [[]] ∧
  ∀ u7' lp' vs' H', Same H H' → H' lp' = some (.lst vs') → Paired (IT H') vs' (lotsL log) → D.nx (sg scV r x h st v u2 u7' (some (.ref lp')) u9 u10 u11 u12) H'
/-- what the search ends with -/
def SE (M : Pushes) (ns : List Int) (log : List Ent) (due pls : V) (H : Hp) : Prop := ((∀ l ∈ lotsL log, nearAt M ns log l log.length = []) ∧ due = .non) ∨
  ∃ lot p0 xs pl, First M ns log lot ∧ IT H due lot ∧ pls = .ref p0 ∧ H p0 = some (.lst xs) ∧ Plays H xs (nearAt M ns log lot log.length) pl
def tSearch (K : PySem.W.Frag) : TS := fun D σ H => ∃ (scV r x h st v : V) (lp : Addr) (u2 u7 u11 u12 : Option V) (pl0 : V) (M : Pushes) (ns : List Int) (log : List Ent) (vs : List V), σ = sg scV r x h st v u2 u7 (some (.ref lp)) (some .non) (some pl0) u11 u12 ∧ LF K M ns log x h st v H ∧ H lp = some (.lst vs) ∧ Paired (IT H) vs (lotsL log) ∧
  ∀ due pls u11' u12' H', Same H H' → SE M ns log due pls H' → D.nx (sg scV r x h st v u2 u7 (some (.ref lp)) (some due) (some pls) u11' u12') H'
theorem Plays.same {H H' : Hp} {xs : List V} {near : List Np} {pl : List (List Int)} (e : Same H H') (h : Plays H xs near pl) : Plays H' xs near pl := ⟨L2.Paired.mapP h.vals fun _ _ q => q.same e, h.mem, h.low⟩
theorem pl_nil {H : Hp} {xs : List V} {near : List Np} {pl : List (List Int)} (h : Plays H xs near pl) : pl = [] ↔ near = [] := by
  constructor
  · intro z
    refine List.eq_nil_iff_forall_not_mem.mpr fun e he => ?_
    have := (h.mem e.1).mpr ⟨e.2, he⟩
    rw [z] at this
    cases this
  · intro z
    refine List.eq_nil_iff_forall_not_mem.mpr fun e he => ?_
    obtain ⟨x, hx⟩ := (h.mem e).mp he
    rw [z] at hx
    cases hx
def SJ (M : Pushes) (ns : List Int) (log : List Ent) (done : List (List Int)) (due pls : V) (H : Hp) : Prop := ((∀ l ∈ done, nearAt M ns log l log.length = []) ∧ due = .non) ∨
  ∃ lot p0 xs pl, First M ns log lot ∧ IT H due lot ∧ pls = .ref p0 ∧ H p0 = some (.lst xs) ∧ Plays H xs (nearAt M ns log lot log.length) pl
theorem SJ.same {M : Pushes} {ns : List Int} {log : List Ent} {done : List (List Int)} {due pls : V} {H H' : Hp} (e : Same H H') (h : SJ M ns log done due pls H) : SJ M ns log done due pls H' :=
  h.elim .inl fun ⟨lot, p0, xs, pl, a, b, c, d, f⟩ => .inr ⟨lot, p0, xs, pl, a, b.same e, c, e _ _ d, f.same e⟩
theorem first_of {M : Pushes} {ns : List Int} {log : List Ent} {H : Hp} {xs : List V} {sl : List (List Int)} {j : Nat} {lot : List Int} (R : Rows H xs (lotsL log) sl) (hj : sl[j]? = some lot) (h0 : ∀ l ∈ sl.take j, nearAt M ns log l log.length = []) (hn : nearAt M ns log lot log.length ≠ []) : First M ns log lot := by
  refine ⟨(R.mem lot).mp (List.mem_of_getElem? hj), hn, fun l hl hln => ?_⟩
  obtain ⟨m, hm⟩ := List.getElem?_of_mem ((R.mem l).mpr hl)
  rcases Nat.lt_trichotomy m j with c | c | c
  · exact absurd (h0 l (List.mem_iff_getElem?.mpr ⟨m, by rw [List.getElem?_take, if_pos c]; exact hm⟩)) hln
  · subst c
    have : l = lot := Option.some.inj (hm.symm.trans hj)
    subst this
    rintro (z | ⟨_, z⟩)
    · exact Nat.lt_irrefl _ z
    · exact List.lt_irrefl _ z
  · obtain ⟨h1, e1⟩ := List.getElem?_eq_some_iff.mp hj
    obtain ⟨h2, e2⟩ := List.getElem?_eq_some_iff.mp hm
    have := List.pairwise_iff_getElem.mp R.ord j m h1 h2 c
    rw [e1, e2] at this
    exact this
section
variable {P : Program} {w : World} {K : PySem.W.Frag} {mg : Str → Option Value} {base : Heap}
def sp_law (K : PySem.W.Frag) : Sp := fun vs H Q _ => ∃ (a : Addr) (sc : List Int), vs = [.ref a] ∧ SqL K H a (sc.map V.int) ∧ ∀ H', Q (.bl true) H'
theorem sc_law : FnScope ["_law_script", "_law_row", "_law_turn", "_law_pushes", "_law_hall", "_law_start", "_law_log_here", "_law_at", "_law_lots", "_law_due", "_law_plays", "_law_size", "_law_lot", "_law_k"] ["_law_script"] (defScope s_law) := ⟨rfl, rfl, rfl, by decide +kernel, rfl, by decide +kernel, by decide +kernel⟩
theorem ok_law (T : Tx K mg) {fd : FuncData} (FF : Fun K "law" "law" s_law (ga K "law") fd) : FnOk P w K mg base CX0 7 (ga K "law") fd ["_law_script"] (sp_law K) := by
  obtain ⟨fdH, GH, bH⟩ := ok_init (P := P) (w := w) (base := base) T
  refine FF.ok sc_law (fun vs H Q E h => ?_) (fun cdv A outer s H vs Q E hr h => ?_)
  · obtain ⟨_, _, rfl, _⟩ := h
    rfl
  · obtain ⟨a, sc, rfl, hsc, q⟩ := h
    have nd := sc_law.nd
    let N : List Str := ["_law_script", "_law_row", "_law_turn", "_law_pushes", "_law_hall", "_law_start", "_law_log_here", "_law_at", "_law_lots", "_law_due", "_law_plays", "_law_size", "_law_lot", "_law_k"]
    have z0 : (0 : Nat) ≤ sizeLine := Nat.zero_le _
    have z1 : (1 : Nat) ≤ sizeLine := by decide
    have z2 : (2 : Nat) ≤ sizeLine := by decide
    refine ⟨_, pss_cons (ps_set (i := 1) nd rfl (Or.inl rfl) (pe_lst (pa_cons (pv 0) (pa_cons pe_int (pa_cons pe_int (pa_cons pe_int pa_nil))))))
      (pss_cons (ps_for PassesOwn.never rfl (pi_range1 (by rfl) T.b_range (pa_cons pe_int pa_nil)) (pg_name (i := 2) nd rfl (Or.inl rfl))
        (pss_cons (ps_set (i := 3) nd rfl (Or.inl rfl) (pe_has ((ok_one_hall T).mono (by decide)) hr (pa_cons (pv 1) (pa_cons pe_int pa_nil))))
        (pss_cons (ps_par (i := 4) (j := 5) rfl nd rfl rfl (by decide) rfl rfl (pa_cons (pe_make T.mkH GH (hr.mono (by decide)) (by rfl) T.g_Hall bH .nil pass0 (pa_cons (pv 3) pa_nil)) (pa_cons (pe_has ((ok_numbers T).mono (by decide)) hr (pa_cons (pv 1) (pa_cons (pe_callB call_len_seq (by rfl) T.b_len PySem.boot_len (pa_cons (pv 3) pa_nil)) (pa_cons pe_int pa_nil)))) pa_nil)) (by rfl))
        (pss_cons (ps_set (i := 6) nd rfl (Or.inr rfl) (pe_ix ix_tup (pe_has ((ok_log T).mono (by decide)) hr (pa_cons (pv 1) (pa_cons (pv 3) (pa_cons (pv 5) (pa_cons pe_int pa_nil))))) pe_int (fun _ _ => rfl)))
        (pss_cons (ps_weak (t' := tEdit K) (ps_if (PW.pt (pw_and (pt_cmpR op_eq (pe_has ((ok_taken T).mono (by decide)) hr (pa_cons (pv 1) (pa_cons pe_int pa_nil))) pe_int (nomark _)) (pw_and1 (pt_cmpR (op_neD hr.units) (pv 6) (pe_tup pa_nil) (nomark _)))))
          (pss_cons (ps_set (i := 7) nd rfl (Or.inr rfl) (pe_has ((ok_taken T).mono (by decide)) hr (pa_cons (pv 1) (pa_cons (pe_callB call_len_seq (by rfl) T.b_len PySem.boot_len (pa_cons (pv 6) pa_nil)) pa_nil))))
          (pss_one (ps_set (i := 6) nd rfl (Or.inr rfl) (pe_op op_catA (pe_op op_catA (pe_slice sl_tupA (pv 6) po_none (po_some (pv 7))) (pe_tup (pa_cons (pe_tup (pa_cons pe_str (pa_cons (pe_has ((ok_taken T).mono (by decide)) hr (pa_cons (pv 1) (pa_cons (pe_callB call_len_seq (by rfl) T.b_len PySem.boot_len (pa_cons (pv 3) pa_nil)) pa_nil))) pa_nil))) pa_nil))) (pe_slice sl_tupA (pv 6) (po_some (pe_op op_add (pv 7) pe_int)) po_none))))) pss_nil) ?k4)
        (pss_cons (ps_par3 (i := 8) (j := 9) (l := 10) rfl nd rfl rfl rfl (by decide) (by decide) (by decide) rfl rfl rfl (pa_cons (pe_lst (pa_cons (pe_tup pa_nil) pa_nil)) (pa_cons pe_non (pa_cons (pe_lst pa_nil) pa_nil))) (by rfl))
        (pss_cons (ps_weak (t' := tLots K) (ps_for PassesOwn.never rfl (pi_list (pe_lc (own := [("_law_k", 13)]) (g := gName 13) (tt := tTest (tOp (rNeD K) (tOp (rIxT K) (tVar 6) (tVar 13)) (tTup (tCons (tC (.str "lost")) tNil)))) (te := tVar 13) rfl nd (pi_range1 (by rfl) T.b_range (pa_cons (pe_callB call_len_seq (by rfl) T.b_len PySem.boot_len (pa_cons (pv 6) pa_nil)) pa_nil)) (blkOk_by (N := ["_law_script", "_law_row", "_law_turn", "_law_pushes", "_law_hall", "_law_start", "_law_log_here", "_law_at", "_law_lots", "_law_due", "_law_plays", "_law_size", "_law_lot", "_law_k"]) (sc := defScope s_law) (by decide +kernel))
            (fun _ _ _ _ _ => pg_name (i := 13) nd rfl (Or.inl rfl)) (fun _ _ _ _ _ => pts_one (pt_cmpR (op_neD hr.units) (pe_ix ix_tup (pv 6) (pv 13) (fun _ _ => rfl)) (pe_tup (pa_cons pe_str pa_nil)) (nomark _))) (fun _ _ _ _ _ => pv 13))) (pg_name (i := 7) nd rfl (Or.inr rfl))
          (pss_one (ps_set (i := 8) nd rfl (Or.inl rfl) (pe_op op_cat (pv 8) (pe_lc (own := [("_law_lot", 12)]) (g := gName 12) (tt := tYes) (te := tOp (rCatA K) (tVar 12) (tTup (tCons (tVar 7) tNil))) rfl nd (pi_list (pv 8)) (blkOk_by (N := ["_law_script", "_law_row", "_law_turn", "_law_pushes", "_law_hall", "_law_start", "_law_log_here", "_law_at", "_law_lots", "_law_due", "_law_plays", "_law_size", "_law_lot", "_law_k"]) (sc := defScope s_law) (by decide +kernel))
            (fun _ _ _ _ _ => pg_name (i := 12) nd rfl (Or.inl rfl)) (fun _ _ _ _ _ => pts_nil) (fun _ _ _ _ _ => pe_op op_catA (pv 12) (pe_tup (pa_cons (pv 7) pa_nil))))))) ) ?k6)
        (pss_cons (ps_weak (t' := tSearch K) (ps_for PassesOwn.never rfl (pi_list (pe_callB (cr_sortD (hu70 hr)) (by rfl) T.b_sorted (by decide +kernel) (pa_cons (pe_lc (own := [("_law_lot", 12)]) (g := gName 12) (tt := tYes) (te := tTup (tCons (tLen K 12) (tCons (tVar 12) tNil))) rfl nd (pi_list (pv 8)) (blkOk_by (N := ["_law_script", "_law_row", "_law_turn", "_law_pushes", "_law_hall", "_law_start", "_law_log_here", "_law_at", "_law_lots", "_law_due", "_law_plays", "_law_size", "_law_lot", "_law_k"]) (sc := defScope s_law) (by decide +kernel))
            (fun _ _ _ _ _ => pg_name (i := 12) nd rfl (Or.inl rfl)) (fun _ _ _ _ _ => pts_nil) (fun _ _ _ _ _ => pe_tup (pa_cons (pe_callB call_len_seq (by rfl) T.b_len PySem.boot_len (pa_cons (pv 12) pa_nil)) (pa_cons (pv 12) pa_nil)))) pa_nil))) (pg_tup rfl (pgs_cons (pg_name (i := 11) nd rfl (Or.inl rfl)) (pgs_cons (pg_name (i := 12) nd rfl (Or.inl rfl)) pgs_nil)))
          (pss_one (ps_if (PW.pt (pw_and (pt_cmpR op_isN (pv 9) pe_non (nomark _)) (pw_and1 (pt_cmpR (op_neD hr.units) (pe_has ((ok_nearly T).mono (by decide)) hr (pa_cons (pv 3) (pa_cons (pv 5) (pa_cons (pv 6) (pa_cons (pv 12) pa_nil))))) (pe_lst pa_nil) (nomark _)))))
            (pss_one (ps_par (i := 9) (j := 10) rfl nd rfl rfl (by decide) rfl rfl (pa_cons (pv 12) (pa_cons (pe_has ((ok_nearly T).mono (by decide)) hr (pa_cons (pv 3) (pa_cons (pv 5) (pa_cons (pv 6) (pa_cons (pv 12) pa_nil))))) pa_nil)) (by rfl))) pss_nil))) ?k7)
        (pss_cons (ps_if (pt_not (pt_val (pe_has ((ok_alike T).mono (by decide)) hr (pa_cons (pe_has ((ok_doubted T).mono (by decide)) hr (pa_cons (pv 4) (pa_cons (pv 5) (pa_cons (pv 6) pa_nil)))) (pa_cons (pv 9) pa_nil))))) (pss_one (ps_ret pe_bl)) pss_nil)
        (pss_cons (ps_if (pt_not (pt_val (pe_has ((ok_alike T).mono (by decide)) hr (pa_cons (pe_has ((ok_mended T).mono (by decide)) hr (pa_cons (pv 4) (pa_cons (pv 5) (pa_cons (pv 6) pa_nil)))) (pa_cons (pe_ifExp (pt_cmpR op_notN (pv 9) pe_non (nomark _)) (pe_ix ix_list (pv 10) pe_int (fun _ _ => rfl)) pe_non) pa_nil))))) (pss_one (ps_ret pe_bl)) pss_nil)
        (pss_one (ps_if (PW.pt (pw_and (pt_cmpR (op_eqD hr.units) (pv 9) (pe_tup pa_nil) (nomark _)) (pw_and1 (pt_not (pt_val (pe_has ((ok_fits T).mono (by decide)) hr (pa_cons (pv 4) (pa_cons (pv 5) (pa_cons (pe_ix ix_list (pv 10) pe_int (fun _ _ => rfl)) (pa_cons (pv 6) pa_nil))))))))))
          (pss_one (ps_ret pe_bl)) pss_nil))))))))))))
      (pss_one (ps_ret pe_bl))), ?_⟩
    case k4 =>
      rintro D σ H0 ⟨r, scr, sc, scV, x, hh, st, v, u2, u7, u8, u9, u10, u11, u12, M, log, rfl, R, hM, g, h3, hL, h7, h5, ok, q⟩
      obtain ⟨tl, es, rfl, htl, hp⟩ := id hL
      obtain ⟨tm, rsM, rfl, htm, hPm⟩ := id hM
      have lrs : rsM.length = M.length := Paired.length hPm
      have le : es.length = log.length := Paired.length hp
      have gp := g.pos
      have stop : ∀ H', RO K r scr sc H0 H' → D.nx (sg scV (.ref r) (.ref tm) hh st (.ref tl) u2 u7 u8 u9 u10 u11 u12) H' := fun H' R' => q _ u7 log H' R' (hL.kp R'.kp) h7 ⟨by omega, by omega, ok⟩
      refine ⟨_, rfl, r, scr, sc, 2, rfl, R, by decide, by decide, fun z H1 hz R1 => ⟨rfl, _, rfl, ite2 (fun c => ?_) (fun c => stop H1 R1)⟩⟩
      have htl1 := R1.kp.tup htl
      refine ⟨_, rfl, z0, fun p hp0 => ?_⟩
      have e1 := snew (o := .tup []) hp0
      have R2 := R1.same e1
      refine ⟨_, _, .tup (sqT (e1 _ _ htl1)) (dp_log (L2.Paired.mapP hp fun _ _ q => q.kp R2.kp)), .tup (sqT upd_same) .nil, log_shaped _, rfl, ?_⟩
      rw [log_eqv]
      refine ⟨_, rfl, ite2 (fun c2 => ?_) (fun c2 => stop _ R2)⟩
      have hne : log ≠ [] := by simpa using c2
      have hpos : 0 < log.length := List.length_pos_iff.mpr hne
      refine ⟨_, rfl, _, rfl, tl, _, rfl, .inr (sqT (e1 _ _ htl1)), r, scr, sc, _, rfl, R2.here, by omega, by omega, fun at' H2 hat R3 => ?_⟩
      have hatl : at' < log.length := by omega
      have R23 := R2.then R3
      have htl3 := R23.kp.tup htl
      have hp3 : Paired (EnT H2) es log := L2.Paired.mapP hp fun _ _ q => q.kp R23.kp
      refine ⟨_, rfl, _, rfl, _, rfl, ?_⟩
      refine r_sl (K := K) htl3 fun b H3 e3 hb => ?_
      have hb' : H3 b = some (.tup (es.take at')) := by rw [← cut_lo (by omega)]; exact hb
      have R33 := R23.same e3
      refine ⟨_, rfl, _, rfl, tm, _, rfl, .inr (sqT (R33.kp.tup htm)), r, scr, sc, _, rfl, R33.here, by omega, by omega, fun k H4 hk R4 => ⟨z2, fun t1 ht1 => ⟨z1, fun t2 ht2 => ?_⟩⟩⟩
      have f1 := snew (o := .tup [.str "pressed", .int (k : Nat)]) ht1
      have f2 := snew (o := .tup [.ref t1]) ht2
      have R34 := (R33.then R4).same (f1.trans f2)
      have K34 : Kp H3 _ := R4.kp.trans (kps (f1.trans f2))
      have hT : LgT _ (.ref b) (log.take at') := ⟨b, _, rfl, K34.tup hb', pair_take at' (L2.Paired.mapP hp3 fun _ _ q => (q.same e3).kp K34)⟩
      refine r_catL (K := K) (log := log.take at') (v := .ref t1) (e := .pressed k) hT upd_same ⟨t1, rfl, f2 _ _ upd_same⟩ (by rw [List.length_take]; omega) fun v1 H5 e5 hv1 => ?_
      have R5 := R34.same e5
      have htl5 := R5.kp.tup htl
      refine ⟨_, rfl, _, rfl, _, _, rfl, rfl, _, rfl, ?_⟩
      dsimp only [tNoPart]
      refine r_sl (K := K) htl5 fun b2 H6 e6 hb2 => ?_
      have hb2' : H6 b2 = some (.tup (es.drop (at' + 1))) := by rw [← cut_hi (by omega)]; exact hb2
      have R6 := R5.same e6
      have hD : LgT H6 (.ref b2) (log.drop (at' + 1)) := ⟨b2, _, rfl, hb2', pair_drop (at' + 1) (L2.Paired.mapP hp fun _ _ q => q.kp R6.kp)⟩
      refine r_catLL (K := K) (hv1.same e6) hD (by rw [List.length_append, List.length_take, List.length_drop]; simp; omega) fun v2 H7 e7 hv2 => ?_
      refine q v2 _ _ H7 (R6.same e7) hv2 ?_ ⟨?_, ?_, fun e he => ?_⟩
      · rw [List.length_append, List.length_append, List.length_take, List.length_drop]; simp; omega
      · rw [List.length_append, List.length_append, List.length_take, List.length_drop]; simp; omega
      · have l1 : lostN (log.take at') + lostN (log.drop (at' + 1)) ≤ lostN log := by
          have h1 : lostN (log.take at') + lostN (log.drop at') = lostN log := by
            unfold lostN
            rw [← List.countP_append, List.take_append_drop]
          have h2 : lostN (log.drop (at' + 1)) ≤ lostN (log.drop at') := by
            refine List.Sublist.countP_le ?_
            rw [← List.drop_drop]
            exact List.drop_sublist _ _
          omega
        have h2 : lostN (log.take at' ++ [Ent.pressed k] ++ log.drop (at' + 1)) = lostN (log.take at') + lostN (log.drop (at' + 1)) := by
          unfold lostN
          simp [List.countP_append]
        omega
      · rcases List.mem_append.mp he with he | he
        · rcases List.mem_append.mp he with he | he
          · exact ok e (List.mem_of_mem_take he)
          · rw [List.mem_singleton.mp he]
            show k < M.length
            omega
        · exact ok e (List.mem_of_mem_drop he)
    case k6 =>
      rintro D σ H0 ⟨scV, r, x, hh, st, v, lp, u2, u7, u9, u10, u11, u12, log, vs, rfl, hL, h7, hlp, hvs, q⟩
      obtain ⟨tl, es, rfl, htl, hp⟩ := id hL
      have le : es.length = log.length := Paired.length hp
      refine ⟨_, rfl, tl, _, rfl, .inr (sqT htl), es.length, rfl, by omega, by omega, fun Dk hDk => ?_⟩
      refine lc_range (lo := 0) (n := es.length) (fun i H' => Same H0 H' ∧ H' Dk = some (.lst (natV (posN log i)))) ⟨snew hDk, upd_same⟩ (fun i H' hi pz => ?_) (fun H' pz => ?_)
      · have e0 : (0 : Int) + (i : Nat) = (i : Nat) := Int.zero_add _
        obtain ⟨en, hen⟩ : ∃ e, log[i]? = some e := ⟨_, List.getElem?_eq_getElem (by omega)⟩
        obtain ⟨ea, hea, hEa⟩ := pget' hp hen
        refine ⟨rfl, ?_⟩
        refine ⟨_, rfl, _, rfl, tl, _, _, _, rfl, rfl, sqT (pz.1 _ _ htl), at_of e0 hea, z1, fun p hp0 => ?_⟩
        have e1 := snew (o := .tup [.str "lost"]) hp0
        refine ⟨_, _, dp_ent ((hEa.same pz.1).same e1), .tup (sqT upd_same) (.cons (.str _) .nil), ent_shaped _, lost_shaped, ?_⟩
        show ∃ k, V.bl (!PyData.eqv (entD en) lostD) = V.bl k ∧ _
        rw [ent_eqv]
        have hst : posN log (i + 1) = posN log i ++ (if decide (log[i]? ≠ some .lost) = true then [i] else []) := by
          unfold posN
          rw [List.range_succ, List.filter_append, List.filter_cons, List.filter_nil]
        have lpn : (posN log i).length ≤ 7 := by
          unfold posN
          have := List.length_filter_le (fun j => decide (log[j]? ≠ some .lost)) (List.range i)
          rw [List.length_range] at this
          omega
        refine ⟨_, rfl, ite2 (fun c => ?_) (fun c => ?_)⟩
        · have cn : en ≠ .lost := by simpa using c
          refine ⟨_, rfl, _, e1 _ _ pz.2, sz8 (by rw [List.length_map]; omega), sput (pz.1.trans e1) hDk, ?_⟩
          rw [upd_same, hst, if_pos (decide_eq_true (by rw [hen]; simpa using cn)), e0]
          show _ = some (HO.lst ((posN log i ++ [i]).map _))
          rw [List.map_append]
          rfl
        · have cn : en = .lost := by simpa using c
          refine ⟨pz.1.trans e1, ?_⟩
          rw [hst, if_neg (by rw [hen, cn]; simp), List.append_nil]
          exact e1 _ _ pz.2
      · rw [le] at pz
        have lpos : (posL log log.length).length ≤ 7 := by
          unfold posL posN
          rw [List.length_map]
          have := List.length_filter_le (fun j => decide (log[j]? ≠ some .lost)) (List.range log.length)
          rw [List.length_range] at this
          omega
        refine ⟨Dk, rfl, ⟨_, SqL.of pz.2⟩, for_list (K := K) (a := Dk) (xs := natV (posN log log.length)) (fun j σ G => ∃ u7 lp vs, σ = sg scV r x hh st (.ref tl) u2 u7 (some (.ref lp)) u9 u10 u11 u12 ∧ Same H0 G ∧ G lp = some (.lst vs) ∧ Paired (IT G) vs (lotsOf ((posL log log.length).take j)) ∧ G Dk = some (.lst (natV (posN log log.length))))
          ⟨u7, lp, vs, rfl, pz.1, pz.1 _ _ hlp, L2.Paired.mapP hvs fun _ _ q => q.same pz.1, pz.2⟩ (fun j σ G _ ⟨_, _, _, _, _, _, _, h⟩ => SqL.of h) ?_ ?_⟩
        · rintro j kv σ G hjk ⟨w7, lp, vs, rfl, e, hlp, hvs, hDkG⟩
          rw [List.getElem?_map] at hjk
          obtain ⟨k, hk, rfl⟩ := Option.map_eq_some_iff.mp hjk
          have hkL : (posL log log.length)[j]? = some ((k : Nat) : Int) := by unfold posL; rw [List.getElem?_map, hk]; rfl
          have hjl := (List.getElem?_eq_some_iff.mp hkL).1
          have nl : (lotsOf ((posL log log.length).take j)).length ≤ 128 := by
            rw [lots_len]
            refine Nat.le_trans (Nat.pow_le_pow_right (by decide) (show ((posL log log.length).take j).length ≤ 7 by rw [List.length_take]; omega)) (by decide)
          have lvs : vs.length ≤ 128 := by rw [Paired.length hvs]; exact nl
          refine ⟨_, rfl, _, rfl, lp, rfl, ⟨_, SqL.of hlp⟩, fun D2 hD2 => ?_⟩
          refine lc_list (K := K) (a := lp) (xs := vs) (fun i G' => ∃ ws : List V, Same G G' ∧ G' D2 = some (.lst ws) ∧ Paired (IT G') ws (((lotsOf ((posL log log.length).take j)).take i).map fun lot => lot ++ [((k : Nat) : Int)])) ⟨[], snew hD2, upd_same, .nil⟩ (fun i G' _ ⟨_, e, _⟩ => SqL.of (e _ _ hlp)) (fun i yv G' hyj pz => ?_) (fun G' pz => ?_)
          · obtain ⟨ws, e', hDw, hP⟩ := pz
            obtain ⟨lot, hlot, hIT⟩ := pget hvs hyj
            have hll : lot.length ≤ 7 := by
              have h1 := (lots_iff.mp (List.mem_of_getElem? hlot)).length_le
              rw [List.length_take] at h1
              omega
            refine ⟨rfl, lcY ⟨_, rfl, _, rfl, z1, fun t1 ht1 => ?_⟩⟩
            have f1 := snew (o := .tup [.int (k : Nat)]) ht1
            refine r_cat (K := K) (ws := lot) (ms := [((k : Nat) : Int)]) ((hIT.same e').same f1) ⟨t1, rfl, upd_same⟩ (by simp; omega) fun v1 G2 e2 hv1 => ?_
            have e12 := f1.trans e2
            have hDw2 := e12 _ _ hDw
            have kk := kpl (o := .lst (ws ++ [v1])) hDw2
            refine ⟨_, hDw2, sz8 (by rw [Paired.length hP, List.length_map, List.length_take]; omega), ws ++ [v1], sput (e'.trans e12) hD2, upd_same, ?_⟩
            rw [take_step hlot, List.map_append]
            exact pair_app (L2.Paired.mapP hP fun _ _ q => (q.same e12).kp kk) (hv1.kp kk)
          · obtain ⟨ws, e', hDw, hP⟩ := pz
            have lv : vs.length = (lotsOf ((posL log log.length).take j)).length := Paired.length hvs
            rw [lv, List.take_length] at hP
            have lws : ws.length ≤ 128 := by rw [Paired.length hP, List.length_map]; exact nl
            refine ⟨lp, D2, _, _, rfl, rfl, e' _ _ hlp, hDw, Nat.le_of_lt (sz8 (by omega)), fun p4 hp4 => ?_⟩
            have f4 := snew (o := .lst (vs ++ ws)) hp4
            have eA := e'.trans f4
            refine ⟨_, p4, _, rfl, e.trans eA, upd_same, ?_, eA _ _ hDkG⟩
            rw [take_step hkL, lots_snoc]
            exact pair_cat (L2.Paired.mapP hvs fun _ _ q => q.same eA) (L2.Paired.mapP hP fun _ _ q => q.same f4)
        · rintro σ G ⟨w7, lp, vs, rfl, e, hlp, hvs, hDkG⟩
          rw [List.length_map, List.take_of_length_le (by unfold posL; rw [List.length_map]; exact Nat.le_refl _)] at hvs
          exact q w7 lp vs G e hlp hvs
    case k7 =>
      rintro D σ H0 ⟨scV, r, x, hh, st, v, lp, u2, u7, u11, u12, pl0, M, ns, log, vs, rfl, F, hlp, hvs, q⟩
      have g : GoodP M := by obtain ⟨_, _, _, _, _, _, g⟩ := F.ha; exact g
      have lpos : (posL log log.length).length ≤ 7 := by
        unfold posL posN
        rw [List.length_map]
        have := List.length_filter_le (fun j => decide (log[j]? ≠ some .lost)) (List.range log.length)
        rw [List.length_range] at this
        have := F.l7
        omega
      have nl : (lotsL log).length ≤ 128 := by
        rw [lots_len]
        exact Nat.le_trans (Nat.pow_le_pow_right (by decide) lpos) (by decide)
      refine ⟨_, rfl, lp, rfl, ⟨_, SqL.of hlp⟩, fun D1 hD1 => ?_⟩
      refine lc_list (K := K) (a := lp) (xs := vs) (fun i G => ∃ ws : List V, Same H0 G ∧ G D1 = some (.lst ws) ∧ Paired (RwT G) ws ((lotsL log).take i)) ⟨[], snew hD1, upd_same, .nil⟩ (fun i G _ ⟨_, e, _⟩ => SqL.of (e _ _ hlp)) (fun i yv G hyj pz => ?_) (fun G pz => ?_)
      · obtain ⟨ws, e, hDw, hP⟩ := pz
        obtain ⟨lot, hlot, a, rfl, ha⟩ := pget hvs hyj
        refine ⟨rfl, lcY ⟨_, rfl, a, _, rfl, .inr (sqT (e _ _ ha)), _, rfl, z2, fun t ht => ?_⟩⟩
        have f1 := snew (o := .tup [.int ((lot.map iv).length : Nat), .ref a]) ht
        have hDw2 := f1 _ _ hDw
        have kk := kpl (o := .lst (ws ++ [.ref t])) hDw2
        refine ⟨_, hDw2, sz8 (by rw [Paired.length hP, List.length_take]; omega), ws ++ [.ref t], sput (e.trans f1) hD1, upd_same, ?_⟩
        rw [take_step hlot]
        refine pair_app (L2.Paired.mapP hP fun _ _ q => (q.kp (kps f1)).kp kk) ⟨t, .ref a, rfl, ?_, ⟨a, rfl, kk.tup (f1 _ _ (e _ _ ha))⟩⟩
        have h1 := kk.tup (upd_same (H := G) (a := t) (o := .tup [.int ((lot.map iv).length : Nat), .ref a]))
        rw [List.length_map] at h1 ⊢
        exact h1
      · obtain ⟨ws, e, hDw, hP⟩ := pz
        have lv : vs.length = (lotsL log).length := Paired.length hvs
        rw [lv, List.take_length] at hP
        have f1 := rwB_fst hP
        have lw : ws.length ≤ 128 := by rw [Paired.length hP]; exact nl
        have lB : (rwB ws (lotsL log)).length = ws.length := by
          have := congrArg List.length f1
          rw [List.length_map] at this
          exact this
        refine ⟨D1, rwB ws (lotsL log), rfl, SqL.of (by rw [f1]; exact hDw), rwB_dp hP, rwB_alike hP, .inl fun d hd => ?_, fun b hb => ?_, Nat.le_of_lt (sz8 (by omega)), fun pr hpr => ?_⟩
        · obtain ⟨b, hb, rfl⟩ := List.mem_map.mp hd
          obtain ⟨p, _, _, hz⟩ := rwB_mem hP b hb
          exact ⟨_, _, hz⟩
        · obtain ⟨p, _, _, hz⟩ := rwB_mem hP b hb
          rw [hz]
          exact rw_depth p
        have f2 := snew (o := .lst ((sortP (rwB ws (lotsL log))).map (·.1))) hpr
        have RR := rows_of hP f2
        have eA := e.trans f2
        have hprl := upd_same (H := G) (a := pr) (o := .lst ((sortP (rwB ws (lotsL log))).map (·.1)))
        revert RR eA hprl
        generalize (sortP (rwB ws (lotsL log))).map (·.1) = xsS
        generalize ((sortP (rwB ws (lotsL log))).map fun b => decR b.2) = sl
        generalize upd G pr _ = G1
        intro RR eA hprl
        have F1 := F.go eA
        have lsx : xsS.length = sl.length := Paired.length RR.vals
        refine ⟨pr, rfl, ⟨_, SqL.of hprl⟩, for_list (K := K) (a := pr) (xs := xsS) (fun j σ G2 => ∃ due pls u11 u12, σ = sg scV r x hh st v u2 u7 (some (.ref lp)) (some due) (some pls) u11 u12 ∧ Same G1 G2 ∧ SJ M ns log (sl.take j) due pls G2)
          ⟨.non, pl0, u11, u12, rfl, Same.refl _, .inl ⟨fun l hl => (by cases hl), rfl⟩⟩ (fun j σ G2 _ ⟨_, _, _, _, _, e, _⟩ => SqL.of (e _ _ hprl)) ?_ ?_⟩
        · rintro j rv σ G2 hjr ⟨due, pls, w11, w12, rfl, e2, hS⟩
          obtain ⟨lot, hlot, t, a, rfl, ht, hIT⟩ := pget RR.vals hjr
          refine ⟨t, _, rfl, sqT (e2 _ _ ht), rfl, _, _, rfl, _, _, rfl, rfl, ?_⟩
          rcases hS with ⟨h0, rfl⟩ | ⟨lot0, p0, xs0, plx, hF, ⟨da, rfl, hda⟩, rfl, hp0, hPl⟩
          · refine ⟨_, rfl, rfl, _, rfl, iteT ?_⟩
            have F2 := F1.go e2
            have hIT2 := hIT.same e2
            refine ⟨_, rfl, _, rfl, _, rfl, _, rfl, x, st, v, a, M, ns, log, lot, rfl, F2.mt, g, F2.m3, F2.it, F2.nl, F2.lg, F2.l7, F2.gl.ok, hIT2, fun p xs pl G3 e3 hp hx hPl => ⟨z0, fun p2 hp2 => ?_⟩⟩
            have f3 := snew (o := .lst []) hp2
            refine ⟨plD pl, .list [], .lst (SqL.of (f3 _ _ hx)) (dp_pls (L2.Paired.mapP hPl.vals fun _ _ q => q.same f3)), .lst (SqL.of upd_same) .nil, pl_shaped _, rfl, ?_⟩
            rw [pl_eqv]
            have e23 := e2.trans (e3.trans f3)
            refine ⟨_, rfl, ite2 (fun c => ?_) (fun c => ?_)⟩
            · have hne : nearAt M ns log lot log.length ≠ [] := fun z => by
                have := (pl_nil hPl).mpr z
                rw [this] at c
                simp at c
              have F3 := F1.go e23
              refine ⟨_, rfl, _, rfl, _, rfl, _, rfl, _, rfl, x, st, v, a, M, ns, log, lot, rfl, F3.mt, g, F3.m3, F3.it, F3.nl, F3.lg, F3.l7, F3.gl.ok, hIT.same e23, fun p3 xs3 pl3 G4 e4 hp3 hx3 hPl3 => ⟨_, _, rfl, ?_⟩⟩
              exact ⟨a, .ref p3, _, _, rfl, e23.trans e4, .inr ⟨lot, p3, xs3, pl3, first_of RR hlot h0 hne, hIT.same (e23.trans e4), rfl, hx3, hPl3⟩⟩
            · have hnil : nearAt M ns log lot log.length = [] := by
                refine (pl_nil hPl).mp ?_
                simpa using c
              refine ⟨.non, pls, _, _, rfl, e23, .inl ⟨fun l hl => ?_, rfl⟩⟩
              rw [take_step hlot] at hl
              rcases List.mem_append.mp hl with hl | hl
              · exact h0 l hl
              · rw [List.mem_singleton.mp hl]; exact hnil
          · refine ⟨_, rfl, rfl, _, rfl, ?_⟩
            rw [show decide (V.ref da = V.non) = false by simp]
            exact iteF ⟨.ref da, .ref p0, _, _, rfl, e2, .inr ⟨lot0, p0, xs0, plx, hF, ⟨da, rfl, hda⟩, rfl, hp0, hPl⟩⟩
        · rintro σ G2 ⟨due, pls, w11, w12, rfl, e2, hS⟩
          refine q due pls w11 w12 G2 (eA.trans e2) ?_
          rcases hS with ⟨h0, rfl⟩ | h
          · rw [lsx, List.take_length] at h0
            exact .inl ⟨fun l hl => h0 l ((RR.mem l).mpr hl), rfl⟩
          · exact .inr h
    refine ⟨_, rfl, by show 4 ≤ sizeLine; decide, fun r hr0 => ?_⟩
    have e0 := snew (o := .lst [.ref a, .int 0, .int 1783, .int 0]) hr0
    have src : (a ≠ r ∧ SqL K (upd H r (.lst [.ref a, .int 0, .int 1783, .int 0])) a (sc.map iv)) ∨ ∀ G, SqL K G a (sc.map iv) := by
      rcases hsc with (h | ⟨o, h⟩) | h
      · exact .inl ⟨ne_of_none h hr0, Same.seq e0 (.inl (.inl h))⟩
      · exact .inl ⟨ne_of_none h hr0, Same.seq e0 (.inl (.inr ⟨o, h⟩))⟩
      · exact .inr fun G => .inr h
    have R0 : RO K r a sc (upd H r (.lst [.ref a, .int 0, .int 1783, .int 0])) (upd H r (.lst [.ref a, .int 0, .int 1783, .int 0])) := ⟨src, ⟨_, upd_same⟩, Off.refl _ _, 0, 1783, 0, upd_same, by decide, by decide⟩
    refine ⟨2, rfl, by decide, by decide, for_range (lo := 0) (n := 2) (fun i σ H' => ∃ u2 u3 u4 u5 u6 u7 u8 u9 u10 u11 u12, σ = [some (.ref a), some (.ref r), u2, u3, u4, u5, u6, u7, u8, u9, u10, u11, u12, none] ∧ RO K r a sc H' H')
      ⟨none, none, none, none, none, none, none, none, none, none, none, rfl, R0⟩ ?_ ?_⟩
    · rintro i σ B hi ⟨u2, u3, u4, u5, u6, u7, u8, u9, u10, u11, u12, rfl, RB⟩
      refine ⟨_, rfl, r, a, sc, rfl, RB, fun v M H1 R1 hM g h3 => ?_⟩
      obtain ⟨tm, rsM, rfl, htm, hPm⟩ := id hM
      have lrs : rsM.length = M.length := Paired.length hPm
      refine ⟨_, rfl, fun hx dx nx ndx nex => ?_⟩
      have i1 := snew (o := .own hx) ndx
      have nx2 : (upd H1 dx (.own hx)) hx = none := by rw [upd_ne nex.symm]; exact nx
      have i2 := i1.trans (snew (o := .ins (ga K "Hall") dx []) nx2)
      refine ⟨hx, dx, .ref tm, M, rfl, upd_same, hM.same i2, g, fun H2 e2 => ⟨rfl, ?_⟩⟩
      have i3 := sput (o := .ins (ga K "Hall") dx [("told", .ref tm)]) (i2.trans e2) nx
      have R2 := R1.same i3
      have hHa : HaT K (upd H2 hx (.ins (ga K "Hall") dx [("told", .ref tm)])) (.ref hx) M := ⟨hx, dx, .ref tm, rfl, upd_same, hM.same i3, g⟩
      refine ⟨_, rfl, _, rfl, tm, _, rfl, .inr (sqT (i3 _ _ htm)), r, a, sc, rsM.length, rfl, R2.here, by omega, fun sv ns H3 R3 hns hnl => ⟨_, _, rfl, ?_⟩⟩
      have nlM : ns.length = M.length := by omega
      have R23 := R2.then R3
      have hM3 := (hM.same i3).kp R3.kp
      refine ⟨_, rfl, _, rfl, _, rfl, r, a, sc, .ref tm, sv, M, ns, rfl, R23.here, hM3, g, h3, hns, nlM, fun t vl vp log H4 R4 ht hL h7 h5 ok => ⟨t, _, _, vl, rfl, rfl, sqT ht, atI_nat (j := 0) rfl, ?_⟩⟩
      have R24 := R23.then R4
      refine ⟨r, a, sc, .ref a, .ref tm, .ref hx, sv, vl, _, _, _, _, _, _, _, M, log, rfl, R24.here, hM3.kp R4.kp, g, h3, hL, h7, h5, ok, fun v' u7' log' H5 R5 hL' h7' gl' => ?_⟩
      have R25 := R24.then R5
      refine ⟨z0, fun p1 hp1 => ⟨z1, fun p2 hp2 => ⟨z0, fun p3 hp3 => ⟨_, _, _, rfl, ?_⟩⟩⟩⟩
      have f1 := snew (o := .tup []) hp1
      have f2 := snew (o := .lst [.ref p1]) hp2
      have f3 := snew (o := .lst []) hp3
      have fA := f1.trans (f2.trans f3)
      have K35 := (R3.kp.trans R4.kp).trans R5.kp
      have LF5 : LF K M ns log' (.ref tm) (.ref hx) sv v' H5 := ⟨(hM3.kp R4.kp).kp R5.kp, hHa.kp K35, (hns.kp R4.kp).kp R5.kp, nlM, h3, hL', h7', gl'⟩
      have LF6 := LF5.go fA
      refine ⟨.ref a, .ref r, .ref tm, .ref hx, sv, v', p2, _, _, _, _, _, _, log', [.ref p1], rfl, LF6.lg, h7', f3 _ _ upd_same, .cons ⟨p1, rfl, (f2.trans f3) _ _ upd_same⟩ .nil, fun u7'' lp vs' H6 e6 hlp hvs => ?_⟩
      have LF7 := LF6.go e6
      refine ⟨.ref a, .ref r, .ref tm, .ref hx, sv, v', lp, _, _, _, _, .ref p3, M, ns, log', vs', rfl, LF7, hlp, hvs, fun due pls u11' u12' H7 e7 hSE => ?_⟩
      have LF8 := LF7.go e7
      have R27 := ((R25.same fA).same e6).same e7
      rcases hSE with ⟨hnone, rfl⟩ | ⟨lot, p0, xs, pl, hF, hdue, rfl, hp0, hPl⟩
      · have hpts := none_of hnone
        have nob : ∀ {b : Rk}, ¬ Best (ptsAt M ns log' log'.length) b := fun hb => by
          obtain ⟨⟨k, hk⟩, _⟩ := hb
          rw [hpts] at hk
          cases hk
        refine ⟨_, rfl, _, rfl, _, rfl, _, _, _, M, ns, log', rfl, LF8.ha, LF8.it, LF8.nl, LF8.m3, LF8.lg, LF8.l7, LF8.gl, fun dv H8 e8 hdv => ?_⟩
        have hdn : dv = .non := by
          rcases hdv with ⟨_, z⟩ | ⟨b, hb, _⟩
          · exact z
          · exact absurd hb nob
        refine ⟨_, rfl, _, _, rfl, .inl ⟨hdn, rfl⟩, fun H9 e9 => ⟨true, rfl, iteF ?_⟩⟩
        have LF9 := (LF8.go e8).go e9
        refine ⟨_, rfl, _, rfl, _, rfl, _, _, _, M, ns, log', rfl, LF9.ha, LF9.it, LF9.nl, LF9.m3, LF9.lg, LF9.l7, LF9.gl, fun mv H10 e10 hmv => ?_⟩
        have hmn : mv = .non := by
          rcases hmv with ⟨_, z⟩ | ⟨b, hb, _⟩
          · exact z
          · exact absurd hb nob
        refine ⟨_, rfl, rfl, _, rfl, iteF ?_⟩
        refine ⟨_, _, rfl, .inl ⟨hmn, rfl⟩, fun H11 e11 => ⟨true, rfl, iteF ?_⟩⟩
        refine ⟨_, rfl, z0, fun p hp => ?_⟩
        have f9 := snew (o := .tup []) hp
        refine ⟨.none, .tuple [], .non, .tup (sqT upd_same) .nil, rfl, rfl, ?_⟩
        rw [show PyData.eqv .none (.tuple []) = false by simp [PyData.eqv]]
        refine ⟨_, rfl, iteF ?_⟩
        exact ⟨_, _, _, _, _, _, _, _, _, _, _, rfl, ((((((R27.same e8).same e9).same e10).same e11).same f9)).here⟩
      · obtain ⟨q0, rest, rfl⟩ : ∃ q0 rest, pl = q0 :: rest := by
          cases pl with
          | nil => exact absurd ((pl_nil hPl).mp rfl) hF.ne
          | cons q0 rest => exact ⟨q0, rest, rfl⟩
        have hq0 : q0 ∈ q0 :: rest := List.mem_cons_self
        obtain ⟨qv, hqv, hqI⟩ := pget' hPl.vals (i := 0) (y := q0) rfl
        have hpne : ptsAt M ns log' log'.length ≠ [] := fun z => hF.ne (no_near z)
        have hllen : lot.length ≤ 100 := by
          have h1 := (lots_iff.mp hF.mem).length_le
          unfold posL posN at h1
          rw [List.length_map] at h1
          have h2 := List.length_filter_le (fun j => decide (log'[j]? ≠ some .lost)) (List.range log'.length)
          rw [List.length_range] at h2
          omega
        obtain ⟨xs', hx'⟩ := (hPl.mem q0).mp hq0
        obtain ⟨w, hw, hwS⟩ := near_iff.mp hx'
        have hqlen : q0.length ≤ 100 := by
          have h1 := (pts_bounds g.rows nlM (Nat.le_refl _) hw).2.2
          have h2 : q0.length ≤ log'.length := h1
          omega
        obtain ⟨da, rfl, hda⟩ := id hdue
        refine ⟨_, rfl, _, rfl, _, rfl, _, _, _, M, ns, log', rfl, LF8.ha, LF8.it, LF8.nl, LF8.m3, LF8.lg, LF8.l7, LF8.gl, fun dv H8 e8 hdv => ?_⟩
        have hdI : IT H8 dv lot := by
          rcases hdv with ⟨z, _⟩ | ⟨b, hb, hbI⟩
          · exact absurd z hpne
          · rw [← first_best hF hb]; exact hbI
        refine ⟨_, rfl, _, _, rfl, .inr ⟨lot, hdI, hdue.same e8, by omega⟩, fun H9 e9 => ⟨true, rfl, iteF ?_⟩⟩
        have LF9 := (LF8.go e8).go e9
        have e89 := e8.trans e9
        refine ⟨_, rfl, _, rfl, _, rfl, _, _, _, M, ns, log', rfl, LF9.ha, LF9.it, LF9.nl, LF9.m3, LF9.lg, LF9.l7, LF9.gl, fun mv H10 e10 hmv => ?_⟩
        have hmI : IT H10 mv q0 := by
          rcases hmv with ⟨z, _⟩ | ⟨b, hb, hbI⟩
          · exact absurd z hpne
          · rw [← first_play hF hb hPl.mem hq0 (hPl.low q0 rest rfl)]; exact hbI
        have e810 := e89.trans e10
        refine ⟨_, rfl, rfl, _, rfl, ?_⟩
        rw [show (!decide (V.ref da = V.non)) = true by simp]
        refine iteT ⟨_, rfl, p0, _, _, qv, rfl, rfl, SqL.of (e810 _ _ hp0), atI_nat (j := 0) hqv, ?_⟩
        refine ⟨_, _, rfl, .inr ⟨q0, hmI, hqI.same e810, by omega⟩, fun H11 e11 => ⟨true, rfl, iteF ?_⟩⟩
        have e811 := e810.trans e11
        refine ⟨_, rfl, z0, fun p hp => ?_⟩
        have f9 := snew (o := .tup []) hp
        have eZ := e811.trans f9
        refine ⟨.tuple (lot.map .int), .tuple (([] : List Int).map .int), .tup (sqT (eZ _ _ hda)) dp_ints, .tup (sqT upd_same) .nil, ints_shaped lot, ints_shaped [], ?_⟩
        rw [eqv_ints]
        refine ⟨_, rfl, ite2 (fun c => ?_) (fun c => ?_)⟩
        · have hl0 : lot = [] := of_decide_eq_true c
          have hw0 : w = [] := by
            refine List.eq_nil_iff_forall_not_mem.mpr fun b hb => ?_
            have := hwS b hb
            rw [hl0] at this
            cases this
          rw [hw0] at hw
          have LF12 := LF8.go eZ
          refine ⟨_, rfl, _, rfl, _, rfl, p0, _, _, qv, rfl, rfl, SqL.of (eZ _ _ hp0), atI_nat (j := 0) hqv, _, rfl, _, _, _, _, M, ns, q0, xs', log', rfl, LF12.ha, LF12.it, LF12.nl, hqI.same eZ, LF12.lg, LF12.gl, run_of g.rows nlM (Nat.le_refl _) hw, fun H12 e12 => ⟨true, rfl, iteF ?_⟩⟩
          exact ⟨_, _, _, _, _, _, _, _, _, _, _, rfl, ((R27.same eZ).same e12).here⟩
        · exact ⟨_, _, _, _, _, _, _, _, _, _, _, rfl, (R27.same eZ).here⟩
    · rintro σ G ⟨u2, u3, u4, u5, u6, u7, u8, u9, u10, u11, u12, rfl, RG⟩
      exact q G
end
end KX
end

section
set_option Elab.async false
set_option linter.all false
set_option maxRecDepth 100000
set_option maxHeartbeats 0
namespace KX
open PySem PySem.Spec PyProof.Rows L2 KR KM
open He (ga ma)
theorem facts {P : Program} {w : World} {K : PySem.W.Frag} {h : Heap} {mg : Str → Option Value} {f : Addr} (X : K.In h) (G : h.Ns mainGlobals mg) (hfa : mg ("law" : Str) = some (.ref f)) (c : He.SaysX fa fn [] [] ex w h K) :
    ∃ fd : FuncData, (∀ (s : Shared) (v : Value), BindsTo s fd ⟨[v], []⟩ [("_law_script", v)]) ∧ ∀ base : Heap, K.In base → base.Ns mainGlobals mg → FnOk P w K mg base CX0 7 f fd ["_law_script"] (sp_law K) := by
  have T := tx_of X G c
  have d : He.SaysD fa fn K := c.t.d
  obtain ⟨fd, F⟩ := d.def_ 36 (d := d_law) rfl
  have e := hfa.symm.trans T.g_law
  cases e
  have b := FunD.bindsA (ps := ["_law_script"]) F fun _ _ _ _ _ _ us hl => match us, hl with | [_], _ => rfl
  exact ⟨fd, fun s v => b s [v] rfl, fun base _ _ => ok_law T (fun_of F)⟩
end KX
open PySem PySem.W PySem.Calls PyProof.Rows
theorem PySem.Challenge.cw_kaleidorooms_k83_whole_mended_logs_holds : PySem.Challenge.rw_kaleidorooms_k83_whole_mended_logs.Holds := by
  w_on; o_law
  refine HandSHeadRun.head_any (r := OpenLaw.row PySem.Challenge.rw_kaleidorooms_k83_whole_mended_logs) (q := view (OpenLaw.row PySem.Challenge.rw_kaleidorooms_k83_whole_mended_logs).prog [55]) (H := KX.hk) (ob := KX.ob) (M := 20000) (loose := KX.loose) (d := HandSHeadRun.topDef (OpenLaw.row PySem.Challenge.rw_kaleidorooms_k83_whole_mended_logs).prog 55) (kwd := []) KX.ob_eq
    (by kernel_rfl) (fun s => by kernel_rfl) KX.run (by kernel_rfl) (by kernel_rfl) (by kernel_rfl) (by rfl) (by first | assumption | decide +kernel) (by decide +kernel) ⟨rfl, rfl, rfl, rfl, rfl, by decide +kernel⟩ ?hw ?hc
  case hw => w_witness2
  case hc =>
    refine L2.walk_ofE (l := PySem.Challenge.rw_kaleidorooms_k83_whole_mended_logs) (n := 63) (k := 7) (x := "_law_script") (CX := L2.CX0) rfl (by decide) (by kernel_rfl) ⟨rfl, by decide, by decide⟩ ?F (fun _ _ _ _ z => z)
    intro w mg fa h Y G hmg0
    obtain ⟨K, KX', c⟩ := Y
    have hmg : mg ("law" : PySem.Str) = some (.ref fa) := by
      have e : (HandSHeadRun.topDef (OpenLaw.row PySem.Challenge.rw_kaleidorooms_k83_whole_mended_logs).prog 55).name = ("law" : PySem.Str) := by kernel_rfl
      rw [← e]
      exact hmg0
    obtain ⟨fd, hb, hF⟩ := KX.facts (P := (PySem.Challenge.rw_kaleidorooms_k83_whole_mended_logs).prog) (w := w) KX' G hmg c
    exact ⟨K, fd, KX.sp_law K, KX', hb, fun H a ns hl _ hS => ⟨a, ns, rfl, hS, fun _ => rfl⟩, hF⟩
end
