import PyProof.Rows.All
import Wide.All
import OpenK.AllK
import Wide.FinOn
import HandS.ForMost
import KE.SortData
import HandS.Walk
import KE.GoesZip
import KE.GoesMore
import KE.GoesEnum
import HandS.More
import KE.KDictZip
import HandS.Set
import HandS.SetTxt0
import HandS.SetFor
import HandS.Zip
import HandS.TupAny
import HandS.NoneIn
import HandS.TupLen
import PySem.Challenge.RW_everypiece_k47_whole_patterns_searched_b
set_option Elab.async false
set_option linter.all false
set_option maxRecDepth 100000
set_option maxHeartbeats 0
/-! Lists of signs: their order, what begins with a word, ranges of a sorted list. -/
namespace EP
abbrev T := List Nat

theorem t_irr (a : T) : ¬ a < a := List.lt_irrefl a
theorem t_trans {a b c : T} (h : a < b) (k : b < c) : a < c := List.lt_trans h k
theorem t_le_lt {a b c : T} (h : a ≤ b) (k : b < c) : a < c := List.lt_of_le_of_lt h k
theorem t_nlt {a b : T} : ¬ a < b ↔ b ≤ a := List.not_lt
theorem t_nle {a b : T} : ¬ a ≤ b ↔ b < a := List.not_le
theorem t_le_tr {a b c : T} (h : a ≤ b) (k : b ≤ c) : a ≤ c := List.le_trans h k
theorem t_refl (a : T) : a ≤ a := List.le_refl a
theorem t_le {a b : T} (h : a < b) : a ≤ b := List.le_of_lt h
theorem t_anti {a b : T} (h : a ≤ b) (k : b ≤ a) : a = b := List.le_antisymm h k
theorem t_lt_le {a b c : T} (h : a < b) (k : b ≤ c) : a < c := by
  rcases Classical.em (a < c) with q | q
  · exact q
  · exact absurd h (t_nlt.mpr (t_le_tr k (t_nlt.mp q)))
theorem t_tri (a b : T) : a < b ∨ a = b ∨ b < a := by
  rcases Classical.em (a < b) with q | q
  · exact .inl q
  rcases Classical.em (b < a) with r | r
  · exact .inr (.inr r)
  · exact .inr (.inl (t_anti (t_nlt.mp r) (t_nlt.mp q)))
theorem t_cons {a b : Nat} {x y : T} : a :: x < b :: y ↔ a < b ∨ a = b ∧ x < y := List.cons_lt_cons_iff

/-- a word is not behind what begins with it -/
theorem pre_le : ∀ {w r : T}, w <+: r → w ≤ r
  | [], r, _ => List.nil_le r
  | a :: w, [], h => by simp at h
  | a :: w, b :: r, h => by
    obtain ⟨e, h'⟩ := List.cons_prefix_cons.mp h
    subst e
    exact List.cons_le_cons_iff.mpr (.inr ⟨rfl, pre_le h'⟩)
/-- words as long as one another decide -/
theorem app_lt : ∀ {w v : T}, w.length = v.length → w < v → ∀ x y : T, w ++ x < v ++ y
  | [], [], _, h, _, _ => absurd h (t_irr _)
  | [], _ :: _, e, _, _, _ => by simp at e
  | _ :: _, [], e, _, _, _ => by simp at e
  | a :: w, b :: v, e, h, x, y => by
    rcases t_cons.mp h with h | ⟨h, k⟩
    · exact t_cons.mpr (.inl h)
    · exact t_cons.mpr (.inr ⟨h, app_lt (by simpa using e) k x y⟩)
theorem app_lt_same (w : T) {x y : T} : w ++ x < w ++ y ↔ x < y := by
  induction w with
  | nil => rfl
  | cons a w ih =>
    show a :: (w ++ x) < a :: (w ++ y) ↔ _
    rw [t_cons]
    constructor
    · rintro (h | ⟨_, h⟩)
      · exact absurd h (Nat.lt_irrefl _)
      · exact ih.mp h
    · intro h
      exact .inr ⟨rfl, ih.mpr h⟩
/-- what stands between two that begin with a word begins with it -/
theorem pre_mid : ∀ {w a b c : T}, w <+: a → w <+: c → a ≤ b → b ≤ c → w <+: b
  | [], _, b, _, _, _, _, _ => List.nil_prefix
  | x :: w, a, b, c, ha, hc, h1, h2 => by
    obtain ⟨a', rfl⟩ := ha
    obtain ⟨c', rfl⟩ := hc
    cases b with
    | nil =>
      exfalso
      exact t_nlt.mpr h1 (List.nil_lt_cons _ _)
    | cons y b =>
      have k1 := List.cons_le_cons_iff.mp (show x :: (w ++ a') ≤ y :: b from h1)
      have k2 := List.cons_le_cons_iff.mp (show y :: b ≤ x :: (w ++ c') from h2)
      have e : x = y := by
        rcases k1 with k | ⟨k, _⟩
        · rcases k2 with q | ⟨q, _⟩
          · omega
          · omega
        · exact k
      subst e
      have k1' : w ++ a' ≤ b := by
        rcases k1 with k | ⟨_, k⟩
        · exact absurd k (Nat.lt_irrefl _)
        · exact k
      have k2' : b ≤ w ++ c' := by
        rcases k2 with k | ⟨_, k⟩
        · exact absurd k (Nat.lt_irrefl _)
        · exact k
      exact List.cons_prefix_cons.mpr ⟨rfl, pre_mid (List.prefix_append _ _) (List.prefix_append _ _) k1' k2'⟩

/-! ### ranges -/
/-- ahead of all that begins with w -/
def lowB (w r : T) : Bool := decide (r < w)
/-- not behind all that begins with w -/
def highB (w r : T) : Bool := decide (r < w) || w.isPrefixOf r
theorem lowB_iff {w r : T} : lowB w r = true ↔ r < w := by simp [lowB]
theorem highB_iff {w r : T} : highB w r = true ↔ r < w ∨ w <+: r := by simp [highB, List.isPrefixOf_iff_prefix]
theorem lowB_down {w a b : T} (h : a ≤ b) (k : lowB w b = true) : lowB w a = true := lowB_iff.mpr (t_le_lt h (lowB_iff.mp k))
theorem highB_down {w a b : T} (h : a ≤ b) (k : highB w b = true) : highB w a = true := by
  rcases highB_iff.mp k with q | q
  · exact highB_iff.mpr (.inl (t_le_lt h q))
  · rcases Classical.em (a < w) with r | r
    · exact highB_iff.mpr (.inl r)
    · exact highB_iff.mpr (.inr (pre_mid (List.prefix_refl w) q (t_nlt.mp r) h))
/-- where what is true of a thing is true of all ahead, its count is where it ends -/
theorem countP_cut {α : Type} {p : α → Bool} : ∀ {R : List α}, R.Pairwise (fun a b => p b = true → p a = true) → ∀ (i : Nat) (r : α), R[i]? = some r → (i < R.countP p ↔ p r = true)
  | [], _, i, r, h => by simp at h
  | x :: R, hp, i, r, h => by
    obtain ⟨h1, h2⟩ := List.pairwise_cons.mp hp
    by_cases hx : p x = true
    · rw [List.countP_cons_of_pos hx]
      cases i with
      | zero =>
        have e : x = r := by simpa using h
        subst e
        simp [hx]
      | succ i =>
        have k := countP_cut h2 i r (by simpa using h)
        rw [← k]
        omega
    · rw [List.countP_cons_of_neg hx]
      have z : R.countP p = 0 := List.countP_eq_zero.mpr fun y hy q => hx (h1 y hy q)
      rw [z]
      have nr : ¬ p r = true := by
        cases i with
        | zero =>
          have e : x = r := by simpa using h
          subst e
          exact hx
        | succ i =>
          intro q
          exact hx (h1 r (List.mem_of_getElem? (by simpa using h)) q)
      simp [nr]
/-- the numbers of those of a sorted list that begin with a word -/
def rng (R : List T) (w : T) : Nat × Nat := (R.countP (lowB w), R.countP (highB w))
/-- sorted -/
abbrev Srt (R : List T) : Prop := R.Pairwise (· ≤ ·)
theorem rng_iff {R : List T} (hR : Srt R) {w : T} {i : Nat} {r : T} (h : R[i]? = some r) : ((rng R w).1 ≤ i ∧ i < (rng R w).2) ↔ w <+: r := by
  have a := countP_cut (p := lowB w) (hR.imp fun h => lowB_down h) i r h
  have b := countP_cut (p := highB w) (hR.imp fun h => highB_down h) i r h
  rw [show (rng R w).1 = R.countP (lowB w) from rfl, show (rng R w).2 = R.countP (highB w) from rfl, b, ← Nat.not_lt, a, lowB_iff, highB_iff]
  constructor
  · rintro ⟨h1, h2 | h2⟩
    · exact absurd h2 h1
    · exact h2
  · intro q
    exact ⟨t_nlt.mpr (pre_le q), .inr q⟩
theorem rng_le {R : List T} (w : T) : (rng R w).2 ≤ R.length := List.countP_le_length
theorem rng_low {R : List T} (w : T) : (rng R w).1 ≤ (rng R w).2 := by
  refine List.countP_mono_left fun x _ h => ?_
  exact highB_iff.mpr (.inl (lowB_iff.mp h))
theorem rng_nil (R : List T) : rng R [] = (0, R.length) := by
  refine Prod.ext ?_ ?_
  · refine List.countP_eq_zero.mpr fun x _ h => ?_
    exact List.not_lt_nil _ (lowB_iff.mp h)
  · refine List.countP_eq_length.mpr fun x _ => ?_
    exact highB_iff.mpr (.inr List.nil_prefix)
/-- an interval is told by what lies in it -/
theorem itv_eq {lo hi lo' hi' n : Nat} (h1 : lo < hi) (hn : hi ≤ n) (hn' : hi' ≤ n) (h : ∀ i, i < n → ((lo ≤ i ∧ i < hi) ↔ (lo' ≤ i ∧ i < hi'))) : lo = lo' ∧ hi = hi' := by
  have a := (h lo (by omega)).mp ⟨Nat.le_refl _, h1⟩
  have b := (h (hi - 1) (by omega)).mp ⟨by omega, by omega⟩
  have c := (h lo' (by omega)).mpr ⟨Nat.le_refl _, by omega⟩
  have d := (h (hi' - 1) (by omega)).mpr ⟨by omega, by omega⟩
  omega
theorem rng_eq {R : List T} (hR : Srt R) {w : T} {lo hi : Nat} (h1 : lo < hi) (h2 : hi ≤ R.length) (h : ∀ i r, R[i]? = some r → ((lo ≤ i ∧ i < hi) ↔ w <+: r)) : rng R w = (lo, hi) := by
  have q := itv_eq h1 h2 (rng_le w) fun i hi' => by
    rw [h i _ (List.getElem?_eq_getElem hi'), rng_iff hR (List.getElem?_eq_getElem hi')]
  exact Prod.ext q.1.symm q.2.symm
theorem rng_pos {R : List T} (hR : Srt R) {w r : T} (hr : r ∈ R) (h : w <+: r) : (rng R w).1 < (rng R w).2 := by
  obtain ⟨i, hi⟩ := List.mem_iff_getElem?.mp hr
  have q := (rng_iff hR hi).mpr h
  omega
/-- ranges of words as long as one another, the one ahead of the other -/
theorem rng_lt {R : List T} (hR : Srt R) {w v r : T} (hl : w.length = v.length) (h : w < v) (hr : r ∈ R) (hw : w <+: r) : (rng R w).1 < (rng R v).1 := by
  have hp := rng_pos hR hr hw
  have hlen := rng_le (R := R) w
  have hi : (rng R w).1 < R.length := by omega
  have g := List.getElem?_eq_getElem hi
  have hpre := (rng_iff hR g).mp ⟨Nat.le_refl _, hp⟩
  refine (countP_cut (p := lowB v) (hR.imp fun h => lowB_down h) _ _ g).mpr (lowB_iff.mpr ?_)
  obtain ⟨x, e⟩ := hpre
  rw [← e]
  have k := app_lt hl h x []
  simpa using k
end EP

/-! A range parted by the sign at a depth; the search level by level. -/
namespace EP
abbrev Grp := Nat × Nat × Nat
def pstep (R : List T) (d : Nat) (gs : List Grp) (i : Nat) : List Grp :=
  match (R.getD i [])[d]? with
  | none => gs
  | some c => match gs.getLast? with
    | some g => if g.1 = c then gs.dropLast ++ [(c, g.2.1, i + 1)] else gs ++ [(c, i, i + 1)]
    | none => gs ++ [(c, i, i + 1)]
def partTo (R : List T) (low d : Nat) : Nat → List Grp
  | 0 => []
  | m + 1 => pstep R d (partTo R low d m) (low + m)
def partF (R : List T) (low high d : Nat) : List Grp := partTo R low d (high - low)

theorem cons_of_le {c : Nat} {x y : T} (h : c :: x ≤ y) : ∃ c' y', y = c' :: y' ∧ c ≤ c' := by
  cases y with
  | nil => exact absurd (List.nil_lt_cons c x) (t_nlt.mpr h)
  | cons c' y' =>
    refine ⟨c', y', rfl, ?_⟩
    rcases List.cons_le_cons_iff.mp h with k | ⟨k, _⟩ <;> omega
/-- the sign behind a word -/
theorem sign_at {w r : T} {c : Nat} (h : w <+: r) : r[w.length]? = some c ↔ w ++ [c] <+: r := by
  obtain ⟨y, rfl⟩ := h
  rw [List.getElem?_append_right (Nat.le_refl _), Nat.sub_self, List.prefix_append_right_inj]
  cases y with
  | nil => simp
  | cons b y => simp [List.cons_prefix_cons, eq_comm]

structure PInv (R : List T) (d low m : Nat) (gs : List Grp) : Prop where
  asc : (gs.map (·.1)).Pairwise (· < ·)
  grp : ∀ g, g ∈ gs → low ≤ g.2.1 ∧ g.2.1 < g.2.2 ∧ g.2.2 ≤ low + m ∧ ∀ i, low ≤ i → i < low + m → ((g.2.1 ≤ i ∧ i < g.2.2) ↔ (R.getD i [])[d]? = some g.1)
  all : ∀ i c, low ≤ i → i < low + m → (R.getD i [])[d]? = some c → ∃ lo hi, (c, lo, hi) ∈ gs

theorem pinv_step {R : List T} {d low m high : Nat} {gs : List Grp} (hm : low + m < high)
    (mono : ∀ i j c, low ≤ i → i ≤ j → j < high → (R.getD i [])[d]? = some c → ∃ c', (R.getD j [])[d]? = some c' ∧ c ≤ c') (I : PInv R d low m gs) : PInv R d low (m + 1) (pstep R d gs (low + m)) := by
  unfold pstep
  cases hs : (R.getD (low + m) [])[d]? with
  | none =>
    refine ⟨I.asc, fun g hg => ?_, fun i c h1 h2 h3 => ?_⟩
    · obtain ⟨a, b, c, e⟩ := I.grp g hg
      refine ⟨a, b, by omega, fun i h1 h2 => ?_⟩
      by_cases hi : i < low + m
      · exact e i h1 hi
      · have ei : i = low + m := by omega
        subst ei
        rw [hs]
        constructor
        · rintro ⟨_, k⟩; omega
        · intro k; cases k
    · by_cases hi : i < low + m
      · exact I.all i c h1 hi h3
      · have ei : i = low + m := by omega
        subst ei
        rw [hs] at h3
        cases h3
  | some c =>
    dsimp only
    rcases List.eq_nil_or_concat gs with e | ⟨gi, g, e⟩
    · subst e
      dsimp only [List.getLast?_nil, List.nil_append]
      refine ⟨by simp, fun g hg => ?_, fun i c' h1 h2 h3 => ?_⟩
      · have eg : g = (c, low + m, low + m + 1) := by simpa using hg
        subst eg
        refine ⟨by dsimp only; omega, by dsimp only; omega, by dsimp only; omega, fun i h1 h2 => ?_⟩
        dsimp only
        by_cases hi : i < low + m
        · constructor
          · rintro ⟨k, _⟩; omega
          · intro k
            obtain ⟨_, _, q⟩ := I.all i c h1 hi k
            cases q
        · have ei : i = low + m := by omega
          subst ei
          rw [hs]
          constructor
          · intro _; rfl
          · intro _; omega
      · by_cases hi : i < low + m
        · obtain ⟨_, _, q⟩ := I.all i c' h1 hi h3
          cases q
        · have ei : i = low + m := by omega
          subst ei
          rw [hs] at h3
          cases h3
          exact ⟨low + m, low + m + 1, by simp⟩
    · rw [List.concat_eq_append] at e
      subst e
      rw [List.getLast?_append, List.getLast?_singleton]
      dsimp only [Option.or]
      obtain ⟨cg, lo, hi⟩ := g
      obtain ⟨a, b, hh, e⟩ := I.grp (cg, lo, hi) (by simp)
      dsimp only at a b hh e ⊢
      have hcl : (R.getD lo [])[d]? = some cg := (e lo a (by omega)).mp ⟨Nat.le_refl _, b⟩
      have hle : cg ≤ c := by
        obtain ⟨c', h1, h2⟩ := mono lo (low + m) cg a (by omega) hm hcl
        rw [hs] at h1
        cases h1
        exact h2
      have asc := I.asc
      rw [List.map_append, List.pairwise_append] at asc
      obtain ⟨asc1, _, asc3⟩ := asc
      have lt_of : ∀ g ∈ gi, g.1 < cg := fun g hg => asc3 g.1 (List.mem_map.mpr ⟨g, hg, rfl⟩) cg (by simp)
      by_cases hc : cg = c
      · subst hc
        rw [if_pos rfl, List.dropLast_append_of_ne_nil (by simp), List.dropLast_singleton, List.append_nil]
        have ehi : hi = low + m := by
          rcases Nat.lt_or_ge hi (low + m) with q | q
          · exfalso
            obtain ⟨c', h1, h2⟩ := mono lo hi cg a (by omega) (by omega) hcl
            obtain ⟨c2, h3, h4⟩ := mono hi (low + m) c' (by omega) (by omega) hm h1
            rw [hs] at h3
            cases h3
            have ec : c' = cg := by omega
            subst ec
            have := (e hi (by omega) q).mpr h1
            omega
          · omega
        refine ⟨?_, fun g hg => ?_, fun i c' h1 h2 h3 => ?_⟩
        · rw [List.map_append, List.pairwise_append]
          refine ⟨asc1, by simp, fun x hx y hy => ?_⟩
          exact asc3 x hx y (by simpa using hy)
        · rcases List.mem_append.mp hg with hg | hg
          · obtain ⟨a2, b2, h2, e2⟩ := I.grp g (List.mem_append_left _ hg)
            refine ⟨a2, b2, by omega, fun i h1 h3 => ?_⟩
            by_cases hi' : i < low + m
            · exact e2 i h1 hi'
            · have ei : i = low + m := by omega
              subst ei
              rw [hs]
              have := lt_of g hg
              constructor
              · rintro ⟨_, k⟩; omega
              · intro k
                have : cg = g.1 := Option.some.inj k
                omega
          · have eg : g = (cg, lo, low + m + 1) := by simpa using hg
            subst eg
            refine ⟨a, by dsimp only; omega, by dsimp only; omega, fun i h1 h3 => ?_⟩
            dsimp only
            by_cases hi' : i < low + m
            · rw [← e i h1 hi']
              constructor
              · rintro ⟨k, _⟩; exact ⟨k, by omega⟩
              · rintro ⟨k, _⟩; exact ⟨k, by omega⟩
            · have ei : i = low + m := by omega
              subst ei
              rw [hs]
              constructor
              · intro _; rfl
              · intro _; omega
        · by_cases hi' : i < low + m
          · obtain ⟨l2, h2', q⟩ := I.all i c' h1 hi' h3
            rcases List.mem_append.mp q with q | q
            · exact ⟨l2, h2', List.mem_append_left _ q⟩
            · have eg : (c', l2, h2') = (cg, lo, hi) := by simpa using q
              cases eg
              exact ⟨lo, low + m + 1, by simp⟩
          · have ei : i = low + m := by omega
            subst ei
            rw [hs] at h3
            cases h3
            exact ⟨lo, low + m + 1, by simp⟩
      · rw [if_neg hc]
        have hlt : cg < c := by omega
        have ltc : ∀ g ∈ gi ++ [(cg, lo, hi)], g.1 < c := fun g hg => by
          rcases List.mem_append.mp hg with hg | hg
          · have := lt_of g hg
            omega
          · have eg : g = (cg, lo, hi) := by simpa using hg
            subst eg
            exact hlt
        refine ⟨?_, fun g hg => ?_, fun i c' h1 h2 h3 => ?_⟩
        · rw [List.map_append, List.pairwise_append]
          refine ⟨I.asc, by simp, fun x hx y hy => ?_⟩
          obtain ⟨g, hg, rfl⟩ := List.mem_map.mp hx
          have ey : y = c := by simpa using hy
          subst ey
          exact ltc g hg
        · rcases List.mem_append.mp hg with hg | hg
          · obtain ⟨a2, b2, h2, e2⟩ := I.grp g hg
            have := ltc g hg
            refine ⟨a2, b2, by omega, fun i h1 h3 => ?_⟩
            by_cases hi' : i < low + m
            · exact e2 i h1 hi'
            · have ei : i = low + m := by omega
              subst ei
              rw [hs]
              constructor
              · rintro ⟨_, k⟩; omega
              · intro k
                have : c = g.1 := Option.some.inj k
                omega
          · have eg : g = (c, low + m, low + m + 1) := by simpa using hg
            subst eg
            refine ⟨by dsimp only; omega, by dsimp only; omega, by dsimp only; omega, fun i h1 h3 => ?_⟩
            dsimp only
            by_cases hi' : i < low + m
            · constructor
              · rintro ⟨k, _⟩; omega
              · intro k
                obtain ⟨l2, h2', q⟩ := I.all i c h1 hi' k
                have := ltc _ q
                dsimp only at this
                omega
            · have ei : i = low + m := by omega
              subst ei
              rw [hs]
              constructor
              · intro _; rfl
              · intro _; omega
        · by_cases hi' : i < low + m
          · obtain ⟨l2, h2', q⟩ := I.all i c' h1 hi' h3
            exact ⟨l2, h2', List.mem_append_left _ q⟩
          · have ei : i = low + m := by omega
            subst ei
            rw [hs] at h3
            cases h3
            exact ⟨low + m, low + m + 1, List.mem_append_right _ (by simp)⟩

theorem pinv_all {R : List T} {d low high : Nat} (mono : ∀ i j c, low ≤ i → i ≤ j → j < high → (R.getD i [])[d]? = some c → ∃ c', (R.getD j [])[d]? = some c' ∧ c ≤ c') :
    ∀ m, low + m ≤ high → PInv R d low m (partTo R low d m)
  | 0, _ => ⟨by simp [partTo], fun g hg => by simp [partTo] at hg, fun i c h1 h2 _ => by omega⟩
  | m + 1, h => pinv_step (by omega) mono (pinv_all mono m (by omega))

/-- a range of what begins with a word, parted: the ranges of the word with each sign behind it, ascending -/
theorem partF_rng {R : List T} (hR : Srt R) (w : T) : ∃ cs : List Nat, partF R (rng R w).1 (rng R w).2 w.length = cs.map (fun c => (c, rng R (w ++ [c]))) ∧ cs.Pairwise (· < ·) ∧ ∀ c, c ∈ cs ↔ ∃ r ∈ R, w ++ [c] <+: r := by
  have hn := rng_le (R := R) w
  have hl := rng_low (R := R) w
  have inW : ∀ i, (rng R w).1 ≤ i → i < (rng R w).2 → ∃ r, R[i]? = some r ∧ R.getD i [] = r ∧ w <+: r := fun i h1 h2 => by
    have g := List.getElem?_eq_getElem (show i < R.length by omega)
    exact ⟨_, g, by simp [List.getD, g], (rng_iff hR g).mp ⟨h1, h2⟩⟩
  have mono : ∀ i j c, (rng R w).1 ≤ i → i ≤ j → j < (rng R w).2 → (R.getD i [])[w.length]? = some c → ∃ c', (R.getD j [])[w.length]? = some c' ∧ c ≤ c' := by
    intro i j c h1 h2 h3 h4
    obtain ⟨r, g1, e1, p1⟩ := inW i h1 (by omega)
    obtain ⟨q, g2, e2, p2⟩ := inW j (by omega) h3
    rw [e1] at h4
    rw [e2]
    have hle : r ≤ q := by
      rcases Nat.lt_or_ge i j with k | k
      · have hi : i < R.length := by omega
        have hj : j < R.length := by omega
        have z := List.pairwise_iff_getElem.mp hR i j hi hj k
        rw [List.getElem?_eq_getElem hi] at g1
        rw [List.getElem?_eq_getElem hj] at g2
        cases g1
        cases g2
        exact z
      · have ei : i = j := by omega
        subst ei
        rw [g1] at g2
        cases g2
        exact t_refl _
    obtain ⟨x, rfl⟩ := p1
    obtain ⟨y, rfl⟩ := p2
    rw [List.getElem?_append_right (Nat.le_refl _), Nat.sub_self] at h4 ⊢
    cases x with
    | nil => simp at h4
    | cons b x =>
      have eb : b = c := by simpa using h4
      subst eb
      have k : b :: x ≤ y := t_nlt.mp fun z => t_nlt.mpr hle ((app_lt_same w).mpr z)
      obtain ⟨c', y', rfl, hc⟩ := cons_of_le k
      exact ⟨c', by simp, hc⟩
  have I := pinv_all (R := R) (d := w.length) mono ((rng R w).2 - (rng R w).1) (by omega)
  have eh : (rng R w).1 + ((rng R w).2 - (rng R w).1) = (rng R w).2 := by omega
  generalize hg : partTo R (rng R w).1 w.length ((rng R w).2 - (rng R w).1) = gs at I
  have eg : ∀ g ∈ gs, g = (g.1, rng R (w ++ [g.1])) := fun g hg => by
    obtain ⟨a, b, c, e⟩ := I.grp g hg
    rw [eh] at c e
    refine Prod.ext rfl (rng_eq hR b (by omega) fun i r hr => ?_).symm
    by_cases hi : (rng R w).1 ≤ i ∧ i < (rng R w).2
    · obtain ⟨r', g1, e1, p1⟩ := inW i hi.1 hi.2
      rw [hr] at g1
      cases g1
      rw [e i hi.1 hi.2, e1, sign_at p1]
    · constructor
      · intro k; exact absurd ⟨by omega, by omega⟩ hi
      · intro k
        exact absurd ((rng_iff hR hr).mpr ((List.prefix_append _ _).trans k)) hi
  refine ⟨gs.map (·.1), ?_, I.asc, fun c => ⟨fun hc => ?_, fun hc => ?_⟩⟩
  · unfold partF
    rw [hg, List.map_map]
    conv => lhs; rw [← List.map_id gs]
    exact List.map_congr_left fun g h => eg g h
  · obtain ⟨g, hg', rfl⟩ := List.mem_map.mp hc
    obtain ⟨a, b, c, e⟩ := I.grp g hg'
    rw [eh] at c e
    obtain ⟨r, g1, e1, p1⟩ := inW g.2.1 a (by omega)
    refine ⟨r, List.mem_of_getElem? g1, (sign_at p1).mp ?_⟩
    rw [← e1]
    exact (e g.2.1 a (by omega)).mp ⟨Nat.le_refl _, b⟩
  · obtain ⟨r, hr, hp⟩ := hc
    obtain ⟨i, hi⟩ := List.mem_iff_getElem?.mp hr
    have pw : w <+: r := (List.prefix_append _ _).trans hp
    obtain ⟨h1, h2⟩ := (rng_iff hR hi).mpr pw
    obtain ⟨r', g1, e1, p1⟩ := inW i h1 h2
    rw [hi] at g1
    cases g1
    obtain ⟨lo, h', q⟩ := I.all i c h1 (by omega) (by rw [e1]; exact (sign_at pw).mpr hp)
    exact List.mem_map.mpr ⟨_, q, rfl⟩

/-! ### the search -/
inductive Part where
  | sign (c : Nat) | any | lot (l : List Nat)
  deriving DecidableEq
def Part.lets : Part → Nat → Bool
  | .sign s, c => decide (c = s)
  | .any, _ => true
  | .lot l, c => decide (c ∈ l)
def fitB : List Part → T → Bool
  | [], [] => true
  | p :: ps, c :: cs => p.lets c && fitB ps cs
  | _, _ => false
theorem fitB_len : ∀ {ps : List Part} {w : T}, fitB ps w = true → w.length = ps.length
  | [], [], _ => rfl
  | p :: ps, c :: cs, h => by
    simp only [fitB, Bool.and_eq_true] at h
    simp [fitB_len h.2]
  | [], _ :: _, h => by simp [fitB] at h
  | _ :: _, [], h => by simp [fitB] at h
theorem fitB_snoc : ∀ {ps : List Part} {w : T} {p : Part} {c : Nat}, w.length = ps.length → fitB (ps ++ [p]) (w ++ [c]) = (fitB ps w && p.lets c)
  | [], [], p, c, _ => by simp [fitB]
  | q :: ps, x :: w, p, c, h => by
    show (q.lets x && fitB (ps ++ [p]) (w ++ [c])) = (q.lets x && fitB ps w && p.lets c)
    rw [fitB_snoc (by simpa using h), Bool.and_assoc]
  | [], _ :: _, _, _, h => by simp at h
  | _ :: _, [], _, _, h => by simp at h
def nextF (R : List T) (d : Nat) (p : Part) (found : List (Nat × Nat)) : List (Nat × Nat) :=
  found.flatMap fun q => ((partF R q.1 q.2 d).filter fun g => p.lets g.1).map (·.2)
def levF (R : List T) (pat : List Part) : Nat → List (Nat × Nat)
  | 0 => [(0, R.length)]
  | k + 1 => nextF R k (pat.getD k .any) (levF R pat k)
def lookF (R : List T) (pat : List Part) : Nat → Nat
  | 0 => 1
  | k + 1 => lookF R pat k + (levF R pat (k + 1)).length

/-- strictly ascending -/
abbrev Asc (l : List T) : Prop := l.Pairwise (· < ·)
theorem asc_uniq {l m : List T} (hl : Asc l) (hm : Asc m) (h : ∀ x, x ∈ l ↔ x ∈ m) : l = m := by
  have nd : ∀ {l : List T}, Asc l → l.Nodup := fun h => h.imp fun {a b} k e => by subst e; exact t_irr _ k
  have hp : l.Perm m := (List.perm_ext_iff_of_nodup (nd hl) (nd hm)).mpr h
  exact hp.eq_of_pairwise (le := (· < ·)) (fun a b _ _ h k => absurd h (List.lt_asymm k)) hl hm

theorem levF_words {R : List T} (hR : Srt R) (pat : List Part) : ∀ k, k ≤ pat.length →
    ∃ ws : List T, levF R pat k = ws.map (rng R) ∧ Asc ws ∧ ∀ w, w ∈ ws ↔ fitB (pat.take k) w = true ∧ (k = 0 ∨ ∃ r ∈ R, w <+: r)
  | 0, _ => by
    refine ⟨[[]], ?_, by simp, fun w => ?_⟩
    · show [(0, R.length)] = [rng R []]
      rw [rng_nil]
    · cases w <;> simp [fitB]
  | k + 1, hk => by
    obtain ⟨ws, e, ha, hm⟩ := levF_words hR pat k (by omega)
    have hkl : k < pat.length := by omega
    have len : ∀ w ∈ ws, w.length = k := fun w hw => by
      have := fitB_len ((hm w).mp hw).1
      rw [this, List.length_take]
      omega
    let p := pat.getD k .any
    -- each word's signs
    have ex : ∀ ws : List T, (∀ w ∈ ws, w.length = k) → Asc ws → ∃ vs : List T, nextF R k p (ws.map (rng R)) = vs.map (rng R) ∧ Asc vs ∧ ∀ v, v ∈ vs ↔ ∃ w ∈ ws, ∃ c, v = w ++ [c] ∧ p.lets c = true ∧ ∃ r ∈ R, v <+: r := by
      intro ws
      induction ws with
      | nil =>
        intro _ _
        exact ⟨[], rfl, by simp, by simp⟩
      | cons w ws ih =>
        intro hlen hasc
        obtain ⟨hw, hasc'⟩ := List.pairwise_cons.mp hasc
        obtain ⟨vs, e1, e2, e3⟩ := ih (fun w' h => hlen w' (List.mem_cons_of_mem _ h)) hasc'
        obtain ⟨cs, c1, c2, c3⟩ := partF_rng hR w
        have lw : w.length = k := hlen w List.mem_cons_self
        rw [lw] at c1
        refine ⟨(cs.filter fun c => p.lets c).map (fun c => w ++ [c]) ++ vs, ?_, ?_, fun v => ?_⟩
        · show (((partF R (rng R w).1 (rng R w).2 k).filter fun g => p.lets g.1).map (·.2)) ++ nextF R k p (ws.map (rng R)) = _
          rw [e1, c1, List.map_append, List.filter_map, List.map_map, List.map_map]
          rfl
        · refine List.pairwise_append.mpr ⟨?_, e2, fun x hx y hy => ?_⟩
          · rw [List.pairwise_map]
            refine (List.Pairwise.filter _ c2).imp fun {a b} h => ?_
            exact (app_lt_same w).mpr (t_cons.mpr (.inl h))
          · obtain ⟨c, _, rfl⟩ := List.mem_map.mp hx
            obtain ⟨w', hw', c', rfl, _⟩ := (e3 y).mp hy
            exact app_lt (by rw [lw, hlen w' (List.mem_cons_of_mem _ hw')]) (hw w' hw') _ _
        · rw [List.mem_append, e3]
          constructor
          · rintro (h | ⟨w', hw', c, h⟩)
            · obtain ⟨c, hc, rfl⟩ := List.mem_map.mp h
              obtain ⟨hc1, hc2⟩ := List.mem_filter.mp hc
              exact ⟨w, List.mem_cons_self, c, rfl, hc2, (c3 c).mp hc1⟩
            · exact ⟨w', List.mem_cons_of_mem _ hw', c, h⟩
          · rintro ⟨w', hw', c, rfl, h1, h2⟩
            rcases List.mem_cons.mp hw' with q | q
            · subst q
              exact .inl (List.mem_map.mpr ⟨c, List.mem_filter.mpr ⟨(c3 c).mpr h2, h1⟩, rfl⟩)
            · exact .inr ⟨w', q, c, rfl, h1, h2⟩
    obtain ⟨vs, e1, e2, e3⟩ := ex ws len ha
    refine ⟨vs, ?_, e2, fun v => ?_⟩
    · show nextF R k p (levF R pat k) = _
      rw [e, e1]
    · rw [e3]
      have et : pat.take (k + 1) = pat.take k ++ [p] := by
        rw [List.take_add_one, List.getElem?_eq_getElem hkl]
        show _ = pat.take k ++ [pat.getD k .any]
        rw [List.getD, List.getElem?_eq_getElem hkl]
        rfl
      have lt : (pat.take k).length = k := by rw [List.length_take]; omega
      rw [et]
      constructor
      · rintro ⟨w, hw, c, rfl, h1, h2⟩
        refine ⟨?_, .inr h2⟩
        rw [fitB_snoc (by rw [len w hw, lt]), ((hm w).mp hw).1, h1]
        rfl
      · rintro ⟨h1, h2⟩
        have hl := fitB_len h1
        rw [List.length_append, lt, List.length_singleton] at hl
        rcases List.eq_nil_or_concat v with q | ⟨w, c, q⟩
        · subst q
          simp at hl
        · rw [List.concat_eq_append] at q
          subst q
          have lw : w.length = k := by simpa using hl
          rw [fitB_snoc (by rw [lw, lt]), Bool.and_eq_true] at h1
          have h2' : ∃ r ∈ R, w ++ [c] <+: r := by
            rcases h2 with z | z
            · omega
            · exact z
          refine ⟨w, (hm w).mpr ⟨h1.1, .inr ?_⟩, c, rfl, h1.2, h2'⟩
          obtain ⟨r, hr, hp⟩ := h2'
          exact ⟨r, hr, (List.prefix_append _ _).trans hp⟩

/-- one list of ascending words: the level's ranges and how many -/
theorem levF_of {R : List T} (hR : Srt R) {pat : List Part} {k : Nat} (hk : 0 < k) (hp : k ≤ pat.length) {b : List T} (hb : Asc b) (hm : ∀ w, w ∈ b ↔ fitB (pat.take k) w = true ∧ ∃ r ∈ R, w <+: r) : levF R pat k = b.map (rng R) := by
  obtain ⟨ws, e, ha, h⟩ := levF_words hR pat k hp
  have q : ws = b := asc_uniq ha hb fun w => by
    rw [h, hm]
    constructor
    · rintro ⟨h1, h2 | h2⟩
      · omega
      · exact ⟨h1, h2⟩
    · rintro ⟨h1, h2⟩
      exact ⟨h1, .inr h2⟩
  rw [e, q]
/-- the ranges of ascending words as long as one another that stand ascend -/
theorem rng_asc {R : List T} (hR : Srt R) {b : List T} (hb : Asc b) {n : Nat} (hl : ∀ w ∈ b, w.length = n) (hs : ∀ w ∈ b, ∃ r ∈ R, w <+: r) : (b.map (rng R)).Pairwise (fun p q => p.1 < q.1) := by
  rw [List.pairwise_map]
  refine List.Pairwise.imp_of_mem (fun {a c} ha hc h => ?_) hb
  obtain ⟨r, hr, hp⟩ := hs a ha
  exact rng_lt hR (by rw [hl a ha, hl c hc]) h hr hp
end EP

/-! The order of endings; ranks by twice as many signs in each round. -/
namespace EP
abbrev Pl := Nat × Nat
def endOf (ts : List T) (q : Pl) : T := (ts.getD q.1 []).drop q.2
def placesOf (ts : List T) : List Pl := (List.range ts.length).flatMap fun n => (List.range (ts.getD n []).length).map fun a => (n, a)
theorem mem_places {ts : List T} {q : Pl} : q ∈ placesOf ts ↔ q.2 < (ts.getD q.1 []).length := by
  unfold placesOf
  simp only [List.mem_flatMap, List.mem_range, List.mem_map]
  constructor
  · rintro ⟨n, _, a, h, rfl⟩
    exact h
  · intro h
    refine ⟨q.1, ?_, q.2, h, rfl⟩
    rcases Nat.lt_or_ge q.1 ts.length with k | k
    · exact k
    · rw [List.getD, List.getElem?_eq_none k] at h
      simp at h
theorem place_lt {ts : List T} {q : Pl} (h : q ∈ placesOf ts) : q.1 < ts.length := by
  have k := mem_places.mp h
  rcases Nat.lt_or_ge q.1 ts.length with z | z
  · exact z
  · rw [List.getD, List.getElem?_eq_none z] at k
    simp at k
theorem nodup_places (ts : List T) : (placesOf ts).Nodup := by
  unfold placesOf
  rw [List.nodup_iff_pairwise_ne, List.pairwise_flatMap]
  refine ⟨fun n _ => ?_, ?_⟩
  · rw [List.pairwise_map]
    refine List.nodup_range.imp fun {a b} h e => h ?_
    exact (Prod.mk.inj e).2
  · refine List.nodup_range.imp fun {a b} h x hx y hy e => ?_
    obtain ⟨u, _, rfl⟩ := List.mem_map.mp hx
    obtain ⟨v, _, rfl⟩ := List.mem_map.mp hy
    exact h (Prod.mk.inj e).1
theorem end_ne {ts : List T} {q : Pl} (h : q ∈ placesOf ts) : endOf ts q ≠ [] := by
  have k := mem_places.mp h
  unfold endOf
  intro e
  have z := congrArg List.length e
  rw [List.length_drop] at z
  have y : ([] : T).length = 0 := rfl
  omega
theorem end_drop (ts : List T) (n a m : Nat) : endOf ts (n, a + m) = (endOf ts (n, a)).drop m := by
  unfold endOf
  rw [List.drop_drop]
/-! ### the order -/
def plt (p q : Pl) : Prop := p.1 < q.1 ∨ (p.1 = q.1 ∧ p.2 ≤ q.2)
instance (p q : Pl) : Decidable (plt p q) := by unfold plt; exact inferInstance
def ple (ts : List T) (p q : Pl) : Bool := decide (endOf ts p < endOf ts q ∨ (endOf ts p = endOf ts q ∧ plt p q))
theorem ple_iff {ts : List T} {p q : Pl} : ple ts p q = true ↔ endOf ts p < endOf ts q ∨ (endOf ts p = endOf ts q ∧ plt p q) := by simp [ple]
theorem ple_trans (ts : List T) (a b c : Pl) (h : ple ts a b = true) (k : ple ts b c = true) : ple ts a c = true := by
  rw [ple_iff] at h k ⊢
  rcases h with h | ⟨h, h'⟩
  · rcases k with k | ⟨k, _⟩
    · exact .inl (t_trans h k)
    · exact .inl (k ▸ h)
  · rcases k with k | ⟨k, k'⟩
    · exact .inl (h ▸ k)
    · refine .inr ⟨h.trans k, ?_⟩
      unfold plt at *
      omega
theorem ple_total (ts : List T) (a b : Pl) : (ple ts a b || ple ts b a) = true := by
  rw [Bool.or_eq_true, ple_iff, ple_iff]
  rcases t_tri (endOf ts a) (endOf ts b) with h | h | h
  · exact .inl (.inl h)
  · have : plt a b ∨ plt b a := by unfold plt; omega
    rcases this with k | k
    · exact .inl (.inr ⟨h, k⟩)
    · exact .inr (.inr ⟨h.symm, k⟩)
  · exact .inr (.inl h)
def ordr (ts : List T) : List Pl := (placesOf ts).mergeSort (ple ts)
def rowsOf (ts : List T) : List T := (ordr ts).map (endOf ts)
theorem ordr_perm (ts : List T) : (ordr ts).Perm (placesOf ts) := List.mergeSort_perm _ _
theorem mem_ordr {ts : List T} {q : Pl} : q ∈ ordr ts ↔ q ∈ placesOf ts := (ordr_perm ts).mem_iff
theorem rows_srt (ts : List T) : Srt (rowsOf ts) := by
  unfold rowsOf Srt
  rw [List.pairwise_map]
  refine (List.pairwise_mergeSort (ple_trans ts) (ple_total ts) (placesOf ts)).imp fun {a b} h => ?_
  rcases ple_iff.mp h with k | ⟨k, _⟩
  · exact t_le k
  · rw [k]; exact t_refl _
theorem mem_rows {ts : List T} {r : T} : r ∈ rowsOf ts ↔ ∃ q ∈ placesOf ts, r = endOf ts q := by
  unfold rowsOf
  rw [List.mem_map]
  constructor
  · rintro ⟨q, h, e⟩
    exact ⟨q, mem_ordr.mp h, e.symm⟩
  · rintro ⟨q, h, e⟩
    exact ⟨q, mem_ordr.mpr h, e.symm⟩
/-! ### twice as many signs -/
theorem lt_app : ∀ {x y : T}, x < y → ¬ x <+: y → ∀ z w : T, x ++ z < y ++ w
  | [], y, _, h, _, _ => absurd List.nil_prefix h
  | a :: x, [], h, _, _, _ => absurd h (List.not_lt_nil _)
  | a :: x, b :: y, h, k, z, w => by
    rcases t_cons.mp h with h | ⟨h, h'⟩
    · exact t_cons.mpr (.inl h)
    · subst h
      refine t_cons.mpr (.inr ⟨rfl, lt_app h' (fun q => k (List.cons_prefix_cons.mpr ⟨rfl, q⟩)) z w⟩)
theorem app_le (x z : T) : x ≤ x ++ z := pre_le (List.prefix_append x z)
theorem two_lt {m : Nat} {a b a' b' : T} (h1 : a.length ≤ m) (h2 : a'.length ≤ m) (k1 : a.length < m → b = []) (k2 : a'.length < m → b' = []) (h : a < a') : a ++ b < a' ++ b' := by
  rcases Classical.em (a <+: a') with q | q
  · have hl : a.length < a'.length := by
      rcases Nat.lt_or_ge a.length a'.length with z | z
      · exact z
      · have e := q.eq_of_length (Nat.le_antisymm q.length_le z)
        rw [e] at h
        exact absurd h (t_irr _)
    rw [k1 (by omega), List.append_nil]
    exact t_lt_le h (app_le _ _)
  · exact lt_app h q b b'
theorem two_iff {m : Nat} {a b a' b' : T} (h1 : a.length ≤ m) (h2 : a'.length ≤ m) (k1 : a.length < m → b = []) (k2 : a'.length < m → b' = []) : a ++ b < a' ++ b' ↔ a < a' ∨ (a = a' ∧ b < b') := by
  constructor
  · intro h
    rcases t_tri a a' with q | q | q
    · exact .inl q
    · subst q
      exact .inr ⟨rfl, (app_lt_same a).mp h⟩
    · exact absurd (t_trans h (two_lt h2 h1 k2 k1 q)) (t_irr _)
  · rintro (h | ⟨h, k⟩)
    · exact two_lt h1 h2 k1 k2 h
    · subst h
      exact (app_lt_same a).mpr k
/-- numbers that stand as the first m signs do -/
structure Rk (ts : List T) (m : Nat) (g : Pl → Int) : Prop where
  lt : ∀ p q, p ∈ placesOf ts → q ∈ placesOf ts → (g p < g q ↔ (endOf ts p).take m < (endOf ts q).take m)
  pos : ∀ p, p ∈ placesOf ts → 0 ≤ g p
theorem Rk.eq {ts : List T} {m : Nat} {g : Pl → Int} (R : Rk ts m g) {p q : Pl} (hp : p ∈ placesOf ts) (hq : q ∈ placesOf ts) : g p = g q ↔ (endOf ts p).take m = (endOf ts q).take m := by
  have a := R.lt p q hp hq
  have b := R.lt q p hq hp
  constructor
  · intro e
    rcases t_tri ((endOf ts p).take m) ((endOf ts q).take m) with z | z | z
    · have := a.mpr z; omega
    · exact z
    · have := b.mpr z; omega
  · intro e
    rw [e] at a b
    have na : ¬ g p < g q := fun z => t_irr _ (a.mp z)
    have nb : ¬ g q < g p := fun z => t_irr _ (b.mp z)
    omega
/-- the place so many signs behind, if it is one -/
def tailP (ts : List T) (m : Nat) (p : Pl) : Option Pl := if p.2 + m < (ts.getD p.1 []).length then some (p.1, p.2 + m) else none
def tailK (ts : List T) (m : Nat) (g : Pl → Int) (p : Pl) : Int := match tailP ts m p with
  | some q => g q
  | none => -1
/-- by the first, then by the second -/
def klt (x y : Int × Int) : Prop := x.1 < y.1 ∨ (x.1 = y.1 ∧ x.2 < y.2)
theorem rk_next {ts : List T} {m : Nat} {g : Pl → Int} (R : Rk ts m g) {f : Int × Int → Int} {g' : Pl → Int} (hg : ∀ p, p ∈ placesOf ts → g' p = f (g p, tailK ts m g p))
    (hf : ∀ p q, p ∈ placesOf ts → q ∈ placesOf ts → (f (g p, tailK ts m g p) < f (g q, tailK ts m g q) ↔ klt (g p, tailK ts m g p) (g q, tailK ts m g q))) (h0 : ∀ p, p ∈ placesOf ts → 0 ≤ f (g p, tailK ts m g p)) (hm : 0 < m) : Rk ts (2 * m) g' := by
  have two : ∀ e : T, e.take (2 * m) = e.take m ++ (e.drop m).take m := fun e => by
    have : 2 * m = m + m := by omega
    rw [this, List.take_add]
  have tl : ∀ p, p ∈ placesOf ts → (tailP ts m p = none ∧ ((endOf ts p).drop m) = []) ∨ ∃ q, tailP ts m p = some q ∧ q ∈ placesOf ts ∧ endOf ts q = (endOf ts p).drop m := fun p hp => by
    unfold tailP
    by_cases c : p.2 + m < (ts.getD p.1 []).length
    · rw [if_pos c]
      exact .inr ⟨_, rfl, mem_places.mpr c, end_drop ts p.1 p.2 m⟩
    · rw [if_neg c]
      refine .inl ⟨rfl, ?_⟩
      unfold endOf
      rw [List.drop_drop]
      exact List.drop_eq_nil_of_le (by omega)
  have second : ∀ p q, p ∈ placesOf ts → q ∈ placesOf ts → (tailK ts m g p < tailK ts m g q ↔ ((endOf ts p).drop m).take m < ((endOf ts q).drop m).take m) := fun p q hp hq => by
    unfold tailK
    have ne : ∀ {q' : Pl}, q' ∈ placesOf ts → (endOf ts q').take m ≠ [] := fun hq' e => by
      have := end_ne hq'
      rw [List.take_eq_nil_iff] at e
      rcases e with e | e
      · omega
      · exact this e
    rcases tl p hp with ⟨e1, e2⟩ | ⟨p', e1, e2, e3⟩
    · rcases tl q hq with ⟨e4, e5⟩ | ⟨q', e4, e5, e6⟩
      · rw [e1, e4, e2, e5]
        simp
      · rw [e1, e4, e2, ← e6]
        have := R.pos q' e5
        constructor
        · intro _
          rw [List.take_nil]
          cases z : (endOf ts q').take m with
          | nil => exact absurd z (ne e5)
          | cons a b => exact List.nil_lt_cons _ _
        · intro _
          show (-1 : Int) < g q'
          omega
    · rcases tl q hq with ⟨e4, e5⟩ | ⟨q', e4, e5, e6⟩
      · rw [e1, e4, e5, ← e3]
        have := R.pos p' e2
        constructor
        · intro z
          have z' : g p' < -1 := z
          omega
        · intro z
          rw [List.take_nil] at z
          exact absurd z (List.not_lt_nil _)
      · rw [e1, e4, ← e3, ← e6]
        exact R.lt p' q' e2 e5
  refine ⟨fun p q hp hq => ?_, fun p hp => by rw [hg p hp]; exact h0 p hp⟩
  have len : ∀ e : T, (e.take m).length ≤ m := fun e => List.length_take_le _ _
  have short : ∀ e : T, (e.take m).length < m → (e.drop m).take m = [] := fun e h => by
    rw [List.length_take] at h
    rw [List.drop_eq_nil_of_le (by omega), List.take_nil]
  rw [hg p hp, hg q hq, hf p q hp hq, two, two, two_iff (len _) (len _) (short _) (short _), ← R.lt p q hp hq, ← R.eq hp hq, ← second p q hp hq]
  exact Iff.rfl
/-- when all signs are taken in, the numbers stand as the endings do -/
theorem rk_end {ts : List T} {m : Nat} {g : Pl → Int} (R : Rk ts m g) (hm : ∀ t ∈ ts, t.length ≤ m) {p q : Pl} (hp : p ∈ placesOf ts) (hq : q ∈ placesOf ts) : (g p < g q ↔ endOf ts p < endOf ts q) ∧ (g p = g q ↔ endOf ts p = endOf ts q) := by
  have all : ∀ {p : Pl}, p ∈ placesOf ts → (endOf ts p).take m = endOf ts p := fun {p} h => by
    apply List.take_of_length_le
    unfold endOf
    rw [List.length_drop]
    have k := place_lt h
    have e : ts.getD p.1 [] = ts[p.1] := by rw [List.getD, List.getElem?_eq_getElem k]; rfl
    have := hm _ (List.getElem_mem k)
    rw [e]
    omega
  have a := R.lt p q hp hq
  have b := R.eq hp hq
  rw [all hp, all hq] at a b
  exact ⟨a, b⟩
end EP

/-! Rules of this claim's own: repr of data, sorted of data, a text times a number. -/
namespace Ep
open PySem PySem.Spec PyProof.Rows L2
section
variable {X : Cx} {pins : List (Addr × Obj)} {σ : L2.St} {H : Hp} {s : Shared}

/-! ### data under a heap that grows -/
theorem same_sqt {K : PySem.W.Frag} {H H' : Hp} {a : Addr} {xs : List V} (e : Same H H') (h : SqT K H a xs) : SqT K H' a xs := by
  rcases h with (h | ⟨o, h⟩) | h
  · exact .inl (.inl (e _ _ h))
  · exact .inl (.inr ⟨o, e _ _ h⟩)
  · exact .inr h
mutual
theorem dp_same {K : PySem.W.Frag} {H H' : Hp} (e : Same H H') : ∀ {d : PyData} {v : V}, Dp K H v d → Dp K H' v d
  | .none, _, h => by cases h; exact .non
  | .bool _, _, h => by cases h; exact .bl _
  | .int _, _, h => by cases h; exact .int _
  | .str _, _, h => by cases h; exact .str _
  | .list _, _, h => by
    cases h with
    | lst h1 h2 => exact .lst (e.seq h1) (dps_same e h2)
  | .tuple _, _, h => by
    cases h with
    | tup h1 h2 => exact .tup (same_sqt e h1) (dps_same e h2)
  | .dict _, _, h => by cases h
theorem dps_same {K : PySem.W.Frag} {H H' : Hp} (e : Same H H') : ∀ {ds : List PyData} {vs : List V}, DpAll K H vs ds → DpAll K H' vs ds
  | [], _, h => by cases h; exact .nil
  | _ :: _, _, h => by
    cases h with
    | cons h1 h2 => exact .cons (dp_same e h1) (dps_same e h2)
end
theorem dps_len {K : PySem.W.Frag} {H : Hp} : ∀ {ds : List PyData} {vs : List V}, DpAll K H vs ds → vs.length = ds.length
  | [], _, h => by cases h; rfl
  | _ :: _, _, h => by
    cases h with
    | cons _ h2 => simp [dps_len h2]

/-! ### repr -/
theorem cr_repr (hg : X.A.guards = some []) (hu : X.A.units + 64 < cLine) : CallR X (.builtin "repr") (fun xs Hx Q => ∃ a d, xs = [.ref a] ∧ Dp X.K Hx (.ref a) d ∧ d.showable = true ∧ d.hasDict = false ∧ d.depth ≤ 60 ∧ d.shown.length ≤ sizeLine ∧ Q (.str d.shown) Hx) := by
  intro pins s σ H xs us Q I r h
  obtain ⟨a, d, rfl, hd, h1, h2, h3, h4, q⟩ := h
  obtain ⟨u, rfl, ru⟩ := vals1 r
  obtain rfl : u = Value.ref a := ru
  obtain ⟨as, rd⟩ := Dp.reads I d (.ref a) (.ref a) hd rfl
  refine repr_of_reads' rd h1 (fun z => ?_) hg (by omega) (fun _ _ e => e) (fun h' w tk hk => ?_) h4
  · rw [h2] at z
    cases z
  · exact ⟨.str d.shown, H, I.kept hk, ⟨_, rfl⟩, q⟩

/-! ### sorted -/
theorem each_of_dps (I : Inv X pins σ H s) : ∀ {ds : List PyData} {vs : List V} {us : List Value}, DpAll X.K H vs ds → Vals vs us → PySem.W.EachIs (fun u d => ∃ v, RelV v u ∧ Dp X.K H v d) us ds
  | [], _, _, h, r => by
    cases h
    cases r
    exact .nil
  | d :: ds, _, _, h, r => by
    cases h with
    | cons h1 h2 =>
      cases r with
      | cons r1 r2 => exact .cons ⟨_, r1, h1⟩ (each_of_dps I h2 r2)
theorem dps_of_each : ∀ {ds : List PyData} {us : List Value}, PySem.W.EachIs (fun u d => ∃ v, RelV v u ∧ Dp X.K H v d) us ds → ∃ vs, Vals vs us ∧ DpAll X.K H vs ds
  | [], _, h => by
    cases h
    exact ⟨[], .nil, .nil⟩
  | d :: ds, _, h => by
    cases h with
    | cons h1 h2 =>
      obtain ⟨v, r, q⟩ := h1
      obtain ⟨vs, r2, q2⟩ := dps_of_each h2
      exact ⟨v :: vs, .cons r r2, .cons q q2⟩
/-- the sorted data -/
def srtD (ds : List PyData) : List PyData := ds.mergeSort (PySem.W.dataLe false fun d => d)
theorem srtD_len (ds : List PyData) : (srtD ds).length = ds.length := (List.mergeSort_perm _ _).length_eq
def rSortD (K : PySem.W.Frag) : List V → Hp → VK → Prop := fun xs H Q => ∃ a vs ds, xs = [.ref a] ∧ SqL K H a vs ∧ DpAll K H vs ds ∧ PySem.W.AllAlike ds ∧ PySem.W.Sortable ds ∧ (∀ d, d ∈ ds → d.depth ≤ 60) ∧
  ∀ p ys, H p = none → DpAll K H ys (srtD ds) → Q (.ref p) (upd H p (.lst ys))
theorem cr_sortD (hu : X.A.units + 64 < cLine) : CallR X (.builtin "sorted") (rSortD X.K) := by
  intro pins s σ H xs us Q I r h
  obtain ⟨a, vs, ds, rfl, hl, hd, h1, h2, h3, q⟩ := h
  obtain ⟨u, rfl, ru⟩ := vals1 r
  obtain rfl : u = Value.ref a := ru
  obtain ⟨its, rv, pl, hz⟩ := I.list hl
  have e := each_of_dps I hd rv
  have el := dps_len hd
  refine PySem.W.sorted_data (enc := fun d => d) (bs := ds) pl.isList e (e.mono fun u d ⟨v, rv, dv⟩ => Dp.reads I d v u dv rv) (by simpa using h1) (by simpa using h2) (by omega) (fun b hb => by have := h3 b hb; omega) fun out hlen ho => ?_
  obtain ⟨ys, ry, dy⟩ := dps_of_each ho
  obtain ⟨ep, he⟩ := PyProof.Rows.sortedAll_at s.heap its out.toArray
  have hn : H (s.heap.objs.size + 1) = none := I.hok.fresh (Nat.le_succ _)
  refine ⟨.ref _, upd H (s.heap.objs.size + 1) (.lst ys), I.laid (t' := s.toks) (fun _ _ => PyProof.Rows.sortedAll_old) (Nat.le_succ _) ⟨?_, out, ep, ry, he⟩, rfl, q _ _ hn dy⟩
  rw [ry.length, hlen]
  omega

/-! ### a text times a number -/
theorem op_mulS : OpR X (binaryOp .Mult) (fun x y Hx Q => ∃ z n, x = .str z ∧ y = .int n ∧ 1 ≤ n ∧ n ≤ 1000 ∧ z.length ≤ 1000 ∧ Q (.str ⟨(List.replicate n.toNat z.cps.toList).flatten.toArray⟩) Hx) := by
  intro pins s σ H x y v u Q I rx ry h
  obtain ⟨z, n, rfl, rfl, h1, h2, h3, q⟩ := h
  obtain ⟨t, rfl⟩ := rx
  obtain ⟨t', rfl⟩ := ry
  have hfl : ∀ (k : Nat) (acc : Array Nat), (List.replicate k z.cps).foldl (· ++ ·) acc = acc ++ ((List.replicate k z.cps.toList).flatten.toArray) := by
    intro k
    induction k with
    | zero => intro acc; simp
    | succ k ih =>
      intro acc
      rw [List.replicate_succ, List.foldl_cons, ih, List.replicate_succ, List.flatten_cons]
      apply Array.ext'
      simp
  refine PySem.P.mul_str (by simp; omega) (fun _ _ => ?_) (fun _ _ => ?_) ?_
  · have a : (z.length : Int) ≤ 1000 := by omega
    have b : (1000 : Int) ≤ (2 ^ 63 - 1) / n := by
      rw [Int.le_ediv_iff_mul_le (by omega)]
      omega
    omega
  · have a : z.length * n.toNat ≤ 1000 * 1000 := Nat.mul_le_mul h3 (by omega)
    have b : ¬ z.length * n.toNat > sizeLine := by
      have : (1000 * 1000 : Nat) ≤ sizeLine := by decide
      omega
    have b' : z.length * n.toNat ≤ sizeLine := by omega
    simp [PySem.Builtin.Str.tooLong, b']
  · rw [if_neg (by omega)]
    split
    · rename_i c
      have e : z = ⟨(List.replicate n.toNat z.cps.toList).flatten.toArray⟩ := by
        rw [Bool.or_eq_true] at c
        rcases c with c | c
        · have en : n = 1 := by simpa using c
          subst en
          simp
        · have ez : z.cps = #[] := by
            have : z.cps.size = 0 := by simpa [Str.length] using c
            exact Array.eq_empty_of_size_eq_zero this
          obtain ⟨zc⟩ := z
          dsimp only at ez ⊢
          subst ez
          congr 1
          apply Array.ext'
          simp
      rw [← e] at q
      exact ⟨.str z, H, I.tok _, ⟨_, rfl⟩, q⟩
    · have e := hfl n.toNat #[]
      rw [Array.empty_append] at e
      rw [e]
      refine ⟨?_, .str _, H, I.tok _, ⟨_, rfl⟩, q⟩
      show (List.replicate n.toNat z.cps.toList).flatten.toArray.size ≤ sizeLine
      have a : z.length * n.toNat ≤ 1000 * 1000 := Nat.mul_le_mul h3 (by omega)
      have b : (1000 * 1000 : Nat) ≤ sizeLine := by decide
      simp [List.length_flatten, Str.length] at a ⊢
      rw [Nat.mul_comm]
      omega
end
end Ep

/-! zip and enumerate over tuples and texts; a written dict's get. -/
namespace Ep
open PySem PySem.Spec PyProof.Rows L2
/-- the signs of a text, each a text -/
def signsV (z : Str) : List V := z.cps.toList.map fun c => V.str ⟨#[c]⟩
/-- a tuple that stands, or a text: what is walked in it -/
inductive SqS (H : Hp) : V → List V → Prop where
  | tup {a : Addr} {xs : List V} (h : H a = some (.tup xs)) : SqS H (.ref a) xs
  | txt (z : Str) : SqS H (.str z) (signsV z)
/-- its iterator at it, i items taken -/
def itS : Value → Addr → Nat → Heap → Prop
  | .ref a, it, i, h => h.IsTupleIter it a i
  | .str x t, it, i, h => h.IsStrIter it (strIterType x) x t i
  | _, _, _, _ => False
theorem itS_obj {u : Value} {it : Addr} {i : Nat} {h : Heap} (q : itS u it i h) : ∃ o, h.get? it = some o ∧ ∀ v, o.data ≠ .cell v := by
  cases u with
  | ref a =>
    obtain ⟨o, ho, _, hd⟩ := (show h.IsTupleIter it a i from q)
    exact ⟨o, ho, fun v e => by rw [hd] at e; cases e⟩
  | str x t =>
    obtain ⟨o, ho, _, hd⟩ := (show h.IsStrIter it (strIterType x) x t i from q)
    exact ⟨o, ho, fun v e => by rw [hd] at e; cases e⟩
  | _ => exact q.elim
theorem itS_at {u : Value} {it : Addr} {i : Nat} {h h' : Heap} (q : itS u it i h) (k : ∀ o, h.get? it = some o → h'.get? it = some o) : itS u it i h' := by
  cases u with
  | ref a =>
    obtain ⟨o, ho, r⟩ := (show h.IsTupleIter it a i from q)
    exact ⟨o, k o ho, r⟩
  | str x t =>
    obtain ⟨o, ho, r⟩ := (show h.IsStrIter it (strIterType x) x t i from q)
    exact ⟨o, k o ho, r⟩
  | _ => exact q.elim
section
variable {X : Cx} {pins : List (Addr × Obj)} {σ : L2.St} {H : Hp} {s : Shared}
theorem sqs_draws {A : Around} {x : V} {xs : List V} {u : Value} (I : Inv X pins σ H s) (hh : A.handled = none) (g : SqS H x xs) (r : RelV x u) {it : Addr} (hit : H it = none) :
    ∃ (fp : List Addr) (P : Nat → Value → Prop) (S : Nat → Heap → Prop), Draws X.prog X.w A it (it :: fp) xs.length P S ∧ (∀ b ∈ fp, H b ≠ none) ∧ (∀ i v, P i v → ∃ y, xs[i]? = some y ∧ RelV y v) ∧
      (∀ i, itS u it i s.heap → S i s.heap) ∧ ∀ i h, S i h → itS u it i h := by
  cases g with
  | @tup a xs h =>
    obtain rfl : u = Value.ref a := r
    obtain ⟨its, rv, p, _⟩ := I.tuple (X := X) (a := a) (xs := xs) (.inl (.inl h))
    have hne : a ≠ it := fun e => by rw [e, hit] at h; cases h
    refine ⟨[a], fun i v => its.toArray[i]? = some v, fun i h => h.IsTupleIter it a i ∧ h.IsTuple a its.toArray, ?_, ?_, ?_, ?_, ?_⟩
    · have D := Draws.tuple (prog := X.prog) (w := X.w) hh it a hne its.toArray
      have e : its.toArray.size = xs.length := by simp [rv.length]
      rw [e] at D
      exact D
    · intro b hb
      have e : b = a := by simpa using hb
      rw [e, h]
      exact fun q => nomatch q
    · intro i v q
      have q' : its[i]? = some v := by simpa using q
      cases e : xs[i]? with
      | none => rw [rv.none_of e] at q'; cases q'
      | some y =>
        obtain ⟨v', e1, e2⟩ := rv.get e
        rw [e1] at q'
        cases q'
        exact ⟨y, rfl, e2⟩
    · exact fun i q => ⟨q, p⟩
    · exact fun i h q => q.1
  | txt z =>
    obtain ⟨t, rfl⟩ := (show ∃ t, u = Value.str z t from r)
    refine ⟨[], fun i v => ∃ c w, z.cps[i]? = some c ∧ v = .str ⟨#[c]⟩ w, fun i h => h.IsStrIter it (strIterType z) z t i, ?_, ?_, ?_, ?_, ?_⟩
    · have D := Draws.text (prog := X.prog) (w := X.w) hh it z t
      have e : z.cps.size = (signsV z).length := by simp [signsV]
      rw [e] at D
      exact D
    · intro b hb
      cases hb
    · rintro i v ⟨c, w, q, rfl⟩
      refine ⟨.str ⟨#[c]⟩, ?_, ⟨_, rfl⟩⟩
      have q' : z.cps.toList[i]? = some c := by simpa using q
      simp [signsV, q']
    · exact fun i q => q
    · exact fun i h q => q
theorem sqs_begins {x : V} {xs : List V} {u : Value} (I : Inv X pins σ H s) (g : SqS H x xs) (r : RelV x u) : ∃ (o : Obj) (B : Heap → Prop), Begins u o B ∧ B s.heap ∧ ∀ h it, h.get? it = some o → itS u it 0 h := by
  cases g with
  | @tup a xs h =>
    obtain rfl : u = Value.ref a := r
    obtain ⟨its, rv, p, _⟩ := I.tuple (X := X) (a := a) (xs := xs) (.inl (.inl h))
    exact ⟨_, _, begins_tuple a its.toArray, p, fun h it q => ⟨_, q, rfl, rfl⟩⟩
  | txt z =>
    obtain ⟨t, rfl⟩ := (show ∃ t, u = Value.str z t from r)
    exact ⟨_, _, begins_text z t, trivial, fun h it q => ⟨_, q, rfl, rfl⟩⟩
end

/-! ### zip -/
def ItzS (x y : V) (xs ys : List V) : It :=
  ⟨fun i H => (SqS H x xs ∧ SqS H y ys) ∧ i < xs.length ∧ i < ys.length,
    fun i H v H' => ∃ T a b, v = .ref T ∧ H T = none ∧ H' = upd H T (.tup [a, b]) ∧ xs[i]? = some a ∧ ys[i]? = some b,
    fun i H => (SqS H x xs ∧ SqS H y ys) ∧ i ≤ xs.length ∧ i ≤ ys.length ∧ (i = xs.length ∨ i = ys.length)⟩
theorem walk_zipS {x y : V} {xs ys : List V} {n : Nat} (hn : n = min xs.length ys.length) : Walk (ItzS x y xs ys) n (fun H => SqS H x xs ∧ SqS H y ys) (YPair (fun i => xs[i]?) (fun i => ys[i]?)) := by
  subst hn
  refine ⟨fun i H hi g => ⟨g, by omega, by omega⟩, fun H g => ⟨g, by omega, by omega, by omega⟩, fun i H v H' _ g q => q⟩
/-- five cells that lie apart -/
structure Apart5 (z TI TO i1 i2 : Addr) : Prop where
  a1 : TI ≠ z
  a2 : TO ≠ z
  a3 : TI ≠ TO
  a4 : TI ≠ i1
  a5 : TI ≠ i2
  a6 : z ≠ i1
  a7 : z ≠ i2
  a8 : TO ≠ i1
  a9 : TO ≠ i2
  a10 : i1 ≠ i2
theorem apart_sep {z TI TO i1 i2 : Addr} {fp1 fp2 : List Addr} {H : Hp} (D : Apart5 z TI TO i1 i2) (h1 : ∀ b ∈ fp1, H b ≠ none) (h2 : ∀ b ∈ fp2, H b ≠ none) (hz : H z = none) (hT : H TO = none) (e1 : H i1 = none) (e2 : H i2 = none) :
    ZipSep2 z TI TO i1 i2 (i1 :: fp1) (i2 :: fp2) where
  TIz := D.a1
  TOz := D.a2
  TITO := D.a3
  TIi1 := D.a4
  mem1 := List.mem_cons_self
  zf1 := fun m => (List.mem_cons.mp m).elim D.a6 fun q => h1 _ q hz
  Tf1 := fun m => (List.mem_cons.mp m).elim D.a8 fun q => h1 _ q hT
  TIi2 := D.a5
  mem2 := List.mem_cons_self
  zf2 := fun m => (List.mem_cons.mp m).elim D.a7 fun q => h2 _ q hz
  Tf2 := fun m => (List.mem_cons.mp m).elim D.a9 fun q => h2 _ q hT
  sep1_2 := fun m => (List.mem_cons.mp m).elim D.a10 fun q => h2 _ q e1
  sep2_1 := fun m => (List.mem_cons.mp m).elim (fun q => D.a10 q.symm) fun q => h1 _ q e2
def tnZ (u v : Value) (z TI TO i1 i2 : Addr) (i : Nat) (h : Heap) : Prop :=
  IsZip h z TI TO .none ∧ IsTupOf2 h TI (.ref i1) (.ref i2) ∧ (∃ a b, IsTupOf2 h TO a b) ∧ itS u i1 i h ∧ itS v i2 i h
theorem turn_zipS {P : Program} {w : World} {K : PySem.W.Frag} {elts : List Expr} {kk : Nat} {tpos : Pos} {x y : V} {xs ys : List V} {u v : Value} (ru : RelV x u) (rv : RelV y v) {z TI TO i1 i2 : Addr} (D : Apart5 z TI TO i1 i2) :
    Turn P w K (.Tuple elts kk tpos) (ItzS x y xs ys) [z, TI, TO, i1, i2] z (tnZ u v z TI TO i1 i2) where
  mem := by simp
  obj := fun i h st c hc => by
    obtain ⟨hz, hTI, ⟨a, b, hTO⟩, q1, q2⟩ := st
    have e' : c = z ∨ c = TI ∨ c = TO ∨ c = i1 ∨ c = i2 := by simpa using hc
    rcases e' with q | q | q | q | q <;> subst q
    · exact ⟨_, hz, fun v q => nomatch q⟩
    · exact ⟨_, hTI, fun v q => nomatch q⟩
    · exact ⟨_, hTO, fun v q => nomatch q⟩
    · exact itS_obj q1
    · exact itS_obj q2
  keep := fun i h h' st k => by
    obtain ⟨hz, hTI, ⟨a, b, hTO⟩, q1, q2⟩ := st
    exact ⟨k z (by simp) _ hz, k TI (by simp) _ hTI, ⟨a, b, k TO (by simp) _ hTO⟩, itS_at q1 fun o q => k i1 (by simp) o q, itS_at q2 fun o q => k i2 (by simp) o q⟩
  item := by
    intro X hP hw hK hc i pins s σ H E I hf st hg
    subst hP hw hK
    obtain ⟨hz, hTI, ⟨x0, y0, hTO⟩, q1, q2⟩ := st
    obtain ⟨⟨g1, g2⟩, l1, l2⟩ := hg
    have n1 : H i1 = none := (hf i1 (by simp)).1
    have n2 : H i2 = none := (hf i2 (by simp)).1
    have hh : X.A.in1.handled = none := I.ok.hd hc
    obtain ⟨fp1, P1, S1, D1, f1, p1, b1, c1⟩ := sqs_draws (A := X.A.in1) I hh g1 ru n1
    obtain ⟨fp2, P2, S2, D2, f2, p2, b2, c2⟩ := sqs_draws (A := X.A.in1) I hh g2 rv n2
    have hzl : z < s.heap.objs.size := Heap.lt_size hz
    have sep := apart_sep D f1 f2 (hf z (by simp)).1 (hf TO (by simp)).1 n1 n2
    refine wpAny_pyNext_zipD2_item sep D1 D2 hz hTI hTO (b1 i q1) (b2 i q2) l1 l2 fun v1 v2 h' tk r1 r2 z' TO' s1' s2' hT hsz hk => ?_
    obtain ⟨a, ea, ra⟩ := p1 i v1 r1
    obtain ⟨b, eb, rb⟩ := p2 i v2 r2
    refine ⟨_, rfl, wpAny_letOwnedTupleGo_zip (s := { s with heap := h', toks := tk }) z' fun h'' z'' sb => ?_⟩
    have hT2 : h''.get? s.heap.objs.size = some { cls := .type "tuple", data := .seq #[v1, v2] } := (sb.2 _ (Nat.ne_of_gt hzl)).trans hT
    have new : ObjOk X.prog X.w (upd H s.heap.objs.size (.tup [a, b])) h'' s.heap.objs.size (.tup [a, b]) :=
      ⟨by show 2 ≤ sizeLine; decide, [v1, v2], .cons ra (.cons rb .nil), ⟨_, hT2, rfl, _, rfl⟩⟩
    have I1 : Inv X pins σ (upd H s.heap.objs.size (.tup [a, b])) { s with heap := h'', toks := tk } :=
      I.turnedNew (t' := tk) (ch := [z, TI, TO, i1, i2]) (fun c o hb q => (sb.2 c (fun q' => hb (by simp [q']))).trans (hk c o (fun q' => hb (by simp [q'])) (fun q' => hb (by simp [q'])) (fun q' => hb (by simp [q'])) (fun q' => hb (by simp [q'])) q)) hf (Nat.le_refl _) new
    refine ⟨.ref s.heap.objs.size, _, I1, rfl, ⟨_, a, b, rfl, I.hok.fresh (Nat.le_refl _), rfl, ea, eb⟩, ⟨z'', ?_, ⟨v1, v2, ?_⟩, ?_, ?_⟩, fun c hcm => ?_⟩
    · exact (sb.2 _ D.a1).trans (hk _ _ D.a1 D.a3 D.a4 D.a5 hTI)
    · exact (sb.2 _ D.a2).trans TO'
    · exact itS_at (c1 _ _ s1') fun o q => (sb.2 _ D.a6.symm).trans q
    · exact itS_at (c2 _ _ s2') fun o q => (sb.2 _ D.a7.symm).trans q
    · have hlt : c < s.heap.objs.size := by
        have e' : c = z ∨ c = TI ∨ c = TO ∨ c = i1 ∨ c = i2 := by simpa using hcm
        rcases e' with q | q | q | q | q <;> subst q
        · exact hzl
        · exact Heap.lt_size hTI
        · exact Heap.lt_size hTO
        · obtain ⟨_, e1, _⟩ := itS_obj q1; exact Heap.lt_size e1
        · obtain ⟨_, e2, _⟩ := itS_obj q2; exact Heap.lt_size e2
      rw [upd_ne (Nat.ne_of_lt hlt)]
      exact (hf c hcm).1
  done := by
    intro X hP hw hK hc i pins s σ H E I hf st hg
    subst hP hw hK
    obtain ⟨hz, hTI, ⟨x0, y0, hTO⟩, q1, q2⟩ := st
    obtain ⟨⟨g1, g2⟩, l1, l2, l3⟩ := hg
    have n1 : H i1 = none := (hf i1 (by simp)).1
    have n2 : H i2 = none := (hf i2 (by simp)).1
    have hh : X.A.in1.handled = none := I.ok.hd hc
    obtain ⟨fp1, P1, S1, D1, f1, p1, b1, c1⟩ := sqs_draws (A := X.A.in1) I hh g1 ru n1
    obtain ⟨fp2, P2, S2, D2, f2, p2, b2, c2⟩ := sqs_draws (A := X.A.in1) I hh g2 rv n2
    have sep := apart_sep D f1 f2 (hf z (by simp)).1 (hf TO (by simp)).1 n1 n2
    exact wpAny_pyNext_zipD2_end sep D1 D2 hz hTI hTO (b1 i q1) (b2 i q2) l1 l2 l3 fun h' tk hk => ⟨rfl, I.turnedL (t' := tk) (ch := [z, TI, TO, i1, i2]) (fun c o hb q =>
      hk c o (fun q' => hb (by simp [q'])) (fun q' => hb (by simp [q'])) (fun q' => hb (by simp [q'])) (fun q' => hb (by simp [q'])) q) hf⟩
  self := fun A i s Q E st h => wpAny_pyIter_zip st.1 h
theorem apart5 (N : Nat) : Apart5 (N + 4) (N + 2) (N + 3) N (N + 1) := by
  constructor <;> (intro q; have q' : (_ : Nat) = _ := q; omega)
def iZipS (ta : TA) : TI := fun σ H R => ta σ H fun vs H1 => ∃ x y xs ys, vs = [x, y] ∧ SqS H1 x xs ∧ SqS H1 y ys ∧ R (ItzS x y xs ys) H1
theorem pi_zipS {X : Cx} {e e2 : Expr} {ta : TA} {p pos tpos : Pos} {elts : List Expr} {kk : Nat} (hg : Gl X "zip") (hm : X.mg "zip" = none) (ha : PA X [e, e2] ta)
    (hs : starEach [e, e2] X.env = (false, eval e X.env) :: starEach [e2] X.env := by rfl) (hpl : (backTo pos (starEach [e2] X.env)).any (·.1) = false := by rfl) :
    PI X (.Tuple elts kk tpos) (.Call (.Name "zip" p) [e, e2] [] pos) (iZipS ta) := by
  refine ⟨fun pins s σ H R I h => ?_⟩
  refine Call_ (ld_blt I hg hm PyProof.Rows.boot_zip (PyProof.Rows.callWith_type1 (thn (ha.run pos pins s σ H _ I h) fun us s1 ⟨vs, H1, I1, r1, q1⟩ => ?_) hs hpl))
  obtain ⟨x, y, xs, ys, rfl, g1, g2, q⟩ := q1
  obtain ⟨u, v, rfl, ru, rv⟩ := vals2 r1
  obtain ⟨o1, B1, b1, h1, t1⟩ := sqs_begins I1 g1 ru
  obtain ⟨o2, B2, b2, h2, t2⟩ := sqs_begins I1 g2 rv
  refine zip_begins2 b1 b2 h1 h2 fun h' hz hTI hTO e1 e2 hsz hk => wpAny_pyIter_zip hz ?_
  have I2 : Inv X pins σ H1 { s1 with heap := h' } := I1.kept (t' := s1.toks) hk
  refine ⟨s1.heap.objs.size + 4, [s1.heap.objs.size + 4, s1.heap.objs.size + 2, s1.heap.objs.size + 3, s1.heap.objs.size, s1.heap.objs.size + 1], _, _, H1, rfl, I2, turn_zipS ru rv (apart5 s1.heap.objs.size), ⟨hz, hTI, ⟨_, _, hTO⟩, t1 _ _ e1, t2 _ _ e2⟩, fun c hcm => ?_, q⟩
  have hle : s1.heap.objs.size ≤ c := by
    have e' : c = s1.heap.objs.size + 4 ∨ c = s1.heap.objs.size + 2 ∨ c = s1.heap.objs.size + 3 ∨ c = s1.heap.objs.size ∨ c = s1.heap.objs.size + 1 := by simpa using hcm
    rcases e' with z | z | z | z | z <;> rw [z]
    · exact Nat.le_add_right _ _
    · exact Nat.le_add_right _ _
    · exact Nat.le_add_right _ _
    · exact Nat.le_refl _
    · exact Nat.le_add_right _ _
  exact I1.fpOk hle (I1.hok.fresh hle)

/-! ### enumerate -/
theorem meets_enum1 {v : Value} {o : Obj} {B : Heap → Prop} (b : Begins v o B) : Meets (Builtin.«enumerate.__new__» ⟨[.type "enumerate", v], []⟩) (fun _ R s => B s.heap ∧
      R (.ok (.ret (.ref (s.heap.push o).objs.size))) { s with heap := (s.heap.push o).push { cls := .type "enumerate", data := .fields #[.none, .bool false, .ref s.heap.objs.size, rawInt 0, .none, .none] } }) :=
  .of_wp fun prog w A R s h => by
    obtain ⟨hp, g, d, tk, os⟩ := s
    obtain ⟨h1, h⟩ := h
    have hsub := sub_enumerate
    have q1 : ∀ {A' : Around} {E : Value → Shared → Prop} {Q : Value → Shared → Prop}, Q (.ref hp.objs.size) ⟨hp.push o, g, d, tk, os⟩ → wpAny (model prog w) A' (pyIter v) Q E ⟨hp, g, d, tk, os⟩ :=
      fun q => b.iter prog w _ _ ⟨hp, g, d, tk, os⟩ _ h1 q
    wp_walk using q1
    refine wpAny_stack_any fun st => wpAny_pure ?_
    split
    · rename_i c _ _ _ _ _
      cases (c == Value.type "enumerate")
      · wp_walk using q1
        exact ⟨_, rfl, h⟩
      · wp_walk using q1
        exact ⟨_, rfl, h⟩
    · wp_walk using q1
      exact ⟨_, rfl, h⟩
theorem call_enum1 {prog : Program} {w : World} {A : Around} {E : Value → Shared → Prop} {s : Shared} {v : Value} {o : Obj} {B : Heap → Prop} (b : Begins v o B) (hB : B s.heap) {Q : Value → Shared → Prop}
    (h : ∀ h', IsEnum h' (s.heap.objs.size + 1) s.heap.objs.size 0 .none → h'.get? s.heap.objs.size = some o → (∀ b o, s.heap.get? b = some o → h'.get? b = some o) → Q (.ref (s.heap.objs.size + 1)) { s with heap := h' }) :
    wpAny (model prog w) A (call (.type "enumerate") [v]) Q E s := by
  refine callType_new F.called_enumerate (by decide) (F.typeCall_enumerate_1 _) (F.newCall_enumerate_1 _) (fun obj => F.args_object_init_2 obj _) F.entry_enumerate_new (meets_enum1 b) ⟨hB, ?_⟩
  have hz : (s.heap.push o).objs.size = s.heap.objs.size + 1 := Heap.size_push ..
  show _ ∧ _
  rw [hz]
  have he : IsEnum ((s.heap.push o).push { cls := .type "enumerate", data := .fields #[.none, .bool false, .ref s.heap.objs.size, rawInt 0, .none, .none] }) (s.heap.objs.size + 1) s.heap.objs.size 0 .none := by
    have q := Heap.get?_push_size (s.heap.push o) (o := { cls := .type "enumerate", data := .fields #[.none, .bool false, .ref s.heap.objs.size, rawInt 0, .none, .none] }) rfl
    rw [hz] at q
    exact q
  exact ⟨⟨_, he, rfl⟩, h _ he (Heap.get?_push_of_some _ (Heap.get?_push_size _ b.free)) fun b o x => Heap.get?_push_of_some _ (Heap.get?_push_of_some _ x)⟩
def IteS (x : V) (xs : List V) : It :=
  ⟨fun i H => SqS H x xs ∧ i < xs.length, fun i H v H' => ∃ T a, v = .ref T ∧ H T = none ∧ H' = upd H T (.tup [.int (i : Nat), a]) ∧ xs[i]? = some a, fun i H => SqS H x xs ∧ i = xs.length⟩
theorem walk_enumS {x : V} {xs : List V} : Walk (IteS x xs) xs.length (fun H => SqS H x xs) (YPair (fun i => some (.int (i : Nat))) (fun i => xs[i]?)) :=
  ⟨fun i H hi g => ⟨g, hi⟩, fun H g => ⟨g, rfl⟩, fun i H v H' _ g q => by
    obtain ⟨T, a, h1, h2, h3, h4⟩ := q
    exact ⟨T, .int (i : Nat), a, h1, h2, h3, rfl, h4⟩⟩
theorem turn_enumS {P : Program} {w : World} {K : PySem.W.Frag} {elts : List Expr} {kk : Nat} {tpos : Pos} {x : V} {xs : List V} {u : Value} (ru : RelV x u) {e it : Addr} (hne : e ≠ it) :
    Turn P w K (.Tuple elts kk tpos) (IteS x xs) [e, it] e (fun i h => (∃ old, IsEnum h e it ((i : Nat) : Int) old) ∧ itS u it i h) where
  mem := by simp
  obj := fun i h st b hb => by
    obtain ⟨⟨old, he⟩, q⟩ := st
    have e' : b = e ∨ b = it := by simpa using hb
    rcases e' with z | z <;> subst z
    · exact ⟨_, he, fun v q => nomatch q⟩
    · exact itS_obj q
  keep := fun i h h' st k => by
    obtain ⟨⟨old, he⟩, q⟩ := st
    exact ⟨⟨old, k e (by simp) _ he⟩, itS_at q fun o q => k it (by simp) o q⟩
  item := by
    intro X hP hw hK hc i pins s σ H E I hf st hg
    subst hP hw hK
    obtain ⟨⟨old, he⟩, q⟩ := st
    obtain ⟨g, hi⟩ := hg
    have n1 : H it = none := (hf it (by simp)).1
    obtain ⟨fp, P, S, D, f1, p1, b1, c1⟩ := sqs_draws (A := X.A.in1) I (I.ok.hd hc) g ru n1
    have hel : e < s.heap.objs.size := Heap.lt_size he
    have hef : e ∉ it :: fp := fun m => (List.mem_cons.mp m).elim hne fun z => f1 _ z (hf e (by simp)).1
    refine wpAny_pyNext_enum_itemC D he (b1 i q) hi hne hef fun v1 h' tk r1 ho s1' hT hsz hk => ?_
    obtain ⟨a, ea, ra⟩ := p1 i v1 r1
    refine ⟨_, rfl, wpAny_letOwnedTupleGo_enum (s := { s with heap := h', toks := tk + 1 }) ho fun h'' he' sb => ?_⟩
    have hT2 : h''.get? s.heap.objs.size = some { cls := .type "tuple", data := .seq #[.int i tk, v1] } := (sb.2 _ (Nat.ne_of_gt hel)).trans hT
    have new : ObjOk X.prog X.w (upd H s.heap.objs.size (.tup [.int (i : Nat), a])) h'' s.heap.objs.size (.tup [.int (i : Nat), a]) :=
      ⟨by show 2 ≤ sizeLine; decide, [.int i tk, v1], .cons ⟨_, rfl⟩ (.cons ra .nil), ⟨_, hT2, rfl, _, rfl⟩⟩
    have I1 : Inv X pins σ (upd H s.heap.objs.size (.tup [.int (i : Nat), a])) { s with heap := h'', toks := tk + 1 } :=
      I.turnedNew (ch := [e, it]) (fun b ob hb q => (sb.2 b (fun z => hb (by simp [z]))).trans (hk b ob (fun z => hb (by simp [z])) (fun z => hb (by simp [z])) q)) hf (Nat.le_refl _) new
    refine ⟨.ref s.heap.objs.size, _, I1, rfl, ⟨_, a, rfl, I.hok.fresh (Nat.le_refl _), rfl, ea⟩, ⟨⟨v1, ?_⟩, itS_at (c1 _ _ s1') fun o q => (sb.2 it (Ne.symm hne)).trans q⟩, fun b hb => ?_⟩
    · have e1 : ((i + 1 : Nat) : Int) = (i : Int) + 1 := by omega
      rw [e1]
      exact he'
    · have hb' : b < s.heap.objs.size := by
        have e' : b = e ∨ b = it := by simpa using hb
        rcases e' with z | z <;> subst z
        · exact hel
        · obtain ⟨_, e1, _⟩ := itS_obj q; exact Heap.lt_size e1
      rw [upd_ne (Nat.ne_of_lt hb')]
      exact (hf b hb).1
  done := by
    intro X hP hw hK hc i pins s σ H E I hf st hg
    subst hP hw hK
    obtain ⟨⟨old, he⟩, q⟩ := st
    obtain ⟨g, hi⟩ := hg
    have n1 : H it = none := (hf it (by simp)).1
    obtain ⟨fp, P, S, D, f1, p1, b1, c1⟩ := sqs_draws (A := X.A.in1) I (I.ok.hd hc) g ru n1
    obtain ⟨f0, f2, f3, f4, f5, f6⟩ := hf it (by simp)
    refine wpAny_pyNext_enum_endD D he (by rw [← hi]; exact b1 i q) fun h' eb => ⟨rfl, I.turned (t' := s.toks) (fun b o hb q => eb b o hb q) f0 f2 f4 f5 f6⟩
  self := fun A i s Q E st h => by
    obtain ⟨⟨_, he⟩, _⟩ := st
    exact wpAny_pyIter_enum he h
def iEnumS (ta : TA) : TI := fun σ H R => ta σ H fun vs H1 => ∃ x xs, vs = [x] ∧ SqS H1 x xs ∧ R (IteS x xs) H1
theorem pi_enumS {X : Cx} {e : Expr} {ta : TA} {p pos tpos : Pos} {elts : List Expr} {kk : Nat} (hg : Gl X "enumerate") (hm : X.mg "enumerate" = none) (ha : PA X [e] ta) (hs : starEach [e] X.env = [(false, eval e X.env)] := by rfl) :
    PI X (.Tuple elts kk tpos) (.Call (.Name "enumerate" p) [e] [] pos) (iEnumS ta) := by
  refine ⟨fun pins s σ H R I h => ?_⟩
  refine Call_ (ld_blt I hg hm boot_enumerate (PyProof.Rows.callWith_type1 (thn (ha.run pos pins s σ H _ I h) fun us s1 ⟨vs, H1, I1, r1, q1⟩ => ?_) hs rfl))
  obtain ⟨x, xs, rfl, g, q⟩ := q1
  obtain ⟨u, rfl, ru⟩ := vals1 r1
  obtain ⟨o1, B1, b1, h1, t1⟩ := sqs_begins I1 g ru
  refine call_enum1 b1 h1 fun h' he e1 hk => wpAny_pyIter_enum he ?_
  have I2 : Inv X pins σ H1 { s1 with heap := h' } := I1.kept (t' := s1.toks) hk
  refine ⟨s1.heap.objs.size + 1, [s1.heap.objs.size + 1, s1.heap.objs.size], _, _, H1, rfl, I2, turn_enumS ru (Nat.succ_ne_self _), ⟨⟨.none, he⟩, t1 _ _ e1⟩, fun b hb => ?_, q⟩
  have hle : s1.heap.objs.size ≤ b := by
    have e' : b = s1.heap.objs.size + 1 ∨ b = s1.heap.objs.size := by simpa using hb
    rcases e' with z | z <;> rw [z]
    · exact Nat.le_add_right _ _
    · exact Nat.le_refl _
  exact I1.fpOk hle (I1.hok.fresh hle)

/-! ### a written dict's get with a default -/
/-- what the written dict at a has under x -/
def KGet (K : PySem.W.Frag) (w : World) (a : Addr) (x : Str) (o : Option V) : Prop :=
  ∃ es n r, K.lookup a = some ⟨.type "dict", none, .dict es n, #[]⟩ ∧ PySem.W.KeysLit w.params es.toList ∧ (a == sysModules) = false ∧ PySem.W.nsIn K a x = some r ∧ RelO o r
def KDict (K : PySem.W.Frag) (w : World) (a : Addr) : Prop := ∃ es n, K.lookup a = some ⟨.type "dict", none, .dict es n, #[]⟩ ∧ PySem.W.KeysLit w.params es.toList ∧ (a == sysModules) = false
def tKGet (K : PySem.W.Frag) (w : World) (td ty tx : TE) : TE := fun σ H Q => td σ H fun x H1 => ∃ a, x = .ref a ∧ KDict K w a ∧ ty σ H1 fun y H2 => tx σ H2 fun z H3 => ∃ k o, y = .str k ∧ KGet K w a k o ∧ Q (o.getD z) H3
theorem pe_kget {X : Cx} {o e f : Expr} {td ty tx : TE} {apos cpos : Pos} (ho : PE X o td) (he : PE X e ty) (hf : PE X f tx) (m : M2 X o "get" apos e f cpos) : PE X (.Call (.Attribute o "get" apos) [e, f] [] cpos) (tKGet X.K X.w td ty tx) := by
  refine ⟨fun pins s σ H Q I h => ?_⟩
  refine wpAny_Call_method m.base m.few m.line PySem.F.plainAttrs_dict PySem.F.slot_dict_get PySem.F.type_dict_get (thn (ho.run pins s σ H _ I h) fun u s1 ⟨x, H1, I1, rx, a, ex, d, q1⟩ => ?_)
  subst ex
  obtain rfl : u = Value.ref a := rx
  obtain ⟨es, n, hl, hk, low⟩ := d
  have m0 := PySem.W.mapOf_K (prog := X.prog) (w := X.w) I1.kIn hl hk
  refine ⟨m0.typeIs, fun b q => ?_, ?_⟩
  · cases q
    exact ⟨_, I1.kIn _ _ hl, rfl⟩
  rw [m.trees]
  refine Calls.callWith_builtin rfl (Calls.evalArgs_plain (Calls.spliced_cons (thn (he.run pins s1 σ H1 _ I1 q1) fun iv s2 ⟨y, H2, I2, ry, q2⟩ =>
    Calls.spliced_cons (thn (hf.run pins s2 σ H2 _ I2 q2) fun fv s3 ⟨z, H3, I3, rz, k, ov, ey, g, q3⟩ => Calls.spliced_nil ?_))))
  subst ey
  obtain ⟨t, rfl⟩ := (show ∃ t, iv = Value.str k t from ry)
  obtain ⟨es', n', r, hl', hk', low', hn, ro⟩ := g
  have m3 := PySem.W.mapOf_K (prog := X.prog) (w := X.w) I3.kIn hl' hk'
  refine call_meetsIn PySem.F.slot_dict_get m3.typeIs PySem.F.entry_dict_get (PySem.F.args_dict_get_3 _ _ _) (meets_dict_get_default (strKind X.prog X.w) a (strKind_is X.prog X.w k t) low fv) ⟨_, m3, ?_⟩
  rw [PySem.W.find_K hl' hn]
  refine ⟨ov.getD z, H3, I3.tok _, ?_, q3⟩
  cases ov with
  | none =>
    cases r with
    | none => exact rz
    | some w => exact ro.elim
  | some v =>
    cases r with
    | none => exact ro.elim
    | some w => exact ro
end Ep

/-! sorted of what is no list: a dict, a zip. -/
namespace Ep
open PySem PySem.Spec PyProof.Rows L2
mutual
/-- the lists that a datum is read off stand -/
theorem reads_lt {h : Heap} : ∀ (d : PyData) (v : Value) (as : List Addr), PySem.W.alike d d = true → Reads h v d as → ∀ b, b ∈ as → b < h.objs.size
  | .none, _, _, _, r, b, hb => by cases r; cases hb
  | .bool _, _, _, _, r, b, hb => by cases r; cases hb
  | .int _, _, _, _, r, b, hb => by cases r; cases hb
  | .str _, _, _, _, r, b, hb => by cases r; cases hb
  | .list xs, _, _, hal, r, b, hb => by
    cases r with
    | list h1 h2 h3 h4 =>
      rcases List.mem_cons.mp hb with e | e
      · rw [e]; exact Heap.lt_size h1
      · exact readsAll_lt xs _ _ (by simpa [PySem.W.alike] using hal) h4 b e
  | .tuple xs, _, _, hal, r, b, hb => by
    cases r with
    | tuple h1 h2 h3 h4 => exact readsAll_lt xs _ _ (by simpa [PySem.W.alike] using hal) h4 b hb
  | .dict _, _, _, hal, _, _, _ => absurd hal (by simp [PySem.W.alike])
theorem readsAll_lt {h : Heap} : ∀ (ds : List PyData) (vs : List Value) (as : List Addr), PySem.W.alikeAll ds ds = true → ReadsAll h vs ds as → ∀ b, b ∈ as → b < h.objs.size
  | [], _, _, _, r, b, hb => by cases r; cases hb
  | d :: ds, _, _, hal, r, b, hb => by
    cases r with
    | cons h1 h2 =>
      rcases List.mem_append.mp hb with e | e
      · exact reads_lt d _ _ (PySem.W.alike_all_cons hal).1 h1 b e
      · exact readsAll_lt ds _ _ (PySem.W.alike_all_cons hal).2 h2 b e
end
section
variable {X : Cx} {pins : List (Addr × Obj)} {σ : L2.St} {H : Hp} {s : Shared}
/-- the last part of sorted: a new list of what was gathered, and its sort -/
theorem sorted_rest (hu : X.A.units + 64 < cLine) (I : Inv X pins σ H s) {us : List Value} {vs : List V} {ds : List PyData} (rv : Vals vs us) (hd : DpAll X.K H vs ds) (h1 : PySem.W.AllAlike ds) (h2 : PySem.W.Sortable ds) (h3 : ∀ d, d ∈ ds → d.depth ≤ 60)
    (hz : ds.length ≤ sizeLine) {Q : VK} (q : ∀ p ys, H p = none → DpAll X.K H ys (srtD ds) → Q (.ref p) (upd H p (.lst ys))) {R : Fin → Shared → Prop} {E : Value → Shared → Prop} (hR : ∀ v s', EP X pins σ Q v s' → R (.done (.ret v)) s') :
    wpAny (model X.prog X.w) X.A.in1 (do
      let l ← newList us
      let _ ← holding [l] (call (.builtin "list.sort") [l] [])
      ret l) R E s := by
  have el := dps_len hd
  have eu : us.length = ds.length := by rw [← rv.length, el]
  refine wpAny_bind (wpAny_newList ?_ (by omega))
  have hoL : (s.heap.push (seqObj "list" us.toArray 0)).get? s.heap.objs.size = some (seqObj "list" us.toArray 0) := Heap.get?_push_size _ rfl
  have e := each_of_dps I hd rv
  have er : PySem.W.EachIs (fun v b => ∃ as, Reads (s.heap.push (seqObj "list" us.toArray 0)) v b as ∧ s.heap.objs.size ∉ as) us ds := (PySem.W.each_mem e).mono fun u d ⟨⟨v, rv, dv⟩, hm⟩ => by
    obtain ⟨as, r⟩ := Dp.reads I d v u dv rv
    exact ⟨as, PyProof.Rows.Reads.keeps (fun b o z => Heap.get?_push_of_some _ z) r, fun m => Nat.lt_irrefl _ (reads_lt d u as (h1 d hm d hm) r _ m)⟩
  refine wpAny_bind (wpAny_holding (PySem.W.list_sort_data (s := { s with heap := s.heap.push (seqObj "list" us.toArray 0) }) (enc := fun d => d) (bs := ds) hoL e er (by simpa using h1) (by simpa using h2) hz (fun b hb => by have := h3 b hb; show X.A.units + 1 + 1 + b.depth < cLine; omega) fun out hlen ho => ?_))
  obtain ⟨ys, ry, dy⟩ := dps_of_each ho
  obtain ⟨ep, he⟩ := PyProof.Rows.sortedHeap_at (vs := us) (out := out.toArray) hoL
  have hn : H s.heap.objs.size = none := I.hok.fresh (Nat.le_refl _)
  refine wpAny_pure (hR _ _ ⟨.ref s.heap.objs.size, upd H s.heap.objs.size (.lst ys), I.laid (t' := s.toks) (fun b u z => ?_) (Nat.le_refl _) ⟨by rw [ry.length, hlen]; exact hz, out, ep, ry, he⟩, rfl, q _ ys hn dy⟩)
  have hb : b < s.heap.objs.size := Heap.lt_size z
  rw [PyProof.Rows.sortedHeap_old (Nat.ne_of_lt hb) (by rw [size_push']; exact Nat.lt_succ_of_lt hb)]
  exact Heap.get?_push_of_some _ z
/-- sorted(d), the keys of d texts -/
theorem cr_sortedDT (hc : X.calm = true) (hu : X.A.units + 64 < cLine) : CallR X (.builtin "sorted") (fun xs Hx Q => ∃ (a : Addr) (kvs : List (Key × V)) (ks : List Str), xs = [.ref a] ∧ Rd Hx a (.dK kvs) ∧ kvs.map (·.1) = ks.map Sum.inr ∧ ks.length ≤ sizeLine ∧
    ∀ p ys, Hx p = none → DpAll X.K Hx ys (srtD (ks.map .str)) → Q (.ref p) (upd Hx p (.lst ys))) := by
  intro pins s σ H xs us Q I r q
  obtain ⟨a, kvs, ks, rfl, hd, hks, hz0, q⟩ := q
  obtain ⟨u, rfl, rx⟩ := vals1 r
  cases rx
  obtain ⟨z, lo, vs, rel, dd⟩ := dk_rd I.hok hd
  obtain ⟨ep, hat⟩ := dd.dictAt
  have hkeys : vs.map (·.1) = ks.map Sum.inr := rel.keys.symm.trans hks
  have hl : vs.length = ks.length := by
    have e := congrArg List.length hkeys
    rw [List.length_map, List.length_map] at e
    exact e
  refine Calls.call_function_entry PyProof.Rows.kind_sorted PyProof.Rows.plain_sorted PyProof.Rows.entry_sorted (PyProof.Rows.args_sorted1 _) ?_
  unfold Builtin.«sorted»
  refine wpAny_bind (m := checkCount "sorted" 1 1 _) (wpAny_pure ?_)
  refine wpAny_bind (PySem.W.kdu_collect (A := X.A.in1) (PySem.W.kdl_dict (knd := mixKind X.prog X.w) (kvs := vs) (ep := ep) lo) (I.ok.hd hc) hat (by omega) fun h' tk acc hk hacc => ?_)
  have hal : acc.toList.length = ks.length := by rw [Array.length_toList, hacc.1, hl]
  have I1 : Inv X pins σ H { s with heap := h', toks := tk } := I.kept hk
  have rel2 : Vals (ks.map V.str) acc.toList ∧ DpAll X.K H (ks.map V.str) (ks.map .str) := by
    constructor
    · have go : ∀ (l : List Str) (us : List Value), us.length = l.length → (∀ (j : Nat) (v : Value), us[j]? = some v → ∃ x : Str, l[j]? = some x ∧ RelV (.str x) v) → Vals (l.map V.str) us := by
        intro l
        induction l with
        | nil =>
          intro us h _
          have : us = [] := by simpa using h
          subst this
          exact .nil
        | cons y l ih =>
          intro us h k
          cases us with
          | nil => simp at h
          | cons w us =>
            refine .cons ?_ (ih us (by simpa using h) fun j v e => ?_)
            · obtain ⟨x, e1, e2⟩ := k 0 w rfl
              have : y = x := by simpa using e1
              rw [this]
              exact e2
            · obtain ⟨x, e1, e2⟩ := k (j + 1) v (by simpa using e)
              exact ⟨x, by simpa using e1, e2⟩
      refine go ks acc.toList hal fun j v e => ?_
      obtain ⟨k, x, e1, e2⟩ := hacc.2 j v (by rw [← Array.getElem?_toList]; exact e)
      have e3 : (vs.map (·.1))[j]? = some k := by rw [List.getElem?_map, e1]; all_goals rfl
      rw [hkeys, List.getElem?_map] at e3
      cases e4 : ks[j]? with
      | none => rw [e4] at e3; cases e3
      | some y =>
        rw [e4] at e3
        have e5 : Sum.inr y = k := Option.some.inj e3
        subst e5
        obtain ⟨t, ev⟩ := Value.isStrOf_shape (x := y) (v := v) e2
        exact ⟨y, rfl, ⟨t, ev⟩⟩
    · have go : ∀ (l : List Str), DpAll X.K H (l.map V.str) (l.map .str) := by
        intro l
        induction l with
        | nil => exact .nil
        | cons y l ih => exact .cons (.str y) ih
      exact go ks
  refine sorted_rest (s := { s with heap := h', toks := tk }) hu I1 rel2.1 rel2.2 ?_ ?_ ?_ (by rw [List.length_map]; exact hz0) q fun v s' h => ⟨v, rfl, h⟩
  · intro d hd' d' hd''
    obtain ⟨x, _, rfl⟩ := List.mem_map.mp hd'
    obtain ⟨y, _, rfl⟩ := List.mem_map.mp hd''
    rfl
  · exact .inr fun d hd' => by
      obtain ⟨x, _, rfl⟩ := List.mem_map.mp hd'
      exact ⟨(fun z => nomatch z), fun _ z => nomatch z⟩
  · intro d hd'
    obtain ⟨x, _, rfl⟩ := List.mem_map.mp hd'
    exact Nat.zero_le _
end
end Ep

/-! sorted(zip(xs, ys)). -/
namespace Ep
open PySem PySem.Spec PyProof.Rows L2 PySem.Calls
theorem zip_nolen : typeLookup (.type "zip") "__len__" = pure none := by rw [typeLookup_type, builtinLookup_eq_fast]; kernel_rfl
theorem zip_nohint : typeLookup (.type "zip") "__length_hint__" = pure none := by rw [typeLookup_type, builtinLookup_eq_fast]; kernel_rfl
/-- the state of a zip that is gathered into the list at S: i pairs are made, at as -/
structure ZS (h : Heap) (z TI TO i1 i2 l1 l2 S N : Addr) (xs ys : Array Value) (i : Nat) (acc : Array Value) (c : Nat) (as : List Addr) : Prop where
  hTI : IsPair h TI (.ref i1) (.ref i2)
  h1 : h.IsListIter i1 l1 i
  h2 : h.IsListIter i2 l2 i
  hl1 : h.IsList l1 xs
  hl2 : h.IsList l2 ys
  hz : (IsZip h z TI TO .none ∧ ∃ a b, IsPair h TO a b) ∨ ∃ T f oT, PySem.IsZipHeld h z TI TO T f ∧ h.get? T = some oT ∧ T ≠ z ∧ T ≠ i1 ∧ T ≠ i2 ∧ T ≠ S
  hS : h.get? S = some { cls := .type "list", dict := none, data := .seq acc c, slots := #[] }
  hacc : acc.toList = as.map Value.ref
  len : as.length = i
  new : ∀ (j : Nat) (a : Addr), as[j]? = some a → N ≤ a ∧ a < h.objs.size ∧ ∃ x y, xs[j]? = some x ∧ ys[j]? = some y ∧ IsPair h a x y
  rise : as.Pairwise (· < ·)
  big : N ≤ h.objs.size
section
variable {prog : Program} {w : World} {A : Around} {s : Shared} {R : Result → Shared → Prop} {z TI TO i1 i2 l1 l2 S N : Addr} {xs ys : Array Value}
theorem zip_loop (hh : A.handled = none) (D : ZipApart z TI TO i1 i2 l1 l2) (hxy : xs.size = ys.size) (hn : xs.size ≤ sizeLine) (bz : z < N) (bO : TO < N) (b1 : i1 < N) (b2 : i2 < N) (bS : S < N)
    (dz : S ≠ z) (dI : S ≠ TI) (dO : S ≠ TO) (d1 : S ≠ i1) (d2 : S ≠ i2) (e1 : S ≠ l1) (e2 : S ≠ l2) (res : Value) {h₁ : Heap}
    (hR : ∀ (h' : Heap) (tk : Nat) (acc : Array Value) (c : Nat) (as : List Addr), (∀ b o, b ≠ z → b ≠ TO → b ≠ i1 → b ≠ i2 → b ≠ S → h₁.get? b = some o → h'.get? b = some o) → h'.get? S = some { cls := .type "list", dict := none, data := .seq acc c, slots := #[] } → as.length = xs.size → as.Pairwise (· < ·) →
      (∀ (j : Nat) (a : Addr), as[j]? = some a → N ≤ a ∧ a < h'.objs.size ∧ ∃ x y, xs[j]? = some x ∧ ys[j]? = some y ∧ IsPair h' a x y) → acc.toList = as.map Value.ref → R (.ok (.ret res)) { s with heap := h', toks := tk }) :
    ∀ (k i : Nat) (h : Heap) (tk c : Nat) (acc : Array Value) (as : List Addr), xs.size - i = k → i ≤ xs.size → ZS h z TI TO i1 i2 l1 l2 S N xs ys i acc c as →
      (∀ b o, b ≠ z → b ≠ TO → b ≠ i1 → b ≠ i2 → b ≠ S → h₁.get? b = some o → h.get? b = some o) →
      codeAny (model prog w) A (.builtin "list.extend.loop" ⟨[.ref S, .ref z, res], []⟩) R { s with heap := h, toks := tk } := by
  intro k
  induction k with
  | zero =>
    intro i h tk c acc as hk hi Z keep
    have hin : i = xs.size := by omega
    subst hin
    refine codeAny_builtin PySem.F.entry_extend_loop ?_
    rw [Around.under_plainId PySem.F.plain_extend_loop _]
    show wpAny _ A.in1 (pyNext (.ref z) >>= _) _ _ _
    have hend : xs[xs.size]? = none ∨ ys[xs.size]? = none := .inl (Array.getElem?_eq_none (Nat.le_refl _))
    have fin : ∀ h' : Heap, (∀ b o, b ≠ z → b ≠ TO → b ≠ i1 → b ≠ i2 → h.get? b = some o → h'.get? b = some o) → R (.ok (.ret res)) { s with heap := h', toks := tk } := fun h' hk' => by
      refine hR h' tk acc c as (fun b o q1 q2 q3 q4 q5 q => hk' b o q1 q2 q3 q4 (keep b o q1 q2 q3 q4 q5 q)) (hk' S _ dz dO d1 d2 Z.hS) Z.len Z.rise (fun j a ha => ?_) Z.hacc
      obtain ⟨q1, q2, x, y, q3, q4, q5⟩ := Z.new j a ha
      have q6 := hk' a _ (Nat.ne_of_gt (Nat.lt_of_lt_of_le bz q1)) (Nat.ne_of_gt (Nat.lt_of_lt_of_le bO q1)) (Nat.ne_of_gt (Nat.lt_of_lt_of_le b1 q1)) (Nat.ne_of_gt (Nat.lt_of_lt_of_le b2 q1)) q5
      exact ⟨q1, Heap.lt_size q6, x, y, q3, q4, q6⟩
    rcases Z.hz with ⟨hz, a, b, hTO⟩ | ⟨T, f, oT, hz, hT, r1, r2, r3, r4⟩
    · exact wpAny_bind (wpAny_pyNext_zip_end (s := { s with heap := h, toks := tk }) hh D hz Z.hTI hTO Z.h1 Z.h2 Z.hl1 Z.hl2 hend fun h' hk' => wpAny_pure (fin h' hk'))
    · exact wpAny_bind (PySem.wpAny_pyNext_zip_end_held (s := { s with heap := h, toks := tk }) hh D hz hT Z.hTI Z.h1 Z.h2 Z.hl1 Z.hl2 hend fun h' hk' => wpAny_pure (fin h' fun b o q1 _ q3 q4 q => hk' b o q1 q3 q4 q))
  | succ k ih =>
    intro i h tk c acc as hk hi Z keep
    have hlt : i < xs.size := by omega
    have hlt2 : i < ys.size := by omega
    have ex := Array.getElem?_eq_getElem hlt
    have ey := Array.getElem?_eq_getElem hlt2
    have hsz : acc.size = i := by rw [← Array.length_toList, Z.hacc, List.length_map, Z.len]
    have lt : ∀ {c o}, h.get? c = some o → h.objs.size ≠ c := fun e => Nat.ne_of_gt (Heap.lt_size e)
    refine codeAny_builtin PySem.F.entry_extend_loop ?_
    rw [Around.under_plainId PySem.F.plain_extend_loop _]
    show wpAny _ A.in1 (pyNext (.ref z) >>= _) _ _ _
    -- one pair more, whatever the zip's state
    have turn : ∀ (h' : Heap), h'.IsListIter i1 l1 (i + 1) → h'.IsListIter i2 l2 (i + 1) → IsPair h' h.objs.size xs[i] ys[i] → h'.objs.size = h.objs.size + 1 →
        (∀ c o, c ≠ z → c ≠ TO → c ≠ i1 → c ≠ i2 → h.get? c = some o → h'.get? c = some o) → (∃ T f oT, PySem.IsZipHeld h' z TI TO T f ∧ h'.get? T = some oT ∧ T ≠ z ∧ T ≠ i1 ∧ T ≠ i2 ∧ T ≠ S) →
        wpAny (model prog w) A.in1 (updateSeq S (·.push (Value.ref h.objs.size)) >>= fun _ => again (.builtin "list.extend.loop" ⟨[.ref S, .ref z, res], []⟩))
          (fun fin s' => match fin with | .done f => R (.ok f) s' | .again c' => c'.quiet = true ∧ codeAny (model prog w) A c' R s') (fun e s' => R (.error e) s') { s with heap := h', toks := tk } := by
      intro h' a1 a2 a3 a4 hkp hheld
      have hS' := hkp S _ dz dO d1 d2 Z.hS
      have up : ∀ b o, b ≠ S → h'.get? b = some o → (h'.update S (Obj.mapSeq (·.push (Value.ref h.objs.size)))).get? b = some o := fun b o hb e => (Heap.get?_update_other _ _ (Ne.symm hb)).trans e
      have hSl : S < h.objs.size := Heap.lt_size Z.hS
      obtain ⟨c', hS2⟩ : ∃ c', (h'.update S (Obj.mapSeq (·.push (Value.ref h.objs.size)))).get? S = some { cls := .type "list", dict := none, data := .seq (acc.push (Value.ref h.objs.size)) c', slots := #[] } := ⟨_, Heap.get?_update_self _ hS' rfl⟩
      refine wpAny_bind (wpAny_updateSeq hS' rfl (wpAny_pure ⟨plainId_quiet PySem.F.plain_extend_loop _, ih (i + 1) _ tk c' (acc.push (Value.ref h.objs.size)) (as ++ [h.objs.size]) (by omega) hlt ?_ fun b o q1 q2 q3 q4 q5 q => up b o q5 (hkp b o q1 q2 q3 q4 (keep b o q1 q2 q3 q4 q5 q))⟩) (by rw [hsz]; omega))
      obtain ⟨T, f, oT, g1, g2, g3, g4, g5, g6⟩ := hheld
      have aN : ∀ {a : Addr}, N ≤ a → a ≠ z ∧ a ≠ TO ∧ a ≠ i1 ∧ a ≠ i2 ∧ a ≠ S := fun q => ⟨Nat.ne_of_gt (Nat.lt_of_lt_of_le bz q), Nat.ne_of_gt (Nat.lt_of_lt_of_le bO q), Nat.ne_of_gt (Nat.lt_of_lt_of_le b1 q), Nat.ne_of_gt (Nat.lt_of_lt_of_le b2 q), Nat.ne_of_gt (Nat.lt_of_lt_of_le bS q)⟩
      have szu : (h'.update S (Obj.mapSeq (·.push (Value.ref h.objs.size)))).objs.size = h.objs.size + 1 := by rw [Heap.size_update, a4]
      exact {
        hTI := up _ _ (Ne.symm dI) (hkp _ _ D.TIz D.TITO D.TIi1 D.TIi2 Z.hTI)
        h1 := a1.at fun o e => up _ o (Ne.symm d1) e
        h2 := a2.at fun o e => up _ o (Ne.symm d2) e
        hl1 := Z.hl1.at fun o e => up _ o (Ne.symm e1) (hkp _ o D.l1z D.l1TO D.l1i1 D.l1i2 e)
        hl2 := Z.hl2.at fun o e => up _ o (Ne.symm e2) (hkp _ o D.l2z D.l2TO D.l2i1 D.l2i2 e)
        hz := .inr ⟨T, f, oT, up _ _ (Ne.symm dz) g1, up _ _ g6 g2, g3, g4, g5, g6⟩
        hS := hS2
        hacc := by rw [Array.toList_push, Z.hacc, List.map_append]; rfl
        len := by rw [List.length_append, Z.len]; rfl
        big := by rw [szu]; exact Nat.le_trans Z.big (Nat.le_succ _)
        rise := List.pairwise_append.mpr ⟨Z.rise, List.pairwise_singleton _ _, fun a ha b hb => by
          rw [List.mem_singleton.mp hb]
          obtain ⟨j, hj⟩ := List.mem_iff_getElem?.mp ha
          exact (Z.new j a hj).2.1⟩
        new := fun j a ha => by
          rcases Nat.lt_trichotomy j as.length with q | q | q
          · rw [List.getElem?_append_left q] at ha
            obtain ⟨q1, q2, x, y, q3, q4, q5⟩ := Z.new j a ha
            obtain ⟨n1, n2, n3, n4, n5⟩ := aN q1
            exact ⟨q1, by rw [szu]; exact Nat.lt_succ_of_lt q2, x, y, q3, q4, up _ _ n5 (hkp _ _ n1 n2 n3 n4 q5)⟩
          · subst q
            have ea : h.objs.size = a := by simpa using ha
            subst ea
            have ei : as.length = i := Z.len
            rw [ei]
            exact ⟨Z.big, by rw [szu]; exact Nat.lt_succ_self _, _, _, ex, ey, up _ _ (aN Z.big).2.2.2.2 a3⟩
          · rw [List.getElem?_eq_none (by rw [List.length_append, List.length_singleton]; omega)] at ha
            cases ha }
    have n1 : h.objs.size ≠ i1 := let ⟨_, e, _⟩ := Z.h1; lt e
    have n2 : h.objs.size ≠ i2 := let ⟨_, e, _⟩ := Z.h2; lt e
    rcases Z.hz with ⟨hz, a, b, hTO⟩ | ⟨T, f, oT, hz, hT, r1, r2, r3, r4⟩
    · exact wpAny_bind (wpAny_pyNext_zip_item (s := { s with heap := h, toks := tk }) D hz Z.hTI hTO Z.h1 Z.h2 Z.hl1 Z.hl2 ex ey fun h' a1 a2 a3 a4 a5 a6 hk' =>
        turn h' a3 a4 a5 a6 hk' ⟨h.objs.size, false, _, a1, a5, lt hz, n1, n2, lt Z.hS⟩)
    · refine wpAny_bind (PySem.wpAny_pyNext_zip_item_held (s := { s with heap := h, toks := tk }) D hz hT Z.hTI Z.h1 Z.h2 Z.hl1 Z.hl2 ex ey fun h' a1 a3 a4 a5 a6 hk' =>
        turn h' a3 a4 a5 a6 (fun c o q1 _ q3 q4 q => hk' c o q1 q3 q4 q) ⟨T, true, oT, a1, hk' _ _ r1 r2 r3 hT, r1, r2, r3, r4⟩)
end
section
variable {prog : Program} {w : World} {A B : Around} {E : Value → Shared → Prop} {s : Shared} {l1 l2 : Addr} {xs ys : Array Value}
theorem zip_collect {R : List Value → Shared → Prop} (hh : B.handled = none) (hl1 : s.heap.IsList l1 xs) (hl2 : s.heap.IsList l2 ys) (hxy : xs.size = ys.size) (hn : xs.size ≤ sizeLine)
    (hR : ∀ (h' : Heap) (tk : Nat) (as : List Addr), (∀ b o, s.heap.get? b = some o → h'.get? b = some o) → as.length = xs.size → as.Pairwise (· < ·) →
      (∀ (j : Nat) (a : Addr), as[j]? = some a → s.heap.objs.size ≤ a ∧ ∃ x y, xs[j]? = some x ∧ ys[j]? = some y ∧ IsPair h' a x y) → R (as.map Value.ref) { s with heap := h', toks := tk }) :
    wpAny (model prog w) A (call (.type "zip") [.ref l1, .ref l2]) (fun v s1 => wpAny (model prog w) B (collect v) R E s1) E s := by
  obtain ⟨o1, ho1, _⟩ := id hl1
  obtain ⟨o2, ho2, _⟩ := id hl2
  have lt1 := Heap.lt_size ho1
  have lt2 := Heap.lt_size ho2
  refine call_zip_2 hl1 hl2 fun h0 hz hTI hTO h1 h2 hsz hk => ?_
  generalize hM : s.heap.objs.size = M at *
  have nz : h0.objs.size ≠ M + 4 := by rw [hsz]; intro q; have q' : (M : Nat) + 5 = M + 4 := q; omega
  unfold collect
  refine wpAny_bind (wpAny_runValue (codeAny_builtin PySem.F.entry_proto_collect ?_))
  rw [Around.under_plainId PySem.F.plain_proto_collect _]
  show wpAny _ B.in1 (newList [] >>= fun l => again (.builtin "list.__iadd__" ⟨[l, .ref (M + 4)], []⟩)) _ _ _
  refine wpAny_bind (wpAny_newObj_type ?_)
  refine wpAny_pure ⟨plainId_quiet PySem.F.plain_list_iadd _, codeAny_builtin PySem.F.entry_list_iadd ?_⟩
  rw [Around.under_plainId PySem.F.plain_list_iadd _]
  have hS₁ : (h0.push { cls := .type "list", data := .seq ([] : List Value).toArray }).get? h0.objs.size = some { cls := .type "list", data := .seq #[] } := Heap.get?_push_size _ rfl
  have kp : ∀ b o, h0.get? b = some o → (h0.push { cls := .type "list", data := .seq ([] : List Value).toArray }).get? b = some o := fun b o e => Heap.get?_push_of_some _ e
  show wpAny _ B.in1 (Builtin.List.listExtendWith (.ref h0.objs.size) (.ref (M + 4)) (.ref h0.objs.size)) _ _ _
  unfold Builtin.List.listExtendWith
  have hT : Shared.TypeIs { s with heap := h0.push { cls := .type "list", data := .seq ([] : List Value).toArray } } (.ref (M + 4)) "zip" := ⟨_, kp _ _ hz, rfl⟩
  refine wpAny_bind (wpAny_typeOf hT ?_)
  have g1 : Builtin.List.listSameRef (.ref h0.objs.size) (.ref (M + 4)) = false := by simp [Builtin.List.listSameRef, nz]
  have g2 : (Value.type "zip" == Value.type "list") = false := by decide
  have g3 : (Value.type "zip" == Value.type "tuple") = false := by decide
  simp only [g1, g2, g3, Bool.or_false, Bool.false_eq_true, if_false]
  refine wpAny_bind (wpAny_pyIter_zip (kp _ _ hz) ?_)
  refine wpAny_bind (wpAny_holding ?_)
  unfold Builtin.List.listLengthHint
  refine wpAny_bind (wpAny_specialOf hT zip_nolen ?_)
  show wpAny _ B.in1 (specialOf (Value.ref (M + 4)) (Str.ofString "__length_hint__") >>= _) _ _ _
  refine wpAny_bind (wpAny_specialOf hT zip_nohint ?_)
  refine wpAny_pure ?_
  show wpAny _ B.in1 (rule "list.extend.makes-room" >>= fun _ => Builtin.List.listTouch (.ref h0.objs.size) >>= fun _ =>
    again (.builtin "list.extend.loop" ⟨[.ref h0.objs.size, .ref (M + 4), .ref h0.objs.size], []⟩)) _ _ _
  refine wpAny_bind (wpAny_rule ?_)
  refine wpAny_bind ?_
  show wpAny _ B.in1 (updateSeq h0.objs.size (·.push .none) >>= fun _ => updateSeq h0.objs.size (·.pop)) _ _ _
  refine wpAny_bind (wpAny_updateSeq hS₁ rfl ?_)
  have hS₂ := Heap.get?_update_self (Obj.mapSeq (·.push Value.none)) hS₁ rfl
  refine wpAny_updateSeq hS₂ rfl ?_
  obtain ⟨c3, hS₃⟩ : ∃ c3, (((h0.push { cls := .type "list", data := .seq ([] : List Value).toArray }).update h0.objs.size (Obj.mapSeq (·.push Value.none))).update h0.objs.size (Obj.mapSeq (·.pop))).get? h0.objs.size = some { cls := .type "list", dict := none, data := .seq #[] c3, slots := #[] } := ⟨_, Heap.get?_update_self (Obj.mapSeq (·.pop)) hS₂ rfl⟩
  generalize hh2 : ((h0.push { cls := .type "list", data := .seq ([] : List Value).toArray }).update h0.objs.size (Obj.mapSeq (·.push Value.none))).update h0.objs.size (Obj.mapSeq (·.pop)) = h2' at *
  have oth : ∀ b o, b ≠ h0.objs.size → h0.get? b = some o → h2'.get? b = some o := fun b o hb e => by
    rw [← hh2]
    exact (Heap.get?_update_other _ _ (Ne.symm hb)).trans ((Heap.get?_update_other _ _ (Ne.symm hb)).trans (kp b o e))
  have sz2 : h2'.objs.size = M + 6 := by rw [← hh2, Heap.size_update, Heap.size_update, Heap.size_push, hsz]
  rw [hsz] at hS₃ oth ⊢
  have ne5 : ∀ {a : Addr}, (a : Nat) < M + 5 → a ≠ M + 5 := fun q => Nat.ne_of_lt q
  have D : ZipApart (M + 4) (M + 2) (M + 3) M (M + 1) l1 l2 := PySem.W.ktu_apart M l1 l2 lt1 lt2
  refine wpAny_pure ⟨plainId_quiet PySem.F.plain_extend_loop _, zip_loop (N := M + 6) (S := M + 5) (h₁ := h2') (s := s) hh D hxy hn (Nat.lt_add_of_pos_right (by decide : 0 < 2)) (show (M : Nat) + 3 < M + 6 by omega) (show (M : Nat) < M + 6 by omega) (show (M : Nat) + 1 < M + 6 by omega) (Nat.lt_succ_self _)
    (show (M : Nat) + 5 ≠ M + 4 by omega) (show (M : Nat) + 5 ≠ M + 2 by omega) (show (M : Nat) + 5 ≠ M + 3 by omega) (show (M : Nat) + 5 ≠ M by omega) (show (M : Nat) + 5 ≠ M + 1 by omega) (fun q => by have q' : (M : Nat) + 5 = l1 := q; have : @LT.lt Nat instLTNat l1 M := lt1; omega) (fun q => by have q' : (M : Nat) + 5 = l2 := q; have : @LT.lt Nat instLTNat l2 M := lt2; omega)
    _ (fun h' tk acc c as hk' hS' hl hr hnew hacc => ?_) xs.size 0 h2' s.toks c3 #[] [] (Nat.sub_zero _) (Nat.zero_le _) ?_ fun b o _ _ _ _ _ q => q⟩
  · show wpAny _ B (load (M + 5) >>= _) _ _ _
    refine wpAny_bind (wpAny_load hS' ?_)
    refine wpAny_pure ?_
    show R acc.toList _
    rw [hacc]
    refine hR h' tk as (fun b o q => ?_) hl hr fun j a ha => ?_
    · have hb : @LT.lt Nat instLTNat b M := by rw [← hM]; exact Heap.lt_size q
      refine hk' b o (fun e => ?_) (fun e => ?_) (fun e => ?_) (fun e => ?_) (fun e => ?_) (oth b o (fun e => ?_) (hk b o q)) <;> (have e' : @Eq Nat b _ := e; omega)
    · obtain ⟨q1, q2, x, y, q3, q4, q5⟩ := hnew j a ha
      exact ⟨Nat.le_trans (Nat.le_add_right M 6) q1, x, y, q3, q4, q5⟩
  · have lo : ∀ {a : Addr} {o : Obj}, h0.get? a = some o → h2'.get? a = some o := fun {a o} q => oth a o (fun e => by
      have q' := Heap.lt_size q
      rw [hsz, e] at q'
      exact Nat.lt_irrefl _ q') q
    exact {
      hTI := lo hTI
      h1 := h1.at fun o e => lo e
      h2 := h2.at fun o e => lo e
      hl1 := hl1.at fun o e => lo (hk _ o e)
      hl2 := hl2.at fun o e => lo (hk _ o e)
      hz := .inl ⟨lo hz, _, _, lo hTO⟩
      hS := hS₃
      hacc := rfl
      len := rfl
      new := fun j a q => by simp at q
      rise := List.Pairwise.nil
      big := Nat.le_of_eq sz2.symm }
end
end Ep

/-! sorted(zip(xs, ys)), as a rule. -/
namespace Ep
open PySem PySem.Spec PyProof.Rows L2 PySem.Calls
/-- what stands, and more of new addresses -/
def ovr (H G : Hp) : Hp := fun b => match H b with
  | some o => some o
  | none => G b
theorem ovr_old {H G : Hp} {b : Addr} {o : HO} (h : H b = some o) : ovr H G b = some o := by unfold ovr; rw [h]
theorem ovr_new {H G : Hp} {b : Addr} (h : H b = none) : ovr H G b = G b := by unfold ovr; rw [h]
section
variable {X : Cx} {pins : List (Addr × Obj)} {σ : L2.St} {H : Hp} {s : Shared}
theorem inv_more (I : Inv X pins σ H s) {h' : Heap} {t' : Nat} (k : ∀ b u, s.heap.get? b = some u → h'.get? b = some u) {G : Hp} (hG : ∀ b o, G b = some o → s.heap.objs.size ≤ b)
    (ok : ∀ b o, G b = some o → ObjOk X.prog X.w (ovr H G) h' b o) : Inv X pins σ (ovr H G) { s with heap := h', toks := t' } := by
  refine I.un ⟨fun b o q _ _ _ => k b o q, fun b o q _ _ _ => ⟨o.slots, k b o q⟩, fun b o q n _ => ?_, fun b o q _ => ⟨o, k b o q⟩, fun b xs q => ovr_old q, fun b o u q => ovr_old q, fun b ps q => ⟨#[], by rw [ovr_old q]; simp⟩⟩ fun b o q => ?_
  · rw [ovr_new n]
    cases e : G b with
    | none => rfl
    | some u => exact absurd (Nat.lt_of_lt_of_le (Heap.lt_size q) (hG b u e)) (Nat.lt_irrefl _)
  · cases e : H b with
    | some u =>
      rw [ovr_old e] at q
      cases q
      exact (I.hok b _ e).stay (fun c v _ z => k c v z) (fun c z => ovr_old z) fun c xs z => ovr_old z
    | none =>
      rw [ovr_new e] at q
      exact ok b o q
theorem lookup_zip {β : Type} : ∀ {as : List Addr} {ps : List β} {j : Nat} {a : Addr} {p : β}, as.Pairwise (· < ·) → as[j]? = some a → ps[j]? = some p → (as.zip ps).lookup a = some p
  | [], _, _, _, _, _, h, _ => by simp at h
  | b :: as, [], _, _, _, _, _, h => by simp at h
  | b :: as, q :: ps, 0, a, p, _, h1, h2 => by
    have e1 : b = a := by simpa using h1
    have e2 : q = p := by simpa using h2
    subst e1 e2
    simp [List.lookup]
  | b :: as, q :: ps, j + 1, a, p, hw, h1, h2 => by
    obtain ⟨w1, w2⟩ := List.pairwise_cons.mp hw
    have g1 : as[j]? = some a := by simpa using h1
    have ne : (a == b) = false := beq_eq_false_iff_ne.mpr fun e => by
      have := w1 a (List.mem_of_getElem? g1)
      rw [e] at this
      exact Nat.lt_irrefl _ this
    rw [List.zip_cons_cons, List.lookup_cons, ne]
    exact lookup_zip w2 g1 (by simpa using h2)
theorem lookup_zip_inv {β : Type} : ∀ {as : List Addr} {ps : List β} {a : Addr} {p : β}, (as.zip ps).lookup a = some p → ∃ j : Nat, as[j]? = some a ∧ ps[j]? = some p
  | [], _, _, _, h => by simp at h
  | _ :: _, [], _, _, h => by simp at h
  | b :: as, q :: ps, a, p, h => by
    rw [List.zip_cons_cons, List.lookup_cons] at h
    cases e : (a == b) with
    | true =>
      rw [e] at h
      have e1 : a = b := by simpa using e
      have e2 : q = p := Option.some.inj h
      exact ⟨0, by simp [e1], by simp [e2]⟩
    | false =>
      rw [e] at h
      obtain ⟨j, h1, h2⟩ := lookup_zip_inv h
      exact ⟨j + 1, by simpa using h1, by simpa using h2⟩
theorem dps_pairs {K : PySem.W.Frag} {H : Hp} : ∀ {as : List Addr} {xs ys : List V} {dx dy : List PyData}, DpAll K H xs dx → DpAll K H ys dy → as.length = xs.length → xs.length = ys.length →
    (∀ (j : Nat) (a : Addr) (x y : V), as[j]? = some a → xs[j]? = some x → ys[j]? = some y → H a = some (.tup [x, y])) → DpAll K H (as.map V.ref) (List.zipWith (fun a b => PyData.tuple [a, b]) dx dy)
  | as, [], ys, _, _, h1, h2, e1, e2, _ => by
    cases h1
    have : as = [] := by simpa using e1
    subst this
    exact .nil
  | as, x :: xs, [], _, _, _, _, _, e2, _ => by simp at e2
  | [], x :: xs, _ :: _, _, _, _, _, e1, _, _ => by simp at e1
  | a :: as, x :: xs, y :: ys, _, _, h1, h2, e1, e2, k => by
    cases h1 with
    | cons a1 b1 =>
      cases h2 with
      | cons a2 b2 =>
        exact .cons (.tup (.inl (.inl (k 0 a x y rfl rfl rfl))) (.cons a1 (.cons a2 .nil))) (dps_pairs b1 b2 (by simpa using e1) (by simpa using e2) fun j a' x' y' q1 q2 q3 => k (j + 1) a' x' y' (by simpa using q1) (by simpa using q2) (by simpa using q3))
theorem refs_vals : ∀ as : List Addr, Vals (as.map V.ref) (as.map Value.ref)
  | [] => .nil
  | _ :: as => .cons rfl (refs_vals as)
/-- sorted(zip(e1, e2)) of two lists of data, one as long as the other: a new list of new pairs, sorted -/
def tSortedZip (K : PySem.W.Frag) (ta : TA) : TE := fun σ H Q => ta σ H fun vs H1 => ∃ a b xs ys dx dy, vs = [.ref a, .ref b] ∧ SqL K H1 a xs ∧ SqL K H1 b ys ∧ xs.length = ys.length ∧ DpAll K H1 xs dx ∧ DpAll K H1 ys dy ∧
  PySem.W.AllAlike (List.zipWith (fun a b => PyData.tuple [a, b]) dx dy) ∧ (∀ d, d ∈ List.zipWith (fun a b => PyData.tuple [a, b]) dx dy → d.depth ≤ 60) ∧
  ∀ p zs H', Same H1 H' → H1 p = none → H' p = some (.lst zs) → DpAll K H' zs (srtD (List.zipWith (fun a b => PyData.tuple [a, b]) dx dy)) → Q (.ref p) H'
theorem pe_sortedZip (hc : X.calm = true) (hu : X.A.units + 64 < cLine) {e e2 : Expr} {ta : TA} {p1 p2 q1 q2 : Pos} (hg1 : Gl X "sorted") (hm1 : X.mg "sorted" = none) (hg2 : Gl X "zip") (hm2 : X.mg "zip" = none) (ha : PA X [e, e2] ta)
    (hs : starEach [e, e2] X.env = (false, eval e X.env) :: starEach [e2] X.env := by rfl) (hpl : (backTo q2 (starEach [e2] X.env)).any (·.1) = false := by rfl) :
    PE X (.Call (.Name "sorted" p1) [.Call (.Name "zip" p2) [e, e2] [] q2] [] q1) (tSortedZip X.K ta) := by
  refine ⟨fun pins s σ H Q I h => ?_⟩
  refine wpAny_Call_Name_kw (ld_blt I hg1 hm1 (show bootBuiltins (PySem.Str.ofString "sorted") = some (.builtin "sorted") by decide +kernel) ?_)
  refine PyProof.Rows.callWith_builtin1 (e := .Call (.Name "zip" p2) [e, e2] [] q2) (rest := []) ?_ rfl rfl
  show wpAny _ _ (spliced [(false, eval (.Call (.Name "zip" p2) [e, e2] [] q2) X.env)]) _ _ _
  refine Calls.spliced_cons (Call_ (ld_blt I hg2 hm2 PyProof.Rows.boot_zip (PyProof.Rows.callWith_type1 (thn (ha.run q2 pins s σ H _ I h) fun us s1 ⟨vs, H1, I1, r1, q⟩ => ?_) hs hpl)))
  obtain ⟨a, b, xs, ys, dx, dy, rfl, hx, hy, hl, hdx, hdy, hal, hdp, q⟩ := q
  obtain ⟨u, v, rfl, ru, rv⟩ := vals2 r1
  obtain rfl : u = Value.ref a := ru
  obtain rfl : v = Value.ref b := rv
  obtain ⟨ix, rx, px, zx⟩ := I1.list hx
  obtain ⟨iy, ry, py, zy⟩ := I1.list hy
  have lx := rx.length
  have ly := ry.length
  refine wpAny_mono (zip_collect (B := X.A.in1) (R := fun acc s2 => wpAny (model X.prog X.w) X.A.in1 (do
      let l ← newList acc
      let _ ← holding [l] (call (.builtin "list.sort") [l] [])
      ret l) (fun fin s' => ∃ v, fin = .done (.ret v) ∧ EP X pins σ Q v s') X.xe s2) (I1.ok.hd hc) px.isList py.isList (by simp; omega) (by simp; omega) fun h' tk as hk hal' hrise hnew => ?_) (fun v s1' hcol => ?_) fun _ _ z => z
  · -- the pairs are told, then the sort
    let ps : List HO := List.zipWith (fun x y => HO.tup [x, y]) xs ys
    let G : Hp := fun b => (as.zip ps).lookup b
    have hps : ∀ (j : Nat) (x y : V), xs[j]? = some x → ys[j]? = some y → ps[j]? = some (HO.tup [x, y]) := fun j x y h1 h2 => by
      show (List.zipWith _ xs ys)[j]? = _
      rw [List.getElem?_zipWith, h1, h2]
    have hal2 : as.length = xs.length := by rw [hal']; simp; omega
    have at_ : ∀ (j : Nat) (a : Addr), as[j]? = some a → ∃ x y vx vy, xs[j]? = some x ∧ ys[j]? = some y ∧ RelV x vx ∧ RelV y vy ∧ s1.heap.objs.size ≤ a ∧ IsPair h' a vx vy := fun j a hj => by
      obtain ⟨q1, vx, vy, q2, q3, q4⟩ := hnew j a hj
      have jl : j < xs.length := by rw [← hal2]; exact (List.getElem?_eq_some_iff.mp hj).1
      obtain ⟨wx, e1, e2⟩ := rx.get (List.getElem?_eq_getElem jl)
      obtain ⟨wy, e3, e4⟩ := ry.get (List.getElem?_eq_getElem (show j < ys.length by omega))
      have z1 : ix[j]? = some vx := by simpa using q2
      have z2 : iy[j]? = some vy := by simpa using q3
      rw [e1] at z1
      rw [e3] at z2
      cases z1
      cases z2
      exact ⟨_, _, _, _, List.getElem?_eq_getElem jl, List.getElem?_eq_getElem (by omega), e2, e4, q1, q4⟩
    have Gat : ∀ (j : Nat) (a : Addr) (x y : V), as[j]? = some a → xs[j]? = some x → ys[j]? = some y → G a = some (.tup [x, y]) := fun j a x y h1 h2 h3 => lookup_zip hrise h1 (hps j x y h2 h3)
    have I2 : Inv X pins σ (ovr H1 G) { s1 with heap := h', toks := tk } := by
      refine inv_more I1 hk (fun b o hb => ?_) fun b o hb => ?_
      · obtain ⟨j, h1, _⟩ := lookup_zip_inv hb
        obtain ⟨_, _, _, _, _, _, _, _, q1, _⟩ := at_ j b h1
        exact q1
      · obtain ⟨j, h1, h2⟩ := lookup_zip_inv hb
        obtain ⟨x, y, vx, vy, e1, e2, e3, e4, q1, q4⟩ := at_ j b h1
        rw [hps j x y e1 e2] at h2
        cases h2
        exact ⟨by show 2 ≤ sizeLine; decide, [vx, vy], .cons e3 (.cons e4 .nil), ⟨_, q4, rfl, _, rfl⟩⟩
    have sm : Same H1 (ovr H1 G) := fun b o hb => ovr_old hb
    have hfree : ∀ (j : Nat) (a : Addr), as[j]? = some a → H1 a = none := fun j a hj => by
      obtain ⟨_, _, _, _, _, _, _, _, q1, _⟩ := at_ j a hj
      exact I1.hok.fresh q1
    have D := dps_pairs (K := X.K) (H := ovr H1 G) (as := as) (dps_same sm hdx) (dps_same sm hdy) hal2 hl fun j a x y h1 h2 h3 => by
      rw [ovr_new (hfree j a h1)]
      exact Gat j a x y h1 h2 h3
    have ra : Vals (as.map V.ref) (as.map Value.ref) := refs_vals as
    refine sorted_rest (s := { s1 with heap := h', toks := tk }) hu I2 ra D hal (.inl fun d hd => ?_) hdp ?_ (fun p zs np dz => ?_) fun v s' z => ⟨v, rfl, z⟩
    · obtain ⟨k, hk1, hk2⟩ := List.mem_iff_getElem.mp hd
      rw [List.getElem_zipWith] at hk2
      exact ⟨_, _, hk2.symm⟩
    · rw [← dps_len D, List.length_map, hal2]
      exact zx
    · have sm2 : Same (ovr H1 G) (upd (ovr H1 G) p (.lst zs)) := fun b o hb => by
        rw [upd_ne (ne_of_none hb np)]
        exact hb
      exact q p zs _ (sm.trans sm2) (sm.free np) upd_same (dps_same sm2 dz)
  · -- sorted, upon what was gathered
    refine Calls.spliced_nil ?_
    refine Calls.call_function_entry PyProof.Rows.kind_sorted PyProof.Rows.plain_sorted PyProof.Rows.entry_sorted (PyProof.Rows.args_sorted1 _) ?_
    unfold Builtin.«sorted»
    refine wpAny_bind (m := checkCount "sorted" 1 1 _) (wpAny_pure ?_)
    exact wpAny_bind hcol
end
end Ep

/-! set(xs) of a few texts, and sorted of it. -/
namespace Ep
open PySem PySem.Spec PyProof.Rows L2 PySem.Froz
def keyStr (e : Int × Value) : Str := match e.2 with
  | .str x _ => x
  | _ => Str.empty
/-- the set at a holds the texts l; it can be walked -/
structure StxR (P : Program) (w : World) (h : Heap) (a : Addr) (l : List Str) (es : Array (Int × Value)) (ep : Nat) (t : SetTable) : Prop where
  ob : h.get? a = some (sObj "set" (es, ep, t))
  tx : TxOk P w (es, ep, t) l
  ris : Ris t.place.toList
  led : w.params.followText "set-order" = true ∨ t.led = true
  shp : ∀ e ∈ es.toList, ∃ k u, e.2 = Value.str k u
  nd : (es.toList.map keyStr).Nodup
section
variable {P : Program} {w : World} {A : Around} {E : Value → Shared → Prop} {s : Shared}
theorem stx_keep {h h' : Heap} {a : Addr} {l : List Str} {es : Array (Int × Value)} {ep : Nat} {t : SetTable} (R : StxR P w h a l es ep t) (k : ∀ o, h.get? a = some o → h'.get? a = some o) : StxR P w h' a l es ep t :=
  ⟨k _ R.ob, R.tx, R.ris, R.led, R.shp, R.nd⟩
theorem stx_mem {h : Heap} {a : Addr} {l : List Str} {es : Array (Int × Value)} {ep : Nat} {t : SetTable} (R : StxR P w h a l es ep t) (x : Str) : x ∈ es.toList.map keyStr ↔ x ∈ l := by
  rw [R.tx.mem x, List.mem_map]
  have one : ∀ e ∈ es.toList, ((strKind P w).is x e.2 = true ↔ keyStr e = x) := fun e he => by
    obtain ⟨k, u, q⟩ := R.shp e he
    unfold keyStr
    rw [q]
    show ((k == x) = true) ↔ k = x
    exact beq_iff_eq
  constructor
  · rintro ⟨e, he, q⟩
    exact ⟨e, he, (one e he).mpr q⟩
  · rintro ⟨e, he, q⟩
    exact ⟨e, he, (one e he).mp q⟩
theorem stx_fresh {h : Heap} {a : Addr} {led : Bool} (hled : (!w.params.followText "set-order") = led) (ho : h.get? a = some { cls := .type "set", dict := none, data := .set #[] 0 (.fresh 0 0 led) }) : StxR P w h a [] #[] 0 (.fresh 0 0 led) where
  ob := ho
  tx := .nil rfl
  ris := List.Pairwise.nil
  led := by
    show _ ∨ led = true
    rw [← hled]
    cases w.params.followText "set-order"
    · exact .inr rfl
    · exact .inl rfl
  shp := fun e he => by cases he
  nd := List.nodup_nil
theorem tail_ris {ep : Nat} {es : Array (Int × Value)} {t : SetTable} {b : Bool} (r : Ris t.place.toList) : Ris (tailTx ep es t b).2.2.place.toList := by
  unfold tailTx
  split
  · exact relayAll_ris t es _
  · exact r
theorem tail_led {ep : Nat} {es : Array (Int × Value)} {t : SetTable} {b : Bool} : (tailTx ep es t b).2.2.led = t.led := by
  unfold tailTx
  split
  · exact relayAll_led t es _
  · rfl
theorem tail_perm {ep : Nat} {es : Array (Int × Value)} {t : SetTable} {b : Bool} : (tailTx ep es t b).1.toList.Perm es.toList := by
  unfold tailTx
  split
  · exact relayAll_perm t es _
  · exact List.Perm.refl _
theorem add_perm {h : Int} {v : Value} {D : SD} : (addTx h v D).1.toList.Perm (D.1.toList ++ [(h, v)]) := by
  obtain ⟨es, ep, t⟩ := D
  have hp := layNew_perm t es h v
  rw [Array.toList_push] at hp
  exact tail_perm.trans hp
theorem add_ris {h : Int} {v : Value} {D : SD} (r : Ris D.2.2.place.toList) : Ris (addTx h v D).2.2.place.toList := by
  obtain ⟨es, ep, t⟩ := D
  have q := layNew_ris t es h v r
  refine tail_ris ?_
  split
  · exact q
  · exact q
theorem add_led {h : Int} {v : Value} {D : SD} : (addTx h v D).2.2.led = D.2.2.led := by
  obtain ⟨es, ep, t⟩ := D
  have q := layNew_led t es h v
  refine tail_led.trans ?_
  split
  · exact q
  · exact q
theorem add_ep {h : Int} {v : Value} {D : SD} : addTx h v D = ((addTx h v D).1, (addTx h v D).2.1, (addTx h v D).2.2) := rfl
theorem stx_add {h h' : Heap} {a : Addr} {l : List Str} {es : Array (Int × Value)} {ep : Nat} {t : SetTable} {k : Str} {u : Tok} (R : StxR P w h a l es ep t) (hk : k ∉ l) (ho : h'.get? a = some (sObj "set" (addTx (hashStr w k) (.str k u) (es, ep, t)))) :
    StxR P w h' a (k :: l) (addTx (hashStr w k) (.str k u) (es, ep, t)).1 (addTx (hashStr w k) (.str k u) (es, ep, t)).2.1 (addTx (hashStr w k) (.str k u) (es, ep, t)).2.2 where
  ob := ho
  tx := add_ok u R.tx
  ris := add_ris R.ris
  led := by
    rw [add_led]
    exact R.led
  shp := fun e he => by
    rcases List.mem_append.mp (add_perm.mem_iff.mp he) with q | q
    · exact R.shp e q
    · exact ⟨k, u, by rw [List.mem_singleton.mp q]⟩
  nd := by
    have p := (add_perm (h := hashStr w k) (v := .str k u) (D := (es, ep, t))).map keyStr
    refine p.nodup_iff.mpr ?_
    rw [List.map_append]
    refine List.nodup_append.mpr ⟨R.nd, List.nodup_cons.mpr ⟨by simp, List.nodup_nil⟩, fun x hx y hy e => ?_⟩
    have ey : y = k := by simpa [keyStr] using hy
    rw [e, ey] at hx
    exact hk ((stx_mem R k).mp hx)
/-- a text that is in it already -/
theorem add_old {a : Addr} {l : List Str} {es : Array (Int × Value)} {ep : Nat} {t : SetTable} {k : Str} {u : Tok} {Q : Bool → Shared → Prop} (R : StxR P w s.heap a l es ep t) (hk : k ∈ l) (hb : l.length < scanBound) (h : Q false s) :
    wpAny (model P w) A (setAddHashed a (.str k u) (hashStr w k)) Q E s := by
  have ho := R.ob
  have hd : (sObj "set" (es, ep, t)).data = .set es ep t := rfl
  have hf : t.fits es.size = true := R.tx.fit
  have hel : ElemsOf (strKind P w) es.toList := R.tx.el
  have hb0 : es.size < scanBound := by have : es.size = l.length := R.tx.sz; omega
  have hkey : (strKind P w).is k (.str k u) = true := is_str k u
  obtain ⟨j, hj⟩ : ∃ j, List.findIdx? (fun e => (strKind P w).is k e.2) es.toList = some j := by
    cases hr : List.findIdx? (fun e => (strKind P w).is k e.2) es.toList with
    | some j => exact ⟨j, rfl⟩
    | none =>
      obtain ⟨e, he, q⟩ := (R.tx.mem k).mp hk
      have z := List.findIdx?_eq_none_iff.mp hr e he
      rw [q] at z
      cases z
  unfold setAddHashed setAddHashedIn
  refine wpAny_holding (wpAny_bind (wpAny_setState_of ho hd hf ?_))
  dsimp only
  rw [byScan_of rfl hb0 hel]
  simp only [↓reduceIte]
  unfold setAddByScan
  refine wpAny_bind ?_
  refine wpAny_bind (wpAny_rule ?_)
  refine wpAny_bind (wpAny_setScan_of (knd := strKind P w) (k := k) hkey ho hd hf hel ?_)
  rw [hj]
  exact wpAny_pure (wpAny_pure h)
end
/-- behind i of the texts zs -/
def Grow (zs : List Str) (i : Nat) (l : List Str) : Prop := (∀ x, x ∈ l ↔ x ∈ zs.take i) ∧ l.length ≤ i
section
variable {P : Program} {w : World} {A : Around}
theorem set_update_txt {I : Addr} {fp wr : List Addr} {G : Array GenState → Array GenState → Prop} {n : Nat} {Pv : Nat → Value → Prop} {S0 : Nat → Shared → Prop} {R : Result → Shared → Prop}
    (W : WalksS P w A.in1 I fp wr G n Pv S0) (S : Addr) (hSf : S ∉ fp) (zs : List Str) (hn : n = zs.length) (hfew : zs.length < 64) (hval : ∀ i v, Pv i v → ∃ x u, zs[i]? = some x ∧ v = .str x u) :
    ∀ (k i : Nat) (s : Shared), n - i = k → i ≤ n → S0 i s → (∃ l es ep t, StxR P w s.heap S l es ep t ∧ Grow zs i l) →
      (∀ s' l es ep t, Moved (S :: wr) G s s' → StxR P w s'.heap S l es ep t → Grow zs n l → R (.ok (.ret .none)) s') →
      codeAny (model P w) A (.builtin "set.update.loop" ⟨[.ref S, .ref I], []⟩) R s := by
  have hSw : S ∉ wr := fun h => hSf (W.sub _ h)
  have hsub : ∀ b ∈ wr, b ∈ S :: wr := fun b hb => List.mem_cons_of_mem _ hb
  intro k
  induction k with
  | zero =>
    intro i s hk' hi hst ⟨l, es, ep, t, hS, g⟩ hR
    have hin : i = n := by omega
    subst hin
    refine codeAny_builtin F.entry_set_update_loop ?_
    rw [Around.under_plainId F.plain_set_update_loop _]
    show wpAny _ A.in1 (pyNext (.ref I) >>= _) _ _ s
    refine wpAny_bind (W.done s _ _ hst fun s' hm => ?_)
    exact wpAny_pure (hR s' l es ep t (hm.mono hsub) (stx_keep hS fun o e => hm.heap S o hSw e) g)
  | succ k ih =>
    intro i s hk' hi hst ⟨l, es, ep, t, hS, g⟩ hR
    have hlt : i < n := by omega
    refine codeAny_builtin F.entry_set_update_loop ?_
    rw [Around.under_plainId F.plain_set_update_loop _]
    show wpAny _ A.in1 (pyNext (.ref I) >>= _) _ _ s
    refine wpAny_bind (W.item i s _ _ hlt hst fun v s' hP hst' hm => ?_)
    obtain ⟨x, u, hp, rfl⟩ := hval i v hP
    have hS' : StxR P w s'.heap S l es ep t := stx_keep hS fun o e => hm.heap S o hSw e
    have et : zs.take (i + 1) = zs.take i ++ [x] := by rw [List.take_add_one, hp]; rfl
    have hl := g.2
    show wpAny _ A.in1 (holding [Value.str x u] (setAdd S (.str x u)) >>= _) _ _ s'
    refine wpAny_bind (wpAny_holding ?_)
    unfold setAdd
    refine wpAny_holding ?_
    refine wpAny_bind ((strKind P w).pyHash (k := x) (is_str x u) ?_)
    show wpAny _ _ (setAddHashed S (.str x u) (hashStr w x)) _ _ { s' with toks := s'.toks + 1 }
    rcases Classical.em (x ∈ l) with c | c
    · refine add_old (s := { s' with toks := s'.toks + 1 }) hS' c (by unfold scanBound; omega) ?_
      refine wpAny_pure ⟨plainId_quiet F.plain_set_update_loop _, ih (i + 1) _ (by omega) hlt (W.frame _ s' _ _ hst' (Nat.le_add_right _ _) fun b hb o e => e) ⟨l, es, ep, t, hS', fun y => ?_, by omega⟩ fun s'' l2 es2 ep2 t2 hm'' hS'' g'' => ?_⟩
      · rw [et, List.mem_append, ← g.1 y, List.mem_singleton]
        constructor
        · exact .inl
        · rintro (q | q)
          · exact q
          · rw [q]; exact c
      · exact hR s'' l2 es2 ep2 t2 (Moved.trans W.gtrans ((hm.mono hsub).then_heap (Nat.le_add_right _ _) fun b o hb e => e) hm'') hS'' g''
    · have hoS : s'.heap.get? S = some (sObj "set" (es, ep, t)) := hS'.ob
      refine add_x (s := { s' with toks := s'.toks + 1 }) hoS hS'.tx c (by unfold scanBound; omega) ?_
      have hS2 : StxR P w (s'.heap.update S (fun _ => sObj "set" (addTx (hashStr w x) (.str x u) (es, ep, t)))) S (x :: l) _ _ _ := stx_add (u := u) hS' c (get_upd _ hoS rfl)
      have oth : ∀ b o, b ≠ S → s'.heap.get? b = some o → (s'.heap.update S (fun _ => sObj "set" (addTx (hashStr w x) (.str x u) (es, ep, t)))).get? b = some o := fun b o hb e => (Heap.get?_update_other _ _ (Ne.symm hb)).trans e
      refine wpAny_pure ⟨plainId_quiet F.plain_set_update_loop _, ih (i + 1) _ (by omega) hlt (W.frame _ s' _ _ hst' (Nat.le_add_right _ _) fun b hb o e => oth b o (fun h => hSf (h ▸ hb)) e) ⟨_, _, _, _, hS2, fun y => ?_, by simp; omega⟩ fun s'' l2 es2 ep2 t2 hm'' hS'' g'' => ?_⟩
      · rw [et, List.mem_append, List.mem_cons, ← g.1 y, List.mem_singleton]
        constructor
        · rintro (q | q)
          · exact .inr q
          · exact .inl q
        · rintro (q | q)
          · exact .inr q
          · exact .inl q
      · exact hR s'' l2 es2 ep2 t2 (Moved.trans W.gtrans ((hm.mono hsub).then_heap (Nat.le_add_right _ _) fun b o hb e => oth b o (fun h => hb (h ▸ List.mem_cons_self)) e) hm'') hS'' g''
end
section
variable {P : Program} {w : World} {A : Around} {E : Value → Shared → Prop} {s : Shared}
/-- set(xs), xs a list of texts -/
theorem call_set_txt {l : Addr} {items : Array Value} (zs : List Str) {Q : Value → Shared → Prop} (hh : A.handled = none) (hl : s.heap.IsList l items) (hlen : items.size = zs.length) (hv : ∀ (i : Nat) (v : Value), items[i]? = some v → ∃ x u, zs[i]? = some x ∧ v = .str x u) (hfew : zs.length < 64)
    (h : ∀ (h' : Heap) (tk : Nat) L es ep t, StxR P w h' s.heap.objs.size L es ep t → Grow zs zs.length L → (∀ b o, s.heap.get? b = some o → h'.get? b = some o) → Q (.ref s.heap.objs.size) { s with heap := h', toks := tk }) :
    wpAny (model P w) A (call (.type "set") [.ref l]) Q E s := by
  obtain ⟨c, tl, hmro⟩ := F.called_set.mro
  have hmade := F.called_set.made
  have hsub := F.called_set.sub
  refine wpAny_call (codeAny_of_tree ?_)
  show wpAny _ _ (callAny (.type "set") _) _ _ _
  refine wpAny_pure ⟨Code.quiet_builtin _ (by decide +kernel), codeAny_builtin F.entry_type_call ?_⟩
  rw [Around.under_plain (weight_type_call_type "set" [.ref l] []) rfl]
  have h1 := F.called_set.notType
  have h2 := F.called_set.canCreate
  have hct := F.typeCall_set_1 (.ref l)
  repeat (any_goals (first | assumption | wp_step))
  generalize hled : (!w.params.followText "set-order") = led
  refine codeAny_mono (code_set_led1 (.ref l) (E := E) (Q₁ := fun obj s₁ => obj = .ref s.heap.objs.size ∧ s₁ = { s with heap := s.heap.push { cls := .type "set", dict := none, data := .set #[] 0 (.fresh 0 0 led) } }) ⟨rfl, by rw [← hled]⟩) fun r s₁ hr => ?_
  cases r with
  | error e => exact hr
  | ok fl =>
    cases fl with
    | ret obj =>
      obtain ⟨rfl, rfl⟩ := hr
      have hS : (s.heap.push { cls := .type "set", dict := none, data := .set #[] 0 (.fresh 0 0 led) }).get? s.heap.objs.size = some { cls := .type "set", dict := none, data := .set #[] 0 (.fresh 0 0 led) } := Heap.get?_push_size _ rfl
      have hT : Shared.TypeIs { s with heap := s.heap.push { cls := .type "set", dict := none, data := .set #[] 0 (.fresh 0 0 led) } } (.ref s.heap.objs.size) "set" := ⟨_, hS, rfl⟩
      have hli := F.called_set.init.lookup
      have hbi := F.called_set.init.bind (.ref s.heap.objs.size)
      repeat (any_goals (first | assumption | wp_step))
      refine codeAny_mono (codeAny_call_builtin (R := wants (fun r s₂ => r = .none ∧ ∃ h' tk L es ep t, s₂ = { s with heap := h', toks := tk } ∧ StxR P w h' s.heap.objs.size L es ep t ∧ Grow zs zs.length L ∧
          (∀ b o, s.heap.get? b = some o → h'.get? b = some o)) E) F.called_set.init.plain F.entry_set_init (check_set_init_1 hT ?_)) fun r₂ s₂ hr₂ => ?_
      · obtain ⟨ol, hol, hcl, nl, hdl⟩ := hl
        obtain ⟨ocls, odict, odata, oslots⟩ := ol
        simp only at hcl hdl
        subst hcl; subst hdl
        have hol' : (s.heap.push { cls := .type "set", dict := none, data := .set #[] 0 (.fresh 0 0 led) }).get? l = some { cls := .type "list", dict := odict, data := .seq items nl, slots := oslots } := Heap.get?_push_of_some _ hol
        have hsls := F.sub_list_set
        have hslf := F.sub_list_frozenset
        have hne : (Value.type "list" == Value.type "dict") = false := by decide
        have hl1 : (s.heap.push { cls := .type "set", dict := none, data := .set #[] 0 (.fresh 0 0 led) }).IsList l items := ⟨_, hol', rfl, nl, rfl⟩
        unfold Builtin.«set.__init__» noKeywords Builtin.Frozenset.updateFrom
        generalize hPI : pyIter = PI
        wp_walk
        subst hPI
        refine wpAny_pyIter_list hl1 ?_
        refine wpAny_bind (wpAny_runValue ?_)
        have hlS : l < s.heap.objs.size := Heap.lt_size hol
        have hh3 : A.in1.in1.in1.handled = none := by simp [hh]
        have hneI : l ≠ (s.heap.push { cls := .type "set", dict := none, data := .set #[] 0 (.fresh 0 0 led) }).objs.size := by
          rw [Heap.size_push]
          exact Nat.ne_of_lt (Nat.lt_succ_of_lt hlS)
        have hSf : s.heap.objs.size ∉ [(s.heap.push { cls := .type "set", dict := none, data := .set #[] 0 (.fresh 0 0 led) }).objs.size, l] := by
          rw [Heap.size_push]
          simp only [List.mem_cons, List.not_mem_nil, or_false, not_or]
          exact ⟨Nat.ne_of_lt (Nat.lt_succ_self _), Nat.ne_of_gt hlS⟩
        refine set_update_txt ((Walks.list hh3 _ l hneI items).toS) s.heap.objs.size hSf zs hlen hfew hv (items.size - 0) 0 _ (by omega) (Nat.zero_le _)
          ⟨⟨_, Heap.get?_push_size _ rfl, rfl, rfl⟩, (hl1.push _)⟩ ?hS0 ?hR
        case hS0 =>
          have hget : ((s.heap.push { cls := .type "set", dict := none, data := .set #[] 0 (.fresh 0 0 led) }).push { cls := .type "list_iterator", data := .fields #[.ref l, .int 0 0] }).get? s.heap.objs.size = some { cls := .type "set", dict := none, data := .set #[] 0 (.fresh 0 0 led) } := Heap.get?_push_of_some _ hS
          exact ⟨[], #[], 0, _, stx_fresh hled hget, fun x => by simp, Nat.zero_le _⟩
        case hR =>
          intro s' L es ep t hm hS' g'
          obtain ⟨h', g2, d', tk', os'⟩ := s'
          have eg : g2 = s.gens := hm.gens
          have ed : d' = s.drawn := hm.drawn
          have eo : os' = s.os := hm.os
          subst eg; subst ed; subst eo
          show wpAny _ _ _ _ _ _
          refine wpAny_pure ?_
          show wpAny _ _ (ret Value.none) _ _ _
          rw [hlen] at g'
          refine wpAny_pure ⟨rfl, h', tk', L, es, ep, t, rfl, hS', g', fun b o e => ?_⟩
          have hb := Heap.lt_size e
          refine hm.heap b o (fun z => ?_) (Heap.get?_push_of_some _ (Heap.get?_push_of_some _ e))
          simp only [List.mem_cons, List.not_mem_nil, or_false] at z
          rcases z with z | z
          · exact Nat.lt_irrefl _ (z ▸ hb)
          · rw [z, Heap.size_push] at hb
            exact absurd hb (Nat.not_lt_of_le (Nat.le_succ _))
      · cases r₂ with
        | error e => exact hr₂
        | ok fl₂ =>
          cases fl₂ with
          | ret r =>
            obtain ⟨rfl, h', tk, L, es, ep, t, rfl, hS', g', hk'⟩ := hr₂
            repeat (any_goals (first | assumption | wp_step))
            exact h _ _ _ _ _ _ hS' g' hk'
          | _ => exact hr₂.elim
    | _ => exact hr.elim
end
end Ep

/-! sorted(set(xs)), as a rule. -/
namespace Ep
open PySem PySem.Spec PyProof.Rows L2 PySem.Froz
section
variable {X : Cx} {pins : List (Addr × Obj)} {σ : L2.St} {H : Hp} {s : Shared}
theorem strs_dps {K : PySem.W.Frag} {H : Hp} : ∀ l : List Str, DpAll K H (l.map V.str) (l.map .str)
  | [] => .nil
  | y :: l => .cons (.str y) (strs_dps l)
theorem dps_strs {K : PySem.W.Frag} {H : Hp} : ∀ {l : List Str} {ys : List V}, DpAll K H ys (l.map .str) → ys = l.map V.str
  | [], _, h => by cases h; rfl
  | y :: l, _, h => by
    cases h with
    | cons h1 h2 =>
      cases h1
      rw [dps_strs h2]
      rfl
theorem strs_vals_of : ∀ {l : List (Int × Value)}, (∀ e ∈ l, ∃ k u, e.2 = Value.str k u) → Vals ((l.map keyStr).map V.str) (l.map (·.2))
  | [], _ => .nil
  | e :: l, h => by
    obtain ⟨k, u, q⟩ := h e List.mem_cons_self
    refine .cons ⟨u, ?_⟩ (strs_vals_of fun x hx => h x (List.mem_cons_of_mem _ hx))
    show e.2 = Value.str (keyStr e) u
    unfold keyStr
    rw [q]
/-- the texts of a rearranged list of values -/
theorem vals_perm {l : List Str} : ∀ {us vs : List Value}, us.Perm vs → Vals (l.map V.str) vs → ∃ l' : List Str, l'.Perm l ∧ Vals (l'.map V.str) us := by
  intro us vs p
  induction p generalizing l with
  | nil =>
    intro h
    cases l with
    | nil => exact ⟨[], List.Perm.refl _, .nil⟩
    | cons x l => cases h
  | cons u p ih =>
    intro h
    cases l with
    | nil => cases h
    | cons x l =>
      cases h with
      | cons h1 h2 =>
        obtain ⟨l', p', h'⟩ := ih h2
        exact ⟨x :: l', p'.cons x, .cons h1 h'⟩
  | swap u v us =>
    intro h
    cases l with
    | nil => cases h
    | cons x l =>
      cases l with
      | nil =>
        cases h with
        | cons h1 h2 => cases h2
      | cons y l =>
        cases h with
        | cons h1 h2 =>
          cases h2 with
          | cons h2 h3 => exact ⟨y :: x :: l, List.Perm.swap x y l, .cons h2 (.cons h1 h3)⟩
  | trans p q ih1 ih2 =>
    intro h
    obtain ⟨l1, p1, h1⟩ := ih2 h
    obtain ⟨l2, p2, h2⟩ := ih1 h1
    exact ⟨l2, p2.trans p1, h2⟩
def tSortedSet (K : PySem.W.Frag) (te : TE) : TE := fun σ H Q => te σ H fun x H1 => ∃ (l : Addr) (zs : List Str), x = .ref l ∧ SqL K H1 l (zs.map V.str) ∧ zs.length < 64 ∧
  ∀ (p : Addr) (ys : List V) (ds : List Str), ds.Nodup → (∀ x, x ∈ ds ↔ x ∈ zs) → H1 p = none → DpAll K H1 ys (srtD (ds.map .str)) → Q (.ref p) (upd H1 p (.lst ys))
theorem pe_sortedSet (hc : X.calm = true) (hu : X.A.units + 64 < cLine) {e : Expr} {te : TE} {p1 p2 q1 q2 : Pos} (hg1 : Gl X "sorted") (hm1 : X.mg "sorted" = none) (hg2 : Gl X "set") (hm2 : X.mg "set" = none) (he : PE X e te)
    (hs : starEach [e] X.env = [(false, eval e X.env)] := by rfl) : PE X (.Call (.Name "sorted" p1) [.Call (.Name "set" p2) [e] [] q2] [] q1) (tSortedSet X.K te) := by
  refine ⟨fun pins s σ H Q I h => ?_⟩
  refine wpAny_Call_Name_kw (ld_blt I hg1 hm1 (show bootBuiltins (PySem.Str.ofString "sorted") = some (.builtin "sorted") by decide +kernel) ?_)
  refine PyProof.Rows.callWith_builtin1 (e := .Call (.Name "set" p2) [e] [] q2) (rest := []) ?_ rfl rfl
  show wpAny _ _ (spliced [(false, eval (.Call (.Name "set" p2) [e] [] q2) X.env)]) _ _ _
  refine Calls.spliced_cons (Call_ (ld_blt I hg2 hm2 (show bootBuiltins (PySem.Str.ofString "set") = some (.type "set") by decide +kernel) (PyProof.Rows.callWith_type1 (e := e) (rest := []) ?_ hs rfl)))
  rw [hs]
  show wpAny _ _ (spliced [(false, eval e X.env)]) _ _ _
  refine Calls.spliced_cons (thn (he.run pins s σ H _ I h) fun u s1 ⟨x, H1, I1, rx, l, zs, ex, hl, hfew, q⟩ => Calls.spliced_nil ?_)
  subst ex
  obtain rfl : u = Value.ref l := rx
  obtain ⟨its, rv, pl, hz⟩ := I1.list hl
  have hn : its.toArray.size = zs.length := by
    have := rv.length
    rw [List.length_map] at this
    simp [this]
  refine call_set_txt zs (I1.ok.hd hc) pl.isList hn (fun i v hv => ?_) hfew fun h' tk L es ep t R g hk => ?_
  · have hv' : its[i]? = some v := by simpa using hv
    cases e1 : zs[i]? with
    | none =>
      rw [rv.none_of (by rw [List.getElem?_map, e1]; rfl)] at hv'
      cases hv'
    | some y =>
      obtain ⟨w', e2, e3⟩ := rv.get (i := i) (x := V.str y) (by rw [List.getElem?_map, e1]; rfl)
      rw [e2] at hv'
      cases hv'
      obtain ⟨u, rfl⟩ := e3
      exact ⟨y, u, rfl, rfl⟩
  · have I2 : Inv X pins σ H1 { s1 with heap := h', toks := tk } := I1.kept hk
    refine Calls.spliced_nil ?_
    refine Calls.call_function_entry PyProof.Rows.kind_sorted PyProof.Rows.plain_sorted PyProof.Rows.entry_sorted (PyProof.Rows.args_sorted1 _) ?_
    unfold Builtin.«sorted»
    refine wpAny_bind (m := checkCount "sorted" 1 1 _) (wpAny_pure ?_)
    have hb : es.size < scanBound := by
      have e1 : es.size = L.length := R.tx.sz
      have := g.2
      unfold scanBound
      omega
    refine wpAny_bind (collect_set (A := X.A.in1) (s := { s1 with heap := h', toks := tk }) (I1.ok.hd hc) ⟨_, R.ob, rfl, rfl⟩ R.tx.fit hb R.ris R.led fun s' out k2 hz2 g2 o2 pm => ?_)
    have I3 : Inv X pins σ H1 s' := I2.call' (ch := []) o2 (Un.kept k2) (I2.hok.kept k2) (by rw [g2]; exact I2.bare) (fun _ z => nomatch z)
    obtain ⟨ds, pd, rd⟩ := vals_perm pm (strs_vals_of R.shp)
    refine sorted_rest hu I3 rd (strs_dps ds) (fun d hd d' hd' => ?_) (.inr fun d hd => ?_) (fun d hd => ?_) ?_ (fun p ys np dy => q p ys ds ?_ (fun x => ?_) np dy) fun v s' z => ⟨v, rfl, z⟩
    · obtain ⟨x, _, rfl⟩ := List.mem_map.mp hd
      obtain ⟨y, _, rfl⟩ := List.mem_map.mp hd'
      rfl
    · obtain ⟨x, _, rfl⟩ := List.mem_map.mp hd
      exact ⟨(fun z => nomatch z), fun _ z => nomatch z⟩
    · obtain ⟨x, _, rfl⟩ := List.mem_map.mp hd
      exact Nat.zero_le _
    · rw [List.length_map, pd.length_eq, List.length_map, Array.length_toList]
      have := PySem.fits_of_scanBound hb
      exact this
    · exact pd.nodup_iff.mpr R.nd
    · rw [pd.mem_iff, stx_mem R x, g.1 x, List.take_length]
end
end Ep

/-! Defs whose promise is asked only where no repr is under way; the law's own call. -/
namespace Ep
open PySem PySem.Spec PyProof.Rows L2
/-- the def keeps its promise wherever nothing guards against a repr within a repr -/
structure FnG (P : Program) (w : World) (K : PySem.W.Frag) (mg : Str → Option Value) (base : Heap) (k : Nat) (f : Addr) (fd : FuncData) (ps : List Str) (sp : Sp) : Prop where
  len : ∀ vs H Q E, sp vs H Q E → vs.length = ps.length
  run : ∀ (A : Around) (outer : List Env) (s : Shared) (H : Hp) (args : Args) (us : List Value) (vs : List V) (Q : VK) (E : XK), A.guards = some [] → Room k A → Env0 P w K mg base A outer s H →
    BindsTo s fd args (ps.zip us) → Vals vs us → sp vs H Q E → codeAny (model P w) A (.call (.ref f) args) (CR CX0 outer P w H s Q E) s
section
variable {P : Program} {w : World} {K : PySem.W.Frag} {mg : Str → Option Value} {base : Heap}
theorem okG {x qual : Str} {st : Stmt} {f : Addr} {fd : FuncData} {N ps : List Str} {k : Nat} {sp : Sp} (F : Fun K x qual st f fd) (S : FnScope N ps (defScope st)) (len : ∀ vs H Q E, sp vs H Q E → vs.length = ps.length)
    (body : ∀ (cdv : Value) (A : Around) (outer : List Env) (s : Shared) (H : Hp) (vs : List V) (Q : VK) (E : XK), A.guards = some [] → Room k (A.deeper (envOfC qual (defScope st) s.heap.objs.size f cdv)) → sp vs H Q E →
      ∃ t, PSs (cxOf CX0 P w K mg base N qual (defScope st) f cdv A outer s H E).nox (defBody st) t ∧ t { nx := fun _ H' => Q .non H', rt := Q } (start N vs) H) : FnG P w K mg base (k + 1) f fd ps sp := by
  obtain ⟨oc, od, kV, doc, pm, an, cdv, ct, osl, rfl, lk, hcd⟩ := F.ex
  refine ⟨len, fun A outer s H args us vs Q E hgd room e0 bind r prom => ?_⟩
  have hlen := len _ _ _ _ prom
  have kin : K.In s.heap := e0.mod.kin.keeps fun b o e => (e0.bs b o e).1
  have nolim : s.heap.NoLimit := e0.mod.nolimit.keeps fun b o e => (e0.bs b o e).1
  have kinds : ∀ y ∈ ps.zip us, (defScope st).names.lookup y.1 = some .local ∨ ((defScope st).names.lookup y.1 = some .cell ∧ ((cellsFrom (s.heap.objs.size + 1) (defScope st).names []).lookup y.1).isSome = true) := fun ⟨n, v⟩ hy =>
    (S.par n (List.of_mem_zip hy).1).elim .inl fun q => .inr ⟨q, PySem.W.cellsFrom_some _ _ _ (.inl q)⟩
  refine codeAny_call_function room.depth (kin _ _ lk) rfl S.co S.gen rfl (PySem.W.codeRec_of kin hcd) (bind _ _ _ _ ?_)
  refine wpAny_newFunctionEnv_cells S.kind kinds fun env envEq s1 call => ?_
  subst envEq
  refine ⟨nolim.keeps call.toInCall.keep, codeAny_func ?_⟩
  obtain ⟨t, ht, hq⟩ := body cdv A outer s H vs Q E hgd (room.deeper _) prom
  have I : Inv (cxOf CX0 P w K mg base N qual (defScope st) f cdv A outer s H E) [] (start N vs) H s1 := inv_start S room.hd e0 hlen r call
  have done : ∀ {σ' : L2.St} {H' : Hp} {v : V} {u : Value} {s' : Shared}, Inv (cxOf CX0 P w K mg base N qual (defScope st) f cdv A outer s H E) [] σ' H' s' → RelV v u → Q v H' → CE outer P w H s Q u s' :=
    fun {_ H' v _ _} J rv q => ⟨v, H', J.os, J.bare, J.base, J.hok, rv, q⟩
  refine wpAny_mono (ht.nox.run [] s1 (start N vs) H _ I hq) (fun fl s' hs => ?_) fun e s' hs => hs
  match fl, hs with
  | .ret u, ⟨v, σ', H', J, rv, q⟩ => exact done J rv q
  | .next, ⟨σ', H', J, q⟩ => exact done (v := V.non) (u := Value.none) J rfl q
  | .brk, ⟨_, _, _, q⟩ => exact q.elim
  | .cont, ⟨_, _, _, q⟩ => exact q.elim
end
section
variable {X : Cx} {k : Nat} {f : Addr} {fd : FuncData} {ps : List Str} {ds : List Value} {dvs : List V} {sp : Sp} {x : Str} {p pos : Pos} {e : Expr} {es : List Expr} {t : TA}
/-- a call of such a def -/
theorem pe_callG (hgd : X.A.guards = some []) (F : FnG X.prog X.w X.K X.mg X.base k f fd ps sp) (hr : Room k X.A) (hg : Gl X x) (hm : X.mg x = some (.ref f)) (hk : PySem.W.keepIn X.K (.ref f) = true) (hb : Binds X.K fd ps [])
    (ha : PA X (e :: es) t) (hdb : (x == ("__debug__" : Str)) = false := by decide) (he : starEach (e :: es) X.env = (false, eval e X.env) :: starEach es X.env := by rfl) (hpl : (backTo pos (starEach es X.env)).any (·.1) = false := by rfl) :
    PE X (.Call (.Name x p) (e :: es) [] pos) (tCall sp [] E0 t) := by
  refine ⟨fun pins s σ H Q I h => wpAny_Call_Name_kw (ld_glob I hg hm ?_ hdb)⟩
  refine PySem.W.callWith_K (h₀ := X.base) I.ok.mod.kin hk (thn (ha.run pos pins s σ H _ I h) fun us s1 ⟨vs, H1, I1, r, q⟩ => ⟨I1.kIn, ?_⟩) he hpl
  have q' : sp vs H1 Q E0 := by
    have z : sp (vs ++ []) H1 Q E0 := q
    rw [List.append_nil] at z
    exact z
  have hl : (us ++ []).length = ps.length := by rw [List.append_nil, ← r.length]; exact F.len _ _ _ _ q'
  have hb' := hb s1 us I1.kIn hl
  rw [List.append_nil] at hb'
  refine wpAny_call (codeAny_mono (F.run X.A X.stack s1 H1 ⟨us, []⟩ us vs Q E0 hgd hr I1.env0 hb' r q') fun r s' hq => ?_)
  match r, hq with
  | .error e, hq => exact (hq : False).elim
  | .ok (.ret u), hq => exact I1.after hq
  | .ok .next, hq => exact hq.elim
  | .ok .brk, hq => exact hq.elim
  | .ok .cont, hq => exact hq.elim
end

/-! ### the law's own call -/
section
variable {P : Program} {w : World} {K : PySem.W.Frag} {mg mb : Str → Option Value} {k : Nat} {fa a : Addr} {fd : FuncData} {x : Str} {sp : Sp} {s₁ : Shared} {vs : List Value} {ns : List Int}
/-- from an abstract heap of the script alone -/
theorem enterG (kin : K.In s₁.heap) (hns : s₁.heap.Ns mainGlobals mg) (hb : s₁.heap.Ns builtinsNs mb) (hbb : ∀ x : Str, x ≠ "__name__" → mb x = bootBuiltins x) (lim : s₁.heap.NoLimit) (hg : s₁.gens = #[])
    (ha : s₁.heap.get? a = some { cls := .type "list", data := .seq vs.toArray }) (hr : Room k callerA)
    (F : ∀ base : Heap, K.In base → base.Ns mainGlobals mg → FnG P w K mg base k fa fd [x] sp) (hbind : ∀ (s : Shared) (u : Value), BindsTo s fd ⟨[u], []⟩ [(x, u)])
    {H : Hp} (hO : Only H) (hok : HOk P w H s₁.heap) (hA : ∀ b, H b ≠ none → b = a) (hK : H a ≠ none → K.lookup a = none) (prom : sp [.ref a] H (fun v _ => v = .bl true) fun _ _ _ => False) :
    codeAny (model P w) callerA (.call (.ref fa) ⟨[.ref a], []⟩) (fun r s' => r = .ok (.ret (.bool true)) ∧ OldK s₁.heap s'.heap ∧ s'.os = s₁.os ∧ AllBare s'.gens) s₁ := by
  -- what is no list is not tracked
  have untr : ∀ {b : Addr} {o : Obj}, s₁.heap.get? b = some o → o.data ≠ .seq vs.toArray 0 → H b = none := fun {b o} e d => by
    cases q : H b with
    | none => rfl
    | some u =>
      have eb : b = a := hA b (by rw [q]; exact fun z => nomatch z)
      rw [eb, ha] at e
      cases e
      exact absurd rfl d
  have nsB : ∀ {b : Addr} {m : Str → Option Value}, s₁.heap.Ns b m → (hidT s₁.heap H).Ns b m := fun {b m} ⟨o, es, ep, e, d, r⟩ =>
    ⟨o, es, ep, hidT_get e (untr e (by rw [d]; exact fun z => nomatch z)), d, r⟩
  have kinB : K.In (hidT s₁.heap H) := fun b o e => hidT_get (kin b o e) (by
    cases q : H b with
    | none => rfl
    | some u =>
      have eb : b = a := hA b (by rw [q]; exact fun z => nomatch z)
      rw [eb, hK (by rw [← eb, q]; exact fun z => nomatch z)] at e
      cases e)
  have modB : Mod K mg (hidT s₁.heap H) := ⟨kinB, nsB hns, ⟨mb, nsB hb, hbb⟩, let ⟨mc, q1, q2⟩ := lim; ⟨mc, nsB q1, q2⟩⟩
  have e0 : Env0 P w K mg (hidT s₁.heap H) callerA [] s₁ H :=
    ⟨rfl, modB, fun b o e => of_hidT e, Nat.le_of_eq (hidT_size _ _), trivial, fun b hb => absurd (show b ∈ ([] : List Addr) from hb) (by simp), hok, .of_eq hg⟩
  refine codeAny_mono ((F _ kinB (nsB hns)).run callerA [] s₁ H ⟨[.ref a], []⟩ [.ref a] [.ref a] _ _ rfl hr e0 (hbind s₁ (.ref a)) (.cons rfl .nil) prom) fun r s' h => ?_
  match r, h with
  | .error e, h => exact (h : False).elim
  | .ok .next, h => exact h.elim
  | .ok .brk, h => exact h.elim
  | .ok .cont, h => exact h.elim
  | .ok (.ret u), ⟨v, H', os, bare, un, hok', r', (q : v = .bl true)⟩ =>
    subst q
    obtain rfl : u = Value.bool true := r'
    refine ⟨rfl, OldK.of_keep fun b o e => ?_, os, bare⟩
    rcases hO b with z | ⟨ob, xs, z⟩
    · exact un.keep b o e z (fun z => absurd (show b ∈ ([] : List Addr) from z) (by simp)) (by simp)
    · have e1 := (hok b _ z).1
      have e2 := (hok' b _ (un.frzs b ob _ z)).1
      rw [e] at e1
      cases e1
      exact e2
theorem law_callG (kin : K.In s₁.heap) (hns : s₁.heap.Ns mainGlobals mg) (hb : s₁.heap.Ns builtinsNs mb) (hbb : ∀ x : Str, x ≠ "__name__" → mb x = bootBuiltins x) (lim : s₁.heap.NoLimit) (hg : s₁.gens = #[])
    (ha : s₁.heap.get? a = some { cls := .type "list", data := .seq vs.toArray }) (hi : IntsAre vs ns) (hl : ns.length ≤ sizeLine) (hr : Room k callerA)
    (F : ∀ base : Heap, K.In base → base.Ns mainGlobals mg → FnG P w K mg base k fa fd [x] sp) (hbind : ∀ (s : Shared) (u : Value), BindsTo s fd ⟨[u], []⟩ [(x, u)])
    (prom : ∀ H : Hp, Only H → SqL K H a (ns.map V.int) → sp [.ref a] H (fun v _ => v = .bl true) fun _ _ _ => False) :
    codeAny (model P w) callerA (.call (.ref fa) ⟨[.ref a], []⟩) (fun r s' => r = .ok (.ret (.bool true)) ∧ OldK s₁.heap s'.heap ∧ s'.os = s₁.os ∧ AllBare s'.gens) s₁ := by
  have rv := vals_ints hi
  cases hk : K.lookup a with
  | some o =>
    have e := kin a o hk
    rw [ha] at e
    cases e
    refine enterG kin hns hb hbb lim hg ha hr F hbind (H := fun _ => none) (fun _ => .inl rfl) (fun b u z => nomatch z) (fun b z => absurd rfl z) (fun z => absurd rfl z) (prom _ (fun _ => .inl rfl) (.inr ⟨_, vs.toArray, _, hk, rfl, rfl, rfl, ?_, by simpa using rv⟩))
    rw [List.size_toArray, hi.length]
    exact hl
  | none =>
    let H : Hp := upd (fun _ => none) a (.frz { cls := .type "list", data := .seq vs.toArray } (.lst (ns.map V.int)))
    have Ha : H a = some (.frz { cls := .type "list", data := .seq vs.toArray } (.lst (ns.map V.int))) := upd_same
    have Hn : ∀ b, b ≠ a → H b = none := fun b h => upd_ne h
    have only : Only H := fun b => by
      by_cases e : b = a
      · subst e
        exact .inr ⟨_, _, Ha⟩
      · exact .inl (Hn b e)
    refine enterG kin hns hb hbb lim hg ha hr F hbind (H := H) only (fun b u z => ?_) (fun b z => ?_) (fun _ => hk) (prom H only (.inl (.inr ⟨_, Ha⟩)))
    · by_cases e : b = a
      · subst e
        rw [Ha] at z
        cases z
        exact ⟨ha, by rw [List.length_map]; exact hl, vs, _, rv, ha⟩
      · rw [Hn b e] at z
        cases z
    · by_cases e : b = a
      · exact e
      · exact absurd (Hn b e) z
end
/-- the goal that the head leaves -/
theorem walkG {l : PySem.W.OpenLaw} {n k : Nat} {q : Program} {loose : List Str} {XP : (Str → Option Value) → Heap → Prop} {YP : World → Heap → Prop} {d : DefRec} {K : Params → PySem.W.Frag} {sp : World → Sp} {x : Str}
    (hn : l.most = some n) (hn2 : n ≤ sizeLine) (hdf : d.params.defaults = []) (hr : Room k callerA) (hY : ∀ (w : World) (h : Heap), YP w h → (K w.params).In h)
    (F : ∀ (w : World) (mg : Str → Option Value) (fa : Addr) (h : Heap), (K w.params).In h → h.Ns mainGlobals mg → mg d.name = some (.ref fa) →
      ∃ fd : FuncData, (∀ (s : Shared) (u : Value), BindsTo s fd ⟨[u], []⟩ [(x, u)]) ∧ ∀ base : Heap, (K w.params).In base → base.Ns mainGlobals mg → FnG l.prog w (K w.params) mg base k fa fd [x] (sp w))
    (prom : ∀ (w : World) (H : Hp) (a : Addr) (ns : List Int), ns.length ≤ n → Only H → SqL (K w.params) H a (ns.map V.int) → sp w [.ref a] H (fun v _ => v = .bl true) fun _ _ _ => False) :
    PySem.W.WalkO q loose XP YP l.row.toRowW d [] (fun f vs => PySem.call f vs) := by
  refine Att.attach_call hn hdf fun w s₀ s₁ mg mb fa o pm cd doc a vs ns G Y ho hd hcd hmg hobj hints hlen hg => ?_
  have kin := hY w _ Y
  obtain ⟨fd, hb, hF⟩ := F w mg fa _ kin G.T.g hmg
  exact law_callG kin G.T.g G.T.b G.T.builtins G.T.nolimit hg hobj hints (Nat.le_trans hlen hn2) hr hF hb fun H hO hS => prom w H a ns hlen hO hS
end Ep

/-! The text by places; texts, places, libraries and patterns in the heap; what the top's names hold. -/
namespace Ep
open PySem PySem.Spec PyProof.Rows L2
open EP (T Pl endOf placesOf ordr rowsOf)
def topS (i : Nat) : Stmt := PySem.Challenge.pw_everypiece_k47_whole_patterns_searched_b.main.body.getD i (.Pass ⟨0, 0, 0, 0⟩)

/-! ### built-ins by name -/
theorem bt_isinstance : bootBuiltins "isinstance" = some (.builtin "isinstance") := by decide +kernel
theorem bt_sum : bootBuiltins "sum" = some (.builtin "sum") := by decide +kernel
theorem bt_all : bootBuiltins "all" = some (.builtin "all") := by decide +kernel
theorem bt_any : bootBuiltins "any" = some (.builtin "any") := by decide +kernel
theorem bt_max : bootBuiltins "max" = some (.builtin "max") := by decide +kernel
theorem bt_min : bootBuiltins "min" = some (.builtin "min") := by decide +kernel
theorem bt_sorted : bootBuiltins "sorted" = some (.builtin "sorted") := by decide +kernel
theorem bt_abs : bootBuiltins "abs" = some (.builtin "abs") := by decide +kernel
theorem bt_repr : bootBuiltins "repr" = some (.builtin "repr") := by decide +kernel
theorem bt_len : bootBuiltins "len" = some (.builtin "len") := by decide +kernel
theorem bt_int : bootBuiltins "int" = some (.type "int") := by decide +kernel
theorem bt_tuple : bootBuiltins "tuple" = some (.type "tuple") := by decide +kernel
theorem bt_str : bootBuiltins "str" = some (.type "str") := by decide +kernel
theorem bt_set : bootBuiltins "set" = some (.type "set") := by decide +kernel
theorem bt_range : bootBuiltins "range" = some (.type "range") := by decide +kernel
theorem bt_zip : bootBuiltins "zip" = some (.type "zip") := by decide +kernel
theorem bt_enumerate : bootBuiltins "enumerate" = some (.type "enumerate") := by decide +kernel

/-! ### texts -/
def tx (l : T) : Str := ⟨l.toArray⟩
theorem tx_list (l : T) : (tx l).cps.toList = l := rfl
theorem tx_len (l : T) : (tx l).length = l.length := by show l.toArray.size = _; simp
theorem tx_inj {a b : T} (h : tx a = tx b) : a = b := by
  have := congrArg (fun z : Str => z.cps.toList) h
  exact this
theorem tx_eq {a b : T} : tx a = tx b ↔ a = b := ⟨tx_inj, fun h => by rw [h]⟩
theorem cut_from (l : T) (k : Nat) : cutS (tx l) (some (k : Int)) none = tx (l.drop k) := by
  unfold cutS
  rw [HT.sIx_nat, HT.sIx_none, tx_len, tx_list]
  show tx _ = tx _
  congr 1
  rcases Nat.le_total k l.length with h | h
  · rw [Nat.min_eq_left h, List.take_of_length_le (by rw [List.length_drop]; exact Nat.le_refl _)]
  · rw [Nat.min_eq_right h, Nat.sub_self, List.take_zero, List.drop_eq_nil_of_le h]
theorem cut_to (l : T) (k : Nat) : cutS (tx l) none (some (k : Int)) = tx (l.take k) := by
  unfold cutS
  rw [HT.sIx_nat, HT.sIx_none, tx_len, tx_list, List.drop_zero, Nat.sub_zero]
  show tx _ = tx _
  congr 1
  rcases Nat.le_total k l.length with h | h
  · rw [Nat.min_eq_left h]
  · rw [Nat.min_eq_right h, List.take_of_length_le (Nat.le_refl _), List.take_of_length_le h]
theorem cut_mid (l : T) (i k : Nat) : cutS (tx l) (some (i : Int)) (some ((i : Int) + (k : Int))) = tx ((l.drop i).take k) := by
  unfold cutS
  have e : (i : Int) + (k : Int) = ((i + k : Nat) : Int) := by omega
  rw [e, HT.sIx_nat, HT.sIx_nat, tx_len, tx_list]
  show tx _ = tx _
  congr 1
  rcases Nat.le_total i l.length with h | h
  · rw [Nat.min_eq_left h]
    rcases Nat.le_total (i + k) l.length with h' | h'
    · rw [Nat.min_eq_left h']
      congr 1
      omega
    · rw [Nat.min_eq_right h', List.take_of_length_le (by rw [List.length_drop]; exact Nat.le_refl _), List.take_of_length_le (by rw [List.length_drop]; omega)]
  · rw [Nat.min_eq_right h, List.drop_eq_nil_of_le (Nat.le_refl _), List.drop_eq_nil_of_le h]
    simp

/-! ### the heap -/
theorem same_new {H : Hp} {p : Addr} {o : HO} (h : H p = none) : Same H (upd H p o) := fun b x e => by
  rw [upd_ne (ne_of_none e h)]
  exact e
/-- all stays but what stands at p -/
theorem same_at {H H' : Hp} {p : Addr} {o : HO} (hp : H p = none) (s : Same H H') : Same H (upd H' p o) := fun b x e => by
  rw [upd_ne (ne_of_none e hp)]
  exact s b x e
/-- the places ps, as new pairs xs -/
def PlsAt (H : Hp) (xs : List V) (ps : List Pl) : Prop := xs.length = ps.length ∧ ∀ (j : Nat) (q : Pl), ps[j]? = some q → ∃ a, xs[j]? = some (.ref a) ∧ H a = some (.tup [.int (q.1 : Nat), .int (q.2 : Nat)])
theorem PlsAt.same {H H' : Hp} {xs : List V} {ps : List Pl} (h : PlsAt H xs ps) (s : Same H H') : PlsAt H' xs ps :=
  ⟨h.1, fun j q e => let ⟨a, e1, e2⟩ := h.2 j q e; ⟨a, e1, s _ _ e2⟩⟩
/-- all tuples stay -/
def TupK (H H' : Hp) : Prop := ∀ b xs, H b = some (.tup xs) → H' b = some (.tup xs)
theorem TupK.of {H H' : Hp} (s : Same H H') : TupK H H' := fun b xs e => s b _ e
theorem TupK.trans {H H1 H2 : Hp} (a : TupK H H1) (b : TupK H1 H2) : TupK H H2 := fun c xs e => b c xs (a c xs e)
theorem TupK.lst {H : Hp} {p : Addr} {xs : List V} {o : HO} (h : H p = some (.lst xs)) : TupK H (upd H p o) := fun b ys e => by
  rw [upd_ne (ne_of e h (fun z => nomatch z))]
  exact e
theorem PlsAt.tk {H H' : Hp} {xs : List V} {ps : List Pl} (h : PlsAt H xs ps) (s : TupK H H') : PlsAt H' xs ps :=
  ⟨h.1, fun j q e => let ⟨a, e1, e2⟩ := h.2 j q e; ⟨a, e1, s _ _ e2⟩⟩
theorem PlsAt.nil {H : Hp} : PlsAt H [] [] := ⟨rfl, fun j q e => by simp at e⟩
theorem PlsAt.snoc {H : Hp} {xs : List V} {ps : List Pl} {a : Addr} {q : Pl} (h : PlsAt H xs ps) (ha : H a = some (.tup [.int (q.1 : Nat), .int (q.2 : Nat)])) : PlsAt H (xs ++ [.ref a]) (ps ++ [q]) := by
  refine ⟨by simp [h.1], fun j p e => ?_⟩
  rcases Nat.lt_trichotomy j ps.length with k | k | k
  · rw [List.getElem?_append_left k] at e
    obtain ⟨b, e1, e2⟩ := h.2 j p e
    exact ⟨b, by rw [List.getElem?_append_left (by rw [h.1]; exact k)]; exact e1, e2⟩
  · subst k
    have : q = p := by simpa using e
    subst this
    refine ⟨a, ?_, ha⟩
    rw [← h.1]
    simp
  · rw [List.getElem?_eq_none (by simp; omega)] at e
    cases e
theorem PlsAt.append {H : Hp} {xs ys : List V} {ps qs : List Pl} (h : PlsAt H xs ps) (k : PlsAt H ys qs) : PlsAt H (xs ++ ys) (ps ++ qs) := by
  refine ⟨by simp [h.1, k.1], fun j p e => ?_⟩
  rcases Nat.lt_or_ge j ps.length with l | l
  · rw [List.getElem?_append_left l] at e
    obtain ⟨b, e1, e2⟩ := h.2 j p e
    exact ⟨b, by rw [List.getElem?_append_left (by rw [h.1]; exact l)]; exact e1, e2⟩
  · rw [List.getElem?_append_right l] at e
    obtain ⟨b, e1, e2⟩ := k.2 _ p e
    exact ⟨b, by rw [List.getElem?_append_right (by rw [h.1]; exact l), h.1]; exact e1, e2⟩
/-- the texts -/
abbrev txV (ts : List T) : List V := ts.map fun t => V.str (tx t)
/-- the Library of the texts stands at L -/
def LibAt (C : Addr) (H : Hp) (L : Addr) (ts : List T) : Prop := ∃ dx a, H L = some (.ins C dx [("texts", .ref a)]) ∧ H a = some (.tup (txV ts))
theorem LibAt.same {C : Addr} {H H' : Hp} {L : Addr} {ts : List T} (h : LibAt C H L ts) (s : Same H H') : LibAt C H' L ts :=
  let ⟨dx, a, e1, e2⟩ := h; ⟨dx, a, s _ _ e1, s _ _ e2⟩
/-- texts as the law draws them: at most three, of at most 24 signs each -/
def Tok3 (ts : List T) : Prop := ts.length ≤ 3 ∧ (∀ t ∈ ts, t.length ≤ 24) ∧ ∀ t ∈ ts, ∀ c ∈ t, 32 ≤ c ∧ c ≤ 126

/-! ### what the names hold -/
structure Nm (mg : Str → Option Value) : Prop where
  isinstance : mg "isinstance" = none
  int : mg "int" = none
  bool : mg "bool" = none
  tuple : mg "tuple" = none
  len : mg "len" = none
  str : mg "str" = none
  all : mg "all" = none
  any : mg "any" = none
  enumerate : mg "enumerate" = none
  sum : mg "sum" = none
  range : mg "range" = none
  sorted : mg "sorted" = none
  max : mg "max" = none
  min : mg "min" = none
  zip : mg "zip" = none
  set : mg "set" = none
  abs : mg "abs" = none
  repr : mg "repr" = none
  mostSigns : ∃ t, mg "MOST_SIGNS" = some (.int 2000 t)
  firstSign : ∃ t, mg "FIRST_SIGN" = some (.str " " t)
  lastSign : ∃ t, mg "LAST_SIGN" = some (.str "~" t)
  mostTexts : ∃ t, mg "MOST_TEXTS" = some (.int 8 t)
  sign : ∃ t, mg "SIGN" = some (.str "sign" t)
  any_ : ∃ t, mg "ANY" = some (.str "any" t)
  lot : ∃ t, mg "LOT" = some (.str "lot" t)
  gap : ∃ t, mg "GAP" = some (.str "gap" t)
  mostParts : ∃ t, mg "MOST_PARTS" = some (.int 30 t)
  mostOfLot : ∃ t, mg "MOST_OF_LOT" = some (.int 20 t)
  mostGap : ∃ t, mg "MOST_GAP" = some (.int 20 t)

/-- a def of the top that keeps a promise -/
structure Cl (P : Program) (w : World) (K : PySem.W.Frag) (mg : Str → Option Value) (base : Heap) (k : Nat) (x : Str) (ps : List Str) (sp : Sp) : Prop where
  ex : ∃ f fd, FnOk P w K mg base CX0 k f fd ps sp ∧ mg x = some (.ref f) ∧ PySem.W.keepIn K (.ref f) = true ∧ Binds K fd ps []
/-- the def st, as it stands behind the top -/
structure Df (K : PySem.W.Frag) (mg : Str → Option Value) (x : Str) (ps : List Str) (st : Stmt) : Prop where
  ex : ∃ f fd, Fun K x x st f fd ∧ mg x = some (.ref f) ∧ Binds K fd ps []
theorem Df.cl {P : Program} {w : World} {K : PySem.W.Frag} {mg : Str → Option Value} {base : Heap} {k : Nat} {x : Str} {ps : List Str} {st : Stmt} {sp : Sp} (D : Df K mg x ps st)
    (h : ∀ (f : Addr) (fd : FuncData), Fun K x x st f fd → FnOk P w K mg base CX0 k f fd ps sp) : Cl P w K mg base k x ps sp :=
  let ⟨f, fd, F, m, b⟩ := D.ex
  ⟨f, fd, h f fd F, m, F.kp, b⟩
section
variable {X : Cx} {k : Nat} {ps : List Str} {sp : Sp} {x : Str} {p pos : Pos} {e : Expr} {es : List Expr} {t : TA}
/-- a call of such a def -/
theorem pe_c (C : Cl X.prog X.w X.K X.mg X.base k x ps sp) (hr : Room k X.A) (hg : Gl X x) (ha : PA X (e :: es) t) (hdb : (x == ("__debug__" : Str)) = false := by decide)
    (he : starEach (e :: es) X.env = (false, eval e X.env) :: starEach es X.env := by rfl) (hpl : (backTo pos (starEach es X.env)).any (·.1) = false := by rfl) : PE X (.Call (.Name x p) (e :: es) [] pos) (tCall sp [] E0 t) := by
  obtain ⟨f, fd, F, m, kp, b⟩ := C.ex
  exact pe_call F hr hg m kp b .nil pass0 ha hdb he hpl
/-- what is never asked -/
theorem pe_never {e : Expr} : PE X e (fun _ _ _ => False) := ⟨fun _ _ _ _ _ _ h => h.elim⟩
theorem pt_never {e : Expr} : PT X e (fun _ _ _ => False) := ⟨fun _ _ _ _ _ _ h => h.elim⟩
/-- a module's constants -/
theorem pe_gi {i : Int} (hg : Gl X x) (h : ∃ t, X.mg x = some (.int i t)) (hd : (x == ("__debug__" : Str)) = false := by decide) : PE X (.Name x pos) (tC (.int i)) := by
  obtain ⟨t, h⟩ := h
  exact pe_glob hg h ⟨t, rfl⟩ hd
theorem pe_gs {z : Str} (hg : Gl X x) (h : ∃ t, X.mg x = some (.str z t)) (hd : (x == ("__debug__" : Str)) = false := by decide) : PE X (.Name x pos) (tC (.str z)) := by
  obtain ⟨t, h⟩ := h
  exact pe_glob hg h ⟨t, rfl⟩ hd
end
end Ep

namespace Ep
open PySem PySem.Spec PyProof.Rows L2
open EP (T Pl endOf placesOf ordr rowsOf)
section
variable {P : Program} {w : World} {K : PySem.W.Frag} {mg : Str → Option Value} {base : Heap}
/-! ### is_sized -/
def spSized : Sp := fun vs H Q _ => ∃ (a : Addr) (xs : List V) (lo hi : Int), vs = [.ref a, .int lo, .int hi] ∧ H a = some (.tup xs) ∧ lo ≤ (xs.length : Int) ∧ (xs.length : Int) ≤ hi ∧ Q (.bl true) H
theorem sc_sized : FnScope ["thing", "least", "most"] ["thing", "least", "most"] (defScope (topS 11)) := ⟨rfl, rfl, rfl, by decide +kernel, rfl, by decide +kernel, by decide +kernel⟩
theorem ok_sized (M : Nm mg) {f : Addr} {fd : FuncData} (F : Fun K "is_sized" "is_sized" (topS 11) f fd) : FnOk P w K mg base CX0 1 f fd ["thing", "least", "most"] spSized := by
  refine F.ok sc_sized (fun vs H Q E h => ?_) (fun cdv A outer s H vs Q E hr h => ?_)
  · obtain ⟨a, xs, lo, hi, rfl, _⟩ := h
    rfl
  · obtain ⟨a, xs, lo, hi, rfl, h1, h2, h3, q⟩ := h
    refine ⟨_, pss_one (ps_ret (pe_and (pe_callB RZ.call_isTy (by rfl) M.isinstance bt_isinstance (pa_cons (pv 0) (pa_cons (pe_bltn (v := .ty "tuple") (by rfl) M.tuple bt_tuple rfl) pa_nil)))
      (pe_one (pe_chain op_le op_le (pv 1) (pe_callB call_len_seq (by rfl) M.len PySem.boot_len (pa_cons (pv 0) pa_nil)) (pv 2))))), ?_⟩
    refine ⟨_, rfl, _, _, rfl, .tup h1, _, rfl, iteT ?_⟩
    refine ⟨_, rfl, _, rfl, a, xs, rfl, .inr (.inl (.inl h1)), _, _, rfl, rfl, _, rfl, ?_⟩
    rw [decide_eq_true h2]
    refine iteT ⟨_, rfl, _, _, rfl, rfl, ?_⟩
    show Q (.bl (decide ((xs.length : Int) ≤ hi))) H
    rw [decide_eq_true h3]
    exact q
/-! ### are_signs -/
def spSigns : Sp := fun vs H Q _ => ∃ l : T, vs = [.str (tx l)] ∧ (∀ c ∈ l, 32 ≤ c ∧ c ≤ 126) ∧ l.length ≤ 1000 ∧ ∀ H', Same H H' → Q (.bl true) H'
theorem sc_signs : FnScope ["thing", "sign"] ["thing"] (defScope (topS 12)) := ⟨rfl, rfl, rfl, by decide +kernel, rfl, by decide +kernel, by decide +kernel⟩
theorem ok_signs (M : Nm mg) {f : Addr} {fd : FuncData} (F : Fun K "are_signs" "are_signs" (topS 12) f fd) : FnOk P w K mg base CX0 1 f fd ["thing"] spSigns := by
  refine F.ok sc_signs (fun vs H Q E h => ?_) (fun cdv A outer s H vs Q E hr h => ?_)
  · obtain ⟨l, rfl, _⟩ := h
    rfl
  · obtain ⟨l, rfl, h1, h2, q⟩ := h
    refine ⟨_, pss_one (ps_ret (pe_and (pe_callB RZ.call_isTy (by rfl) M.isinstance bt_isinstance (pa_cons (pv 0) (pa_cons (pe_bltn (v := .ty "str") (by rfl) M.str bt_str rfl) pa_nil)))
      (pe_one (pe_callB (cr_all rfl) (by rfl) M.all bt_all (pa_cons
        (pe_lc (own := [("sign", 1)]) (g := gName 1) (tt := tYes) rfl sc_signs.nd (pi_str (pv 0)) (blkOk_by (own := [("sign", 1)]) (N := ["thing", "sign"]) (sc := defScope (topS 12)) (by decide +kernel)) (fun _ _ _ _ _ => pg_name (i := 1) sc_signs.nd rfl (Or.inl rfl)) (fun _ _ _ _ _ => pts_nil)
          (fun _ _ _ _ _ => pe_chain op_le_str op_le_str (pe_gs (by rfl) M.firstSign) (pv 1) (pe_gs (by rfl) M.lastSign))) pa_nil))))), ?_⟩
    refine ⟨_, rfl, _, _, rfl, .str _, _, rfl, iteT ?_⟩
    refine ⟨_, rfl, _, rfl, fun D hD => ?_⟩
    refine lc_it (walk_str (z := tx l)) (fun i H' => Same H H' ∧ H' D = some (.lst (List.replicate i (.bl true)))) ⟨same_new hD, upd_same⟩ (fun _ _ _ _ => trivial) (fun i x H1 H2 hi hP hy => ?_) (fun H' hP => ?_)
    · obtain ⟨hs, hd⟩ := hP
      obtain ⟨rfl, c, hc, rfl⟩ := hy
      have hm : c ∈ l := by
        have : (tx l).cps.toList[i]? = some c := by simpa using hc
        exact List.mem_of_getElem? this
      obtain ⟨c1, c2⟩ := h1 c hm
      have e1 : (!decide (((⟨#[c]⟩ : Str)).cps.toList < ((" " : Str)).cps.toList)) = true := by
        have z : ¬ ([c] : List Nat) < [32] := fun z => by
          rcases List.cons_lt_cons_iff.mp z with k | ⟨_, k⟩
          · omega
          · exact List.not_lt_nil _ k
        show (!decide (([c] : List Nat) < [32])) = true
        rw [decide_eq_false z]
        rfl
      have e2 : (!decide ((("~" : Str)).cps.toList < ((⟨#[c]⟩ : Str)).cps.toList)) = true := by
        have z : ¬ ([126] : List Nat) < [c] := fun z => by
          rcases List.cons_lt_cons_iff.mp z with k | ⟨_, k⟩
          · omega
          · exact List.not_lt_nil _ k
        show (!decide (([126] : List Nat) < [c])) = true
        rw [decide_eq_false z]
        rfl
      refine ⟨rfl, ?_⟩
      refine ⟨_, rfl, _, _, rfl, rfl, _, rfl, ?_⟩
      rw [e1]
      refine iteT ⟨_, _, rfl, rfl, ?_⟩
      refine ⟨_, hd, by rw [List.length_replicate]; exact Nat.lt_of_lt_of_le hi (by have : (tx l).cps.size = l.length := tx_len l; have := small1000 h2; omega), same_at hD hs, ?_⟩
      rw [upd_same, e2, List.replicate_succ']
    · obtain ⟨hs, hd⟩ := hP
      have e : (List.replicate (tx l).cps.size (V.bl true)) = (List.replicate l.length true).map V.bl := by rw [List.map_replicate]; exact congrArg (fun n => List.replicate n (V.bl true)) (tx_len l)
      rw [e] at hd
      refine ⟨D, _, rfl, .inl (.inl hd), ?_⟩
      show Q (.bl ((List.replicate l.length true).all id)) H'
      have e2 : (List.replicate l.length true).all id = true := List.all_eq_true.mpr fun x hx => by rw [List.eq_of_mem_replicate hx]; rfl
      rw [e2]
      exact q H' hs
/-! ### first_wrong -/
theorem txV_get {ts : List T} {i : Nat} {y : V} (h : (txV ts)[i]? = some y) : ∃ t, ts[i]? = some t ∧ y = .str (tx t) := by
  rw [List.getElem?_map] at h
  cases e : ts[i]? with
  | none => rw [e] at h; cases h
  | some t =>
    rw [e] at h
    exact ⟨t, rfl, (Option.some.inj h).symm⟩
theorem sum_le {ts : List T} {m : Nat} (h : ∀ t ∈ ts, t.length ≤ m) : (ts.map fun t => (t.length : Int)).sum ≤ (ts.length : Int) * (m : Int) := by
  induction ts with
  | nil => simp
  | cons t ts ih =>
    have a := ih fun x hx => h x (List.mem_cons_of_mem _ hx)
    have b := h t List.mem_cons_self
    rw [List.map_cons, List.sum_cons, List.length_cons]
    have : ((ts.length + 1 : Nat) : Int) * (m : Int) = (ts.length : Int) * (m : Int) + (m : Int) := by
      rw [Int.natCast_add, Int.add_mul]
      simp
    omega
def spWrong : Sp := fun vs H Q _ => ∃ (a : Addr) (ts : List T), vs = [.ref a] ∧ H a = some (.tup (txV ts)) ∧ Tok3 ts ∧ ∀ H', Same H H' → Q .non H'
theorem sc_wrong : FnScope ["thing", "number", "text"] ["thing"] (defScope (topS 15)) := ⟨rfl, rfl, rfl, by decide +kernel, rfl, by decide +kernel, by decide +kernel⟩
theorem ok_wrong (M : Nm mg) (C1 : Cl P w K mg base 1 "is_sized" ["thing", "least", "most"] spSized) (C2 : Cl P w K mg base 1 "are_signs" ["thing"] spSigns) {f : Addr} {fd : FuncData} (F : Fun K "first_wrong" "first_wrong" (topS 15) f fd) :
    FnOk P w K mg base CX0 2 f fd ["thing"] spWrong := by
  refine F.ok sc_wrong (fun vs H Q E h => ?_) (fun cdv A outer s H vs Q E hr h => ?_)
  · obtain ⟨a, ts, rfl, _⟩ := h
    rfl
  · obtain ⟨a, ts, rfl, ha, ht, q⟩ := h
    refine ⟨_, pss_cons (ps_if (pt_not (pt_val (pe_c C1 hr (by rfl) (pa_cons (pv 0) (pa_cons pe_int (pa_cons (pe_gi (by rfl) M.mostTexts) pa_nil)))))) pss_never pss_nil)
      (pss_cons (ps_for PassesOwn.never rfl (pi_enumS (by rfl) M.enumerate (pa_cons (pv 0) pa_nil)) (pg_tup rfl (pgs_cons (pg_name (i := 1) sc_wrong.nd rfl (.inl rfl)) (pgs_cons (pg_name (i := 2) sc_wrong.nd rfl (.inl rfl)) pgs_nil)))
        (pss_one (ps_if (pt_not (pt_val (pe_c C2 hr (by rfl) (pa_cons (pv 2) pa_nil)))) pss_never pss_nil)))
      (pss_one (ps_ret (pe_ifExp (pt_cmpR op_gt (pe_callB (cr_sum rfl) (by rfl) M.sum bt_sum (pa_cons
        (pe_lc (own := [("text", 2)]) (g := gName 2) (tt := tYes) rfl sc_wrong.nd (pi_tup (pv 0)) (blkOk_by (own := [("text", 2)]) (N := ["thing", "number", "text"]) (sc := defScope (topS 15)) (by decide +kernel)) (fun _ _ _ _ _ => pg_name (i := 2) sc_wrong.nd rfl (Or.inl rfl)) (fun _ _ _ _ _ => pts_nil)
          (fun _ _ _ _ _ => pe_callB call_len_str (by rfl) M.len PySem.boot_len (pa_cons (pv 2) pa_nil))) pa_nil)) (pe_gi (by rfl) M.mostSigns) (nomark _)) pe_never pe_non)))), ?_⟩
    have l3 := ht.1
    refine ⟨_, rfl, a, _, 0, 8, rfl, ha, by omega, by rw [List.length_map]; omega, _, rfl, iteF ?_⟩
    refine ⟨_, rfl, _, _, rfl, .tup ha, ?_⟩
    refine for_it walk_enumS (fun i σ H' => ∃ y1 y2, σ = [some (.ref a), y1, y2] ∧ Same H H') ⟨none, none, rfl, Same.refl H⟩ (fun i σ H' _ hP => ?_) (fun i x σ H1 H2 hi hP hy => ?_) (fun σ H' hP => ?_)
    · obtain ⟨_, _, _, sm⟩ := hP
      exact .tup (sm _ _ ha)
    · obtain ⟨y1, y2, rfl, sm⟩ := hP
      obtain ⟨Tp, x1, x2, rfl, nT, rfl, f1, f2⟩ := hy
      obtain ⟨t, ht1, rfl⟩ := txV_get f2
      have htm := List.mem_of_getElem? ht1
      refine ⟨Tp, [x1, _], rfl, .inl (.inl upd_same), rfl, x1, [_], rfl, _, [], rfl, rfl, ?_⟩
      refine ⟨_, rfl, t, rfl, ht.2.2 t htm, by have := ht.2.1 t htm; omega, fun H3 sm3 => ⟨_, rfl, iteF ?_⟩⟩
      exact ⟨_, _, rfl, (sm.trans (same_new nT)).trans sm3⟩
    · obtain ⟨y1, y2, rfl, sm⟩ := hP
      refine ⟨_, rfl, a, rfl, ⟨_, .inl (.inl (sm _ _ ha))⟩, fun D hD => ?_⟩
      refine lc_it (walk_tup (K := K) (a := a) (xs := txV ts)) (fun i H2 => Same H H2 ∧ H2 D = some (.lst ((ts.take i).map fun t => V.int (t.length : Int)))) ⟨sm.trans (same_new hD), upd_same⟩ (fun i H2 _ hP => .inl (.inl (hP.1 _ _ ha))) (fun i x H1 H2 hi hP hy => ?_) (fun H2 hP => ?_)
      · obtain ⟨sm2, hd⟩ := hP
        obtain ⟨rfl, hx⟩ := hy
        obtain ⟨t, ht1, rfl⟩ := txV_get hx
        have htm := List.mem_of_getElem? ht1
        refine ⟨rfl, _, rfl, _, rfl, by rw [tx_len]; exact Nat.le_of_lt (small1000 (by have := ht.2.1 t htm; omega)), _, hd, ?_, same_at (sm.free hD) sm2, ?_⟩
        · rw [List.length_map, List.length_take]
          exact small1000 (by omega)
        · rw [upd_same, List.take_add_one, ht1, List.map_append, tx_len]
          rfl
      · obtain ⟨sm2, hd⟩ := hP
        have e : (ts.take (txV ts).length).map (fun t => V.int (t.length : Int)) = (ts.map fun t => (t.length : Int)).map V.int := by
          rw [List.take_of_length_le (by rw [List.length_map]; exact Nat.le_refl _), List.map_map]
          rfl
        rw [e] at hd
        have b := sum_le ht.2.1
        refine ⟨D, _, rfl, .inl (.inl hd), _, _, rfl, rfl, _, rfl, ?_⟩
        rw [decide_eq_false (by omega)]
        exact iteF (q H2 sm2)
end
end Ep

namespace Ep
open PySem PySem.Spec PyProof.Rows L2
open EP (T Pl endOf placesOf ordr rowsOf)
section
variable {P : Program} {w : World} {K : PySem.W.Frag} {mg : Str → Option Value} {base : Heap}
/-! ### Library.__init__ -/
def spInit (C : Addr) : Sp := fun vs H Q _ => ∃ (p dx a : Addr) (ts : List T), vs = [.ref p, .ref a] ∧ H p = some (.ins C dx []) ∧ H a = some (.tup (txV ts)) ∧ Tok3 ts ∧
  ∀ H' : Hp, (∀ b o, b ≠ p → H b = some o → H' b = some o) → H' p = some (.ins C dx [("texts", .ref a)]) → Q .non H'
theorem sc_init : FnScope ["self", "texts", "part"] ["self", "texts"] (defScope (inClass (topS 16) 0)) := ⟨rfl, rfl, rfl, by decide +kernel, rfl, by decide +kernel, by decide +kernel⟩
theorem ok_init {C : Addr} (cl : Cls K C) (nT : NoAttr K C "texts") (C1 : Cl P w K mg base 2 "first_wrong" ["thing"] spWrong) {f : Addr} {fd : FuncData} (F : Fun K "__init__" "Library.__init__" (inClass (topS 16) 0) f fd) :
    FnOk P w K mg base CX0 3 f fd ["self", "texts"] (spInit C) := by
  refine F.ok sc_init (fun vs H Q E h => ?_) (fun cdv A outer s H vs Q E hr h => ?_)
  · obtain ⟨p, dx, a, ts, rfl, _⟩ := h
    rfl
  · obtain ⟨p, dx, a, ts, rfl, hp, ha, ht, q⟩ := h
    refine ⟨_, pss_cons (ps_set (i := 2) sc_init.nd rfl (.inl rfl) (pe_c C1 hr (by rfl) (pa_cons (pv 1) pa_nil)))
      (pss_cons (ps_if (pt_cmp (pc_notN (pv 2))) pss_never pss_nil) (pss_one (ps_fld (pv 0) (pv 1) rfl))), ?_⟩
    refine ⟨_, rfl, a, ts, rfl, ha, ht, fun H1 sm => ?_⟩
    refine ⟨_, rfl, _, rfl, iteF ?_⟩
    refine ⟨_, rfl, _, rfl, p, C, dx, [], rfl, sm _ _ hp, cl, nT, (by show 0 < 1000; decide), ?_⟩
    refine q _ (fun b o hb e => ?_) upd_same
    rw [upd_ne hb]
    exact sm _ _ e
/-! ### ending_at -/
def spEnding (K : PySem.W.Frag) (C : Addr) : Sp := fun vs H Q _ => ∃ (L a : Addr) (ts : List T) (n k : Nat), vs = [.ref L, .ref a] ∧ LibAt C H L ts ∧ Tok3 ts ∧ SqT K H a [.int (n : Nat), .int (k : Nat)] ∧ n < ts.length ∧ Q (.str (tx (endOf ts (n, k)))) H
theorem sc_ending : FnScope ["library", "place"] ["library", "place"] (defScope (topS 18)) := ⟨rfl, rfl, rfl, by decide +kernel, rfl, by decide +kernel, by decide +kernel⟩
theorem ok_ending {C : Addr} (cl : Cls K C) (nT : NoAttr K C "texts") {f : Addr} {fd : FuncData} (F : Fun K "ending_at" "ending_at" (topS 18) f fd) : FnOk P w K mg base CX0 1 f fd ["library", "place"] (spEnding K C) := by
  refine F.ok sc_ending (fun vs H Q E h => ?_) (fun cdv A outer s H vs Q E hr h => ?_)
  · obtain ⟨L, a, ts, n, k, rfl, _⟩ := h
    rfl
  · obtain ⟨L, a, ts, n, k, rfl, ⟨dx, b, hL, hb⟩, ht, ha, hn, q⟩ := h
    refine ⟨_, pss_one (ps_ret (pe_slice sl_str (pe_ix ix_tup (pe_fld (pv 0) rfl) (pe_ix ix_tup (pv 1) pe_int (fun _ _ => rfl)) (fun _ _ => rfl)) (po_some (pe_ix ix_tup (pv 1) pe_int (fun _ _ => rfl))) po_none)), ?_⟩
    have e : (txV ts)[n]? = some (.str (tx ts[n])) := by rw [List.getElem?_map, List.getElem?_eq_getElem hn]; rfl
    refine ⟨_, rfl, L, C, dx, _, _, rfl, hL, cl, nT, rfl, _, rfl, a, _, 0, _, rfl, rfl, ha, atI_nat (j := 0) rfl, b, _, _, _, rfl, rfl, .inl (.inl hb), atI_nat e, ?_⟩
    refine ⟨_, rfl, a, _, 1, _, rfl, rfl, ha, atI_nat (j := 1) rfl, (k : Nat), rfl, tx ts[n], rfl, ?_, ?_⟩
    · rw [tx_len]
      exact Nat.le_of_lt (small1000 (by have := ht.2.1 _ (List.getElem_mem hn); omega))
    · rw [cut_from]
      have e2 : endOf ts (n, k) = ts[n].drop k := by
        show (ts.getD n []).drop k = _
        rw [List.getD, List.getElem?_eq_getElem hn]
        rfl
      rw [← e2]
      exact q
/-! ### all_places -/
def spPlaces (C : Addr) : Sp := fun vs H Q _ => ∃ (L : Addr) (ts : List T), vs = [.ref L] ∧ LibAt C H L ts ∧ Tok3 ts ∧ ∀ (H' : Hp) (p : Addr) (xs : List V), Same H H' → H p = none → H' p = some (.lst xs) → PlsAt H' xs (placesOf ts) → Q (.ref p) H'
theorem sc_places : FnScope ["library", "found", "number", "text", "at"] ["library"] (defScope (topS 17)) := ⟨rfl, rfl, rfl, by decide +kernel, rfl, by decide +kernel, by decide +kernel⟩
/-- the places of the first i texts -/
def placesTo (ts : List T) (i : Nat) : List Pl := (List.range i).flatMap fun n => (List.range (ts.getD n []).length).map fun a => (n, a)
theorem placesTo_succ (ts : List T) (i : Nat) : placesTo ts (i + 1) = placesTo ts i ++ (List.range (ts.getD i []).length).map fun a => (i, a) := by
  unfold placesTo
  rw [List.range_succ, List.flatMap_append]
  simp
theorem placesTo_len {ts : List T} (h : ∀ t ∈ ts, t.length ≤ 24) : ∀ i, (placesTo ts i).length ≤ 24 * i
  | 0 => Nat.le_refl _
  | i + 1 => by
    rw [placesTo_succ, List.length_append, List.length_map, List.length_range]
    have a := placesTo_len h i
    have b : (ts.getD i []).length ≤ 24 := by
      rw [List.getD]
      cases e : ts[i]? with
      | none => exact Nat.zero_le _
      | some t => exact h t (List.mem_of_getElem? e)
    omega
theorem ok_places (M : Nm mg) {C : Addr} (cl : Cls K C) (nT : NoAttr K C "texts") {f : Addr} {fd : FuncData} (F : Fun K "all_places" "all_places" (topS 17) f fd) : FnOk P w K mg base CX0 1 f fd ["library"] (spPlaces C) := by
  refine F.ok sc_places (fun vs H Q E h => ?_) (fun cdv A outer s H vs Q E hr h => ?_)
  · obtain ⟨L, ts, rfl, _⟩ := h
    rfl
  · obtain ⟨L, ts, rfl, ⟨dx, a, hL, ha⟩, ht, q⟩ := h
    refine ⟨_, pss_cons (ps_set (i := 1) sc_places.nd rfl (.inl rfl) (pe_lst pa_nil))
      (pss_cons (ps_for PassesOwn.never rfl (pi_enumS (by rfl) M.enumerate (pa_cons (pe_fld (pv 0) rfl) pa_nil)) (pg_tup rfl (pgs_cons (pg_name (i := 2) sc_places.nd rfl (.inr rfl)) (pgs_cons (pg_name (i := 3) sc_places.nd rfl (.inl rfl)) pgs_nil)))
        (pss_one (ps_expr (pe_bm PySem.F.plainAttrs_list PySem.F.slot_list_extend PySem.F.type_list_extend mt_extend (pv 1) (pa_cons
          (pe_lc (own := [("at", 4)]) (g := gName 4) (tt := tYes) rfl sc_places.nd (pi_range1 (by rfl) M.range (pa_cons (pe_callB call_len_str (by rfl) M.len PySem.boot_len (pa_cons (pv 3) pa_nil)) pa_nil))
            (blkOk_by (own := [("at", 4)]) (N := ["library", "found", "number", "text", "at"]) (sc := defScope (topS 17)) (by decide +kernel)) (fun _ _ _ _ _ => pg_name (i := 4) sc_places.nd rfl (Or.inl rfl)) (fun _ _ _ _ _ => pts_nil)
            (fun _ _ _ _ _ => pe_tup (pa_cons (pv 2) (pa_cons (pv 4) pa_nil)))) pa_nil)))))
      (pss_one (ps_ret (pv 1)))), ?_⟩
    refine ⟨Nat.zero_le _, fun p hp => ?_⟩
    have s1 : Same H (upd H p (.lst [])) := same_new hp
    refine ⟨_, rfl, L, C, dx, _, _, rfl, s1 _ _ hL, cl, nT, rfl, _, _, rfl, .tup (s1 _ _ ha), ?_⟩
    refine for_it walk_enumS (fun i σ H' => ∃ y2 y3 y4 xs, σ = [some (.ref L), some (.ref p), y2, y3, y4] ∧ Same H H' ∧ H' p = some (.lst xs) ∧ PlsAt H' xs (placesTo ts i)) ⟨none, none, none, [], rfl, s1, upd_same, PlsAt.nil⟩
      (fun i σ H' _ hP => ?_) (fun i x σ H1 H2 hi hP hy => ?_) (fun σ H' hP => ?_)
    · obtain ⟨_, _, _, _, _, sm, _⟩ := hP
      exact .tup (sm _ _ ha)
    · obtain ⟨y2, y3, y4, xs, rfl, sm, hpx, pls⟩ := hP
      obtain ⟨Tp, x1, x2, rfl, nT', rfl, f1, f2⟩ := hy
      obtain ⟨t, ht1, rfl⟩ := txV_get f2
      obtain rfl : V.int (i : Nat) = x1 := Option.some.inj f1
      have htm := List.mem_of_getElem? ht1
      have hl24 := ht.2.1 t htm
      have hi3 : i < 3 := by rw [List.length_map] at hi; have := ht.1; omega
      have eg : ts.getD i [] = t := by rw [List.getD, ht1]; rfl
      refine ⟨Tp, [_, _], rfl, .inl (.inl upd_same), rfl, _, [_], rfl, _, [], rfl, rfl, ?_⟩
      have sT := same_new (o := HO.tup [V.int (i : Nat), V.str (tx t)]) nT'
      refine ⟨_, rfl, .inl ⟨rfl, _, SqL.of (sT _ _ hpx)⟩, ?_⟩
      refine ⟨_, rfl, _, rfl, by rw [tx_len]; exact Nat.le_of_lt (small1000 (by omega)), _, rfl, by rw [tx_len]; omega, by rw [tx_len]; omega, fun D hD => ?_⟩
      rw [tx_len]
      refine lc_it (walk_range (lo := 0) (n := ((t.length : Nat) : Int).toNat)) (fun j H3 => ∃ zs, Same (upd H1 Tp (.tup [V.int (i : Nat), V.str (tx t)])) H3 ∧ H3 D = some (.lst zs) ∧ PlsAt H3 zs ((List.range j).map fun a => (i, a))) ⟨[], same_new hD, upd_same, PlsAt.nil⟩
        (fun _ _ _ _ => trivial) (fun j x H3 H4 hj hP hy => ?_) (fun H3 hP => ?_)
      · obtain ⟨zs, sm3, hd, pz⟩ := hP
        obtain ⟨rfl, rfl⟩ := hy
        refine ⟨rfl, _, rfl, _, rfl, by show 2 ≤ sizeLine; decide, fun u hu => ?_⟩
        have su := same_new (o := HO.tup [V.int (i : Nat), V.int (0 + (j : Nat))]) hu
        refine ⟨zs, su _ _ hd, ?_, zs ++ [.ref u], ?_, upd_same, ?_⟩
        · rw [pz.1, List.length_map, List.length_range]
          exact small1000 (by omega)
        · exact same_at hD (sm3.trans su)
        · rw [List.range_succ, List.map_append]
          refine (pz.tk ((TupK.of su).trans (TupK.lst (su _ _ hd)))).snoc ?_
          refine TupK.lst (su _ _ hd) _ _ ?_
          rw [upd_same]
          simp
      · obtain ⟨zs, sm3, hd, pz⟩ := hP
        have hp3 := sm3 _ _ (sT _ _ hpx)
        have ej : ((t.length : Nat) : Int).toNat = t.length := rfl
        rw [ej] at pz
        refine ⟨p, D, xs, zs, rfl, rfl, hp3, hd, ?_, ?_⟩
        · have a1 := placesTo_len ht.2.1 i
          rw [pls.1, pz.1, List.length_map, List.length_range]
          exact Nat.le_of_lt (small1000 (by omega))
        · refine ⟨_, _, _, xs ++ zs, rfl, same_at hp (sm.trans (sT.trans sm3)), upd_same, ?_⟩
          rw [placesTo_succ, eg]
          exact ((pls.same (sT.trans sm3)).append pz).tk (TupK.lst hp3)
    · obtain ⟨y2, y3, y4, xs, rfl, sm, hpx, pls⟩ := hP
      refine ⟨_, rfl, q H' p xs sm hp hpx ?_⟩
      have e : (txV ts).length = ts.length := List.length_map _
      rw [e] at pls
      exact pls
end
end Ep

namespace Ep
open PySem PySem.Spec PyProof.Rows L2
open EP (T Pl endOf placesOf ordr rowsOf)
open PySem.W (EachIs)
theorem TupK.at {H : Hp} {p : Addr} {o o' : HO} (h : H p = some o) (hn : ∀ xs, o ≠ .tup xs) : TupK H (upd H p o') := fun b ys e => by
  rw [upd_ne (ne_of e h (fun z => hn _ z.symm))]
  exact e
theorem each_get {α β : Type} {R : α → β → Prop} : ∀ {as : List α} {bs : List β}, EachIs R as bs → ∀ {i : Nat} {a : α}, as[i]? = some a → ∃ b, bs[i]? = some b ∧ R a b
  | _, _, .nil, i, a, e => by simp at e
  | _, _, .cons r rs, 0, a, e => by
    have : _ = a := Option.some.inj e
    subst this
    exact ⟨_, rfl, r⟩
  | _, _, .cons r rs, i + 1, a, e => each_get rs e
theorem each_len {α β : Type} {R : α → β → Prop} {as : List α} {bs : List β} (h : EachIs R as bs) : as.length = bs.length := h.length
/-! ### sorted, of what stands for data -/
def rSortE (K : PySem.W.Frag) : List V → Hp → VK → Prop := fun xs H Q => ∃ (β : Type) (enc : β → PyData) (Ev : V → β → Prop) (a : Addr) (vs : List V) (bs : List β), xs = [.ref a] ∧ SqL K H a vs ∧ EachIs Ev vs bs ∧ (∀ v b, Ev v b → Dp K H v (enc b)) ∧
  PySem.W.AllAlike (bs.map enc) ∧ PySem.W.Sortable (bs.map enc) ∧ (∀ b, b ∈ bs → (enc b).depth ≤ 60) ∧ ∀ p ys, H p = none → EachIs Ev ys (bs.mergeSort (PySem.W.dataLe false enc)) → Q (.ref p) (upd H p (.lst ys))
theorem each_vals {β : Type} {Ev : V → β → Prop} : ∀ {bs : List β} {vs : List V} {us : List Value}, EachIs Ev vs bs → Vals vs us → EachIs (fun u b => ∃ v, RelV v u ∧ Ev v b) us bs
  | [], _, _, h, r => by
    cases h
    cases r
    exact .nil
  | d :: ds, _, _, h, r => by
    cases h with
    | cons h1 h2 =>
      cases r with
      | cons r1 r2 => exact .cons ⟨_, r1, h1⟩ (each_vals h2 r2)
theorem vals_each {β : Type} {Ev : V → β → Prop} : ∀ {bs : List β} {us : List Value}, EachIs (fun u b => ∃ v, RelV v u ∧ Ev v b) us bs → ∃ vs, Vals vs us ∧ EachIs Ev vs bs
  | [], _, h => by
    cases h
    exact ⟨[], .nil, .nil⟩
  | d :: ds, _, h => by
    cases h with
    | cons h1 h2 =>
      obtain ⟨v, r, q⟩ := h1
      obtain ⟨vs, r2, q2⟩ := vals_each h2
      exact ⟨v :: vs, .cons r r2, .cons q q2⟩
theorem cr_sortE {X : Cx} (hu : X.A.units + 64 < cLine) : CallR X (.builtin "sorted") (rSortE X.K) := by
  intro pins s σ H xs us Q I r h
  obtain ⟨β, enc, Ev, a, vs, bs, rfl, hl, hd, hdp, h1, h2, h3, q⟩ := h
  obtain ⟨u, rfl, ru⟩ := vals1 r
  obtain rfl : u = Value.ref a := ru
  obtain ⟨its, rv, pl, hz⟩ := I.list hl
  have e := each_vals hd rv
  have el := hd.length
  refine PySem.W.sorted_data (enc := enc) (bs := bs) pl.isList e (e.mono fun u d ⟨v, rv, dv⟩ => Dp.reads I (enc d) v u (hdp _ _ dv) rv) h1 h2 (by omega) (fun b hb => by have := h3 b hb; omega) fun out hlen ho => ?_
  obtain ⟨ys, ry, dy⟩ := vals_each ho
  obtain ⟨ep, he⟩ := PyProof.Rows.sortedAll_at s.heap its out.toArray
  have hn : H (s.heap.objs.size + 1) = none := I.hok.fresh (Nat.le_succ _)
  refine ⟨.ref _, upd H (s.heap.objs.size + 1) (.lst ys), I.laid (t' := s.toks) (fun _ _ => PyProof.Rows.sortedAll_old) (Nat.le_succ _) ⟨?_, out, ep, ry, he⟩, rfl, q _ _ hn dy⟩
  rw [ry.length, hlen]
  omega

/-! ### numbered -/
section
variable {κ : Type} [DecidableEq κ]
/-- the dict of the numbers of the first keys -/
structure NI (lt : κ → κ → Prop) (kvs : List (κ × V)) (dn : List κ) (f : κ → Nat) : Prop where
  val : ∀ k, valV kvs k = if k ∈ dn then some (.int (f k : Nat)) else none
  low : ∀ k, k ∈ dn → f k < kvs.length
  mono : ∀ k, k ∈ dn → ∀ k', k' ∈ dn → lt k k' → f k < f k'
  len : kvs.length ≤ dn.length
theorem NI.nil {lt : κ → κ → Prop} : NI lt ([] : List (κ × V)) [] (fun _ => 0) := ⟨fun k => by simp [valV_nil], fun k h => (List.not_mem_nil h).elim, fun k h => (List.not_mem_nil h).elim, Nat.le_refl _⟩
theorem NI.old {lt : κ → κ → Prop} {kvs : List (κ × V)} {dn : List κ} {f : κ → Nat} (N : NI lt kvs dn f) {k : κ} (h : k ∈ dn) : NI lt kvs (dn ++ [k]) f := by
  have e : ∀ x, x ∈ dn ++ [k] ↔ x ∈ dn := fun x => by
    rw [List.mem_append, List.mem_singleton]
    exact ⟨fun z => z.elim id fun z => z ▸ h, .inl⟩
  refine ⟨fun x => ?_, fun x hx => N.low x ((e x).mp hx), fun x hx y hy => N.mono x ((e x).mp hx) y ((e y).mp hy), by have := N.len; rw [List.length_append]; omega⟩
  rw [N.val x]
  by_cases m : x ∈ dn
  · rw [if_pos m, if_pos ((e x).mpr m)]
  · rw [if_neg m, if_neg (fun z => m ((e x).mp z))]
theorem NI.new {lt : κ → κ → Prop} {kvs : List (κ × V)} {dn : List κ} {f : κ → Nat} (N : NI lt kvs dn f) {k : κ} (h : k ∉ dn) (hl : ∀ d, d ∈ dn → ¬ lt k d) (hi : ¬ lt k k) : NI lt (putK kvs k (.int (kvs.length : Nat))) (dn ++ [k]) (fun x => if x = k then kvs.length else f x) := by
  have hv : valV kvs k = none := by rw [N.val k, if_neg h]
  have el : (putK kvs k (.int (kvs.length : Nat))).length = kvs.length + 1 := by rw [putK_new _ hv]; simp
  have e : ∀ x, x ∈ dn ++ [k] ↔ x ∈ dn ∨ x = k := fun x => by rw [List.mem_append, List.mem_singleton]
  refine ⟨fun x => ?_, fun x hx => ?_, fun x hx y hy l => ?_, ?_⟩
  · rw [valV_put]
    by_cases m : x = k
    · rw [if_pos m, if_pos ((e x).mpr (.inr m)), if_pos m]
    · rw [if_neg m, N.val x, if_neg m]
      by_cases m2 : x ∈ dn
      · rw [if_pos m2, if_pos ((e x).mpr (.inl m2))]
      · rw [if_neg m2, if_neg fun z => ((e x).mp z).elim m2 m]
  · rw [el]
    by_cases m : x = k
    · rw [if_pos m]; omega
    · rw [if_neg m]
      have := N.low x (((e x).mp hx).resolve_right m)
      omega
  · by_cases m : x = k
    · subst m
      rcases (e y).mp hy with z | z
      · exact (hl y z l).elim
      · subst z
        exact (hi l).elim
    · have hx' := ((e x).mp hx).resolve_right m
      show (if x = k then kvs.length else f x) < (if y = k then kvs.length else f y)
      rw [if_neg m]
      by_cases m2 : y = k
      · rw [if_pos m2]
        exact N.low x hx'
      · rw [if_neg m2]
        exact N.mono x hx' y (((e y).mp hy).resolve_right m2) l
  · rw [el, List.length_append]
    have := N.len
    simp
    omega
/-- keys of a kind: how they stand, and how they are ordered -/
structure KOf (dO : List (κ × V) → HO) (IsK : Hp → V → κ → Prop) (enc : κ → PyData) (lt : κ → κ → Prop) : Prop where
  dO_ne : ∀ kvs xs, dO kvs ≠ .tup xs
  get : ∀ {H : Hp} {a : Addr} {v : V} {k : κ} {kvs : List (κ × V)}, H a = some (dO kvs) → IsK H v k → DGet H a v (valV kvs k)
  put : ∀ {H : Hp} {a : Addr} {v x : V} {k : κ} {kvs : List (κ × V)}, H a = some (dO kvs) → IsK H v k → kvs.length < sizeLine → DPut H a v x (upd H a (dO (putK kvs k x)))
  keep : ∀ {H H' : Hp} {v : V} {k : κ}, TupK H H' → IsK H v k → IsK H' v k
  dp : ∀ {K : PySem.W.Frag} {H : Hp} {v : V} {k : κ}, IsK H v k → Dp K H v (enc k)
  le : ∀ a b, PySem.W.dataLe false enc a b = true → ¬ lt b a
  tr : ∀ a b c, PySem.W.dataLe false enc a b = true → PySem.W.dataLe false enc b c = true → PySem.W.dataLe false enc a c = true
  to : ∀ a b, (PySem.W.dataLe false enc a b || PySem.W.dataLe false enc b a) = true
  irr : ∀ a, ¬ lt a a
  al : ∀ a b, PySem.W.alike (enc a) (enc b) = true
  so : ∀ ks : List κ, PySem.W.Sortable (ks.map enc)
  dep : ∀ a, (enc a).depth ≤ 60
def spNum (IsK : Hp → V → κ → Prop) (lt : κ → κ → Prop) : Sp := fun vs H Q _ => ∃ (a : Addr) (xs : List V) (ks : List κ), vs = [.ref a] ∧ H a = some (.lst xs) ∧ EachIs (IsK H) xs ks ∧ ks.length ≤ 100 ∧
  ∀ (H' : Hp) (p : Addr) (f : κ → Nat), Same H H' → H p = none → H' p = some (.lst (ks.map fun k => V.int (f k : Nat))) → (∀ k, k ∈ ks → ∀ k', k' ∈ ks → lt k k' → f k < f k') → Q (.ref p) H'
theorem sc_num : FnScope ["keys", "numbers", "key"] ["keys"] (defScope (topS 20)) := ⟨rfl, rfl, rfl, by decide +kernel, rfl, by decide +kernel, by decide +kernel⟩
variable {P : Program} {w : World} {K : PySem.W.Frag} {mg : Str → Option Value} {base : Heap}
theorem ok_num (M : Nm mg) {dO : List (κ × V) → HO} {IsK : Hp → V → κ → Prop} {enc : κ → PyData} {lt : κ → κ → Prop} (O : KOf dO IsK enc lt)
    (hnew : ∀ {X : Cx} {pos : Pos}, PE X (.Dict [] [] pos) (fun _ H Q => ∀ p, H p = none → Q (.ref p) (upd H p (dO []))))
    (hlen : ∀ {X : Cx}, CallR X (.builtin "len") (fun xs H Q => ∃ a kvs, xs = [V.ref a] ∧ H a = some (dO kvs) ∧ Q (.int (kvs.length : Nat)) H))
    {f : Addr} {fd : FuncData} (F : Fun K "numbered" "numbered" (topS 20) f fd) : FnOk P w K mg base CX0 1 f fd ["keys"] (spNum IsK lt) := by
  refine F.ok sc_num (fun vs H Q E h => ?_) (fun cdv A outer s H vs Q E hr h => ?_)
  · obtain ⟨a, xs, ks, rfl, _⟩ := h
    rfl
  · obtain ⟨a, xs, ks, rfl, ha, hx, hl, q⟩ := h
    refine ⟨_, pss_cons (ps_set (i := 1) sc_num.nd rfl (.inr rfl) hnew)
      (pss_cons (ps_for PassesOwn.never rfl (pi_list (pe_callB (cr_sortE hr.units) (by rfl) M.sorted bt_sorted (pa_cons (pv 0) pa_nil))) (pg_name (i := 2) sc_num.nd rfl (.inl rfl))
        (pss_one (ps_if (pt_cmp (pc_dnotin (hu_of hr) (pv 2) (pv 1))) (pss_one (ps_dput (hu_of hr) (pv 1) (pv 2) (pe_callB hlen (by rfl) M.len PySem.boot_len (pa_cons (pv 1) pa_nil)) rfl)) pss_nil)))
      (pss_one (ps_ret (pe_lc (own := [("key", 2)]) (g := gName 2) (tt := tYes) rfl sc_num.nd (pi_list (pv 0)) (blkOk_by (own := [("key", 2)]) (N := ["keys", "numbers", "key"]) (sc := defScope (topS 20)) (by decide +kernel)) (fun _ _ _ _ _ => pg_name (i := 2) sc_num.nd rfl (Or.inl rfl)) (fun _ _ _ _ _ => pts_nil)
        (fun _ _ _ _ _ => pe_dget (hu_of hr) (pv 1) (pv 2) (fun _ _ => rfl)))))), ?_⟩
    intro d hd
    have s1 : Same H (upd H d (dO [])) := same_new hd
    refine ⟨_, rfl, κ, enc, fun v k => IsK (upd H d (dO [])) v k, a, xs, ks, rfl, .inl (.inl (s1 _ _ ha)), hx.mono (fun v k => O.keep (TupK.of s1)), fun v k => O.dp, PySem.W.AllAlike.of O.al, O.so ks, fun b _ => O.dep b, fun p ys hp hy => ?_⟩
    have s2 : Same (upd H d (dO [])) (upd (upd H d (dO [])) p (.lst ys)) := same_new hp
    have hlen' : (ks.mergeSort (PySem.W.dataLe false enc)).length = ks.length := (List.mergeSort_perm _ _).length_eq
    refine ⟨_, rfl, ⟨_, .inl (.inl upd_same)⟩, ?_⟩
    have hdp : d ≠ p := fun z => by
      rw [z, upd_same] at hp
      cases hp
    refine for_it (walk_list (K := K) (a := p) (xs := ys)) (fun i σ H' => ∃ y2 kvs g, σ = [some (.ref a), some (.ref d), y2] ∧ H' d = some (dO kvs) ∧ (∀ b o, b ≠ d → upd (upd H d (dO [])) p (.lst ys) b = some o → H' b = some o) ∧ NI lt kvs ((ks.mergeSort (PySem.W.dataLe false enc)).take i) g)
      ⟨none, [], _, rfl, s2 _ _ upd_same, fun b o _ e => e, NI.nil⟩ (fun i σ H' _ hP => ?_) (fun i x σ H1 H2 hi hP hy => ?_) (fun σ H' hP => ?_)
    · obtain ⟨y2, kvs, g, rfl, h1, h2, h3⟩ := hP
      exact .inl (.inl (h2 _ _ hdp.symm upd_same))
    · obtain ⟨y2, kvs, g, rfl, h1, h2, N⟩ := hP
      obtain ⟨rfl, hx1⟩ := hy
      obtain ⟨k, hk, hkx⟩ := each_get (i := i) (a := x) hy hx1
      have hkx' : IsK H2 x k := by
        refine O.keep (fun b zs e => ?_) hkx
        refine h2 b _ (fun z => ?_) (s2 _ _ e)
        rw [z, upd_same] at e
        exact O.dO_ne _ _ (Option.some.inj e)
      have srt := List.pairwise_mergeSort O.tr O.to ks
      have hlow : ∀ c, c ∈ (ks.mergeSort (PySem.W.dataLe false enc)).take i → ¬ lt k c := fun c hc => by
        obtain ⟨j, hj, ej⟩ := List.getElem_of_mem hc
        rw [List.length_take] at hj
        obtain ⟨hil, ek⟩ := List.getElem?_eq_some_iff.mp hk
        have := List.pairwise_iff_getElem.mp srt j i (by omega) hil (by omega)
        rw [ek] at this
        rw [List.getElem_take] at ej
        rw [ej] at this
        exact O.le _ _ this
      have etk : (ks.mergeSort (PySem.W.dataLe false enc)).take (i + 1) = (ks.mergeSort (PySem.W.dataLe false enc)).take i ++ [k] := by rw [List.take_add_one, hk]; rfl
      refine ⟨_, rfl, _, rfl, _, _, rfl, O.get h1 hkx', _, rfl, ?_⟩
      rw [N.val k]
      by_cases m : k ∈ (ks.mergeSort (PySem.W.dataLe false enc)).take i
      · rw [if_pos m]
        refine iteF ⟨_, kvs, g, rfl, h1, h2, ?_⟩
        rw [etk]
        exact N.old m
      · rw [if_neg m]
        have hkl : kvs.length ≤ 100 := by
          have a1 := N.len
          rw [List.length_take] at a1
          omega
        refine iteT ⟨_, rfl, d, kvs, rfl, h1, _, rfl, _, rfl, d, _, rfl, O.put h1 hkx' (small1000 (by omega)), ?_⟩
        refine ⟨_, putK kvs k (.int (kvs.length : Nat)), fun x => if x = k then kvs.length else g x, rfl, upd_same, fun b o hb e => ?_, ?_⟩
        · rw [upd_ne hb]
          exact h2 b o hb e
        · rw [etk]
          exact N.new m hlow (O.irr k)
    · obtain ⟨y2, kvs, g, rfl, h1, h2, N⟩ := hP
      have eyl : ys.length = (ks.mergeSort (PySem.W.dataLe false enc)).length := hy.length
      rw [eyl, List.take_length] at N
      have mem : ∀ k, k ∈ ks.mergeSort (PySem.W.dataLe false enc) ↔ k ∈ ks := fun k => (List.mergeSort_perm _ _).mem_iff
      have sm : Same H H' := fun b o e => by
        have e1 := s1 _ _ e
        exact h2 b o (fun z => by rw [z, hd] at e; cases e) (s2 _ _ e1)
      refine ⟨_, rfl, a, rfl, ⟨_, .inl (.inl (sm _ _ ha))⟩, fun D hD => ?_⟩
      refine lc_it (walk_list (K := K) (a := a) (xs := xs)) (fun i H2 => H2 d = some (dO kvs) ∧ Same H' H2 ∧ H2 D = some (.lst ((ks.take i).map fun k => V.int (g k : Nat)))) ⟨same_new hD _ _ h1, same_new hD, upd_same⟩ (fun i H2 _ hP => .inl (.inl (hP.2.1 _ _ (sm _ _ ha)))) (fun i x H1 H2 hi hP hy2 => ?_) (fun H2 hP => ?_)
      · obtain ⟨k1, k2, k3⟩ := hP
        obtain ⟨rfl, hx1⟩ := hy2
        obtain ⟨k, hk, hkx⟩ := each_get hx hx1
        have hkx' : IsK H2 x k := O.keep (TupK.of (sm.trans k2)) hkx
        have hkm : k ∈ ks := List.mem_of_getElem? hk
        refine ⟨rfl, _, rfl, _, rfl, d, V.int (g k : Nat), rfl, ?_, _, k3, ?_, ?_, ?_, ?_⟩
        · have := O.get k1 hkx'
          rw [N.val k, if_pos ((mem k).mpr hkm)] at this
          exact this
        · rw [List.length_map, List.length_take]
          exact small1000 (by omega)
        · rw [upd_ne (fun z => by rw [z] at h1; rw [hD] at h1; cases h1)]
          exact k1
        · exact same_at hD k2
        · rw [upd_same, List.take_add_one, hk, List.map_append]
          rfl
      · obtain ⟨k1, k2, k3⟩ := hP
        have e : xs.length = ks.length := hx.length
        rw [e, List.take_length] at k3
        exact q H2 D g (sm.trans k2) (sm.free hD) k3 (fun k hk k' hk' => N.mono k ((mem k).mpr hk) k' ((mem k').mpr hk'))
/-! keys that are texts; keys that are pairs of whole numbers -/
end
def skS : Key → Str
  | .inr z => z
  | .inl _ => ⟨#[]⟩
def encS (k : Key) : PyData := .str (skS k)
def ltS (a b : Key) : Prop := (skS a).cps.toList < (skS b).cps.toList
instance : DecidableRel ltS := fun a b => inferInstanceAs (Decidable ((skS a).cps.toList < (skS b).cps.toList))
def IsS : Hp → V → Key → Prop := fun _ v k => ∃ z, k = .inr z ∧ v = .str z
theorem leS (a b : Key) : PySem.W.dataLe false encS a b = !decide (ltS b a) := by
  show (!(PySem.W.dataLt (encS b) (encS a))) = _
  unfold encS
  rw [PySem.W.dataLt_str]
  exact congrArg not (decide_eq_decide.mpr Iff.rfl)
theorem ofS : KOf HO.dK IsS encS ltS where
  dO_ne := fun _ _ z => nomatch z
  get := fun h ⟨z, e1, e2⟩ => by
    subst e1
    subst e2
    exact DGet.k (k := Sum.inr z) h
  put := fun h ⟨z, e1, e2⟩ l => by
    subst e1
    subst e2
    exact DPut.k (k := Sum.inr z) h l
  keep := fun _ h => h
  dp := fun ⟨z, e1, e2⟩ => by
    subst e1
    subst e2
    exact .str _
  le := fun a b h => by
    rw [leS] at h
    simpa using h
  tr := fun a b c h k => by
    rw [leS] at h k ⊢
    simp only [Bool.not_eq_true', decide_eq_false_iff_not] at h k ⊢
    unfold ltS at h k ⊢
    exact List.not_lt.mpr (EP.t_le_tr (List.not_lt.mp h) (List.not_lt.mp k))
  to := fun a b => by
    rw [leS, leS, Bool.or_eq_true]
    simp only [Bool.not_eq_true', decide_eq_false_iff_not]
    unfold ltS
    rcases EP.t_tri (skS a).cps.toList (skS b).cps.toList with h | h | h
    · exact .inl fun z => EP.t_irr _ (EP.t_trans h z)
    · exact .inl fun z => EP.t_irr (skS a).cps.toList (by rw [h] at z; exact (EP.t_irr _ z).elim)
    · exact .inr fun z => EP.t_irr _ (EP.t_trans h z)
  irr := fun a => EP.t_irr _
  al := fun a b => by
    unfold encS
    simp [PySem.W.alike]
  so := fun ks => PySem.W.Sortable.others fun b => ⟨fun z => (nomatch z), fun xs z => (nomatch z)⟩
  dep := fun a => by
    unfold encS
    simp [PyData.depth]
def skP : List Key → Int × Int
  | [.inl i, .inl j] => (i, j)
  | _ => (0, 0)
def encP (k : List Key) : PyData := .tuple [.int (skP k).1, .int (skP k).2]
def ltP (a b : List Key) : Prop := EP.klt (skP a) (skP b)
instance (x y : Int × Int) : Decidable (EP.klt x y) := inferInstanceAs (Decidable (x.1 < y.1 ∨ (x.1 = y.1 ∧ x.2 < y.2)))
def IsP : Hp → V → List Key → Prop := fun H v k => ∃ b i j, v = .ref b ∧ k = [.inl i, .inl j] ∧ H b = some (.tup [.int i, .int j])
theorem leP (a b : List Key) : PySem.W.dataLe false encP a b = !decide (EP.klt (skP b) (skP a)) := by
  show (!(PySem.W.dataLt (encP b) (encP a))) = _
  unfold encP
  rw [PySem.W.dataLt_ii]
  exact congrArg not (decide_eq_decide.mpr Iff.rfl)
theorem ofP : KOf HO.dT IsP encP ltP where
  dO_ne := fun _ _ z => nomatch z
  get := fun h ⟨b, i, j, e1, e2, e3⟩ => by
    subst e1
    subst e2
    exact DGet.t h e3
  put := fun h ⟨b, i, j, e1, e2, e3⟩ l => by
    subst e1
    subst e2
    exact DPut.t h e3 l
  keep := fun s ⟨b, i, j, e1, e2, e3⟩ => ⟨b, i, j, e1, e2, s _ _ e3⟩
  dp := fun ⟨b, i, j, e1, e2, e3⟩ => by
    subst e1
    subst e2
    exact .tup (.inl (.inl e3)) (.cons (.int _) (.cons (.int _) .nil))
  le := fun a b h => by
    rw [leP] at h
    simpa [ltP] using h
  tr := fun a b c h k => by
    rw [leP] at h k ⊢
    simp only [Bool.not_eq_true', decide_eq_false_iff_not] at h k ⊢
    unfold EP.klt at h k ⊢
    omega
  to := fun a b => by
    rw [leP, leP, Bool.or_eq_true]
    simp only [Bool.not_eq_true', decide_eq_false_iff_not]
    unfold EP.klt
    omega
  irr := fun a z => by
    unfold ltP EP.klt at z
    omega
  al := fun a b => by
    unfold encP
    simp [PySem.W.alike, PySem.W.alikeAll]
  so := fun ks => PySem.W.Sortable.tuples fun b => ⟨_, _, rfl⟩
  dep := fun a => by
    unfold encP
    simp [PyData.depth, PyData.depthAll]
end Ep

namespace Ep
open PySem PySem.Spec PyProof.Rows L2
open EP (T Pl endOf placesOf ordr rowsOf)
open PySem.W (EachIs)
section
variable {P : Program} {w : World} {K : PySem.W.Frag} {mg : Str → Option Value} {base : Heap}
/-! ### tails_of -/
def pk (q : Pl) : List Key := [.inl (q.1 : Nat), .inl (q.2 : Nat)]
theorem pk_inj {p q : Pl} (h : pk p = pk q) : p = q := by
  have h1 : ((p.1 : Nat) : Int) = (q.1 : Nat) := by
    have := congrArg (fun l => l[0]?) h
    simpa [pk] using this
  have h2 : ((p.2 : Nat) : Int) = (q.2 : Nat) := by
    have := congrArg (fun l => l[1]?) h
    simpa [pk] using this
  exact Prod.ext (Int.ofNat.inj h1) (Int.ofNat.inj h2)
theorem nodup_at {α : Type} {ps : List α} (nd : ps.Nodup) {i j : Nat} {q : α} (h : ps[j]? = some q) (k : ps[i]? = some q) : j = i := by
  obtain ⟨l1, e1⟩ := List.getElem?_eq_some_iff.mp h
  obtain ⟨l2, e2⟩ := List.getElem?_eq_some_iff.mp k
  rcases Nat.lt_trichotomy j i with c | c | c
  · exact (List.pairwise_iff_getElem.mp nd j i l1 l2 c (e1.trans e2.symm)).elim
  · exact c
  · exact (List.pairwise_iff_getElem.mp nd i j l2 l1 c (e2.trans e1.symm)).elim
/-- where the places of the first turns stand -/
def TI (ps : List Pl) (kvs : List (List Key × V)) (i : Nat) : Prop := ∀ q v, valV kvs (pk q) = some v ↔ ∃ j, j < i ∧ ps[j]? = some q ∧ v = .int (j : Nat)
theorem TI.next {ps : List Pl} {kvs : List (List Key × V)} {i : Nat} (N : TI ps kvs i) (nd : ps.Nodup) {q : Pl} (h : ps[i]? = some q) : TI ps (putK kvs (pk q) (.int (i : Nat))) (i + 1) := fun r v => by
  rw [valV_put]
  by_cases m : r = q
  · subst m
    rw [if_pos rfl]
    constructor
    · intro e
      exact ⟨i, Nat.lt_succ_self _, h, (Option.some.inj e).symm⟩
    · rintro ⟨j, hj, ej, rfl⟩
      rw [nodup_at nd ej h]
  · rw [if_neg (fun z => m (pk_inj z)), N r v]
    constructor
    · rintro ⟨j, hj, e⟩
      exact ⟨j, by omega, e⟩
    · rintro ⟨j, hj, e1, e2⟩
      refine ⟨j, ?_, e1, e2⟩
      rcases Nat.lt_or_ge j i with k | k
      · exact k
      · have : j = i := by omega
        subst this
        rw [h] at e1
        exact (m (Option.some.inj e1).symm).elim
/-- the tails' numbers -/
def tlV (o : Option Nat) : V := match o with
  | some i => .int (i : Nat)
  | none => .non
def spTails : Sp := fun vs H Q _ => ∃ (L : V) (a : Addr) (xs : List V) (ps : List Pl) (m : Nat), vs = [L, .ref a, .int (m : Nat)] ∧ H a = some (.lst xs) ∧ PlsAt H xs ps ∧ ps.Nodup ∧ ps.length ≤ 100 ∧
  ∀ (H' : Hp) (p : Addr) (tl : Pl → Option Nat), Same H H' → H p = none → H' p = some (.lst (ps.map fun q => tlV (tl q))) → (∀ q i, tl q = some i ↔ ps[i]? = some (q.1, q.2 + m)) → Q (.ref p) H'
theorem sc_tails : FnScope ["library", "places", "many", "begins", "number", "place", "text", "at"] ["library", "places", "many"] (defScope (topS 21)) := ⟨rfl, rfl, rfl, by decide +kernel, rfl, by decide +kernel, by decide +kernel⟩
theorem ok_tails (M : Nm mg) {f : Addr} {fd : FuncData} (F : Fun K "tails_of" "tails_of" (topS 21) f fd) : FnOk P w K mg base CX0 1 f fd ["library", "places", "many"] spTails := by
  refine F.ok sc_tails (fun vs H Q E h => ?_) (fun cdv A outer s H vs Q E hr h => ?_)
  · obtain ⟨L, a, xs, ps, m, rfl, _⟩ := h
    rfl
  · obtain ⟨L, a, xs, ps, m, rfl, ha, hx, nd, hl, q⟩ := h
    refine ⟨_, pss_cons (ps_set (i := 3) sc_tails.nd rfl (.inr rfl) pe_dnewT)
      (pss_cons (ps_for PassesOwn.never rfl (pi_enum (by rfl) M.enumerate (pa_cons (pv 1) pa_nil)) (pg_tup rfl (pgs_cons (pg_name (i := 4) sc_tails.nd rfl (.inl rfl)) (pgs_cons (pg_name (i := 5) sc_tails.nd rfl (.inl rfl)) pgs_nil)))
        (pss_one (ps_dput (hu_of hr) (pv 3) (pv 5) (pv 4) rfl)))
      (pss_one (ps_ret (pe_lc (own := [("text", 6), ("at", 7)]) (g := gTup K 2 (gCons (gName 6) (gCons (gName 7) gNil))) (tt := tYes) rfl sc_tails.nd (pi_list (pv 1)) (blkOk_by (own := [("text", 6), ("at", 7)]) (N := ["library", "places", "many", "begins", "number", "place", "text", "at"]) (sc := defScope (topS 21)) (by decide +kernel))
        (fun _ _ _ _ _ => pg_tup rfl (pgs_cons (pg_name (i := 6) sc_tails.nd rfl (.inl rfl)) (pgs_cons (pg_name (i := 7) sc_tails.nd rfl (.inl rfl)) pgs_nil))) (fun _ _ _ _ _ => pts_nil)
        (fun _ _ _ _ _ => pe_dget1 (hu_of hr) (pv 3) (pe_tup (pa_cons (pv 6) (pa_cons (pe_op op_add (pv 7) (pv 2)) pa_nil))) ⟨by rfl, by rfl, by rfl, by rfl⟩))))), ?_⟩
    intro d hd
    have s1 : Same H (upd H d (.dT [])) := same_new hd
    refine ⟨_, rfl, a, xs, rfl, .inl (.inl (s1 _ _ ha)), ?_⟩
    refine for_it (walk_enum (K := K) (a := a) (xs := xs)) (fun i σ H' => ∃ y4 y5 kvs, σ = [some L, some (.ref a), some (.int (m : Nat)), some (.ref d), y4, y5, none, none] ∧ H' d = some (.dT kvs) ∧ Same H H' ∧ kvs.length ≤ i ∧ TI ps kvs i)
      ⟨none, none, [], rfl, upd_same, s1, Nat.le_refl _, fun q v => ⟨fun z => (nomatch z), fun ⟨j, hj, _⟩ => by omega⟩⟩ (fun i σ H' _ hP => ?_) (fun i x σ H1 H2 hi hP hy => ?_) (fun σ H' hP => ?_)
    · obtain ⟨y4, y5, kvs, rfl, h1, h2, h3⟩ := hP
      exact .inl (.inl (h2 _ _ ha))
    · obtain ⟨y4, y5, kvs, rfl, h1, h2, h3, N⟩ := hP
      obtain ⟨Tp, x1, x2, rfl, nT, rfl, f1, f2⟩ := hy
      obtain rfl : V.int (i : Nat) = x1 := Option.some.inj f1
      have hip : i < ps.length := by rw [← hx.1]; exact hi
      obtain ⟨b, e1, e2⟩ := hx.2 i ps[i] (List.getElem?_eq_getElem hip)
      obtain rfl : V.ref b = x2 := Option.some.inj (e1.symm.trans f2)
      have sT := same_new (o := HO.tup [V.int (i : Nat), V.ref b]) nT
      have e3 := sT _ _ (h2 _ _ e2)
      refine ⟨Tp, [_, _], rfl, .inl (.inl upd_same), rfl, _, [_], rfl, _, [], rfl, rfl, ?_⟩
      refine ⟨_, rfl, _, rfl, _, rfl, d, _, rfl, DPut.t (k := pk ps[i]) (sT _ _ h1) e3 (small1000 (by omega)), ?_⟩
      refine ⟨_, _, _, rfl, upd_same, same_at hd (h2.trans sT), ?_, N.next nd (List.getElem?_eq_getElem hip)⟩
      exact Nat.le_trans (length_putK _ _ _) (by omega)
    · obtain ⟨y4, y5, kvs, rfl, h1, h2, h3, N⟩ := hP
      rw [hx.1] at N
      refine ⟨_, rfl, a, rfl, ⟨_, .inl (.inl (h2 _ _ ha))⟩, fun D hD => ?_⟩
      let tl : Pl → Option Nat := fun q => match valV kvs (pk (q.1, q.2 + m)) with
        | some (.int j) => some j.toNat
        | _ => none
      have htl : ∀ q, (valV kvs (pk (q.1, q.2 + m))).getD .non = tlV (tl q) := fun q => by
        show _ = tlV (match valV kvs (pk (q.1, q.2 + m)) with
          | some (.int j) => some j.toNat
          | _ => none)
        cases e : valV kvs (pk (q.1, q.2 + m)) with
        | none => rfl
        | some v =>
          obtain ⟨j, _, _, rfl⟩ := (N _ _).mp e
          rfl
      refine lc_it (walk_list (K := K) (a := a) (xs := xs)) (fun i H3 => H3 d = some (.dT kvs) ∧ Same H' H3 ∧ H3 D = some (.lst ((ps.take i).map fun q => tlV (tl q)))) ⟨same_new hD _ _ h1, same_new hD, upd_same⟩ (fun i H3 _ hP => .inl (.inl (hP.2.1 _ _ (h2 _ _ ha)))) (fun i x H1 H3 hi hP hy2 => ?_) (fun H3 hP => ?_)
      · obtain ⟨k1, k2, k3⟩ := hP
        obtain ⟨rfl, hx1⟩ := hy2
        have hip : i < ps.length := by rw [← hx.1]; exact hi
        obtain ⟨b, e1, e2⟩ := hx.2 i ps[i] (List.getElem?_eq_getElem hip)
        obtain rfl : V.ref b = x := by
          rw [hx1] at e1
          exact (Option.some.inj e1).symm
        have e3 := k2 _ _ (h2 _ _ e2)
        refine ⟨b, [_, _], rfl, .inl (.inl e3), rfl, _, [_], rfl, _, [], rfl, rfl, rfl, ?_⟩
        refine ⟨_, rfl, d, rfl, .inr ⟨_, .inl k1⟩, _, rfl, _, rfl, _, rfl, _, _, rfl, rfl, by show 2 ≤ sizeLine; decide, fun u hu => ?_⟩
        have su := same_new (o := HO.tup [V.int (ps[i].1 : Nat), V.int ((ps[i].2 : Nat) + (m : Nat))]) hu
        refine ⟨_, DGet.t (k := pk (ps[i].1, ps[i].2 + m)) (su _ _ k1) upd_same, _, su _ _ k3, ?_, ?_, same_at hD (k2.trans su), ?_⟩
        · rw [List.length_map, List.length_take]
          exact small1000 (by omega)
        · rw [upd_ne (fun z => by rw [z] at h1; rw [hD] at h1; cases h1)]
          exact su _ _ k1
        · rw [upd_same, List.take_add_one, List.getElem?_eq_getElem hip, List.map_append, htl]
          rfl
      · obtain ⟨k1, k2, k3⟩ := hP
        rw [hx.1, List.take_length] at k3
        refine q H3 D tl (h2.trans k2) (h2.free hD) k3 (fun q i => ?_)
        show (match valV kvs (pk (q.1, q.2 + m)) with
          | some (.int j) => some j.toNat
          | _ => none) = some i ↔ _
        constructor
        · intro e
          cases e2 : valV kvs (pk (q.1, q.2 + m)) with
          | none => rw [e2] at e; cases e
          | some v =>
            obtain ⟨j, hj, ej, rfl⟩ := (N _ _).mp e2
            rw [e2] at e
            have : j = i := Option.some.inj e
            subst this
            exact ej
        · intro e
          have : valV kvs (pk (q.1, q.2 + m)) = some (.int (i : Nat)) := (N _ _).mpr ⟨i, (List.getElem?_eq_some_iff.mp e).1, e, rfl⟩
          rw [this]
          rfl
end
end Ep

namespace Ep
open PySem PySem.Spec PyProof.Rows L2
open EP (T Pl endOf placesOf ordr rowsOf Rk tailK tailP ple plt)
open PySem.W (EachIs)
/-! ### plain: numbers of keys as ranks -/
def k1 (ts : List T) (q : Pl) : Key := .inr (tx ((endOf ts q).take 1))
theorem rk_one {ts : List T} {f : Key → Nat} (h : ∀ k, k ∈ (placesOf ts).map (k1 ts) → ∀ k', k' ∈ (placesOf ts).map (k1 ts) → ltS k k' → f k < f k') : Rk ts 1 (fun q => (f (k1 ts q) : Int)) := by
  have mono : ∀ p q, p ∈ placesOf ts → q ∈ placesOf ts → (endOf ts p).take 1 < (endOf ts q).take 1 → f (k1 ts p) < f (k1 ts q) := fun p q hp hq l =>
    h _ (List.mem_map.mpr ⟨p, hp, rfl⟩) _ (List.mem_map.mpr ⟨q, hq, rfl⟩) l
  refine ⟨fun p q hp hq => ⟨fun l => ?_, fun l => ?_⟩, fun p hp => by show (0 : Int) ≤ (f (k1 ts p) : Int); omega⟩
  · have l' : f (k1 ts p) < f (k1 ts q) := by
      have z : (f (k1 ts p) : Int) < (f (k1 ts q) : Int) := l
      omega
    rcases EP.t_tri ((endOf ts p).take 1) ((endOf ts q).take 1) with c | c | c
    · exact c
    · have e : k1 ts p = k1 ts q := by unfold k1; rw [c]
      rw [e] at l'
      omega
    · have := mono q p hq hp c
      omega
  · have := mono p q hp hq l
    show (f (k1 ts p) : Int) < (f (k1 ts q) : Int)
    omega
def k2 (ts : List T) (m : Nat) (g : Pl → Int) (q : Pl) : List Key := [.inl (g q), .inl (tailK ts m g q)]
theorem rk_two {ts : List T} {m : Nat} {g : Pl → Int} (R : Rk ts m g) (hm : 0 < m) {f : List Key → Nat} (h : ∀ k, k ∈ (placesOf ts).map (k2 ts m g) → ∀ k', k' ∈ (placesOf ts).map (k2 ts m g) → ltP k k' → f k < f k') :
    Rk ts (2 * m) (fun q => (f (k2 ts m g q) : Int)) := by
  have mono : ∀ p q, p ∈ placesOf ts → q ∈ placesOf ts → EP.klt (g p, tailK ts m g p) (g q, tailK ts m g q) → f (k2 ts m g p) < f (k2 ts m g q) := fun p q hp hq l =>
    h _ (List.mem_map.mpr ⟨p, hp, rfl⟩) _ (List.mem_map.mpr ⟨q, hq, rfl⟩) l
  refine EP.rk_next R (f := fun x => (f [.inl x.1, .inl x.2] : Int)) (fun p _ => rfl) (fun p q hp hq => ⟨fun l => ?_, fun l => ?_⟩) (fun p hp => by show (0 : Int) ≤ (f _ : Int); omega) hm
  · have l' : f (k2 ts m g p) < f (k2 ts m g q) := by
      have z : (f (k2 ts m g p) : Int) < (f (k2 ts m g q) : Int) := l
      omega
    by_cases c : EP.klt (g p, tailK ts m g p) (g q, tailK ts m g q)
    · exact c
    · by_cases c2 : EP.klt (g q, tailK ts m g q) (g p, tailK ts m g p)
      · have := mono q p hq hp c2
        omega
      · unfold EP.klt at c c2
        dsimp only at c c2
        have e1 : g p = g q := by omega
        have e2 : tailK ts m g p = tailK ts m g q := by omega
        have e : k2 ts m g p = k2 ts m g q := by unfold k2; rw [e1, e2]
        rw [e] at l'
        omega
  · have := mono p q hp hq l
    show (f (k2 ts m g p) : Int) < (f (k2 ts m g q) : Int)
    omega
/-- sorted by numbers that stand as the endings do -/
theorem srt_map {ts : List T} {D : Pl → PyData} (h : ∀ p, p ∈ placesOf ts → ∀ q, q ∈ placesOf ts → PySem.W.dataLe false (fun d => d) (D p) (D q) = ple ts p q) : srtD ((placesOf ts).map D) = (ordr ts).map D :=
  (List.map_mergeSort (r := ple ts) (s := PySem.W.dataLe false fun d => d) (f := D) fun p hp q hq => (h p hp q hq).symm).symm
def pD (q : Pl) : PyData := .tuple [.int (q.1 : Nat), .int (q.2 : Nat)]
theorem le_pD (p q : Pl) : PySem.W.dataLt (pD q) (pD p) = !decide (plt p q) := by
  unfold pD
  rw [PySem.W.dataLt_ii]
  rw [← decide_not]
  exact decide_eq_decide.mpr (by unfold plt; omega)
theorem srt_ranks {ts : List T} {m : Nat} {g : Pl → Int} (R : Rk ts m g) (hm : ∀ t ∈ ts, t.length ≤ m) : srtD ((placesOf ts).map fun q => PyData.tuple [.int (g q), pD q]) = (ordr ts).map fun q => PyData.tuple [.int (g q), pD q] := by
  refine srt_map fun p hp q hq => ?_
  show (!(PySem.W.dataLt (.tuple [.int (g q), pD q]) (.tuple [.int (g p), pD p]))) = _
  rw [PySem.W.dataLt_pair (by simp [PySem.W.alike]) (by unfold pD; simp [PySem.W.alike, PySem.W.alikeAll]), PySem.W.dataLt_int, le_pD]
  have a := EP.rk_end R hm hp hq
  have b := EP.rk_end R hm hq hp
  have ee : PyData.eqv (.int (g q)) (.int (g p)) = decide (g q = g p) := by
    simp only [PyData.eqv]
    exact (decide_eq_decide.mpr Iff.rfl)
  have e2 : PyData.eqv (pD q) (pD p) = decide (q = p) := by
    unfold pD
    simp only [PyData.eqv, PyData.eqvAll, Bool.and_true]
    by_cases c : q = p
    · subst c
      simp
    · rw [decide_eq_false c]
      by_cases c1 : ((q.1 : Nat) : Int) = (p.1 : Nat)
      · have c2 : ¬ ((q.2 : Nat) : Int) = (p.2 : Nat) := fun z => c (Prod.ext (Int.ofNat.inj c1) (Int.ofNat.inj z))
        simp [c2]
      · simp [c1]
  rw [ee, e2]
  unfold ple
  by_cases c : g q = g p
  · rw [decide_eq_true c, if_pos rfl]
    have c' : endOf ts p = endOf ts q := (a.2.mp c.symm)
    by_cases c2 : q = p
    · subst c2
      have : plt q q := .inr ⟨rfl, Nat.le_refl _⟩
      simp [this]
    · rw [decide_eq_false c2, if_neg Bool.false_ne_true, Bool.not_not]
      refine decide_eq_decide.mpr ⟨fun z => .inr ⟨c', z⟩, fun z => z.elim (fun z => ?_) fun z => z.2⟩
      rw [c'] at z
      exact (EP.t_irr _ z).elim
  · rw [decide_eq_false c, if_neg Bool.false_ne_true, ← decide_not]
    refine decide_eq_decide.mpr ⟨fun z => .inl (a.1.mp (by omega)), fun z => ?_⟩
    rcases z with z | z
    · have := a.1.mpr z
      omega
    · exact absurd (a.2.mpr z.1).symm c
/-! ### order_of -/
/-- the places ps, as pairs xs that are to be read -/
def PlsQ (K : PySem.W.Frag) (H : Hp) (xs : List V) (ps : List Pl) : Prop := xs.length = ps.length ∧ ∀ (j : Nat) (q : Pl), ps[j]? = some q → ∃ a, xs[j]? = some (.ref a) ∧ SqT K H a [.int (q.1 : Nat), .int (q.2 : Nat)]
theorem PlsQ.same {K : PySem.W.Frag} {H H' : Hp} {xs : List V} {ps : List Pl} (h : PlsQ K H xs ps) (s : Same H H') : PlsQ K H' xs ps :=
  ⟨h.1, fun j q e => let ⟨a, e1, e2⟩ := h.2 j q e; ⟨a, e1, same_sqt s e2⟩⟩
theorem dps_get {K : PySem.W.Frag} {H : Hp} : ∀ {ds : List PyData} {vs : List V}, DpAll K H vs ds → ∀ {j : Nat} {d : PyData}, ds[j]? = some d → ∃ v, vs[j]? = some v ∧ Dp K H v d
  | [], _, h, j, d, e => by simp at e
  | x :: ds, _, h, j, d, e => by
    cases h with
    | cons h1 h2 =>
      cases j with
      | zero =>
        obtain rfl : x = d := Option.some.inj e
        exact ⟨_, rfl, h1⟩
      | succ j => exact dps_get h2 e
theorem dp_pl {K : PySem.W.Frag} {H : Hp} {v : V} {q : Pl} (h : Dp K H v (pD q)) : ∃ b, v = .ref b ∧ SqT K H b [.int (q.1 : Nat), .int (q.2 : Nat)] := by
  unfold pD at h
  cases h with
  | tup h1 h2 =>
    cases h2 with
    | cons a1 a2 =>
      cases a1
      cases a2 with
      | cons b1 b2 =>
        cases b1
        cases b2
        exact ⟨_, rfl, h1⟩
theorem pl_dps {K : PySem.W.Frag} {H : Hp} : ∀ {ps : List Pl} {xs : List V}, PlsAt H xs ps → DpAll K H xs (ps.map pD)
  | [], xs, h => by
    have : xs = [] := List.length_eq_zero_iff.mp h.1
    subst this
    exact .nil
  | q :: ps, [], h => by cases h.1
  | q :: ps, x :: xs, h => by
    obtain ⟨a, e1, e2⟩ := h.2 0 q rfl
    obtain rfl : x = .ref a := Option.some.inj e1
    exact .cons (.tup (.inl (.inl e2)) (.cons (.int _) (.cons (.int _) .nil))) (pl_dps ⟨by simpa using h.1, fun j p e => h.2 (j + 1) p e⟩)
theorem ints_dps {K : PySem.W.Frag} {H : Hp} {α : Type} (g : α → Int) : ∀ ps : List α, DpAll K H (ps.map fun q => V.int (g q)) (ps.map fun q => PyData.int (g q))
  | [] => .nil
  | q :: ps => .cons (.int _) (ints_dps g ps)
section
variable {P : Program} {w : World} {K : PySem.W.Frag} {mg : Str → Option Value} {base : Heap}
theorem ix_listK {X : Cx} (h : X.K = K) : IxR X (rIxL K) := h ▸ ix_list
theorem ix_tupK {X : Cx} (h : X.K = K) : IxR X (rIxT K) := h ▸ ix_tup
theorem pe_fldK {X : Cx} {e : Expr} {ta : TE} {f : Str} {pos : Pos} (h : X.K = K) (he : PE X e ta) (hb : attributeBase e f X.env (eval e X.env) = eval e X.env) : PE X (.Attribute e f pos) (tFld K ta f) := h ▸ pe_fld he hb
def spOrder (K : PySem.W.Frag) (C : Addr) : Sp := fun vs H Q _ => ∃ (L : Addr) (ts : List T), vs = [.ref L] ∧ LibAt C H L ts ∧ Tok3 ts ∧ ∀ (H' : Hp) (p : Addr) (xs : List V), Same H H' → H p = none → H' p = some (.lst xs) → PlsQ K H' xs (ordr ts) → Q (.ref p) H'
theorem sc_order : FnScope ["library", "places", "ranks", "text", "at", "many", "longest", "tails", "keys", "rank", "tail", "place"] ["library"] (defScope (topS 22)) := ⟨rfl, rfl, rfl, by decide +kernel, rfl, by decide +kernel, by decide +kernel⟩
abbrev nOrd : List Str := ["library", "places", "ranks", "text", "at", "many", "longest", "tails", "keys", "rank", "tail", "place"]
theorem places_len {ts : List T} (h : Tok3 ts) : (placesOf ts).length ≤ 72 := by
  have a := placesTo_len h.2.1 ts.length
  have b := h.1
  have e : placesTo ts ts.length = placesOf ts := rfl
  rw [e] at a
  omega
theorem each_map2 {α β γ : Type} {R : β → γ → Prop} {f : α → β} {g : α → γ} : ∀ {l : List α}, (∀ x, x ∈ l → R (f x) (g x)) → EachIs R (l.map f) (l.map g)
  | [], _ => .nil
  | x :: l, h => .cons (h x List.mem_cons_self) (each_map2 fun y hy => h y (List.mem_cons_of_mem _ hy))
theorem each_snoc {α β : Type} {R : α → β → Prop} {a : α} {b : β} (h : R a b) : ∀ {as : List α} {bs : List β}, EachIs R as bs → EachIs R (as ++ [a]) (bs ++ [b])
  | _, _, .nil => .cons h .nil
  | _, _, .cons r rs => .cons r (each_snoc h rs)
theorem PlsQ.nil {K : PySem.W.Frag} {H : Hp} : PlsQ K H [] [] := ⟨rfl, fun j q e => by simp at e⟩
theorem PlsQ.snoc {K : PySem.W.Frag} {H : Hp} {xs : List V} {ps : List Pl} {a : Addr} {q : Pl} (h : PlsQ K H xs ps) (ha : SqT K H a [.int (q.1 : Nat), .int (q.2 : Nat)]) : PlsQ K H (xs ++ [.ref a]) (ps ++ [q]) := by
  refine ⟨by simp [h.1], fun j p e => ?_⟩
  rcases Nat.lt_trichotomy j ps.length with k | k | k
  · rw [List.getElem?_append_left k] at e
    obtain ⟨b, e1, e2⟩ := h.2 j p e
    exact ⟨b, by rw [List.getElem?_append_left (by rw [h.1]; exact k)]; exact e1, e2⟩
  · subst k
    have : q = p := by simpa using e
    subst this
    refine ⟨a, ?_, ha⟩
    rw [← h.1]
    simp
  · rw [List.getElem?_eq_none (by simp; omega)] at e
    cases e
theorem end_one {ts : List T} {q : Pl} (h : q ∈ placesOf ts) : ∃ t c, ts[q.1]? = some t ∧ t[q.2]? = some c ∧ (endOf ts q).take 1 = [c] := by
  have l := EP.place_lt h
  have m := EP.mem_places.mp h
  have e : ts.getD q.1 [] = ts[q.1] := by rw [List.getD, List.getElem?_eq_getElem l]; rfl
  rw [e] at m
  refine ⟨ts[q.1], (ts[q.1])[q.2], List.getElem?_eq_getElem l, List.getElem?_eq_getElem m, ?_⟩
  unfold endOf
  rw [e, List.drop_eq_getElem_cons m]
  rfl
theorem zip_same {α : Type} (f g : α → PyData) : ∀ l : List α, List.zipWith (fun a b => PyData.tuple [a, b]) (l.map f) (l.map g) = l.map fun q => .tuple [f q, g q]
  | [] => rfl
  | x :: l => by simp [zip_same f g l]
/-- the tails' numbers are the tails' -/
theorem tail_some {ts : List T} {m i : Nat} {g : Pl → Int} {q : Pl} (h : (placesOf ts)[i]? = some (q.1, q.2 + m)) : tailK ts m g q = g (q.1, q.2 + m) := by
  have := EP.mem_places.mp (List.mem_of_getElem? h)
  unfold tailK tailP
  rw [if_pos this]
theorem tail_none {ts : List T} {m : Nat} {g : Pl → Int} {q : Pl} (h : ∀ i : Nat, (placesOf ts)[i]? ≠ some (q.1, q.2 + m)) : tailK ts m g q = -1 := by
  unfold tailK tailP
  rw [if_neg]
  intro z
  obtain ⟨i, hi, e⟩ := List.getElem_of_mem (EP.mem_places.mpr z : (q.1, q.2 + m) ∈ placesOf ts)
  exact h i (by rw [List.getElem?_eq_getElem hi, e])
def muO (σ : L2.St) : Nat := match (σ[5]? : Option (Option V)) with
  | some (some (V.int m)) => 100 - m.toNat
  | _ => 0
theorem ok_order (M : Nm mg) {C : Addr} (cl : Cls K C) (nT : NoAttr K C "texts") (C1 : Cl P w K mg base 1 "all_places" ["library"] (spPlaces C)) (C2 : Cl P w K mg base 1 "numbered" ["keys"] (spNum IsS ltS)) (C3 : Cl P w K mg base 1 "numbered" ["keys"] (spNum IsP ltP))
    (C4 : Cl P w K mg base 1 "tails_of" ["library", "places", "many"] spTails) {f : Addr} {fd : FuncData} (F : Fun K "order_of" "order_of" (topS 22) f fd) : FnOk P w K mg base CX0 2 f fd ["library"] (spOrder K C) := by
  refine F.ok sc_order (fun vs H Q E h => ?_) (fun cdv A outer s H vs Q E hr h => ?_)
  · obtain ⟨L, ts, rfl, _⟩ := h
    rfl
  · obtain ⟨L, ts, rfl, ⟨dx, a, hL, ha⟩, ht, q⟩ := h
    refine ⟨_, pss_cons (ps_set (i := 1) sc_order.nd rfl (.inl rfl) (pe_c C1 hr (by rfl) (pa_cons (pv 0) pa_nil)))
      (pss_cons (ps_set (i := 2) sc_order.nd rfl (.inr rfl) (pe_c C2 hr (by rfl) (pa_cons
        (pe_lc (own := [("text", 3), ("at", 4)]) (g := gTup K 2 (gCons (gName 3) (gCons (gName 4) gNil))) (tt := tYes) rfl sc_order.nd (pi_list (pv 1)) (blkOk_by (own := [("text", 3), ("at", 4)]) (N := nOrd) (sc := defScope (topS 22)) (by decide +kernel))
          (fun _ _ _ _ _ => pg_tup rfl (pgs_cons (pg_name (i := 3) sc_order.nd rfl (.inl rfl)) (pgs_cons (pg_name (i := 4) sc_order.nd rfl (.inl rfl)) pgs_nil))) (fun _ _ _ _ _ => pts_nil)
          (fun _ _ _ _ _ => pe_ix ix_str (pe_ix (ix_tupK (K := K) rfl) (pe_fldK (K := K) rfl (pv 0) rfl) (pv 3) (fun _ _ => rfl)) (pv 4) (fun _ _ => rfl))) pa_nil)))
      (pss_cons (ps_set (i := 5) sc_order.nd rfl (.inl rfl) pe_int)
      (pss_cons (ps_set (i := 6) sc_order.nd rfl (.inl rfl) (pe_callB (cr_max rfl) (by rfl) M.max bt_max (pa_cons (pe_op op_cat (pe_lst (pa_cons pe_int pa_nil))
        (pe_lc (own := [("text", 3)]) (g := gName 3) (tt := tYes) rfl sc_order.nd (pi_tup (pe_fld (pv 0) rfl)) (blkOk_by (own := [("text", 3)]) (N := nOrd) (sc := defScope (topS 22)) (by decide +kernel)) (fun _ _ _ _ _ => pg_name (i := 3) sc_order.nd rfl (Or.inl rfl)) (fun _ _ _ _ _ => pts_nil)
          (fun _ _ _ _ _ => pe_callB call_len_str (by rfl) M.len PySem.boot_len (pa_cons (pv 3) pa_nil)))) pa_nil)))
      (pss_cons (ps_while PassesOwn.never (pt_cmpR op_lt (pv 5) (pv 6) (nomark _))
        (pss_cons (ps_set (i := 7) sc_order.nd rfl (.inl rfl) (pe_c C4 hr (by rfl) (pa_cons (pv 0) (pa_cons (pv 1) (pa_cons (pv 5) pa_nil)))))
        (pss_cons (ps_setLc (i := 8) (own := [("rank", 9), ("tail", 10)]) (g := gTup K 2 (gCons (gName 9) (gCons (gName 10) gNil))) (tt := tYes) rfl sc_order.nd rfl rfl (sw_true rfl rfl rfl (by decide +kernel)) (pi_zip (by rfl) M.zip (pa_cons (pv 2) (pa_cons (pv 7) pa_nil))) (blkOk_by (own := [("rank", 9), ("tail", 10)]) (N := nOrd) (sc := defScope (topS 22)) (by decide +kernel))
          (fun _ _ _ _ _ => pg_tup rfl (pgs_cons (pg_name (i := 9) sc_order.nd rfl (.inl rfl)) (pgs_cons (pg_name (i := 10) sc_order.nd rfl (.inl rfl)) pgs_nil))) (fun _ _ _ _ _ => pts_nil)
          (fun _ _ _ _ _ => pe_tup (pa_cons (pv 9) (pa_cons (pe_ifExp (pt_cmp (pc_isN (pv 10))) (pe_un un_neg pe_int) (pe_ix (ix_listK (K := K) rfl) (pv 2) (pv 10) (fun _ _ => rfl))) pa_nil))))
        (pss_cons (ps_set (i := 2) sc_order.nd rfl (.inr rfl) (pe_c C3 hr (by rfl) (pa_cons (pv 8) pa_nil)))
        (pss_one (ps_set (i := 5) sc_order.nd rfl (.inl rfl) (pe_op op_mul pe_int (pv 5))))))))
      (pss_one (ps_ret (pe_lc (own := [("rank", 9), ("place", 11)]) (g := gTup K 2 (gCons (gName 9) (gCons (gName 11) gNil))) (tt := tYes) rfl sc_order.nd (pi_list (pe_sortedZip rfl hr.units (by rfl) M.sorted (by rfl) M.zip (pa_cons (pv 2) (pa_cons (pv 1) pa_nil)))) (blkOk_by (own := [("rank", 9), ("place", 11)]) (N := nOrd) (sc := defScope (topS 22)) (by decide +kernel))
          (fun _ _ _ _ _ => pg_tup rfl (pgs_cons (pg_name (i := 9) sc_order.nd rfl (.inl rfl)) (pgs_cons (pg_name (i := 11) sc_order.nd rfl (.inl rfl)) pgs_nil))) (fun _ _ _ _ _ => pts_nil)
          (fun _ _ _ _ _ => pv 11)))))))), ?_⟩
    have nd := EP.nodup_places ts
    have p72 := places_len ht
    refine ⟨_, rfl, L, ts, rfl, ⟨dx, a, hL, ha⟩, ht, fun H1 pp xs s1 np hp pls => ?_⟩
    refine ⟨_, rfl, pp, rfl, ⟨_, .inl (.inl hp)⟩, fun D hD => ?_⟩
    refine lc_it (walk_list (K := K) (a := pp) (xs := xs)) (fun i H2 => Same H1 H2 ∧ H2 D = some (.lst (((placesOf ts).take i).map fun q => V.str (tx ((endOf ts q).take 1))))) ⟨same_new hD, upd_same⟩ (fun i H2 _ hP => .inl (.inl (hP.1 _ _ hp))) (fun i x H2 H3 hi hP hy => ?_) (fun H2 hP => ?_)
    · obtain ⟨sm, hd⟩ := hP
      obtain ⟨rfl, hx⟩ := hy
      have hip : i < (placesOf ts).length := by rw [← pls.1]; exact hi
      obtain ⟨b, e1, e2⟩ := pls.2 i (placesOf ts)[i] (List.getElem?_eq_getElem hip)
      obtain rfl : V.ref b = x := Option.some.inj (e1.symm.trans hx)
      obtain ⟨t, c, g1, g2, g3⟩ := end_one (List.getElem_mem hip)
      have gt : (txV ts)[(placesOf ts)[i].1]? = some (.str (tx t)) := by rw [List.getElem?_map, g1]; rfl
      have tl24 := ht.2.1 t (List.mem_of_getElem? g1)
      refine ⟨b, [_, _], rfl, .inl (.inl (sm _ _ e2)), rfl, _, [_], rfl, _, [], rfl, rfl, rfl, ?_⟩
      refine ⟨_, rfl, L, C, dx, _, _, rfl, sm _ _ (s1 _ _ hL), cl, nT, rfl, _, rfl, a, _, _, _, rfl, rfl, .inl (.inl (sm _ _ (s1 _ _ ha))), atI_nat gt, _, rfl, tx t, _, c, rfl, rfl, by rw [tx_len]; exact Nat.le_of_lt (small1000 (by omega)), atI_nat g2, _, hd, ?_, same_at hD sm, ?_⟩
      · rw [List.length_map, List.length_take]
        exact small1000 (by omega)
      · rw [upd_same, List.take_add_one, List.getElem?_eq_getElem hip, List.map_append]
        show some (HO.lst (_ ++ [V.str ⟨#[c]⟩])) = some (HO.lst (_ ++ [V.str (tx ((endOf ts (placesOf ts)[i]).take 1))]))
        rw [g3]
        rfl
    · obtain ⟨sm, hd⟩ := hP
      rw [pls.1, List.take_length] at hd
      have sH2 := s1.trans sm
      refine ⟨D, _, (placesOf ts).map (k1 ts), rfl, hd, each_map2 fun q _ => ⟨_, rfl, rfl⟩, by rw [List.length_map]; omega, fun H3 p1 f1 s3 np3 hp3 mono => ?_⟩
      have R1 := rk_one mono
      rw [List.map_map] at hp3
      have sH3 := sH2.trans s3
      -- the longest
      refine ⟨by show 1 ≤ sizeLine; decide, fun l hl => ?_⟩
      have sl := same_new (o := HO.lst [V.int 0]) hl
      have sH4 := sH3.trans sl
      refine ⟨_, rfl, L, C, dx, _, _, rfl, sH4 _ _ hL, cl, nT, rfl, a, rfl, ⟨_, .inl (.inl (sH4 _ _ ha))⟩, fun D2 hD2 => ?_⟩
      refine lc_it (walk_tup (K := K) (a := a) (xs := txV ts)) (fun i H5 => Same (upd H3 l (.lst [V.int 0])) H5 ∧ H5 D2 = some (.lst ((ts.take i).map fun t => V.int (t.length : Int)))) ⟨same_new hD2, upd_same⟩ (fun i H5 _ hP => .inl (.inl (hP.1 _ _ (sH4 _ _ ha)))) (fun i x H5 H6 hi hP hy => ?_) (fun H5 hP => ?_)
      · obtain ⟨sm2, hd2⟩ := hP
        obtain ⟨rfl, hx⟩ := hy
        obtain ⟨t, ht1, rfl⟩ := txV_get hx
        have htm := List.mem_of_getElem? ht1
        have l3 := ht.1
        refine ⟨rfl, _, rfl, _, rfl, by rw [tx_len]; exact Nat.le_of_lt (small1000 (by have := ht.2.1 t htm; omega)), _, hd2, ?_, same_at hD2 sm2, ?_⟩
        · rw [List.length_map, List.length_take]
          exact small1000 (by omega)
        · rw [upd_same, List.take_add_one, ht1, List.map_append, tx_len]
          rfl
      · obtain ⟨sm2, hd2⟩ := hP
        rw [List.length_map, List.take_length] at hd2
        have l3 := ht.1
        refine ⟨l, D2, _, _, rfl, rfl, sm2 _ _ upd_same, hd2, by rw [List.length_map]; exact Nat.le_of_lt (small1000 (by show 1 + ts.length ≤ 1000; omega)), fun pm hpm => ?_⟩
        refine ⟨pm, (0 : Int) :: ts.map (fun t => (t.length : Int)), rfl, .inl (.inl ?_), Nat.succ_pos _, fun lg hlg hle => ?_⟩
        · rw [upd_same, List.map_cons, List.map_map]
          rfl
        have lg24 : 0 ≤ lg ∧ lg ≤ 24 := by
          rcases List.mem_cons.mp hlg with z | z
          · omega
          · obtain ⟨t, ht1, rfl⟩ := List.mem_map.mp z
            have := ht.2.1 t ht1
            omega
        have lgt : ∀ t ∈ ts, (t.length : Int) ≤ lg := fun t ht1 => hle _ (List.mem_cons_of_mem _ (List.mem_map.mpr ⟨t, ht1, rfl⟩))
        have s5 := sm2.trans (same_new (o := HO.lst ([V.int 0] ++ ts.map fun t => V.int (t.length : Int))) hpm)
        have sH5 := sH4.trans s5
        have hp5 := s5 _ _ (sl _ _ hp3)
        refine while_by (fun σ H' => ∃ (y3 y4 y7 y8 y9 y10 y11 : Option V) (m : Nat) (g : Pl → Int) (p1 : Addr), σ = [some (.ref L), some (.ref pp), some (.ref p1), y3, y4, some (.int (m : Nat)), some (.int lg), y7, y8, y9, y10, y11] ∧ Same H H' ∧ H' pp = some (.lst xs) ∧ PlsAt H' xs (placesOf ts) ∧ H' p1 = some (.lst ((placesOf ts).map fun q => V.int (g q))) ∧ Rk ts m g ∧ 0 < m)
          (fun σ _ => muO σ) ⟨none, none, none, none, none, none, none, 1, fun q => (f1 (k1 ts q) : Int), p1, rfl, sH5, ?_, ?_, hp5, R1, Nat.one_pos⟩ (fun σ H' hP => ?_) (fun σ H' Q1 Q2 hq z => ?_)
        · exact s5 _ _ (sl _ _ (s3 _ _ (sm _ _ hp)))
        · exact pls.same (sm.trans (s3.trans (sl.trans s5)))
        · obtain ⟨y3, y4, y7, y8, y9, y10, y11, m, g, p1, rfl, sH, hpp, pl, hp1, R, hm⟩ := hP
          refine ⟨_, rfl, _, rfl, _, _, rfl, rfl, _, rfl, ?_⟩
          by_cases hlt : ((m : Nat) : Int) < lg
          · rw [decide_eq_true hlt]
            refine iteT ?_
            refine ⟨_, rfl, _, rfl, _, rfl, .ref L, pp, xs, placesOf ts, m, rfl, hpp, pl, nd, by omega, fun H6 pt tl s6 npt hpt htl0 => ?_⟩
            have htl : H6 pt = some (.lst ((placesOf ts).map fun q => tlV (tl q))) ∧ ∀ (q : Pl) (i : Nat), tl q = some i ↔ (placesOf ts)[i]? = some (q.1, q.2 + m) := And.intro hpt htl0
            have hp16 := s6 _ _ hp1
            refine ⟨_, rfl, _, rfl, p1, pt, _, _, rfl, .inl (.inl hp16), .inl (.inl htl.1), fun D3 hD3 => ?_⟩
            refine lc_it (walk_zip (K := K) (a := p1) (b := pt) (xs := (placesOf ts).map fun q => V.int (g q)) (ys := (placesOf ts).map fun q => tlV (tl q)) (n := (placesOf ts).length) (by rw [List.length_map, List.length_map]; omega)) (fun i H7 => ∃ zs, Same H6 H7 ∧ H7 D3 = some (.lst zs) ∧ EachIs (IsP H7) zs (((placesOf ts).take i).map (k2 ts m g))) ⟨[], same_new hD3, upd_same, .nil⟩
              (fun i H7 _ hP => ?_) (fun i x H7 H8 hi hP hy => ?_) (fun H7 hP => ?_)
            · obtain ⟨_, sm7, _⟩ := hP
              exact ⟨.inl (.inl (sm7 _ _ hp16)), .inl (.inl (sm7 _ _ htl.1))⟩
            · obtain ⟨zs, sm7, hz, ez⟩ := hP
              obtain ⟨Tp, x1, x2, rfl, nT', rfl, f1', f2'⟩ := hy
              have hip : i < (placesOf ts).length := hi
              have r1 : ((placesOf ts).map fun q => V.int (g q))[i]? = some (.int (g (placesOf ts)[i])) := by rw [List.getElem?_map, List.getElem?_eq_getElem hip]; rfl
              have r2 : ((placesOf ts).map fun q => tlV (tl q))[i]? = some (tlV (tl (placesOf ts)[i])) := by rw [List.getElem?_map, List.getElem?_eq_getElem hip]; rfl
              obtain rfl : V.int (g (placesOf ts)[i]) = x1 := Option.some.inj (r1.symm.trans f1')
              obtain rfl : tlV (tl (placesOf ts)[i]) = x2 := Option.some.inj (r2.symm.trans f2')
              have sT := same_new (o := HO.tup [V.int (g (placesOf ts)[i]), tlV (tl (placesOf ts)[i])]) nT'
              have hfin : ∀ (H9 : Hp) (u : Addr), Same H7 H9 → H9 u = none → ∃ acc, (upd H9 u (.tup [V.int (g (placesOf ts)[i]), V.int (tailK ts m g (placesOf ts)[i])])) D3 = some (.lst acc) ∧ acc.length < sizeLine ∧
                  ∃ zs, Same H6 (upd (upd H9 u (.tup [V.int (g (placesOf ts)[i]), V.int (tailK ts m g (placesOf ts)[i])])) D3 (.lst (acc ++ [.ref u]))) ∧ (upd (upd H9 u (.tup [V.int (g (placesOf ts)[i]), V.int (tailK ts m g (placesOf ts)[i])])) D3 (.lst (acc ++ [.ref u]))) D3 = some (.lst zs) ∧
                    EachIs (IsP (upd (upd H9 u (.tup [V.int (g (placesOf ts)[i]), V.int (tailK ts m g (placesOf ts)[i])])) D3 (.lst (acc ++ [.ref u])))) zs (((placesOf ts).take (i + 1)).map (k2 ts m g)) := fun H9 u s79 hu => by
                have su := same_new (o := HO.tup [V.int (g (placesOf ts)[i]), V.int (tailK ts m g (placesOf ts)[i])]) hu
                have s7u := s79.trans su
                have hzu := s7u _ _ hz
                refine ⟨zs, hzu, ?_, zs ++ [.ref u], same_at hD3 (sm7.trans s7u), upd_same, ?_⟩
                · rw [ez.length, List.length_map, List.length_take]
                  exact small1000 (by omega)
                · rw [List.take_add_one, List.getElem?_eq_getElem hip, List.map_append]
                  refine each_snoc ⟨u, _, _, rfl, rfl, TupK.lst hzu _ _ upd_same⟩ (ez.mono fun v k => ofP.keep ((TupK.of s7u).trans (TupK.lst hzu)))
              refine ⟨Tp, [_, _], rfl, .inl (.inl upd_same), rfl, _, [_], rfl, _, [], rfl, rfl, rfl, ?_⟩
              refine ⟨_, rfl, _, rfl, _, rfl, ?_⟩
              cases eo : tl (placesOf ts)[i] with
              | none =>
                rw [eo] at sT
                refine iteT ⟨_, rfl, by show 2 ≤ sizeLine; decide, fun u hu => ?_⟩
                have e1 : tailK ts m g (placesOf ts)[i] = -1 := tail_none fun j z => by
                  have := (htl.2 _ j).mpr z
                  rw [eo] at this
                  cases this
                have := hfin _ u sT hu
                rw [e1] at this
                exact this
              | some j =>
                rw [eo] at sT
                have ej := (htl.2 _ j).mp eo
                have e1 : tailK ts m g (placesOf ts)[i] = g ((placesOf ts)[i].1, (placesOf ts)[i].2 + m) := tail_some ej
                have gj : ((placesOf ts).map fun q => V.int (g q))[j]? = some (.int (tailK ts m g (placesOf ts)[i])) := by rw [List.getElem?_map, ej, e1]; rfl
                refine iteF ⟨_, rfl, _, rfl, p1, _, (j : Nat), _, rfl, rfl, .inl (.inl (sT _ _ (sm7 _ _ hp16))), atI_nat gj, by show 2 ≤ sizeLine; decide, fun u hu => ?_⟩
                exact hfin _ u sT hu
            · obtain ⟨zs, sm7, hz, ez⟩ := hP
              rw [List.take_length] at ez
              refine ⟨_, rfl, D3, zs, _, rfl, hz, ez, by rw [List.length_map]; omega, fun H8 p2 f2 s8 np8 hp8 mono2 => ?_⟩
              have R2 := rk_two R hm mono2
              rw [List.map_map] at hp8
              have s68 := s6.trans (sm7.trans s8)
              refine ⟨_, rfl, _, _, rfl, rfl, .inl ⟨by decide, by decide⟩, ?_⟩
              have e2m : (2 : Int) * ((m : Nat) : Int) = ((2 * m : Nat) : Int) := by omega
              refine ⟨⟨y3, y4, some (.ref pt), some (.ref D3), y9, y10, y11, 2 * m, fun q => (f2 (k2 ts m g q) : Int), p2, by rw [← e2m]; rfl, sH.trans s68, s68 _ _ hpp, pl.same s68, hp8, R2, by omega⟩, ?_⟩
              show 100 - ((2 : Int) * ((m : Nat) : Int)).toNat < 100 - (((m : Nat) : Int)).toNat
              omega
          · rw [decide_eq_false hlt]
            refine iteF ?_
            have hmt : ∀ t ∈ ts, t.length ≤ m := fun t ht1 => by have := lgt t ht1; omega
            refine ⟨_, rfl, _, rfl, p1, pp, _, xs, _, _, rfl, .inl (.inl hp1), .inl (.inl hpp), by rw [List.length_map, pl.1], ints_dps g _, pl_dps pl, ?_, ?_, fun p zs H8 s8 np8 hp8 dz => ?_⟩
            · rw [zip_same]
              refine PySem.W.AllAlike.of fun b b' => ?_
              unfold pD
              simp [PySem.W.alike, PySem.W.alikeAll]
            · rw [zip_same]
              intro d hd
              obtain ⟨q, _, rfl⟩ := List.mem_map.mp hd
              unfold pD
              simp [PyData.depth, PyData.depthAll]
            rw [zip_same, srt_ranks R hmt] at dz
            refine ⟨p, rfl, ⟨_, .inl (.inl hp8)⟩, fun D3 hD3 => ?_⟩
            have zl : zs.length = (ordr ts).length := by rw [dps_len dz, List.length_map]
            have ol : (ordr ts).length ≤ 72 := by rw [(EP.ordr_perm ts).length_eq]; exact p72
            refine lc_it (walk_list (K := K) (a := p) (xs := zs)) (fun i H9 => ∃ ws, Same H8 H9 ∧ H9 D3 = some (.lst ws) ∧ PlsQ K H8 ws ((ordr ts).take i)) ⟨[], same_new hD3, upd_same, PlsQ.nil⟩ (fun i H9 _ hP => ?_) (fun i x H9 H10 hi hP hy => ?_) (fun H9 hP => ?_)
            · obtain ⟨_, sm9, _⟩ := hP
              exact .inl (.inl (sm9 _ _ hp8))
            · obtain ⟨ws, sm9, hw, pw⟩ := hP
              obtain ⟨rfl, hx⟩ := hy
              have hip : i < (ordr ts).length := by omega
              obtain ⟨v, e1, e2⟩ := dps_get dz (j := i) (by rw [List.getElem?_map, List.getElem?_eq_getElem hip]; rfl)
              obtain rfl : v = x := Option.some.inj (e1.symm.trans hx)
              cases e2 with
              | tup h1 h2 =>
                cases h2 with
                | cons a1 a2 =>
                  cases a1
                  cases a2 with
                  | cons b1 b2 =>
                    cases b2
                    obtain ⟨c, rfl, hc⟩ := dp_pl b1
                    refine ⟨_, [_, _], rfl, same_sqt sm9 h1, rfl, _, [_], rfl, _, [], rfl, rfl, rfl, _, rfl, ws, hw, ?_, ws ++ [.ref c], same_at hD3 sm9, upd_same, ?_⟩
                    · rw [pw.1, List.length_take]
                      exact small1000 (by omega)
                    · rw [List.take_add_one, List.getElem?_eq_getElem hip]
                      exact pw.snoc hc
            · obtain ⟨ws, sm9, hw, pw⟩ := hP
              rw [zl, List.take_length] at pw
              exact q H9 D3 ws (sH.trans (s8.trans sm9)) ((sH.trans s8).free hD3) hw (pw.same sm9)
        · obtain ⟨v, e1, v2, e2, i, j, f1, f2, k, f3, z⟩ := z
          exact ⟨v, e1, v2, e2, i, j, f1, f2, k, f3, hq _ _ z⟩
end
end Ep

namespace Ep
open PySem PySem.Spec PyProof.Rows L2
open EP (T Pl endOf placesOf ordr rowsOf Part)
open PySem.W (EachIs)
/-! ### parts -/
def pV : Part → List V
  | .sign c => [.str "sign", .str ⟨#[c]⟩]
  | .any => [.str "any"]
  | .lot l => [.str "lot", .str (tx l)]
/-- the part p stands at v -/
def PartAt (H : Hp) (v : V) (p : Part) : Prop := ∃ b, v = .ref b ∧ H b = some (.tup (pV p))
theorem PartAt.same {H H' : Hp} {v : V} {p : Part} (h : PartAt H v p) (s : Same H H') : PartAt H' v p := let ⟨b, e1, e2⟩ := h; ⟨b, e1, s _ _ e2⟩
theorem PartAt.tk {H H' : Hp} {v : V} {p : Part} (h : PartAt H v p) (s : TupK H H') : PartAt H' v p := let ⟨b, e1, e2⟩ := h; ⟨b, e1, s _ _ e2⟩
/-- signs are of the alphabet; lots ascend -/
def POk : Part → Prop
  | .sign c => 32 ≤ c ∧ c ≤ 126
  | .any => True
  | .lot l => l.Pairwise (· < ·) ∧ 1 ≤ l.length ∧ l.length ≤ 20 ∧ ∀ c ∈ l, 32 ≤ c ∧ c ≤ 126
section
variable {P : Program} {w : World} {K : PySem.W.Frag} {mg : Str → Option Value} {base : Heap}
/-! ### endings -/
theorem sc_endings : FnScope ["library"] ["library"] (defScope (topS 23)) := ⟨rfl, rfl, rfl, by decide +kernel, rfl, by decide +kernel, by decide +kernel⟩
theorem ok_endings {C : Addr} (C1 : Cl P w K mg base 2 "order_of" ["library"] (spOrder K C)) {f : Addr} {fd : FuncData} (F : Fun K "endings" "endings" (topS 23) f fd) : FnOk P w K mg base CX0 3 f fd ["library"] (spOrder K C) := by
  refine F.ok sc_endings (fun vs H Q E h => ?_) (fun cdv A outer s H vs Q E hr h => ?_)
  · obtain ⟨L, ts, rfl, _⟩ := h
    rfl
  · obtain ⟨L, ts, rfl, hL, ht, q⟩ := h
    refine ⟨_, pss_one (ps_ret (pe_c C1 hr (by rfl) (pa_cons (pv 0) pa_nil))), ?_⟩
    exact ⟨_, rfl, L, ts, rfl, hL, ht, fun H' p xs s1 np hp pls => q H' p xs s1 np hp pls⟩
def spCan : Sp := fun vs H Q _ => ∃ (b : Addr) (p : Part) (c : Nat), vs = [.ref b, .str ⟨#[c]⟩] ∧ H b = some (.tup (pV p)) ∧ Q (.bl (p.lets c)) H

theorem sc_can : FnScope ["part", "sign"] ["part", "sign"] (defScope (topS 38)) := ⟨rfl, rfl, rfl, by decide +kernel, rfl, by decide +kernel, by decide +kernel⟩
theorem ok_can (M : Nm mg) {f : Addr} {fd : FuncData} (F : Fun K "can_stand" "can_stand" (topS 38) f fd) : FnOk P w K mg base CX0 1 f fd ["part", "sign"] spCan := by
  refine F.ok sc_can (fun vs H Q E h => ?_) (fun cdv A outer s H vs Q E hr h => ?_)
  · obtain ⟨b, p, c, rfl, _⟩ := h
    rfl
  · obtain ⟨b, p, c, rfl, hb, q⟩ := h
    refine ⟨_, pss_cons (ps_if (pt_cmpR op_eq (pe_ix ix_tup (pv 0) pe_int (fun _ _ => rfl)) (pe_gs (by rfl) M.sign) (nomark _)) (pss_one (ps_ret (pe_cmpR op_eq (pv 1) (pe_ix ix_tup (pv 0) pe_int (fun _ _ => rfl)) (nomark _)))) pss_nil)
      (pss_one (ps_ret (pe_or (pe_cmpR op_eq (pe_ix ix_tup (pv 0) pe_int (fun _ _ => rfl)) (pe_gs (by rfl) M.any_) (nomark _)) (pe_one (pe_cmpR op_in_sign (pv 1) (pe_ix ix_tup (pv 0) pe_int (fun _ _ => rfl)) (by rfl)))))), ?_⟩
    cases p with
    | sign x =>
      refine ⟨_, rfl, b, _, 0, _, rfl, rfl, .inl (.inl hb), atI_nat (j := 0) rfl, rfl, _, rfl, iteT ?_⟩
      refine ⟨_, rfl, _, rfl, b, _, 1, _, rfl, rfl, .inl (.inl hb), atI_nat (j := 1) rfl, rfl, ?_⟩
      have e : decide (V.str ⟨#[c]⟩ = V.str ⟨#[x]⟩) = decide (c = x) := decide_eq_decide.mpr ⟨fun z => by simpa using z, fun z => by rw [z]⟩
      rw [e]
      exact q
    | any =>
      refine ⟨_, rfl, b, _, 0, _, rfl, rfl, .inl (.inl hb), atI_nat (j := 0) rfl, rfl, _, rfl, iteF ?_⟩
      refine ⟨_, rfl, b, _, 0, _, rfl, rfl, .inl (.inl hb), atI_nat (j := 0) rfl, rfl, _, rfl, iteT ?_⟩
      exact q
    | lot l =>
      refine ⟨_, rfl, b, _, 0, _, rfl, rfl, .inl (.inl hb), atI_nat (j := 0) rfl, rfl, _, rfl, iteF ?_⟩
      refine ⟨_, rfl, b, _, 0, _, rfl, rfl, .inl (.inl hb), atI_nat (j := 0) rfl, rfl, _, rfl, iteF ?_⟩
      refine ⟨_, rfl, _, rfl, b, _, 1, _, rfl, rfl, .inl (.inl hb), atI_nat (j := 1) rfl, c, tx l, rfl, rfl, ?_⟩
      exact q

theorem sc_lets : FnScope ["_law_part_here", "_law_sign"] ["_law_part_here", "_law_sign"] (defScope (topS 50)) := ⟨rfl, rfl, rfl, by decide +kernel, rfl, by decide +kernel, by decide +kernel⟩
theorem ok_lets (M : Nm mg) {f : Addr} {fd : FuncData} (F : Fun K "_law_lets" "_law_lets" (topS 50) f fd) : FnOk P w K mg base CX0 1 f fd ["_law_part_here", "_law_sign"] spCan := by
  refine F.ok sc_lets (fun vs H Q E h => ?_) (fun cdv A outer s H vs Q E hr h => ?_)
  · obtain ⟨b, p, c, rfl, _⟩ := h
    rfl
  · obtain ⟨b, p, c, rfl, hb, q⟩ := h
    refine ⟨_, pss_cons (ps_if (pt_cmpR op_eq (pe_ix ix_tup (pv 0) pe_int (fun _ _ => rfl)) pe_str (nomark _)) (pss_one (ps_ret (pe_cmpR op_eq (pv 1) (pe_ix ix_tup (pv 0) pe_int (fun _ _ => rfl)) (nomark _)))) pss_nil)
      (pss_one (ps_ret (pe_or (pe_cmpR op_eq (pe_ix ix_tup (pv 0) pe_int (fun _ _ => rfl)) pe_str (nomark _)) (pe_one (pe_cmpR op_in_sign (pv 1) (pe_ix ix_tup (pv 0) pe_int (fun _ _ => rfl)) (by rfl)))))), ?_⟩
    cases p with
    | sign x =>
      refine ⟨_, rfl, b, _, 0, _, rfl, rfl, .inl (.inl hb), atI_nat (j := 0) rfl, rfl, _, rfl, iteT ?_⟩
      refine ⟨_, rfl, _, rfl, b, _, 1, _, rfl, rfl, .inl (.inl hb), atI_nat (j := 1) rfl, rfl, ?_⟩
      have e : decide (V.str ⟨#[c]⟩ = V.str ⟨#[x]⟩) = decide (c = x) := decide_eq_decide.mpr ⟨fun z => by simpa using z, fun z => by rw [z]⟩
      rw [e]
      exact q
    | any =>
      refine ⟨_, rfl, b, _, 0, _, rfl, rfl, .inl (.inl hb), atI_nat (j := 0) rfl, rfl, _, rfl, iteF ?_⟩
      refine ⟨_, rfl, b, _, 0, _, rfl, rfl, .inl (.inl hb), atI_nat (j := 0) rfl, rfl, _, rfl, iteT ?_⟩
      exact q
    | lot l =>
      refine ⟨_, rfl, b, _, 0, _, rfl, rfl, .inl (.inl hb), atI_nat (j := 0) rfl, rfl, _, rfl, iteF ?_⟩
      refine ⟨_, rfl, b, _, 0, _, rfl, rfl, .inl (.inl hb), atI_nat (j := 0) rfl, rfl, _, rfl, iteF ?_⟩
      refine ⟨_, rfl, _, rfl, b, _, 1, _, rfl, rfl, .inl (.inl hb), atI_nat (j := 1) rfl, c, tx l, rfl, rfl, ?_⟩
      exact q

/-! ### is_sign, is_lot -/
def spSign : Sp := fun vs H Q _ => ∃ c : Nat, vs = [.str ⟨#[c]⟩] ∧ 32 ≤ c ∧ c ≤ 126 ∧ ∀ H', Same H H' → Q (.bl true) H'
theorem sc_sign : FnScope ["thing"] ["thing"] (defScope (topS 33)) := ⟨rfl, rfl, rfl, by decide +kernel, rfl, by decide +kernel, by decide +kernel⟩
theorem ok_sign (M : Nm mg) (C1 : Cl P w K mg base 1 "are_signs" ["thing"] spSigns) {f : Addr} {fd : FuncData} (F : Fun K "is_sign" "is_sign" (topS 33) f fd) : FnOk P w K mg base CX0 2 f fd ["thing"] spSign := by
  refine F.ok sc_sign (fun vs H Q E h => ?_) (fun cdv A outer s H vs Q E hr h => ?_)
  · obtain ⟨c, rfl, _⟩ := h
    rfl
  · obtain ⟨c, rfl, h1, h2, q⟩ := h
    refine ⟨_, pss_one (ps_ret (pe_and (pe_c C1 hr (by rfl) (pa_cons (pv 0) pa_nil)) (pe_one (pe_cmpR op_eq (pe_callB call_len_str (by rfl) M.len PySem.boot_len (pa_cons (pv 0) pa_nil)) pe_int (nomark _))))), ?_⟩
    refine ⟨_, rfl, [c], rfl, fun x hx => by rw [List.mem_singleton.mp hx]; exact ⟨h1, h2⟩, by show 1 ≤ 1000; omega, fun H1 s1 => ⟨_, rfl, iteT ?_⟩⟩
    refine ⟨_, rfl, _, rfl, by show 1 ≤ sizeLine; decide, rfl, ?_⟩
    exact q H1 s1
def spLot : Sp := fun vs H Q _ => ∃ l : T, vs = [.str (tx l)] ∧ POk (.lot l) ∧ ∀ H', Same H H' → Q (.bl true) H'
theorem sc_lot : FnScope ["thing", "one", "other"] ["thing"] (defScope (topS 34)) := ⟨rfl, rfl, rfl, by decide +kernel, rfl, by decide +kernel, by decide +kernel⟩
theorem ok_lot (M : Nm mg) (C1 : Cl P w K mg base 1 "are_signs" ["thing"] spSigns) {f : Addr} {fd : FuncData} (F : Fun K "is_lot" "is_lot" (topS 34) f fd) : FnOk P w K mg base CX0 2 f fd ["thing"] spLot := by
  refine F.ok sc_lot (fun vs H Q E h => ?_) (fun cdv A outer s H vs Q E hr h => ?_)
  · obtain ⟨l, rfl, _⟩ := h
    rfl
  · obtain ⟨l, rfl, ⟨h1, h2, h3, h4⟩, q⟩ := h
    refine ⟨_, pss_cons (ps_if (PW.pt (pw_or (pt_not (pt_val (pe_c C1 hr (by rfl) (pa_cons (pv 0) pa_nil)))) (pw_or1 (pt_not (pt_chain op_le op_le pe_int (pe_callB call_len_str (by rfl) M.len PySem.boot_len (pa_cons (pv 0) pa_nil)) (pe_gi (by rfl) M.mostOfLot)))))) pss_never pss_nil)
      (pss_one (ps_ret (pe_callB (cr_all rfl) (by rfl) M.all bt_all (pa_cons
        (pe_lc (own := [("one", 1), ("other", 2)]) (g := gTup K 2 (gCons (gName 1) (gCons (gName 2) gNil))) (tt := tYes) rfl sc_lot.nd (pi_zipS (by rfl) M.zip (pa_cons (pv 0) (pa_cons (pe_slice sl_str (pv 0) (po_some pe_int) po_none) pa_nil))) (blkOk_by (own := [("one", 1), ("other", 2)]) (N := ["thing", "one", "other"]) (sc := defScope (topS 34)) (by decide +kernel))
          (fun _ _ _ _ _ => pg_tup rfl (pgs_cons (pg_name (i := 1) sc_lot.nd rfl (.inl rfl)) (pgs_cons (pg_name (i := 2) sc_lot.nd rfl (.inl rfl)) pgs_nil))) (fun _ _ _ _ _ => pts_nil)
          (fun _ _ _ _ _ => pe_cmpR op_lt_str (pv 1) (pv 2) (nomark _))) pa_nil)))), ?_⟩
    have hz : (tx l).length ≤ sizeLine := by rw [tx_len]; exact Nat.le_of_lt (small1000 (by omega))
    refine ⟨_, rfl, l, rfl, h4, by omega, fun H1 s1 => ⟨_, rfl, iteF ?_⟩⟩
    refine ⟨_, rfl, _, rfl, hz, _, _, rfl, rfl, _, rfl, ?_⟩
    rw [decide_eq_true (by rw [tx_len]; omega)]
    refine iteT ⟨_, _, rfl, rfl, _, rfl, ?_⟩
    rw [decide_eq_true (by rw [tx_len]; omega)]
    refine iteF ?_
    refine ⟨_, rfl, _, rfl, 1, rfl, tx l, rfl, hz, ?_⟩
    rw [show cutS (tx l) (some 1) none = tx (l.drop 1) from cut_from l 1]
    refine ⟨_, _, _, _, rfl, .txt _, .txt _, fun D hD => ?_⟩
    refine lc_it (walk_zipS (x := .str (tx l)) (y := .str (tx (l.drop 1))) (xs := signsV (tx l)) (ys := signsV (tx (l.drop 1))) (n := l.length - 1) (by unfold signsV; rw [List.length_map, List.length_map, tx_list, tx_list, List.length_drop]; omega)) (fun i H' => Same H1 H' ∧ H' D = some (.lst (List.replicate i (.bl true)))) ⟨same_new hD, upd_same⟩ (fun _ _ _ _ => ⟨.txt _, .txt _⟩) (fun i x H2 H3 hi hP hy => ?_) (fun H' hP => ?_)
    · obtain ⟨sm, hd⟩ := hP
      obtain ⟨Tp, x1, x2, rfl, nT', rfl, f1, f2⟩ := hy
      have hi1 : i < l.length := by omega
      have hi2 : i + 1 < l.length := by omega
      have g1 : (signsV (tx l))[i]? = some (.str ⟨#[l[i]]⟩) := by unfold signsV; rw [List.getElem?_map, tx_list, List.getElem?_eq_getElem hi1]; rfl
      have g2 : (signsV (tx (l.drop 1)))[i]? = some (.str ⟨#[l[i + 1]]⟩) := by
        unfold signsV
        rw [List.getElem?_map, tx_list, List.getElem?_drop, Nat.add_comm 1 i, List.getElem?_eq_getElem hi2]
        rfl
      obtain rfl : V.str ⟨#[l[i]]⟩ = x1 := Option.some.inj (g1.symm.trans f1)
      obtain rfl : V.str ⟨#[l[i + 1]]⟩ = x2 := Option.some.inj (g2.symm.trans f2)
      have lt := List.pairwise_iff_getElem.mp h1 i (i + 1) hi1 hi2 (Nat.lt_succ_self _)
      have sT := same_new (o := HO.tup [V.str ⟨#[l[i]]⟩, V.str ⟨#[l[i + 1]]⟩]) nT'
      refine ⟨Tp, [_, _], rfl, .inl (.inl upd_same), rfl, _, [_], rfl, _, [], rfl, rfl, rfl, ?_⟩
      refine ⟨_, rfl, _, rfl, _, _, rfl, rfl, _, sT _ _ hd, ?_, same_at hD (sm.trans sT), ?_⟩
      · rw [List.length_replicate]
        exact small1000 (by omega)
      · have e : decide (([l[i]] : List Nat) < [l[i + 1]]) = true := decide_eq_true (EP.t_cons.mpr (.inl lt))
        rw [upd_same]
        show some (HO.lst (_ ++ [V.bl (decide (([l[i]] : List Nat) < [l[i + 1]]))])) = _
        rw [e, List.replicate_succ']
    · obtain ⟨sm, hd⟩ := hP
      have e : List.replicate (l.length - 1) (V.bl true) = (List.replicate (l.length - 1) true).map V.bl := by rw [List.map_replicate]
      rw [e] at hd
      refine ⟨D, _, rfl, .inl (.inl hd), ?_⟩
      have e2 : (List.replicate (l.length - 1) true).all id = true := List.all_eq_true.mpr fun x hx => by rw [List.eq_of_mem_replicate hx]; rfl
      rw [e2]
      exact q H' (s1.trans sm)
end
end Ep

namespace Ep
open PySem PySem.Spec PyProof.Rows L2
open EP (T Pl endOf placesOf ordr rowsOf Part)
open PySem.W (EachIs)
/-- the written dict of the parts' sizes -/
structure Sz (K : PySem.W.Frag) (w : World) (mg : Str → Option Value) : Prop where
  ex : ∃ d, mg "SIZES" = some (.ref d) ∧ KDict K w d ∧ KGet K w d "sign" (some (.int 2)) ∧ KGet K w d "any" (some (.int 1)) ∧ KGet K w d "lot" (some (.int 2))
section
variable {P : Program} {w : World} {K : PySem.W.Frag} {mg : Str → Option Value} {base : Heap}
/-! ### is_part -/
def spPart : Sp := fun vs H Q _ => ∃ (b : Addr) (p : Part), vs = [.ref b] ∧ H b = some (.tup (pV p)) ∧ POk p ∧ ∀ H', Same H H' → Q (.bl true) H'
theorem sc_part : FnScope ["thing"] ["thing"] (defScope (topS 35)) := ⟨rfl, rfl, rfl, by decide +kernel, rfl, by decide +kernel, by decide +kernel⟩
theorem ok_part (M : Nm mg) (S : Sz K w mg) (C1 : Cl P w K mg base 1 "is_sized" ["thing", "least", "most"] spSized) (C2 : Cl P w K mg base 2 "is_sign" ["thing"] spSign) (C3 : Cl P w K mg base 2 "is_lot" ["thing"] spLot)
    {f : Addr} {fd : FuncData} (F : Fun K "is_part" "is_part" (topS 35) f fd) : FnOk P w K mg base CX0 3 f fd ["thing"] spPart := by
  refine F.ok sc_part (fun vs H Q E h => ?_) (fun cdv A outer s H vs Q E hr h => ?_)
  · obtain ⟨b, p, rfl, _⟩ := h
    rfl
  · obtain ⟨b, p, rfl, hb, ok, q⟩ := h
    obtain ⟨d, hd, kd, k1, k2, k3⟩ := S.ex
    refine ⟨_, pss_cons (ps_if (PW.pt (pw_or (pt_not (pt_val (pe_c C1 (hr.mono (by decide)) (by rfl) (pa_cons (pv 0) (pa_cons pe_int (pa_cons pe_int pa_nil))))))
        (pw_or (pt_not (pt_val (pe_callB RZ.call_isTy (by rfl) M.isinstance bt_isinstance (pa_cons (pe_ix ix_tup (pv 0) pe_int (fun _ _ => rfl)) (pa_cons (pe_bltn (v := .ty "str") (by rfl) M.str bt_str rfl) pa_nil)))))
        (pw_or1 (pt_cmpR op_ne (pe_kget (pe_glob (v := .ref d) (by rfl) hd rfl) (pe_ix ix_tup (pv 0) pe_int (fun _ _ => rfl)) pe_int ⟨by rfl, by rfl, by rfl, by rfl⟩) (pe_callB call_len_seq (by rfl) M.len PySem.boot_len (pa_cons (pv 0) pa_nil)) (nomark _)))))) pss_never pss_nil)
      (pss_cons (ps_if (pt_cmpR op_eq (pe_ix ix_tup (pv 0) pe_int (fun _ _ => rfl)) (pe_gs (by rfl) M.sign) (nomark _)) (pss_one (ps_ret (pe_c C2 hr (by rfl) (pa_cons (pe_ix ix_tup (pv 0) pe_int (fun _ _ => rfl)) pa_nil)))) pss_nil)
      (pss_cons (ps_if (pt_cmpR op_eq (pe_ix ix_tup (pv 0) pe_int (fun _ _ => rfl)) (pe_gs (by rfl) M.lot) (nomark _)) (pss_one (ps_ret (pe_c C3 hr (by rfl) (pa_cons (pe_ix ix_tup (pv 0) pe_int (fun _ _ => rfl)) pa_nil)))) pss_nil)
      (pss_one (ps_ret (pe_or (pe_cmpR op_eq (pe_ix ix_tup (pv 0) pe_int (fun _ _ => rfl)) (pe_gs (by rfl) M.any_) (nomark _)) (pe_one pe_never)))))), ?_⟩
    cases p with
    | sign c =>
      refine ⟨_, rfl, b, pV (.sign c), 1, 3, rfl, hb, (by show (1 : Int) ≤ ((2 : Nat) : Int); decide), (by show ((2 : Nat) : Int) ≤ 3; decide), _, rfl, iteF ?_⟩
      refine ⟨_, rfl, b, _, 0, _, rfl, rfl, .inl (.inl hb), atI_nat (j := 0) rfl, _, _, rfl, .str _, _, rfl, iteF ?_⟩
      refine ⟨d, rfl, kd, _, rfl, b, _, 0, _, rfl, rfl, .inl (.inl hb), atI_nat (j := 0) rfl, _, _, rfl, k1, _, rfl, b, _, rfl, .inr (.inl (.inl hb)), rfl, _, rfl, iteF ?_⟩
      refine ⟨_, rfl, b, _, 0, _, rfl, rfl, .inl (.inl hb), atI_nat (j := 0) rfl, rfl, _, rfl, iteT ?_⟩
      refine ⟨_, rfl, b, _, 1, _, rfl, rfl, .inl (.inl hb), atI_nat (j := 1) rfl, c, rfl, ok.1, ok.2, fun H1 s1 => ?_⟩
      exact q H1 s1
    | any =>
      refine ⟨_, rfl, b, pV .any, 1, 3, rfl, hb, (by show (1 : Int) ≤ ((1 : Nat) : Int); decide), (by show ((1 : Nat) : Int) ≤ 3; decide), _, rfl, iteF ?_⟩
      refine ⟨_, rfl, b, _, 0, _, rfl, rfl, .inl (.inl hb), atI_nat (j := 0) rfl, _, _, rfl, .str _, _, rfl, iteF ?_⟩
      refine ⟨d, rfl, kd, _, rfl, b, _, 0, _, rfl, rfl, .inl (.inl hb), atI_nat (j := 0) rfl, _, _, rfl, k2, _, rfl, b, _, rfl, .inr (.inl (.inl hb)), rfl, _, rfl, iteF ?_⟩
      refine ⟨_, rfl, b, _, 0, _, rfl, rfl, .inl (.inl hb), atI_nat (j := 0) rfl, rfl, _, rfl, iteF ?_⟩
      refine ⟨_, rfl, b, _, 0, _, rfl, rfl, .inl (.inl hb), atI_nat (j := 0) rfl, rfl, _, rfl, iteF ?_⟩
      refine ⟨_, rfl, b, _, 0, _, rfl, rfl, .inl (.inl hb), atI_nat (j := 0) rfl, rfl, _, rfl, iteT ?_⟩
      exact q H (Same.refl H)
    | lot l =>
      refine ⟨_, rfl, b, pV (.lot l), 1, 3, rfl, hb, (by show (1 : Int) ≤ ((2 : Nat) : Int); decide), (by show ((2 : Nat) : Int) ≤ 3; decide), _, rfl, iteF ?_⟩
      refine ⟨_, rfl, b, _, 0, _, rfl, rfl, .inl (.inl hb), atI_nat (j := 0) rfl, _, _, rfl, .str _, _, rfl, iteF ?_⟩
      refine ⟨d, rfl, kd, _, rfl, b, _, 0, _, rfl, rfl, .inl (.inl hb), atI_nat (j := 0) rfl, _, _, rfl, k3, _, rfl, b, _, rfl, .inr (.inl (.inl hb)), rfl, _, rfl, iteF ?_⟩
      refine ⟨_, rfl, b, _, 0, _, rfl, rfl, .inl (.inl hb), atI_nat (j := 0) rfl, rfl, _, rfl, iteF ?_⟩
      refine ⟨_, rfl, b, _, 0, _, rfl, rfl, .inl (.inl hb), atI_nat (j := 0) rfl, rfl, _, rfl, iteT ?_⟩
      refine ⟨_, rfl, b, _, 1, _, rfl, rfl, .inl (.inl hb), atI_nat (j := 1) rfl, l, rfl, ok, fun H1 s1 => ?_⟩
      exact q H1 s1
/-! ### is_pattern, check_pattern -/
def spPat (r : V) : Sp := fun vs H Q _ => ∃ (a : Addr) (xs : List V) (pat : List Part), vs = [.ref a] ∧ H a = some (.tup xs) ∧ EachIs (PartAt H) xs pat ∧ (∀ p ∈ pat, POk p) ∧ 1 ≤ pat.length ∧ pat.length ≤ 30 ∧ ∀ H', Same H H' → Q r H'
theorem each_same {H H' : Hp} {xs : List V} {pat : List Part} (h : EachIs (PartAt H) xs pat) (s : Same H H') : EachIs (PartAt H') xs pat := h.mono fun _ _ z => z.same s
theorem sc_pat : FnScope ["thing", "part", "gaps", "one", "other"] ["thing"] (defScope (topS 36)) := ⟨rfl, rfl, rfl, by decide +kernel, rfl, by decide +kernel, by decide +kernel⟩
abbrev nPat : List Str := ["thing", "part", "gaps", "one", "other"]
/-- no part is a gap -/
theorem no_gap (p : Part) : ∃ z r, pV p = .str z :: r ∧ decide (V.str z = V.str "gap") = false := by
  cases p with
  | sign c => exact ⟨_, _, rfl, rfl⟩
  | any => exact ⟨_, _, rfl, rfl⟩
  | lot l => exact ⟨_, _, rfl, rfl⟩
theorem rep_succ {α : Type} (n : Nat) (x : α) : List.replicate n x ++ [x] = List.replicate (n + 1) x := List.replicate_succ'.symm
theorem ok_pat (M : Nm mg) (C1 : Cl P w K mg base 1 "is_sized" ["thing", "least", "most"] spSized) (C2 : Cl P w K mg base 3 "is_part" ["thing"] spPart)
    {f : Addr} {fd : FuncData} (F : Fun K "is_pattern" "is_pattern" (topS 36) f fd) : FnOk P w K mg base CX0 4 f fd ["thing"] (spPat (.bl true)) := by
  refine F.ok sc_pat (fun vs H Q E h => ?_) (fun cdv A outer s H vs Q E hr h => ?_)
  · obtain ⟨a, xs, pat, rfl, _⟩ := h
    rfl
  · obtain ⟨a, xs, pat, rfl, ha, hx, ok, l1, l2, q⟩ := h
    refine ⟨_, pss_cons (ps_if (PW.pt (pw_or (pt_not (pt_val (pe_c C1 (hr.mono (by decide)) (by rfl) (pa_cons (pv 0) (pa_cons pe_int (pa_cons (pe_gi (by rfl) M.mostParts) pa_nil))))))
        (pw_or1 (pt_not (pt_val (pe_callB (cr_all rfl) (by rfl) M.all bt_all (pa_cons (pe_lc (own := [("part", 1)]) (g := gName 1) (tt := tYes) rfl sc_pat.nd (pi_tup (pv 0)) (blkOk_by (own := [("part", 1)]) (N := nPat) (sc := defScope (topS 36)) (by decide +kernel)) (fun _ _ _ _ _ => pg_name (i := 1) sc_pat.nd rfl (Or.inl rfl)) (fun _ _ _ _ _ => pts_nil)
          (fun _ _ _ _ _ => pe_c C2 hr (by rfl) (pa_cons (pv 1) pa_nil))) pa_nil))))))) pss_never pss_nil)
      (pss_cons (ps_setLc (i := 2) (own := [("part", 1)]) (g := gName 1) (tt := tYes) rfl sc_pat.nd rfl rfl (sw_true rfl rfl rfl (by decide +kernel)) (pi_tup (pv 0)) (blkOk_by (own := [("part", 1)]) (N := nPat) (sc := defScope (topS 36)) (by decide +kernel)) (fun _ _ _ _ _ => pg_name (i := 1) sc_pat.nd rfl (Or.inl rfl)) (fun _ _ _ _ _ => pts_nil)
          (fun _ _ _ _ _ => pe_cmpR op_eq (pe_ix (ix_tupK (K := K) rfl) (pv 1) pe_int (fun _ _ => rfl)) (pe_gs (by rfl) M.gap) (nomark _)))
      (pss_one (ps_ret (pe_and (pe_not (pe_ix ix_list (pv 2) pe_int (fun _ _ => rfl))) (pe_and (pe_not (pe_ix ix_list (pv 2) (pe_un un_neg pe_int) (fun _ _ => rfl))) (pe_one (pe_not (pe_callB (cr_any rfl) (by rfl) M.any bt_any (pa_cons
        (pe_lc (own := [("one", 3), ("other", 4)]) (g := gTup K 2 (gCons (gName 3) (gCons (gName 4) gNil))) (tt := tYes) rfl sc_pat.nd (pi_zip (by rfl) M.zip (pa_cons (pv 2) (pa_cons (pe_slice sl_list (pv 2) (po_some pe_int) po_none) pa_nil))) (blkOk_by (own := [("one", 3), ("other", 4)]) (N := nPat) (sc := defScope (topS 36)) (by decide +kernel))
          (fun _ _ _ _ _ => pg_tup rfl (pgs_cons (pg_name (i := 3) sc_pat.nd rfl (.inl rfl)) (pgs_cons (pg_name (i := 4) sc_pat.nd rfl (.inl rfl)) pgs_nil))) (fun _ _ _ _ _ => pts_nil)
          (fun _ _ _ _ _ => pe_and (pv 3) (pe_one (pv 4)))) pa_nil))))))))), ?_⟩
    have xl : xs.length = pat.length := hx.length
    refine ⟨_, rfl, a, xs, 1, 30, rfl, ha, by omega, by omega, _, rfl, iteF ?_⟩
    refine ⟨_, rfl, a, rfl, ⟨_, .inl (.inl ha)⟩, fun D hD => ?_⟩
    refine lc_it (walk_tup (K := K) (a := a) (xs := xs)) (fun i H' => Same H H' ∧ H' D = some (.lst (List.replicate i (.bl true)))) ⟨same_new hD, upd_same⟩ (fun i H2 _ hP => .inl (.inl (hP.1 _ _ ha))) (fun i x H2 H3 hi hP hy => ?_) (fun H1 hP => ?_)
    · obtain ⟨sm, hd⟩ := hP
      obtain ⟨rfl, hx1⟩ := hy
      obtain ⟨p, hp, b, rfl, hb⟩ := each_get hx hx1
      refine ⟨rfl, _, rfl, b, p, rfl, sm _ _ hb, ok p (List.mem_of_getElem? hp), fun H4 s4 => ?_⟩
      refine ⟨_, s4 _ _ hd, ?_, same_at hD (sm.trans s4), ?_⟩
      · rw [List.length_replicate]
        exact small1000 (by omega)
      · rw [upd_same, rep_succ]
    · obtain ⟨s1, hd⟩ := hP
      have e : List.replicate xs.length (V.bl true) = (List.replicate xs.length true).map V.bl := by rw [List.map_replicate]
      rw [e] at hd
      refine ⟨D, _, rfl, .inl (.inl hd), _, rfl, ?_⟩
      have e2 : (List.replicate xs.length true).all id = true := List.all_eq_true.mpr fun x hx => by rw [List.eq_of_mem_replicate hx]; rfl
      rw [e2]
      refine iteF ?_
      -- gaps
      refine ⟨_, rfl, a, rfl, ⟨_, .inl (.inl (s1 _ _ ha))⟩, fun D2 hD2 => ?_⟩
      refine lc_it (walk_tup (K := K) (a := a) (xs := xs)) (fun i H' => Same H1 H' ∧ H' D2 = some (.lst (List.replicate i (.bl false)))) ⟨same_new hD2, upd_same⟩ (fun i H2 _ hP => .inl (.inl (hP.1 _ _ (s1 _ _ ha)))) (fun i x H2 H3 hi hP hy => ?_) (fun H2 hP => ?_)
      · obtain ⟨sm, hd⟩ := hP
        obtain ⟨rfl, hx1⟩ := hy
        obtain ⟨p, hp, b, rfl, hb⟩ := each_get hx hx1
        obtain ⟨z, r, e3, e4⟩ := no_gap p
        rw [e3] at hb
        refine ⟨rfl, _, rfl, b, _, 0, _, rfl, rfl, .inl (.inl (sm _ _ (s1 _ _ hb))), atI_nat (j := 0) rfl, rfl, ?_⟩
        rw [e4]
        refine ⟨_, hd, ?_, same_at hD2 sm, ?_⟩
        · rw [List.length_replicate]
          exact small1000 (by omega)
        · rw [upd_same, rep_succ]
      · obtain ⟨s2, hd2⟩ := hP
        obtain ⟨n, hn⟩ : ∃ n, xs.length = n + 1 := ⟨xs.length - 1, by omega⟩
        rw [hn] at hd2
        have at0 : (List.replicate (n + 1) (V.bl false))[0]? = some (.bl false) := rfl
        refine ⟨_, rfl, D2, _, 0, _, rfl, rfl, .inl (.inl hd2), atI_nat (j := 0) at0, _, rfl, _, rfl, iteT ?_⟩
        refine ⟨_, rfl, 1, rfl, D2, _, -1, _, rfl, rfl, .inl (.inl hd2), (by rw [← rep_succ]; exact atI_last _ _), _, rfl, _, rfl, ?_⟩
        refine iteT ?_
        refine ⟨_, rfl, _, rfl, 1, rfl, D2, _, rfl, .inl (.inl hd2), fun p hp => ?_⟩
        have sp := same_new (o := HO.lst (cutV (List.replicate (n + 1) (V.bl false)) (some 1) none)) hp
        refine ⟨D2, p, _, _, rfl, .inl (.inl (sp _ _ hd2)), .inl (.inl upd_same), fun D3 hD3 => ?_⟩
        refine lc_it (walk_zip (K := K) (a := D2) (b := p) (xs := List.replicate (n + 1) (V.bl false)) (ys := cutV (List.replicate (n + 1) (V.bl false)) (some 1) none) rfl) (fun i H' => Same (upd H2 p (.lst (cutV (List.replicate (n + 1) (V.bl false)) (some 1) none))) H' ∧ H' D3 = some (.lst (List.replicate i (.bl false)))) ⟨same_new hD3, upd_same⟩
          (fun i H3 _ hP => ⟨.inl (.inl (hP.1 _ _ (sp _ _ hd2))), .inl (.inl (hP.1 _ _ upd_same))⟩) (fun i x H3 H4 hi hP hy => ?_) (fun H3 hP => ?_)
        · obtain ⟨sm, hd3⟩ := hP
          obtain ⟨Tp, x1, x2, rfl, nT', rfl, f1, f2⟩ := hy
          rw [List.length_replicate] at hi
          have hi1 : i < n + 1 := Nat.lt_of_lt_of_le hi (Nat.min_le_left _ _)
          have g1 : (List.replicate (n + 1) (V.bl false))[i]? = some (.bl false) := by rw [List.getElem?_replicate, if_pos hi1]
          obtain rfl : V.bl false = x1 := Option.some.inj (g1.symm.trans f1)
          have sT := same_new (o := HO.tup [V.bl false, x2]) nT'
          refine ⟨Tp, [_, _], rfl, .inl (.inl upd_same), rfl, _, [_], rfl, _, [], rfl, rfl, rfl, ?_⟩
          refine ⟨_, rfl, _, rfl, iteF ⟨_, sT _ _ hd3, ?_, same_at hD3 (sm.trans sT), ?_⟩⟩
          · rw [List.length_replicate]
            exact small1000 (by omega)
          · rw [upd_same, rep_succ]
        · obtain ⟨sm, hd3⟩ := hP
          rw [show ∀ k, List.replicate k (V.bl false) = (List.replicate k false).map V.bl from fun k => by rw [List.map_replicate]] at hd3
          refine ⟨D3, _, rfl, .inl (.inl hd3), _, rfl, ?_⟩
          have e2 : ∀ k, (List.replicate k false).any id = false := fun k => List.any_eq_false.mpr fun x hx => by rw [List.eq_of_mem_replicate hx]; exact Bool.false_ne_true
          rw [e2]
          exact q H3 (s1.trans (s2.trans (sp.trans sm)))
theorem sc_check : FnScope ["thing"] ["thing"] (defScope (topS 37)) := ⟨rfl, rfl, rfl, by decide +kernel, rfl, by decide +kernel, by decide +kernel⟩
theorem ok_check (C1 : Cl P w K mg base 4 "is_pattern" ["thing"] (spPat (.bl true))) {f : Addr} {fd : FuncData} (F : Fun K "check_pattern" "check_pattern" (topS 37) f fd) : FnOk P w K mg base CX0 5 f fd ["thing"] (spPat .non) := by
  refine F.ok sc_check (fun vs H Q E h => ?_) (fun cdv A outer s H vs Q E hr h => ?_)
  · obtain ⟨a, xs, pat, rfl, _⟩ := h
    rfl
  · obtain ⟨a, xs, pat, rfl, ha, hx, ok, l1, l2, q⟩ := h
    refine ⟨_, pss_one (ps_if (pt_not (pt_val (pe_c C1 hr (by rfl) (pa_cons (pv 0) pa_nil)))) pss_never pss_nil), ?_⟩
    refine ⟨_, rfl, a, xs, pat, rfl, ha, hx, ok, l1, l2, fun H1 s1 => ⟨_, rfl, iteF ?_⟩⟩
    exact q H1 s1
end
end Ep

namespace Ep
open PySem PySem.Spec PyProof.Rows L2
open EP (T Pl endOf placesOf ordr rowsOf Part Grp pstep partTo partF)
open PySem.W (EachIs)
/-- a group stands at v -/
def IsG (H : Hp) (v : V) (g : Grp) : Prop := ∃ b, v = .ref b ∧ H b = some (.tup [.str ⟨#[g.1]⟩, .int (g.2.1 : Nat), .int (g.2.2 : Nat)])
theorem IsG.tk {H H' : Hp} {v : V} {g : Grp} (h : IsG H v g) (s : TupK H H') : IsG H' v g := let ⟨b, e1, e2⟩ := h; ⟨b, e1, s _ _ e2⟩
theorem partTo_len (R : List T) (low d : Nat) : ∀ m, (partTo R low d m).length ≤ m
  | 0 => Nat.le_refl _
  | m + 1 => by
    have ih := partTo_len R low d m
    show (pstep R d (partTo R low d m) (low + m)).length ≤ m + 1
    unfold pstep
    split
    · omega
    · split
      · split
        · rename_i g hg _
          have : (partTo R low d m) ≠ [] := fun z => by rw [z] at hg; cases hg
          have := List.length_pos_iff.mpr this
          rw [List.length_append, List.length_dropLast]
          simp
          omega
        · rw [List.length_append]
          simp
          omega
      · rw [List.length_append]
        simp
        omega
theorem each_last {α β : Type} {R : α → β → Prop} {as : List α} {bs : List β} (h : EachIs R as bs) {b : β} (e : bs.getLast? = some b) : ∃ as' a, as = as' ++ [a] ∧ R a b ∧ EachIs R as' bs.dropLast := by
  have hb := List.getLast?_eq_some_iff.mp e
  obtain ⟨ys, rfl⟩ := hb
  have hl := h.length
  have hne : as ≠ [] := fun z => by rw [z] at hl; simp at hl
  rw [← List.dropLast_concat_getLast hne] at h
  have key : ∀ {xs : List α} {a : α} {ys : List β}, EachIs R (xs ++ [a]) (ys ++ [b]) → R a b ∧ EachIs R xs ys := by
    intro xs
    induction xs with
    | nil =>
      intro a ys h
      cases ys with
      | nil =>
        cases h with
        | cons r _ => exact ⟨r, .nil⟩
      | cons y ys =>
        have := h.length
        simp at this
    | cons x xs ih =>
      intro a ys h
      cases ys with
      | nil =>
        have := h.length
        simp at this
      | cons y ys =>
        cases h with
        | cons r rs =>
          obtain ⟨q1, q2⟩ := ih rs
          exact ⟨q1, .cons r q2⟩
  obtain ⟨q1, q2⟩ := key h
  refine ⟨_, _, (List.dropLast_concat_getLast hne).symm, q1, ?_⟩
  rw [List.dropLast_concat]
  exact q2
section
variable {P : Program} {w : World} {K : PySem.W.Frag} {mg : Str → Option Value} {base : Heap}
def spParted : Sp := fun vs H Q _ => ∃ (r : Addr) (R : List T) (low high d : Nat), vs = [.ref r, .int (low : Nat), .int (high : Nat), .int (d : Nat)] ∧ H r = some (.lst (txV R)) ∧ low ≤ high ∧ high ≤ R.length ∧ R.length ≤ 100 ∧ (∀ t ∈ R, t.length ≤ 24) ∧
  ∀ (H' : Hp) (p : Addr) (xs : List V), Same H H' → H p = none → H' p = some (.lst xs) → EachIs (IsG H') xs (partF R low high d) → Q (.ref p) H'
theorem sc_parted : FnScope ["rows", "low", "high", "depth", "found", "number", "sign"] ["rows", "low", "high", "depth"] (defScope (topS 40)) := ⟨rfl, rfl, rfl, by decide +kernel, rfl, by decide +kernel, by decide +kernel⟩
theorem ok_parted (M : Nm mg) {f : Addr} {fd : FuncData} (F : Fun K "parted" "parted" (topS 40) f fd) : FnOk P w K mg base CX0 1 f fd ["rows", "low", "high", "depth"] spParted := by
  refine F.ok sc_parted (fun vs H Q E h => ?_) (fun cdv A outer s H vs Q E hr h => ?_)
  · obtain ⟨r, R, low, high, d, rfl, _⟩ := h
    rfl
  · obtain ⟨r, R, low, high, d, rfl, hR, l1, l2, l3, l4, q⟩ := h
    refine ⟨_, pss_cons (ps_set (i := 4) sc_parted.nd rfl (.inl rfl) (pe_lst pa_nil))
      (pss_cons (ps_for PassesOwn.never rfl (pi_range2 (by rfl) M.range (pa_cons (pv 1) (pa_cons (pv 2) pa_nil))) (pg_name (i := 5) sc_parted.nd rfl (.inl rfl))
        (pss_one (ps_if (pt_cmpR op_gt (pe_callB call_len_str (by rfl) M.len PySem.boot_len (pa_cons (pe_ix ix_list (pv 0) (pv 5) (fun _ _ => rfl)) pa_nil)) (pv 3) (nomark _))
          (pss_cons (ps_set (i := 6) sc_parted.nd rfl (.inl rfl) (pe_ix ix_str (pe_ix ix_list (pv 0) (pv 5) (fun _ _ => rfl)) (pv 3) (fun _ _ => rfl)))
          (pss_one (ps_if (PW.pt (pw_and (pt_cmpR op_gt (pe_callB call_len_seq (by rfl) M.len PySem.boot_len (pa_cons (pv 4) pa_nil)) pe_int (nomark _)) (pw_and1 (pt_cmpR op_eq (pe_ix ix_tup (pe_ix ix_list (pv 4) (pe_un un_neg pe_int) (fun _ _ => rfl)) pe_int (fun _ _ => rfl)) (pv 6) (nomark _)))))
            (pss_one (ps_asg (pe_tup (pa_cons (pv 6) (pa_cons (pe_ix ix_tup (pe_ix ix_list (pv 4) (pe_un un_neg pe_int) (fun _ _ => rfl)) pe_int (fun _ _ => rfl)) (pa_cons (pe_op op_add (pv 5) pe_int) pa_nil)))) (pg_sub (pv 4) (pe_un un_neg pe_int) set_list)))
            (pss_one (ps_expr (pe_bm PySem.F.plainAttrs_list PySem.F.slot_list_append PySem.F.type_list_append mt_append (pv 4) (pa_cons (pe_tup (pa_cons (pv 6) (pa_cons (pv 5) (pa_cons (pe_op op_add (pv 5) pe_int) pa_nil)))) pa_nil)))))))
          pss_nil)))
      (pss_one (ps_ret (pv 4)))), ?_⟩
    refine ⟨Nat.zero_le _, fun p hp => ?_⟩
    have s1 : Same H (upd H p (.lst [])) := same_new hp
    refine ⟨_, rfl, _, rfl, low, high, rfl, ⟨by omega, by omega, by omega, by omega⟩, ?_⟩
    refine for_it (walk_range (lo := (low : Nat)) (n := (((high : Nat) : Int) - ((low : Nat) : Int)).toNat)) (fun i σ H' => ∃ y5 y6 xs, σ = [some (.ref r), some (.int (low : Nat)), some (.int (high : Nat)), some (.int (d : Nat)), some (.ref p), y5, y6] ∧ Same H H' ∧ H' p = some (.lst xs) ∧ EachIs (IsG H') xs (partTo R low d i)) ⟨none, none, [], rfl, s1, upd_same, .nil⟩
      (fun _ _ _ _ _ => trivial) (fun i x σ H1 H2 hi hP hy => ?_) (fun σ H' hP => ?_)
    · obtain ⟨y5, y6, xs, rfl, sm, hpx, ex⟩ := hP
      have hc : ((low : Nat) : Int) + ((i : Nat) : Int) = ((low + i : Nat) : Int) := by omega
      obtain ⟨rfl, hx0⟩ := hy
      obtain rfl : x = V.int ((low + i : Nat) : Int) := hx0.trans (congrArg V.int hc)
      have hil : low + i < R.length := by omega
      have hx : (txV R)[low + i]? = some (.str (tx R[low + i])) := by rw [List.getElem?_map, List.getElem?_eq_getElem hil]; rfl
      have hl24 := l4 _ (List.getElem_mem hil)
      have xl := ex.length
      have pl := partTo_len R low d i
      have eg : R.getD (low + i) [] = R[low + i] := by rw [List.getD, List.getElem?_eq_getElem hil]; rfl
      refine ⟨_, rfl, _, rfl, r, _, _, _, rfl, rfl, .inl (.inl (sm _ _ hR)), atI_nat hx, _, rfl, by rw [tx_len]; exact Nat.le_of_lt (small1000 (by omega)), _, rfl, _, _, rfl, rfl, _, rfl, ?_⟩
      rw [tx_len]
      by_cases hd : d < (R[low + i]).length
      · rw [decide_eq_true (by omega)]
        have gc : (tx R[low + i]).cps.toList[d]? = some (R[low + i])[d] := List.getElem?_eq_getElem hd
        have sl : (tx R[low + i]).length ≤ sizeLine := by rw [tx_len]; exact Nat.le_of_lt (small1000 (by omega))
        have estep : partTo R low d (i + 1) = match (partTo R low d i).getLast? with
            | some g => if g.1 = (R[low + i])[d] then (partTo R low d i).dropLast ++ [((R[low + i])[d], g.2.1, low + i + 1)] else partTo R low d i ++ [((R[low + i])[d], low + i, low + i + 1)]
            | none => partTo R low d i ++ [((R[low + i])[d], low + i, low + i + 1)] := by
          show pstep R d (partTo R low d i) (low + i) = _
          unfold pstep
          rw [eg, List.getElem?_eq_getElem hd]
          try (cases (partTo R low d i).getLast? <;> rfl)
        refine iteT ⟨_, rfl, _, rfl, r, _, _, _, rfl, rfl, .inl (.inl (sm _ _ hR)), atI_nat hx, _, rfl, _, _, _, rfl, rfl, sl, atI_nat gc, ?_⟩
        refine ⟨_, rfl, p, _, rfl, .inl (.inl (.inl hpx)), _, _, rfl, rfl, _, rfl, ?_⟩
        have eadd : ((low + i : Nat) : Int) + 1 = ((low + i + 1 : Nat) : Int) := by omega
        cases e : (partTo R low d i).getLast? with
        | none =>
          rw [e] at estep
          have en : partTo R low d i = [] := List.getLast?_eq_none_iff.mp e
          have xn : xs = [] := List.length_eq_zero_iff.mp (by rw [xl, en]; rfl)
          subst xn
          refine iteF ?_
          refine ⟨_, rfl, .inl ⟨rfl, _, SqL.of hpx⟩, _, rfl, _, rfl, _, rfl, _, _, rfl, rfl, by show 3 ≤ sizeLine; decide, fun u hu => ?_⟩
          have su := same_new (o := HO.tup [V.str ⟨#[(R[low + i])[d]]⟩, V.int ((low + i : Nat) : Int), V.int (((low + i : Nat) : Int) + 1)]) hu
          refine ⟨_, _, _, rfl, rfl, su _ _ hpx, by show 0 < sizeLine; decide, ?_⟩
          refine ⟨_, _, [] ++ [.ref u], rfl, same_at hp (sm.trans su), upd_same, ?_⟩
          rw [estep]
          refine each_snoc ⟨u, rfl, ?_⟩ (ex.mono fun v g z => (z.tk (TupK.of su)).tk (TupK.lst (su _ _ hpx)))
          refine TupK.lst (su _ _ hpx) _ _ ?_
          rw [upd_same, eadd]
        | some g =>
          rw [e] at estep
          obtain ⟨xs', ve, rfl, ⟨b, rfl, hb⟩, ex'⟩ := each_last ex e
          have hpos : decide ((0 : Int) < ((xs' ++ [V.ref b]).length : Nat)) = true := decide_eq_true (by rw [List.length_append]; show (0 : Int) < ((xs'.length + 1 : Nat) : Int); omega)
          rw [hpos]
          refine iteT ?_
          refine ⟨_, rfl, 1, rfl, p, _, -1, _, rfl, rfl, .inl (.inl hpx), atI_last _ _, b, _, 0, _, rfl, rfl, .inl (.inl hb), atI_nat (j := 0) rfl, _, rfl, rfl, _, rfl, ?_⟩
          have edec : decide (V.str ⟨#[g.1]⟩ = V.str ⟨#[(R[low + i])[d]]⟩) = decide (g.1 = (R[low + i])[d]) := decide_eq_decide.mpr ⟨fun z => by simpa using z, fun z => by rw [z]⟩
          rw [edec]
          by_cases hg : g.1 = (R[low + i])[d]
          · rw [decide_eq_true hg]
            have estep := estep.trans (if_pos hg)
            refine iteT ?_
            refine ⟨_, rfl, _, rfl, 1, rfl, p, _, -1, _, rfl, rfl, .inl (.inl hpx), atI_last _ _, b, _, 1, _, rfl, rfl, .inl (.inl hb), atI_nat (j := 1) rfl, _, rfl, _, _, rfl, rfl, by show 3 ≤ sizeLine; decide, fun u hu => ?_⟩
            have su := same_new (o := HO.tup [V.str ⟨#[(R[low + i])[d]]⟩, V.int (g.2.1 : Nat), V.int (((low + i : Nat) : Int) + 1)]) hu
            have hix : ixN (xs' ++ [V.ref b]).length (-1) = some xs'.length := by
              unfold ixN
              rw [if_neg (by omega), if_pos (by rw [List.length_append]; show -((xs'.length + 1 : Nat) : Int) ≤ -1; omega), List.length_append]
              congr 1
              show (-1 + ((xs'.length + 1 : Nat) : Int)).toNat = xs'.length
              omega
            refine ⟨_, rfl, 1, rfl, p, _, -1, _, rfl, rfl, su _ _ hpx, hix, ?_⟩
            have eset : (xs' ++ [V.ref b]).set xs'.length (V.ref u) = xs' ++ [V.ref u] := by
              rw [List.set_append_right _ _ (Nat.le_refl _), Nat.sub_self]
              rfl
            rw [eset]
            refine ⟨_, _, xs' ++ [.ref u], rfl, same_at hp (sm.trans su), upd_same, ?_⟩
            rw [estep]
            refine each_snoc ⟨u, rfl, ?_⟩ (ex'.mono fun v g z => (z.tk (TupK.of su)).tk (TupK.lst (su _ _ hpx)))
            refine TupK.lst (su _ _ hpx) _ _ ?_
            rw [upd_same, eadd]
          · rw [decide_eq_false hg]
            have estep := estep.trans (if_neg hg)
            refine iteF ?_
            refine ⟨_, rfl, .inl ⟨rfl, _, SqL.of hpx⟩, _, rfl, _, rfl, _, rfl, _, _, rfl, rfl, by show 3 ≤ sizeLine; decide, fun u hu => ?_⟩
            have su := same_new (o := HO.tup [V.str ⟨#[(R[low + i])[d]]⟩, V.int ((low + i : Nat) : Int), V.int (((low + i : Nat) : Int) + 1)]) hu
            refine ⟨_, _, _, rfl, rfl, su _ _ hpx, by rw [xl]; exact small1000 (by omega), ?_⟩
            refine ⟨_, _, (xs' ++ [.ref b]) ++ [.ref u], rfl, same_at hp (sm.trans su), upd_same, ?_⟩
            rw [estep]
            refine each_snoc ⟨u, rfl, ?_⟩ (ex.mono fun v g z => (z.tk (TupK.of su)).tk (TupK.lst (su _ _ hpx)))
            refine TupK.lst (su _ _ hpx) _ _ ?_
            rw [upd_same, eadd]
      · rw [decide_eq_false (by omega)]
        refine iteF ?_
        refine ⟨_, y6, xs, rfl, sm, hpx, ?_⟩
        have : partTo R low d (i + 1) = partTo R low d i := by
          show pstep R d (partTo R low d i) (low + i) = _
          unfold pstep
          rw [eg, List.getElem?_eq_none (by omega)]
        rw [this]
        exact ex
    · obtain ⟨y5, y6, xs, rfl, sm, hpx, ex⟩ := hP
      refine ⟨_, rfl, q H' p xs sm hp hpx ?_⟩
      have e : (((high : Nat) : Int) - ((low : Nat) : Int)).toNat = high - low := by omega
      rw [e] at ex
      exact ex
end
end Ep

namespace Ep
open PySem PySem.Spec PyProof.Rows L2
open EP (T Pl endOf placesOf ordr rowsOf Part Grp pstep partTo partF levF lookF nextF rng Srt)
open PySem.W (EachIs)
theorem inc_len : ∀ {l : List Nat} {m n : Nat}, l.Pairwise (· < ·) → (∀ x ∈ l, m ≤ x ∧ x < n) → m ≤ n → l.length + m ≤ n
  | [], m, n, _, _, h => by simpa using h
  | x :: l, m, n, hp, hb, h => by
    obtain ⟨h1, h2⟩ := List.pairwise_cons.mp hp
    have hx := hb x List.mem_cons_self
    have := inc_len (m := x + 1) (n := n) h2 (fun y hy => ⟨h1 y hy, (hb y (List.mem_cons_of_mem _ hy)).2⟩) hx.2
    rw [List.length_cons]
    omega
theorem lev_bound {R : List T} (hR : Srt R) (pat : List Part) {k : Nat} (hk : k ≤ pat.length) : (levF R pat k).length ≤ R.length + 1 ∧ ∀ q ∈ levF R pat k, q.1 ≤ q.2 ∧ q.2 ≤ R.length := by
  obtain ⟨ws, e, ha, hm⟩ := EP.levF_words hR pat k hk
  refine ⟨?_, fun q hq => ?_⟩
  · cases k with
    | zero =>
      show 1 ≤ R.length + 1
      omega
    | succ k =>
      have hs : ∀ w ∈ ws, ∃ r ∈ R, w <+: r := fun w hw => (((hm w).mp hw).2).resolve_left (by omega)
      have hl : ∀ w ∈ ws, w.length = k + 1 := fun w hw => by
        rw [EP.fitB_len ((hm w).mp hw).1, List.length_take]
        omega
      have as := EP.rng_asc hR ha hl hs
      rw [e]
      have as' : ((ws.map (rng R)).map (·.1)).Pairwise (· < ·) := by rw [List.pairwise_map]; exact as
      have := inc_len (m := 0) (n := R.length) as' (fun x hx => by
        obtain ⟨q, hq, rfl⟩ := List.mem_map.mp hx
        obtain ⟨w, hw, rfl⟩ := List.mem_map.mp hq
        obtain ⟨r, hr, hp⟩ := hs w hw
        have a1 := EP.rng_pos hR hr hp
        have a2 := EP.rng_le (R := R) w
        exact ⟨Nat.zero_le _, by omega⟩) (Nat.zero_le _)
      rw [List.length_map] at this
      omega
  · rw [e] at hq
    obtain ⟨w, hw, rfl⟩ := List.mem_map.mp hq
    exact ⟨EP.rng_low w, EP.rng_le w⟩
theorem rows_len {ts : List T} (h : Tok3 ts) : (rowsOf ts).length ≤ 72 := by
  unfold rowsOf
  rw [List.length_map, (EP.ordr_perm ts).length_eq]
  exact places_len h
theorem rows_24 {ts : List T} (h : Tok3 ts) : ∀ t ∈ rowsOf ts, t.length ≤ 24 := fun t ht => by
  obtain ⟨q, hq, rfl⟩ := EP.mem_rows.mp ht
  have l := EP.place_lt hq
  unfold endOf
  rw [List.length_drop]
  have e : ts.getD q.1 [] = ts[q.1] := by rw [List.getD, List.getElem?_eq_getElem l]; rfl
  rw [e]
  have := h.2.1 _ (List.getElem_mem l)
  omega
section
variable {P : Program} {w : World} {K : PySem.W.Frag} {mg : Str → Option Value} {base : Heap}
def spSearch (C : Addr) : Sp := fun vs H Q _ => ∃ (L a : Addr) (ts : List T) (xs : List V) (pat : List Part), vs = [.ref L, .ref a] ∧ LibAt C H L ts ∧ Tok3 ts ∧ H a = some (.tup xs) ∧ EachIs (PartAt H) xs pat ∧ (∀ p ∈ pat, POk p) ∧ 1 ≤ pat.length ∧ pat.length ≤ 30 ∧
  ∀ (H' : Hp) (p pf : Addr) (ys : List V), Same H H' → H p = none → H' p = some (.tup [.ref pf, .int (lookF (rowsOf ts) pat pat.length : Nat)]) → H' pf = some (.lst ys) → PlsAt H' ys (levF (rowsOf ts) pat pat.length) → Q (.ref p) H'
abbrev nSea : List Str := ["library", "pattern", "part", "rows", "place", "found", "looked", "depth", "later", "low", "high", "sign", "begin", "end"]
theorem sc_sea : FnScope nSea ["library", "pattern"] (defScope (topS 41)) := ⟨rfl, rfl, rfl, by decide +kernel, rfl, by decide +kernel, by decide +kernel⟩
/-- the pairs of the groups that may stand -/
def nxt (R : List T) (d : Nat) (p : Part) (q : Nat × Nat) : List (Nat × Nat) := ((partF R q.1 q.2 d).filter fun g => p.lets g.1).map (·.2)
theorem nxt_len (R : List T) (d : Nat) (p : Part) (q : Nat × Nat) {n : Nat} (h : q.2 ≤ n) : (nxt R d p q).length ≤ n := by
  unfold nxt
  rw [List.length_map]
  have a := List.length_filter_le (fun g : Grp => p.lets g.1) (partF R q.1 q.2 d)
  have b := partTo_len R q.1 d (q.2 - q.1)
  have c : (partF R q.1 q.2 d).length ≤ q.2 - q.1 := b
  omega
theorem ok_sea (M : Nm mg) {C : Addr} (C1 : Cl P w K mg base 5 "check_pattern" ["thing"] (spPat .non)) (C2 : Cl P w K mg base 3 "endings" ["library"] (spOrder K C)) (C3 : Cl P w K mg base 1 "ending_at" ["library", "place"] (spEnding K C))
    (C4 : Cl P w K mg base 1 "parted" ["rows", "low", "high", "depth"] spParted) (C5 : Cl P w K mg base 1 "can_stand" ["part", "sign"] spCan) {f : Addr} {fd : FuncData} (F : Fun K "searched" "searched" (topS 41) f fd) :
    FnOk P w K mg base CX0 6 f fd ["library", "pattern"] (spSearch C) := by
  refine F.ok sc_sea (fun vs H Q E h => ?_) (fun cdv A outer s H vs Q E hr h => ?_)
  · obtain ⟨L, a, ts, xs, pat, rfl, _⟩ := h
    rfl
  · obtain ⟨L, a, ts, xs, pat, rfl, hL, ht, ha, hx, ok, l1, l2, q⟩ := h
    have nd := sc_sea.nd
    refine ⟨_, pss_cons (ps_expr (pe_c C1 hr (by rfl) (pa_cons (pv 1) pa_nil)))
      (pss_cons (ps_if (pt_val (pe_callB (cr_any rfl) (by rfl) M.any bt_any (pa_cons
        (pe_lc (own := [("part", 2)]) (g := gName 2) (tt := tYes) rfl nd (pi_tup (pv 1)) (blkOk_by (own := [("part", 2)]) (N := nSea) (sc := defScope (topS 41)) (by decide +kernel)) (fun _ _ _ _ _ => pg_name (i := 2) sc_sea.nd rfl (Or.inl rfl)) (fun _ _ _ _ _ => pts_nil)
          (fun _ _ _ _ _ => pe_cmpR op_eq (pe_ix (ix_tupK (K := K) rfl) (pv 2) pe_int (fun _ _ => rfl)) (pe_gs (by rfl) M.gap) (nomark _))) pa_nil))) pss_never pss_nil)
      (pss_cons (ps_setLc (i := 3) (own := [("place", 4)]) (g := gName 4) (tt := tYes) rfl nd rfl rfl (sw_true rfl rfl rfl (by decide +kernel)) (pi_list (pe_c C2 (hr.mono (by decide)) (by rfl) (pa_cons (pv 0) pa_nil))) (blkOk_by (own := [("place", 4)]) (N := nSea) (sc := defScope (topS 41)) (by decide +kernel)) (fun _ _ _ _ _ => pg_name (i := 4) sc_sea.nd rfl (Or.inl rfl)) (fun _ _ _ _ _ => pts_nil)
          (fun _ _ _ _ _ => pe_c C3 (hr.mono (by decide)) (by rfl) (pa_cons (pv 0) (pa_cons (pv 4) pa_nil))))
      (pss_cons (ps_set (i := 5) nd rfl (.inl rfl) (pe_lst (pa_cons (pe_tup (pa_cons pe_int (pa_cons (pe_callB call_len_seq (by rfl) M.len PySem.boot_len (pa_cons (pv 3) pa_nil)) pa_nil))) pa_nil)))
      (pss_cons (ps_set (i := 6) nd rfl (.inl rfl) pe_int)
      (pss_cons (ps_for PassesOwn.never rfl (pi_enumS (by rfl) M.enumerate (pa_cons (pv 1) pa_nil)) (pg_tup rfl (pgs_cons (pg_name (i := 7) nd rfl (.inl rfl)) (pgs_cons (pg_name (i := 2) nd rfl (.inl rfl)) pgs_nil)))
        (pss_cons (ps_set (i := 8) nd rfl (.inl rfl) (pe_lst pa_nil))
        (pss_cons (ps_for PassesOwn.never rfl (pi_list (pv 5)) (pg_tup rfl (pgs_cons (pg_name (i := 9) nd rfl (.inl rfl)) (pgs_cons (pg_name (i := 10) nd rfl (.inl rfl)) pgs_nil)))
          (pss_one (ps_for PassesOwn.never rfl (pi_list (pe_c C4 (hr.mono (by decide)) (by rfl) (pa_cons (pv 3) (pa_cons (pv 9) (pa_cons (pv 10) (pa_cons (pv 7) pa_nil)))))) (pg_tup rfl (pgs_cons (pg_name (i := 11) nd rfl (.inl rfl)) (pgs_cons (pg_name (i := 12) nd rfl (.inl rfl)) (pgs_cons (pg_name (i := 13) nd rfl (.inl rfl)) pgs_nil))))
            (pss_one (ps_if (pt_val (pe_c C5 (hr.mono (by decide)) (by rfl) (pa_cons (pv 2) (pa_cons (pv 11) pa_nil)))) (pss_one (ps_expr (pe_bm PySem.F.plainAttrs_list PySem.F.slot_list_append PySem.F.type_list_append mt_append (pv 8) (pa_cons (pe_tup (pa_cons (pv 12) (pa_cons (pv 13) pa_nil))) pa_nil)))) pss_nil)))))
        (pss_cons (ps_aug (i := 6) nd rfl (.inl rfl) (pe_callB call_len_seq (by rfl) M.len PySem.boot_len (pa_cons (pv 8) pa_nil)) ip_add)
        (pss_one (ps_set (i := 5) nd rfl (.inl rfl) (pv 8)))))))
      (pss_one (ps_ret (pe_tup (pa_cons (pv 5) (pa_cons (pv 6) pa_nil)))))))))), ?_⟩
    have xl : xs.length = pat.length := hx.length
    have hS := EP.rows_srt ts
    have r72 := rows_len ht
    have r24 := rows_24 ht
    refine ⟨_, rfl, a, xs, pat, rfl, ha, hx, ok, l1, l2, fun H1 s1 => ?_⟩
    refine ⟨_, rfl, a, rfl, ⟨_, .inl (.inl (s1 _ _ ha))⟩, fun D hD => ?_⟩
    refine lc_it (walk_tup (K := K) (a := a) (xs := xs)) (fun i H' => Same H1 H' ∧ H' D = some (.lst (List.replicate i (.bl false)))) ⟨same_new hD, upd_same⟩ (fun i H2 _ hP => .inl (.inl (hP.1 _ _ (s1 _ _ ha)))) (fun i x H2 H3 hi hP hy => ?_) (fun H2 hP => ?_)
    · obtain ⟨sm, hd⟩ := hP
      obtain ⟨rfl, hx1⟩ := hy
      obtain ⟨p, hp, b, rfl, hb⟩ := each_get hx hx1
      obtain ⟨z, r, e3, e4⟩ := no_gap p
      rw [e3] at hb
      refine ⟨rfl, _, rfl, b, _, 0, _, rfl, rfl, .inl (.inl (sm _ _ (s1 _ _ hb))), atI_nat (j := 0) rfl, rfl, ?_⟩
      rw [e4]
      refine ⟨_, hd, ?_, same_at hD sm, ?_⟩
      · rw [List.length_replicate]
        exact small1000 (by omega)
      · rw [upd_same, rep_succ]
    · obtain ⟨s2, hd⟩ := hP
      rw [show ∀ k, List.replicate k (V.bl false) = (List.replicate k false).map V.bl from fun k => by rw [List.map_replicate]] at hd
      refine ⟨D, _, rfl, .inl (.inl hd), _, rfl, ?_⟩
      have e2 : ∀ k, (List.replicate k false).any id = false := fun k => List.any_eq_false.mpr fun x hx => by rw [List.eq_of_mem_replicate hx]; exact Bool.false_ne_true
      rw [e2]
      refine iteF ?_
      have s02 := s1.trans s2
      refine ⟨_, rfl, L, ts, rfl, hL.same s02, ht, fun H3 pe es s3 npe hpe pls => ?_⟩
      refine ⟨pe, rfl, ⟨_, .inl (.inl hpe)⟩, fun D2 hD2 => ?_⟩
      have ol : (ordr ts).length ≤ 72 := by rw [(EP.ordr_perm ts).length_eq]; exact places_len ht
      refine lc_it (walk_list (K := K) (a := pe) (xs := es)) (fun i H' => Same H3 H' ∧ H' D2 = some (.lst (txV ((rowsOf ts).take i)))) ⟨same_new hD2, upd_same⟩ (fun i H2 _ hP => .inl (.inl (hP.1 _ _ hpe))) (fun i x H4 H5 hi hP hy => ?_) (fun H4 hP => ?_)
      · obtain ⟨sm, hd⟩ := hP
        obtain ⟨rfl, hx1⟩ := hy
        have hip : i < (ordr ts).length := by rw [← pls.1]; exact hi
        obtain ⟨b, e1, e3⟩ := pls.2 i (ordr ts)[i] (List.getElem?_eq_getElem hip)
        obtain rfl : V.ref b = x := Option.some.inj (e1.symm.trans hx1)
        have er : (rowsOf ts)[i]? = some (endOf ts (ordr ts)[i]) := by unfold rowsOf; rw [List.getElem?_map, List.getElem?_eq_getElem hip]; rfl
        refine ⟨rfl, _, rfl, _, rfl, L, b, ts, _, _, rfl, hL.same (s02.trans (s3.trans sm)), ht, same_sqt sm e3, EP.place_lt (EP.mem_ordr.mp (List.getElem_mem hip)), _, hd, ?_, same_at hD2 sm, ?_⟩
        · rw [List.length_map, List.length_take]
          exact small1000 (by omega)
        · rw [upd_same, List.take_add_one, er]
          exact congrArg (fun z => some (HO.lst z)) (List.map_append (f := fun t : T => V.str (tx t)) (l₁ := (rowsOf ts).take i) (l₂ := [endOf ts (ordr ts)[i]])).symm
      · obtain ⟨s4, hd2⟩ := hP
        have el : es.length = (rowsOf ts).length := by rw [pls.1]; unfold rowsOf; rw [List.length_map]
        rw [el, List.take_length] at hd2
        refine ⟨_, rfl, D2, _, rfl, .inl (.inl (.inl hd2)), by show 2 ≤ sizeLine; decide, fun u hu => ⟨by show 1 ≤ sizeLine; decide, fun l hl => ?_⟩⟩
        have su := same_new (o := HO.tup [V.int 0, V.int ((txV (rowsOf ts)).length : Nat)]) hu
        have sl := same_new (o := HO.lst [V.ref u]) hl
        have s05 := s02.trans (s3.trans (s4.trans (su.trans sl)))
        refine ⟨_, rfl, _, _, rfl, .tup (s05 _ _ ha), ?_⟩
        refine for_it walk_enumS (fun i σ H' => ∃ (y2 y4 y7 y8 y9 y10 y11 y12 y13 : Option V) (pf : Addr) (ys : List V), σ = [some (.ref L), some (.ref a), y2, some (.ref D2), y4, some (.ref pf), some (.int (lookF (rowsOf ts) pat i : Nat)), y7, y8, y9, y10, y11, y12, y13] ∧ Same H H' ∧
            H' D2 = some (.lst (txV (rowsOf ts))) ∧ H' pf = some (.lst ys) ∧ PlsAt H' ys (levF (rowsOf ts) pat i))
          ⟨none, none, none, none, none, none, none, none, none, l, [.ref u], rfl, s05, sl _ _ (su _ _ hd2), upd_same, ?_⟩ (fun i σ H' _ hP => ?_) (fun i x σ H6 H7 hi hP hy => ?_) (fun σ H' hP => ?_)
        · have e5 : (txV (rowsOf ts)).length = (rowsOf ts).length := List.length_map _
          rw [e5]
          have : PlsAt (upd (upd H4 u (.tup [V.int 0, V.int ((rowsOf ts).length : Nat)])) l (.lst [V.ref u])) ([] ++ [.ref u]) ([] ++ [(0, (rowsOf ts).length)]) := by
            refine PlsAt.snoc PlsAt.nil ?_
            rw [e5] at sl
            exact sl _ _ upd_same
          exact this
        · obtain ⟨_, _, _, _, _, _, _, _, _, _, _, _, sm, _⟩ := hP
          exact .tup (sm _ _ ha)
        · obtain ⟨y2, y4, y7, y8, y9, y10, y11, y12, y13, pf, ys, rfl, sm, hrows, hpf, pys⟩ := hP
          obtain ⟨Tp, x1, x2, rfl, nT, rfl, f1, f2⟩ := hy
          obtain rfl : V.int (i : Nat) = x1 := Option.some.inj f1
          obtain ⟨p, hp, b, rfl, hb⟩ := each_get hx f2
          have hip : i < pat.length := (List.getElem?_eq_some_iff.mp hp).1
          have egp : pat.getD i .any = p := by rw [List.getD, hp]; rfl
          obtain ⟨lb1, lb2⟩ := lev_bound hS pat (k := i) (by omega)
          have sT := same_new (o := HO.tup [V.int (i : Nat), V.ref b]) nT
          refine ⟨Tp, [_, _], rfl, .inl (.inl upd_same), rfl, _, [_], rfl, _, [], rfl, rfl, ?_⟩
          refine ⟨Nat.zero_le _, fun m hm => ?_⟩
          have sm8 := same_new (o := HO.lst []) hm
          have sT8 := sT.trans sm8
          refine ⟨_, rfl, pf, rfl, ⟨_, .inl (.inl (sT8 _ _ hpf))⟩, ?_⟩
          refine for_it (walk_list (K := K) (a := pf) (xs := ys)) (fun j σ H' => ∃ (y9 y10 y11 y12 y13 : Option V) (zs : List V), σ = [some (.ref L), some (.ref a), some (.ref b), some (.ref D2), y4, some (.ref pf), some (.int (lookF (rowsOf ts) pat i : Nat)), some (.int (i : Nat)), some (.ref m), y9, y10, y11, y12, y13] ∧
              Same (upd H6 Tp (.tup [V.int (i : Nat), V.ref b])) H' ∧ H' m = some (.lst zs) ∧ zs.length ≤ 100 * j ∧ PlsAt H' zs (((levF (rowsOf ts) pat i).take j).flatMap (nxt (rowsOf ts) i p))) ⟨_, _, _, _, _, [], rfl, sm8, upd_same, Nat.zero_le _, PlsAt.nil⟩
            (fun j σ H' _ hP => ?_) (fun j x σ H8 H9 hj hP hy => ?_) (fun σ H8 hP => ?_)
          · obtain ⟨_, _, _, _, _, _, _, sm9, _⟩ := hP
            exact .inl (.inl (sm9 _ _ (sT _ _ hpf)))
          · obtain ⟨y9, y10, y11, y12, y13, zs, rfl, sm9, hmz, zl, pz⟩ := hP
            obtain ⟨rfl, hx1⟩ := hy
            have hjl : j < (levF (rowsOf ts) pat i).length := by rw [← pys.1]; exact hj
            obtain ⟨c, e1, e3⟩ := pys.2 j (levF (rowsOf ts) pat i)[j] (List.getElem?_eq_getElem hjl)
            obtain rfl : V.ref c = x := Option.some.inj (e1.symm.trans hx1)
            have hq := lb2 _ (List.getElem_mem hjl)
            have etk : ((levF (rowsOf ts) pat i).take (j + 1)).flatMap (nxt (rowsOf ts) i p) = ((levF (rowsOf ts) pat i).take j).flatMap (nxt (rowsOf ts) i p) ++ nxt (rowsOf ts) i p (levF (rowsOf ts) pat i)[j] := by
              rw [List.take_add_one, List.getElem?_eq_getElem hjl, List.flatMap_append]
              simp
            generalize (levF (rowsOf ts) pat i)[j] = qq at *
            have h9 := sm9 _ _ (sT _ _ e3)
            refine ⟨c, [_, _], rfl, .inl (.inl h9), rfl, _, [_], rfl, _, [], rfl, rfl, ?_⟩
            refine ⟨_, rfl, _, rfl, _, rfl, _, rfl, D2, rowsOf ts, qq.1, qq.2, i, rfl, sm9 _ _ (sT _ _ hrows), hq.1, hq.2, by omega, r24, fun H10 pg gs s10 npg hpg eg => ?_⟩
            refine ⟨pg, rfl, ⟨_, .inl (.inl hpg)⟩, ?_⟩
            have gl := eg.length
            have gpl := partTo_len (rowsOf ts) qq.1 i (qq.2 - qq.1)
            have gpl' : (partF (rowsOf ts) qq.1 qq.2 i).length ≤ qq.2 - qq.1 := gpl
            refine for_it (walk_list (K := K) (a := pg) (xs := gs)) (fun k σ H' => ∃ (y11 y12 y13 : Option V) (zs' : List V), σ = [some (.ref L), some (.ref a), some (.ref b), some (.ref D2), y4, some (.ref pf), some (.int (lookF (rowsOf ts) pat i : Nat)), some (.int (i : Nat)), some (.ref m), some (.int (qq.1 : Nat)), some (.int (qq.2 : Nat)), y11, y12, y13] ∧
                (∀ b o, b ≠ m → H10 b = some o → H' b = some o) ∧ H' m = some (.lst zs') ∧ zs'.length ≤ zs.length + k ∧ PlsAt H' zs' (((levF (rowsOf ts) pat i).take j).flatMap (nxt (rowsOf ts) i p) ++ (((partF (rowsOf ts) qq.1 qq.2 i).take k).filter fun g => p.lets g.1).map (·.2)))
              ⟨y11, y12, y13, zs, rfl, fun _ _ _ e => e, s10 _ _ hmz, by omega, ?_⟩ (fun k σ H' _ hP => ?_) (fun k x σ H11 H12 hk hP hy => ?_) (fun σ H11 hP => ?_)
            · rw [List.take_zero, List.filter_nil, List.map_nil, List.append_nil]
              exact pz.same s10
            · obtain ⟨_, _, _, _, _, kp, _⟩ := hP
              refine .inl (.inl (kp _ _ (fun z => ?_) hpg))
              rw [z] at npg
              rw [hmz] at npg
              cases npg
            · obtain ⟨y11, y12, y13, zs', rfl, kp, hmz', zl', pz'⟩ := hP
              obtain ⟨rfl, hx2⟩ := hy
              obtain ⟨g, hg, c2, rfl, hc2⟩ := each_get eg hx2
              have hc3 := kp c2 _ (fun z => by rw [z, s10 _ _ hmz] at hc2; cases hc2) hc2
              have hb3 := kp b _ (ne_of_none (sT _ _ (sm _ _ hb)) hm) (s10 _ _ (sm9 _ _ (sT _ _ (sm _ _ hb))))
              refine ⟨c2, [_, _, _], rfl, .inl (.inl hc3), rfl, _, [_, _], rfl, _, [_], rfl, _, [], rfl, rfl, ?_⟩
              refine ⟨_, rfl, _, rfl, b, p, g.1, rfl, hb3, _, rfl, ?_⟩
              have etk2 : (((partF (rowsOf ts) qq.1 qq.2 i).take (k + 1)).filter fun g => p.lets g.1).map (·.2) = (((partF (rowsOf ts) qq.1 qq.2 i).take k).filter fun g => p.lets g.1).map (·.2) ++ (if p.lets g.1 = true then [g.2] else []) := by
                rw [List.take_add_one, hg, List.filter_append, List.map_append]
                congr 1
                by_cases c : p.lets g.1 = true
                · rw [if_pos c]
                  simp [c]
                · rw [if_neg c]
                  simp [c]
              by_cases c : p.lets g.1 = true
              · rw [c]
                rw [if_pos c] at etk2
                refine iteT ⟨_, rfl, .inl ⟨rfl, _, SqL.of hmz'⟩, _, rfl, _, rfl, by show 2 ≤ sizeLine; decide, fun v hv => ?_⟩
                have sv := same_new (o := HO.tup [V.int (g.2.1 : Nat), V.int (g.2.2 : Nat)]) hv
                refine ⟨m, zs', _, rfl, rfl, sv _ _ hmz', Nat.lt_of_le_of_lt (show zs'.length ≤ 100000 by omega) (by decide), ?_⟩
                refine ⟨_, _, _, zs' ++ [.ref v], rfl, fun b' o hb' e => ?_, upd_same, by rw [List.length_append]; show zs'.length + 1 ≤ _; omega, ?_⟩
                · rw [upd_ne hb']
                  exact sv _ _ (kp b' o hb' e)
                · rw [etk2, ← List.append_assoc]
                  exact PlsAt.snoc ((pz'.same sv).tk (TupK.lst (sv _ _ hmz'))) (TupK.lst (sv _ _ hmz') _ _ upd_same)
              · rw [Bool.not_eq_true] at c
                rw [c]
                rw [if_neg (by rw [c]; exact Bool.false_ne_true)] at etk2
                refine iteF ⟨_, _, _, zs', rfl, kp, hmz', by omega, ?_⟩
                rw [etk2, List.append_nil]
                exact pz'
            · obtain ⟨y11, y12, y13, zs', rfl, kp, hmz', zl', pz'⟩ := hP
              refine ⟨_, _, _, _, _, zs', rfl, ?_, hmz', by rw [gl] at zl'; omega, ?_⟩
              · intro b o e
                exact kp b o (fun z => by rw [z, hm] at e; cases e) (s10 _ _ (sm9 _ _ e))
              · rw [etk]
                rw [gl, List.take_length] at pz'
                exact pz'
          · obtain ⟨y9, y10, y11, y12, y13, zs, rfl, sm9, hmz, zl, pz⟩ := hP
            rw [pys.1, List.take_length] at pz
            have elv : (levF (rowsOf ts) pat i).flatMap (nxt (rowsOf ts) i p) = levF (rowsOf ts) pat (i + 1) := by
              show _ = nextF (rowsOf ts) i (pat.getD i .any) (levF (rowsOf ts) pat i)
              rw [egp]
              rfl
            rw [elv] at pz
            refine ⟨_, rfl, _, rfl, m, zs, rfl, .inl (.inl (.inl hmz)), _, _, rfl, rfl, ?_⟩
            have elk : ((lookF (rowsOf ts) pat i : Nat) : Int) + ((zs.length : Nat) : Int) = ((lookF (rowsOf ts) pat (i + 1) : Nat) : Int) := by
              show _ = (((lookF (rowsOf ts) pat i) + (levF (rowsOf ts) pat (i + 1)).length : Nat) : Int)
              rw [pz.1]
              omega
            refine ⟨_, rfl, ?_⟩
            refine ⟨some (.ref b), y4, some (.int (i : Nat)), some (.ref m), y9, y10, y11, y12, y13, m, zs, by rw [← elk]; rfl, sm.trans (sT.trans sm9), sm9 _ _ (sT _ _ hrows), hmz, pz⟩
        · obtain ⟨y2, y4, y7, y8, y9, y10, y11, y12, y13, pf, ys, rfl, sm, hrows, hpf, pys⟩ := hP
          refine ⟨_, rfl, _, rfl, by show 2 ≤ sizeLine; decide, fun v hv => ?_⟩
          have sv := same_new (o := HO.tup [V.ref pf, V.int ((lookF (rowsOf ts) pat xs.length : Nat) : Int)]) hv
          rw [xl] at pys sv ⊢
          exact q _ v pf ys (sm.trans sv) (sm.free hv) upd_same (sv _ _ hpf) (pys.same sv)
end
end Ep

namespace Ep
open PySem PySem.Spec PyProof.Rows L2
open EP (T Pl endOf placesOf ordr rowsOf Part)
open PySem.W (EachIs)
/-- the pool at p, its great numbers at c -/
def Pool (p c : Addr) (H : Hp) : Prop := ∃ (sd n : Int) (ns : List Int), p ≠ c ∧ H p = some (.lst [.int sd, .int n, .ref c]) ∧ H c = some (.lst (ns.map V.int))
/-- all stays but the pool -/
def Sm (p c : Addr) (H H' : Hp) : Prop := ∀ b o, b ≠ p → b ≠ c → H b = some o → H' b = some o
theorem Sm.refl {p c : Addr} {H : Hp} : Sm p c H H := fun _ _ _ _ e => e
theorem Sm.trans {p c : Addr} {H H1 H2 : Hp} (a : Sm p c H H1) (b : Sm p c H1 H2) : Sm p c H H2 := fun x o h1 h2 e => b x o h1 h2 (a x o h1 h2 e)
theorem Sm.of {p c : Addr} {H H' : Hp} (s : Same H H') : Sm p c H H' := fun b o _ _ e => s b o e
theorem Pool.same {p c : Addr} {H H' : Hp} (h : Pool p c H) (s : Same H H') : Pool p c H' := let ⟨sd, n, ns, e1, e2, e3⟩ := h; ⟨sd, n, ns, e1, s _ _ e2, s _ _ e3⟩
/-- what is new isn't the pool -/
theorem Pool.ne {p c : Addr} {H : Hp} (h : Pool p c H) {b : Addr} (hb : H b = none) : b ≠ p ∧ b ≠ c := by
  obtain ⟨_, _, _, _, e2, e3⟩ := h
  exact ⟨(ne_of_none e2 hb).symm, (ne_of_none e3 hb).symm⟩
/-- tuples and texts aren't the pool -/
theorem Pool.nt {p c : Addr} {H : Hp} (h : Pool p c H) {b : Addr} {o : HO} (hb : H b = some o) (ho : ∀ xs, o ≠ .lst xs) : b ≠ p ∧ b ≠ c := by
  obtain ⟨_, _, _, _, e2, e3⟩ := h
  exact ⟨ne_of hb e2 (ho _), ne_of hb e3 (ho _)⟩
theorem Pool.upd {p c : Addr} {H : Hp} (h : Pool p c H) {b : Addr} {o : HO} (hb : b ≠ p ∧ b ≠ c) : Pool p c (upd H b o) := by
  obtain ⟨sd, n, ns, e1, e2, e3⟩ := h
  exact ⟨sd, n, ns, e1, by rw [upd_ne hb.1.symm]; exact e2, by rw [upd_ne hb.2.symm]; exact e3⟩
section
variable {P : Program} {w : World} {K : PySem.W.Frag} {mg : Str → Option Value} {base : Heap}
/-! ### _law_pool -/
def spPool (K : PySem.W.Frag) : Sp := fun vs H Q _ => ∃ (a : Addr) (ns : List Int), vs = [.ref a] ∧ SqL K H a (ns.map V.int) ∧ ns.length ≤ 100 ∧ ∀ (H' : Hp) (p c : Addr), Same H H' → H p = none → H c = none → Pool p c H' → Q (.ref p) H'
abbrev nPool : List Str := ["_law_script", "_law_seed", "_law_cell"]
theorem sc_pool : FnScope nPool ["_law_script"] (defScope (topS 43)) := ⟨rfl, rfl, rfl, by decide +kernel, rfl, by decide +kernel, by decide +kernel⟩
theorem cutV_map {ns : List Int} {lo hi : Option Int} : ∃ ms : List Int, cutV (ns.map V.int) lo hi = ms.map V.int ∧ ms.length ≤ ns.length := by
  refine ⟨(ns.drop (HT.sIx (ns.map V.int).length 0 lo)).take (HT.sIx (ns.map V.int).length (ns.map V.int).length hi - HT.sIx (ns.map V.int).length 0 lo), ?_, ?_⟩
  · unfold cutV
    rw [List.map_take, List.map_drop]
  · rw [List.length_take, List.length_drop]
    omega
theorem ok_pool (M : Nm mg) {f : Addr} {fd : FuncData} (F : Fun K "_law_pool" "_law_pool" (topS 43) f fd) : FnOk P w K mg base CX0 1 f fd ["_law_script"] (spPool K) := by
  refine F.ok sc_pool (fun vs H Q E h => ?_) (fun cdv A outer s H vs Q E hr h => ?_)
  · obtain ⟨a, ns, rfl, _⟩ := h
    rfl
  · obtain ⟨a, ns, rfl, ha, hl, q⟩ := h
    have nd := sc_pool.nd
    refine ⟨_, pss_cons (ps_set (i := 1) nd rfl (.inl rfl) (pe_op op_add (pe_op op_add (pe_op op_mod (pe_callTy call_int1 (by rfl) M.int bt_int (pa_cons (pe_callB (cr_sum rfl) (by rfl) M.sum bt_sum (pa_cons (pe_slice sl_list (pv 0) po_none (po_some pe_int)) pa_nil)) pa_nil)) pe_int) (pe_callB call_len_seq (by rfl) M.len PySem.boot_len (pa_cons (pv 0) pa_nil))) pe_int))
      (pss_cons (ps_for PassesOwn.never rfl (pi_list (pe_slice sl_list (pv 0) po_none (po_some pe_int))) (pg_name (i := 2) nd rfl (.inl rfl))
        (pss_one (ps_set (i := 1) nd rfl (.inl rfl) (pe_op op_mod (pe_callTy call_int1 (by rfl) M.int bt_int (pa_cons (pe_op op_add (pe_op op_add (pe_op op_mul (pv 1) pe_int) (pe_op op_mod (pe_callTy call_int1 (by rfl) M.int bt_int (pa_cons (pv 2) pa_nil)) pe_int)) pe_int) pa_nil)) pe_int))))
      (pss_one (ps_ret (pe_lst (pa_cons (pv 1) (pa_cons pe_int (pa_cons (pe_lc (own := [("_law_cell", 2)]) (g := gName 2) rfl nd (pi_list (pe_slice sl_list (pv 0) po_none (po_some pe_int))) (blkOk_by (own := [("_law_cell", 2)]) (N := nPool) (sc := defScope (topS 43)) (by decide +kernel)) (fun _ _ _ _ _ => pg_name (i := 2) sc_pool.nd rfl (Or.inl rfl))
        (fun _ _ _ _ _ => pts_one (pt_cmpR op_ge (pe_callB call_abs (by rfl) M.abs bt_abs (pa_cons (pv 2) pa_nil)) (pe_op op_pow pe_int pe_int) (nomark _)))
        (fun _ _ _ _ _ => pe_callB call_abs (by rfl) M.abs bt_abs (pa_cons (pv 2) pa_nil))) pa_nil))))))), ?_⟩
    refine ⟨_, rfl, 1, rfl, a, _, rfl, ha, fun p1 hp1 => ?_⟩
    obtain ⟨m1, e1, l1⟩ := cutV_map (ns := ns) (lo := none) (hi := some 1)
    rw [e1]
    have s1 := same_new (o := HO.lst (m1.map V.int)) hp1
    refine ⟨p1, m1, rfl, .inl (.inl upd_same), .inl ⟨_, rfl, _, _, rfl, rfl, (by show (0 : Int) < 1000003; decide), _, rfl, a, _, rfl, .inl (s1.seq ha), _, _, rfl, rfl, _, _, rfl, rfl, ?_⟩⟩
    refine ⟨_, rfl, 63, rfl, a, _, rfl, s1.seq ha, fun p2 hp2 => ?_⟩
    obtain ⟨m2, e2, l2⟩ := cutV_map (ns := ns) (lo := none) (hi := some 63)
    rw [e2]
    have s2 := same_new (o := HO.lst (m2.map V.int)) hp2
    refine ⟨p2, rfl, ⟨_, .inl (.inl upd_same)⟩, ?_⟩
    refine for_it (walk_list (K := K) (a := p2) (xs := m2.map V.int)) (fun i σ H' => ∃ (sd : Int) (y2 : Option V), σ = [some (.ref a), some (.int sd), y2] ∧ Same (upd (upd H p1 (.lst (m1.map V.int))) p2 (.lst (m2.map V.int))) H') ⟨_, none, rfl, Same.refl _⟩
      (fun i σ H' _ hP => ?_) (fun i x σ H1 H2 hi hP hy => ?_) (fun σ H' hP => ?_)
    · obtain ⟨_, _, _, sm⟩ := hP
      exact .inl (.inl (sm _ _ upd_same))
    · obtain ⟨sd, y2, rfl, sm⟩ := hP
      obtain ⟨rfl, hx⟩ := hy
      rw [List.getElem?_map] at hx
      obtain ⟨n, hn, rfl⟩ : ∃ n, m2[i]? = some n ∧ x = .int n := by
        cases e : m2[i]? with
        | none => rw [e] at hx; cases hx
        | some n =>
          rw [e] at hx
          exact ⟨n, rfl, (Option.some.inj hx).symm⟩
      refine ⟨_, rfl, _, _, rfl, rfl, .inr ⟨by decide, by decide⟩, _, rfl, .inl ⟨_, rfl, _, _, rfl, rfl, (by show (0 : Int) < 2147483629; decide), _, _, rfl, rfl, _, _, rfl, rfl, .inl ⟨_, rfl, _, _, rfl, rfl, (by show (0 : Int) < 2147483647; decide), ?_⟩⟩⟩
      exact ⟨_, _, rfl, sm⟩
    · obtain ⟨sd, y2, rfl, sm⟩ := hP
      have s02 := s1.trans (s2.trans sm)
      refine ⟨_, rfl, _, rfl, 63, rfl, a, _, rfl, s02.seq ha, fun p3 hp3 => ?_⟩
      rw [e2]
      have s3 := same_new (o := HO.lst (m2.map V.int)) hp3
      refine ⟨p3, rfl, ⟨_, .inl (.inl upd_same)⟩, fun D hD => ?_⟩
      refine lc_it (walk_list (K := K) (a := p3) (xs := m2.map V.int)) (fun i H2 => ∃ ks : List Int, ks.length ≤ i ∧ Same (upd H' p3 (.lst (m2.map V.int))) H2 ∧ H2 D = some (.lst (ks.map V.int))) ⟨[], Nat.le_refl _, same_new hD, upd_same⟩ (fun i H2 _ hP => ?_) (fun i x H1 H2 hi hP hy => ?_) (fun H2 hP => ?_)
      · obtain ⟨_, _, sm2, _⟩ := hP
        exact .inl (.inl (sm2 _ _ upd_same))
      · obtain ⟨ks, kl, sm2, hd⟩ := hP
        obtain ⟨rfl, hx⟩ := hy
        rw [List.length_map] at hi
        rw [List.getElem?_map] at hx
        obtain ⟨n, hn, rfl⟩ : ∃ n, m2[i]? = some n ∧ x = .int n := by
          cases e : m2[i]? with
          | none => rw [e] at hx; cases hx
          | some n =>
            rw [e] at hx
            exact ⟨n, rfl, (Option.some.inj hx).symm⟩
        refine ⟨rfl, _, rfl, _, rfl, _, _, rfl, rfl, ⟨by decide, by decide, by decide⟩, _, _, rfl, rfl, _, rfl, ?_⟩
        by_cases c : (10 : Int) ^ (18 : Int).toNat ≤ (if n < 0 then -n else n)
        · rw [decide_eq_true c]
          refine iteT ⟨_, rfl, _, rfl, _, hd, ?_, ks ++ [if n < 0 then -n else n], ?_, same_at hD sm2, ?_⟩
          · rw [List.length_map]
            exact small1000 (by omega)
          · rw [List.length_append]
            show ks.length + 1 ≤ i + 1
            omega
          · rw [upd_same, List.map_append]
            rfl
        · rw [decide_eq_false c]
          exact iteF ⟨ks, by omega, sm2, hd⟩
      · obtain ⟨ks, kl, sm2, hd⟩ := hP
        have s04 := s02.trans (s3.trans sm2)
        refine ⟨by show 3 ≤ sizeLine; decide, fun l hl => ?_⟩
        have sl := same_new (o := HO.lst [V.int sd, V.int 0, V.ref D]) hl
        refine q _ l D (s04.trans sl) (s04.free hl) ((s02.trans s3).free hD) ⟨sd, 0, ks, ne_of_none hd hl |> fun z => z.symm, upd_same, sl _ _ hd⟩
end
end Ep

namespace Ep
open PySem PySem.Spec PyProof.Rows L2
open EP (T Pl endOf placesOf ordr rowsOf Part)
open PySem.W (EachIs)
section
variable {P : Program} {w : World} {K : PySem.W.Frag} {mg : Str → Option Value} {base : Heap}
/-! ### _law_draw -/
def spDraw : Sp := fun vs H Q _ => ∃ (p c : Addr) (m : Nat), vs = [.ref p, .int (m : Nat)] ∧ 1 ≤ m ∧ m ≤ 1000 ∧ Pool p c H ∧ ∀ (H' : Hp) (d : Nat), d < m → Sm p c H H' → Pool p c H' → Q (.int (d : Nat)) H'
abbrev nDraw : List Str := ["_law_pool_here", "_law_many", "_law_cells", "_law_digit", "_law_mixed"]
theorem sc_draw : FnScope nDraw ["_law_pool_here", "_law_many"] (defScope (topS 44)) := ⟨rfl, rfl, rfl, by decide +kernel, rfl, by decide +kernel, by decide +kernel⟩
theorem sm_at {p c : Addr} {H H' : Hp} {o : HO} (h : Sm p c H H') : Sm p c H (upd H' p o) ∧ Sm p c H (upd H' c o) :=
  ⟨fun b x h1 h2 e => by rw [upd_ne h1]; exact h b x h1 h2 e, fun b x h1 h2 e => by rw [upd_ne h2]; exact h b x h1 h2 e⟩
theorem mod_nat {i : Int} {m : Nat} (hm : 1 ≤ m) : ∃ d : Nat, i.fmod (m : Nat) = (d : Nat) ∧ d < m := by
  have h1 := Int.fmod_nonneg_of_pos i (show (0 : Int) < (m : Nat) by omega)
  have h2 := Int.fmod_lt_of_pos i (show (0 : Int) < (m : Nat) by omega)
  exact ⟨(i.fmod (m : Nat)).toNat, by omega, by omega⟩
theorem mb1 (i : Int) : -(2 ^ 64 : Int) < i % 2147483647 ∧ i % 2147483647 < (2 ^ 64 : Int) := by
  have e : (2 : Int) ^ 64 = 18446744073709551616 := by decide
  rw [e]
  omega
theorem ix0 (x : Int) (ns : List Int) : ixN ((x :: ns).map V.int).length 0 = some 0 := by
  unfold ixN
  rw [if_pos (Int.le_refl _), if_pos (by rw [List.length_map, List.length_cons]; omega)]
  rfl
theorem ok_draw (M : Nm mg) {f : Addr} {fd : FuncData} (F : Fun K "_law_draw" "_law_draw" (topS 44) f fd) : FnOk P w K mg base CX0 1 f fd ["_law_pool_here", "_law_many"] spDraw := by
  refine F.ok sc_draw (fun vs H Q E h => ?_) (fun cdv A outer s H vs Q E hr h => ?_)
  · obtain ⟨p, c, m, rfl, _⟩ := h
    rfl
  · obtain ⟨p, c, m, rfl, h1, h2, hp, q⟩ := h
    have nd := sc_draw.nd
    refine ⟨_, pss_cons (ps_asg (pe_op op_add (pe_ix ix_list (pv 0) pe_int (fun _ _ => rfl)) pe_int) (pg_sub (pv 0) pe_int set_list))
      (pss_cons (ps_set (i := 2) nd rfl (.inl rfl) (pe_ix ix_list (pv 0) pe_int (fun _ _ => rfl)))
      (pss_cons (ps_if (pt_cmpR op_gt (pe_callB call_len_seq (by rfl) M.len PySem.boot_len (pa_cons (pv 2) pa_nil)) pe_int (nomark _))
        (pss_cons (ps_set (i := 3) nd rfl (.inl rfl) (pe_op op_modN (pe_callTy call_int1 (by rfl) M.int bt_int (pa_cons (pe_ix ix_list (pv 2) pe_int (fun _ _ => rfl)) pa_nil)) (pv 1)))
        (pss_cons (ps_asg (pe_op op_fdivN (pe_callTy call_int1 (by rfl) M.int bt_int (pa_cons (pe_ix ix_list (pv 2) pe_int (fun _ _ => rfl)) pa_nil)) (pv 1)) (pg_sub (pv 2) pe_int set_list))
        (pss_cons (ps_if (pt_cmpR op_eq (pe_ix ix_list (pv 2) pe_int (fun _ _ => rfl)) pe_int (nomark _)) (pss_one (ps_expr (pe_bm PySem.F.plainAttrs_list PySem.F.slot_list_pop PySem.F.type_list_pop mt_popAt (pv 2) (pa_cons pe_int pa_nil)))) pss_nil)
        (pss_one (ps_ret (pv 3)))))) pss_nil)
      (pss_cons (ps_set (i := 4) nd rfl (.inl rfl) (pe_op op_mod (pe_callTy call_int1 (by rfl) M.int bt_int (pa_cons (pe_op op_mul (pe_op op_add (pe_ix ix_list (pv 0) pe_int (fun _ _ => rfl)) (pe_op op_mul pe_int (pe_ix ix_list (pv 0) pe_int (fun _ _ => rfl)))) pe_int) pa_nil)) pe_int))
      (pss_cons (ps_set (i := 4) nd rfl (.inl rfl) (pe_op op_mod (pe_callTy call_int1 (by rfl) M.int bt_int (pa_cons (pe_op op_mul (pv 4) (pe_op op_add (pe_op op_fdivN (pv 4) pe_int) pe_int)) pa_nil)) pe_int))
      (pss_cons (ps_set (i := 4) nd rfl (.inl rfl) (pe_op op_mod (pe_callTy call_int1 (by rfl) M.int bt_int (pa_cons (pe_op op_mul (pv 4) (pe_op op_add (pe_op op_fdivN (pv 4) pe_int) pe_int)) pa_nil)) pe_int))
      (pss_one (ps_ret (pe_op op_modN (pe_callTy call_int1 (by rfl) M.int bt_int (pa_cons (pe_op op_fdivN (pv 4) pe_int) pa_nil)) (pv 1))))))))), ?_⟩
    obtain ⟨sd, n, ns, pc, e1, e2⟩ := hp
    refine ⟨_, rfl, p, _, 1, _, rfl, rfl, .inl (.inl e1), atI_nat (j := 1) rfl, _, _, rfl, rfl, _, rfl, p, _, 1, 1, rfl, rfl, e1, rfl, ?_⟩
    have sP := (sm_at (p := p) (c := c) (o := HO.lst [V.int sd, V.int (n + 1), V.ref c]) (Sm.refl (H := H))).1
    have e1' : (upd H p (.lst [V.int sd, V.int (n + 1), V.ref c])) p = some (.lst [V.int sd, V.int (n + 1), V.ref c]) := upd_same
    have e2' : (upd H p (.lst [V.int sd, V.int (n + 1), V.ref c])) c = some (.lst (ns.map V.int)) := by rw [upd_ne (fun z => pc z.symm)]; exact e2
    refine ⟨_, rfl, p, _, 2, _, rfl, rfl, .inl (.inl e1'), atI_nat (j := 2) rfl, ?_⟩
    refine ⟨_, rfl, c, _, rfl, .inl (.inl (.inl e2')), _, _, rfl, rfl, _, rfl, ?_⟩
    have hq : ∀ (i : Int) (H' : Hp), Sm p c H H' → Pool p c H' → Q (.int (i.fmod (m : Nat))) H' := fun i H' a b => by
      obtain ⟨d, ed, ld⟩ := mod_nat (i := i) h1
      rw [ed]
      exact q H' d ld a b
    cases ns with
    | nil =>
      refine iteF ?_
      refine ⟨_, rfl, p, _, 0, _, rfl, rfl, .inl (.inl e1'), atI_nat (j := 0) rfl, _, rfl, p, _, 1, _, rfl, rfl, .inl (.inl e1'), atI_nat (j := 1) rfl, _, _, rfl, rfl, .inl ⟨by decide, by decide⟩, _, _, rfl, rfl, _, _, rfl, rfl, .inr ⟨by decide, by decide⟩, .inl ⟨_, rfl, _, _, rfl, rfl, (by show (0 : Int) < 2147483647; decide), ?_⟩⟩
      refine ⟨_, rfl, _, rfl, _, _, rfl, rfl, ⟨by decide, by decide⟩, _, _, rfl, rfl, _, _, rfl, rfl, .inl (mb1 _), .inl ⟨_, rfl, _, _, rfl, rfl, (by show (0 : Int) < 2147483647; decide), ?_⟩⟩
      refine ⟨_, rfl, _, rfl, _, _, rfl, rfl, ⟨by decide, by decide⟩, _, _, rfl, rfl, _, _, rfl, rfl, .inl (mb1 _), .inl ⟨_, rfl, _, _, rfl, rfl, (by show (0 : Int) < 2147483399; decide), ?_⟩⟩
      refine ⟨_, rfl, _, _, rfl, rfl, ⟨by decide, by decide⟩, .inl ⟨_, rfl, _, rfl, _, _, rfl, rfl, (by show ((m : Nat) : Int) ≠ 0; omega), ?_⟩⟩
      exact hq _ _ sP ⟨sd, n + 1, [], pc, e1', e2'⟩
    | cons x ns =>
      rw [decide_eq_true (by rw [List.length_map, List.length_cons]; omega)]
      refine iteT ?_
      refine ⟨_, rfl, c, _, 0, _, rfl, rfl, .inl (.inl e2'), atI_nat (j := 0) rfl, .inl ⟨_, rfl, _, rfl, _, _, rfl, rfl, (by show ((m : Nat) : Int) ≠ 0; omega), ?_⟩⟩
      refine ⟨_, rfl, c, _, 0, _, rfl, rfl, .inl (.inl e2'), atI_nat (j := 0) rfl, .inl ⟨_, rfl, _, rfl, _, _, rfl, rfl, (by show ((m : Nat) : Int) ≠ 0 ∧ ((m : Nat) : Int).natAbs < 1073741824; omega), _, rfl, c, _, 0, 0, rfl, rfl, e2', ix0 _ _, ?_⟩⟩
      have e3 : ((V.int x :: ns.map V.int).set 0 (.int (x.fdiv (m : Nat)))) = (x.fdiv (m : Nat) :: ns).map V.int := rfl
      have hset : (upd (upd H p (.lst [V.int sd, V.int (n + 1), V.ref c])) c (.lst ((x.fdiv (m : Nat) :: ns).map V.int))) c = some (.lst ((x.fdiv (m : Nat) :: ns).map V.int)) := upd_same
      refine ⟨_, rfl, c, _, 0, _, rfl, rfl, .inl (.inl hset), atI_nat (j := 0) rfl, rfl, _, rfl, ?_⟩
      have sC := (sm_at (p := p) (c := c) (o := HO.lst ((x.fdiv (m : Nat) :: ns).map V.int)) sP).2
      have hP2 : Pool p c (upd (upd H p (.lst [V.int sd, V.int (n + 1), V.ref c])) c (.lst ((x.fdiv (m : Nat) :: ns).map V.int))) := ⟨sd, n + 1, _, pc, by rw [upd_ne pc]; exact e1', upd_same⟩
      by_cases cz : V.int (x.fdiv (m : Nat)) = V.int 0
      · rw [decide_eq_true cz]
        refine iteT ⟨_, rfl, .inl ⟨rfl, _, SqL.of hset⟩, c, _, 0, 0, _, rfl, rfl, hset, by decide, by decide, (ixN_seq (ix0 _ _)).1, rfl, ?_⟩
        refine ⟨_, rfl, ?_⟩
        refine hq _ _ (sm_at sC).2 ⟨sd, n + 1, ns, pc, ?_, upd_same⟩
        rw [upd_ne pc, upd_ne pc]
        exact e1'
      · rw [decide_eq_false cz]
        refine iteF ⟨_, rfl, ?_⟩
        exact hq _ _ sC hP2
end
end Ep

namespace Ep
open PySem PySem.Spec PyProof.Rows L2
open EP (T Pl endOf placesOf ordr rowsOf Part)
open PySem.W (EachIs)
/-! ### texts of the alphabet -/
def Al (l : T) : Prop := ∀ c ∈ l, 32 ≤ c ∧ c ≤ 126
theorem Al.take {l : T} (h : Al l) (n : Nat) : Al (l.take n) := fun c hc => h c (List.mem_of_mem_take hc)
theorem Al.drop {l : T} (h : Al l) (n : Nat) : Al (l.drop n) := fun c hc => h c (List.mem_of_mem_drop hc)
theorem Al.app {l m : T} (h : Al l) (k : Al m) : Al (l ++ m) := fun c hc => (List.mem_append.mp hc).elim (h c) (k c)
theorem Al.rep {l : T} (h : Al l) (n : Nat) : Al (List.replicate n l).flatten := fun c hc => by
  obtain ⟨m, hm, hc⟩ := List.mem_flatten.mp hc
  rw [List.eq_of_mem_replicate hm] at hc
  exact h c hc
theorem tx_app (l m : T) : tx l ++ tx m = tx (l ++ m) := by
  show (⟨l.toArray ++ m.toArray⟩ : Str) = ⟨(l ++ m).toArray⟩
  simp
def sg (l : T) : List Str := l.map fun c => ⟨#[c]⟩
theorem join_sg : ∀ l : T, Txt.join ⟨#[]⟩ (sg l) = tx l := fun l => by
  rw [TL.join_eq]
  have : ∀ l : T, (Str.join ⟨#[]⟩ (sg l)).cps.toList = l := fun l => by
    have e := TL.tl_join ⟨#[]⟩ (sg l)
    have j : ∀ l : T, TL.joinL [] ((sg l).map TL.tl) = l := fun l => by
      induction l with
      | nil => rfl
      | cons c l ih =>
        cases l with
        | nil => rfl
        | cons d l =>
          show [c] ++ ([] ++ TL.joinL [] ((sg (d :: l)).map TL.tl)) = _
          rw [ih]
          rfl
    exact e.trans (j l)
  have e := this l
  show Str.join ⟨#[]⟩ (sg l) = ⟨l.toArray⟩
  generalize Str.join ⟨#[]⟩ (sg l) = z at e ⊢
  obtain ⟨⟨zl⟩⟩ := z
  dsimp only at e
  rw [← e]
/-- the six alphabets -/
def sigs : List T := [[97, 98], [97, 98], [97, 98, 99], [97], [97, 98, 126, 32], [120, 121, 122, 63, 91, 123, 92]]
theorem sigs_ok : ∀ z ∈ sigs, (∀ c ∈ z, 32 ≤ c ∧ c ≤ 126) ∧ 1 ≤ z.length ∧ z.length ≤ 7 := by decide
section
variable {P : Program} {w : World} {K : PySem.W.Frag} {mg : Str → Option Value} {base : Heap}
def spTexts : Sp := fun vs H Q _ => ∃ (p c : Addr), vs = [.ref p, .int 24] ∧ Pool p c H ∧ ∀ (H' : Hp) (q : Addr) (ts : List T), Sm p c H H' → Pool p c H' → H q = none → H' q = some (.tup (txV ts)) → Tok3 ts → Q (.ref q) H'
abbrev nTex : List Str := ["_law_pool_here", "_law_most", "_law_signs", "_law_found", "_law_turn", "_law_text", "_law_at", "_law_kind"]
theorem sc_tex : FnScope nTex ["_law_pool_here", "_law_most"] (defScope (topS 46)) := ⟨rfl, rfl, rfl, by decide +kernel, rfl, by decide +kernel, by decide +kernel⟩
theorem Sm.free {p c : Addr} {H H1 : Hp} {b : Addr} (s : Sm p c H H1) (pl : Pool p c H1) (h : H1 b = none) : H b = none := by
  cases e : H b with
  | none => rfl
  | some o =>
    have n := pl.ne h
    rw [s b o n.1 n.2 e] at h
    cases h
theorem Sm.at {p c : Addr} {H H1 : Hp} {b : Addr} {o : HO} (s : Sm p c H H1) (h : H b = none) : Sm p c H (upd H1 b o) := fun x y h1 h2 e => by
  rw [upd_ne (ne_of_none e h)]
  exact s x y h1 h2 e
theorem sg_sum (l : T) : ((sg l).map (·.length)).sum = l.length := by
  induction l with
  | nil => rfl
  | cons c l ih =>
    show 1 + ((sg l).map (·.length)).sum = l.length + 1
    rw [ih]
    omega
theorem sg_V (l : T) : (sg l).map V.str = signsV (tx l) := by
  unfold sg signsV
  rw [List.map_map]
  rfl
theorem ok_texts (M : Nm mg) (C1 : Cl P w K mg base 1 "_law_draw" ["_law_pool_here", "_law_many"] spDraw) {f : Addr} {fd : FuncData} (F : Fun K "_law_texts" "_law_texts" (topS 46) f fd) : FnOk P w K mg base CX0 2 f fd ["_law_pool_here", "_law_most"] spTexts := by
  refine F.ok sc_tex (fun vs H Q E h => ?_) (fun cdv A outer s H vs Q E hr h => ?_)
  · obtain ⟨p, c, rfl, _⟩ := h
    rfl
  · obtain ⟨p, c, rfl, hp, q⟩ := h
    have nd := sc_tex.nd
    refine ⟨_, pss_cons (ps_set (i := 2) nd rfl (.inr rfl) (pe_ix ix_list (pe_lst (pa_cons pe_str (pa_cons pe_str (pa_cons pe_str (pa_cons pe_str (pa_cons pe_str (pa_cons pe_str pa_nil))))))) (pe_c C1 hr (by rfl) (pa_cons (pv 0) (pa_cons pe_int pa_nil))) (fun _ _ => rfl)))
      (pss_cons (ps_set (i := 3) nd rfl (.inl rfl) (pe_lst pa_nil))
      (pss_cons (ps_for PassesOwn.never rfl (pi_range1 (by rfl) M.range (pa_cons (pe_c C1 hr (by rfl) (pa_cons (pv 0) (pa_cons pe_int pa_nil))) pa_nil)) (pg_name (i := 4) nd rfl (.inl rfl))
        (pss_cons (ps_set (i := 5) nd rfl (.inl rfl) (pe_join pe_str (pe_lc (own := [("_law_at", 6)]) (g := gName 6) (tt := tYes) rfl nd (pi_range1 (by rfl) M.range (pa_cons (pe_c C1 hr (by rfl) (pa_cons (pv 0) (pa_cons (pe_op op_add (pv 1) pe_int) pa_nil))) pa_nil)) (blkOk_by (own := [("_law_at", 6)]) (N := nTex) (sc := defScope (topS 46)) (by decide +kernel)) (fun _ _ _ _ _ => pg_name (i := 6) sc_tex.nd rfl (Or.inl rfl)) (fun _ _ _ _ _ => pts_nil)
          (fun _ _ _ _ _ => pe_ix ix_str (pv 2) (pe_c C1 hr (by rfl) (pa_cons (pv 0) (pa_cons (pe_callB call_len_str (by rfl) M.len PySem.boot_len (pa_cons (pv 2) pa_nil)) pa_nil))) (fun _ _ => rfl)))))
        (pss_cons (ps_set (i := 7) nd rfl (.inl rfl) (pe_c C1 hr (by rfl) (pa_cons (pv 0) (pa_cons pe_int pa_nil))))
        (pss_cons (ps_if (PW.pt (pw_and (pt_cmpR op_eq (pv 7) pe_int (nomark _)) (pw_and1 (pt_cmpR op_gt (pe_callB call_len_seq (by rfl) M.len PySem.boot_len (pa_cons (pv 3) pa_nil)) pe_int (nomark _)))))
          (pss_one (ps_set (i := 5) nd rfl (.inl rfl) (pe_op op_add_str (pe_slice sl_str (pe_ix ix_list (pv 3) (pe_un un_neg pe_int) (fun _ _ => rfl)) po_none (po_some (pe_c C1 hr (by rfl) (pa_cons (pv 0) (pa_cons (pe_op op_add (pv 1) pe_int) pa_nil)))))
            (pe_slice sl_str (pv 5) po_none (po_some (pe_c C1 hr (by rfl) (pa_cons (pv 0) (pa_cons pe_int pa_nil)))))))) pss_nil)
        (pss_cons (ps_if (pt_cmpR op_eq (pv 7) pe_int (nomark _))
          (pss_one (ps_set (i := 5) nd rfl (.inl rfl) (pe_slice sl_str (pe_op op_mulS (pe_slice sl_str (pv 5) po_none (po_some (pe_op op_add pe_int (pe_c C1 hr (by rfl) (pa_cons (pv 0) (pa_cons pe_int pa_nil)))))) (pv 1)) po_none (po_some (pe_c C1 hr (by rfl) (pa_cons (pv 0) (pa_cons (pe_op op_add (pv 1) pe_int) pa_nil))))))) pss_nil)
        (pss_one (ps_expr (pe_bm PySem.F.plainAttrs_list PySem.F.slot_list_append PySem.F.type_list_append mt_append (pv 3) (pa_cons (pe_slice sl_str (pv 5) po_none (po_some (pv 1))) pa_nil)))))))))
      (pss_one (ps_ret (pe_callTy call_tuple_of (by rfl) M.tuple bt_tuple (pa_cons (pv 3) pa_nil)))))), ?_⟩
    refine ⟨by show 6 ≤ sizeLine; decide, fun l0 hl0 => ?_⟩
    have s0 := fun o => same_new (o := o) hl0
    have l0n := hp.ne hl0
    refine ⟨_, rfl, p, c, 6, rfl, by decide, by decide, hp.same (s0 _), fun H1 d hd sm1 pl1 => ?_⟩
    have hl1 := sm1 _ _ l0n.1 l0n.2 upd_same
    have gz : ∃ z, z ∈ sigs ∧ [V.str "ab", V.str "ab", V.str "abc", V.str "a", V.str "ab~ ", V.str "xyz?[{\\"][d]? = some (.str (tx z)) := by
      match d, hd with
      | 0, _ => exact ⟨[97, 98], by decide, rfl⟩
      | 1, _ => exact ⟨[97, 98], by decide, rfl⟩
      | 2, _ => exact ⟨[97, 98, 99], by decide, rfl⟩
      | 3, _ => exact ⟨[97], by decide, rfl⟩
      | 4, _ => exact ⟨[97, 98, 126, 32], by decide, rfl⟩
      | 5, _ => exact ⟨[120, 121, 122, 63, 91, 123, 92], by decide, rfl⟩
    obtain ⟨z, hzm, hz⟩ := gz
    obtain ⟨za, zl1, zl2⟩ := sigs_ok z hzm
    refine ⟨l0, _, (d : Nat), _, rfl, rfl, .inl (.inl hl1), atI_nat hz, ?_⟩
    have S1 : Sm p c H H1 := (Sm.of (s0 _)).trans sm1
    refine ⟨Nat.zero_le _, fun F0 hF0 => ?_⟩
    have hF := S1.free pl1 hF0
    have Fn := hp.ne hF
    refine ⟨_, rfl, p, c, 4, rfl, by decide, by decide, pl1.same (same_new hF0), fun H2 d2 hd2 sm2 pl2 => ⟨(d2 : Nat), rfl, by omega, by omega, ?_⟩⟩
    have S2 : Sm p c H H2 := (S1.trans (Sm.of (same_new hF0))).trans sm2
    have hF2 := sm2 _ _ Fn.1 Fn.2 upd_same
    refine for_it (walk_range (lo := 0) (n := ((d2 : Nat) : Int).toNat)) (fun i σ H' => ∃ (y4 y5 y6 y7 : Option V) (ts : List T), σ = [some (.ref p), some (.int 24), some (.str (tx z)), some (.ref F0), y4, y5, y6, y7] ∧ Sm p c H H' ∧ Pool p c H' ∧ H' F0 = some (.lst (txV ts)) ∧ ts.length ≤ i ∧ ∀ t ∈ ts, t.length ≤ 24 ∧ Al t)
      ⟨none, none, none, none, [], rfl, S2, pl2, hF2, Nat.le_refl _, fun t h => (List.not_mem_nil h).elim⟩ (fun _ _ _ _ _ => trivial) (fun i x σ H3 H4 hi hP hy => ?_) (fun σ H' hP => ?_)
    · obtain ⟨y4, y5, y6, y7, ts, rfl, S3, pl3, hts, tl, tok⟩ := hP
      obtain ⟨rfl, rfl⟩ := hy
      refine ⟨⟨_, rfl⟩, _, rfl, _, rfl, _, _, rfl, rfl, p, c, 25, rfl, by decide, by decide, pl3, fun H5 d5 hd5 sm5 pl5 => ⟨(d5 : Nat), rfl, by omega, by omega, fun D hD => ?_⟩⟩
      have Dn := pl5.ne hD
      refine lc_it (walk_range (lo := 0) (n := ((d5 : Nat) : Int).toNat)) (fun j H' => ∃ l : T, Al l ∧ l.length = j ∧ Sm p c H5 H' ∧ Pool p c H' ∧ H' D = some (.lst ((sg l).map V.str))) ⟨[], fun _ h => (List.not_mem_nil h).elim, rfl, Sm.of (same_new hD), pl5.same (same_new hD), upd_same⟩ (fun _ _ _ _ => trivial) (fun j x H6 H7 hj hP hy => ?_) (fun H6 hP => ?_)
      · obtain ⟨l, la, ll, S6, pl6, hD6⟩ := hP
        obtain ⟨rfl, rfl⟩ := hy
        have zs : (tx z).length ≤ sizeLine := by rw [tx_len]; exact Nat.le_of_lt (small1000 (by omega))
        refine ⟨rfl, _, rfl, _, rfl, _, rfl, _, rfl, zs, p, c, (tx z).length, rfl, by rw [tx_len]; exact zl1, by rw [tx_len]; omega, pl6, fun H8 d8 hd8 sm8 pl8 => ?_⟩
        rw [tx_len] at hd8
        have gc : (tx z).cps.toList[d8]? = some z[d8] := List.getElem?_eq_getElem hd8
        refine ⟨tx z, _, _, rfl, rfl, zs, atI_nat gc, _, sm8 _ _ Dn.1 Dn.2 hD6, ?_, l ++ [z[d8]], ?_, ?_, (S6.trans sm8).at hD, pl8.upd Dn, ?_⟩
        · rw [List.length_map]
          unfold sg
          rw [List.length_map]
          exact small1000 (by omega)
        · exact la.app fun c hc => by
            rw [List.mem_singleton.mp hc]
            exact za _ (List.getElem_mem hd8)
        · rw [List.length_append, ll]
          rfl
        · rw [upd_same]
          unfold sg
          rw [List.map_append, List.map_append]
          rfl
      · obtain ⟨l, la, ll, S6, pl6, hD6⟩ := hP
        have l25 : l.length ≤ 24 := by omega
        refine ⟨_, D, sg l, rfl, rfl, .inl (.inl (.inl hD6)), ?_, ?_⟩
        · rw [sg_sum]
          show l.length + (sg l).length * 0 ≤ 16777216
          omega
        rw [show Txt.join ("" : Str) (sg l) = tx l from join_sg l]
        refine ⟨_, rfl, p, c, 5, rfl, by decide, by decide, pl6, fun H7 d7 hd7 sm7 pl7 => ?_⟩
        have S7 : Sm p c H H7 := ((S3.trans sm5).trans S6).trans sm7
        have hts7 := (((sm5.trans S6).trans sm7) _ _ Fn.1 Fn.2 hts)
        have tsz : (txV ts).length < sizeLine := by rw [List.length_map]; exact small1000 (by omega)
        have hfin : ∀ (y : T) (H' : Hp), Al y → Sm p c H H' → Pool p c H' → H' F0 = some (.lst (txV ts)) →
            ∃ (y4 y5 y6' y7 : Option V) (ts' : List T), [some (.ref p), some (.int 24), some (.str (tx z)), some (.ref F0), some (.int (0 + (i : Nat))), some (V.str (tx y)), y6, some (.int (d7 : Nat))] = [some (.ref p), some (.int 24), some (.str (tx z)), some (.ref F0), y4, y5, y6', y7] ∧ Sm p c H (upd H' F0 (.lst (txV ts ++ [V.str (cutS (tx y) none (some 24))]))) ∧ Pool p c (upd H' F0 (.lst (txV ts ++ [V.str (cutS (tx y) none (some 24))]))) ∧
              (upd H' F0 (.lst (txV ts ++ [V.str (cutS (tx y) none (some 24))]))) F0 = some (.lst (txV ts')) ∧ ts'.length ≤ i + 1 ∧ ∀ t ∈ ts', t.length ≤ 24 ∧ Al t := fun y H' ya S' pl' h' => by
          refine ⟨_, _, _, _, ts ++ [y.take 24], rfl, S'.at hF, pl'.upd Fn, ?_, by rw [List.length_append]; show ts.length + 1 ≤ i + 1; omega, fun t ht => ?_⟩
          · rw [upd_same, show cutS (tx y) none (some 24) = tx (y.take 24) from cut_to y 24]
            exact congrArg (fun z => some (HO.lst z)) (List.map_append (f := fun t : T => V.str (tx t)) (l₁ := ts) (l₂ := [y.take 24])).symm
          · rcases List.mem_append.mp ht with h | h
            · exact tok t h
            · rw [List.mem_singleton.mp h]
              exact ⟨List.length_take_le _ _, ya.take 24⟩
        have szx : ∀ y : T, y.length ≤ 1000 → (tx y).length ≤ sizeLine := fun y h => by rw [tx_len]; exact Nat.le_of_lt (small1000 h)
        refine ⟨_, rfl, rfl, _, rfl, ?_⟩
        by_cases k0 : V.int ((d7 : Nat) : Int) = V.int 0
        · have k1 : ¬ V.int ((d7 : Nat) : Int) = V.int 1 := fun z => by
            rw [k0] at z
            cases z
          rw [decide_eq_true k0]
          refine iteT ⟨_, rfl, F0, _, rfl, .inl (.inl (.inl hts7)), _, _, rfl, rfl, _, rfl, ?_⟩
          rcases List.eq_nil_or_concat ts with e | ⟨ts', t0, e⟩
          · subst e
            refine iteF ?_
            refine ⟨_, rfl, rfl, _, rfl, ?_⟩
            rw [decide_eq_false k1]
            refine iteF ?_
            exact ⟨_, rfl, .inl ⟨rfl, _, SqL.of hts7⟩, _, rfl, _, rfl, 24, rfl, tx l, rfl, szx l (by omega), F0, _, _, rfl, rfl, hts7, tsz, hfin l H7 la S7 pl7 hts7⟩
          · rw [List.concat_eq_append] at e
            rw [decide_eq_true (by rw [List.length_map, e, List.length_append]; show (0 : Int) < ((ts'.length + 1 : Nat) : Int); omega)]
            refine iteT ?_
            have e0 : txV ts = txV ts' ++ [V.str (tx t0)] := by rw [e]; exact List.map_append
            have t0k := tok t0 (by rw [e]; simp)
            have at0 : atI (txV ts) (-1) = some (V.str (tx t0)) := by rw [e0]; exact atI_last _ _
            refine ⟨_, rfl, 1, rfl, F0, _, -1, _, rfl, rfl, .inl (.inl hts7), at0, _, rfl, _, rfl, _, _, rfl, rfl, p, c, 25, rfl, by decide, by decide, pl7, fun H8 d8 hd8 sm8 pl8 => ⟨(d8 : Nat), rfl, tx t0, rfl, szx t0 (by omega), ?_⟩⟩
            rw [cut_to]
            have hts8 := sm8 _ _ Fn.1 Fn.2 hts7
            refine ⟨_, rfl, _, rfl, p, c, 4, rfl, by decide, by decide, pl8, fun H9 d9 hd9 sm9 pl9 => ⟨(d9 : Nat), rfl, tx l, rfl, szx l (by omega), ?_⟩⟩
            rw [cut_to]
            have hts9 := sm9 _ _ Fn.1 Fn.2 hts8
            have b1 : (t0.take d8).length ≤ 24 := by rw [List.length_take]; omega
            have b2 : (l.take d9).length ≤ 24 := by rw [List.length_take]; omega
            refine ⟨_, _, rfl, rfl, by rw [tx_len, tx_len]; exact Nat.le_of_lt (small1000 (by omega)), ?_⟩
            rw [tx_app]
            refine ⟨_, rfl, rfl, _, rfl, ?_⟩
            rw [decide_eq_false k1]
            refine iteF ?_
            exact ⟨_, rfl, .inl ⟨rfl, _, SqL.of hts9⟩, _, rfl, _, rfl, 24, rfl, _, rfl, szx _ (by rw [List.length_append]; omega), F0, _, _, rfl, rfl, hts9, tsz, hfin _ H9 ((t0k.2.take d8).app (la.take d9)) ((S7.trans sm8).trans sm9) pl9 hts9⟩
        · rw [decide_eq_false k0]
          refine iteF ?_
          refine ⟨_, rfl, rfl, _, rfl, ?_⟩
          by_cases k1 : V.int ((d7 : Nat) : Int) = V.int 1
          · rw [decide_eq_true k1]
            refine iteT ?_
            refine ⟨_, rfl, _, rfl, p, c, 3, rfl, by decide, by decide, pl7, fun H8 d8 hd8 sm8 pl8 => ⟨_, _, rfl, rfl, 1 + (d8 : Nat), rfl, tx l, rfl, szx l (by omega), ?_⟩⟩
            have e1 : (1 : Int) + ((d8 : Nat) : Int) = ((1 + d8 : Nat) : Int) := by omega
            rw [e1, cut_to]
            have b1 : (l.take (1 + d8)).length ≤ 24 := by rw [List.length_take]; omega
            have hts8 := sm8 _ _ Fn.1 Fn.2 hts7
            refine ⟨_, rfl, _, _, rfl, rfl, by decide, by decide, by rw [tx_len]; omega, ?_⟩
            have er : (⟨(List.replicate (24 : Int).toNat (tx (l.take (1 + d8))).cps.toList).flatten.toArray⟩ : Str) = tx (List.replicate 24 (l.take (1 + d8))).flatten := rfl
            rw [er]
            refine ⟨_, rfl, _, rfl, _, _, rfl, rfl, p, c, 25, rfl, by decide, by decide, pl8, fun H9 d9 hd9 sm9 pl9 => ⟨(d9 : Nat), rfl, _, rfl, szx _ ?_, ?_⟩⟩
            · rw [List.length_flatten, List.map_replicate, List.sum_replicate_nat]
              omega
            rw [cut_to]
            have hts9 := sm9 _ _ Fn.1 Fn.2 hts8
            have b3 : ((List.replicate 24 (l.take (1 + d8))).flatten.take d9).length ≤ 24 := by rw [List.length_take]; omega
            exact ⟨_, rfl, .inl ⟨rfl, _, SqL.of hts9⟩, _, rfl, _, rfl, 24, rfl, _, rfl, szx _ (by omega), F0, _, _, rfl, rfl, hts9, tsz, hfin _ H9 (((la.take _).rep 24).take d9) ((S7.trans sm8).trans sm9) pl9 hts9⟩
          · rw [decide_eq_false k1]
            refine iteF ?_
            exact ⟨_, rfl, .inl ⟨rfl, _, SqL.of hts7⟩, _, rfl, _, rfl, 24, rfl, tx l, rfl, szx l (by omega), F0, _, _, rfl, rfl, hts7, tsz, hfin l H7 la S7 pl7 hts7⟩
    · obtain ⟨y4, y5, y6, y7, ts, rfl, S3, pl3, hts, tl, tok⟩ := hP
      refine ⟨_, rfl, F0, _, rfl, .inl ⟨.inl (.inl hts), fun u hu => ?_⟩⟩
      refine q _ u ts (S3.at (S3.free pl3 hu)) (pl3.upd (pl3.ne hu)) (S3.free pl3 hu) upd_same ⟨by omega, fun t h => (tok t h).1, fun t h => (tok t h).2⟩
end
end Ep

namespace Ep
open PySem PySem.Spec PyProof.Rows L2
open EP (T Pl endOf placesOf ordr rowsOf Part ple plt)
open PySem.W (EachIs)
/-! ### _law_places -/
def eV (ts : List T) (q : Pl) : List V := [.str (tx (endOf ts q)), .int (q.1 : Nat), .int (q.2 : Nat)]
def eD (ts : List T) (q : Pl) : PyData := .tuple [.str (tx (endOf ts q)), .int (q.1 : Nat), .int (q.2 : Nat)]
def IsE (ts : List T) (H : Hp) (v : V) (q : Pl) : Prop := ∃ b, v = .ref b ∧ H b = some (.tup (eV ts q))
theorem IsE.tk {ts : List T} {H H' : Hp} {v : V} {q : Pl} (h : IsE ts H v q) (s : TupK H H') : IsE ts H' v q := let ⟨b, e1, e2⟩ := h; ⟨b, e1, s _ _ e2⟩
theorem le_eD (ts : List T) : PySem.W.dataLe false (eD ts) = ple ts := by
  funext p q
  show (!(PySem.W.dataLt (eD ts q) (eD ts p))) = _
  unfold eD
  rw [PySem.W.dataLt_tuple, PySem.W.dataLt_cons (by simp [PySem.W.alike]), PySem.W.dataLt_cons (by simp [PySem.W.alike]), PySem.W.dataLt_cons (by simp [PySem.W.alike]), PySem.W.dataLt_str, PySem.W.dataLt_int, PySem.W.dataLt_int]
  have e0 : PyProof.Rows.lexLt PyProof.Rows.itemOrd (PySem.W.keyToksAll []) (PySem.W.keyToksAll []) = false := PyProof.Rows.lex_irrefl _
  rw [e0]
  simp only [PyData.eqv, beq_iff_eq]
  unfold ple
  rw [tx_list, tx_list]
  have d1 : (tx (endOf ts q) = tx (endOf ts p)) ↔ endOf ts q = endOf ts p := tx_eq
  by_cases c : endOf ts q = endOf ts p
  · rw [if_pos (d1.mpr c)]
    by_cases c1 : ((q.1 : Nat) : Int) = (p.1 : Nat)
    · rw [if_pos c1]
      by_cases c2 : ((q.2 : Nat) : Int) = (p.2 : Nat)
      · rw [if_pos c2]
        refine (decide_eq_true (.inr ⟨c.symm, ?_⟩)).symm
        unfold plt
        omega
      · rw [if_neg c2, ← decide_not]
        refine decide_eq_decide.mpr ⟨fun z => .inr ⟨c.symm, ?_⟩, fun z => ?_⟩
        · unfold plt
          omega
        · rcases z with z | ⟨_, z⟩
          · rw [c] at z
            exact (EP.t_irr _ z).elim
          · unfold plt at z
            omega
    · rw [if_neg c1, ← decide_not]
      refine decide_eq_decide.mpr ⟨fun z => .inr ⟨c.symm, ?_⟩, fun z => ?_⟩
      · unfold plt
        omega
      · rcases z with z | ⟨_, z⟩
        · rw [c] at z
          exact (EP.t_irr _ z).elim
        · unfold plt at z
          omega
  · rw [if_neg (fun z => c (d1.mp z)), ← decide_not]
    refine decide_eq_decide.mpr ⟨fun z => .inl ?_, fun z => ?_⟩
    · rcases EP.t_tri (endOf ts p) (endOf ts q) with k | k | k
      · exact k
      · exact absurd k.symm c
      · exact absurd k z
    · rcases z with z | ⟨z, _⟩
      · exact fun k => EP.t_irr _ (EP.t_trans z k)
      · exact absurd z.symm c
section
variable {P : Program} {w : World} {K : PySem.W.Frag} {mg : Str → Option Value} {base : Heap}
def spLPl : Sp := fun vs H Q _ => ∃ (a : Addr) (ts : List T), vs = [.ref a] ∧ H a = some (.tup (txV ts)) ∧ Tok3 ts ∧ ∀ (H' : Hp) (p : Addr) (xs : List V), Same H H' → H p = none → H' p = some (.lst xs) → PlsAt H' xs (ordr ts) → Q (.ref p) H'
abbrev nLPl : List Str := ["_law_texts_here", "_law_found", "_law_number", "_law_text", "_law_at", "_law_ending"]
theorem sc_lpl : FnScope nLPl ["_law_texts_here"] (defScope (topS 47)) := ⟨rfl, rfl, rfl, by decide +kernel, rfl, by decide +kernel, by decide +kernel⟩
theorem ok_lpl (M : Nm mg) {f : Addr} {fd : FuncData} (F : Fun K "_law_places" "_law_places" (topS 47) f fd) : FnOk P w K mg base CX0 1 f fd ["_law_texts_here"] spLPl := by
  refine F.ok sc_lpl (fun vs H Q E h => ?_) (fun cdv A outer s H vs Q E hr h => ?_)
  · obtain ⟨a, ts, rfl, _⟩ := h
    rfl
  · obtain ⟨a, ts, rfl, ha, ht, q⟩ := h
    have nd := sc_lpl.nd
    refine ⟨_, pss_cons (ps_set (i := 1) nd rfl (.inl rfl) (pe_lst pa_nil))
      (pss_cons (ps_for PassesOwn.never rfl (pi_enumS (by rfl) M.enumerate (pa_cons (pv 0) pa_nil)) (pg_tup rfl (pgs_cons (pg_name (i := 2) nd rfl (.inr rfl)) (pgs_cons (pg_name (i := 3) nd rfl (.inr rfl)) pgs_nil)))
        (pss_one (ps_expr (pe_bm PySem.F.plainAttrs_list PySem.F.slot_list_extend PySem.F.type_list_extend mt_extend (pv 1) (pa_cons
          (pe_lc (own := [("_law_at", 4)]) (g := gName 4) (tt := tYes) rfl nd (pi_range1 (by rfl) M.range (pa_cons (pe_callB call_len_str (by rfl) M.len PySem.boot_len (pa_cons (pv 3) pa_nil)) pa_nil))
            (blkOk_by (own := [("_law_at", 4)]) (N := nLPl) (sc := defScope (topS 47)) (by decide +kernel)) (fun _ _ _ _ _ => pg_name (i := 4) sc_lpl.nd rfl (Or.inl rfl)) (fun _ _ _ _ _ => pts_nil)
            (fun _ _ _ _ _ => pe_tup (pa_cons (pe_slice sl_str (pv 3) (po_some (pv 4)) po_none) (pa_cons (pv 2) (pa_cons (pv 4) pa_nil))))) pa_nil)))))
      (pss_one (ps_ret (pe_lc (own := [("_law_ending", 5), ("_law_number", 2), ("_law_at", 4)]) (g := gTup K 3 (gCons (gName 5) (gCons (gName 2) (gCons (gName 4) gNil)))) (tt := tYes) rfl nd (pi_list (pe_callB (cr_sortE hr.units) (by rfl) M.sorted bt_sorted (pa_cons (pv 1) pa_nil)))
        (blkOk_by (own := [("_law_ending", 5), ("_law_number", 2), ("_law_at", 4)]) (N := nLPl) (sc := defScope (topS 47)) (by decide +kernel))
        (fun _ _ _ _ _ => pg_tup rfl (pgs_cons (pg_name (i := 5) sc_lpl.nd rfl (.inl rfl)) (pgs_cons (pg_name (i := 2) sc_lpl.nd rfl (.inl rfl)) (pgs_cons (pg_name (i := 4) sc_lpl.nd rfl (.inl rfl)) pgs_nil)))) (fun _ _ _ _ _ => pts_nil)
        (fun _ _ _ _ _ => pe_tup (pa_cons (pv 2) (pa_cons (pv 4) pa_nil))))))), ?_⟩
    refine ⟨Nat.zero_le _, fun p hp => ?_⟩
    have s1 : Same H (upd H p (.lst [])) := same_new hp
    refine ⟨_, rfl, _, _, rfl, .tup (s1 _ _ ha), ?_⟩
    refine for_it walk_enumS (fun i σ H' => ∃ y2 y3 y4 y5 xs, σ = [some (.ref a), some (.ref p), y2, y3, y4, y5] ∧ Same H H' ∧ H' p = some (.lst xs) ∧ EachIs (IsE ts H') xs (placesTo ts i)) ⟨none, none, none, none, [], rfl, s1, upd_same, .nil⟩
      (fun i σ H' _ hP => ?_) (fun i x σ H1 H2 hi hP hy => ?_) (fun σ H' hP => ?_)
    · obtain ⟨_, _, _, _, _, _, sm, _⟩ := hP
      exact .tup (sm _ _ ha)
    · obtain ⟨y2, y3, y4, y5, xs, rfl, sm, hpx, ex⟩ := hP
      obtain ⟨Tp, x1, x2, rfl, nT', rfl, f1, f2⟩ := hy
      obtain ⟨t, ht1, rfl⟩ := txV_get f2
      obtain rfl : V.int (i : Nat) = x1 := Option.some.inj f1
      have htm := List.mem_of_getElem? ht1
      have hl24 := ht.2.1 t htm
      have hi3 : i < 3 := by rw [List.length_map] at hi; have := ht.1; omega
      have eg : ts.getD i [] = t := by rw [List.getD, ht1]; rfl
      have sT := same_new (o := HO.tup [V.int (i : Nat), V.str (tx t)]) nT'
      refine ⟨Tp, [_, _], rfl, .inl (.inl upd_same), rfl, _, [_], rfl, _, [], rfl, rfl, ?_⟩
      refine ⟨_, rfl, .inl ⟨rfl, _, SqL.of (sT _ _ hpx)⟩, ?_⟩
      have szt : (tx t).length ≤ sizeLine := by rw [tx_len]; exact Nat.le_of_lt (small1000 (by omega))
      refine ⟨_, rfl, _, rfl, szt, _, rfl, by rw [tx_len]; omega, by rw [tx_len]; omega, fun D hD => ?_⟩
      rw [tx_len]
      refine lc_it (walk_range (lo := 0) (n := ((t.length : Nat) : Int).toNat)) (fun j H3 => ∃ zs, Same (upd H1 Tp (.tup [V.int (i : Nat), V.str (tx t)])) H3 ∧ H3 D = some (.lst zs) ∧ EachIs (IsE ts H3) zs ((List.range j).map fun a => (i, a))) ⟨[], same_new hD, upd_same, .nil⟩
        (fun _ _ _ _ => trivial) (fun j x H3 H4 hj hP hy => ?_) (fun H3 hP => ?_)
      · obtain ⟨zs, sm3, hd, pz⟩ := hP
        have e0 : (0 : Int) + ((j : Nat) : Int) = ((j : Nat) : Int) := Int.zero_add _
        obtain ⟨rfl, hx0⟩ := hy
        obtain rfl : x = V.int ((j : Nat) : Int) := hx0.trans (congrArg V.int e0)
        refine ⟨rfl, _, rfl, _, rfl, (j : Nat), rfl, tx t, rfl, szt, ?_⟩
        rw [cut_from]
        refine ⟨_, rfl, _, rfl, by show 3 ≤ sizeLine; decide, fun u hu => ?_⟩
        have su := same_new (o := HO.tup [V.str (tx (t.drop j)), V.int (i : Nat), V.int ((j : Nat) : Int)]) hu
        refine ⟨zs, su _ _ hd, ?_, zs ++ [.ref u], ?_, upd_same, ?_⟩
        · rw [pz.length, List.length_map, List.length_range]
          exact small1000 (by omega)
        · exact same_at hD (sm3.trans su)
        · rw [List.range_succ, List.map_append]
          refine each_snoc ⟨u, rfl, ?_⟩ (pz.mono fun v q z => (z.tk (TupK.of su)).tk (TupK.lst (su _ _ hd)))
          refine TupK.lst (su _ _ hd) _ _ ?_
          rw [upd_same]
          have e1 : endOf ts (i, j) = t.drop j := by
            unfold endOf
            rw [eg]
          unfold eV
          rw [e1]
      · obtain ⟨zs, sm3, hd, pz⟩ := hP
        have hp3 := sm3 _ _ (sT _ _ hpx)
        have ej : ((t.length : Nat) : Int).toNat = t.length := rfl
        rw [ej] at pz
        refine ⟨p, D, xs, zs, rfl, rfl, hp3, hd, ?_, ?_⟩
        · have a1 := placesTo_len ht.2.1 i
          rw [ex.length, pz.length, List.length_map, List.length_range]
          exact Nat.le_of_lt (small1000 (by omega))
        · refine ⟨_, _, _, _, xs ++ zs, rfl, same_at hp (sm.trans (sT.trans sm3)), upd_same, ?_⟩
          rw [placesTo_succ, eg]
          have app : ∀ {as as' : List V} {bs bs' : List Pl} {R : V → Pl → Prop}, EachIs R as bs → EachIs R as' bs' → EachIs R (as ++ as') (bs ++ bs') := by
            intro as as' bs bs' R h k
            induction h with
            | nil => exact k
            | cons r _ ih => exact .cons r ih
          exact app (ex.mono fun v q z => (z.tk (TupK.of (sT.trans sm3))).tk (TupK.lst hp3)) (pz.mono fun v q z => z.tk (TupK.lst hp3))
    · obtain ⟨y2, y3, y4, y5, xs, rfl, sm, hpx, ex⟩ := hP
      have e : (txV ts).length = ts.length := List.length_map _
      rw [e] at ex
      refine ⟨_, rfl, Pl, eD ts, IsE ts H', p, xs, placesOf ts, rfl, .inl (.inl hpx), ex, ?_, PySem.W.AllAlike.of fun b b' => ?_, PySem.W.Sortable.tuples fun b => ⟨_, _, rfl⟩, fun b _ => ?_, fun p2 ys hp2 hy2 => ?_⟩
      · rintro v q ⟨b, rfl, hb⟩
        exact .tup (.inl (.inl hb)) (.cons (.str _) (.cons (.int _) (.cons (.int _) .nil)))
      · unfold eD
        simp [PySem.W.alike, PySem.W.alikeAll]
      · unfold eD
        simp [PyData.depth, PyData.depthAll]
      have s2 := same_new (o := HO.lst ys) hp2
      have ems : (placesOf ts).mergeSort (PySem.W.dataLe false (eD ts)) = ordr ts := by rw [le_eD]; rfl
      rw [ems] at hy2
      refine ⟨p2, rfl, ⟨_, .inl (.inl upd_same)⟩, fun D hD => ?_⟩
      have ol : (ordr ts).length ≤ 72 := by rw [(EP.ordr_perm ts).length_eq]; exact places_len ht
      refine lc_it (walk_list (K := K) (a := p2) (xs := ys)) (fun i H3 => ∃ ws, Same (upd H' p2 (.lst ys)) H3 ∧ H3 D = some (.lst ws) ∧ PlsAt H3 ws ((ordr ts).take i)) ⟨[], same_new hD, upd_same, PlsAt.nil⟩ (fun i H3 _ hP => ?_) (fun i x H3 H4 hi hP hy => ?_) (fun H3 hP => ?_)
      · obtain ⟨_, sm3, _⟩ := hP
        exact .inl (.inl (sm3 _ _ upd_same))
      · obtain ⟨ws, sm3, hd, pw⟩ := hP
        obtain ⟨rfl, hx⟩ := hy
        obtain ⟨q, hq, b, rfl, hb⟩ := each_get hy2 hx
        refine ⟨b, [_, _, _], rfl, .inl (.inl (sm3 _ _ (s2 _ _ hb))), rfl, _, [_, _], rfl, _, [_], rfl, _, [], rfl, rfl, rfl, ?_⟩
        refine ⟨_, rfl, _, rfl, by show 2 ≤ sizeLine; decide, fun u hu => ?_⟩
        have su := same_new (o := HO.tup [V.int (q.1 : Nat), V.int (q.2 : Nat)]) hu
        refine ⟨ws, su _ _ hd, ?_, ws ++ [.ref u], same_at hD (sm3.trans su), upd_same, ?_⟩
        · rw [pw.1, List.length_take]
          exact small1000 (by omega)
        · rw [List.take_add_one, hq]
          exact ((pw.same su).tk (TupK.lst (su _ _ hd))).snoc (TupK.lst (su _ _ hd) _ _ upd_same)
      · obtain ⟨ws, sm3, hd, pw⟩ := hP
        have eyl := hy2.length
        rw [eyl, List.take_length] at pw
        exact q H3 D ws (sm.trans (s2.trans sm3)) ((sm.trans s2).free hD) hd pw
end
end Ep

namespace Ep
open PySem PySem.Spec PyProof.Rows L2
open EP (T Pl endOf placesOf ordr rowsOf Part)
open PySem.W (EachIs)
/-! ### _law_part -/
theorem nodup_len {α : Type} [DecidableEq α] : ∀ {m l : List α}, m.Nodup → (∀ x ∈ m, x ∈ l) → m.length ≤ l.length
  | [], l, _, _ => Nat.zero_le _
  | x :: m, l, hn, hs => by
    obtain ⟨h1, h2⟩ := List.nodup_cons.mp hn
    have hx := hs x List.mem_cons_self
    have := nodup_len (l := l.erase x) h2 fun y hy => (List.mem_erase_of_ne (fun z => h1 (by rw [← z]; exact hy))).mpr (hs y (List.mem_cons_of_mem _ hy))
    rw [List.length_erase_of_mem hx] at this
    have := List.length_pos_of_mem hx
    rw [List.length_cons]
    omega
theorem srt_sg (m : T) : srtD ((sg m).map .str) = (sg (m.mergeSort fun a b => decide (a ≤ b))).map .str := by
  unfold sg
  rw [List.map_map, List.map_map]
  refine (List.map_mergeSort (r := fun a b : Nat => decide (a ≤ b)) (s := PySem.W.dataLe false fun d => d) (f := fun c : Nat => PyData.str ⟨#[c]⟩) fun a _ b _ => ?_).symm
  show _ = (!(PySem.W.dataLt (.str ⟨#[b]⟩) (.str ⟨#[a]⟩)))
  rw [PySem.W.dataLt_str, ← decide_not]
  refine decide_eq_decide.mpr ⟨fun z k => ?_, fun z => ?_⟩
  · rcases EP.t_cons.mp (show (b :: [] : T) < a :: [] from k) with k | ⟨_, k⟩
    · omega
    · exact EP.t_irr _ k
  · rcases Nat.lt_or_ge b a with k | k
    · exact absurd (EP.t_cons.mpr (.inl k) : (b :: [] : T) < a :: []) z
    · exact k
/-- the ascending signs of what a set told -/
theorem set_signs {l : T} (hl : Al l) (h1 : 1 ≤ l.length) (h2 : l.length ≤ 20) {ds : List Str} (hn : ds.Nodup) (hm : ∀ x, x ∈ ds ↔ x ∈ sg l) : ∃ n : T, srtD (ds.map .str) = (sg n).map .str ∧ POk (.lot n) := by
  have ex : ∃ m : T, ds = sg m := by
    have : ∀ ds : List Str, (∀ x ∈ ds, x ∈ sg l) → ∃ m : T, ds = sg m := fun ds => by
      induction ds with
      | nil => exact fun _ => ⟨[], rfl⟩
      | cons d ds ih =>
        intro h
        obtain ⟨m, rfl⟩ := ih fun x hx => h x (List.mem_cons_of_mem _ hx)
        obtain ⟨c, _, rfl⟩ := List.mem_map.mp (h d List.mem_cons_self)
        exact ⟨c :: m, rfl⟩
    exact this ds fun x hx => (hm x).mp hx
  obtain ⟨m, rfl⟩ := ex
  have inj : ∀ {a b : Nat}, (⟨#[a]⟩ : Str) = ⟨#[b]⟩ → a = b := fun h => by simpa using h
  have mem : ∀ c (k : T), (⟨#[c]⟩ : Str) ∈ sg k ↔ c ∈ k := fun c k => by
    unfold sg
    rw [List.mem_map]
    exact ⟨fun ⟨d, hd, e⟩ => inj e ▸ hd, fun h => ⟨c, h, rfl⟩⟩
  have mn : m.Nodup := by
    unfold sg at hn
    exact (List.pairwise_map.mp hn).imp fun h e => h (by rw [e])
  have ml : ∀ c, c ∈ m ↔ c ∈ l := fun c => (mem c m).symm.trans ((hm _).trans (mem c l))
  have hp := List.mergeSort_perm m fun a b => decide (a ≤ b)
  have hs := List.pairwise_mergeSort (le := fun a b : Nat => decide (a ≤ b)) (fun a b c h k => by simp at h k ⊢; omega) (fun a b => by simp; omega) m
  have hnn := hp.nodup_iff.mpr mn
  refine ⟨_, srt_sg m, ?_, ?_, ?_, ?_⟩
  · refine (hs.and hnn).imp fun {a b} h => ?_
    have := h.1
    simp at this
    have := h.2
    omega
  · rw [hp.length_eq]
    cases e : m with
    | nil =>
      cases e2 : l with
      | nil => rw [e2] at h1; simp at h1
      | cons c l' =>
        have := (ml c).mpr (by rw [e2]; exact List.mem_cons_self)
        rw [e] at this
        exact (List.not_mem_nil this).elim
    | cons c m' => rw [List.length_cons]; omega
  · rw [hp.length_eq]
    have := nodup_len mn fun x hx => (ml x).mp hx
    omega
  · exact fun c hc => hl c ((ml c).mp (hp.mem_iff.mp hc))
/-- a part or a gap stands at v -/
def GAt (e : Bool) (H : Hp) (v : V) : Prop := ∃ b xs, v = .ref b ∧ H b = some (.tup xs) ∧ ((∃ p, xs = pV p ∧ POk p) ∨ (e = false ∧ ∃ i j, xs = [.str "gap", .int i, .int j]))
theorem GAt.weak {e : Bool} {H : Hp} {v : V} (h : GAt e H v) : GAt false H v := let ⟨b, xs, e1, e2, e3⟩ := h; ⟨b, xs, e1, e2, e3.imp id fun z => ⟨rfl, z.2⟩⟩
theorem GAt.tk {e : Bool} {H H' : Hp} {v : V} (h : GAt e H v) (s : TupK H H') : GAt e H' v := let ⟨b, xs, e1, e2, e3⟩ := h; ⟨b, xs, e1, s _ _ e2, e3⟩
/-- tuples stay -/
theorem Sm.tk {p c : Addr} {H H' : Hp} (s : Sm p c H H') (pl : Pool p c H) : TupK H H' := fun b xs e => by
  have n := pl.nt e (fun _ z => nomatch z)
  exact s b _ n.1 n.2 e
section
variable {P : Program} {w : World} {K : PySem.W.Frag} {mg : Str → Option Value} {base : Heap}
def spLPart : Sp := fun vs H Q _ => ∃ (p c : Addr) (z : T) (e : Bool), vs = [.ref p, .str (tx z), .bl e] ∧ Al z ∧ 1 ≤ z.length ∧ z.length ≤ 10 ∧ Pool p c H ∧ ∀ (H' : Hp) (v : V), Sm p c H H' → Pool p c H' → GAt e H' v → Q v H'
abbrev nLPa : List Str := ["_law_pool_here", "_law_signs", "_law_is_end", "_law_kind", "_law_least", "_law_turn"]
theorem sc_lpa : FnScope nLPa ["_law_pool_here", "_law_signs", "_law_is_end"] (defScope (topS 48)) := ⟨rfl, rfl, rfl, by decide +kernel, rfl, by decide +kernel, by decide +kernel⟩
theorem ok_lpa (M : Nm mg) (C1 : Cl P w K mg base 1 "_law_draw" ["_law_pool_here", "_law_many"] spDraw) {f : Addr} {fd : FuncData} (F : Fun K "_law_part" "_law_part" (topS 48) f fd) : FnOk P w K mg base CX0 2 f fd ["_law_pool_here", "_law_signs", "_law_is_end"] spLPart := by
  refine F.ok sc_lpa (fun vs H Q E h => ?_) (fun cdv A outer s H vs Q E hr h => ?_)
  · obtain ⟨p, c, z, e, rfl, _⟩ := h
    rfl
  · obtain ⟨p, c, z, e, rfl, za, zl1, zl2, hp, q⟩ := h
    have nd := sc_lpa.nd
    refine ⟨_, pss_cons (ps_set (i := 3) nd rfl (.inl rfl) (pe_c C1 hr (by rfl) (pa_cons (pv 0) (pa_cons pe_int pa_nil))))
      (pss_cons (ps_if (PW.pt (pw_and (pt_cmpR op_eq (pv 3) pe_int (nomark _)) (pw_and1 (pt_not (pt_val (pv 2))))))
        (pss_cons (ps_set (i := 4) nd rfl (.inl rfl) (pe_ix ix_list (pe_lst (pa_cons pe_int (pa_cons pe_int (pa_cons (pe_c C1 hr (by rfl) (pa_cons (pv 0) (pa_cons pe_int pa_nil))) pa_nil)))) (pe_c C1 hr (by rfl) (pa_cons (pv 0) (pa_cons pe_int pa_nil))) (fun _ _ => rfl)))
        (pss_one (ps_ret (pe_tup (pa_cons pe_str (pa_cons (pv 4) (pa_cons (pe_callB (call_min2 rfl) (by rfl) M.min bt_min (pa_cons pe_int (pa_cons (pe_op op_add (pv 4) (pe_c C1 hr (by rfl) (pa_cons (pv 0) (pa_cons pe_int pa_nil)))) pa_nil))) pa_nil))))))) pss_nil)
      (pss_cons (ps_if (pt_cmpR op_eq (pv 3) pe_int (nomark _)) (pss_one (ps_ret (pe_tup (pa_cons pe_str pa_nil)))) pss_nil)
      (pss_cons (ps_if (pt_cmpR op_eq (pv 3) pe_int (nomark _)) (pss_one (ps_ret (pe_tup (pa_cons pe_str (pa_cons (pe_join pe_str (pe_sortedSet rfl hr.units (by rfl) M.sorted (by rfl) M.set
          (pe_lc (own := [("_law_turn", 5)]) (g := gName 5) (tt := tYes) rfl nd (pi_range1 (by rfl) M.range (pa_cons (pe_op op_add pe_int (pe_c C1 hr (by rfl) (pa_cons (pv 0) (pa_cons pe_int pa_nil)))) pa_nil)) (blkOk_by (own := [("_law_turn", 5)]) (N := nLPa) (sc := defScope (topS 48)) (by decide +kernel)) (fun _ _ _ _ _ => pg_name (i := 5) sc_lpa.nd rfl (Or.inl rfl)) (fun _ _ _ _ _ => pts_nil)
          (fun _ _ _ _ _ => pe_ix ix_str (pv 1) (pe_c C1 hr (by rfl) (pa_cons (pv 0) (pa_cons (pe_callB call_len_str (by rfl) M.len PySem.boot_len (pa_cons (pv 1) pa_nil)) pa_nil))) (fun _ _ => rfl))))) pa_nil))))) pss_nil)
      (pss_one (ps_ret (pe_tup (pa_cons pe_str (pa_cons (pe_ix ix_str (pv 1) (pe_c C1 hr (by rfl) (pa_cons (pv 0) (pa_cons (pe_callB call_len_str (by rfl) M.len PySem.boot_len (pa_cons (pv 1) pa_nil)) pa_nil))) (fun _ _ => rfl)) pa_nil)))))))), ?_⟩
    refine ⟨_, rfl, p, c, 8, rfl, by decide, by decide, hp, fun H1 d1 hd1 sm1 pl1 => ?_⟩
    have zs : (tx z).length ≤ sizeLine := by rw [tx_len]; exact Nat.le_of_lt (small1000 (by omega))
    have fin : ∀ (H' : Hp) (u : Addr) (xs : List V), Sm p c H H' → Pool p c H' → H' u = none → ((∃ p, xs = pV p ∧ POk p) ∨ (e = false ∧ ∃ i j, xs = [.str "gap", .int i, .int j])) → Q (.ref u) (upd H' u (.tup xs)) := fun H' u xs S pl hu hx =>
      q _ _ (S.trans (Sm.of (same_new hu))) (pl.same (same_new hu)) ⟨u, xs, rfl, upd_same, hx⟩
    refine ⟨_, rfl, rfl, _, rfl, ?_⟩
    by_cases k0 : V.int ((d1 : Nat) : Int) = V.int 0
    · rw [decide_eq_true k0]
      refine iteT ⟨_, rfl, e, rfl, ?_⟩
      cases e with
      | false =>
        refine iteT ?_
        refine ⟨_, rfl, p, c, 6, rfl, by decide, by decide, pl1, fun H2 d2 hd2 sm2 pl2 => ⟨by show 3 ≤ sizeLine; decide, fun l hl => ?_⟩⟩
        have ln := pl2.ne hl
        refine ⟨_, rfl, p, c, 3, rfl, by decide, by decide, pl2.same (same_new hl), fun H3 d3 hd3 sm3 pl3 => ?_⟩
        have hl3 := sm3 _ _ ln.1 ln.2 upd_same
        obtain ⟨g, hg⟩ : ∃ g : Int, [V.int 0, V.int 1, V.int ((d2 : Nat) : Int)][d3]? = some (.int g) := by
          match d3, hd3 with
          | 0, _ => exact ⟨_, rfl⟩
          | 1, _ => exact ⟨_, rfl⟩
          | 2, _ => exact ⟨_, rfl⟩
        refine ⟨l, _, (d3 : Nat), _, rfl, rfl, .inl (.inl hl3), atI_nat hg, ?_⟩
        refine ⟨_, rfl, _, rfl, _, rfl, p, c, 5, rfl, by decide, by decide, pl3, fun H4 d4 hd4 sm4 pl4 => ⟨_, _, rfl, rfl, _, _, rfl, by show 3 ≤ sizeLine; decide, fun u hu => ?_⟩⟩
        exact fin _ u _ (((sm1.trans sm2).trans ((Sm.of (same_new hl)).trans sm3)).trans sm4) pl4 hu (.inr ⟨rfl, _, _, rfl⟩)
      | true =>
        refine iteF ?_
        refine ⟨_, rfl, rfl, _, rfl, ?_⟩
        rw [decide_eq_false (fun z => by rw [k0] at z; cases z)]
        refine iteF ?_
        refine ⟨_, rfl, rfl, _, rfl, ?_⟩
        rw [decide_eq_false (fun z => by rw [k0] at z; cases z)]
        refine iteF ?_
        refine ⟨_, rfl, _, rfl, _, rfl, _, rfl, zs, p, c, (tx z).length, rfl, by rw [tx_len]; exact zl1, by rw [tx_len]; omega, pl1, fun H2 d2 hd2 sm2 pl2 => ?_⟩
        rw [tx_len] at hd2
        have gc : (tx z).cps.toList[d2]? = some z[d2] := List.getElem?_eq_getElem hd2
        refine ⟨tx z, _, _, rfl, rfl, zs, atI_nat gc, by show 2 ≤ sizeLine; decide, fun u hu => ?_⟩
        exact fin _ u _ (sm1.trans sm2) pl2 hu (.inl ⟨.sign z[d2], rfl, za _ (List.getElem_mem hd2)⟩)
    · rw [decide_eq_false k0]
      refine iteF ?_
      refine ⟨_, rfl, rfl, _, rfl, ?_⟩
      by_cases k1 : V.int ((d1 : Nat) : Int) = V.int 1
      · rw [decide_eq_true k1]
        refine iteT ⟨by show 1 ≤ sizeLine; decide, fun u hu => ?_⟩
        exact fin _ u _ sm1 pl1 hu (.inl ⟨.any, rfl, trivial⟩)
      · rw [decide_eq_false k1]
        refine iteF ?_
        refine ⟨_, rfl, rfl, _, rfl, ?_⟩
        by_cases k2 : V.int ((d1 : Nat) : Int) = V.int 2
        · rw [decide_eq_true k2]
          refine iteT ⟨⟨_, rfl⟩, _, rfl, p, c, 3, rfl, by decide, by decide, pl1, fun H5 d5 hd5 sm5 pl5 => ⟨_, _, rfl, rfl, 1 + (d5 : Nat), rfl, by omega, by omega, fun D hD => ?_⟩⟩
          have Dn := pl5.ne hD
          refine lc_it (walk_range (lo := 0) (n := (1 + ((d5 : Nat) : Int)).toNat)) (fun j H' => ∃ l : T, Al l ∧ l.length = j ∧ Sm p c H5 H' ∧ Pool p c H' ∧ H' D = some (.lst ((sg l).map V.str))) ⟨[], fun _ h => (List.not_mem_nil h).elim, rfl, Sm.of (same_new hD), pl5.same (same_new hD), upd_same⟩ (fun _ _ _ _ => trivial) (fun j x H6 H7 hj hP hy => ?_) (fun H6 hP => ?_)
          · obtain ⟨l, la, ll, S6, pl6, hD6⟩ := hP
            obtain ⟨rfl, rfl⟩ := hy
            refine ⟨rfl, _, rfl, _, rfl, _, rfl, _, rfl, zs, p, c, (tx z).length, rfl, by rw [tx_len]; exact zl1, by rw [tx_len]; omega, pl6, fun H8 d8 hd8 sm8 pl8 => ?_⟩
            rw [tx_len] at hd8
            have gc : (tx z).cps.toList[d8]? = some z[d8] := List.getElem?_eq_getElem hd8
            refine ⟨tx z, _, _, rfl, rfl, zs, atI_nat gc, _, sm8 _ _ Dn.1 Dn.2 hD6, ?_, l ++ [z[d8]], ?_, ?_, (S6.trans sm8).at hD, pl8.upd Dn, ?_⟩
            · rw [List.length_map]
              unfold sg
              rw [List.length_map]
              exact small1000 (by omega)
            · exact la.app fun c hc => by
                rw [List.mem_singleton.mp hc]
                exact za _ (List.getElem_mem hd8)
            · rw [List.length_append, ll]
              rfl
            · rw [upd_same]
              unfold sg
              rw [List.map_append, List.map_append]
              rfl
          · obtain ⟨l, la, ll, S6, pl6, hD6⟩ := hP
            refine ⟨D, sg l, rfl, .inl (.inl hD6), by unfold sg; rw [List.length_map]; omega, fun u ys ds dn dm hu hy => ?_⟩
            obtain ⟨n, en, on⟩ := set_signs la (by omega) (by omega) dn dm
            rw [en] at hy
            obtain rfl := dps_strs hy
            refine ⟨_, u, sg n, rfl, rfl, .inl (.inl (.inl upd_same)), ?_, by show 2 ≤ sizeLine; decide, fun v hv => ?_⟩
            · rw [sg_sum]
              have := on.2.2.1
              show n.length + (sg n).length * 0 ≤ 16777216
              omega
            rw [show Txt.join ("" : Str) (sg n) = tx n from join_sg n]
            exact fin _ v _ (((sm1.trans sm5).trans S6).trans (Sm.of (same_new hu))) (pl6.same (same_new hu)) hv (.inl ⟨.lot n, rfl, on⟩)
        · rw [decide_eq_false k2]
          refine iteF ?_
          refine ⟨_, rfl, _, rfl, _, rfl, _, rfl, zs, p, c, (tx z).length, rfl, by rw [tx_len]; exact zl1, by rw [tx_len]; omega, pl1, fun H2 d2 hd2 sm2 pl2 => ?_⟩
          rw [tx_len] at hd2
          have gc : (tx z).cps.toList[d2]? = some z[d2] := List.getElem?_eq_getElem hd2
          refine ⟨tx z, _, _, rfl, rfl, zs, atI_nat gc, by show 2 ≤ sizeLine; decide, fun u hu => ?_⟩
          exact fin _ u _ (sm1.trans sm2) pl2 hu (.inl ⟨.sign z[d2], rfl, za _ (List.getElem_mem hd2)⟩)
/-! ### _law_pattern -/
def spLPat : Sp := fun vs H Q _ => ∃ (p c : Addr) (z : T), vs = [.ref p, .str (tx z), .int 6] ∧ Al z ∧ 1 ≤ z.length ∧ z.length ≤ 10 ∧ Pool p c H ∧
  ∀ (H' : Hp) (u : Addr) (x : V) (xs : List V), Sm p c H H' → Pool p c H' → H' u = some (.tup (x :: xs)) → GAt true H' x → (∀ y ∈ xs, GAt false H' y) → xs.length ≤ 6 → Q (.ref u) H'
abbrev nLPt : List Str := ["_law_pool_here", "_law_signs", "_law_most", "_law_many", "_law_found", "_law_at", "_law_is_end"]
theorem sc_lpt : FnScope nLPt ["_law_pool_here", "_law_signs", "_law_most"] (defScope (topS 49)) := ⟨rfl, rfl, rfl, by decide +kernel, rfl, by decide +kernel, by decide +kernel⟩
theorem ok_lpt (M : Nm mg) (C1 : Cl P w K mg base 1 "_law_draw" ["_law_pool_here", "_law_many"] spDraw) (C2 : Cl P w K mg base 2 "_law_part" ["_law_pool_here", "_law_signs", "_law_is_end"] spLPart) {f : Addr} {fd : FuncData} (F : Fun K "_law_pattern" "_law_pattern" (topS 49) f fd) :
    FnOk P w K mg base CX0 3 f fd ["_law_pool_here", "_law_signs", "_law_most"] spLPat := by
  refine F.ok sc_lpt (fun vs H Q E h => ?_) (fun cdv A outer s H vs Q E hr h => ?_)
  · obtain ⟨p, c, z, rfl, _⟩ := h
    rfl
  · obtain ⟨p, c, z, rfl, za, zl1, zl2, hp, q⟩ := h
    have nd := sc_lpt.nd
    refine ⟨_, pss_cons (ps_set (i := 3) nd rfl (.inl rfl) (pe_op op_add pe_int (pe_c C1 (hr.mono (by decide)) (by rfl) (pa_cons (pv 0) (pa_cons (pv 2) pa_nil)))))
      (pss_cons (ps_set (i := 4) nd rfl (.inl rfl) (pe_lst pa_nil))
      (pss_cons (ps_for PassesOwn.never rfl (pi_range1 (by rfl) M.range (pa_cons (pv 3) pa_nil)) (pg_name (i := 5) nd rfl (.inl rfl))
        (pss_cons (ps_set (i := 6) nd rfl (.inl rfl) (pe_or (pe_cmpR op_in_seq (pv 5) (pe_tup (pa_cons pe_int (pa_cons (pe_op op_sub (pv 3) pe_int) pa_nil))) (by rfl)) (pe_one (pe_cmpR op_eq (pe_ix ix_tup (pe_ix ix_list (pv 4) (pe_un un_neg pe_int) (fun _ _ => rfl)) pe_int (fun _ _ => rfl)) pe_str (nomark _)))))
        (pss_one (ps_expr (pe_bm PySem.F.plainAttrs_list PySem.F.slot_list_append PySem.F.type_list_append mt_append (pv 4) (pa_cons (pe_c C2 hr (by rfl) (pa_cons (pv 0) (pa_cons (pv 1) (pa_cons (pv 6) pa_nil)))) pa_nil))))))
      (pss_one (ps_ret (pe_callTy call_tuple_of (by rfl) M.tuple bt_tuple (pa_cons (pv 4) pa_nil)))))), ?_⟩
    refine ⟨_, rfl, _, rfl, p, c, 6, rfl, by decide, by decide, hp, fun H1 d1 hd1 sm1 pl1 => ⟨_, _, rfl, rfl, Nat.zero_le _, fun F0 hF0 => ?_⟩⟩
    have hF := sm1.free pl1 hF0
    have Fn := hp.ne hF
    have e1 : (1 : Int) + ((d1 : Nat) : Int) = ((d1 + 1 : Nat) : Int) := by omega
    refine ⟨_, rfl, 1 + ((d1 : Nat) : Int), rfl, by omega, by omega, ?_⟩
    have S1 := sm1.trans (Sm.of (same_new (o := HO.lst []) hF0))
    refine for_it (walk_range (lo := 0) (n := (1 + ((d1 : Nat) : Int)).toNat)) (fun i σ H' => ∃ (y5 y6 : Option V) (xs : List V), σ = [some (.ref p), some (.str (tx z)), some (.int 6), some (.int (1 + ((d1 : Nat) : Int))), some (.ref F0), y5, y6] ∧ Sm p c H H' ∧ Pool p c H' ∧ H' F0 = some (.lst xs) ∧ xs.length = i ∧ (∀ y ∈ xs, GAt false H' y) ∧ ∀ y, xs[0]? = some y → GAt true H' y)
      ⟨none, none, [], rfl, S1, pl1.same (same_new hF0), upd_same, rfl, fun y h => (List.not_mem_nil h).elim, fun y h => by simp at h⟩ (fun _ _ _ _ _ => trivial) (fun i x σ H2 H3 hi hP hy => ?_) (fun σ H' hP => ?_)
    · obtain ⟨y5, y6, xs, rfl, S2, pl2, hxs, xl, hg, h0⟩ := hP
      obtain ⟨rfl, rfl⟩ := hy
      refine ⟨_, rfl, _, rfl, _, _, rfl, rfl, by show 2 ≤ sizeLine; decide, fun u hu => ?_⟩
      have su := same_new (o := HO.tup [V.int 0, V.int (1 + ((d1 : Nat) : Int) - 1)]) hu
      have hxu := su _ _ hxs
      have plu := pl2.same su
      refine ⟨u, _, rfl, .inr (.inl (.inl upd_same)), rfl, rfl, ?_⟩
      -- the rest of the turn, once it is told whether this is an end
      have fin : ∀ (e : Bool) (H4 : Hp) (v : V), (i = 0 → e = true) → Sm p c (upd H3 u (.tup [V.int 0, V.int (1 + ((d1 : Nat) : Int) - 1)])) H4 → Pool p c H4 → GAt e H4 v → H4 F0 = some (.lst xs) ∧ xs.length < sizeLine ∧
          ∃ (y5 y6 : Option V) (xs' : List V), [some (.ref p), some (.str (tx z)), some (.int 6), some (.int (1 + ((d1 : Nat) : Int))), some (.ref F0), some (.int (0 + (i : Nat))), some (.bl e)] = [some (.ref p), some (.str (tx z)), some (.int 6), some (.int (1 + ((d1 : Nat) : Int))), some (.ref F0), y5, y6] ∧
            Sm p c H (upd H4 F0 (.lst (xs ++ [v]))) ∧ Pool p c (upd H4 F0 (.lst (xs ++ [v]))) ∧ (upd H4 F0 (.lst (xs ++ [v]))) F0 = some (.lst xs') ∧ xs'.length = i + 1 ∧ (∀ y ∈ xs', GAt false (upd H4 F0 (.lst (xs ++ [v]))) y) ∧ ∀ y, xs'[0]? = some y → GAt true (upd H4 F0 (.lst (xs ++ [v]))) y := fun e H4 v he S4 pl4 gv => by
        have hx4 := S4 _ _ Fn.1 Fn.2 hxu
        have tk4 : TupK H3 (upd H4 F0 (.lst (xs ++ [v]))) := ((TupK.of su).trans (S4.tk plu)).trans (TupK.lst hx4)
        refine ⟨hx4, small1000 (by omega), _, _, xs ++ [v], rfl, ((S2.trans (Sm.of su)).trans S4).at hF, pl4.upd Fn, upd_same, by rw [List.length_append, xl]; rfl, fun y hy => ?_, fun y hy => ?_⟩
        · rcases List.mem_append.mp hy with h | h
          · exact (hg y h).tk tk4
          · rw [List.mem_singleton.mp h]
            exact gv.weak.tk (TupK.lst hx4)
        · cases xs with
          | nil =>
            have ev : v = y := by simpa using hy
            subst ev
            have := he xl.symm
            subst this
            exact gv.tk (TupK.lst hx4)
          | cons a xs =>
            have ev : a = y := by simpa using hy
            subst ev
            exact (h0 _ rfl).tk tk4
      refine ⟨_, rfl, ?_⟩
      cases eb : inV (V.int (0 + ((i : Nat) : Int))) [V.int 0, V.int (1 + ((d1 : Nat) : Int) - 1)] with
      | true =>
        refine iteT ?_
        refine ⟨_, rfl, .inl ⟨rfl, _, SqL.of hxu⟩, _, rfl, _, rfl, _, rfl, p, c, z, true, rfl, za, zl1, zl2, plu, fun H4 v S4 pl4 gv => ?_⟩
        obtain ⟨f1, f2, f3⟩ := fin true H4 v (fun _ => rfl) S4 pl4 gv
        exact ⟨F0, xs, v, rfl, rfl, f1, f2, f3⟩
      | false =>
        refine iteF ?_
        have i1 : i ≠ 0 := fun z => by
          subst z
          have : inV (V.int (0 + ((0 : Nat) : Int))) [V.int 0, V.int (1 + ((d1 : Nat) : Int) - 1)] = true := by
            unfold inV
            rw [List.any_cons]
            rfl
          rw [this] at eb
          cases eb
        rcases List.eq_nil_or_concat xs with ex | ⟨xs', y, ex⟩
        · rw [ex] at xl
          exact absurd xl.symm i1
        · rw [List.concat_eq_append] at ex
          obtain ⟨b, ws, rfl, hb, hws⟩ := hg y (by rw [ex]; simp)
          have aty : atI xs (-1) = some (V.ref b) := by rw [ex]; exact atI_last _ _
          obtain ⟨s0, hs0⟩ : ∃ s0, ws[0]? = some (V.str s0) := by
            rcases hws with ⟨pp, rfl, _⟩ | ⟨_, gi, gj, rfl⟩
            · cases pp with
              | sign c => exact ⟨_, rfl⟩
              | any => exact ⟨_, rfl⟩
              | lot l => exact ⟨_, rfl⟩
            · exact ⟨_, rfl⟩
          refine ⟨_, rfl, 1, rfl, F0, _, -1, _, rfl, rfl, .inl (.inl hxu), aty, b, _, 0, _, rfl, rfl, .inl (.inl (su _ _ hb)), atI_nat (j := 0) hs0, rfl, ?_⟩
          generalize decide (V.str s0 = V.str (Str.ofString "gap")) = e
          refine ⟨_, rfl, .inl ⟨rfl, _, SqL.of hxu⟩, _, rfl, _, rfl, _, rfl, p, c, z, e, rfl, za, zl1, zl2, plu, fun H4 v S4 pl4 gv => ?_⟩
          obtain ⟨f1, f2, f3⟩ := fin e H4 v (fun z => absurd z i1) S4 pl4 gv
          exact ⟨F0, xs, v, rfl, rfl, f1, f2, f3⟩
    · obtain ⟨y5, y6, xs, rfl, S2, pl2, hxs, xl, hg, h0⟩ := hP
      refine ⟨_, rfl, F0, _, rfl, .inl ⟨.inl (.inl hxs), fun u hu => ?_⟩⟩
      have su := same_new (o := HO.tup xs) hu
      cases xs with
      | nil =>
        exfalso
        have : (0 : Nat) = (1 + ((d1 : Nat) : Int)).toNat := xl
        omega
      | cons x xs =>
        refine q _ u x xs (S2.trans (Sm.of su)) (pl2.same su) upd_same ((h0 _ rfl).tk (TupK.of su)) (fun y hy => (hg y (List.mem_cons_of_mem _ hy)).tk (TupK.of su)) ?_
        rw [List.length_cons] at xl
        omega
end
end Ep

namespace Ep
open PySem PySem.Spec PyProof.Rows L2
open EP (T Pl endOf placesOf ordr rowsOf Part fitB Asc)
open PySem.W (EachIs)
/-! ### _law_begun -/
def tK (w : T) : Key := .inr (tx w)
theorem tK_inj {a b : T} (h : tK a = tK b) : a = b := tx_inj (Sum.inr.inj h)
theorem keys_put {kvs : List (Key × V)} {us : List T} (h : kvs.map (·.1) = us.map tK) (w : T) (v : V) : (w ∈ us ∧ (putK kvs (tK w) v).map (·.1) = us.map tK) ∨ (w ∉ us ∧ (putK kvs (tK w) v).map (·.1) = (us ++ [w]).map tK) := by
  by_cases m : w ∈ us
  · refine .inl ⟨m, ?_⟩
    unfold putK
    rw [if_pos]
    · rw [List.map_map, ← h]
      apply List.map_congr_left
      intro kv _
      show (if kv.1 = tK w then (kv.1, v) else kv).1 = kv.1
      split <;> rfl
    · have : tK w ∈ kvs.map (·.1) := by rw [h]; exact List.mem_map.mpr ⟨w, m, rfl⟩
      obtain ⟨kv, hk, e⟩ := List.mem_map.mp this
      exact List.any_eq_true.mpr ⟨kv, hk, decide_eq_true e⟩
  · refine .inr ⟨m, ?_⟩
    unfold putK
    rw [if_neg]
    · rw [List.map_append, h, List.map_append]
      rfl
    · intro z
      obtain ⟨kv, hk, e⟩ := List.any_eq_true.mp z
      have : tK w ∈ us.map tK := by rw [← h, ← of_decide_eq_true e]; exact List.mem_map.mpr ⟨kv, hk, rfl⟩
      obtain ⟨u, hu, e2⟩ := List.mem_map.mp this
      exact m (tK_inj e2 ▸ hu)
theorem srt_tx (us : List T) : srtD ((us.map tx).map .str) = ((us.mergeSort fun a b => !decide (b < a)).map tx).map .str := by
  rw [List.map_map, List.map_map]
  refine (List.map_mergeSort (r := fun a b : T => !decide (b < a)) (s := PySem.W.dataLe false fun d => d) (f := fun u : T => PyData.str (tx u)) fun a _ b _ => ?_).symm
  show _ = (!(PySem.W.dataLt (.str (tx b)) (.str (tx a))))
  rw [PySem.W.dataLt_str]
  rfl
theorem srt_asc {us : List T} (hn : us.Nodup) : Asc (us.mergeSort fun a b => !decide (b < a)) := by
  have hp := List.mergeSort_perm us fun a b => !decide (b < a)
  have hs := List.pairwise_mergeSort (le := fun a b : T => !decide (b < a)) (fun a b c h k => by
    simp only [Bool.not_eq_true', decide_eq_false_iff_not] at h k ⊢
    exact List.not_lt.mpr (EP.t_le_tr (List.not_lt.mp h) (List.not_lt.mp k))) (fun a b => by
    rw [Bool.or_eq_true]
    simp only [Bool.not_eq_true', decide_eq_false_iff_not]
    rcases EP.t_tri a b with h | h | h
    · exact .inl fun z => EP.t_irr _ (EP.t_trans h z)
    · subst h
      exact .inl (EP.t_irr _)
    · exact .inr fun z => EP.t_irr _ (EP.t_trans h z)) us
  refine (hs.and (hp.nodup_iff.mpr hn)).imp fun {a b} h => ?_
  have h1 : ¬ b < a := by simpa using h.1
  rcases EP.t_tri a b with k | k | k
  · exact k
  · exact absurd k h.2
  · exact absurd k h1
theorem fit_all : ∀ {pat : List Part} {w : T}, w.length = pat.length → fitB pat w = ((pat.zip w).map fun x => x.1.lets x.2).all id
  | [], [], _ => rfl
  | p :: pat, c :: w, h => by
    show (p.lets c && fitB pat w) = _
    rw [fit_all (by simpa using h)]
    rfl
  | [], _ :: _, h => by simp at h
  | _ :: _, [], h => by simp at h
/-- w stands in the texts somewhere -/
def InT (ts : List T) (n : Nat) (w : T) : Prop := ∃ t ∈ ts, ∃ a, a + n ≤ t.length ∧ w = (t.drop a).take n
/-- w stands in the first i texts, or in the i-th at one of the first j places -/
def InTo (ts : List T) (n i : Nat) (w : T) : Prop := InT (ts.take i) n w
section
variable {P : Program} {w : World} {K : PySem.W.Frag} {mg : Str → Option Value} {base : Heap}
def spBegun : Sp := fun vs H Q _ => ∃ (a b : Addr) (ts : List T) (xs : List V) (pat : List Part), vs = [.ref a, .ref b] ∧ H a = some (.tup (txV ts)) ∧ Tok3 ts ∧ H b = some (.tup xs) ∧ EachIs (PartAt H) xs pat ∧ 1 ≤ pat.length ∧ pat.length ≤ 30 ∧
  ∀ (H' : Hp) (p : Addr) (ws : List T), Same H H' → H p = none → H' p = some (.lst (txV ws)) → Asc ws → ws.length ≤ 100 → (∀ w, w ∈ ws ↔ fitB pat w = true ∧ InT ts pat.length w) → Q (.ref p) H'
abbrev nBeg : List Str := ["_law_texts_here", "_law_pattern_here", "_law_found", "_law_text", "_law_at", "_law_piece", "_law_part_here", "_law_sign"]
theorem sc_beg : FnScope nBeg ["_law_texts_here", "_law_pattern_here"] (defScope (topS 51)) := ⟨rfl, rfl, rfl, by decide +kernel, rfl, by decide +kernel, by decide +kernel⟩
theorem ok_beg (M : Nm mg) (C1 : Cl P w K mg base 1 "_law_lets" ["_law_part_here", "_law_sign"] spCan) {f : Addr} {fd : FuncData} (F : Fun K "_law_begun" "_law_begun" (topS 51) f fd) :
    FnOk P w K mg base CX0 2 f fd ["_law_texts_here", "_law_pattern_here"] spBegun := by
  refine F.ok sc_beg (fun vs H Q E h => ?_) (fun cdv A outer s H vs Q E hr h => ?_)
  · obtain ⟨a, b, ts, xs, pat, rfl, _⟩ := h
    rfl
  · obtain ⟨a, b, ts, xs, pat, rfl, ha, ht, hb, hx, l1, l2, q⟩ := h
    have nd := sc_beg.nd
    refine ⟨_, pss_cons (ps_set (i := 2) nd rfl (.inl rfl) pe_dnewK)
      (pss_cons (ps_for PassesOwn.never rfl (pi_tup (pv 0)) (pg_name (i := 3) nd rfl (.inl rfl))
        (pss_one (ps_for PassesOwn.never rfl (pi_range1 (by rfl) M.range (pa_cons (pe_op op_add (pe_op op_sub (pe_callB call_len_str (by rfl) M.len PySem.boot_len (pa_cons (pv 3) pa_nil)) (pe_callB call_len_seq (by rfl) M.len PySem.boot_len (pa_cons (pv 1) pa_nil))) pe_int) pa_nil)) (pg_name (i := 4) nd rfl (.inl rfl))
          (pss_cons (ps_set (i := 5) nd rfl (.inl rfl) (pe_slice sl_str (pv 3) (po_some (pv 4)) (po_some (pe_op op_add (pv 4) (pe_callB call_len_seq (by rfl) M.len PySem.boot_len (pa_cons (pv 1) pa_nil))))))
          (pss_one (ps_if (pt_val (pe_callB (cr_all rfl) (by rfl) M.all bt_all (pa_cons
            (pe_lc (own := [("_law_part_here", 6), ("_law_sign", 7)]) (g := gTup K 2 (gCons (gName 6) (gCons (gName 7) gNil))) (tt := tYes) rfl nd (pi_zipS (by rfl) M.zip (pa_cons (pv 1) (pa_cons (pv 5) pa_nil))) (blkOk_by (own := [("_law_part_here", 6), ("_law_sign", 7)]) (N := nBeg) (sc := defScope (topS 51)) (by decide +kernel))
              (fun _ _ _ _ _ => pg_tup rfl (pgs_cons (pg_name (i := 6) sc_beg.nd rfl (.inl rfl)) (pgs_cons (pg_name (i := 7) sc_beg.nd rfl (.inl rfl)) pgs_nil))) (fun _ _ _ _ _ => pts_nil)
              (fun _ _ _ _ _ => pe_c C1 hr (by rfl) (pa_cons (pv 6) (pa_cons (pv 7) pa_nil)))) pa_nil)))
            (pss_one (ps_dput (hu_of hr) (pv 2) (pv 5) pe_bl rfl)) pss_nil))))))
      (pss_one (ps_ret (pe_callB (cr_sortedDT rfl hr.units) (by rfl) M.sorted bt_sorted (pa_cons (pv 2) pa_nil))))), ?_⟩
    have xl : xs.length = pat.length := hx.length
    intro d hd
    have s1 : Same H (upd H d (.dK [])) := same_new hd
    refine ⟨_, rfl, a, rfl, ⟨_, .inl (.inl (s1 _ _ ha))⟩, ?_⟩
    refine for_it (walk_tup (K := K) (a := a) (xs := txV ts)) (fun i σ H' => ∃ (y3 y4 y5 y6 y7 : Option V) (kvs : List (Key × V)) (us : List T), σ = [some (.ref a), some (.ref b), some (.ref d), y3, y4, y5, y6, y7] ∧ Same H H' ∧ H' d = some (.dK kvs) ∧ kvs.map (·.1) = us.map tK ∧ us.Nodup ∧ us.length ≤ 25 * i ∧ ∀ v, v ∈ us ↔ fitB pat v = true ∧ InT (ts.take i) pat.length v)
      ⟨none, none, none, none, none, [], [], rfl, s1, upd_same, rfl, List.nodup_nil, Nat.zero_le _, fun v => ⟨fun z => (List.not_mem_nil z).elim, fun ⟨_, t, z, _⟩ => by simp at z⟩⟩ (fun i σ H' _ hP => ?_) (fun i x σ H1 H2 hi hP hy => ?_) (fun σ H' hP => ?_)
    · obtain ⟨_, _, _, _, _, _, _, _, sm, _⟩ := hP
      exact .inl (.inl (sm _ _ ha))
    · obtain ⟨y3, y4, y5, y6, y7, kvs, us, rfl, sm, hk, ek, un, ul, um⟩ := hP
      obtain ⟨rfl, hx0⟩ := hy
      obtain ⟨t, ht1, rfl⟩ := txV_get hx0
      have htm := List.mem_of_getElem? ht1
      have hl24 := ht.2.1 t htm
      have i3 : i < 3 := by rw [List.length_map] at hi; have := ht.1; omega
      have szt : (tx t).length ≤ sizeLine := by rw [tx_len]; exact Nat.le_of_lt (small1000 (by omega))
      have etk : ts.take (i + 1) = ts.take i ++ [t] := by rw [List.take_add_one, ht1]; rfl
      refine ⟨_, rfl, _, rfl, szt, _, rfl, b, xs, rfl, .inr (.inl (.inl (sm _ _ hb))), _, _, rfl, rfl, _, _, rfl, rfl, _, rfl, by rw [tx_len]; omega, by rw [tx_len]; omega, ?_⟩
      rw [tx_len, xl]
      refine for_it (walk_range (lo := 0) (n := (((t.length : Nat) : Int) - ((pat.length : Nat) : Int) + 1).toNat)) (fun j σ H' => ∃ (y4 y5 y6 y7 : Option V) (kvs : List (Key × V)) (us : List T), σ = [some (.ref a), some (.ref b), some (.ref d), some (.str (tx t)), y4, y5, y6, y7] ∧ Same H H' ∧ H' d = some (.dK kvs) ∧ kvs.map (·.1) = us.map tK ∧ us.Nodup ∧ us.length ≤ 25 * i + j ∧
          ∀ v, v ∈ us ↔ fitB pat v = true ∧ (InT (ts.take i) pat.length v ∨ ∃ k, k < j ∧ v = (t.drop k).take pat.length))
        ⟨y4, y5, y6, y7, kvs, us, rfl, sm, hk, ek, un, by omega, fun v => (um v).trans (and_congr_right fun _ => ⟨.inl, fun z => z.resolve_right fun ⟨k, hk, _⟩ => by omega⟩)⟩ (fun _ _ _ _ _ => trivial) (fun j x σ H3 H4 hj hP hy => ?_) (fun σ H3 hP => ?_)
      · obtain ⟨y4, y5, y6, y7, kvs, us, rfl, sm, hk, ek, un, ul, um⟩ := hP
        have e0 : (0 : Int) + ((j : Nat) : Int) = ((j : Nat) : Int) := Int.zero_add _
        obtain ⟨rfl, hx1⟩ := hy
        obtain rfl : x = V.int ((j : Nat) : Int) := hx1.trans (congrArg V.int e0)
        have hjt : j + pat.length ≤ t.length := by omega
        refine ⟨_, rfl, _, rfl, (j : Nat), rfl, _, rfl, _, rfl, b, xs, rfl, .inr (.inl (.inl (sm _ _ hb))), _, _, rfl, rfl, ((j : Nat) : Int) + ((xs.length : Nat) : Int), rfl, tx t, rfl, szt, ?_⟩
        rw [cut_mid, xl]
        have wl : ((t.drop j).take pat.length).length = pat.length := by rw [List.length_take, List.length_drop]; omega
        have etk2 : ∀ v, (∃ k, k < j + 1 ∧ v = (t.drop k).take pat.length) ↔ (∃ k, k < j ∧ v = (t.drop k).take pat.length) ∨ v = (t.drop j).take pat.length := fun v => by
          constructor
          · rintro ⟨k, hk, e⟩
            rcases Nat.lt_or_ge k j with z | z
            · exact .inl ⟨k, z, e⟩
            · have : k = j := by omega
              subst this
              exact .inr e
          · rintro (⟨k, hk, e⟩ | e)
            · exact ⟨k, by omega, e⟩
            · exact ⟨j, by omega, e⟩
        generalize (t.drop j).take pat.length = pc at *
        refine ⟨_, rfl, _, rfl, _, _, _, _, rfl, .tup (sm _ _ hb), .txt _, fun D hD => ?_⟩
        refine lc_it (walk_zipS (x := .ref b) (y := .str (tx pc)) (xs := xs) (ys := signsV (tx pc)) (n := pat.length) (by unfold signsV; rw [List.length_map, tx_list, xl, wl, Nat.min_self])) (fun k H' => Same H4 H' ∧ H' D = some (.lst ((((pat.zip pc).take k).map fun x => x.1.lets x.2).map V.bl))) ⟨same_new hD, upd_same⟩ (fun k H' _ hP => ⟨.tup (hP.1 _ _ (sm _ _ hb)), .txt _⟩) (fun k x H5 H6 hk' hP hy => ?_) (fun H5 hP => ?_)
        · obtain ⟨sm5, hd5⟩ := hP
          obtain ⟨Tp, x1, x2, rfl, nT', rfl, f1, f2⟩ := hy
          obtain ⟨pp, hpp, b2, rfl, hb2⟩ := each_get hx f1
          have hkc : k < pc.length := by omega
          have g2 : (signsV (tx pc))[k]? = some (.str ⟨#[pc[k]]⟩) := by unfold signsV; rw [List.getElem?_map, tx_list, List.getElem?_eq_getElem hkc]; rfl
          obtain rfl : V.str ⟨#[pc[k]]⟩ = x2 := Option.some.inj (g2.symm.trans f2)
          have sT := same_new (o := HO.tup [V.ref b2, V.str ⟨#[pc[k]]⟩]) nT'
          have hzk : (pat.zip pc)[k]? = some (pp, pc[k]) := by
            rw [List.getElem?_zip_eq_some]
            exact ⟨hpp, List.getElem?_eq_getElem hkc⟩
          refine ⟨Tp, [_, _], rfl, .inl (.inl upd_same), rfl, _, [_], rfl, _, [], rfl, rfl, rfl, ?_⟩
          refine ⟨_, rfl, _, rfl, b2, pp, pc[k], rfl, sT _ _ (sm5 _ _ (sm _ _ hb2)), _, sT _ _ hd5, ?_, same_at hD (sm5.trans sT), ?_⟩
          · rw [List.length_map, List.length_map, List.length_take]
            exact small1000 (by omega)
          · rw [upd_same, List.take_add_one, hzk, List.map_append, List.map_append]
            rfl
        · obtain ⟨sm5, hd5⟩ := hP
          have zl : (pat.zip pc).length = pat.length := by rw [List.length_zip, wl, Nat.min_self]
          rw [List.take_of_length_le (by omega)] at hd5
          refine ⟨D, _, rfl, .inl (.inl hd5), _, rfl, ?_⟩
          rw [← fit_all wl]
          have s35 := sm.trans sm5
          cases ef : fitB pat pc with
          | false =>
            refine iteF ⟨_, _, _, _, kvs, us, rfl, s35, sm5 _ _ hk, ek, un, by omega, fun v => ?_⟩
            rw [um v, etk2 v]
            constructor
            · rintro ⟨h1, h2⟩
              exact ⟨h1, h2.imp id .inl⟩
            · rintro ⟨h1, h2 | h2 | h2⟩
              · exact ⟨h1, .inl h2⟩
              · exact ⟨h1, .inr h2⟩
              · rw [h2, ef] at h1
                cases h1
          | true =>
            have hk5 := sm5 _ _ hk
            have kl : kvs.length = us.length := by
              have := congrArg List.length ek
              rw [List.length_map, List.length_map] at this
              exact this
            refine iteT ⟨_, rfl, _, rfl, d, _, rfl, DPut.k (k := tK pc) hk5 (small1000 (by omega)), ?_⟩
            have sd := same_at (o := HO.dK (putK kvs (tK pc) (.bl true))) hd s35
            have mm : ∀ us' : List T, (∀ v, v ∈ us' ↔ v ∈ us ∨ v = pc) → ∀ v, v ∈ us' ↔ fitB pat v = true ∧ (InT (ts.take i) pat.length v ∨ ∃ k, k < j + 1 ∧ v = (t.drop k).take pat.length) := fun us' h v => by
              rw [h v, um v, etk2 v]
              constructor
              · rintro (⟨h1, h2⟩ | h2)
                · exact ⟨h1, h2.imp id .inl⟩
                · exact ⟨by rw [h2]; exact ef, .inr (.inr h2)⟩
              · rintro ⟨h1, h2 | h2 | h2⟩
                · exact .inl ⟨h1, .inl h2⟩
                · exact .inl ⟨h1, .inr h2⟩
                · exact .inr h2
            rcases keys_put ek pc (.bl true) with ⟨m, e⟩ | ⟨m, e⟩
            · refine ⟨_, _, _, _, _, us, rfl, sd, upd_same, e, un, by omega, mm us fun v => ⟨.inl, fun z => z.elim id fun z => z ▸ m⟩⟩
            · refine ⟨_, _, _, _, _, us ++ [pc], rfl, sd, upd_same, e, ?_, by rw [List.length_append]; show us.length + 1 ≤ _; omega, mm _ fun v => by rw [List.mem_append, List.mem_singleton]⟩
              rw [List.nodup_append]
              refine ⟨un, by simp, fun x hx y hy => ?_⟩
              rw [List.mem_singleton.mp hy]
              exact fun z => m (z ▸ hx)
      · obtain ⟨y4, y5, y6, y7, kvs, us, rfl, sm, hk, ek, un, ul, um⟩ := hP
        refine ⟨_, y4, y5, y6, y7, kvs, us, rfl, sm, hk, ek, un, by omega, fun v => (um v).trans (and_congr_right fun _ => ?_)⟩
        rw [etk]
        constructor
        · rintro (⟨t', h1, k, h2, h3⟩ | ⟨k, h1, h2⟩)
          · exact ⟨t', List.mem_append_left _ h1, k, h2, h3⟩
          · exact ⟨t, List.mem_append_right _ List.mem_cons_self, k, by omega, h2⟩
        · rintro ⟨t', h1, k, h2, h3⟩
          rcases List.mem_append.mp h1 with h | h
          · exact .inl ⟨t', h, k, h2, h3⟩
          · rw [List.mem_singleton.mp h] at h2 h3
            exact .inr ⟨k, by omega, h3⟩
    · obtain ⟨y3, y4, y5, y6, y7, kvs, us, rfl, sm, hk, ek, un, ul, um⟩ := hP
      have el : (txV ts).length = ts.length := List.length_map _
      rw [el, List.take_length] at um
      rw [el] at ul
      have ts3 := ht.1
      refine ⟨_, rfl, d, kvs, us.map tx, rfl, .inl hk, by rw [ek, List.map_map]; rfl, by rw [List.length_map]; exact Nat.le_of_lt (small1000 (by omega)), fun p ys hp hy => ?_⟩
      rw [srt_tx] at hy
      obtain rfl := dps_strs hy
      have hperm := List.mergeSort_perm us fun a b => !decide (b < a)
      refine q _ p (us.mergeSort fun a b => !decide (b < a)) (sm.trans (same_new hp)) (sm.free hp) ?_ (srt_asc un) (by rw [hperm.length_eq]; omega) (fun v => hperm.mem_iff.trans (um v))
      rw [upd_same, List.map_map]
      rfl
end
end Ep

namespace Ep
open PySem PySem.Spec PyProof.Rows L2
open EP (T Pl endOf placesOf ordr rowsOf Part fitB Asc rng)
open PySem.W (EachIs)
/-! ### _law_range -/
/-- the numbers of a range, as far as i -/
def nums (lo hi i : Nat) : List V := (List.range' lo (min i hi - lo)).map fun k => V.int (k : Nat)
theorem nums_in {lo hi i : Nat} (h : lo ≤ i ∧ i < hi) : nums lo hi (i + 1) = nums lo hi i ++ [.int (i : Nat)] := by
  unfold nums
  have e1 : min (i + 1) hi - lo = (min i hi - lo) + 1 := by omega
  have e2 : lo + 1 * (min i hi - lo) = i := by omega
  rw [e1, List.range'_concat, List.map_append, e2]
  rfl
theorem nums_out {lo hi i : Nat} (h : ¬ (lo ≤ i ∧ i < hi)) : nums lo hi (i + 1) = nums lo hi i := by
  unfold nums
  have e1 : min (i + 1) hi - lo = (min i hi - lo) := by omega
  rw [e1]
theorem nums_len {lo hi i : Nat} : (nums lo hi i).length ≤ i := by
  unfold nums
  rw [List.length_map, List.length_range']
  omega
section
variable {P : Program} {w : World} {K : PySem.W.Frag} {mg : Str → Option Value} {base : Heap}
def spRange : Sp := fun vs H Q _ => ∃ (a o : Addr) (ts : List T) (xs : List V) (u : T), vs = [.ref a, .ref o, .str (tx u)] ∧ H a = some (.tup (txV ts)) ∧ Tok3 ts ∧ H o = some (.lst xs) ∧ PlsAt H xs (ordr ts) ∧ u.length ≤ 100 ∧ (∃ r ∈ rowsOf ts, u <+: r) ∧
  ∀ (H' : Hp) (q : Addr), Same H H' → H q = none → H' q = some (.tup [.int ((rng (rowsOf ts) u).1 : Nat), .int ((rng (rowsOf ts) u).2 : Nat)]) → Q (.ref q) H'
abbrev nRng : List Str := ["_law_texts_here", "_law_order", "_law_word", "_law_numbers", "_law_number", "_law_place"]
theorem sc_rng : FnScope nRng ["_law_texts_here", "_law_order", "_law_word"] (defScope (topS 52)) := ⟨rfl, rfl, rfl, by decide +kernel, rfl, by decide +kernel, by decide +kernel⟩
theorem ok_rng (M : Nm mg) {f : Addr} {fd : FuncData} (F : Fun K "_law_range" "_law_range" (topS 52) f fd) : FnOk P w K mg base CX0 1 f fd ["_law_texts_here", "_law_order", "_law_word"] spRange := by
  refine F.ok sc_rng (fun vs H Q E h => ?_) (fun cdv A outer s H vs Q E hr h => ?_)
  · obtain ⟨a, o, ts, xs, u, rfl, _⟩ := h
    rfl
  · obtain ⟨a, o, ts, xs, u, rfl, ha, ht, ho, pls, ul, hu, q⟩ := h
    have nd := sc_rng.nd
    refine ⟨_, pss_cons (ps_setLc (i := 3) (own := [("_law_number", 4), ("_law_place", 5)]) (g := gTup K 2 (gCons (gName 4) (gCons (gName 5) gNil))) rfl nd rfl rfl (sw_true rfl rfl rfl (by decide +kernel)) (pi_enum (by rfl) M.enumerate (pa_cons (pv 1) pa_nil)) (blkOk_by (own := [("_law_number", 4), ("_law_place", 5)]) (N := nRng) (sc := defScope (topS 52)) (by decide +kernel))
          (fun _ _ _ _ _ => pg_tup rfl (pgs_cons (pg_name (i := 4) sc_rng.nd rfl (.inl rfl)) (pgs_cons (pg_name (i := 5) sc_rng.nd rfl (.inl rfl)) pgs_nil)))
          (fun _ _ _ _ _ => pts_one (pt_cmpR op_eq (pe_slice sl_str (pe_ix (ix_tupK (K := K) rfl) (pv 0) (pe_ix (ix_tupK (K := K) rfl) (pv 5) pe_int (fun _ _ => rfl)) (fun _ _ => rfl)) (po_some (pe_ix (ix_tupK (K := K) rfl) (pv 5) pe_int (fun _ _ => rfl)))
            (po_some (pe_op op_add (pe_ix (ix_tupK (K := K) rfl) (pv 5) pe_int (fun _ _ => rfl)) (pe_callB call_len_str (by rfl) M.len PySem.boot_len (pa_cons (pv 2) pa_nil))))) (pv 2) (nomark _)))
          (fun _ _ _ _ _ => pv 4))
      (pss_one (ps_ret (pe_tup (pa_cons (pe_ix ix_list (pv 3) pe_int (fun _ _ => rfl)) (pa_cons (pe_op op_add (pe_ix ix_list (pv 3) (pe_un un_neg pe_int) (fun _ _ => rfl)) pe_int) pa_nil))))), ?_⟩
    have hS := EP.rows_srt ts
    have r72 := rows_len ht
    obtain ⟨r0, hr0, hp0⟩ := hu
    have lp := EP.rng_pos hS hr0 hp0
    have lh := EP.rng_le (R := rowsOf ts) u
    have olr : (ordr ts).length = (rowsOf ts).length := by unfold rowsOf; rw [List.length_map]
    refine ⟨_, rfl, o, xs, rfl, .inl (.inl ho), fun D hD => ?_⟩
    refine lc_it (walk_enum (K := K) (a := o) (xs := xs)) (fun i H' => Same H H' ∧ H' D = some (.lst (nums (rng (rowsOf ts) u).1 (rng (rowsOf ts) u).2 i))) ⟨same_new hD, ?_⟩ (fun i H2 _ hP => .inl (.inl (hP.1 _ _ ho))) (fun i x H1 H2 hi hP hy => ?_) (fun H1 hP => ?_)
    · rw [upd_same]
      unfold nums
      rw [Nat.zero_min, Nat.zero_sub]
      rfl
    · obtain ⟨sm, hd⟩ := hP
      obtain ⟨Tp, x1, x2, rfl, nT, rfl, f1, f2⟩ := hy
      obtain rfl : V.int (i : Nat) = x1 := Option.some.inj f1
      have hip : i < (ordr ts).length := by rw [← pls.1]; exact hi
      obtain ⟨b, e1, e2⟩ := pls.2 i (ordr ts)[i] (List.getElem?_eq_getElem hip)
      obtain rfl : V.ref b = x2 := Option.some.inj (e1.symm.trans f2)
      have hr : (rowsOf ts)[i]? = some (endOf ts (ordr ts)[i]) := by unfold rowsOf; rw [List.getElem?_map, List.getElem?_eq_getElem hip]; rfl
      have hin := EP.rng_iff hS (w := u) hr
      have hpl := EP.mem_ordr.mp (List.getElem_mem hip)
      have hlt := EP.place_lt hpl
      generalize (ordr ts)[i] = qq at *
      have et : ts.getD qq.1 [] = ts[qq.1] := by rw [List.getD, List.getElem?_eq_getElem hlt]; rfl
      have gt : (txV ts)[qq.1]? = some (.str (tx ts[qq.1])) := by rw [List.getElem?_map, List.getElem?_eq_getElem hlt]; rfl
      have l24 := ht.2.1 _ (List.getElem_mem hlt)
      have sT := same_new (o := HO.tup [V.int (i : Nat), V.ref b]) nT
      have smT := sm.trans sT
      have szu : (tx u).length ≤ sizeLine := by rw [tx_len]; exact Nat.le_of_lt (small1000 (by omega))
      refine ⟨Tp, [_, _], rfl, .inl (.inl upd_same), rfl, _, [_], rfl, _, [], rfl, rfl, rfl, ?_⟩
      refine ⟨_, rfl, _, rfl, b, _, 0, _, rfl, rfl, .inl (.inl (smT _ _ e2)), atI_nat (j := 0) rfl, a, _, _, _, rfl, rfl, .inl (.inl (smT _ _ ha)), atI_nat gt, ?_⟩
      refine ⟨_, rfl, b, _, 1, _, rfl, rfl, .inl (.inl (smT _ _ e2)), atI_nat (j := 1) rfl, (qq.2 : Nat), rfl, ?_⟩
      refine ⟨_, rfl, b, _, 1, _, rfl, rfl, .inl (.inl (smT _ _ e2)), atI_nat (j := 1) rfl, _, rfl, _, rfl, szu, _, _, rfl, rfl, ((qq.2 : Nat) : Int) + ((tx u).length : Nat), rfl, tx ts[qq.1], rfl, by rw [tx_len]; exact Nat.le_of_lt (small1000 (by omega)), ?_⟩
      rw [tx_len, cut_mid]
      refine ⟨_, rfl, rfl, _, rfl, ?_⟩
      have ei : (V.str (tx ((ts[qq.1].drop qq.2).take u.length)) = V.str (tx u)) ↔ u <+: endOf ts qq := by
        rw [List.prefix_iff_eq_take]
        unfold endOf
        rw [et]
        constructor
        · intro z
          exact (tx_inj (V.str.inj z)).symm
        · intro z
          rw [← z]
      by_cases c : u <+: endOf ts qq
      · rw [decide_eq_true (ei.mpr c)]
        have cc := hin.mpr c
        refine iteT ⟨_, rfl, _, sT _ _ hd, ?_, same_at hD smT, ?_⟩
        · exact small1000 (Nat.le_trans nums_len (by omega))
        · rw [upd_same, nums_in cc]
      · rw [decide_eq_false (fun z => c (ei.mp z))]
        refine iteF ⟨smT, ?_⟩
        rw [nums_out (fun z => c (hin.mp z))]
        exact sT _ _ hd
    · obtain ⟨sm, hd⟩ := hP
      rw [pls.1, olr] at hd
      generalize hlo : (rng (rowsOf ts) u).1 = lo at *
      generalize hhi : (rng (rowsOf ts) u).2 = hi at *
      have en : nums lo hi (rowsOf ts).length = (List.range' lo (hi - lo - 1 + 1)).map fun k => V.int (k : Nat) := by
        unfold nums
        have : min (rowsOf ts).length hi - lo = hi - lo - 1 + 1 := by omega
        rw [this]
      have a0 : (nums lo hi (rowsOf ts).length)[0]? = some (.int (lo : Nat)) := by
        rw [en, List.range'_succ]
        rfl
      have a1 : atI (nums lo hi (rowsOf ts).length) (-1) = some (.int ((hi - 1 : Nat) : Int)) := by
        rw [en, List.range'_concat, List.map_append]
        have : lo + 1 * (hi - lo - 1) = hi - 1 := by omega
        rw [this]
        exact atI_last _ _
      refine ⟨_, rfl, D, _, 0, _, rfl, rfl, .inl (.inl hd), atI_nat (j := 0) a0, _, rfl, 1, rfl, D, _, -1, _, rfl, rfl, .inl (.inl hd), a1, _, _, rfl, rfl, by show 2 ≤ sizeLine; decide, fun v hv => ?_⟩
      have e3 : ((hi - 1 : Nat) : Int) + 1 = ((hi : Nat) : Int) := by omega
      exact q _ v (sm.trans (same_new hv)) (sm.free hv) (upd_same.trans (congrArg (fun z => some (HO.tup [V.int (lo : Nat), V.int z])) e3))
/-! ### _law_is -/
def spIs (K : PySem.W.Frag) : Sp := fun vs H Q _ => ∃ (a b : Addr) (d : PyData), vs = [.ref a, .ref b] ∧ Dp K H (.ref a) d ∧ Dp K H (.ref b) d ∧ d.showable = true ∧ d.hasDict = false ∧ d.depth ≤ 60 ∧ d.shown.length ≤ sizeLine ∧ Q (.bl true) H
theorem sc_is : FnScope ["_law_told", "_law_due"] ["_law_told", "_law_due"] (defScope (topS 45)) := ⟨rfl, rfl, rfl, by decide +kernel, rfl, by decide +kernel, by decide +kernel⟩
theorem ok_is (M : Nm mg) {f : Addr} {fd : FuncData} (F : Fun K "_law_is" "_law_is" (topS 45) f fd) : FnG P w K mg base 1 f fd ["_law_told", "_law_due"] (spIs K) := by
  refine okG F sc_is (fun vs H Q E h => ?_) (fun cdv A outer s H vs Q E hg hr h => ?_)
  · obtain ⟨a, b, d, rfl, _⟩ := h
    rfl
  · obtain ⟨a, b, d, rfl, h1, h2, h3, h4, h5, h6, q⟩ := h
    refine ⟨_, pss_one (ps_ret (pe_cmpR op_eq (pe_callB (cr_repr hg hr.units) (by rfl) M.repr bt_repr (pa_cons (pv 0) pa_nil)) (pe_callB (cr_repr hg hr.units) (by rfl) M.repr bt_repr (pa_cons (pv 1) pa_nil)) (nomark _))), ?_⟩
    refine ⟨_, rfl, a, d, rfl, h1, h3, h4, h5, h6, _, rfl, b, d, rfl, h2, h3, h4, h5, h6, rfl, ?_⟩
    rw [decide_eq_true rfl]
    exact q
end
end Ep

namespace Ep
open PySem PySem.Spec PyProof.Rows L2
open EP (T Pl endOf placesOf ordr rowsOf Part fitB Asc rng levF lookF)
open PySem.W (EachIs)
/-! ### plain: what the law counts -/
theorem in_rows {ts : List T} {k : Nat} (hk : 1 ≤ k) {w : T} : InT ts k w ↔ w.length = k ∧ ∃ r ∈ rowsOf ts, w <+: r := by
  constructor
  · rintro ⟨t, ht, a, h1, rfl⟩
    obtain ⟨n, hn, e⟩ := List.getElem_of_mem ht
    have eg : ts.getD n [] = t := by rw [List.getD, List.getElem?_eq_getElem hn, ← e]; rfl
    refine ⟨by rw [List.length_take, List.length_drop]; omega, t.drop a, EP.mem_rows.mpr ⟨(n, a), EP.mem_places.mpr ?_, ?_⟩, List.take_prefix _ _⟩
    · show a < (ts.getD n []).length
      rw [eg]
      omega
    · unfold endOf
      rw [eg]
  · rintro ⟨h1, r, hr, hp⟩
    obtain ⟨q, hq, rfl⟩ := EP.mem_rows.mp hr
    have l := EP.place_lt hq
    have eg : ts.getD q.1 [] = ts[q.1] := by rw [List.getD, List.getElem?_eq_getElem l]; rfl
    have hl := hp.length_le
    have he := List.prefix_iff_eq_take.mp hp
    unfold endOf at hl he
    rw [eg] at hl he
    rw [List.length_drop] at hl
    refine ⟨ts[q.1], List.getElem_mem l, q.2, by omega, ?_⟩
    rw [← h1]
    exact he
/-- the k-th level, as the law counts it -/
theorem lev_law {ts : List T} {pat : List Part} {k : Nat} (h1 : 1 ≤ k) (h2 : k ≤ pat.length) {ws : List T} (ha : Asc ws) (hm : ∀ w, w ∈ ws ↔ fitB (pat.take k) w = true ∧ InT ts (pat.take k).length w) : levF (rowsOf ts) pat k = ws.map (rng (rowsOf ts)) := by
  have lk : (pat.take k).length = k := by rw [List.length_take]; omega
  refine EP.levF_of (EP.rows_srt ts) h1 h2 ha fun w => (hm w).trans (and_congr_right fun hf => ?_)
  rw [lk, in_rows h1]
  have := EP.fitB_len hf
  rw [lk] at this
  exact ⟨fun z => z.2, fun z => ⟨this, z⟩⟩
theorem look_sum (R : List T) (pat : List Part) : ∀ n, ((lookF R pat n : Nat) : Int) = 1 + ((List.range n).map fun k => (((levF R pat (k + 1)).length : Nat) : Int)).sum
  | 0 => rfl
  | n + 1 => by
    have ih := look_sum R pat n
    show (((lookF R pat n) + (levF R pat (n + 1)).length : Nat) : Int) = _
    rw [List.range_succ, List.map_append, List.sum_append]
    have : ([n].map fun k => (((levF R pat (k + 1)).length : Nat) : Int)).sum = (((levF R pat (n + 1)).length : Nat) : Int) := by simp
    rw [this]
    omega
theorem look_le {R : List T} (hR : EP.Srt R) (pat : List Part) : ∀ n, n ≤ pat.length → lookF R pat n ≤ 1 + n * (R.length + 1)
  | 0, _ => by
    show 1 ≤ _
    omega
  | n + 1, h => by
    have ih := look_le hR pat n (by omega)
    have a := (lev_bound hR pat h).1
    show lookF R pat n + (levF R pat (n + 1)).length ≤ _
    rw [Nat.add_mul]
    omega
/-! ### what is told, as data -/
theorem le_pairs (p q : Pl) : PySem.W.dataLe false pD p q = decide (EP.plt p q) := by
  show (!(PySem.W.dataLt (pD q) (pD p))) = _
  rw [le_pD, Bool.not_not]
theorem srt_pairs {ps : List Pl} (h : ps.Pairwise fun p q => p.1 < q.1) : ps.mergeSort (PySem.W.dataLe false pD) = ps := by
  refine List.mergeSort_of_pairwise (h.imp fun {p q} k => ?_)
  rw [le_pairs]
  exact decide_eq_true (.inl k)
theorem num_short {n : Nat} (h : n < 10 ^ 10) : (PyData.shown (.int (n : Nat))).length ≤ 10 := by
  simp only [PyData.shown]
  exact PyProof.Rows.toString_length_le (by omega) (by decide) (by omega)
theorem num_show {n : Nat} (h : n < 10 ^ 10) : ((n : Nat) : Int).natAbs.log2 < 1920 := by
  have : ((n : Nat) : Int).natAbs = n := by omega
  rw [this]
  by_cases z : n = 0
  · rw [z]
    decide
  · exact Nat.lt_of_lt_of_le ((Nat.log2_lt z).mpr (Nat.lt_of_lt_of_le h (show 10 ^ 10 ≤ 2 ^ 40 by decide))) (by decide)
theorem num_weight {n m : Nat} (h : n < 2 ^ m) : (PyData.int (n : Nat)).weight ≤ m := by
  simp only [PyData.weight]
  split
  · exact Nat.zero_le _
  · rename_i z
    have z' : n ≠ 0 := fun e => z (by rw [e]; rfl)
    have e : ((n : Nat) : Int).natAbs = n := by omega
    rw [e]
    exact (Nat.log2_lt z').mpr h
/-- what searched tells and what the law asks for, as data -/
def tD (ps : List Pl) (n : Nat) : PyData := .tuple [.list (ps.map pD), .int (n : Nat)]
theorem tD_ok {ps : List Pl} {n : Nat} (hp : ∀ q ∈ ps, q.1 < 1000 ∧ q.2 < 1000) (hl : ps.length ≤ 1000) (hn : n < 100000) : (tD ps n).showable = true ∧ (tD ps n).hasDict = false ∧ (tD ps n).depth ≤ 60 ∧ (tD ps n).shown.length ≤ sizeLine := by
  have a1 : ∀ ps : List Pl, (∀ q ∈ ps, q.1 < 1000 ∧ q.2 < 1000) → PyData.showableAll (ps.map pD) = true := fun ps => by
    induction ps with
    | nil => intro _; simp [PyData.showableAll]
    | cons q ps ih =>
      intro h
      have hq := h q List.mem_cons_self
      have b1 := num_show (n := q.1) (by omega)
      have b2 := num_show (n := q.2) (by omega)
      have := ih fun x hx => h x (List.mem_cons_of_mem _ hx)
      simp [PyData.showableAll, PyData.showable, pD, this, b1, b2] at *
      exact ⟨b1, b2⟩
  have a2 : ∀ ps : List Pl, PyData.hasDictAll (ps.map pD) = false := fun ps => by
    induction ps with
    | nil => simp [PyData.hasDictAll]
    | cons q ps ih => simp [PyData.hasDictAll, PyData.hasDict, pD, ih] at *
  have a3 : ∀ ps : List Pl, PyData.depthAll (ps.map pD) ≤ 2 := fun ps => by
    induction ps with
    | nil => simp [PyData.depthAll]
    | cons q ps ih =>
      have : (pD q).depth ≤ 2 := by simp [PyData.depth, PyData.depthAll, pD]
      simp only [List.map_cons, PyData.depthAll]
      omega
  have a4 : ∀ ps : List Pl, (∀ q ∈ ps, q.1 < 1000 ∧ q.2 < 1000) → PyData.leavesShortAll 10 (ps.map pD) = true := fun ps => by
    induction ps with
    | nil => intro _; simp [PyData.leavesShortAll]
    | cons q ps ih =>
      intro h
      have hq := h q List.mem_cons_self
      have b1 := num_short (n := q.1) (by omega)
      have b2 := num_short (n := q.2) (by omega)
      have := ih fun x hx => h x (List.mem_cons_of_mem _ hx)
      simp only [List.map_cons, PyData.leavesShortAll, PyData.leavesShort, pD, this, decide_eq_true b1, decide_eq_true b2, Bool.and_true]
  have a5 : ∀ ps : List Pl, (∀ q ∈ ps, q.1 < 1000 ∧ q.2 < 1000) → PyData.weightAll (ps.map pD) ≤ 23 * ps.length := fun ps => by
    induction ps with
    | nil => intro _; simp [PyData.weightAll]
    | cons q ps ih =>
      intro h
      have hq := h q List.mem_cons_self
      have b1 := num_weight (n := q.1) (m := 10) (by omega)
      have b2 := num_weight (n := q.2) (m := 10) (by omega)
      have b3 : (pD q).weight = (PyData.int (q.1 : Nat)).weight + 1 + ((PyData.int (q.2 : Nat)).weight + 1 + 0) := by
        unfold pD
        rw [PyData.weight, PyData.weightAll, PyData.weightAll, PyData.weightAll]
      have := ih fun x hx => h x (List.mem_cons_of_mem _ hx)
      simp only [List.map_cons, PyData.weightAll, List.length_cons]
      omega
  refine ⟨?_, ?_, ?_, ?_⟩
  · have := num_show (n := n) (by omega)
    simp only [tD, PyData.showable, PyData.showableAll, a1 ps hp, Bool.and_true, Bool.true_and]
    exact decide_eq_true this
  · simp [tD, PyData.hasDict, PyData.hasDictAll, a2 ps]
  · have := a3 ps
    simp only [tD, PyData.depth, PyData.depthAll]
    omega
  · have hs : (tD ps n).leavesShort 10 = true := by
      simp only [tD, PyData.leavesShort, PyData.leavesShortAll, a4 ps hp, Bool.and_true, Bool.true_and]
      exact decide_eq_true (num_short (by omega))
    have := PyData.shown_le 10 (by decide) (tD ps n) hs
    have hw : (tD ps n).weight ≤ 23 * ps.length + 19 := by
      have b0 := a5 ps hp
      have b1 := num_weight (n := n) (m := 17) (by omega)
      have b2 : (tD ps n).weight = PyData.weightAll (ps.map pD) + 1 + ((PyData.int (n : Nat)).weight + 1 + 0) := by
        unfold tD
        rw [PyData.weight, PyData.weightAll, PyData.weightAll, PyData.weightAll, PyData.weight]
      omega
    have h2 : (tD ps n).shown.length ≤ 300000 := by omega
    exact Nat.le_trans h2 (by decide)
/-! ### to weaken what follows -/
section
variable {X : Cx}
theorem ps_cut {st : Stmt} {t : TS} (h : PS X st t) : PS X st (fun D σ H => ∃ R : L2.St → Hp → Prop, t { D with nx := R } σ H ∧ ∀ σ' H', R σ' H' → D.nx σ' H') := by
  refine ⟨fun pins s σ H D I ⟨R, q, hR⟩ => thn (h.run pins s σ H _ I q) fun f s' z => ?_⟩
  match f, z with
  | .next, ⟨σ', H', J, z⟩ => exact ⟨σ', H', J, hR _ _ z⟩
  | .brk, z => exact z
  | .cont, z => exact z
  | .ret _, z => exact z
theorem pe_cut {e : Expr} {t : TE} (h : PE X e t) : PE X e (fun σ H Q => ∃ R : VK, t σ H R ∧ ∀ v H', R v H' → Q v H') :=
  ⟨fun pins s σ H Q I ⟨R, q, hR⟩ => thn (h.run pins s σ H _ I q) fun u s' ⟨v, H', J, rv, z⟩ => ⟨v, H', J, rv, hR _ _ z⟩⟩
variable {K : PySem.W.Frag}
theorem sl_tupK (h : X.K = K) : SlR X (rSlA K) := h ▸ sl_tupA
theorem len_seqK (h : X.K = K) : CallR X (.builtin "len") (fun xs H Q => ∃ p ys, xs = [V.ref p] ∧ (SqL K H p ys ∨ SqT K H p ys) ∧ Q (.int (ys.length : Nat)) H) := h ▸ call_len_seq
end
end Ep

namespace Ep
open PySem PySem.Spec PyProof.Rows L2
open EP (T Pl endOf placesOf ordr rowsOf Part fitB Asc rng levF lookF)
open PySem.W (EachIs)
/-- a def under no guard that keeps a promise -/
structure ClG (P : Program) (w : World) (K : PySem.W.Frag) (mg : Str → Option Value) (base : Heap) (k : Nat) (x : Str) (ps : List Str) (sp : Sp) : Prop where
  ex : ∃ f fd, FnG P w K mg base k f fd ps sp ∧ mg x = some (.ref f) ∧ PySem.W.keepIn K (.ref f) = true ∧ Binds K fd ps []
/-- the class Library, and how one is made -/
structure Li (P : Program) (w : World) (K : PySem.W.Frag) (mg : Str → Option Value) (base : Heap) (C : Addr) : Prop where
  ex : ∃ f fd, FnOk P w K mg base CX0 3 f fd ["self", "texts"] (spInit C) ∧ Mk K C f ∧ Binds K fd ["self", "texts"] []
  mgC : mg "Library" = some (.ref C)
section
variable {X : Cx} {k : Nat} {ps : List Str} {sp : Sp} {x : Str} {p pos : Pos} {e : Expr} {es : List Expr} {t : TA}
theorem pe_cG (hgd : X.A.guards = some []) (C : ClG X.prog X.w X.K X.mg X.base k x ps sp) (hr : Room k X.A) (hg : Gl X x) (ha : PA X (e :: es) t) (hdb : (x == ("__debug__" : Str)) = false := by decide)
    (he : starEach (e :: es) X.env = (false, eval e X.env) :: starEach es X.env := by rfl) (hpl : (backTo pos (starEach es X.env)).any (·.1) = false := by rfl) : PE X (.Call (.Name x p) (e :: es) [] pos) (tCall sp [] E0 t) := by
  obtain ⟨f, fd, F, m, kp, b⟩ := C.ex
  exact pe_callG hgd F hr hg m kp b ha hdb he hpl
theorem pe_lib {C : Addr} (L : Li X.prog X.w X.K X.mg X.base C) (hr : Room 4 X.A) (hg : Gl X "Library") (ha : PA X [e] t)
    (he : starEach [e] X.env = [(false, eval e X.env)] := by rfl) : PE X (.Call (.Name "Library" p) [e] [] pos) (tMake C (spInit C) [] E0 t) := by
  obtain ⟨f, fd, F, m, b⟩ := L.ex
  exact pe_make m F hr hg L.mgC b .nil pass0 ha (by decide) he rfl
end
theorem cut_tup (ws : List V) (k : Nat) : cutV ws none (some ((k : Nat) : Int)) = ws.take k := by
  unfold cutV
  rw [HT.sIx_nat, HT.sIx_none, List.drop_zero, Nat.sub_zero]
  rcases Nat.le_total k ws.length with h | h
  · rw [Nat.min_eq_left h]
  · rw [Nat.min_eq_right h, List.take_of_length_le (Nat.le_refl _), List.take_of_length_le h]
theorem each_take {α β : Type} {R : α → β → Prop} : ∀ {as : List α} {bs : List β} (k : Nat), EachIs R as bs → EachIs R (as.take k) (bs.take k)
  | _, _, 0, _ => .nil
  | _, _, k + 1, .nil => .nil
  | _, _, k + 1, .cons r rs => .cons r (each_take k rs)
/-- a pair stands at v -/
def IsQ (H : Hp) (v : V) (q : Pl) : Prop := ∃ b, v = .ref b ∧ H b = some (.tup [.int (q.1 : Nat), .int (q.2 : Nat)])
theorem pls_each {H : Hp} : ∀ {ps : List Pl} {xs : List V}, PlsAt H xs ps → EachIs (IsQ H) xs ps
  | [], xs, h => by
    have : xs = [] := List.length_eq_zero_iff.mp h.1
    subst this
    exact .nil
  | q :: ps, [], h => by cases h.1
  | q :: ps, x :: xs, h => by
    obtain ⟨a, e1, e2⟩ := h.2 0 q rfl
    obtain rfl : x = .ref a := Option.some.inj e1
    exact .cons ⟨a, rfl, e2⟩ (pls_each ⟨by simpa using h.1, fun j p e => h.2 (j + 1) p e⟩)
theorem each_dps {K : PySem.W.Frag} {H : Hp} : ∀ {ps : List Pl} {xs : List V}, EachIs (IsQ H) xs ps → DpAll K H xs (ps.map pD)
  | [], _, .nil => .nil
  | q :: ps, _, .cons ⟨a, e1, e2⟩ h => by
    subst e1
    exact .cons (.tup (.inl (.inl e2)) (.cons (.int _) (.cons (.int _) .nil))) (each_dps h)
section
variable {P : Program} {w : World} {K : PySem.W.Frag} {mg : Str → Option Value} {base : Heap}
def spLaw (K : PySem.W.Frag) : Sp := fun vs H Q _ => ∃ (a : Addr) (ns : List Int), vs = [.ref a] ∧ SqL K H a (ns.map V.int) ∧ ns.length ≤ 100 ∧ ∀ H', Q (.bl true) H'
abbrev nLaw : List Str := ["_law_script", "_law_pool_here", "_law_turn", "_law_texts_here", "_law_library", "_law_order", "_law_part_here", "_law_pattern_here", "_law_number", "_law_at", "_law_sign", "_law_found", "_law_word", "_law_many", "_law_size"]
theorem sc_law : FnScope nLaw ["_law_script"] (defScope (topS 53)) := ⟨rfl, rfl, rfl, by decide +kernel, rfl, by decide +kernel, by decide +kernel⟩
theorem ok_law (M : Nm mg) {C : Addr} (cl : Cls K C) (nT : NoAttr K C "texts") (L : Li P w K mg base C) (C1 : Cl P w K mg base 1 "_law_pool" ["_law_script"] (spPool K)) (C2 : Cl P w K mg base 2 "_law_texts" ["_law_pool_here", "_law_most"] spTexts)
    (C3 : Cl P w K mg base 1 "_law_places" ["_law_texts_here"] spLPl) (C4 : Cl P w K mg base 1 "_law_draw" ["_law_pool_here", "_law_many"] spDraw) (C5 : Cl P w K mg base 3 "_law_pattern" ["_law_pool_here", "_law_signs", "_law_most"] spLPat)
    (C6 : Cl P w K mg base 2 "_law_begun" ["_law_texts_here", "_law_pattern_here"] spBegun) (C7 : Cl P w K mg base 1 "_law_range" ["_law_texts_here", "_law_order", "_law_word"] spRange) (C8 : Cl P w K mg base 6 "searched" ["library", "pattern"] (spSearch C))
    (C9 : ClG P w K mg base 1 "_law_is" ["_law_told", "_law_due"] (spIs K)) {f : Addr} {fd : FuncData} (F : Fun K "law" "law" (topS 53) f fd) : FnG P w K mg base 7 f fd ["_law_script"] (spLaw K) := by
  refine okG F sc_law (fun vs H Q E h => ?_) (fun cdv A outer s H vs Q E hg hr h => ?_)
  · obtain ⟨a, ns, rfl, _⟩ := h
    rfl
  · obtain ⟨a, ns, rfl, ha, hl, q⟩ := h
    have nd := sc_law.nd
    refine ⟨_, pss_cons (ps_set (i := 1) nd rfl (.inl rfl) (pe_c C1 (hr.mono (by decide)) (by rfl) (pa_cons (pv 0) pa_nil)))
      (pss_cons (ps_for PassesOwn.never rfl (pi_range1 (by rfl) M.range (pa_cons pe_int pa_nil)) (pg_name (i := 2) nd rfl (.inl rfl))
        (pss_cons (ps_set (i := 3) nd rfl (.inr rfl) (pe_c C2 (hr.mono (by decide)) (by rfl) (pa_cons (pv 1) (pa_cons pe_int pa_nil))))
        (pss_cons (ps_asg (pe_tup (pa_cons (pe_lib L (hr.mono (by decide)) (by rfl) (pa_cons (pv 3) pa_nil)) (pa_cons (pe_c C3 (hr.mono (by decide)) (by rfl) (pa_cons (pv 3) pa_nil)) pa_nil))) (pg_tup rfl (pgs_cons (pg_name (i := 4) nd rfl (.inl rfl)) (pgs_cons (pg_name (i := 5) nd rfl (.inr rfl)) pgs_nil))))
        (pss_cons (ps_set (i := 7) nd rfl (.inr rfl) (pe_callTy call_tuple_of (by rfl) M.tuple bt_tuple (pa_cons
          (pe_lc (own := [("_law_part_here", 6)]) (g := gName 6) rfl nd (pi_tup (pe_c C5 (hr.mono (by decide)) (by rfl) (pa_cons (pv 1) (pa_cons (pe_cut (pe_ifExp (pt_cmpR op_gt (pe_c C4 (hr.mono (by decide)) (by rfl) (pa_cons (pv 1) (pa_cons pe_int pa_nil))) pe_int (nomark _)) pe_str pe_str)) (pa_cons pe_int pa_nil))))) (blkOk_by (own := [("_law_part_here", 6)]) (N := nLaw) (sc := defScope (topS 53)) (by decide +kernel)) (fun _ _ _ _ _ => pg_name (i := 6) sc_law.nd rfl (Or.inl rfl))
            (fun _ _ _ _ _ => pts_one (pt_cmpR op_ne (pe_ix (ix_tupK (K := K) rfl) (pv 6) pe_int (fun _ _ => rfl)) pe_str (nomark _)))
            (fun _ _ _ _ _ => pv 6)) pa_nil)))
        (pss_cons (ps_cut (ps_if (PW.pt (pw_and (pt_cmpR op_eq (pe_c C4 (hr.mono (by decide)) (by rfl) (pa_cons (pv 1) (pa_cons pe_int pa_nil))) pe_int (nomark _)) (pw_and1 (pt_cmpR op_gt (pe_callB call_len_seq (by rfl) M.len PySem.boot_len (pa_cons (pv 5) pa_nil)) pe_int (nomark _)))))
          (pss_cons (ps_asg (pe_ix ix_list (pv 5) (pe_c C4 (hr.mono (by decide)) (by rfl) (pa_cons (pv 1) (pa_cons (pe_callB call_len_seq (by rfl) M.len PySem.boot_len (pa_cons (pv 5) pa_nil)) pa_nil))) (fun _ _ => rfl)) (pg_tup rfl (pgs_cons (pg_name (i := 8) nd rfl (.inl rfl)) (pgs_cons (pg_name (i := 9) nd rfl (.inl rfl)) pgs_nil))))
          (pss_one (ps_set (i := 7) nd rfl (.inr rfl) (pe_callTy call_tuple_of (by rfl) M.tuple bt_tuple (pa_cons
            (pe_lc (own := [("_law_sign", 10)]) (g := gName 10) (tt := tYes) rfl nd (pi_str (pe_slice sl_str (pe_ix ix_tup (pv 3) (pv 8) (fun _ _ => rfl)) (po_some (pv 9)) (po_some (pe_op op_add (pe_op op_add (pv 9) pe_int) (pe_c C4 (hr.mono (by decide)) (by rfl) (pa_cons (pv 1) (pa_cons pe_int pa_nil))))))) (blkOk_by (own := [("_law_sign", 10)]) (N := nLaw) (sc := defScope (topS 53)) (by decide +kernel)) (fun _ _ _ _ _ => pg_name (i := 10) sc_law.nd rfl (Or.inl rfl)) (fun _ _ _ _ _ => pts_nil)
              (fun _ _ _ _ _ => pe_tup (pa_cons pe_str (pa_cons (pv 10) pa_nil)))) pa_nil))))) pss_nil))
        (pss_cons (ps_setLc (i := 11) (own := [("_law_word", 12)]) (g := gName 12) (tt := tYes) rfl nd rfl rfl (sw_true rfl rfl rfl (by decide +kernel)) (pi_list (pe_c C6 (hr.mono (by decide)) (by rfl) (pa_cons (pv 3) (pa_cons (pv 7) pa_nil)))) (blkOk_by (own := [("_law_word", 12)]) (N := nLaw) (sc := defScope (topS 53)) (by decide +kernel)) (fun _ _ _ _ _ => pg_name (i := 12) sc_law.nd rfl (Or.inl rfl)) (fun _ _ _ _ _ => pts_nil)
            (fun _ _ _ _ _ => pe_c C7 (hr.mono (by decide)) (by rfl) (pa_cons (pv 3) (pa_cons (pv 5) (pa_cons (pv 12) pa_nil)))))
        (pss_cons (ps_set (i := 13) nd rfl (.inl rfl) (pe_op op_add pe_int (pe_callB (cr_sum rfl) (by rfl) M.sum bt_sum (pa_cons
          (pe_lc (own := [("_law_size", 14)]) (g := gName 14) (tt := tYes) rfl nd (pi_range2 (by rfl) M.range (pa_cons pe_int (pa_cons (pe_op op_add (pe_callB call_len_seq (by rfl) M.len PySem.boot_len (pa_cons (pv 7) pa_nil)) pe_int) pa_nil))) (blkOk_by (own := [("_law_size", 14)]) (N := nLaw) (sc := defScope (topS 53)) (by decide +kernel)) (fun _ _ _ _ _ => pg_name (i := 14) sc_law.nd rfl (Or.inl rfl)) (fun _ _ _ _ _ => pts_nil)
            (fun _ _ _ _ _ => pe_callB (len_seqK (K := K) rfl) (by rfl) M.len PySem.boot_len (pa_cons (pe_c C6 (hr.mono (by decide)) (by rfl) (pa_cons (pv 3) (pa_cons (pe_slice (sl_tupK (K := K) rfl) (pv 7) po_none (po_some (pv 14))) pa_nil))) pa_nil))) pa_nil))))
        (pss_one (ps_if (pt_not (pt_val (pe_cG hg C9 (hr.mono (by decide)) (by rfl) (pa_cons (pe_c C8 hr (by rfl) (pa_cons (pv 4) (pa_cons (pv 7) pa_nil))) (pa_cons (pe_tup (pa_cons (pe_callB (cr_sortE hr.units) (by rfl) M.sorted bt_sorted (pa_cons (pv 11) pa_nil)) (pa_cons (pv 13) pa_nil))) pa_nil))))) pss_never pss_nil)))))))))
      (pss_one (ps_ret pe_bl))), ?_⟩
    refine ⟨_, rfl, a, ns, rfl, ha, hl, fun H1 p c s1 np nc pl1 => ?_⟩
    refine ⟨4, rfl, by decide, by decide, ?_⟩
    refine for_it (walk_range (lo := 0) (n := (4 : Int).toNat)) (fun i σ H' => ∃ (y2 y3 y4 y5 y6 y7 y8 y9 y10 y11 y12 y13 y14 : Option V), σ = [some (.ref a), some (.ref p), y2, y3, y4, y5, y6, y7, y8, y9, y10, y11, y12, y13, y14] ∧ Pool p c H')
      ⟨none, none, none, none, none, none, none, none, none, none, none, none, none, rfl, pl1⟩ (fun _ _ _ _ _ => trivial) (fun i x σ H2 H2' hi hP hy => ?_) (fun σ H' hP => q H')
    obtain ⟨y2, y3, y4, y5, y6, y7, y8, y9, y10, y11, y12, y13, y14, rfl, pl2⟩ := hP
    obtain ⟨rfl, rfl⟩ := hy
    refine ⟨_, rfl, p, c, rfl, pl2, fun H3 tp ts sm3 pl3 ntp htp tok => ?_⟩
    refine ⟨_, rfl, fun Lb dx hLb hdx hne => ⟨Lb, dx, tp, ts, rfl, upd_same, ?_, tok, fun H4 hk hL4 => ⟨rfl, ?_⟩⟩⟩
    · rw [upd_ne (ne_of_none htp hLb), upd_ne (ne_of_none htp hdx)]
      exact htp
    have s34 : Same H3 H4 := fun b o e => hk b o (ne_of_none e hLb) (by rw [upd_ne (ne_of_none e hLb), upd_ne (ne_of_none e hdx)]; exact e)
    have htp4 := s34 _ _ htp
    have lib4 : LibAt C H4 Lb ts := ⟨dx, tp, hL4, htp4⟩
    have pl4 := pl3.same s34
    refine ⟨_, rfl, tp, ts, rfl, htp4, tok, fun H5 o xs s45 no ho pls => ⟨by show 2 ≤ sizeLine; decide, fun u hu => ?_⟩⟩
    have on := pl4.ne no
    have s56 := same_new (o := HO.tup [V.ref Lb, V.ref o]) hu
    refine ⟨u, [_, _], rfl, .inl (.inl upd_same), rfl, _, [_], rfl, _, [], rfl, rfl, ?_⟩
    have s46 := s45.trans s56
    have pl6 := pl4.same s46
    have htp6 := s46 _ _ htp4
    have lib6 := lib4.same s46
    have ho6 := s56 _ _ ho
    have pls6 := pls.same s56
    generalize upd H5 u (HO.tup [V.ref Lb, V.ref o]) = H6 at *
    -- the drawn pattern
    refine ⟨_, rfl, fun v H' => ∃ z : T, v = .str (tx z) ∧ Al z ∧ 1 ≤ z.length ∧ z.length ≤ 10 ∧ Sm p c H6 H' ∧ Pool p c H', ?_, ?_⟩
    · refine ⟨_, rfl, p, c, 3, rfl, by decide, by decide, pl6, fun H7 d7 hd7 sm7 pl7 => ⟨_, _, rfl, rfl, _, rfl, ?_⟩⟩
      by_cases k : (0 : Int) < ((d7 : Nat) : Int)
      · rw [decide_eq_true k]
        exact iteT ⟨[97, 98], rfl, by unfold Al; decide, by decide, by decide, sm7, pl7⟩
      · rw [decide_eq_false k]
        exact iteF ⟨[97, 98, 99, 126], rfl, by unfold Al; decide, by decide, by decide, sm7, pl7⟩
    rintro v7 H7 ⟨z, rfl, za, z1, z2, sm7, pl7⟩
    refine ⟨p, c, z, rfl, za, z1, z2, pl7, fun H8 pt0 x8 xs8 sm8 pl8 hpt0 gx gxs l8 => ?_⟩
    refine ⟨pt0, rfl, ⟨_, .inl (.inl hpt0)⟩, fun D hD => ?_⟩
    refine lc_it (walk_tup (K := K) (a := pt0) (xs := x8 :: xs8)) (fun i H' => ∃ (ws : List V) (pat : List Part), Same H8 H' ∧ H' D = some (.lst ws) ∧ EachIs (PartAt H8) ws pat ∧ (∀ p ∈ pat, POk p) ∧ pat.length ≤ i ∧ (1 ≤ i → 1 ≤ pat.length)) ⟨[], [], same_new hD, upd_same, .nil, fun _ h => (List.not_mem_nil h).elim, Nat.le_refl _, fun h => by omega⟩
      (fun i H9 _ hP => ?_) (fun i x H9 H10 hi hP hy => ?_) (fun H9 hP => ?_)
    · obtain ⟨_, _, sm9, _⟩ := hP
      exact .inl (.inl (sm9 _ _ hpt0))
    · obtain ⟨ws, pat, sm9, hd9, ew, wok, wl, w1⟩ := hP
      obtain ⟨rfl, hx⟩ := hy
      have gt : ∃ b vs, x = .ref b ∧ H8 b = some (.tup vs) ∧ ((∃ p, vs = pV p ∧ POk p) ∨ (i ≠ 0 ∧ ∃ i j, vs = [.str "gap", .int i, .int j])) := by
        cases i with
        | zero =>
          obtain rfl : x8 = x := Option.some.inj hx
          obtain ⟨b, vs, e1, e2, e3⟩ := gx
          exact ⟨b, vs, e1, e2, e3.imp id fun z => Bool.noConfusion z.1⟩
        | succ i =>
          obtain ⟨b, vs, e1, e2, e3⟩ := gxs x (List.mem_of_getElem? (show xs8[i]? = some x from hx))
          exact ⟨b, vs, e1, e2, e3.imp id fun z => ⟨Nat.succ_ne_zero _, z.2⟩⟩
      obtain ⟨b, vs, rfl, hb, hvs⟩ := gt
      rcases hvs with ⟨pp, rfl, okp⟩ | ⟨i0, gi, gj, rfl⟩
      · obtain ⟨s0, r0, e3, e4⟩ := no_gap pp
        have hb' := hb
        rw [e3] at hb'
        refine ⟨rfl, _, rfl, b, _, 0, _, rfl, rfl, .inl (.inl (sm9 _ _ hb')), atI_nat (j := 0) rfl, rfl, _, rfl, ?_⟩
        rw [e4]
        refine iteT ⟨_, rfl, ws, hd9, ?_, ws ++ [.ref b], pat ++ [pp], same_at hD sm9, upd_same, each_snoc ⟨b, rfl, hb⟩ ew, fun x hx => ?_, by rw [List.length_append]; show pat.length + 1 ≤ _; omega, fun _ => by rw [List.length_append]; show 1 ≤ pat.length + 1; omega⟩
        · rw [ew.length]
          rw [List.length_cons] at hi
          exact small1000 (by omega)
        · rcases List.mem_append.mp hx with h | h
          · exact wok x h
          · rw [List.mem_singleton.mp h]
            exact okp
      · refine ⟨rfl, _, rfl, b, _, 0, _, rfl, rfl, .inl (.inl (sm9 _ _ hb)), atI_nat (j := 0) rfl, rfl, _, rfl, ?_⟩
        refine iteF ⟨ws, pat, sm9, hd9, ew, wok, by omega, fun _ => w1 (by omega)⟩
    obtain ⟨ws0, pat0, sm9, hd9, ew0, wok0, wl0, w10⟩ := hP
    rw [List.length_cons] at wl0 w10
    refine ⟨D, _, rfl, .inl ⟨.inl (.inl hd9), fun q0 hq0 => ?_⟩⟩
    have s9q := same_new (o := HO.tup ws0) hq0
    have pl10 := (pl8.same sm9).same s9q
    have S10 : Sm p c H6 (upd H9 q0 (.tup ws0)) := ((sm7.trans sm8).trans (Sm.of sm9)).trans (Sm.of s9q)
    have hq10 : (upd H9 q0 (.tup ws0)) q0 = some (.tup ws0) := upd_same
    have ew10 : EachIs (PartAt (upd H9 q0 (.tup ws0))) ws0 pat0 := each_same ew0 (sm9.trans s9q)
    generalize upd H9 q0 (HO.tup ws0) = H10 at *
    have tpn := pl6.nt htp6 (fun _ z => nomatch z)
    have keepTp : ∀ {H' : Hp}, Sm p c H6 H' → H' tp = some (.tup (txV ts)) := fun s => s _ _ tpn.1 tpn.2 htp6
    have keepO : ∀ {H' : Hp}, Sm p c H6 H' → H' o = some (.lst xs) := fun s => s _ _ on.1 on.2 ho6
    -- the pattern that is told
    refine ⟨fun σ' H' => ∃ (y8 y9 y10 : Option V) (pt : Addr) (ws : List V) (pat : List Part), σ' = [some (.ref a), some (.ref p), some (.int (0 + (i : Nat))), some (.ref tp), some (.ref Lb), some (.ref o), y6, some (.ref pt), y8, y9, y10, y11, y12, y13, y14] ∧ Sm p c H6 H' ∧ Pool p c H' ∧ H' pt = some (.tup ws) ∧ EachIs (PartAt H') ws pat ∧ (∀ p ∈ pat, POk p) ∧ 1 ≤ pat.length ∧ pat.length ≤ 30, ?_, ?_⟩
    · have stay : ∀ H', Sm p c H10 H' → Pool p c H' → ∃ (y8' y9' y10' : Option V) (pt : Addr) (ws : List V) (pat : List Part), [some (.ref a), some (.ref p), some (.int (0 + (i : Nat))), some (.ref tp), some (.ref Lb), some (.ref o), y6, some (.ref q0), y8, y9, y10, y11, y12, y13, y14] = [some (.ref a), some (.ref p), some (.int (0 + (i : Nat))), some (.ref tp), some (.ref Lb), some (.ref o), y6, some (.ref pt), y8', y9', y10', y11, y12, y13, y14] ∧
          Sm p c H6 H' ∧ Pool p c H' ∧ H' pt = some (.tup ws) ∧ EachIs (PartAt H') ws pat ∧ (∀ p ∈ pat, POk p) ∧ 1 ≤ pat.length ∧ pat.length ≤ 30 := fun H' S pl =>
        ⟨y8, y9, y10, q0, ws0, pat0, rfl, S10.trans S, pl, S.tk pl10 _ _ hq10, ew10.mono fun v q z => z.tk (S.tk pl10), wok0, w10 (by omega), by omega⟩
      refine ⟨_, rfl, p, c, 3, rfl, by decide, by decide, pl10, fun H11 d11 hd11 sm11 pl11 => ⟨rfl, _, rfl, ?_⟩⟩
      by_cases k0 : V.int ((d11 : Nat) : Int) = V.int 0
      · rw [decide_eq_true k0]
        have S11 := S10.trans sm11
        refine iteT ⟨_, rfl, o, _, rfl, .inl (.inl (.inl (keepO S11))), _, _, rfl, rfl, _, rfl, ?_⟩
        by_cases k1 : (0 : Int) < ((xs.length : Nat) : Int)
        · rw [decide_eq_true k1]
          refine iteT ?_
          have xl72 : xs.length ≤ 72 := by rw [pls6.1, (EP.ordr_perm ts).length_eq]; exact places_len tok
          refine ⟨_, rfl, _, rfl, _, rfl, o, _, rfl, .inl (.inl (.inl (keepO S11))), p, c, xs.length, rfl, by omega, by omega, pl11, fun H12 d12 hd12 sm12 pl12 => ?_⟩
          have S12 := S11.trans sm12
          have hdo : d12 < (ordr ts).length := by rw [← pls6.1]; exact hd12
          obtain ⟨b, e1, e2⟩ := pls6.2 d12 (ordr ts)[d12] (List.getElem?_eq_getElem hdo)
          have e3 := (S12.tk pl6) _ _ e2
          refine ⟨o, _, (d12 : Nat), _, rfl, rfl, .inl (.inl (keepO S12)), atI_nat e1, ?_⟩
          refine ⟨b, [_, _], rfl, .inl (.inl e3), rfl, _, [_], rfl, _, [], rfl, rfl, ?_⟩
          have hpl := EP.mem_ordr.mp (List.getElem_mem hdo)
          generalize (ordr ts)[d12] = qq at *
          have hlt := EP.place_lt hpl
          have et : ts.getD qq.1 [] = ts[qq.1] := by rw [List.getD, List.getElem?_eq_getElem hlt]; rfl
          have gt : (txV ts)[qq.1]? = some (.str (tx ts[qq.1])) := by rw [List.getElem?_map, List.getElem?_eq_getElem hlt]; rfl
          have l24 := tok.2.1 _ (List.getElem_mem hlt)
          have tal := tok.2.2 _ (List.getElem_mem hlt)
          have hq2 : qq.2 < (ts[qq.1]).length := by
            have := EP.mem_places.mp hpl
            rw [et] at this
            exact this
          refine ⟨_, rfl, _, rfl, tp, _, _, _, rfl, rfl, .inl (.inl (keepTp S12)), atI_nat gt, _, rfl, (qq.2 : Nat), rfl, _, rfl, _, _, rfl, rfl, _, rfl, p, c, 6, rfl, by decide, by decide, pl12, fun H13 d13 hd13 sm13 pl13 => ⟨_, _, rfl, rfl, (qq.2 : Nat) + ((1 + d13 : Nat) : Int), congrArg V.int (by omega), tx ts[qq.1], rfl, by rw [tx_len]; exact Nat.le_of_lt (small1000 (by omega)), ?_⟩⟩
          rw [cut_mid]
          have ll : ((ts[qq.1].drop qq.2).take (1 + d13)).length = min (1 + d13) ((ts[qq.1]).length - qq.2) := by rw [List.length_take, List.length_drop]
          have lal : Al ((ts[qq.1].drop qq.2).take (1 + d13)) := Al.take (Al.drop tal _) _
          generalize (ts[qq.1].drop qq.2).take (1 + d13) = sl at *
          refine ⟨_, rfl, fun D2 hD2 => ?_⟩
          have S13 := S12.trans sm13
          refine lc_it (walk_str (z := tx sl)) (fun j H' => ∃ ws : List V, Same H13 H' ∧ H' D2 = some (.lst ws) ∧ EachIs (PartAt H') ws ((sl.take j).map Part.sign)) ⟨[], same_new hD2, upd_same, .nil⟩ (fun _ _ _ _ => trivial) (fun j x H14 H15 hj hP hy => ?_) (fun H14 hP => ?_)
          · obtain ⟨ws, sm14, hd14, ew⟩ := hP
            obtain ⟨rfl, cc, hcc, rfl⟩ := hy
            have hjl : j < sl.length := hj
            have hc2 : sl[j]? = some cc := by
              have z : (tx sl).cps.toList[j]? = some cc := by simpa using hcc
              exact z
            refine ⟨rfl, _, rfl, by show 2 ≤ sizeLine; decide, fun v hv => ?_⟩
            have sv := same_new (o := HO.tup [V.str "sign", V.str ⟨#[cc]⟩]) hv
            refine ⟨ws, sv _ _ hd14, ?_, ws ++ [.ref v], same_at hD2 (sm14.trans sv), upd_same, ?_⟩
            · rw [ew.length, List.length_map, List.length_take]
              exact small1000 (by omega)
            · rw [List.take_add_one, hc2, List.map_append]
              exact each_snoc ⟨v, rfl, TupK.lst (sv _ _ hd14) _ _ upd_same⟩ (ew.mono fun v q z => (z.same sv).tk (TupK.lst (sv _ _ hd14)))
          · obtain ⟨ws, sm14, hd14, ew⟩ := hP
            have esz : (tx sl).cps.size = sl.length := by show sl.toArray.size = _; simp
            rw [esz, List.take_length] at ew
            refine ⟨D2, _, rfl, .inl ⟨.inl (.inl hd14), fun q2 hq2' => ?_⟩⟩
            have s2 := same_new (o := HO.tup ws) hq2'
            have S15 := (S13.trans (Sm.of sm14)).trans (Sm.of s2)
            refine ⟨_, _, _, q2, ws, sl.map Part.sign, rfl, S15, (pl13.same sm14).same s2, upd_same, each_same ew s2, fun x hx => ?_, by rw [List.length_map]; omega, by rw [List.length_map]; omega⟩
            obtain ⟨cc, hcc, rfl⟩ := List.mem_map.mp hx
            exact lal cc hcc
        · rw [decide_eq_false k1]
          exact iteF (stay H11 sm11 pl11)
      · rw [decide_eq_false k0]
        exact iteF (stay H11 sm11 pl11)
    rintro σ' H11 ⟨y8, y9, y10, pt, ws, pat, rfl, S11, pl11, hpt, ew, wok, w1, w2⟩
    have htp11 := keepTp S11
    have ho11 := keepO S11
    have pls11 := pls6.tk (S11.tk pl6)
    have lib11 : LibAt C H11 Lb ts := by
      obtain ⟨dx', tp', e1, e2⟩ := lib6
      have n1 := pl6.nt e1 (fun _ z => nomatch z)
      exact ⟨dx', tp', S11 _ _ n1.1 n1.2 e1, (S11.tk pl6) _ _ e2⟩
    have hR := EP.rows_srt ts
    have r72 := rows_len tok
    have wl : ws.length = pat.length := ew.length
    have inR : ∀ {k : Nat} {w : T}, 1 ≤ k → InT ts k w → w.length = k ∧ ∃ r ∈ rowsOf ts, w <+: r := fun hk z => (in_rows hk).mp z
    refine ⟨_, rfl, _, rfl, tp, pt, ts, ws, pat, rfl, htp11, tok, hpt, ew, w1, w2, fun H12 bl bs s12 nbl hbl asc bl100 bm => ⟨bl, rfl, ⟨_, .inl (.inl hbl)⟩, fun D hD => ?_⟩⟩
    refine lc_it (walk_list (K := K) (a := bl) (xs := txV bs)) (fun j H' => ∃ fs : List V, Same H12 H' ∧ H' D = some (.lst fs) ∧ PlsAt H' fs ((bs.take j).map (rng (rowsOf ts)))) ⟨[], same_new hD, upd_same, PlsAt.nil⟩ (fun j H' _ hP => ?_) (fun j x H13 H14 hj hP hy => ?_) (fun H13 hP => ?_)
    · obtain ⟨_, sm13, _⟩ := hP
      exact .inl (.inl (sm13 _ _ hbl))
    · obtain ⟨fs, sm13, hfs, pf⟩ := hP
      obtain ⟨rfl, hx⟩ := hy
      obtain ⟨u, hu1, rfl⟩ := txV_get hx
      have hm := (bm u).mp (List.mem_of_getElem? hu1)
      obtain ⟨ul, ur⟩ := inR w1 hm.2
      have s113 := s12.trans sm13
      have jl : j < bs.length := (List.getElem?_eq_some_iff.mp hu1).1
      refine ⟨rfl, _, rfl, _, rfl, _, rfl, tp, o, ts, xs, u, rfl, s113 _ _ htp11, tok, s113 _ _ ho11, pls11.same s113, by omega, ur, fun H15 v s15 nv hv => ?_⟩
      refine ⟨fs, s15 _ _ hfs, ?_, fs ++ [.ref v], same_at hD (sm13.trans s15), upd_same, ?_⟩
      · rw [pf.1, List.length_map, List.length_take]
        exact small1000 (by omega)
      · rw [List.take_add_one, hu1, List.map_append]
        exact PlsAt.snoc ((pf.same s15).tk (TupK.lst (s15 _ _ hfs))) (TupK.lst (s15 _ _ hfs) _ _ hv)
    obtain ⟨fs, sm13, hfs, pf⟩ := hP
    have elb : (txV bs).length = bs.length := List.length_map _
    rw [elb, List.take_length] at pf
    have s113 := s12.trans sm13
    have hpt13 := s113 _ _ hpt
    -- how many
    refine ⟨_, rfl, pt, ws, rfl, .inr (.inl (.inl hpt13)), _, _, rfl, rfl, 1, ((ws.length : Nat) : Int) + 1, rfl, ⟨by omega, by omega, by omega, by omega⟩, fun D2 hD2 => ?_⟩
    refine lc_it (walk_range (lo := 1) (n := (((ws.length : Nat) : Int) + 1 - 1).toNat)) (fun j H' => Same H13 H' ∧ H' D2 = some (.lst (((List.range j).map fun k => (((levF (rowsOf ts) pat (k + 1)).length : Nat) : Int)).map V.int))) ⟨same_new hD2, upd_same⟩ (fun _ _ _ _ => trivial) (fun j x H14 H15 hj hP hy => ?_) (fun H14 hP => ?_)
    · obtain ⟨sm14, hd14⟩ := hP
      have ej : (1 : Int) + ((j : Nat) : Int) = ((j + 1 : Nat) : Int) := by omega
      obtain ⟨rfl, hx0⟩ := hy
      obtain rfl : x = V.int ((j + 1 : Nat) : Int) := hx0.trans (congrArg V.int ej)
      have hjp : j + 1 ≤ pat.length := by omega
      have s114 := s113.trans sm14
      have pl' : (pat.take (j + 1)).length = j + 1 := by rw [List.length_take]; omega
      have fin : ∀ (Hc : Hp) (l : Addr) (bs' : List T), Same H15 Hc → Hc l = some (.lst (txV bs')) → bs'.length = (levF (rowsOf ts) pat (j + 1)).length → ∃ (p : Addr) (ys : List V), [V.ref l] = [V.ref p] ∧ (SqL K Hc p ys ∨ SqT K Hc p ys) ∧ ∃ acc, Hc D2 = some (.lst acc) ∧ acc.length < sizeLine ∧
          (Same H13 (upd Hc D2 (.lst (acc ++ [V.int (ys.length : Nat)]))) ∧ (upd Hc D2 (.lst (acc ++ [V.int (ys.length : Nat)]))) D2 = some (.lst (((List.range (j + 1)).map fun k => (((levF (rowsOf ts) pat (k + 1)).length : Nat) : Int)).map V.int))) := fun Hc l bs' sc hl' e => by
        refine ⟨l, txV bs', rfl, .inl (.inl (.inl hl')), _, sc _ _ hd14, ?_, same_at hD2 (sm14.trans sc), ?_⟩
        · rw [List.length_map, List.length_map, List.length_range]
          exact small1000 (by omega)
        · rw [upd_same, List.range_succ, List.map_append, List.map_append, List.length_map, e]
          rfl
      refine ⟨rfl, _, rfl, _, rfl, _, rfl, ((j + 1 : Nat) : Int), rfl, pt, ws, rfl, .inl (.inl (s114 _ _ hpt)), fun hw => ?_, fun hw v hv => ?_⟩
      · have hw2 := hw.2
        rw [HT.sIx_nat] at hw2
        refine ⟨tp, pt, ts, ws.take (j + 1), pat.take (j + 1), rfl, s114 _ _ htp11, tok, ?_, each_take _ (each_same ew s114), by omega, by omega, fun H' l bs' s' _ hl' asc' _ bm' => ?_⟩
        · rw [List.take_of_length_le (by omega)]
          exact s114 _ _ hpt
        · exact fin H' l bs' s' hl' (by rw [lev_law (by omega) hjp asc' bm', List.length_map])
      · rw [cut_tup]
        have sv := same_new (o := HO.tup (ws.take (j + 1))) hv
        refine ⟨tp, v, ts, ws.take (j + 1), pat.take (j + 1), rfl, (s114.trans sv) _ _ htp11, tok, upd_same, each_take _ (each_same ew (s114.trans sv)), by omega, by omega, fun H' l bs' s' _ hl' asc' _ bm' => ?_⟩
        exact fin H' l bs' (sv.trans s') hl' (by rw [lev_law (by omega) hjp asc' bm', List.length_map])
    obtain ⟨sm14, hd14⟩ := hP
    have en : (((ws.length : Nat) : Int) + 1 - 1).toNat = pat.length := by omega
    rw [en] at hd14
    have s114 := s113.trans sm14
    refine ⟨D2, _, rfl, .inl (.inl hd14), _, _, rfl, rfl, ?_⟩
    have elook : (1 : Int) + ((List.range pat.length).map fun k => (((levF (rowsOf ts) pat (k + 1)).length : Nat) : Int)).sum = ((lookF (rowsOf ts) pat pat.length : Nat) : Int) := (look_sum (rowsOf ts) pat pat.length).symm
    -- is it so?
    have elev : levF (rowsOf ts) pat pat.length = bs.map (rng (rowsOf ts)) := lev_law w1 (Nat.le_refl _) asc (by rw [List.take_length]; exact bm)
    refine ⟨_, rfl, _, rfl, Lb, pt, ts, ws, pat, rfl, lib11.same s114, tok, s114 _ _ hpt, each_same ew s114, wok, w1, w2, fun H17 rp pf' ys s17 nrp hrp hpf pys => ?_⟩
    rw [elev] at pys
    have s1417 := s17
    have hfs17 := s17 _ _ (sm14 _ _ hfs)
    have pf17 := pf.same (sm14.trans s17)
    refine ⟨_, rfl, Pl, pD, IsQ H17, D, fs, bs.map (rng (rowsOf ts)), rfl, .inl (.inl hfs17), pls_each pf17, ?_, PySem.W.AllAlike.of fun b b' => ?_, PySem.W.Sortable.tuples fun b => ⟨_, _, rfl⟩, fun b _ => ?_, fun sp ss nsp es => ?_⟩
    · rintro v q ⟨b, rfl, hb⟩
      exact .tup (.inl (.inl hb)) (.cons (.int _) (.cons (.int _) .nil))
    · unfold pD
      simp [PySem.W.alike, PySem.W.alikeAll]
    · unfold pD
      simp [PyData.depth, PyData.depthAll]
    have hsr : ∀ u ∈ bs, u.length = pat.length ∧ ∃ r ∈ rowsOf ts, u <+: r := fun u hu => inR w1 ((bm u).mp hu).2
    rw [srt_pairs (EP.rng_asc hR asc (fun u hu => (hsr u hu).1) (fun u hu => (hsr u hu).2))] at es
    have ssp := same_new (o := HO.lst ss) nsp
    refine ⟨_, rfl, by show 2 ≤ sizeLine; decide, fun v hv => ?_⟩
    have sv := same_new (o := HO.tup [V.ref sp, V.int ((1 : Int) + ((List.range pat.length).map fun k => (((levF (rowsOf ts) pat (k + 1)).length : Nat) : Int)).sum)]) hv
    have s17v := ssp.trans sv
    have dok := tD_ok (ps := bs.map (rng (rowsOf ts))) (n := lookF (rowsOf ts) pat pat.length) (fun x hx => by
      obtain ⟨u, _, rfl⟩ := List.mem_map.mp hx
      have a1 := EP.rng_le (R := rowsOf ts) u
      have a2 := EP.rng_low (R := rowsOf ts) u
      omega) (by rw [List.length_map]; omega) (by
      have a1 := look_le hR pat pat.length (Nat.le_refl _)
      have a2 : pat.length * ((rowsOf ts).length + 1) ≤ 30 * 73 := Nat.mul_le_mul w2 (by omega)
      omega)
    refine ⟨rp, v, tD (bs.map (rng (rowsOf ts))) (lookF (rowsOf ts) pat pat.length), rfl, ?_, ?_, dok.1, dok.2.1, dok.2.2.1, dok.2.2.2, _, rfl, iteF ?_⟩
    · exact .tup (.inl (.inl (s17v _ _ hrp))) (.cons (.lst (.inl (.inl (s17v _ _ hpf))) (pl_dps (pys.same s17v))) (.cons (.int _) .nil))
    · refine .tup (.inl (.inl (upd_same.trans (congrArg (fun z => some (HO.tup [V.ref sp, V.int z])) elook)))) (.cons (.lst (.inl (.inl (sv _ _ upd_same))) (each_dps (es.mono fun v q ⟨b, e1, e2⟩ => ⟨b, e1, s17v _ _ e2⟩))) (.cons (.int _) .nil))
    · exact ⟨_, _, _, _, _, _, _, _, _, _, _, _, _, rfl, pl11.same (s114.trans (s17.trans s17v))⟩
end
end Ep

namespace Ep
open PySem PySem.Spec PyProof.Rows L2
/-! ### what stands behind the top, as read off what it has written -/
/-- the def st stands under the name x, its parameters ps -/
def DefB (K : PySem.W.Frag) (x : Str) (ps : List Str) (st : Stmt) : Prop := ∃ f fd, Fun K x x st f fd ∧ PySem.W.nsIn K mainGlobals x = some (some (.ref f)) ∧ Binds K fd ps []
theorem defB_mk {K : PySem.W.Frag} {x : Str} {ps : List Str} {st : Stmt} {f : Addr} {oc : Value} {od an : Option Addr} {osl : Array (Option Value)} {kV doc pm cdv ct : Value}
    (hb : ∀ (kV doc pm : Value) (an : Option Addr) (cdv ct : Value) (us : List Value), us.length = ps.length → bindArgs (PySem.W.fnOf x x (defArgs st) (defBody st) (defScope st) .none kV doc pm an cdv ct) ⟨us, []⟩ = pure (ps.zip us))
    (a : PySem.W.nsIn K mainGlobals x = some (some (.ref f)))
    (l : K.lookup f = some ⟨oc, od, .func (PySem.W.fnOf x x (defArgs st) (defBody st) (defScope st) .none kV doc pm an cdv ct), osl⟩)
    (c : PySem.W.codeIn K cdv x = true) (k : PySem.W.keepIn K (.ref f) = true) : DefB K x ps st := ⟨f, _, fun_mk l c k, a, (fun_mk l c k).binds hb⟩
theorem DefB.df {K : PySem.W.Frag} {mg : Str → Option Value} {h : Heap} (X : K.In h) (G : h.Ns mainGlobals mg) {x : Str} {ps : List Str} {st : Stmt} (D : DefB K x ps st) : Df K mg x ps st :=
  let ⟨f, fd, F, a, b⟩ := D
  ⟨f, fd, F, PySem.W.mg_of X G a, b⟩
/-- the class Library stands -/
def LibB (K : PySem.W.Frag) : Prop := ∃ C f fd, PySem.W.nsIn K mainGlobals "Library" = some (some (.ref C)) ∧ Fun K "__init__" "Library.__init__" (inClass (topS 16) 0) f fd ∧ Mk K C f ∧ Cls K C ∧ NoAttr K C "texts" ∧ Binds K fd ["self", "texts"] []
theorem libB_mk {K : PySem.W.Frag} {C f : Addr} {oc : Value} {od an : Option Addr} {osl : Array (Option Value)} {kV doc pm cdv ct : Value} (aC : PySem.W.nsIn K mainGlobals "Library" = some (some (.ref C)))
    (a : PySem.W.findIn K (.ref C) "__init__" = some (some (.ref f))) (i : PySem.W.isFn K (.ref f) = true)
    (l : K.lookup f = some ⟨oc, od, .func (PySem.W.fnOf "__init__" "Library.__init__" (defArgs (inClass (topS 16) 0)) (defBody (inClass (topS 16) 0)) (defScope (inClass (topS 16) 0)) .none kV doc pm an cdv ct), osl⟩)
    (c : PySem.W.codeIn K cdv "Library.__init__" = true) (k : PySem.W.keepIn K (.ref f) = true)
    (pg : PySem.W.plainGet K C Str.empty = true) (hd : PySem.W.hasDictIn K C = true) (po : PySem.W.plainOver K C = true) (sa : PySem.W.findIn K (.ref C) "__setattr__" = some (some (.builtin "object.__setattr__"))) (mk : PySem.W.makesIn K C = true) (kc : PySem.W.keepIn K (.ref C) = true)
    (nT : PySem.W.findIn K (.ref C) "texts" = some none) : LibB K :=
  ⟨C, f, _, aC, fun_mk l c k, ⟨mk, a, i, kc⟩, ⟨pg, hd, po, sa⟩, nT, (fun_mk l c k).binds fun _ _ _ _ _ _ us hl => match us, hl with | [_, _], _ => rfl⟩
/-- the written dict of sizes stands -/
def SzB (P : Params) (K : PySem.W.Frag) : Prop := ∃ d es n t1 t2 t3, PySem.W.nsIn K mainGlobals "SIZES" = some (some (.ref d)) ∧ K.lookup d = some ⟨.type "dict", none, .dict es n, #[]⟩ ∧ PySem.W.KeysLit P es.toList ∧ (d == sysModules) = false ∧
  PySem.W.nsIn K d "sign" = some (some (.int 2 t1)) ∧ PySem.W.nsIn K d "any" = some (some (.int 1 t2)) ∧ PySem.W.nsIn K d "lot" = some (some (.int 2 t3))
theorem szB_mk {P : Params} {K : PySem.W.Frag} {d : Addr} {es : Array DictEntry} {n : Nat} {t1 t2 t3 : Tok} (a : PySem.W.nsIn K mainGlobals "SIZES" = some (some (.ref d))) (b : K.lookup d = some ⟨.type "dict", none, .dict es n, #[]⟩) (c : PySem.W.KeysLit P es.toList) (s : (d == sysModules) = false)
    (d1 : PySem.W.nsIn K d "sign" = some (some (.int 2 t1))) (d2 : PySem.W.nsIn K d "any" = some (some (.int 1 t2))) (d3 : PySem.W.nsIn K d "lot" = some (some (.int 2 t3))) : SzB P K := ⟨d, es, n, t1, t2, t3, a, b, c, s, d1, d2, d3⟩
/-- constants of the top -/
def CiB (K : PySem.W.Frag) (x : Str) (i : Int) : Prop := ∃ t, PySem.W.nsIn K mainGlobals x = some (some (.int i t))
theorem ciB_mk {K : PySem.W.Frag} {x : Str} {i : Int} {t : Tok} (h : PySem.W.nsIn K mainGlobals x = some (some (.int i t))) : CiB K x i := ⟨t, h⟩
def CsB (K : PySem.W.Frag) (x : Str) (z : Str) : Prop := ∃ t, PySem.W.nsIn K mainGlobals x = some (some (.str z t))
theorem csB_mk {K : PySem.W.Frag} {x : Str} {z : Str} {t : Tok} (h : PySem.W.nsIn K mainGlobals x = some (some (.str z t))) : CsB K x z := ⟨t, h⟩
/-- names that the top hasn't taken -/
def NoB (K : PySem.W.Frag) (x : Str) : Prop := PySem.W.nsIn K mainGlobals x = some none
theorem noB_mk {K : PySem.W.Frag} {x : Str} (h : PySem.W.nsIn K mainGlobals x = some none) : NoB K x := h
structure Facts (P : Params) (K : PySem.W.Frag) : Prop where
  d_sized : DefB K "is_sized" ["thing", "least", "most"] (topS 11)
  d_signs : DefB K "are_signs" ["thing"] (topS 12)
  d_wrong : DefB K "first_wrong" ["thing"] (topS 15)
  d_places : DefB K "all_places" ["library"] (topS 17)
  d_ending : DefB K "ending_at" ["library", "place"] (topS 18)
  d_num : DefB K "numbered" ["keys"] (topS 20)
  d_tails : DefB K "tails_of" ["library", "places", "many"] (topS 21)
  d_order : DefB K "order_of" ["library"] (topS 22)
  d_endings : DefB K "endings" ["library"] (topS 23)
  d_sign : DefB K "is_sign" ["thing"] (topS 33)
  d_lot : DefB K "is_lot" ["thing"] (topS 34)
  d_part : DefB K "is_part" ["thing"] (topS 35)
  d_pat : DefB K "is_pattern" ["thing"] (topS 36)
  d_check : DefB K "check_pattern" ["thing"] (topS 37)
  d_can : DefB K "can_stand" ["part", "sign"] (topS 38)
  d_parted : DefB K "parted" ["rows", "low", "high", "depth"] (topS 40)
  d_sea : DefB K "searched" ["library", "pattern"] (topS 41)
  d_pool : DefB K "_law_pool" ["_law_script"] (topS 43)
  d_draw : DefB K "_law_draw" ["_law_pool_here", "_law_many"] (topS 44)
  d_lis : DefB K "_law_is" ["_law_told", "_law_due"] (topS 45)
  d_tex : DefB K "_law_texts" ["_law_pool_here", "_law_most"] (topS 46)
  d_lpl : DefB K "_law_places" ["_law_texts_here"] (topS 47)
  d_lpa : DefB K "_law_part" ["_law_pool_here", "_law_signs", "_law_is_end"] (topS 48)
  d_lpt : DefB K "_law_pattern" ["_law_pool_here", "_law_signs", "_law_most"] (topS 49)
  d_lets : DefB K "_law_lets" ["_law_part_here", "_law_sign"] (topS 50)
  d_beg : DefB K "_law_begun" ["_law_texts_here", "_law_pattern_here"] (topS 51)
  d_rng : DefB K "_law_range" ["_law_texts_here", "_law_order", "_law_word"] (topS 52)
  d_law : DefB K "law" ["_law_script"] (topS 53)
  n_isinstance : NoB K "isinstance"
  n_int : NoB K "int"
  n_bool : NoB K "bool"
  n_tuple : NoB K "tuple"
  n_len : NoB K "len"
  n_str : NoB K "str"
  n_all : NoB K "all"
  n_any : NoB K "any"
  n_enumerate : NoB K "enumerate"
  n_sum : NoB K "sum"
  n_range : NoB K "range"
  n_sorted : NoB K "sorted"
  n_max : NoB K "max"
  n_min : NoB K "min"
  n_zip : NoB K "zip"
  n_set : NoB K "set"
  n_abs : NoB K "abs"
  n_repr : NoB K "repr"
  c_mostSigns : CiB K "MOST_SIGNS" 2000
  c_firstSign : CsB K "FIRST_SIGN" " "
  c_lastSign : CsB K "LAST_SIGN" "~"
  c_mostTexts : CiB K "MOST_TEXTS" 8
  c_sign : CsB K "SIGN" "sign"
  c_any_ : CsB K "ANY" "any"
  c_lot : CsB K "LOT" "lot"
  c_gap : CsB K "GAP" "gap"
  c_mostParts : CiB K "MOST_PARTS" 30
  c_mostOfLot : CiB K "MOST_OF_LOT" 20
  c_mostGap : CiB K "MOST_GAP" 20
  lib : LibB K
  siz : SzB P K
theorem Facts.nm {P : Params} {K : PySem.W.Frag} {mg : Str → Option Value} {h : Heap} (X : K.In h) (G : h.Ns mainGlobals mg) (F : Facts P K) : Nm mg where
  isinstance := PySem.W.mg_none_of X G F.n_isinstance
  int := PySem.W.mg_none_of X G F.n_int
  bool := PySem.W.mg_none_of X G F.n_bool
  tuple := PySem.W.mg_none_of X G F.n_tuple
  len := PySem.W.mg_none_of X G F.n_len
  str := PySem.W.mg_none_of X G F.n_str
  all := PySem.W.mg_none_of X G F.n_all
  any := PySem.W.mg_none_of X G F.n_any
  enumerate := PySem.W.mg_none_of X G F.n_enumerate
  sum := PySem.W.mg_none_of X G F.n_sum
  range := PySem.W.mg_none_of X G F.n_range
  sorted := PySem.W.mg_none_of X G F.n_sorted
  max := PySem.W.mg_none_of X G F.n_max
  min := PySem.W.mg_none_of X G F.n_min
  zip := PySem.W.mg_none_of X G F.n_zip
  set := PySem.W.mg_none_of X G F.n_set
  abs := PySem.W.mg_none_of X G F.n_abs
  repr := PySem.W.mg_none_of X G F.n_repr
  mostSigns := let ⟨t, e⟩ := F.c_mostSigns; ⟨t, PySem.W.mg_of X G e⟩
  firstSign := let ⟨t, e⟩ := F.c_firstSign; ⟨t, PySem.W.mg_of X G e⟩
  lastSign := let ⟨t, e⟩ := F.c_lastSign; ⟨t, PySem.W.mg_of X G e⟩
  mostTexts := let ⟨t, e⟩ := F.c_mostTexts; ⟨t, PySem.W.mg_of X G e⟩
  sign := let ⟨t, e⟩ := F.c_sign; ⟨t, PySem.W.mg_of X G e⟩
  any_ := let ⟨t, e⟩ := F.c_any_; ⟨t, PySem.W.mg_of X G e⟩
  lot := let ⟨t, e⟩ := F.c_lot; ⟨t, PySem.W.mg_of X G e⟩
  gap := let ⟨t, e⟩ := F.c_gap; ⟨t, PySem.W.mg_of X G e⟩
  mostParts := let ⟨t, e⟩ := F.c_mostParts; ⟨t, PySem.W.mg_of X G e⟩
  mostOfLot := let ⟨t, e⟩ := F.c_mostOfLot; ⟨t, PySem.W.mg_of X G e⟩
  mostGap := let ⟨t, e⟩ := F.c_mostGap; ⟨t, PySem.W.mg_of X G e⟩
theorem Facts.sz {w : World} {K : PySem.W.Frag} {mg : Str → Option Value} {h : Heap} (X : K.In h) (G : h.Ns mainGlobals mg) (F : Facts w.params K) : Sz K w mg := by
  obtain ⟨d, es, n, t1, t2, t3, a, b, c, s, d1, d2, d3⟩ := F.siz
  exact ⟨d, PySem.W.mg_of X G a, ⟨es, n, b, c, s⟩, ⟨es, n, _, b, c, s, d1, ⟨t1, rfl⟩⟩, ⟨es, n, _, b, c, s, d2, ⟨t2, rfl⟩⟩, ⟨es, n, _, b, c, s, d3, ⟨t3, rfl⟩⟩⟩
/-- the law keeps its promise -/
theorem Facts.law {P : Program} {w : World} {K : PySem.W.Frag} {mg : Str → Option Value} {h : Heap} {fa : Addr} (X : K.In h) (G : h.Ns mainGlobals mg) (hfa : mg "law" = some (.ref fa)) (Z : Facts w.params K) :
    ∃ fd : FuncData, (∀ (s : Shared) (u : Value), BindsTo s fd ⟨[u], []⟩ [("_law_script", u)]) ∧ ∀ base : Heap, K.In base → base.Ns mainGlobals mg → FnG P w K mg base 7 fa fd ["_law_script"] (spLaw K) := by
  have M := Z.nm X G
  have S := Z.sz X G
  obtain ⟨C, fi, fdi, aC, Fi, mk, cl, nT, bi⟩ := Z.lib
  obtain ⟨fl, fdl, Fl, al, bl⟩ := Z.d_law
  have e := hfa.symm.trans (PySem.W.mg_of X G al)
  cases e
  refine ⟨fdl, ?_, fun base _ _ => ?_⟩
  · obtain ⟨oc, od, kV, doc, pm, an, cdv, ct, osl, rfl, lk, hcd⟩ := Fl.ex
    exact fun s v => .of_eq rfl
  have c_sized := (Z.d_sized.df X G).cl fun f fd F => ok_sized (P := P) (w := w) (base := base) M F
  have c_signs := (Z.d_signs.df X G).cl fun f fd F => ok_signs (P := P) (w := w) (base := base) M F
  have c_wrong := (Z.d_wrong.df X G).cl fun f fd F => ok_wrong M c_sized c_signs F
  have c_places := (Z.d_places.df X G).cl fun f fd F => ok_places (P := P) (w := w) (base := base) M cl nT F
  have c_ending := (Z.d_ending.df X G).cl fun f fd F => ok_ending (P := P) (w := w) (base := base) (mg := mg) cl nT F
  have c_numS := (Z.d_num.df X G).cl fun f fd F => ok_num (P := P) (w := w) (base := base) M ofS pe_dnewK call_lenD F
  have c_numP := (Z.d_num.df X G).cl fun f fd F => ok_num (P := P) (w := w) (base := base) M ofP pe_dnewT call_len_dT F
  have c_tails := (Z.d_tails.df X G).cl fun f fd F => ok_tails (P := P) (w := w) (base := base) M F
  have c_order := (Z.d_order.df X G).cl fun f fd F => ok_order M cl nT c_places c_numS c_numP c_tails F
  have c_endings := (Z.d_endings.df X G).cl fun f fd F => ok_endings c_order F
  have c_sign := (Z.d_sign.df X G).cl fun f fd F => ok_sign M c_signs F
  have c_lot := (Z.d_lot.df X G).cl fun f fd F => ok_lot M c_signs F
  have c_part := (Z.d_part.df X G).cl fun f fd F => ok_part M S c_sized c_sign c_lot F
  have c_pat := (Z.d_pat.df X G).cl fun f fd F => ok_pat M c_sized c_part F
  have c_check := (Z.d_check.df X G).cl fun f fd F => ok_check c_pat F
  have c_can := (Z.d_can.df X G).cl fun f fd F => ok_can (P := P) (w := w) (base := base) M F
  have c_parted := (Z.d_parted.df X G).cl fun f fd F => ok_parted (P := P) (w := w) (base := base) M F
  have c_sea := (Z.d_sea.df X G).cl fun f fd F => ok_sea M c_check c_endings c_ending c_parted c_can F
  have c_pool := (Z.d_pool.df X G).cl fun f fd F => ok_pool (P := P) (w := w) (base := base) M F
  have c_draw := (Z.d_draw.df X G).cl fun f fd F => ok_draw (P := P) (w := w) (base := base) M F
  have c_tex := (Z.d_tex.df X G).cl fun f fd F => ok_texts M c_draw F
  have c_lpl := (Z.d_lpl.df X G).cl fun f fd F => ok_lpl (P := P) (w := w) (base := base) M F
  have c_lpa := (Z.d_lpa.df X G).cl fun f fd F => ok_lpa M c_draw F
  have c_lpt := (Z.d_lpt.df X G).cl fun f fd F => ok_lpt M c_draw c_lpa F
  have c_lets := (Z.d_lets.df X G).cl fun f fd F => ok_lets (P := P) (w := w) (base := base) M F
  have c_beg := (Z.d_beg.df X G).cl fun f fd F => ok_beg M c_lets F
  have c_rng := (Z.d_rng.df X G).cl fun f fd F => ok_rng (P := P) (w := w) (base := base) M F
  have c_is : ClG P w K mg base 1 "_law_is" ["_law_told", "_law_due"] (spIs K) := by
    obtain ⟨f, fd, F, a, b⟩ := (Z.d_lis.df X G).ex
    exact ⟨f, fd, ok_is M F, a, F.kp, b⟩
  have L : Li P w K mg base C := ⟨⟨fi, fdi, ok_init cl nT c_wrong Fi, mk, bi⟩, PySem.W.mg_of X G aC⟩
  exact ok_law M cl nT L c_pool c_tex c_lpl c_draw c_lpt c_beg c_rng c_sea c_is Fl
/-- what the head leaves -/
theorem walkEp {l : PySem.W.OpenLaw} {q : Program} {loose : List Str} {XP : (Str → Option Value) → Heap → Prop} {YP : World → Heap → Prop} {d : DefRec} {K : Params → PySem.W.Frag} (hn : l.most = some 63) (hdf : d.params.defaults = []) (hnm : d.name = "law")
    (hY : ∀ (w : World) (h : Heap), YP w h → (K w.params).In h) (F : ∀ w : World, Facts w.params (K w.params)) :
    PySem.W.WalkO q loose XP YP l.row.toRowW d [] (fun f vs => PySem.call f vs) :=
  walkG (n := 63) (k := 7) (x := "_law_script") (sp := fun w => spLaw (K w.params)) hn (by decide) hdf ⟨rfl, by decide, by decide⟩ hY
    (fun w mg fa h X G hm => Facts.law X G (by rw [← hnm]; exact hm) (F w)) (fun w H a ns hl _ hS => ⟨a, ns, rfl, hS, by omega, fun _ => rfl⟩)
end Ep

open PySem PySem.W PyProof.Rows
open_top epHead for PySem.Challenge.rw_everypiece_k47_whole_patterns_searched_b

open PySem PySem.W PyProof.Rows
theorem PySem.Challenge.cw_everypiece_k47_whole_patterns_searched_b_holds : PySem.Challenge.rw_everypiece_k47_whole_patterns_searched_b.Holds := by
  refine epHead ?_
  k_fill
  refine Ep.walkEp (l := PySem.Challenge.rw_everypiece_k47_whole_patterns_searched_b) rfl rfl rfl (fun w h Y => PySem.W.kIn_of Y) ?F
  case F =>
    intro w
    constructor
    · refine' Ep.defB_mk (fun _ _ _ _ _ _ us hl => match us, hl with | [_, _, _], _ => rfl) ?a ?l ?c ?k
      (case a => k_is)
      (case l => k_is)
      (case c => k_is)
      (case k => k_is)
    · refine' Ep.defB_mk (fun _ _ _ _ _ _ us hl => match us, hl with | [_], _ => rfl) ?a ?l ?c ?k
      (case a => k_is)
      (case l => k_is)
      (case c => k_is)
      (case k => k_is)
    · refine' Ep.defB_mk (fun _ _ _ _ _ _ us hl => match us, hl with | [_], _ => rfl) ?a ?l ?c ?k
      (case a => k_is)
      (case l => k_is)
      (case c => k_is)
      (case k => k_is)
    · refine' Ep.defB_mk (fun _ _ _ _ _ _ us hl => match us, hl with | [_], _ => rfl) ?a ?l ?c ?k
      (case a => k_is)
      (case l => k_is)
      (case c => k_is)
      (case k => k_is)
    · refine' Ep.defB_mk (fun _ _ _ _ _ _ us hl => match us, hl with | [_, _], _ => rfl) ?a ?l ?c ?k
      (case a => k_is)
      (case l => k_is)
      (case c => k_is)
      (case k => k_is)
    · refine' Ep.defB_mk (fun _ _ _ _ _ _ us hl => match us, hl with | [_], _ => rfl) ?a ?l ?c ?k
      (case a => k_is)
      (case l => k_is)
      (case c => k_is)
      (case k => k_is)
    · refine' Ep.defB_mk (fun _ _ _ _ _ _ us hl => match us, hl with | [_, _, _], _ => rfl) ?a ?l ?c ?k
      (case a => k_is)
      (case l => k_is)
      (case c => k_is)
      (case k => k_is)
    · refine' Ep.defB_mk (fun _ _ _ _ _ _ us hl => match us, hl with | [_], _ => rfl) ?a ?l ?c ?k
      (case a => k_is)
      (case l => k_is)
      (case c => k_is)
      (case k => k_is)
    · refine' Ep.defB_mk (fun _ _ _ _ _ _ us hl => match us, hl with | [_], _ => rfl) ?a ?l ?c ?k
      (case a => k_is)
      (case l => k_is)
      (case c => k_is)
      (case k => k_is)
    · refine' Ep.defB_mk (fun _ _ _ _ _ _ us hl => match us, hl with | [_], _ => rfl) ?a ?l ?c ?k
      (case a => k_is)
      (case l => k_is)
      (case c => k_is)
      (case k => k_is)
    · refine' Ep.defB_mk (fun _ _ _ _ _ _ us hl => match us, hl with | [_], _ => rfl) ?a ?l ?c ?k
      (case a => k_is)
      (case l => k_is)
      (case c => k_is)
      (case k => k_is)
    · refine' Ep.defB_mk (fun _ _ _ _ _ _ us hl => match us, hl with | [_], _ => rfl) ?a ?l ?c ?k
      (case a => k_is)
      (case l => k_is)
      (case c => k_is)
      (case k => k_is)
    · refine' Ep.defB_mk (fun _ _ _ _ _ _ us hl => match us, hl with | [_], _ => rfl) ?a ?l ?c ?k
      (case a => k_is)
      (case l => k_is)
      (case c => k_is)
      (case k => k_is)
    · refine' Ep.defB_mk (fun _ _ _ _ _ _ us hl => match us, hl with | [_], _ => rfl) ?a ?l ?c ?k
      (case a => k_is)
      (case l => k_is)
      (case c => k_is)
      (case k => k_is)
    · refine' Ep.defB_mk (fun _ _ _ _ _ _ us hl => match us, hl with | [_, _], _ => rfl) ?a ?l ?c ?k
      (case a => k_is)
      (case l => k_is)
      (case c => k_is)
      (case k => k_is)
    · refine' Ep.defB_mk (fun _ _ _ _ _ _ us hl => match us, hl with | [_, _, _, _], _ => rfl) ?a ?l ?c ?k
      (case a => k_is)
      (case l => k_is)
      (case c => k_is)
      (case k => k_is)
    · refine' Ep.defB_mk (fun _ _ _ _ _ _ us hl => match us, hl with | [_, _], _ => rfl) ?a ?l ?c ?k
      (case a => k_is)
      (case l => k_is)
      (case c => k_is)
      (case k => k_is)
    · refine' Ep.defB_mk (fun _ _ _ _ _ _ us hl => match us, hl with | [_], _ => rfl) ?a ?l ?c ?k
      (case a => k_is)
      (case l => k_is)
      (case c => k_is)
      (case k => k_is)
    · refine' Ep.defB_mk (fun _ _ _ _ _ _ us hl => match us, hl with | [_, _], _ => rfl) ?a ?l ?c ?k
      (case a => k_is)
      (case l => k_is)
      (case c => k_is)
      (case k => k_is)
    · refine' Ep.defB_mk (fun _ _ _ _ _ _ us hl => match us, hl with | [_, _], _ => rfl) ?a ?l ?c ?k
      (case a => k_is)
      (case l => k_is)
      (case c => k_is)
      (case k => k_is)
    · refine' Ep.defB_mk (fun _ _ _ _ _ _ us hl => match us, hl with | [_, _], _ => rfl) ?a ?l ?c ?k
      (case a => k_is)
      (case l => k_is)
      (case c => k_is)
      (case k => k_is)
    · refine' Ep.defB_mk (fun _ _ _ _ _ _ us hl => match us, hl with | [_], _ => rfl) ?a ?l ?c ?k
      (case a => k_is)
      (case l => k_is)
      (case c => k_is)
      (case k => k_is)
    · refine' Ep.defB_mk (fun _ _ _ _ _ _ us hl => match us, hl with | [_, _, _], _ => rfl) ?a ?l ?c ?k
      (case a => k_is)
      (case l => k_is)
      (case c => k_is)
      (case k => k_is)
    · refine' Ep.defB_mk (fun _ _ _ _ _ _ us hl => match us, hl with | [_, _, _], _ => rfl) ?a ?l ?c ?k
      (case a => k_is)
      (case l => k_is)
      (case c => k_is)
      (case k => k_is)
    · refine' Ep.defB_mk (fun _ _ _ _ _ _ us hl => match us, hl with | [_, _], _ => rfl) ?a ?l ?c ?k
      (case a => k_is)
      (case l => k_is)
      (case c => k_is)
      (case k => k_is)
    · refine' Ep.defB_mk (fun _ _ _ _ _ _ us hl => match us, hl with | [_, _], _ => rfl) ?a ?l ?c ?k
      (case a => k_is)
      (case l => k_is)
      (case c => k_is)
      (case k => k_is)
    · refine' Ep.defB_mk (fun _ _ _ _ _ _ us hl => match us, hl with | [_, _, _], _ => rfl) ?a ?l ?c ?k
      (case a => k_is)
      (case l => k_is)
      (case c => k_is)
      (case k => k_is)
    · refine' Ep.defB_mk (fun _ _ _ _ _ _ us hl => match us, hl with | [_], _ => rfl) ?a ?l ?c ?k
      (case a => k_is)
      (case l => k_is)
      (case c => k_is)
      (case k => k_is)
    · exact Ep.noB_mk (by k_is)
    · exact Ep.noB_mk (by k_is)
    · exact Ep.noB_mk (by k_is)
    · exact Ep.noB_mk (by k_is)
    · exact Ep.noB_mk (by k_is)
    · exact Ep.noB_mk (by k_is)
    · exact Ep.noB_mk (by k_is)
    · exact Ep.noB_mk (by k_is)
    · exact Ep.noB_mk (by k_is)
    · exact Ep.noB_mk (by k_is)
    · exact Ep.noB_mk (by k_is)
    · exact Ep.noB_mk (by k_is)
    · exact Ep.noB_mk (by k_is)
    · exact Ep.noB_mk (by k_is)
    · exact Ep.noB_mk (by k_is)
    · exact Ep.noB_mk (by k_is)
    · exact Ep.noB_mk (by k_is)
    · exact Ep.noB_mk (by k_is)
    · refine' Ep.ciB_mk ?h
      (case h => k_is)
    · refine' Ep.csB_mk ?h
      (case h => k_is)
    · refine' Ep.csB_mk ?h
      (case h => k_is)
    · refine' Ep.ciB_mk ?h
      (case h => k_is)
    · refine' Ep.csB_mk ?h
      (case h => k_is)
    · refine' Ep.csB_mk ?h
      (case h => k_is)
    · refine' Ep.csB_mk ?h
      (case h => k_is)
    · refine' Ep.csB_mk ?h
      (case h => k_is)
    · refine' Ep.ciB_mk ?h
      (case h => k_is)
    · refine' Ep.ciB_mk ?h
      (case h => k_is)
    · refine' Ep.ciB_mk ?h
      (case h => k_is)
    · refine' Ep.libB_mk ?aC ?a ?i ?l ?c ?k ?pg ?hd ?po ?sa ?mk ?kc ?nT
      (case aC => k_is)
      (case a => k_is)
      (case i => k_is)
      (case l => k_is)
      (case c => k_is)
      (case k => k_is)
      (case pg => k_is)
      (case hd => k_is)
      (case po => k_is)
      (case sa => k_is)
      (case mk => k_is)
      (case kc => k_is)
      (case nT => k_is)
    · refine' Ep.szB_mk ?a ?b ?c ?s ?d1 ?d2 ?d3
      (case a => k_is)
      (case b => k_is)
      (case c => k_keys)
      (case s => rfl)
      (case d1 => k_is)
      (case d2 => k_is)
      (case d3 => k_is)
