import PyProof.Rows.All
import Wide.All
import OpenK.AllK
import Wide.FinOn
import KE.KStateDown
import KE.SortData
import KE.KSuper
import KE.KExcSuper
import Lean
import HandS.ForMost
import HandS.ForExc
import HandS.Style
import HandS.Flow
import HandS.Wide
import HandS.Deep
import HandS.Defaults
import HandS.ExcInit
import HandS.ExcField
import HandS.ExcIs
import HandS.IsInst
import HandS.HotCalls
import HandS.StrMore
import HandS.Conv
import HandS.SortInts
import HandS.Zip
import HandS.Head0
import HandS.Head1
import HandS.Head2
import HandS.HeadEnd
import HandS.HeadHook1
import HandS.HeadHook2
import HandS.HeadHook3
import HandS.HeadHook4
import KE.KExcIs
import PyProof.StrOps2
import PySem.Challenge.RW_climbrow_k43_whole_exact_guide
set_option Elab.async false
set_option linter.all false
set_option maxRecDepth 100000
set_option maxHeartbeats 4000000
namespace K43
/-! ### words: false is a card of theirs (up), true one of mine (down) -/
def lv : Int → List Bool → List Int
  | _, [] => []
  | h, false :: w => h :: lv (h + 1) w
  | h, true :: w => lv (h - 1) w
def en : Int → List Bool → Int
  | h, [] => h
  | h, false :: w => en (h + 1) w
  | h, true :: w => en (h - 1) w
def lm : Int → List Bool → List Int
  | _, [] => []
  | h, false :: w => lm (h + 1) w
  | h, true :: w => (h - 1) :: lm (h - 1) w
theorem lv_app : ∀ (a : List Bool) (h : Int) (b : List Bool), lv h (a ++ b) = lv h a ++ lv (en h a) b
  | [], _, _ => rfl
  | false :: a, h, b => by simp only [List.cons_append, lv, en, lv_app a]
  | true :: a, h, b => by simp only [List.cons_append, lv, en, lv_app a]
theorem en_app : ∀ (a : List Bool) (h : Int) (b : List Bool), en h (a ++ b) = en (en h a) b
  | [], _, _ => rfl
  | false :: a, h, b => by simp only [List.cons_append, en, en_app a]
  | true :: a, h, b => by simp only [List.cons_append, en, en_app a]
theorem en_shift : ∀ (a : List Bool) (h d : Int), en (h + d) a = en h a + d
  | [], _, _ => rfl
  | false :: a, h, d => by
    have e : h + d + 1 = h + 1 + d := by omega
    simp only [en, e, en_shift a]
  | true :: a, h, d => by
    have e : h + d - 1 = h - 1 + d := by omega
    simp only [en, e, en_shift a]
theorem lv_shift : ∀ (a : List Bool) (h d : Int), lv (h + d) a = (lv h a).map (· + d)
  | [], _, _ => rfl
  | false :: a, h, d => by
    have e : h + d + 1 = h + 1 + d := by omega
    simp only [lv, e, lv_shift a, List.map_cons]
  | true :: a, h, d => by
    have e : h + d - 1 = h - 1 + d := by omega
    simp only [lv, e, lv_shift a]
/-- an upward crossing -/
theorem cross : ∀ (w : List Bool) (h x : Int), h ≤ x → x < en h w → x ∈ lv h w
  | [], h, x, h1, h2 => by simp only [en] at h2; omega
  | false :: w, h, x, h1, h2 => by
    simp only [en] at h2
    simp only [lv, List.mem_cons]
    by_cases e : x = h
    · exact .inl e
    · exact .inr (cross w (h + 1) x (by omega) h2)
  | true :: w, h, x, h1, h2 => by
    simp only [en] at h2
    simp only [lv]
    exact cross w (h - 1) x (by omega) h2
theorem lv_split : ∀ (w : List Bool) (h z : Int), z ∈ lv h w → ∃ P S, w = P ++ false :: S ∧ en h P = z
  | [], _, _, hz => by simp only [lv, List.not_mem_nil] at hz
  | false :: w, h, z, hz => by
    simp only [lv, List.mem_cons] at hz
    rcases hz with e | hz
    · exact ⟨[], w, rfl, e.symm⟩
    · obtain ⟨P, S, e, q⟩ := lv_split w (h + 1) z hz
      exact ⟨false :: P, S, by rw [e]; rfl, q⟩
  | true :: w, h, z, hz => by
    simp only [lv] at hz
    obtain ⟨P, S, e, q⟩ := lv_split w (h - 1) z hz
    exact ⟨true :: P, S, by rw [e]; rfl, q⟩
/-- a closed walk has no gap in its levels -/
theorem no_gap {w : List Bool} {h x y z : Int} (hc : en h w = h) (hy : y ∈ lv h w) (h1 : y < x) (hz : z ∈ lv h w) (h2 : x < z) : x ∈ lv h w := by
  by_cases hx : h ≤ x
  · obtain ⟨P, S, e, q⟩ := lv_split w h z hz
    rw [e, lv_app]
    exact List.mem_append_left _ (cross P h x hx (by omega))
  · obtain ⟨P, S, e, q⟩ := lv_split w h y hy
    have hE : en (en h P) (false :: S) = h := by rw [← en_app, ← e, hc]
    rw [e, lv_app]
    refine List.mem_append_right _ (cross (false :: S) (en h P) x (by omega) (by omega))
def seg (a b x : Int) : Nat := if a ≤ x ∧ x < b then 1 else 0
theorem seg_one {a b x : Int} (h : a ≤ x) (k : x < b) : seg a b x = 1 := if_pos ⟨h, k⟩
theorem seg_no {a b x : Int} (h : ¬ (a ≤ x ∧ x < b)) : seg a b x = 0 := if_neg h
theorem seg_or (a b x : Int) : (a ≤ x ∧ x < b ∧ seg a b x = 1) ∨ (¬ (a ≤ x ∧ x < b) ∧ seg a b x = 0) := by
  by_cases h : a ≤ x ∧ x < b
  · exact .inl ⟨h.1, h.2, if_pos h⟩
  · exact .inr ⟨h, if_neg h⟩
theorem count_lv (x : Int) : ∀ (w : List Bool) (h : Int), (lv h w).count x + seg (en h w) h x = (lm h w).count x + seg h (en h w) x
  | [], h => rfl
  | false :: w, h => by
    have ih := count_lv x w (h + 1)
    show (h :: lv (h + 1) w).count x + seg (en (h + 1) w) h x = (lm (h + 1) w).count x + seg h (en (h + 1) w) x
    rw [List.count_cons]
    generalize en (h + 1) w = e at ih ⊢
    have i1 := seg_or e (h + 1) x
    have i2 := seg_or (h + 1) e x
    have i3 := seg_or e h x
    have i4 := seg_or h e x
    by_cases q : h = x
    · rw [if_pos (by simpa using q)]
      omega
    · rw [if_neg (by simpa using q)]
      omega
  | true :: w, h => by
    have ih := count_lv x w (h - 1)
    show (lv (h - 1) w).count x + seg (en (h - 1) w) h x = ((h - 1) :: lm (h - 1) w).count x + seg h (en (h - 1) w) x
    rw [List.count_cons]
    generalize en (h - 1) w = e at ih ⊢
    have i1 := seg_or e (h - 1) x
    have i2 := seg_or (h - 1) e x
    have i3 := seg_or e h x
    have i4 := seg_or h e x
    by_cases q : h - 1 = x
    · rw [if_pos (by simpa using q)]
      omega
    · rw [if_neg (by simpa using q)]
      omega
/-- both sides have the same levels -/
theorem levels_alike {w : List Bool} {h : Int} (hc : en h w = h) : (lv h w).Perm (lm h w) := by
  rw [List.perm_iff_count]
  intro x
  have q := count_lv x w h
  rw [hc, seg_no (by omega)] at q
  omega
/-! ### how many lie below -/
def lo (x : Int) (l : List Int) : Nat := l.countP fun v => decide (v < x)
theorem lo_nil (x : Int) : lo x [] = 0 := rfl
theorem lo_cons (x v : Int) (l : List Int) : lo x (v :: l) = lo x l + (if v < x then 1 else 0) := by
  unfold lo
  rw [List.countP_cons]
  simp only [decide_eq_true_eq]
theorem lo_app (x : Int) (a b : List Int) : lo x (a ++ b) = lo x a + lo x b := List.countP_append
theorem lo_perm {x : Int} {a b : List Int} (p : a.Perm b) : lo x a = lo x b := p.countP_eq _
theorem lo_map (x d : Int) : ∀ l : List Int, lo (x + d) (l.map (· + d)) = lo x l
  | [] => rfl
  | v :: l => by
    rw [List.map_cons, lo_cons, lo_cons, lo_map x d l]
    by_cases e : v < x
    · rw [if_pos e, if_pos (by omega)]
    · rw [if_neg e, if_neg (by omega)]
theorem lo_mono {x y : Int} (h : x ≤ y) : ∀ l : List Int, lo x l ≤ lo y l
  | [] => Nat.le_refl _
  | v :: l => by
    have := lo_mono h l
    rw [lo_cons, lo_cons]
    split <;> split <;> omega
theorem lo_le (x : Int) (l : List Int) : lo x l ≤ l.length := List.countP_le_length
theorem lo_zero {x : Int} : ∀ {l : List Int}, (∀ v ∈ l, x ≤ v) → lo x l = 0
  | [], _ => rfl
  | v :: l, h => by
    rw [lo_cons, lo_zero fun u hu => h u (List.mem_cons_of_mem _ hu), if_neg]
    have := h v List.mem_cons_self
    omega
/-- an item of a rising list -/
theorem at_lo {x : Int} : ∀ {l : List Int} {i : Nat}, l.Pairwise (· ≤ ·) → i < l.length → (x ≤ l.getD i 0 ↔ lo x l ≤ i)
  | [], i, _, hi => by simp at hi
  | v :: l, 0, hp, _ => by
    have h1 : ∀ {u : Int}, u ∈ l → v ≤ u := fun hu => List.rel_of_pairwise_cons hp hu
    show x ≤ v ↔ _
    rw [lo_cons]
    constructor
    · intro q
      rw [if_neg (by omega), lo_zero fun u hu => by have := h1 hu; omega]
      exact Nat.le_refl _
    · intro q
      by_cases e : v < x
      · rw [if_pos e] at q; omega
      · omega
  | v :: l, i + 1, hp, hi => by
    have h1 : ∀ {u : Int}, u ∈ l → v ≤ u := fun hu => List.rel_of_pairwise_cons hp hu
    have ih := at_lo (x := x) (l := l) (i := i) (List.Pairwise.of_cons hp) (by simpa using hi)
    show x ≤ l.getD i 0 ↔ _
    rw [lo_cons, ih]
    by_cases e : v < x
    · rw [if_pos e]; omega
    · have z : lo x l = 0 := lo_zero fun u hu => by have := h1 hu; omega
      rw [if_neg e, z]
      omega
theorem exists_lo {x : Int} : ∀ {l : List Int}, 0 < lo x l → ∃ v ∈ l, v < x
  | [], h => by simp [lo] at h
  | v :: l, h => by
    rw [lo_cons] at h
    by_cases e : v < x
    · exact ⟨v, List.mem_cons_self, e⟩
    · rw [if_neg e] at h
      obtain ⟨u, hu, q⟩ := exists_lo (l := l) h
      exact ⟨u, List.mem_cons_of_mem _ hu, q⟩
theorem exists_hi {x : Int} : ∀ {l : List Int}, lo x l < l.length → ∃ v ∈ l, x ≤ v
  | [], h => by simp at h
  | v :: l, h => by
    rw [lo_cons, List.length_cons] at h
    by_cases e : v < x
    · rw [if_pos e] at h
      obtain ⟨u, hu, q⟩ := exists_hi (x := x) (l := l) (by omega)
      exact ⟨u, List.mem_cons_of_mem _ hu, q⟩
    · exact ⟨v, List.mem_cons_self, by omega⟩
theorem lo_step {x : Int} : ∀ {l : List Int}, lo (x + 1) l = lo x l + l.count x
  | [] => rfl
  | v :: l => by
    rw [lo_cons, lo_cons, List.count_cons, lo_step (l := l)]
    by_cases e : v = x
    · subst e
      rw [if_pos (by omega), if_neg (by omega), if_pos (by simp)]
      omega
    · have e2 : ¬ ((v == x) = true) := by simpa using e
      rw [if_neg e2]
      by_cases q : v < x
      · rw [if_pos (by omega), if_pos q]; omega
      · rw [if_neg (by omega), if_neg q]; omega
/-- no gap, in a rising list of a closed walk: g steps further at most g more -/
theorem gap_lo {w : List Bool} {h : Int} (hc : en h w = h) {c : List Int} (hp : c.Perm (lv h w)) (hs : c.Pairwise (· ≤ ·)) {i : Nat} (hi : i + 1 < c.length) : c.getD (i + 1) 0 ≤ c.getD i 0 + 1 := by
  refine Decidable.byContradiction fun q => ?_
  have a0 : lo (c.getD i 0 + 1) c ≤ i + 1 := (at_lo hs hi).mp (by omega)
  have a1 : lo (c.getD i 0 + 2) c ≤ i + 1 := (at_lo hs hi).mp (by omega)
  have a2 : ¬ lo (c.getD i 0 + 1) c ≤ i := fun z => by
    have := (at_lo (x := c.getD i 0 + 1) hs (by omega)).mpr z
    omega
  have a3 := lo_step (x := c.getD i 0 + 1) (l := c)
  have e3 : c.getD i 0 + 1 + 1 = c.getD i 0 + 2 := by omega
  rw [e3] at a3
  have cnt : c.count (c.getD i 0 + 1) = 0 := by omega
  have mem : ∀ j, j < c.length → c.getD j 0 ∈ lv h w := fun j hj => by
    rw [List.getD_eq_getElem?_getD, List.getElem?_eq_getElem hj]
    exact hp.mem_iff.mp (List.getElem_mem hj)
  have z := no_gap hc (x := c.getD i 0 + 1) (mem i (by omega)) (by omega) (mem (i + 1) hi) (by omega)
  have z2 := List.count_pos_iff.mpr (hp.mem_iff.mpr z)
  omega
theorem gap_far {w : List Bool} {h : Int} (hc : en h w = h) {c : List Int} (hp : c.Perm (lv h w)) (hs : c.Pairwise (· ≤ ·)) (i : Nat) : ∀ g : Nat, i + g < c.length → c.getD (i + g) 0 ≤ c.getD i 0 + (g : Int)
  | 0, _ => by simp
  | g + 1, hg => by
    have ih := gap_far hc hp hs i g (by omega)
    have q := gap_lo hc hp hs (i := i + g) (by omega)
    have e : i + (g + 1) = i + g + 1 := by omega
    rw [e]
    omega
end K43
namespace K43
/-! ### steps of the levels along a word -/
def stp : List Int → Prop
  | a :: b :: l => b ≤ a + 1 ∧ stp (b :: l)
  | _ => True
theorem stp_tail : ∀ {a : Int} {l : List Int}, stp (a :: l) → stp l
  | _, [], _ => True.intro
  | _, _ :: _, h => h.2
theorem stp_lv : ∀ (w : List Bool) (h z : Int), z ≤ en h w → stp (lv h w ++ [z]) ∧ ∀ v l, lv h w ++ [z] = v :: l → v ≤ h
  | [], h, z, hz => ⟨True.intro, fun v l e => by
    have e' : [z] = v :: l := e
    cases e'
    exact hz⟩
  | true :: w, h, z, hz => by
    obtain ⟨q1, q2⟩ := stp_lv w (h - 1) z hz
    refine ⟨q1, fun v l e => ?_⟩
    have := q2 v l e
    omega
  | false :: w, h, z, hz => by
    obtain ⟨q1, q2⟩ := stp_lv w (h + 1) z hz
    refine ⟨?_, fun v l e => ?_⟩
    · show stp (h :: (lv (h + 1) w ++ [z]))
      cases e : lv (h + 1) w ++ [z] with
      | nil => exact True.intro
      | cons v l => exact ⟨q2 v l e, by rw [e] at q1; exact q1⟩
    · have e' : h :: (lv (h + 1) w ++ [z]) = v :: l := e
      injection e' with e1 _
      omega
theorem stp_front : ∀ (l m : List Int), stp (l ++ m) → stp l
  | [], _, _ => True.intro
  | [_], _, _ => True.intro
  | _ :: b :: l, m, h => ⟨h.1, stp_front (b :: l) m h.2⟩
theorem stp_back : ∀ (l m : List Int), stp (l ++ m) → stp m
  | [], _, h => h
  | _ :: l, m, h => stp_back l m (stp_tail h)
theorem stp_word (w : List Bool) (h : Int) : stp (lv h w) := stp_front _ _ (stp_lv w h (en h w) (Int.le_refl _)).1
theorem stp_lo (x z : Int) : ∀ (D : List Int) (a : Int), stp (a :: D ++ [z]) → lo x ((a :: D).map (· + 1)) ≤ lo x (D ++ [z])
  | [], a, h => by
    have h1 : z ≤ a + 1 := h.1
    show lo x [a + 1] ≤ lo x [z]
    rw [lo_cons, lo_cons, lo_nil]
    split <;> split <;> omega
  | b :: D, a, h => by
    have h1 : b ≤ a + 1 := h.1
    have ih := stp_lo x z D b h.2
    show lo x ((a + 1) :: (b :: D).map (· + 1)) ≤ lo x (b :: (D ++ [z]))
    rw [lo_cons, lo_cons]
    split <;> split <;> omega
theorem climb : ∀ (l : List Int) (e z : Int), stp (e :: l) → e < z → (∀ x m, e :: l = m ++ [x] → z ≤ x) → z ∈ l
  | [], e, z, _, h1, h2 => by
    have := h2 e [] rfl
    omega
  | b :: l, e, z, h, h1, h2 => by
    by_cases q : b < z
    · refine List.mem_cons_of_mem _ (climb l b z h.2 q fun x m em => h2 x (e :: m) ?_)
      rw [em]
      rfl
    · have h3 : b ≤ e + 1 := h.1
      have : z = b := by omega
      rw [this]
      exact List.mem_cons_self
/-- a jump from above b to below a -/
theorem jump {a b : Int} : ∀ (l : List Int) (h : Int), stp (h :: l) → b < h → (∀ x m, h :: l = m ++ [x] → b ≤ x) → (∃ e ∈ l, e < a) → (∀ x, a ≤ x → x ≤ b → (h :: l).count x ≤ 1) →
    ∃ P x y S, h :: l = P ++ x :: y :: S ∧ b < x ∧ y < a
  | [], _, _, _, _, ⟨e, he, _⟩, _ => by cases he
  | z :: l, h, hs, hb, hl, ⟨e, he, ea⟩, hc => by
    by_cases q : b < z
    · have he' : e ∈ z :: l := he
      by_cases hab : a ≤ b
      · rcases List.mem_cons.mp he with e1 | he2
        · omega
        · obtain ⟨P, x, y, S, e1, e2, e3⟩ := jump (a := a) (b := b) l z hs.2 q (fun x m em => hl x (h :: m) (by rw [em]; rfl)) ⟨e, he2, ea⟩ fun x k1 k2 => by
            have := hc x k1 k2
            rw [List.count_cons] at this
            omega
          exact ⟨h :: P, x, y, S, by rw [e1]; rfl, e2, e3⟩
      · by_cases za : z < a
        · exact ⟨[], h, z, l, rfl, hb, za⟩
        · rcases List.mem_cons.mp he with e1 | he2
          · omega
          · obtain ⟨P, x, y, S, e1, e2, e3⟩ := jump (a := a) (b := b) l z hs.2 q (fun x m em => hl x (h :: m) (by rw [em]; rfl)) ⟨e, he2, ea⟩ fun x k1 k2 => by
              have := hc x k1 k2
              rw [List.count_cons] at this
              omega
            exact ⟨h :: P, x, y, S, by rw [e1]; rfl, e2, e3⟩
    · by_cases za : z < a
      · exact ⟨[], h, z, l, rfl, hb, za⟩
      · exfalso
        rcases List.mem_cons.mp he with e1 | he2
        · omega
        · obtain ⟨M, N, eM⟩ := List.append_of_mem he2
          have s1 : stp (e :: N) := by
            have s2 : stp (z :: l) := hs.2
            rw [eM] at s2
            exact stp_back (z :: M) (e :: N) s2
          have mem : z ∈ N := climb N e z s1 (by omega) fun x m em => by
            have := hl x (h :: z :: M ++ m) (by rw [eM, em]; simp)
            omega
          have c1 := hc z (by omega) (by omega)
          have c2 : 0 < l.count z := List.count_pos_iff.mpr (by rw [eM]; exact List.mem_append_right _ (List.mem_cons_of_mem _ mem))
          rw [List.count_cons, List.count_cons, if_pos (by simp)] at c1
          omega
/-- between a card of theirs and a next one that is not above it stands one of mine -/
theorem between : ∀ (v : List Bool) (g : Int) (P S : List Int) (x y : Int), lv g v = P ++ x :: y :: S → y ≤ x →
    ∃ G Q, v = G ++ true :: Q ∧ lv g G = P ++ [x] ∧ lv (en g G - 1) Q = y :: S
  | [], g, P, S, x, y, h, _ => by
    have h' : [] = P ++ x :: y :: S := h
    have := congrArg List.length h'
    simp at this
  | true :: v, g, P, S, x, y, h, hy => by
    obtain ⟨G, Q, e1, e2, e3⟩ := between v (g - 1) P S x y h hy
    exact ⟨true :: G, Q, by rw [e1]; rfl, e2, e3⟩
  | false :: v, g, p :: P, S, x, y, h, hy => by
    have h' : g :: lv (g + 1) v = p :: (P ++ x :: y :: S) := h
    injection h' with h1 h2
    obtain ⟨G, Q, e1, e2, e3⟩ := between v (g + 1) P S x y h2 hy
    exact ⟨false :: G, Q, by rw [e1]; rfl, by show g :: lv (g + 1) G = _; rw [e2, h1]; rfl, e3⟩
  | false :: v, g, [], S, x, y, h, hy => by
    have h' : g :: lv (g + 1) v = x :: (y :: S) := h
    injection h' with h1 h2
    cases v with
    | nil => cases h2
    | cons b v =>
      cases b with
      | false =>
        have h3 : (g + 1) :: lv (g + 1 + 1) v = y :: S := h2
        injection h3 with h4 _
        omega
      | true =>
        refine ⟨[false], v, rfl, by rw [← h1]; rfl, ?_⟩
        have h3 : lv (g + 1 - 1) v = y :: S := h2
        exact h3
/-- back from a turned ring -/
theorem unturn {X Y G Q : List Bool} (hc : en 0 (X ++ Y) = 0) (h : Y ++ X = G ++ true :: Q) : ∃ A B, X ++ Y = A ++ true :: B ∧ B ++ A = Q ++ G ∧ en 0 A = en (en 0 X) G := by
  rcases List.append_eq_append_iff.mp h with ⟨G2, e1, e2⟩ | ⟨Y2, e1, e2⟩
  · refine ⟨G2, Q ++ Y, by rw [e2]; simp, by rw [e1]; simp, ?_⟩
    rw [e1, en_app, ← en_app X 0 Y, hc]
  · cases Y2 with
    | nil =>
      refine ⟨[], Q ++ G, ?_, by simp, ?_⟩
      · have e2' : true :: Q = X := e2
        have e1' : Y = G := by rw [e1]; simp
        rw [← e2', e1']
        rfl
      · have e1' : Y = G := by rw [e1]; simp
        rw [← e1', ← en_app, hc]
        rfl
    | cons b Y2 =>
      have e2' : true :: Q = b :: (Y2 ++ X) := e2
      injection e2' with e3 e4
      subst e3
      refine ⟨X ++ G, Y2, by rw [e1]; simp, by rw [e4]; simp, en_app X 0 G⟩
/-- a ring turned is closed, its levels are the same -/
theorem turned {X Y : List Bool} (hc : en 0 (X ++ Y) = 0) : en (en 0 X) (Y ++ X) = en 0 X ∧ (lv (en 0 X) (Y ++ X)).Perm (lv 0 (X ++ Y)) := by
  have e : en (en 0 X) Y = 0 := by rw [← en_app, hc]
  refine ⟨by rw [en_app, e], ?_⟩
  rw [lv_app, lv_app, e]
  exact List.perm_append_comm
/-- a card of mine seen in the ring: the levels behind it, in the ring's order -/
structure Seen (w A B : List Bool) (y x : Int) (M : List Int) : Prop where
  at_ : w = A ++ true :: B
  ring : lv (en 0 A - 1) (B ++ A) = y :: M
  last : ∃ P, y :: M = P ++ [x]
theorem seen_of {X Y : List Bool} (hc : en 0 (X ++ Y) = 0) {P S : List Int} {x y : Int} (h : lv (en 0 X) (Y ++ X) = P ++ x :: y :: S) (hy : y ≤ x) : ∃ A B, Seen (X ++ Y) A B y x (S ++ (P ++ [x])) := by
  obtain ⟨G, Q, e1, e2, e3⟩ := between _ _ _ _ _ _ h hy
  obtain ⟨A, B, q1, q2, q3⟩ := unturn hc e1
  refine ⟨A, B, q1, ?_, y :: (S ++ P), by simp⟩
  rw [q2, q3, lv_app, e3]
  have z : en (en (en 0 X) G - 1) Q = en 0 X := by
    have := (turned hc).1
    rw [e1, en_app] at this
    exact this
  rw [z, e2]
  rfl
/-- the greatest, the least -/
theorem great : ∀ (l : List Int), l ≠ [] → ∃ v ∈ l, ∀ u ∈ l, u ≤ v
  | [], h => absurd rfl h
  | [a], _ => ⟨a, List.mem_cons_self, fun u hu => by rw [List.mem_singleton.mp hu]; exact Int.le_refl _⟩
  | a :: b :: l, _ => by
    obtain ⟨v, h1, h2⟩ := great (b :: l) (by simp)
    by_cases q : a ≤ v
    · exact ⟨v, List.mem_cons_of_mem _ h1, fun u hu => by
        rcases List.mem_cons.mp hu with e | hu
        · rw [e]; exact q
        · exact h2 u hu⟩
    · exact ⟨a, List.mem_cons_self, fun u hu => by
        rcases List.mem_cons.mp hu with e | hu
        · rw [e]; exact Int.le_refl _
        · have := h2 u hu; omega⟩
theorem small (l : List Int) (h : l ≠ []) : ∃ v ∈ l, ∀ u ∈ l, v ≤ u := by
  obtain ⟨v, h1, h2⟩ := great (l.map (- ·)) (by simpa using h)
  obtain ⟨u, hu, e⟩ := List.mem_map.mp h1
  refine ⟨u, hu, fun z hz => ?_⟩
  have := h2 (-z) (List.mem_map.mpr ⟨z, hz, rfl⟩)
  omega
section
variable {w : List Bool} (hc : en 0 w = 0)
include hc
/-- a card of mine whose next one down the ring has the greatest level -/
theorem see_top (h2 : 2 ≤ (lv 0 w).length) : ∃ A B y x M, Seen w A B y x M ∧ ∀ u ∈ lv 0 w, u ≤ x := by
  obtain ⟨v, hv, hm⟩ := great (lv 0 w) (by intro e; rw [e] at h2; simp at h2)
  obtain ⟨X, S, e, q⟩ := lv_split w 0 v hv
  have hc' : en 0 (X ++ false :: S) = 0 := by rw [← e]; exact hc
  have T := turned (X := X) (Y := false :: S) hc'
  have e2 : lv (en 0 X) (false :: S ++ X) = v :: lv (v + 1) (S ++ X) := by
    show en 0 X :: lv (en 0 X + 1) (S ++ X) = _
    rw [q]
  cases e3 : lv (v + 1) (S ++ X) with
  | nil =>
    have := T.2.length_eq
    rw [e2, e3, ← e] at this
    simp at this
    omega
  | cons y r =>
    rw [e3] at e2
    have hy : y ≤ v := hm y (by rw [e]; exact T.2.mem_iff.mp (by rw [e2]; simp))
    obtain ⟨A, B, s⟩ := seen_of (P := []) (S := r) (x := v) (y := y) hc' e2 hy
    exact ⟨A, B, y, v, _, by rw [e]; exact s, hm⟩
/-- .. whose next one up the ring has the least -/
theorem see_low (h2 : 2 ≤ (lv 0 w).length) : ∃ A B y x M, Seen w A B y x M ∧ ∀ u ∈ lv 0 w, y ≤ u := by
  obtain ⟨v, hv, hm⟩ := small (lv 0 w) (by intro e; rw [e] at h2; simp at h2)
  obtain ⟨X, S, e, q⟩ := lv_split w 0 v hv
  have e0 : w = (X ++ [false]) ++ S := by rw [e]; simp
  have hc' : en 0 ((X ++ [false]) ++ S) = 0 := by rw [← e0]; exact hc
  have T := turned (X := X ++ [false]) (Y := S) hc'
  have eX : en (en 0 (X ++ [false])) S = 0 := by rw [← en_app, hc']
  have e2 : lv (en 0 (X ++ [false])) (S ++ (X ++ [false])) = (lv (en 0 (X ++ [false])) S ++ lv 0 X) ++ [v] := by
    rw [lv_app, eX, lv_app, q, List.append_assoc]
    rfl
  rcases List.eq_nil_or_concat (lv (en 0 (X ++ [false])) S ++ lv 0 X) with e3 | ⟨L, x, e3⟩
  · have := T.2.length_eq
    rw [e2, e3, ← e0] at this
    simp at this
    omega
  · rw [List.concat_eq_append] at e3
    rw [e3] at e2
    have hx : v ≤ x := hm x (by rw [e0]; exact T.2.mem_iff.mp (by rw [e2]; simp))
    obtain ⟨A, B, s⟩ := seen_of (P := L) (S := []) (x := x) (y := v) hc' (by rw [e2]; simp) hx
    exact ⟨A, B, v, x, _, by rw [e0]; exact s, hm⟩
/-- .. from above b to below a -/
theorem see_jump {a b : Int} (hab : a ≤ b + 1) (h1 : ∃ e ∈ lv 0 w, e < a) (h2 : ∃ e ∈ lv 0 w, b < e) (hn : ∀ x, a ≤ x → x ≤ b → (lv 0 w).count x ≤ 1) : ∃ A B y x M, Seen w A B y x M ∧ y < a ∧ b < x := by
  obtain ⟨v, hv, hb⟩ := h2
  obtain ⟨X, S, e, q⟩ := lv_split w 0 v hv
  have hc' : en 0 (X ++ false :: S) = 0 := by rw [← e]; exact hc
  have T := turned (X := X) (Y := false :: S) hc'
  have e2 : lv (en 0 X) (false :: S ++ X) = v :: lv (v + 1) (S ++ X) := by
    show en 0 X :: lv (en 0 X + 1) (S ++ X) = _
    rw [q]
  have T2 := T.2
  rw [e2, ← e] at T2
  have st : stp (v :: lv (v + 1) (S ++ X)) := by
    rw [← e2]
    exact stp_word _ _
  have last : ∀ x m, v :: lv (v + 1) (S ++ X) = m ++ [x] → b ≤ x := fun x m em => by
    have z := (stp_lv (false :: S ++ X) (en 0 X) (en 0 X) (by rw [T.1]; exact Int.le_refl _)).1
    rw [e2, em, q, List.append_assoc] at z
    have z2 := stp_back m _ z
    have z3 : v ≤ x + 1 := z2.1
    omega
  have ex : ∃ e ∈ lv (v + 1) (S ++ X), e < a := by
    obtain ⟨u, hu, ua⟩ := h1
    rcases List.mem_cons.mp (T2.mem_iff.mpr hu) with e3 | e3
    · omega
    · exact ⟨u, e3, ua⟩
  obtain ⟨P, x, y, R, e3, e4, e5⟩ := jump (a := a) (b := b) _ v st hb last ex fun x k1 k2 => by
    rw [T2.count_eq]
    exact hn x k1 k2
  obtain ⟨A, B, s⟩ := seen_of (P := P) (S := R) (x := x) (y := y) hc' (by rw [e2, e3]) (by omega)
  exact ⟨A, B, y, x, _, by rw [e]; exact s, e5, e4⟩
end
end K43
namespace K43
/-! ### rising lists -/
def leI (a b : Int) : Bool := decide (a ≤ b)
def srt (l : List Int) : List Int := l.mergeSort leI
theorem srt_perm (l : List Int) : (srt l).Perm l := List.mergeSort_perm l leI
theorem srt_up (l : List Int) : (srt l).Pairwise (· ≤ ·) := by
  have h := List.pairwise_mergeSort (le := leI) (fun a b c h1 h2 => by simp only [leI, decide_eq_true_eq] at *; omega) (fun a b => by simp only [leI, Bool.or_eq_true, decide_eq_true_eq]; omega) l
  exact h.imp fun h => by simpa [leI] using h
theorem srt_len (l : List Int) : (srt l).length = l.length := (srt_perm l).length_eq
theorem up_uniq {a b : List Int} (ha : a.Pairwise (· ≤ ·)) (hb : b.Pairwise (· ≤ ·)) (p : a.Perm b) : a = b := p.eq_of_pairwise (fun _ _ _ _ h1 h2 => Int.le_antisymm h1 h2) ha hb
theorem srt_of_perm {a b : List Int} (p : a.Perm b) : srt a = srt b := up_uniq (srt_up a) (srt_up b) ((srt_perm a).trans (p.trans (srt_perm b).symm))
theorem srt_is {a b : List Int} (hb : b.Pairwise (· ≤ ·)) (p : b.Perm a) : b = srt a := up_uniq hb (srt_up a) (p.trans (srt_perm a).symm)
theorem lo_srt (x : Int) (l : List Int) : lo x (srt l) = lo x l := lo_perm (srt_perm l)
/-- the i-th of the rising list -/
def nth (l : List Int) (i : Nat) : Int := (srt l).getD i 0
theorem nth_ge {l : List Int} {i : Nat} {x : Int} (hi : i < l.length) : x ≤ nth l i ↔ lo x l ≤ i := by
  unfold nth
  rw [at_lo (srt_up l) (by rw [srt_len]; exact hi), lo_srt]
theorem nth_perm {a b : List Int} (p : a.Perm b) (i : Nat) : nth a i = nth b i := by
  unfold nth
  rw [srt_of_perm p]
theorem nth_gap {w : List Bool} {h : Int} (hc : en h w = h) {i g : Nat} (hi : i + g < (lv h w).length) : nth (lv h w) (i + g) ≤ nth (lv h w) i + (g : Int) :=
  gap_far hc (srt_perm _) (srt_up _) i g (by rw [srt_len]; exact hi)
/-- without one entry -/
theorem lo_erase {x v : Int} {l : List Int} (h : v ∈ l) : lo x (l.erase v) + (if v < x then 1 else 0) = lo x l := by
  have p := lo_perm (x := x) (List.perm_cons_erase h)
  rw [lo_cons] at p
  omega
theorem up_erase {l : List Int} (h : l.Pairwise (· ≤ ·)) (v : Int) : (l.erase v).Pairwise (· ≤ ·) := h.sublist List.erase_sublist
theorem erase_ge {l : List Int} {v x : Int} {i : Nat} (h : v ∈ l) (hi : i + 1 < l.length) : x ≤ ((srt l).erase v).getD i 0 ↔ lo x l ≤ i + (if v < x then 1 else 0) := by
  have hm : v ∈ srt l := (srt_perm l).mem_iff.mpr h
  have hl : ((srt l).erase v).length = l.length - 1 := by rw [List.length_erase_of_mem hm, srt_len]
  rw [at_lo (up_erase (srt_up l) v) (by omega)]
  have q := lo_erase (x := x) hm
  rw [lo_srt] at q
  omega
/-! ### mine lays -/
section
variable {w A B : List Bool} {y x : Int} {M : List Int} (hc : en 0 w = 0) (s : Seen w A B y x M)
include hc s
theorem Seen.perm : (y :: M).Perm (lv 0 w) := by
  rw [← s.ring, s.at_, lv_app, lv_app]
  have e : en (en 0 A - 1) B = 0 := by
    have := hc
    rw [s.at_, en_app] at this
    exact this
  rw [e]
  exact List.perm_append_comm
theorem Seen.close : en (en 0 A - 1) (B ++ A) = en 0 A := by
  have e : en (en 0 A - 1) B = 0 := by
    have := hc
    rw [s.at_, en_app] at this
    exact this
  rw [en_app, e]
/-- the rows behind the answers lie between the first and the last -/
theorem Seen.rows {A' B' : List Bool} (h : B ++ A = A' ++ false :: B') (z : Int) : lo z (lv (en 0 A) (A' ++ B')) ≤ lo z M ∧ (∀ P, y :: M = P ++ [x] → lo z P ≤ lo (z + 1) (lv (en 0 A) (A' ++ B'))) := by
  have r := s.ring
  rw [h, lv_app] at r
  have eA : en (en 0 A) A' = en (en 0 A - 1) A' + 1 := by
    have := en_shift A' (en 0 A - 1) 1
    have e : en 0 A - 1 + 1 = en 0 A := by omega
    rw [e] at this
    exact this
  have eL : lv (en 0 A) A' = (lv (en 0 A - 1) A').map (· + 1) := by
    have := lv_shift A' (en 0 A - 1) 1
    have e : en 0 A - 1 + 1 = en 0 A := by omega
    rw [e] at this
    exact this
  rw [lv_app, eA, eL]
  have st := (stp_lv A' (en 0 A - 1) (en (en 0 A - 1) A') (Int.le_refl _)).1
  have st2 := stp_word (false :: B') (en (en 0 A - 1) A')
  have r' : lv (en 0 A - 1) A' ++ en (en 0 A - 1) A' :: lv (en (en 0 A - 1) A' + 1) B' = y :: M := r
  have st2' : stp (en (en 0 A - 1) A' :: lv (en (en 0 A - 1) A' + 1) B') := st2
  revert r' st st2'
  generalize lv (en 0 A - 1) A' = L
  generalize en (en 0 A - 1) A' = q
  generalize lv (q + 1) B' = E
  intro st r' st2'
  refine ⟨?_, fun P hP => ?_⟩
  · cases L with
    | nil =>
      have e1 : q :: E = y :: M := r'
      injection e1 with _ e2
      rw [← e2]
      exact Nat.le_refl _
    | cons v D =>
      have e1 : v :: (D ++ q :: E) = y :: M := r'
      injection e1 with _ e2
      have k := stp_lo z q D v st
      rw [← e2, lo_app, lo_app]
      rw [lo_app] at k
      rw [lo_cons (l := E)]
      rw [lo_cons, lo_nil] at k
      omega
  · rcases List.eq_nil_or_concat E with e1 | ⟨F, v, e1⟩
    · subst e1
      have e2 : L ++ [q] = P ++ [x] := r'.trans hP
      have e3 := (List.append_inj' e2 rfl).1
      rw [List.append_nil, ← e3, lo_map]
      exact Nat.le_refl _
    · rw [List.concat_eq_append] at e1
      subst e1
      have e2 : (L ++ q :: F) ++ [v] = P ++ [x] := by
        rw [← hP, ← r']
        simp
      have e3 := (List.append_inj' e2 rfl).1
      have k := stp_lo (z + 1) v F q st2'
      rw [lo_map] at k
      rw [← e3, lo_app, lo_app, lo_map]
      omega
theorem Seen.len_row {A' B' : List Bool} (h : B ++ A = A' ++ false :: B') (g : Int) : (lv g (A' ++ B')).length + 1 = (lv 0 w).length := by
  have l0 : ∀ (u : List Bool) (a b : Int), (lv a u).length = (lv b u).length := fun u => by
    induction u with
    | nil => intros; rfl
    | cons c u ih => cases c <;> (intros; simp [lv, ih _ 0])
  have p := (s.perm hc).length_eq
  rw [← s.ring, h] at p
  have e1 : (lv (en 0 A - 1) (A' ++ false :: B')).length = (lv g A').length + ((lv g B').length + 1) := by
    rw [lv_app, List.length_append]
    show (lv (en 0 A - 1) A').length + (_ :: lv _ B').length = _
    rw [List.length_cons, l0 A' _ g, l0 B' _ g]
  rw [lv_app, List.length_append, l0 B' _ g]
  omega
theorem Seen.mem1 : y ∈ lv 0 w := (s.perm hc).mem_iff.mp List.mem_cons_self
theorem Seen.mem2 : x ∈ lv 0 w := by
  obtain ⟨P, e⟩ := s.last
  refine (s.perm hc).mem_iff.mp ?_
  rw [e]
  simp
/-- a card with both properties keeps the wanted result, whatever the answer is -/
theorem Seen.sound {f t : Nat} {k : Int} (hn : (lv 0 w).length = f + t + 1) (hf : 1 ≤ f)
    (ca : k ≤ ((srt (lv 0 w)).erase y).getD (f - 1) 0 + t + 1) (cb : ((srt (lv 0 w)).erase x).getD t 0 + f + 1 ≤ k)
    {A' B' : List Bool} (h : B ++ A = A' ++ false :: B') : f + nth (lv (en 0 A) (A' ++ B')) t ≤ k ∧ k ≤ t + 1 + nth (lv (en 0 A) (A' ++ B')) (f - 1) := by
  have hl := s.len_row hc h (en 0 A)
  have m1 := s.mem1 hc
  have m2 := s.mem2 hc
  have p := s.perm hc
  obtain ⟨P, eP⟩ := s.last
  constructor
  · have c1 : ¬ (k - f) ≤ ((srt (lv 0 w)).erase x).getD t 0 := by omega
    rw [erase_ge m2 (by omega)] at c1
    have q := (s.rows hc h (k - f)).2 P eP
    have e1 : lo (k - f) (lv 0 w) = lo (k - f) P + (if x < k - f then 1 else 0) := by
      rw [← lo_perm p, eP, lo_app, lo_cons, lo_nil]
      omega
    have c2 : ¬ (k - f + 1) ≤ nth (lv (en 0 A) (A' ++ B')) t := by
      rw [nth_ge (by omega)]
      omega
    omega
  · have c1 : k - t - 1 ≤ ((srt (lv 0 w)).erase y).getD (f - 1) 0 := by omega
    rw [erase_ge m1 (by omega)] at c1
    have q := (s.rows hc h (k - t - 1)).1
    have e1 : lo (k - t - 1) (lv 0 w) = lo (k - t - 1) M + (if y < k - t - 1 then 1 else 0) := by
      rw [← lo_perm p, lo_cons]
    have c2 : (k - t - 1) ≤ nth (lv (en 0 A) (A' ++ B')) (f - 1) := by
      rw [nth_ge (by omega)]
      omega
    omega
end
/-- such a card there is -/
theorem lay_there {w : List Bool} (hc : en 0 w = 0) {f t : Nat} {k : Int} (hn : (lv 0 w).length = f + t + 1) (hf : 1 ≤ f) (hft : f ≤ t)
    (h1 : f + 1 + nth (lv 0 w) t ≤ k) (h2 : k ≤ t + 1 + nth (lv 0 w) f) :
    ∃ A B y x M, Seen w A B y x M ∧ k ≤ ((srt (lv 0 w)).erase y).getD (f - 1) 0 + t + 1 ∧ ((srt (lv 0 w)).erase x).getD t 0 + f + 1 ≤ k := by
  have a1 : lo (k - t - 1) (lv 0 w) ≤ f := (nth_ge (by omega)).mp (by omega)
  have a2 : ¬ lo (k - f) (lv 0 w) ≤ t := fun z => by
    have := (nth_ge (l := lv 0 w) (i := t) (x := k - f) (by omega)).mpr z
    omega
  -- what the two properties are, by counts
  have key : ∀ {A B y x M}, Seen w A B y x M → (lo (k - t - 1) (lv 0 w) ≤ f - 1 ∨ y < k - t - 1) → (t + 2 ≤ lo (k - f) (lv 0 w) ∨ k - f ≤ x) →
      k ≤ ((srt (lv 0 w)).erase y).getD (f - 1) 0 + t + 1 ∧ ((srt (lv 0 w)).erase x).getD t 0 + f + 1 ≤ k := fun {A B y x M} s q1 q2 => by
    have m1 := s.mem1 hc
    have m2 := s.mem2 hc
    constructor
    · have : k - t - 1 ≤ ((srt (lv 0 w)).erase y).getD (f - 1) 0 := by
        rw [erase_ge m1 (by omega)]
        split <;> omega
      omega
    · have : ¬ (k - f) ≤ ((srt (lv 0 w)).erase x).getD t 0 := by
        rw [erase_ge m2 (by omega)]
        split <;> omega
      omega
  by_cases c1 : lo (k - t - 1) (lv 0 w) ≤ f - 1
  · by_cases c2 : t + 2 ≤ lo (k - f) (lv 0 w)
    · obtain ⟨A, B, y, x, M, s, _⟩ := see_top hc (by omega)
      exact ⟨A, B, y, x, M, s, key s (.inl c1) (.inl c2)⟩
    · obtain ⟨A, B, y, x, M, s, hm⟩ := see_top hc (by omega)
      obtain ⟨v, hv, q⟩ := exists_hi (x := k - f) (l := lv 0 w) (by omega)
      have := hm v hv
      exact ⟨A, B, y, x, M, s, key s (.inl c1) (.inr (by omega))⟩
  · obtain ⟨u, hu, qu⟩ := exists_lo (x := k - t - 1) (l := lv 0 w) (by omega)
    by_cases c2 : t + 2 ≤ lo (k - f) (lv 0 w)
    · obtain ⟨A, B, y, x, M, s, hm⟩ := see_low hc (by omega)
      have := hm u hu
      exact ⟨A, B, y, x, M, s, key s (.inr (by omega)) (.inl c2)⟩
    · obtain ⟨v, hv, q⟩ := exists_hi (x := k - f) (l := lv 0 w) (by omega)
      -- each level from k - t - 1 below k - f occurs once
      have once : ∀ z, k - t - 1 ≤ z → z ≤ k - f - 1 → (lv 0 w).count z ≤ 1 := fun z z1 z2 => by
        have up : ∀ g : Nat, k - t - 1 + g ≤ k - f → f + g ≤ lo (k - t - 1 + g) (lv 0 w) := fun g => by
          induction g with
          | zero => intro _; simp; omega
          | succ g ih =>
            intro hg
            have i1 := ih (by omega)
            have st := lo_step (x := k - t - 1 + g) (l := lv 0 w)
            have e : k - t - 1 + g + 1 = k - t - 1 + ((g + 1 : Nat) : Int) := by omega
            rw [e] at st
            have pos : 0 < (lv 0 w).count (k - t - 1 + g) := List.count_pos_iff.mpr (no_gap hc hu (by omega) hv (by omega))
            omega
        have dn : ∀ g : Nat, k - t - 1 ≤ k - f - g → lo (k - f - g) (lv 0 w) + g ≤ t + 1 := fun g => by
          induction g with
          | zero => intro _; simp; omega
          | succ g ih =>
            intro hg
            have i1 := ih (by omega)
            have st := lo_step (x := k - f - ((g + 1 : Nat) : Int)) (l := lv 0 w)
            have e : k - f - ((g + 1 : Nat) : Int) + 1 = k - f - g := by omega
            rw [e] at st
            have pos : 0 < (lv 0 w).count (k - f - ((g + 1 : Nat) : Int)) := List.count_pos_iff.mpr (no_gap hc hu (by omega) hv (by omega))
            omega
        have b1 := up (z - (k - t - 1)).toNat (by omega)
        have b2 := dn (k - f - 1 - z).toNat (by omega)
        have st := lo_step (x := z) (l := lv 0 w)
        have e1 : k - t - 1 + ((z - (k - t - 1)).toNat : Int) = z := by omega
        have e2 : k - f - ((k - f - 1 - z).toNat : Int) = z + 1 := by omega
        rw [e1] at b1
        rw [e2] at b2
        omega
      obtain ⟨A, B, y, x, M, s, q1, q2⟩ := see_jump hc (a := k - t - 1) (b := k - f - 1) (by omega) ⟨u, hu, qu⟩ ⟨v, hv, by omega⟩ once
      exact ⟨A, B, y, x, M, s, key s (.inr q1) (.inr (by omega))⟩
/-! ### mine answers -/
theorem falses : ∀ {A : List Bool}, (∀ b ∈ A, b = false) → false :: A = A ++ [false]
  | [], _ => rfl
  | b :: A, h => by
    have e : b = false := h b List.mem_cons_self
    subst e
    show false :: (false :: A) = false :: (A ++ [false])
    rw [falses fun b hb => h b (List.mem_cons_of_mem _ hb)]
theorem ring_up {q : Int} {U A B : List Bool} (hU : en (q + 1) U = q) (h : U = A ++ true :: B) : en (q + 1) (A ++ B) = q + 1 := by
  rw [h, en_app] at hU
  have h2 : en (en (q + 1) A - 1) B = q := hU
  have h3 := en_shift B (en (q + 1) A - 1) 1
  have e : en (q + 1) A - 1 + 1 = en (q + 1) A := by omega
  rw [e, h2] at h3
  rw [en_app, h3]
theorem ring_len {g q : Int} {U A B : List Bool} (h : U = A ++ true :: B) : (lv g (A ++ B)).length = (lv q U).length := by
  have l0 : ∀ (u : List Bool) (a b : Int), (lv a u).length = (lv b u).length := fun u => by
    induction u with
    | nil => intros; rfl
    | cons c u ih => cases c <;> (intros; simp [lv, ih _ 0])
  rw [h, lv_app, lv_app, List.length_append, List.length_append]
  show _ = _ + (lv (en q A - 1) B).length
  rw [l0 A g q, l0 B _ (en q A - 1)]
/-- two answers' rows part by one at most -/
theorem near {q : Int} {U A B A2 B2 F : List Bool} (e1 : B = F ++ true :: B2) (e2 : A2 = A ++ true :: F) (z : Int) : lo z (lv (q + 1) (A2 ++ B2)) ≤ lo (z + 1) (lv (q + 1) (A ++ B)) := by
  subst e1 e2
  have x1 : lv (q + 1) ((A ++ true :: F) ++ B2) = lv (q + 1) A ++ (lv (en (q + 1) A - 1) F ++ lv (en (en (q + 1) A - 1) F) B2) := by
    rw [List.append_assoc, lv_app]
    show _ ++ lv (en (q + 1) A - 1) (F ++ B2) = _
    rw [lv_app]
  have x2 : lv (q + 1) (A ++ (F ++ true :: B2)) = lv (q + 1) A ++ (lv (en (q + 1) A) F ++ lv (en (en (q + 1) A) F - 1) B2) := by
    rw [lv_app, lv_app]
    rfl
  have s1 := lv_shift F (en (q + 1) A - 1) 1
  have s2 := en_shift F (en (q + 1) A - 1) 1
  have e : en (q + 1) A - 1 + 1 = en (q + 1) A := by omega
  rw [e] at s1 s2
  have e3 : en (en (q + 1) A - 1) F + 1 - 1 = en (en (q + 1) A - 1) F := by omega
  rw [x1, x2, s1, s2, e3, lo_app, lo_app, lo_app, lo_app, lo_map]
  have m1 := lo_mono (x := z) (y := z + 1) (by omega) (lv (q + 1) A)
  have m2 := lo_mono (x := z) (y := z + 1) (by omega) (lv (en (en (q + 1) A - 1) F) B2)
  omega
theorem first_true : ∀ {U : List Bool}, true ∈ U → ∃ A B, U = A ++ true :: B ∧ ∀ b ∈ A, b = false
  | [], h => by cases h
  | true :: U, _ => ⟨[], U, rfl, fun _ hb => by cases hb⟩
  | false :: U, h => by
    have h' : true ∈ U := by simpa using h
    obtain ⟨A, B, e, q⟩ := first_true h'
    exact ⟨false :: A, B, by rw [e]; rfl, fun b hb => by
      rcases List.mem_cons.mp hb with e | hb
      · exact e
      · exact q b hb⟩
theorem last_true {U : List Bool} (h : true ∈ U) : ∃ A B, U = A ++ true :: B ∧ ∀ b ∈ B, b = false := by
  obtain ⟨A, B, e, q⟩ := first_true (U := U.reverse) (by simpa using h)
  refine ⟨B.reverse, A.reverse, ?_, fun b hb => q b (by simpa using hb)⟩
  have := congrArg List.reverse e
  simpa using this
/-- an answer behind which both bounds hold there is: U the ring from a card of theirs of level q -/
theorem answer_there {U : List Bool} {q : Int} (hU : en (q + 1) U = q) {c : List Int} (hp : c.Perm (q :: lv (q + 1) U)) {f t : Nat} {k : Int} (hn : c.length = f + t + 1) (ht : f + 1 ≤ t)
    (h1 : f + 1 + nth c t ≤ k) (h2 : k ≤ t + 1 + nth c f) :
    ∃ A B, U = A ++ true :: B ∧ f + 1 + nth (lv (q + 1) (A ++ B)) (t - 1) ≤ k ∧ k ≤ t + nth (lv (q + 1) (A ++ B)) f := by
  have tr : true ∈ U := by
    refine Decidable.byContradiction fun z => ?_
    have all : ∀ (u : List Bool) (g : Int), true ∉ u → g ≤ en g u := fun u => by
      induction u with
      | nil => intros; exact Int.le_refl _
      | cons b u ih =>
        intro g hb
        cases b with
        | true => exact absurd List.mem_cons_self hb
        | false =>
          have := ih (g + 1) fun x => hb (List.mem_cons_of_mem _ x)
          show g ≤ en (g + 1) u
          omega
    have := all U (q + 1) z
    omega
  have len : ∀ {A B}, U = A ++ true :: B → (lv (q + 1) (A ++ B)).length = f + t := fun {A B} e => by
    rw [ring_len (q := q + 1) e]
    have := hp.length_eq
    rw [List.length_cons] at this
    omega
  have order : ∀ {A B}, U = A ++ true :: B → nth (lv (q + 1) (A ++ B)) (t - 1) ≤ nth (lv (q + 1) (A ++ B)) f + ((t - 1 - f : Nat) : Int) := fun {A B} e => by
    have g := nth_gap (ring_up hU e) (i := f) (g := t - 1 - f) (by rw [len e]; omega)
    have e2 : f + (t - 1 - f) = t - 1 := by omega
    rw [e2] at g
    exact g
  obtain ⟨A, B, e, hA⟩ := first_true tr
  obtain ⟨A2, B2, e2, hB2⟩ := last_true tr
  have up1 : k ≤ t + nth (lv (q + 1) (A ++ B)) f := by
    have c1 : lo (k - t - 1) c ≤ f := (nth_ge (by omega)).mp (by omega)
    rw [lo_perm hp] at c1
    have x1 : q :: lv (q + 1) U = lv q A ++ [en q A] ++ lv (en (q + 1) A - 1) B := by
      have y1 : q :: lv (q + 1) U = lv q (false :: A) ++ lv (en q (false :: A)) (true :: B) := by
        rw [← lv_app, e]
        rfl
      rw [y1, falses hA, lv_app, en_app]
      show lv q A ++ [en q A] ++ lv (en q A + 1 - 1) B = _
      rw [en_shift A q 1]
    have s1 := lv_shift A q 1
    have s2 := lv_shift B (en (q + 1) A - 1) 1
    have e3 : en (q + 1) A - 1 + 1 = en (q + 1) A := by omega
    rw [e3] at s2
    have c2 : k - t ≤ nth (lv (q + 1) (A ++ B)) f := by
      rw [nth_ge (by rw [len e]; omega), lv_app, s1, s2, lo_app]
      have e4 : k - t = k - t - 1 + 1 := by omega
      rw [e4, lo_map, lo_map]
      rw [x1, lo_app, lo_app] at c1
      omega
    omega
  have dn2 : f + 1 + nth (lv (q + 1) (A2 ++ B2)) (t - 1) ≤ k := by
    have c1 : ¬ lo (k - f) c ≤ t := fun z => by
      have := (nth_ge (l := c) (i := t) (x := k - f) (by omega)).mpr z
      omega
    rw [lo_perm hp, lo_cons] at c1
    have hU2 := hU
    rw [e2, en_app] at hU2
    have hU3 : en (en (q + 1) A2 - 1) B2 = q := hU2
    have x1 : lv (q + 1) U = lv (q + 1) A2 ++ lv (en (q + 1) A2 - 1) B2 := by
      rw [e2, lv_app]
      rfl
    have x2 : (en (q + 1) A2 - 1) :: lv (en (q + 1) A2) B2 = lv (en (q + 1) A2 - 1) B2 ++ [q] := by
      have y := congrArg (lv (en (q + 1) A2 - 1)) (falses hB2)
      rw [lv_app, hU3] at y
      have e3 : en (q + 1) A2 - 1 + 1 = en (q + 1) A2 := by omega
      have y2 : (en (q + 1) A2 - 1) :: lv (en (q + 1) A2 - 1 + 1) B2 = lv (en (q + 1) A2 - 1) B2 ++ [q] := y
      rw [e3] at y2
      exact y2
    have x3 := congrArg (lo (k - f)) x2
    rw [lo_cons, lo_app, lo_cons, lo_nil] at x3
    rw [x1, lo_app] at c1
    have c2 : ¬ (k - f) ≤ nth (lv (q + 1) (A2 ++ B2)) (t - 1) := by
      rw [nth_ge (by rw [len e2]; omega), lv_app, lo_app]
      split at x3 <;> split at x3 <;> split at c1 <;> omega
    omega
  by_cases good : f + 1 + nth (lv (q + 1) (A ++ B)) (t - 1) ≤ k
  · exact ⟨A, B, e, good, up1⟩
  · refine ⟨A2, B2, e2, dn2, ?_⟩
    -- the first lies not behind the last
    rcases List.append_eq_append_iff.mp (e.symm.trans e2) with ⟨F, y1, y2⟩ | ⟨F, y1, y2⟩
    · cases F with
      | nil =>
        have y3 : A2 = A := by rw [y1]; simp
        have y4 : true :: B = true :: B2 := y2
        injection y4 with _ y5
        rw [y3, ← y5]
        exact up1
      | cons b F =>
        have y4 : true :: B = b :: (F ++ true :: B2) := y2
        injection y4 with y5 y6
        subst y5
        have n1 : lo (k - f - 1) (lv (q + 1) (A2 ++ B2)) ≤ lo (k - f - 1 + 1) (lv (q + 1) (A ++ B)) := near (q := q) (U := U) y6 y1 _
        have e4 : k - f - 1 + 1 = k - f := by omega
        rw [e4] at n1
        have c3 : lo (k - f) (lv (q + 1) (A ++ B)) ≤ t - 1 := (nth_ge (by rw [len e]; omega)).mp (by omega)
        have c4 : k - f - 1 ≤ nth (lv (q + 1) (A2 ++ B2)) (t - 1) := (nth_ge (by rw [len e2]; omega)).mpr (by omega)
        have o := order e2
        omega
    · cases F with
      | nil =>
        have y3 : A = A2 := by rw [y1]; simp
        have y4 : true :: B2 = true :: B := y2
        injection y4 with _ y5
        rw [← y3, y5]
        exact up1
      | cons b F =>
        have y4 : true :: B2 = b :: (F ++ true :: B) := y2
        injection y4 with y5 _
        subst y5
        have := hA true (by rw [y1]; simp)
        cases this
end K43
namespace K43
/-! ### the deck -/
/-- number, mine?, index -/
abbrev Cd := Int × Bool × Nat
def leC (a b : Cd) : Bool := decide (a.1 < b.1 ∨ (a.1 = b.1 ∧ ((a.2.1 = false ∧ b.2.1 = true) ∨ (a.2.1 = b.2.1 ∧ a.2.2 ≤ b.2.2))))
theorem leC_iff {a b : Cd} : leC a b = true ↔ (a.1 < b.1 ∨ (a.1 = b.1 ∧ ((a.2.1 = false ∧ b.2.1 = true) ∨ (a.2.1 = b.2.1 ∧ a.2.2 ≤ b.2.2)))) := decide_eq_true_iff
theorem leC_trans {a b c : Cd} (h1 : leC a b = true) (h2 : leC b c = true) : leC a c = true := by
  rw [leC_iff] at *
  obtain ⟨a1, a2, a3⟩ := a
  obtain ⟨b1, b2, b3⟩ := b
  obtain ⟨c1, c2, c3⟩ := c
  cases a2 <;> cases b2 <;> cases c2 <;> simp at * <;> omega
theorem leC_total (a b : Cd) : (leC a b || leC b a) = true := by
  rw [Bool.or_eq_true, leC_iff, leC_iff]
  obtain ⟨a1, a2, a3⟩ := a
  obtain ⟨b1, b2, b3⟩ := b
  cases a2 <;> cases b2 <;> simp <;> omega
theorem leC_anti {a b : Cd} (h1 : leC a b = true) (h2 : leC b a = true) : a = b := by
  rw [leC_iff] at *
  obtain ⟨a1, a2, a3⟩ := a
  obtain ⟨b1, b2, b3⟩ := b
  cases a2 <;> cases b2 <;> simp at * <;> omega
/-- one side's cards, from a first index on -/
def side (o : Bool) (l : List Int) (k : Nat) : List Cd := (l.zipIdx k).map fun p => (p.1, o, p.2)
theorem side_nil (o : Bool) (k : Nat) : side o [] k = [] := rfl
theorem side_cons (o : Bool) (x : Int) (l : List Int) (k : Nat) : side o (x :: l) k = (x, o, k) :: side o l (k + 1) := rfl
theorem side_mem {o : Bool} {l : List Int} {k : Nat} {c : Cd} : c ∈ side o l k ↔ c.2.1 = o ∧ k ≤ c.2.2 ∧ l[c.2.2 - k]? = some c.1 := by
  unfold side
  rw [List.mem_map]
  constructor
  · rintro ⟨p, hp, rfl⟩
    have := List.mem_zipIdx hp
    refine ⟨rfl, this.1, ?_⟩
    obtain ⟨h1, h2, h3⟩ := this
    show l[p.2 - k]? = some p.1
    rw [List.getElem?_eq_some_iff]
    exact ⟨by omega, h3.symm⟩
  · rintro ⟨h1, h2, h3⟩
    obtain ⟨c1, c2, c3⟩ := c
    dsimp only at *
    subst h1
    obtain ⟨hl, h4⟩ := List.getElem?_eq_some_iff.mp h3
    refine ⟨(c1, c3), ?_, rfl⟩
    rw [List.mem_zipIdx_iff_le_and_getElem?_sub]
    exact ⟨h2, h3⟩
def cards (mine theirs : List Int) : List Cd := side false theirs 0 ++ side true mine 0
def ord (mine theirs : List Int) : List Cd := (cards mine theirs).mergeSort leC
theorem ord_perm (mine theirs : List Int) : (ord mine theirs).Perm (cards mine theirs) := List.mergeSort_perm _ _
theorem ord_up (mine theirs : List Int) : (ord mine theirs).Pairwise fun a b => leC a b = true :=
  List.pairwise_mergeSort (le := leC) (fun a b c h1 h2 => leC_trans h1 h2) leC_total _
theorem ord_is {mine theirs : List Int} {l : List Cd} (h : l.Pairwise fun a b => leC a b = true) (p : l.Perm (cards mine theirs)) : l = ord mine theirs :=
  (p.trans (ord_perm mine theirs).symm).eq_of_pairwise (fun _ _ _ _ h1 h2 => leC_anti h1 h2) h (ord_up mine theirs)
theorem ord_mem {mine theirs : List Int} {c : Cd} : c ∈ ord mine theirs ↔ (c.2.1 = false ∧ theirs[c.2.2]? = some c.1) ∨ (c.2.1 = true ∧ mine[c.2.2]? = some c.1) := by
  rw [(ord_perm mine theirs).mem_iff]
  unfold cards
  rw [List.mem_append, side_mem, side_mem]
  simp
/-- a card's name: its side and its index -/
abbrev Nm := Bool × Nat
def nmOf (c : Cd) : Nm := (c.2.1, c.2.2)
def dk (mine theirs : List Int) : List Nm := (ord mine theirs).map nmOf
def own (d : List Nm) : List Bool := d.map (·.1)
theorem own_app (a b : List Nm) : own (a ++ b) = own a ++ own b := List.map_append
theorem side_nm (o : Bool) : ∀ (l : List Int) (k : Nat), (side o l k).map nmOf = (List.range' k l.length).map fun i => (o, i)
  | [], k => rfl
  | x :: l, k => by
    rw [side_cons, List.map_cons, side_nm o l (k + 1), List.length_cons, List.range'_succ]
    rfl
theorem dk_perm (mine theirs : List Int) : (dk mine theirs).Perm (((List.range theirs.length).map fun i => (false, i)) ++ (List.range mine.length).map fun i => (true, i)) := by
  have p := (ord_perm mine theirs).map nmOf
  unfold cards at p
  rw [List.map_append, side_nm, side_nm] at p
  rw [List.range_eq_range', List.range_eq_range']
  exact p
theorem dk_mem {mine theirs : List Int} {o : Bool} {i : Nat} : (o, i) ∈ dk mine theirs ↔ (o = false ∧ i < theirs.length) ∨ (o = true ∧ i < mine.length) := by
  rw [(dk_perm mine theirs).mem_iff, List.mem_append, List.mem_map, List.mem_map]
  constructor
  · rintro (⟨a, ha, e⟩ | ⟨a, ha, e⟩)
    · injection e with e1 e2
      subst e1 e2
      exact .inl ⟨rfl, by simpa using ha⟩
    · injection e with e1 e2
      subst e1 e2
      exact .inr ⟨rfl, by simpa using ha⟩
  · rintro (⟨e, h⟩ | ⟨e, h⟩)
    · subst e
      exact .inl ⟨i, by simpa using h, rfl⟩
    · subst e
      exact .inr ⟨i, by simpa using h, rfl⟩
theorem dk_nodup (mine theirs : List Int) : (dk mine theirs).Nodup := by
  rw [(dk_perm mine theirs).nodup_iff, List.nodup_append]
  refine ⟨?_, ?_, ?_⟩
  · unfold List.Nodup
    rw [List.pairwise_map]
    exact List.nodup_range.imp fun h e => h (by injection e)
  · unfold List.Nodup
    rw [List.pairwise_map]
    exact List.nodup_range.imp fun h e => h (by injection e)
  · intro a ha b hb e
    obtain ⟨i, _, e1⟩ := List.mem_map.mp ha
    obtain ⟨j, _, e2⟩ := List.mem_map.mp hb
    rw [← e1, ← e2] at e
    injection e with e3 _
    cases e3
theorem en_count : ∀ (u : List Bool) (h : Int), en h u = h + (u.count false : Int) - (u.count true : Int)
  | [], h => by simp [en]
  | false :: u, h => by
    simp only [en, en_count u]
    simp
    omega
  | true :: u, h => by
    simp only [en, en_count u]
    simp
    omega
theorem own_perm (mine theirs : List Int) : (own (dk mine theirs)).Perm (List.replicate theirs.length false ++ List.replicate mine.length true) := by
  have p := (dk_perm mine theirs).map (·.1)
  rw [List.map_append, List.map_map, List.map_map] at p
  have e : ∀ (o : Bool) (n : Nat), (List.range n).map ((fun c : Nm => c.1) ∘ fun i => (o, i)) = List.replicate n o := fun o n => by
    rw [List.eq_replicate_iff]
    exact ⟨by simp, fun b hb => by
      obtain ⟨i, _, e⟩ := List.mem_map.mp hb
      exact e.symm⟩
  rw [e, e] at p
  exact p
theorem own_closed {mine theirs : List Int} (h : mine.length = theirs.length) : en 0 (own (dk mine theirs)) = 0 := by
  rw [en_count, (own_perm mine theirs).count_eq, (own_perm mine theirs).count_eq]
  simp [List.count_append, List.count_replicate]
  omega
theorem lv_len : ∀ (u : List Bool) (h : Int), (lv h u).length = u.count false
  | [], _ => rfl
  | false :: u, h => by simp [lv, lv_len u]
  | true :: u, h => by simp [lv, lv_len u]
theorem own_len (mine theirs : List Int) : (lv 0 (own (dk mine theirs))).length = theirs.length := by
  rw [lv_len, (own_perm mine theirs).count_eq]
  simp [List.count_append, List.count_replicate]
/-- the row -/
def rowOf (mine theirs : List Int) : List Int := srt (lv 0 (own (dk mine theirs)))
theorem row_len (mine theirs : List Int) : (rowOf mine theirs).length = theirs.length := by
  unfold rowOf
  rw [srt_len, own_len]
theorem row_nth (mine theirs : List Int) (i : Nat) : (rowOf mine theirs).getD i 0 = nth (lv 0 (own (dk mine theirs))) i := rfl
/-! ### the rest behind a pair -/
/-- an index behind the removal of j -/
def ren (j i : Nat) : Nat := if j < i then i - 1 else i
theorem side_shift (o : Bool) : ∀ (l : List Int) (k : Nat), side o l k = (side o l (k + 1)).map fun c => (c.1, c.2.1, c.2.2 - 1)
  | [], _ => rfl
  | x :: l, k => by
    rw [side_cons, side_cons, List.map_cons, side_shift o l (k + 1)]
    rfl
theorem side_erase (o : Bool) : ∀ (l : List Int) (j k : Nat), side o (l.eraseIdx j) k = ((side o l k).filter fun c => c.2.2 != k + j).map fun c => (c.1, c.2.1, ren (k + j) c.2.2)
  | [], j, k => by cases j <;> rfl
  | x :: l, 0, k => by
    show side o l k = _
    rw [side_cons, List.filter_cons, if_neg (by simp)]
    have e : (side o l (k + 1)).filter (fun c => c.2.2 != k + 0) = side o l (k + 1) := by
      rw [List.filter_eq_self]
      intro c hc
      have := (side_mem.mp hc).2.1
      simp
      omega
    rw [e, side_shift]
    refine List.map_congr_left fun c hc => ?_
    have := (side_mem.mp hc).2.1
    unfold ren
    rw [if_pos (by omega)]
  | x :: l, j + 1, k => by
    show side o (x :: l.eraseIdx j) k = _
    rw [side_cons, side_cons, List.filter_cons, if_pos (by simp), List.map_cons, side_erase o l j (k + 1)]
    have e1 : k + 1 + j = k + (j + 1) := by omega
    rw [e1]
    have e2 : ren (k + (j + 1)) k = k := by
      unfold ren
      rw [if_neg (by omega)]
    show _ = (x, o, ren (k + (j + 1)) k) :: _
    rw [e2]
/-- kept, renumbered -/
def kept (j t : Nat) (c : Cd) : Bool := if c.2.1 then c.2.2 != j else c.2.2 != t
def renC (j t : Nat) (c : Cd) : Cd := (c.1, c.2.1, if c.2.1 then ren j c.2.2 else ren t c.2.2)
theorem cards_erase (mine theirs : List Int) (j t : Nat) : cards (mine.eraseIdx j) (theirs.eraseIdx t) = ((cards mine theirs).filter (kept j t)).map (renC j t) := by
  unfold cards
  rw [List.filter_append, List.map_append, side_erase, side_erase]
  congr 1
  · have e : (side false theirs 0).filter (kept j t) = (side false theirs 0).filter fun c => c.2.2 != 0 + t := List.filter_congr fun c hc => by
      have := (side_mem.mp hc).1
      unfold kept
      rw [this]
      simp
    rw [e]
    refine List.map_congr_left fun c hc => ?_
    have := (side_mem.mp (List.mem_filter.mp hc |>.1)).1
    unfold renC
    rw [this]
    simp
  · have e : (side true mine 0).filter (kept j t) = (side true mine 0).filter fun c => c.2.2 != 0 + j := List.filter_congr fun c hc => by
      have := (side_mem.mp hc).1
      unfold kept
      rw [this]
      simp
    rw [e]
    refine List.map_congr_left fun c hc => ?_
    have := (side_mem.mp (List.mem_filter.mp hc |>.1)).1
    unfold renC
    rw [this]
    simp
theorem ren_mono {j a b : Nat} (ha : a ≠ j) (hb : b ≠ j) (h : a ≤ b) : ren j a ≤ ren j b := by
  unfold ren
  split <;> split <;> omega
theorem ord_erase (mine theirs : List Int) (j t : Nat) : ord (mine.eraseIdx j) (theirs.eraseIdx t) = ((ord mine theirs).filter (kept j t)).map (renC j t) := by
  refine (ord_is ?_ ?_).symm
  · rw [List.pairwise_map]
    refine List.Pairwise.imp_of_mem (fun {a b} ha hb h => ?_) ((ord_up mine theirs).filter _)
    have ka := (List.mem_filter.mp ha).2
    have kb := (List.mem_filter.mp hb).2
    rw [leC_iff] at h ⊢
    obtain ⟨a1, a2, a3⟩ := a
    obtain ⟨b1, b2, b3⟩ := b
    unfold kept at ka kb
    unfold renC
    cases a2 <;> cases b2 <;> simp at * <;> first | exact h | (rcases h with h | ⟨h1, h2⟩; exact .inl h; exact .inr ⟨h1, ren_mono (by assumption) (by assumption) h2⟩)
  · rw [cards_erase]
    exact ((ord_perm mine theirs).filter _).map _
theorem own_erase (mine theirs : List Int) (j t : Nat) : own (dk (mine.eraseIdx j) (theirs.eraseIdx t)) = own ((dk mine theirs).filter fun c => c != (true, j) && c != (false, t)) := by
  have q : ∀ l : List Cd, own (((l.filter (kept j t)).map (renC j t)).map nmOf) = own ((l.map nmOf).filter fun c => c != (true, j) && c != (false, t)) := fun l => by
    induction l with
    | nil => rfl
    | cons c l ih =>
      rw [List.map_cons, List.filter_cons, List.filter_cons]
      have e : kept j t c = (nmOf c != (true, j) && nmOf c != (false, t)) := by
        obtain ⟨c1, c2, c3⟩ := c
        unfold kept nmOf
        cases c2
        · show (c3 != t) = (true && ((false, c3) : Nm) != (false, t))
          by_cases z : c3 = t
          · rw [z]; simp
          · have z2 : ((false, c3) : Nm) ≠ (false, t) := fun e => z (by injection e)
            rw [bne_iff_ne.mpr z, bne_iff_ne.mpr z2]; rfl
        · show (c3 != j) = (((true, c3) : Nm) != (true, j) && true)
          by_cases z : c3 = j
          · rw [z]; simp
          · have z2 : ((true, c3) : Nm) ≠ (true, j) := fun e => z (by injection e)
            rw [bne_iff_ne.mpr z, bne_iff_ne.mpr z2]; rfl
      rw [← e]
      by_cases k : kept j t c = true
      · rw [if_pos k, if_pos k, List.map_cons, List.map_cons]
        show _ :: own _ = _ :: own _
        rw [ih]
        rfl
      · rw [if_neg k, if_neg k]
        exact ih
  show own ((ord _ _).map nmOf) = _
  rw [ord_erase]
  exact q _
/-- which stands first: a pair is won if their card stands ahead of mine -/
theorem won_iff {mine theirs : List Int} {j t : Nat} {x y : Int} (hx : mine[j]? = some x) (hy : theirs[t]? = some y) {A B : List Nm} :
    (dk mine theirs = A ++ (true, j) :: B → (false, t) ∈ A → y ≤ x) ∧ (dk mine theirs = A ++ (true, j) :: B → (false, t) ∈ B → x < y) := by
  have number : ∀ {c : Cd}, c ∈ ord mine theirs → (nmOf c = (true, j) → c.1 = x) ∧ (nmOf c = (false, t) → c.1 = y) := fun {c} hc => by
    obtain ⟨c1, c2, c3⟩ := c
    have := ord_mem.mp hc
    constructor
    · intro e
      injection e with e1 e2
      dsimp only at *
      subst e1 e2
      rcases this with ⟨h, _⟩ | ⟨_, h⟩
      · cases h
      · rw [hx] at h
        exact (Option.some.inj h).symm
    · intro e
      injection e with e1 e2
      dsimp only at *
      subst e1 e2
      rcases this with ⟨_, h⟩ | ⟨h, _⟩
      · rw [hy] at h
        exact (Option.some.inj h).symm
      · cases h
  have cut : dk mine theirs = A ++ (true, j) :: B → ∃ A0 c B0, ord mine theirs = A0 ++ c :: B0 ∧ A = A0.map nmOf ∧ nmOf c = (true, j) ∧ B = B0.map nmOf := fun h => by
    obtain ⟨A0, r, e1, e2, e3⟩ := List.map_eq_append_iff.mp h
    obtain ⟨c, B0, e4, e5, e6⟩ := List.map_eq_cons_iff.mp e3
    exact ⟨A0, c, B0, by rw [e1, e4], e2.symm, e5, e6.symm⟩
  constructor
  · intro h ha
    obtain ⟨A0, c, B0, e, eA, ec, eB⟩ := cut h
    rw [eA] at ha
    obtain ⟨b, hb, eb⟩ := List.mem_map.mp ha
    have up := ord_up mine theirs
    rw [e] at up
    have l := (List.pairwise_append.mp up).2.2 b hb c List.mem_cons_self
    rw [leC_iff] at l
    have n1 := (number (c := b) (by rw [e]; exact List.mem_append_left _ hb)).2 eb
    have n2 := (number (c := c) (by rw [e]; simp)).1 ec
    omega
  · intro h ha
    obtain ⟨A0, c, B0, e, eA, ec, eB⟩ := cut h
    rw [eB] at ha
    obtain ⟨b, hb, eb⟩ := List.mem_map.mp ha
    have up := ord_up mine theirs
    rw [e] at up
    have l := List.rel_of_pairwise_cons (List.pairwise_append.mp up).2.1 hb
    rw [leC_iff] at l
    have n1 := (number (c := b) (by rw [e]; exact List.mem_append_right _ (List.mem_cons_of_mem _ hb))).2 eb
    have n2 := (number (c := c) (by rw [e]; simp)).1 ec
    have o1 : c.2.1 = true := congrArg Prod.fst ec
    have o2 : b.2.1 = false := congrArg Prod.fst eb
    rw [o1, o2] at l
    simp at l
    omega
end K43
namespace K43
/-! ### places, rings, heights by name -/
def ring (d : List Nm) (c : Nm) : List Nm := d.drop (d.idxOf c + 1) ++ d.take (d.idxOf c)
/-- the height directly below a card -/
def hgt (d : List Nm) (c : Nm) : Int := en 0 (own (d.take (d.idxOf c)))
theorem idx_at {d A B : List Nm} {c : Nm} (hd : d.Nodup) (e : d = A ++ c :: B) : d.idxOf c = A.length := by
  subst e
  have hn : c ∉ A := fun h => (List.nodup_append.mp hd).2.2 c h c List.mem_cons_self rfl
  rw [List.idxOf_append, if_neg hn, List.idxOf_cons_self]
  omega
theorem ring_at {d A B : List Nm} {c : Nm} (hd : d.Nodup) (e : d = A ++ c :: B) : ring d c = B ++ A := by
  unfold ring
  rw [idx_at hd e, e]
  congr 1
  · rw [List.drop_append, List.drop_eq_nil_of_le (by omega)]
    simp
  · simp
theorem hgt_at {d A B : List Nm} {c : Nm} (hd : d.Nodup) (e : d = A ++ c :: B) : hgt d c = en 0 (own A) := by
  unfold hgt
  rw [idx_at hd e, e]
  simp
theorem split_at {d : List Nm} {c : Nm} (h : c ∈ d) : ∃ A B, d = A ++ c :: B := List.append_of_mem h
/-- the levels of a stretch are the heights of its cards of theirs -/
theorem lv_names {d : List Nm} (hd : d.Nodup) : ∀ (Y X Z : List Nm), d = X ++ Y ++ Z → lv (en 0 (own X)) (own Y) = (Y.filter fun c => !c.1).map (hgt d)
  | [], X, Z, _ => rfl
  | (false, i) :: Y, X, Z, e => by
    have e2 : d = (X ++ [(false, i)]) ++ Y ++ Z := by rw [e]; simp
    have ih := lv_names hd Y (X ++ [(false, i)]) Z e2
    rw [own_app, en_app] at ih
    have ih' : lv (en 0 (own X) + 1) (own Y) = (Y.filter fun c => !c.1).map (hgt d) := ih
    have h1 : hgt d (false, i) = en 0 (own X) := hgt_at hd (B := Y ++ Z) (by rw [e]; simp)
    rw [List.filter_cons, if_pos (show (!((false, i) : Nm).1) = true from rfl), List.map_cons, h1, ← ih']
    rfl
  | (true, i) :: Y, X, Z, e => by
    have e2 : d = (X ++ [(true, i)]) ++ Y ++ Z := by rw [e]; simp
    have ih := lv_names hd Y (X ++ [(true, i)]) Z e2
    rw [own_app, en_app] at ih
    have ih' : lv (en 0 (own X) - 1) (own Y) = (Y.filter fun c => !c.1).map (hgt d) := ih
    rw [List.filter_cons, if_neg (by simp), ← ih']
    rfl
/-- .. and one less those of mine -/
theorem lm_names {d : List Nm} (hd : d.Nodup) : ∀ (Y X Z : List Nm), d = X ++ Y ++ Z → lm (en 0 (own X)) (own Y) = (Y.filter fun c => c.1).map fun c => hgt d c - 1
  | [], X, Z, _ => rfl
  | (false, i) :: Y, X, Z, e => by
    have e2 : d = (X ++ [(false, i)]) ++ Y ++ Z := by rw [e]; simp
    have ih := lm_names hd Y (X ++ [(false, i)]) Z e2
    rw [own_app, en_app] at ih
    have ih' : lm (en 0 (own X) + 1) (own Y) = (Y.filter fun c => c.1).map fun c => hgt d c - 1 := ih
    rw [List.filter_cons, if_neg (by simp), ← ih']
    rfl
  | (true, i) :: Y, X, Z, e => by
    have e2 : d = (X ++ [(true, i)]) ++ Y ++ Z := by rw [e]; simp
    have ih := lm_names hd Y (X ++ [(true, i)]) Z e2
    rw [own_app, en_app] at ih
    have ih' : lm (en 0 (own X) - 1) (own Y) = (Y.filter fun c => c.1).map fun c => hgt d c - 1 := ih
    have h1 : hgt d (true, i) = en 0 (own X) := hgt_at hd (B := Y ++ Z) (by rw [e]; simp)
    rw [List.filter_cons, if_pos (show (((true, i) : Nm).1) = true from rfl), List.map_cons, h1, ← ih']
    rfl
/-- the levels by index -/
def levT (mine theirs : List Int) : List Int := (List.range theirs.length).map fun i => hgt (dk mine theirs) (false, i)
def levM (mine theirs : List Int) : List Int := (List.range mine.length).map fun i => hgt (dk mine theirs) (true, i) - 1
theorem levT_at {mine theirs : List Int} {i : Nat} (h : i < theirs.length) : (levT mine theirs).getD i 0 = hgt (dk mine theirs) (false, i) := by
  unfold levT
  rw [List.getD_eq_getElem?_getD, List.getElem?_map, List.getElem?_range h]
  rfl
theorem mine_names (mine theirs : List Int) : ((dk mine theirs).filter fun c => c.1).Perm ((List.range mine.length).map fun i => (true, i)) := by
  have p := (dk_perm mine theirs).filter fun c => c.1
  rw [List.filter_append] at p
  have e1 : ((List.range theirs.length).map fun i => ((false, i) : Nm)).filter (fun c => c.1) = [] := by
    rw [List.filter_eq_nil_iff]
    intro c hc
    obtain ⟨i, _, e⟩ := List.mem_map.mp hc
    rw [← e]
    simp
  have e2 : ((List.range mine.length).map fun i => ((true, i) : Nm)).filter (fun c => c.1) = (List.range mine.length).map fun i => (true, i) := by
    rw [List.filter_eq_self]
    intro c hc
    obtain ⟨i, _, e⟩ := List.mem_map.mp hc
    rw [← e]
  rw [e1, e2] at p
  exact p
theorem their_names (mine theirs : List Int) : ((dk mine theirs).filter fun c => !c.1).Perm ((List.range theirs.length).map fun i => (false, i)) := by
  have p := (dk_perm mine theirs).filter fun c => !c.1
  rw [List.filter_append] at p
  have e1 : ((List.range mine.length).map fun i => ((true, i) : Nm)).filter (fun c => !c.1) = [] := by
    rw [List.filter_eq_nil_iff]
    intro c hc
    obtain ⟨i, _, e⟩ := List.mem_map.mp hc
    rw [← e]
    simp
  have e2 : ((List.range theirs.length).map fun i => ((false, i) : Nm)).filter (fun c => !c.1) = (List.range theirs.length).map fun i => (false, i) := by
    rw [List.filter_eq_self]
    intro c hc
    obtain ⟨i, _, e⟩ := List.mem_map.mp hc
    rw [← e]
    rfl
  rw [e1, e2, List.append_nil] at p
  exact p
theorem levT_perm (mine theirs : List Int) : (levT mine theirs).Perm (lv 0 (own (dk mine theirs))) := by
  have e := lv_names (dk_nodup mine theirs) (dk mine theirs) [] [] (by simp)
  have e' : lv 0 (own (dk mine theirs)) = _ := e
  rw [e']
  have p := (their_names mine theirs).map (hgt (dk mine theirs))
  rw [List.map_map] at p
  exact p.symm
theorem levM_perm {mine theirs : List Int} (hl : mine.length = theirs.length) : (levM mine theirs).Perm (lv 0 (own (dk mine theirs))) := by
  have e := lm_names (dk_nodup mine theirs) (dk mine theirs) [] [] (by simp)
  have e' : lm 0 (own (dk mine theirs)) = _ := e
  refine List.Perm.trans ?_ (levels_alike (own_closed hl)).symm
  rw [e']
  have p := (mine_names mine theirs).map fun c => hgt (dk mine theirs) c - 1
  rw [List.map_map] at p
  exact p.symm
/-- the row by either side's levels -/
theorem row_T (mine theirs : List Int) : srt (levT mine theirs) = rowOf mine theirs := srt_of_perm (levT_perm mine theirs)
theorem row_M {mine theirs : List Int} (hl : mine.length = theirs.length) : srt (levM mine theirs) = rowOf mine theirs := srt_of_perm (levM_perm hl)
/-- the other side's cards, up the ring -/
def upL (mine theirs : List Int) (c : Nm) : List Nat := ((ring (dk mine theirs) c).filter fun b => b.1 != c.1).map (·.2)
theorem upL_at {mine theirs : List Int} {A B : List Nm} {c : Nm} (e : dk mine theirs = A ++ c :: B) : upL mine theirs c = ((B ++ A).filter fun b => b.1 != c.1).map (·.2) := by
  unfold upL
  rw [ring_at (dk_nodup _ _) e]
theorem upL_lev {mine theirs : List Int} (hl : mine.length = theirs.length) {A B : List Nm} {j : Nat} (e : dk mine theirs = A ++ (true, j) :: B) :
    lv (en 0 (own A) - 1) (own (B ++ A)) = (upL mine theirs (true, j)).map fun i => (levT mine theirs).getD i 0 := by
  have hd := dk_nodup mine theirs
  have x1 := lv_names hd B (A ++ [(true, j)]) [] (by rw [e]; simp)
  have x2 := lv_names hd A [] ((true, j) :: B) (by rw [e]; simp)
  rw [own_app, en_app] at x1
  have x1' : lv (en 0 (own A) - 1) (own B) = _ := x1
  have x2' : lv 0 (own A) = _ := x2
  have hc := own_closed hl
  rw [e, own_app, en_app] at hc
  have hc' : en (en 0 (own A) - 1) (own B) = 0 := hc
  rw [own_app, lv_app, hc', x1', x2', upL_at e, ← List.map_append, ← List.filter_append, List.map_map]
  have f1 : (fun b : Nm => b.1 != ((true, j) : Nm).1) = fun c => !c.1 := by
    funext b
    cases b.1 <;> rfl
  rw [f1]
  refine List.map_congr_left fun c hc => ?_
  obtain ⟨h1, h2⟩ := List.mem_filter.mp hc
  obtain ⟨o, i⟩ := c
  have h3 : o = false := by simpa using h2
  subst h3
  have mem : (false, i) ∈ dk mine theirs := by
    rw [e]
    rcases List.mem_append.mp h1 with h | h
    · exact List.mem_append_right _ (List.mem_cons_of_mem _ h)
    · exact List.mem_append_left _ h
  have lt : i < theirs.length := by
    rcases dk_mem.mp mem with ⟨_, h⟩ | ⟨h, _⟩
    · exact h
    · cases h
  exact (levT_at lt).symm
theorem upL_mem {mine theirs : List Int} {o : Bool} {i z : Nat} (hc : (o, i) ∈ dk mine theirs) : z ∈ upL mine theirs (o, i) ↔ (!o, z) ∈ dk mine theirs := by
  obtain ⟨A, B, e⟩ := split_at hc
  rw [upL_at e, List.mem_map]
  constructor
  · rintro ⟨c, hm, rfl⟩
    obtain ⟨h1, h2⟩ := List.mem_filter.mp hm
    obtain ⟨p, q⟩ := c
    have : p = !o := by cases p <;> cases o <;> simp at h2 ⊢
    subst this
    rw [e]
    rcases List.mem_append.mp h1 with h | h
    · exact List.mem_append_right _ (List.mem_cons_of_mem _ h)
    · exact List.mem_append_left _ h
  · intro hm
    refine ⟨(!o, z), List.mem_filter.mpr ⟨?_, by cases o <;> rfl⟩, rfl⟩
    rw [e] at hm
    rcases List.mem_append.mp hm with h | h
    · exact List.mem_append_right _ h
    · rcases List.mem_cons.mp h with h | h
      · injection h with h1 _
        cases o <;> cases h1
      · exact List.mem_append_left _ h
theorem ring_len0 {d : List Nm} {c : Nm} (h : c ∈ d) : (ring d c).length + 1 = d.length := by
  have := List.idxOf_lt_length_iff.mpr h
  unfold ring
  simp
  omega
theorem upL_len {mine theirs : List Int} {o : Bool} {i : Nat} (hc : (o, i) ∈ dk mine theirs) : (upL mine theirs (o, i)).length = (own (dk mine theirs)).count (!o) := by
  obtain ⟨A, B, e⟩ := split_at hc
  rw [upL_at e, List.length_map, e]
  have q : ∀ l : List Nm, (l.filter fun b => b.1 != o).length = (own l).count (!o) := fun l => by
    induction l with
    | nil => rfl
    | cons c l ih =>
      rw [List.filter_cons]
      show _ = (c.1 :: own l).count (!o)
      rw [List.count_cons, ← ih]
      cases c.1 <;> cases o <;> simp
  show ((B ++ A).filter fun b => b.1 != o).length = _
  rw [q, own_app, own_app, List.count_append, List.count_append]
  show _ = _ + (o :: own B).count (!o)
  rw [List.count_cons]
  cases o <;> simp <;> omega
theorem upL_lenT {mine theirs : List Int} {i : Nat} (hc : i < mine.length) : (upL mine theirs (true, i)).length = theirs.length := by
  rw [upL_len (dk_mem.mpr (.inr ⟨rfl, hc⟩)), (own_perm mine theirs).count_eq]
  simp [List.count_append, List.count_replicate]
theorem upL_lenM {mine theirs : List Int} {i : Nat} (hc : i < theirs.length) : (upL mine theirs (false, i)).length = mine.length := by
  rw [upL_len (dk_mem.mpr (.inl ⟨rfl, hc⟩)), (own_perm mine theirs).count_eq]
  simp [List.count_append, List.count_replicate]
/-- my cards in deck order -/
def mineO (mine theirs : List Int) : List Nat := ((dk mine theirs).filter fun c => c.1).map (·.2)
theorem mineO_mem {mine theirs : List Int} {i : Nat} : i ∈ mineO mine theirs ↔ i < mine.length := by
  have p := (mine_names mine theirs).map (·.2)
  rw [List.map_map] at p
  show i ∈ ((dk mine theirs).filter fun c => c.1).map (·.2) ↔ _
  rw [p.mem_iff]
  simp
theorem mineO_len (mine theirs : List Int) : (mineO mine theirs).length = mine.length := by
  have p := (mine_names mine theirs).map (·.2)
  have := p.length_eq
  simpa [mineO] using this
/-! ### what a pair leaves -/
def hit (mine theirs : List Int) (m t : Nat) : Int := if theirs.getD t 0 ≤ mine.getD m 0 then 1 else 0
theorem filt {d : List Nm} {a b : Nm} {P Q R : List Nm} (hd : d.Nodup) (e : d = P ++ a :: (Q ++ b :: R)) : (d.filter fun c => c != a && c != b) = P ++ (Q ++ R) ∧ (d.filter fun c => c != b && c != a) = P ++ (Q ++ R) := by
  have keep : ∀ {l : List Nm}, a ∉ l → b ∉ l → (l.filter fun c => c != a && c != b) = l ∧ (l.filter fun c => c != b && c != a) = l := fun {l} h1 h2 => by
    constructor
    · rw [List.filter_eq_self]
      intro c hc
      have z1 : c ≠ a := fun z => h1 (z ▸ hc)
      have z2 : c ≠ b := fun z => h2 (z ▸ hc)
      rw [bne_iff_ne.mpr z1, bne_iff_ne.mpr z2]
      rfl
    · rw [List.filter_eq_self]
      intro c hc
      have z1 : c ≠ a := fun z => h1 (z ▸ hc)
      have z2 : c ≠ b := fun z => h2 (z ▸ hc)
      rw [bne_iff_ne.mpr z1, bne_iff_ne.mpr z2]
      rfl
  rw [e] at hd
  obtain ⟨d1, d2, d3⟩ := List.nodup_append.mp hd
  obtain ⟨d4, d5⟩ := List.nodup_cons.mp d2
  obtain ⟨d6, d7, d8⟩ := List.nodup_append.mp d5
  obtain ⟨d9, d10⟩ := List.nodup_cons.mp d7
  have kP := keep (l := P) (fun z => d3 a z a List.mem_cons_self rfl) (fun z => d3 b z b (List.mem_cons_of_mem _ (by simp)) rfl)
  have kQ := keep (l := Q) (fun z => d4 (List.mem_append_left _ z)) (fun z => d8 b z b List.mem_cons_self rfl)
  have kR := keep (l := R) (fun z => d4 (List.mem_append_right _ (List.mem_cons_of_mem _ z))) d9
  rw [e]
  simp only [List.filter_append, List.filter_cons, kP.1, kP.2, kQ.1, kQ.2, kR.1, kR.2]
  simp
theorem lv_turn {X Y : List Bool} {g : Int} (hc : en g (X ++ Y) = g) : (lv (en g X) (Y ++ X)).Perm (lv g (X ++ Y)) := by
  have e : en (en g X) Y = g := by rw [← en_app, hc]
  rw [lv_app, lv_app, e]
  exact List.perm_append_comm
theorem map_zero (l : List Int) : l.map (· + 0) = l := by simp
theorem en_pair (g : Int) (a b c : List Bool) : en g (a ++ false :: (b ++ true :: c)) = en g (a ++ (b ++ c)) ∧ en g (a ++ true :: (b ++ false :: c)) = en g (a ++ (b ++ c)) := by
  constructor <;> (rw [en_count, en_count]; simp [List.count_append, List.count_cons]; omega)
theorem en_one (g : Int) (a b : List Bool) : en g (a ++ false :: b) = en g (a ++ b) + 1 ∧ en g (a ++ true :: b) = en g (a ++ b) - 1 := by
  constructor <;> (rw [en_count, en_count]; simp [List.count_append, List.count_cons]; omega)
theorem word1 {a b c : List Bool} (h : en 0 (a ++ false :: (b ++ true :: c)) = 0) : (lv (en 0 (a ++ false :: b)) ((c ++ a) ++ b)).Perm ((lv 0 (a ++ (b ++ c))).map (· + 1)) := by
  rw [(en_pair 0 a b c).1, ← List.append_assoc] at h
  rw [(en_one 0 a b).1, lv_shift, List.append_assoc c a b, ← List.append_assoc a b c]
  exact (lv_turn h).map _
theorem word2 {a b c : List Bool} (h : en 0 (a ++ true :: (b ++ false :: c)) = 0) : (lv (en 0 a) (b ++ (c ++ a))).Perm (lv 0 (a ++ (b ++ c))) := by
  rw [(en_pair 0 a b c).2] at h
  have := lv_turn (X := a) (Y := b ++ c) h
  rw [List.append_assoc] at this
  exact this
theorem word3 {a b c : List Bool} (h : en 0 (a ++ false :: (b ++ true :: c)) = 0) : (lv (en 0 a + 1) (b ++ (c ++ a))).Perm ((lv 0 (a ++ (b ++ c))).map (· + 1)) := by
  rw [(en_pair 0 a b c).1] at h
  have := lv_turn (X := a) (Y := b ++ c) h
  rw [List.append_assoc] at this
  rw [lv_shift]
  exact this.map _
theorem word4 {a b c : List Bool} (h : en 0 (a ++ true :: (b ++ false :: c)) = 0) : (lv (en 0 (a ++ true :: b) + 1) ((c ++ a) ++ b)).Perm (lv 0 (a ++ (b ++ c))) := by
  rw [(en_pair 0 a b c).2, ← List.append_assoc] at h
  have e : en 0 (a ++ true :: b) + 1 = en 0 (a ++ b) := by
    rw [(en_one 0 a b).2]
    omega
  rw [e, List.append_assoc c a b, ← List.append_assoc a b c]
  exact lv_turn h
section
variable {mine theirs : List Int} (hl : mine.length = theirs.length) {j t : Nat} (hj : j < mine.length) (ht : t < theirs.length)
include hl hj ht
theorem first_T {P Q R : List Nm} (e : dk mine theirs = P ++ (false, t) :: (Q ++ (true, j) :: R)) :
    own (dk (mine.eraseIdx j) (theirs.eraseIdx t)) = own P ++ (own Q ++ own R) ∧ hit mine theirs j t = 1 ∧ en 0 (own P ++ false :: (own Q ++ true :: own R)) = 0 := by
  have gx : mine[j]? = some (mine.getD j 0) := by rw [List.getD_eq_getElem?_getD, List.getElem?_eq_getElem hj]; rfl
  have gy : theirs[t]? = some (theirs.getD t 0) := by rw [List.getD_eq_getElem?_getD, List.getElem?_eq_getElem ht]; rfl
  refine ⟨?_, ?_, ?_⟩
  · rw [own_erase, (filt (dk_nodup mine theirs) e).2, own_app, own_app]
  · exact if_pos ((won_iff gx gy (A := P ++ (false, t) :: Q) (B := R)).1 (by rw [e]; simp) (by simp))
  · have hc := own_closed hl
    rw [e] at hc
    simpa [own] using hc
theorem first_M {P Q R : List Nm} (e : dk mine theirs = P ++ (true, j) :: (Q ++ (false, t) :: R)) :
    own (dk (mine.eraseIdx j) (theirs.eraseIdx t)) = own P ++ (own Q ++ own R) ∧ hit mine theirs j t = 0 ∧ en 0 (own P ++ true :: (own Q ++ false :: own R)) = 0 := by
  have gx : mine[j]? = some (mine.getD j 0) := by rw [List.getD_eq_getElem?_getD, List.getElem?_eq_getElem hj]; rfl
  have gy : theirs[t]? = some (theirs.getD t 0) := by rw [List.getD_eq_getElem?_getD, List.getElem?_eq_getElem ht]; rfl
  refine ⟨?_, ?_, ?_⟩
  · rw [own_erase, (filt (dk_nodup mine theirs) e).1, own_app, own_app]
  · have := (won_iff gx gy (A := P) (B := Q ++ (false, t) :: R)).2 e (by simp)
    exact if_neg (by omega)
  · have hc := own_closed hl
    rw [e] at hc
    simpa [own] using hc
/-- the row behind a pair, seen from my card -/
theorem rest_lay {A B A' B' : List Nm} (e : dk mine theirs = A ++ (true, j) :: B) (h : B ++ A = A' ++ (false, t) :: B') :
    (lv (en 0 (own A)) (own (A' ++ B'))).Perm ((lv 0 (own (dk (mine.eraseIdx j) (theirs.eraseIdx t)))).map (· + hit mine theirs j t)) := by
  rcases List.append_eq_append_iff.mp h with ⟨G, e1, e2⟩ | ⟨G, e1, e2⟩
  · obtain ⟨q1, q2, q3⟩ := first_T hl hj ht (P := G) (Q := B') (R := B) (by rw [e, e2]; simp)
    rw [q1, q2, e1, e2]
    have := word1 q3
    simpa [own] using this
  · cases G with
    | nil =>
      have e2' : (false, t) :: B' = A := e2
      obtain ⟨q1, q2, q3⟩ := first_T hl hj ht (P := []) (Q := B') (R := B) (by rw [e, ← e2']; simp)
      rw [q1, q2, ← e2']
      have := word1 q3
      rw [List.append_nil] at e1
      rw [← e1]
      simpa [own] using this
    | cons c G =>
      have e2' : (false, t) :: B' = c :: (G ++ A) := e2
      injection e2' with e3 e4
      subst e3
      obtain ⟨q1, q2, q3⟩ := first_M hl hj ht (P := A) (Q := A') (R := G) (by rw [e, e1])
      rw [q1, q2, e4, map_zero]
      have := word2 q3
      simpa [own] using this
/-- .. and from their card -/
theorem rest_answer {P S A' B' : List Nm} (e : dk mine theirs = P ++ (false, t) :: S) (h : S ++ P = A' ++ (true, j) :: B') :
    (lv (en 0 (own P) + 1) (own (A' ++ B'))).Perm ((lv 0 (own (dk (mine.eraseIdx j) (theirs.eraseIdx t)))).map (· + hit mine theirs j t)) := by
  rcases List.append_eq_append_iff.mp h with ⟨G, e1, e2⟩ | ⟨G, e1, e2⟩
  · obtain ⟨q1, q2, q3⟩ := first_M hl hj ht (P := G) (Q := B') (R := S) (by rw [e, e2]; simp)
    rw [q1, q2, e1, e2, map_zero]
    have := word4 q3
    simpa [own] using this
  · cases G with
    | nil =>
      have e2' : (true, j) :: B' = P := e2
      obtain ⟨q1, q2, q3⟩ := first_M hl hj ht (P := []) (Q := B') (R := S) (by rw [e, ← e2']; simp)
      rw [q1, q2, ← e2', map_zero]
      have := word4 q3
      rw [List.append_nil] at e1
      rw [← e1]
      simpa [own] using this
    | cons c G =>
      have e2' : (true, j) :: B' = c :: (G ++ P) := e2
      injection e2' with e3 e4
      subst e3
      obtain ⟨q1, q2, q3⟩ := first_T hl hj ht (P := P) (Q := A') (R := G) (by rw [e, e1])
      rw [q1, q2, e4]
      have := word3 q3
      simpa [own] using this
end
theorem nth_map {l : List Int} {d : Int} {i : Nat} (hi : i < l.length) : nth (l.map (· + d)) i = nth l i + d := by
  have a : ∀ x, x ≤ nth l i ↔ x + d ≤ nth (l.map (· + d)) i := fun x => by
    rw [nth_ge hi, nth_ge (by simpa using hi), lo_map]
  have h1 := (a (nth l i)).mp (Int.le_refl _)
  have h2 := (a (nth (l.map (· + d)) i - d)).mpr (by omega)
  omega
/-! ### the bounds, the letters -/
def lowV (c : List Int) (f t : Nat) : Int := if c.length = 0 then 0 else (f : Int) + 1 + c.getD t 0
def highV (c : List Int) (f t : Nat) : Int := if c.length = 0 then 0 else (t : Int) + 1 + c.getD f 0
/-- the letters of a word (true: mine lays): how many of each ahead of the last -/
def nM (u : List Bool) : Nat := u.dropLast.count true
def nT (u : List Bool) : Nat := u.dropLast.count false
theorem nMT (u : List Bool) : nM u + nT u = u.length - 1 := by
  have h : ∀ l : List Bool, l.count true + l.count false = l.length := fun l => by
    induction l with
    | nil => rfl
    | cons b l ih => cases b <;> simp <;> omega
  unfold nM nT
  rw [h, List.length_dropLast]
/-- in each end part at least as many T as M -/
def stead : List Bool → Prop
  | [] => True
  | b :: u => (b :: u).count true ≤ (b :: u).count false ∧ stead u
theorem stead_le : ∀ {u : List Bool}, stead u → u.count true ≤ u.count false
  | [], _ => Nat.le_refl _
  | _ :: _, h => h.1
/-- my lay -/
def okLay (mine theirs : List Int) (f t : Nat) (k : Int) (i : Nat) : Bool :=
  decide (k ≤ ((rowOf mine theirs).erase ((levT mine theirs).getD ((upL mine theirs (true, i)).headD 0) 0)).getD (f - 1) 0 + t + 1 ∧
    ((rowOf mine theirs).erase ((levT mine theirs).getD ((upL mine theirs (true, i)).getLastD 0) 0)).getD t 0 + f + 1 ≤ k)
def layOf (mine theirs : List Int) (f t : Nat) (k : Int) : Nat :=
  if (mineO mine theirs).length = 1 then (mineO mine theirs).headD 0 else ((mineO mine theirs).find? (okLay mine theirs f t k)).getD ((mineO mine theirs).headD 0)
/-- my answer; f, t: of the later letters -/
def okAns (mine theirs : List Int) (l : Nat) (f t : Nat) (k : Int) (m : Nat) : Bool :=
  decide (lowV (rowOf (mine.eraseIdx m) (theirs.eraseIdx l)) f t + hit mine theirs m l ≤ k ∧ k ≤ highV (rowOf (mine.eraseIdx m) (theirs.eraseIdx l)) f t + hit mine theirs m l)
def ansOf (mine theirs : List Int) (l : Nat) (f t : Nat) (k : Int) : Nat :=
  if (upL mine theirs (false, l)).length = 1 then (upL mine theirs (false, l)).headD 0 else ((upL mine theirs (false, l)).find? (okAns mine theirs l f t k)).getD ((upL mine theirs (false, l)).headD 0)
theorem headD_mem {l : List Nat} (h : l ≠ []) : l.headD 0 ∈ l := by
  cases l with
  | nil => exact absurd rfl h
  | cons a l => exact List.mem_cons_self
theorem getLastD_mem {l : List Nat} (h : l ≠ []) : l.getLastD 0 ∈ l := by
  rw [List.getLastD_eq_getLast?, List.getLast?_eq_some_getLast h]
  exact List.getLast_mem h
theorem lay_mem {mine theirs : List Int} {f t : Nat} {k : Int} (h : 0 < mine.length) : layOf mine theirs f t k < mine.length := by
  have ne : mineO mine theirs ≠ [] := fun e => by
    have := mineO_len mine theirs
    rw [e] at this
    simp at this
    omega
  unfold layOf
  split
  · exact mineO_mem.mp (headD_mem ne)
  · cases q : (mineO mine theirs).find? (okLay mine theirs f t k) with
    | none => exact mineO_mem.mp (headD_mem ne)
    | some i => exact mineO_mem.mp (List.mem_of_find?_eq_some q)
theorem ans_mem {mine theirs : List Int} {l f t : Nat} {k : Int} (hl : l < theirs.length) (h : 0 < mine.length) : ansOf mine theirs l f t k < mine.length := by
  have mem : ∀ z, z ∈ upL mine theirs (false, l) → z < mine.length := fun z hz => by
    have := (upL_mem (dk_mem.mpr (.inl ⟨rfl, hl⟩))).mp hz
    rcases dk_mem.mp this with ⟨e, _⟩ | ⟨_, e⟩
    · cases e
    · exact e
  have ne : upL mine theirs (false, l) ≠ [] := fun e => by
    have := upL_lenM (mine := mine) hl
    rw [e] at this
    simp at this
    omega
  unfold ansOf
  split
  · exact mem _ (headD_mem ne)
  · cases q : (upL mine theirs (false, l)).find? (okAns mine theirs l f t k) with
    | none => exact mem _ (headD_mem ne)
    | some i => exact mem _ (List.mem_of_find?_eq_some q)
end K43
namespace K43
/-! ### what the bounds say of the rest -/
section
variable {mine theirs : List Int} (hl : mine.length = theirs.length) {j t : Nat} (hj : j < mine.length) (ht : t < theirs.length)
include hl hj ht
theorem rest_row_len : (rowOf (mine.eraseIdx j) (theirs.eraseIdx t)).length + 1 = mine.length := by
  rw [row_len, List.length_eraseIdx_of_lt ht]
  omega
/-- the rest's row is empty: the last pair -/
theorem last_pair (h1 : mine.length = 1) {k : Int} (b1 : lowV (rowOf mine theirs) 0 0 ≤ k) (b2 : k ≤ highV (rowOf mine theirs) 0 0) : k = hit mine theirs j t := by
  have l1 : (rowOf mine theirs).length = 1 := by rw [row_len]; omega
  unfold lowV at b1
  unfold highV at b2
  rw [l1] at b1 b2
  simp only [Nat.one_ne_zero, if_false] at b1 b2
  rw [row_nth] at b1 b2
  have ek : k = 1 + nth (lv 0 (own (dk mine theirs))) 0 := by omega
  have mj : (true, j) ∈ dk mine theirs := dk_mem.mpr (.inr ⟨rfl, hj⟩)
  obtain ⟨A, B, e⟩ := split_at mj
  have mt : (false, t) ∈ dk mine theirs := dk_mem.mpr (.inl ⟨rfl, ht⟩)
  have len : (dk mine theirs).length = 2 := by
    rw [(dk_perm mine theirs).length_eq]
    simp
    omega
  have one : ∀ z : Int, nth [z] 0 = z := fun z => by
    unfold nth
    have : srt [z] = [z] := (srt_is (List.pairwise_singleton _ _) (List.Perm.refl _)).symm
    rw [this]
    rfl
  rw [e] at mt len
  rcases List.mem_append.mp mt with m | m
  · obtain ⟨A1, A2, eA⟩ := split_at m
    have z1 : A1 = [] := by
      cases A1 with
      | nil => rfl
      | cons a r => rw [eA] at len; simp at len; omega
    have z2 : A2 = [] := by
      cases A2 with
      | nil => rfl
      | cons a r => rw [eA] at len; simp at len; omega
    have z3 : B = [] := by
      cases B with
      | nil => rfl
      | cons a r => rw [eA] at len; simp at len; omega
    subst z1 z2 z3 eA
    rw [(first_T hl hj ht (P := []) (Q := []) (R := []) e).2.1, ek, e]
    show 1 + nth [0] 0 = 1
    rw [one]
    rfl
  · have m' : (false, t) ∈ B := by
      rcases List.mem_cons.mp m with z | z
      · injection z with z _
        cases z
      · exact z
    obtain ⟨B1, B2, eB⟩ := split_at m'
    have z1 : A = [] := by
      cases A with
      | nil => rfl
      | cons a r => rw [eB] at len; simp at len; omega
    have z2 : B1 = [] := by
      cases B1 with
      | nil => rfl
      | cons a r => rw [eB] at len; simp at len; omega
    have z3 : B2 = [] := by
      cases B2 with
      | nil => rfl
      | cons a r => rw [eB] at len; simp at len; omega
    subst z1 z2 z3 eB
    rw [(first_M hl hj ht (P := []) (Q := []) (R := []) e).2.1, ek, e]
    show 1 + nth [-1] 0 = 0
    rw [one]
    rfl
end
theorem headD_eq {α : Type} {l : List α} {a d : α} {M : List α} (h : l = a :: M) : l.headD d = a := by rw [h]; rfl
section
variable {mine theirs : List Int} (hl : mine.length = theirs.length) {j : Nat} (hj : j < mine.length)
include hl hj
/-- each card of mine as it is seen in the ring, by the program's words -/
theorem seen_at : ∃ A B M, dk mine theirs = A ++ (true, j) :: B ∧
    Seen (own (dk mine theirs)) (own A) (own B) ((levT mine theirs).getD ((upL mine theirs (true, j)).headD 0) 0) ((levT mine theirs).getD ((upL mine theirs (true, j)).getLastD 0) 0) M := by
  obtain ⟨A, B, e⟩ := split_at (dk_mem.mpr (.inr ⟨rfl, hj⟩) : (true, j) ∈ dk mine theirs)
  have lev := upL_lev hl e
  have len := upL_lenT (theirs := theirs) hj
  cases q : upL mine theirs (true, j) with
  | nil =>
    rw [q] at len
    simp at len
    omega
  | cons a r =>
    rw [q] at lev
    refine ⟨A, B, r.map fun i => (levT mine theirs).getD i 0, e, ⟨by rw [e]; simp [own], ?_, ?_⟩⟩
    · rw [own_app] at lev
      exact lev
    · rcases List.eq_nil_or_concat (a :: r) with z | ⟨P, x, z⟩
      · cases z
      · rw [List.concat_eq_append] at z
        refine ⟨P.map fun i => (levT mine theirs).getD i 0, ?_⟩
        have : (a :: r).getLastD 0 = x := by
          rw [z, List.getLastD_eq_getLast?]
          simp
        rw [this]
        have z2 := congrArg (List.map fun i => (levT mine theirs).getD i 0) z
        simpa using z2
end
/-- THE LAY: with the guide's card the wanted result stays between the bounds, whatever the answer is -/
theorem lay_keeps {mine theirs : List Int} (hl : mine.length = theirs.length) {u : List Bool} (hu : u.length + 1 = mine.length) (st : stead ((true :: u).dropLast)) {k : Int}
    (b1 : lowV (rowOf mine theirs) (nM (true :: u)) (nT (true :: u)) ≤ k) (b2 : k ≤ highV (rowOf mine theirs) (nM (true :: u)) (nT (true :: u))) {t : Nat} (ht : t < theirs.length) :
    lowV (rowOf (mine.eraseIdx (layOf mine theirs (nM (true :: u)) (nT (true :: u)) k)) (theirs.eraseIdx t)) (nM u) (nT u) ≤ k - hit mine theirs (layOf mine theirs (nM (true :: u)) (nT (true :: u)) k) t ∧
      k - hit mine theirs (layOf mine theirs (nM (true :: u)) (nT (true :: u)) k) t ≤ highV (rowOf (mine.eraseIdx (layOf mine theirs (nM (true :: u)) (nT (true :: u)) k)) (theirs.eraseIdx t)) (nM u) (nT u) := by
  have hj : layOf mine theirs (nM (true :: u)) (nT (true :: u)) k < mine.length := lay_mem (by omega)
  cases u with
  | nil =>
    have h1 : mine.length = 1 := by simpa using hu.symm
    have e := last_pair hl hj ht h1 (k := k) b1 b2
    have z := rest_row_len hl hj ht
    unfold lowV highV
    have z2 : (rowOf (mine.eraseIdx (layOf mine theirs (nM [true]) (nT [true]) k)) (theirs.eraseIdx t)).length = 0 := by omega
    rw [if_pos z2, if_pos z2]
    omega
  | cons b u =>
    have hn := nMT (b :: u)
    have eM : nM (true :: b :: u) = nM (b :: u) + 1 := by
      unfold nM
      simp
    have eT : nT (true :: b :: u) = nT (b :: u) := by
      unfold nT
      simp
    have ft : nM (true :: b :: u) ≤ nT (true :: b :: u) := stead_le st
    have len : (lv 0 (own (dk mine theirs))).length = nM (true :: b :: u) + nT (true :: b :: u) + 1 := by
      rw [own_len, eM, eT]
      simp at hu hn
      omega
    have r0 : ¬ (rowOf mine theirs).length = 0 := by rw [row_len]; omega
    unfold lowV at b1
    unfold highV at b2
    rw [if_neg r0, row_nth] at b1 b2
    have hc := own_closed hl
    have lenO : ¬ (mineO mine theirs).length = 1 := by
      rw [mineO_len]
      simp at hu
      omega
    -- the card has both properties
    have good : okLay mine theirs (nM (true :: b :: u)) (nT (true :: b :: u)) k (layOf mine theirs (nM (true :: b :: u)) (nT (true :: b :: u)) k) = true := by
      obtain ⟨A, B, y, x, M, s, q1, q2⟩ := lay_there hc len (by omega) ft b1 b2
      obtain ⟨A0, r, e1, e2, e3⟩ := List.map_eq_append_iff.mp s.at_
      obtain ⟨c, B0, e4, e5, e6⟩ := List.map_eq_cons_iff.mp e3
      obtain ⟨o, i⟩ := c
      have eo : o = true := e5
      subst eo
      have hd : dk mine theirs = A0 ++ (true, i) :: B0 := by rw [e1, e4]
      have hi : i < mine.length := by
        have : (true, i) ∈ dk mine theirs := by rw [hd]; simp
        rcases dk_mem.mp this with ⟨z, _⟩ | ⟨_, z⟩
        · cases z
        · exact z
      obtain ⟨A1, B1, M1, hd1, s1⟩ := seen_at hl hi
      have eA : A1 = A0 ∧ B1 = B0 := by
        have n1 := idx_at (dk_nodup mine theirs) hd
        have n2 := idx_at (dk_nodup mine theirs) hd1
        have l : A0.length = A1.length := by omega
        have := List.append_inj (hd.symm.trans hd1) l
        exact ⟨this.1.symm, by injection this.2 with _ z; exact z.symm⟩
      have r1 := s.ring
      have r2 := s1.ring
      rw [eA.1, eA.2] at r2
      have e2' : own A0 = A := e2
      have e6' : own B0 = B := e6
      rw [e2', e6'] at r2
      rw [r1] at r2
      obtain ⟨P, p1⟩ := s.last
      obtain ⟨P1, p2⟩ := s1.last
      have ey := (List.cons.inj r2).1
      have ex : x = (levT mine theirs).getD ((upL mine theirs (true, i)).getLastD 0) 0 := by
        have : P ++ [x] = P1 ++ [(levT mine theirs).getD ((upL mine theirs (true, i)).getLastD 0) 0] := by rw [← p1, ← p2, r2]
        have := (List.append_inj' this rfl).2
        injection this
      have ok : okLay mine theirs (nM (true :: b :: u)) (nT (true :: b :: u)) k i = true := by
        unfold okLay
        rw [decide_eq_true_eq, ← ey, ← ex]
        exact ⟨q1, q2⟩
      have some : ((mineO mine theirs).find? (okLay mine theirs (nM (true :: b :: u)) (nT (true :: b :: u)) k)).isSome = true := by
        rw [List.find?_isSome]
        exact ⟨i, mineO_mem.mpr hi, ok⟩
      obtain ⟨z, ez⟩ := Option.isSome_iff_exists.mp some
      unfold layOf
      rw [if_neg lenO, ez]
      exact List.find?_some ez
    revert good hj
    generalize layOf mine theirs (nM (true :: b :: u)) (nT (true :: b :: u)) k = j
    intro hj good
    unfold okLay at good
    rw [decide_eq_true_eq] at good
    obtain ⟨A, B, M, hd, s⟩ := seen_at hl hj
    have mt : (false, t) ∈ B ++ A := by
      have : (false, t) ∈ dk mine theirs := dk_mem.mpr (.inl ⟨rfl, ht⟩)
      rw [hd] at this
      rcases List.mem_append.mp this with z | z
      · exact List.mem_append_right _ z
      · rcases List.mem_cons.mp z with z | z
        · injection z with z _
          cases z
        · exact List.mem_append_left _ z
    obtain ⟨A', B', e⟩ := split_at mt
    have e' : own B ++ own A = own A' ++ false :: own B' := by
      rw [← own_app, e]
      simp [own]
    have S := s.sound hc len (by omega) good.1 good.2 e'
    have p := rest_lay hl hj ht hd e
    rw [own_app] at p
    have z := rest_row_len hl hj ht
    have zl : (lv 0 (own (dk (mine.eraseIdx j) (theirs.eraseIdx t)))).length + 1 = mine.length := by
      rw [own_len, List.length_eraseIdx_of_lt ht]
      omega
    simp only [List.length_cons] at hu hn
    rw [nth_perm p, nth_perm p, nth_map (by omega), nth_map (by omega)] at S
    unfold lowV highV
    have z0 : ¬ (rowOf (mine.eraseIdx j) (theirs.eraseIdx t)).length = 0 := by omega
    rw [if_neg z0, if_neg z0, row_nth, row_nth]
    have e1 : nM (true :: b :: u) - 1 = nM (b :: u) := by omega
    rw [e1, eM, eT] at S
    omega
/-- THE ANSWER -/
theorem answer_keeps {mine theirs : List Int} (hl : mine.length = theirs.length) {u : List Bool} (hu : u.length + 1 = mine.length) (st : stead ((false :: u).dropLast)) {k : Int}
    (b1 : lowV (rowOf mine theirs) (nM (false :: u)) (nT (false :: u)) ≤ k) (b2 : k ≤ highV (rowOf mine theirs) (nM (false :: u)) (nT (false :: u))) {t : Nat} (ht : t < theirs.length) :
    lowV (rowOf (mine.eraseIdx (ansOf mine theirs t (nM u) (nT u) k)) (theirs.eraseIdx t)) (nM u) (nT u) ≤ k - hit mine theirs (ansOf mine theirs t (nM u) (nT u) k) t ∧
      k - hit mine theirs (ansOf mine theirs t (nM u) (nT u) k) t ≤ highV (rowOf (mine.eraseIdx (ansOf mine theirs t (nM u) (nT u) k)) (theirs.eraseIdx t)) (nM u) (nT u) := by
  have hj : ansOf mine theirs t (nM u) (nT u) k < mine.length := ans_mem ht (by omega)
  cases u with
  | nil =>
    have h1 : mine.length = 1 := by simpa using hu.symm
    have e := last_pair hl hj ht h1 (k := k) b1 b2
    have z := rest_row_len hl hj ht
    unfold lowV highV
    have z2 : (rowOf (mine.eraseIdx (ansOf mine theirs t (nM []) (nT []) k)) (theirs.eraseIdx t)).length = 0 := by omega
    rw [if_pos z2, if_pos z2]
    omega
  | cons b u =>
    have hn := nMT (b :: u)
    have eM : nM (false :: b :: u) = nM (b :: u) := by
      unfold nM
      simp
    have eT : nT (false :: b :: u) = nT (b :: u) + 1 := by
      unfold nT
      simp
    have ft : nM (b :: u) ≤ nT (b :: u) := by
      have st2 : stead ((b :: u).dropLast) := st.2
      exact stead_le st2
    have r0 : ¬ (rowOf mine theirs).length = 0 := by rw [row_len]; omega
    unfold lowV at b1
    unfold highV at b2
    rw [if_neg r0, row_nth, eM, eT] at b1 b2
    have hc := own_closed hl
    have lenO : ¬ (upL mine theirs (false, t)).length = 1 := by
      rw [upL_lenM ht]
      simp at hu
      omega
    simp only [List.length_cons] at hu hn
    -- what an answer leaves, by the rest
    obtain ⟨P, S, hd⟩ := split_at (dk_mem.mpr (.inl ⟨rfl, ht⟩) : (false, t) ∈ dk mine theirs)
    have good : okAns mine theirs t (nM (b :: u)) (nT (b :: u)) k (ansOf mine theirs t (nM (b :: u)) (nT (b :: u)) k) = true := by
      have hU : en (en 0 (own P) + 1) (own S ++ own P) = en 0 (own P) := by
        have := hc
        rw [hd, own_app, en_app] at this
        have h2 : en (en 0 (own P) + 1) (own S) = 0 := this
        rw [en_app, h2]
      have hp : (lv 0 (own (dk mine theirs))).Perm (en 0 (own P) :: lv (en 0 (own P) + 1) (own S ++ own P)) := by
        have := lv_turn (X := own P) (Y := false :: own S) (g := 0) (by
          have := hc
          rw [hd, own_app] at this
          exact this)
        rw [hd, own_app]
        exact this.symm
      obtain ⟨A, B, e, q1, q2⟩ := answer_there hU hp (f := nM (b :: u)) (t := nT (b :: u) + 1) (k := k) (by rw [own_len]; omega) (by omega) b1 b2
      have e0 : own (S ++ P) = A ++ true :: B := by rw [own_app]; exact e
      obtain ⟨A0, r, e1, e2, e3⟩ := List.map_eq_append_iff.mp e0
      obtain ⟨c, B0, e4, e5, e6⟩ := List.map_eq_cons_iff.mp e3
      obtain ⟨o, i⟩ := c
      have eo : o = true := e5
      subst eo
      have eSP : S ++ P = A0 ++ (true, i) :: B0 := by rw [e1, e4]
      have mi : (true, i) ∈ dk mine theirs := by
        have : (true, i) ∈ S ++ P := by rw [eSP]; simp
        rw [hd]
        rcases List.mem_append.mp this with z | z
        · exact List.mem_append_right _ (List.mem_cons_of_mem _ z)
        · exact List.mem_append_left _ z
      have hi : i < mine.length := by
        rcases dk_mem.mp mi with ⟨z, _⟩ | ⟨_, z⟩
        · cases z
        · exact z
      have p := rest_answer hl hi ht hd eSP
      have e2' : own A0 = A := e2
      have e6' : own B0 = B := e6
      rw [own_app, e2', e6'] at p
      have zl : (lv 0 (own (dk (mine.eraseIdx i) (theirs.eraseIdx t)))).length + 1 = mine.length := by
        rw [own_len, List.length_eraseIdx_of_lt ht]
        omega
      have e7 : nT (b :: u) + 1 - 1 = nT (b :: u) := by omega
      rw [e7, nth_perm p, nth_map (by omega)] at q1
      rw [nth_perm p, nth_map (by omega)] at q2
      have z := rest_row_len hl hi ht
      have ok : okAns mine theirs t (nM (b :: u)) (nT (b :: u)) k i = true := by
        unfold okAns
        rw [decide_eq_true_eq]
        unfold lowV highV
        have z0 : ¬ (rowOf (mine.eraseIdx i) (theirs.eraseIdx t)).length = 0 := by omega
        rw [if_neg z0, if_neg z0, row_nth, row_nth]
        omega
      have some : ((upL mine theirs (false, t)).find? (okAns mine theirs t (nM (b :: u)) (nT (b :: u)) k)).isSome = true := by
        rw [List.find?_isSome]
        exact ⟨i, (upL_mem (dk_mem.mpr (.inl ⟨rfl, ht⟩))).mpr mi, ok⟩
      obtain ⟨z, ez⟩ := Option.isSome_iff_exists.mp some
      unfold ansOf
      rw [if_neg lenO, ez]
      exact List.find?_some ez
    unfold okAns at good
    rw [decide_eq_true_eq] at good
    omega
/-- the bounds stand in order under a steady word -/
theorem low_high {mine theirs : List Int} (hl : mine.length = theirs.length) {u : List Bool} (hu : u.length = mine.length) (st : stead u.dropLast) :
    lowV (rowOf mine theirs) (nM u) (nT u) ≤ highV (rowOf mine theirs) (nM u) (nT u) := by
  unfold lowV highV
  by_cases h0 : (rowOf mine theirs).length = 0
  · rw [if_pos h0, if_pos h0]
    exact Int.le_refl _
  · rw [if_neg h0, if_neg h0, row_nth, row_nth]
    rw [row_len] at h0
    have ft : nM u ≤ nT u := stead_le st
    have hn := nMT u
    have g := nth_gap (own_closed hl) (i := nM u) (g := nT u - nM u) (by rw [own_len]; omega)
    have e : nM u + (nT u - nM u) = nT u := by omega
    rw [e] at g
    omega
end K43
namespace K43
open PySem PySem.Spec PyProof.Rows L2
/-! ### data in the still part of the heap -/
mutual
inductive Rp (G : Hp) : V → PyData → Prop
  | non : Rp G .non .none
  | bl (b : Bool) : Rp G (.bl b) (.bool b)
  | int (i : Int) : Rp G (.int i) (.int i)
  | str (x : Str) : Rp G (.str x) (.str x)
  | lst {a : Addr} {xs : List V} {ds : List PyData} (h : G a = some (.lst xs)) (k : RpAll G xs ds) : Rp G (.ref a) (.list ds)
  | tup {a : Addr} {xs : List V} {ds : List PyData} (h : G a = some (.tup xs)) (k : RpAll G xs ds) : Rp G (.ref a) (.tuple ds)
inductive RpAll (G : Hp) : List V → List PyData → Prop
  | nil : RpAll G [] []
  | cons {v : V} {vs : List V} {d : PyData} {ds : List PyData} (h : Rp G v d) (k : RpAll G vs ds) : RpAll G (v :: vs) (d :: ds)
end
mutual
theorem Rp.mono {G G2 : Hp} (e : Same G G2) : ∀ {v : V} {d : PyData}, Rp G v d → Rp G2 v d
  | _, _, .non => .non
  | _, _, .bl b => .bl b
  | _, _, .int i => .int i
  | _, _, .str x => .str x
  | _, _, .lst h k => .lst (e _ _ h) (RpAll.mono e k)
  | _, _, .tup h k => .tup (e _ _ h) (RpAll.mono e k)
theorem RpAll.mono {G G2 : Hp} (e : Same G G2) : ∀ {vs : List V} {ds : List PyData}, RpAll G vs ds → RpAll G2 vs ds
  | _, _, .nil => .nil
  | _, _, .cons h k => .cons (Rp.mono e h) (RpAll.mono e k)
end
mutual
theorem Rp.dp {K : PySem.W.Frag} {G : Hp} : ∀ {v : V} {d : PyData}, Rp G v d → Dp K G v d
  | _, _, .non => .non
  | _, _, .bl b => .bl b
  | _, _, .int i => .int i
  | _, _, .str x => .str x
  | _, _, .lst h k => .lst (SqL.of h) (RpAll.dp k)
  | _, _, .tup h k => .tup (SqT.of h) (RpAll.dp k)
theorem RpAll.dp {K : PySem.W.Frag} {G : Hp} : ∀ {vs : List V} {ds : List PyData}, RpAll G vs ds → DpAll K G vs ds
  | _, _, .nil => .nil
  | _, _, .cons h k => .cons (Rp.dp h) (RpAll.dp k)
end
theorem RpAll.len {G : Hp} : ∀ {vs : List V} {ds : List PyData}, RpAll G vs ds → vs.length = ds.length
  | _, _, .nil => rfl
  | _, _, .cons _ k => congrArg Nat.succ k.len
theorem RpAll.at {G : Hp} : ∀ {vs : List V} {ds : List PyData} {i : Nat} {d : PyData}, RpAll G vs ds → ds[i]? = some d → ∃ v, vs[i]? = some v ∧ Rp G v d
  | _, _, _, _, .nil, e => by simp at e
  | _, _, 0, _, .cons h _, e => ⟨_, rfl, by cases e; exact h⟩
  | _, _, i + 1, d, .cons _ k, e => k.at (i := i) (d := d) e
theorem RpAll.at2 {G : Hp} : ∀ {vs : List V} {ds : List PyData} {i : Nat} {v : V}, RpAll G vs ds → vs[i]? = some v → ∃ d, ds[i]? = some d ∧ Rp G v d
  | _, _, _, _, .nil, e => by simp at e
  | _, _, 0, _, .cons h _, e => ⟨_, rfl, by cases e; exact h⟩
  | _, _, i + 1, v, .cons _ k, e => k.at2 (i := i) (v := v) e
theorem RpAll.app {G : Hp} : ∀ {vs ws : List V} {ds es : List PyData}, RpAll G vs ds → RpAll G ws es → RpAll G (vs ++ ws) (ds ++ es)
  | _, _, _, _, .nil, h => h
  | _, _, _, _, .cons h k, q => .cons h (k.app q)
theorem RpAll.take {G : Hp} : ∀ (n : Nat) {vs : List V} {ds : List PyData}, RpAll G vs ds → RpAll G (vs.take n) (ds.take n)
  | 0, _, _, _ => .nil
  | _ + 1, _, _, .nil => .nil
  | n + 1, _, _, .cons h k => .cons h (RpAll.take n k)
theorem RpAll.drop {G : Hp} : ∀ (n : Nat) {vs : List V} {ds : List PyData}, RpAll G vs ds → RpAll G (vs.drop n) (ds.drop n)
  | 0, _, _, h => h
  | _ + 1, _, _, .nil => .nil
  | n + 1, _, _, .cons _ k => RpAll.drop n k
theorem RpAll.set {G : Hp} {v : V} {d : PyData} (h : Rp G v d) : ∀ (n : Nat) {vs : List V} {ds : List PyData}, RpAll G vs ds → RpAll G (vs.set n v) (ds.set n d)
  | _, _, _, .nil => .nil
  | 0, _, _, .cons _ k => .cons h k
  | n + 1, _, _, .cons g k => .cons g (RpAll.set h n k)
theorem RpAll.rev {G : Hp} : ∀ {vs : List V} {ds : List PyData}, RpAll G vs ds → RpAll G vs.reverse ds.reverse
  | _, _, .nil => .nil
  | _, _, .cons h k => by
    rw [List.reverse_cons, List.reverse_cons]
    exact k.rev.app (.cons h .nil)
/-- lists of ints -/
def dI (l : List Int) : List PyData := l.map PyData.int
def dL (l : List Int) : PyData := .list (dI l)
theorem RpAll.ints {G : Hp} : ∀ {vs : List V} {l : List Int}, RpAll G vs (dI l) → vs = l.map V.int
  | _, [], h => by
    cases h
    rfl
  | _, i :: l, h => by
    cases h with
    | cons h k =>
      cases h
      rw [k.ints]
      rfl
theorem RpAll.of_ints {G : Hp} : ∀ (l : List Int), RpAll G (l.map V.int) (dI l)
  | [] => .nil
  | i :: l => .cons (.int i) (RpAll.of_ints l)
/-! ### how the heap goes on -/
structure Ext (G H G2 H2 : Hp) : Prop where
  gg : Same G G2
  hh : Same H H2
  gh : Same G2 H2
  ow : ∀ a, H a ≠ none → G a = none → G2 a = none
theorem Ext.refl {G H : Hp} (h : Same G H) : Ext G H G H := ⟨Same.refl G, Same.refl H, h, fun _ _ z => z⟩
theorem Ext.trans {G H G2 H2 G3 H3 : Hp} (a : Ext G H G2 H2) (b : Ext G2 H2 G3 H3) : Ext G H G3 H3 :=
  ⟨a.gg.trans b.gg, a.hh.trans b.hh, b.gh, fun p h z => b.ow p (fun e => h (a.hh.free e)) (a.ow p h z)⟩
theorem same_new {H : Hp} {p : Addr} {o : HO} (h : H p = none) : Same H (upd H p o) := fun b u e => by
  rw [upd_ne (ne_of_none e h)]
  exact e
/-- a still object is laid -/
theorem Ext.new {G H : Hp} {p : Addr} {o : HO} (e : Same G H) (h : H p = none) : Ext G H (upd G p o) (upd H p o) := by
  have g : G p = none := e.free h
  refine ⟨same_new g, same_new h, fun b u q => ?_, fun a q z => ?_⟩
  · by_cases hb : b = p
    · rw [hb, upd_same] at q
      rw [hb, upd_same]
      exact q
    · rw [upd_ne hb] at q
      rw [upd_ne hb]
      exact e b u q
  · by_cases ha : a = p
    · rw [ha] at q
      exact absurd h q
    · rw [upd_ne ha]
      exact z
/-- an object of one's own is laid -/
theorem Ext.own {G H : Hp} {p : Addr} {o : HO} (e : Same G H) (h : H p = none) : Ext G H G (upd H p o) :=
  ⟨Same.refl G, same_new h, e.trans (same_new h), fun _ _ z => z⟩
/-- an object of one's own is written -/
theorem Ext.put {G0 H0 G H : Hp} {p : Addr} {o : HO} (e : Ext G0 H0 G H) (h0 : H0 p = none) (g : G p = none) : Ext G0 H0 G (upd H p o) := by
  refine ⟨e.gg, fun b u q => ?_, fun b u q => ?_, e.ow⟩
  · rw [upd_ne (ne_of_none q h0)]
    exact e.hh b u q
  · rw [upd_ne (ne_of_none q g)]
    exact e.gh b u q
/-- .. grows still -/
theorem Ext.still {G0 H0 G H : Hp} {p : Addr} {o : HO} (e : Ext G0 H0 G H) (h0 : H0 p = none) (g : G p = none) (h : H p = some o) : Ext G0 H0 (upd G p o) H := by
  refine ⟨e.gg.trans (same_new g), e.hh, fun b u q => ?_, fun a q z => ?_⟩
  · by_cases hb : b = p
    · rw [hb, upd_same] at q
      rw [hb, h]
      exact q
    · rw [upd_ne hb] at q
      exact e.gh b u q
  · by_cases ha : a = p
    · rw [ha] at q
      exact absurd h0 q
    · rw [upd_ne ha]
      exact e.ow a q z
/-! ### what else is known: stays as the heap goes on -/
structure As where
  p : Hp → Hp → Prop
  st : ∀ {G H G2 H2 : Hp}, Same G H → Ext G H G2 H2 → p G H → p G2 H2
def As.top : As := ⟨fun _ _ => True, fun _ _ _ => True.intro⟩
def As.and (A B : As) : As := ⟨fun G H => A.p G H ∧ B.p G H, fun s e h => ⟨A.st s e h.1, B.st s e h.2⟩⟩
/-- a list of one's own -/
def As.lst (a : Addr) (ds : List PyData) : As := ⟨fun G H => G a = none ∧ ∃ xs, H a = some (.lst xs) ∧ RpAll G xs ds, fun s e h => by
  obtain ⟨g, xs, hx, k⟩ := h
  exact ⟨e.ow a (by rw [hx]; simp) g, xs, e.hh _ _ hx, k.mono e.gg⟩⟩
/-! ### the slots -/
inductive Sl where
  | no
  | d (x : PyData)
  | v (v : V)
def SlOk (G : Hp) : Sl → Option V → Prop
  | .no, _ => True
  | .d x, some v => Rp G v x
  | .d _, none => False
  | .v w, o => o = some w
theorem SlOk.mono {G G2 : Hp} (e : Same G G2) : ∀ {s : Sl} {o : Option V}, SlOk G s o → SlOk G2 s o
  | .no, _, _ => True.intro
  | .d _, some _, h => Rp.mono e h
  | .d _, none, h => h
  | .v _, _, h => h
def SR (G : Hp) : List Sl → L2.St → Prop
  | [], [] => True
  | s :: ρ, o :: σ => SlOk G s o ∧ SR G ρ σ
  | _, _ => False
theorem SR.mono {G G2 : Hp} (e : Same G G2) : ∀ {ρ : List Sl} {σ : L2.St}, SR G ρ σ → SR G2 ρ σ
  | [], [], _ => True.intro
  | _ :: _, _ :: _, h => ⟨h.1.mono e, SR.mono e h.2⟩
  | [], _ :: _, h => h.elim
  | _ :: _, [], h => h.elim
theorem SR.getD {G : Hp} : ∀ {ρ : List Sl} {σ : L2.St} {i : Nat} {x : PyData}, SR G ρ σ → ρ[i]? = some (.d x) → ∃ v, σ[i]? = some (some v) ∧ Rp G v x
  | [], [], _, _, _, e => by simp at e
  | s :: ρ, o :: σ, 0, x, h, e => by
    have e' : s = .d x := Option.some.inj e
    subst e'
    cases o with
    | none => exact h.1.elim
    | some v => exact ⟨v, rfl, h.1⟩
  | s :: ρ, o :: σ, i + 1, x, h, e => SR.getD (i := i) h.2 e
  | [], _ :: _, _, _, h, _ => h.elim
  | _ :: _, [], _, _, h, _ => h.elim
theorem SR.getV {G : Hp} : ∀ {ρ : List Sl} {σ : L2.St} {i : Nat} {v : V}, SR G ρ σ → ρ[i]? = some (.v v) → σ[i]? = some (some v)
  | [], [], _, _, _, e => by simp at e
  | s :: ρ, o :: σ, 0, v, h, e => by
    have e' : s = .v v := Option.some.inj e
    subst e'
    exact congrArg some h.1
  | s :: ρ, o :: σ, i + 1, v, h, e => SR.getV (i := i) h.2 e
  | [], _ :: _, _, _, h, _ => h.elim
  | _ :: _, [], _, _, h, _ => h.elim
theorem SR.set {G : Hp} {s : Sl} {o : Option V} (q : SlOk G s o) : ∀ {ρ : List Sl} {σ : L2.St} (i : Nat), SR G ρ σ → SR G (ρ.set i s) (σ.set i o)
  | [], [], _, _ => True.intro
  | _ :: _, _ :: _, 0, h => ⟨q, h.2⟩
  | _ :: _, _ :: _, i + 1, h => ⟨h.1, SR.set q i h.2⟩
  | [], _ :: _, _, h => h.elim
  | _ :: _, [], _, h => h.elim
/-- less is known -/
def SLe : List Sl → List Sl → Prop
  | [], [] => True
  | a :: r, b :: s => (a = .no ∨ a = b) ∧ SLe r s
  | _, _ => False
theorem SLe.refl : ∀ ρ : List Sl, SLe ρ ρ
  | [] => True.intro
  | _ :: r => ⟨.inr rfl, SLe.refl r⟩
theorem SR.weak {G : Hp} : ∀ {ρ ρ' : List Sl} {σ : L2.St}, SLe ρ' ρ → SR G ρ σ → SR G ρ' σ
  | [], [], [], _, _ => True.intro
  | b :: s, a :: r, o :: σ, l, h => ⟨by
      rcases l.1 with e | e
      · rw [e]
        exact True.intro
      · rw [e]
        exact h.1, SR.weak l.2 h.2⟩
  | [], _ :: _, _, l, _ => l.elim
  | _ :: _, [], _, l, _ => l.elim
  | [], [], _ :: _, _, h => h.elim
  | _ :: _, _ :: _, [], _, h => h.elim
/-- the slots at a def's entry -/
def ρ0 (ss : List Sl) (n : Nat) : List Sl := ss ++ List.replicate n .no
theorem SR.rest {G : Hp} : ∀ n : Nat, SR G (List.replicate n .no) (List.replicate n none)
  | 0 => True.intro
  | n + 1 => ⟨True.intro, SR.rest n⟩
def SlsOk (G : Hp) : List Sl → List V → Prop
  | [], [] => True
  | s :: ss, v :: vs => SlOk G s (some v) ∧ SlsOk G ss vs
  | _, _ => False
theorem SlsOk.len {G : Hp} : ∀ {ss : List Sl} {vs : List V}, SlsOk G ss vs → ss.length = vs.length
  | [], [], _ => rfl
  | _ :: _, _ :: _, h => congrArg Nat.succ (SlsOk.len h.2)
  | [], _ :: _, h => h.elim
  | _ :: _, [], h => h.elim
theorem SlsOk.mono {G G2 : Hp} (e : Same G G2) : ∀ {ss : List Sl} {vs : List V}, SlsOk G ss vs → SlsOk G2 ss vs
  | [], [], _ => True.intro
  | _ :: _, _ :: _, h => ⟨h.1.mono e, SlsOk.mono e h.2⟩
  | [], _ :: _, h => h.elim
  | _ :: _, [], h => h.elim
theorem SR.start {G : Hp} (n : Nat) : ∀ {ss : List Sl} {vs : List V}, SlsOk G ss vs → SR G (ρ0 ss n) (vs.map some ++ List.replicate n none)
  | [], [], _ => SR.rest n
  | _ :: _, _ :: _, h => ⟨h.1, SR.start n h.2⟩
  | [], _ :: _, h => h.elim
  | _ :: _, [], h => h.elim
theorem SlsOk.data {G : Hp} : ∀ {ds : List PyData} {vs : List V}, RpAll G vs ds → SlsOk G (ds.map Sl.d) vs
  | [], _, h => by
    cases h
    exact True.intro
  | d :: ds, _, h => by
    cases h with
    | cons h k => exact ⟨h, SlsOk.data k⟩
theorem SlsOk.rp {G : Hp} : ∀ {ds : List PyData} {vs : List V}, SlsOk G (ds.map Sl.d) vs → RpAll G vs ds
  | [], [], _ => .nil
  | _ :: _, _ :: _, h => .cons h.1 (SlsOk.rp h.2)
  | [], _ :: _, h => h.elim
  | _ :: _, [], h => h.elim
/-! ### the meanings themselves as readings -/
section
variable (X : Cx)
def WE (e : Expr) : TE := fun σ H Q => ∀ pins s, Inv X pins σ H s → wpAny (model X.prog X.w) X.A (eval e X.env) (EP X pins σ Q) X.xe s
def WT (e : Expr) : TT := fun σ H Q => ∀ pins s, Inv X pins σ H s → wpAny (model X.prog X.w) X.A (isTrue e X.env (eval e X.env)) (TP X pins σ Q) X.xe s
def WA (es : List Expr) : TA := fun σ H Q => ∀ pos pins s, Inv X pins σ H s → wpAny (model X.prog X.w) X.A (spliced (backTo pos (starEach es X.env))) (AP X pins σ Q) X.xe s
def WS (st : Stmt) : TS := fun D σ H => ∀ pins s, Inv X pins σ H s → wpAny (model X.prog X.w) X.A (exec st X.env) (SP X pins D) X.xe s
def WB (sts : List Stmt) : TS := fun D σ H => ∀ pins s, Inv X pins σ H s → wpAny (model X.prog X.w) X.A (execs sts X.env) (SP X pins D) X.xe s
def WG (tg : Expr) : TG := fun v σ H Q => ∀ pins s u, Inv X pins σ H s → RelV v u → wpAny (model X.prog X.w) X.A (assign tg X.env u) (fun _ s' => ∃ σ' H', Inv X pins σ' H' s' ∧ Q σ' H') X.xe s
def WI (tg iter : Expr) : TI := fun σ H R => ∀ pins s, Inv X pins σ H s → wpAny (model X.prog X.w) X.A (eval iter X.env) (fun v s1 => wpAny (model X.prog X.w) X.A (pyIter v) (PIE X pins σ tg R) X.xe s1) X.xe s
end
section
variable {X : Cx}
theorem we {e : Expr} : PE X e (WE X e) := ⟨fun pins s _ _ _ I h => h pins s I⟩
theorem wt {e : Expr} : PT X e (WT X e) := ⟨fun pins s _ _ _ I h => h pins s I⟩
theorem wa {es : List Expr} : PA X es (WA X es) := ⟨fun pos pins s _ _ _ I h => h pos pins s I⟩
theorem wS {st : Stmt} : PS X st (WS X st) := ⟨fun pins s _ _ _ I h => h pins s I⟩
theorem wb {sts : List Stmt} : PSs X sts (WB X sts) := ⟨fun pins s _ _ _ I h => h pins s I⟩
theorem wg {tg : Expr} : PG X tg (WG X tg) := ⟨fun pins s _ _ _ u _ I r h => h pins s u I r⟩
theorem wi {tg iter : Expr} : PI X tg iter (WI X tg iter) := ⟨fun pins s _ _ _ I h => h pins s I⟩
theorem we_of {e : Expr} {t : TE} {σ : L2.St} {H : Hp} {Q : VK} (p : PE X e t) (h : t σ H Q) : WE X e σ H Q := fun pins s I => p.run pins s σ H Q I h
theorem wt_of {e : Expr} {t : TT} {σ : L2.St} {H : Hp} {Q : Bool → Hp → Prop} (p : PT X e t) (h : t σ H Q) : WT X e σ H Q := fun pins s I => p.run pins s σ H Q I h
theorem wa_of {es : List Expr} {t : TA} {σ : L2.St} {H : Hp} {Q : List V → Hp → Prop} (p : PA X es t) (h : t σ H Q) : WA X es σ H Q := fun pos pins s I => p.run pos pins s σ H Q I h
theorem ws_of {st : Stmt} {t : TS} {σ : L2.St} {H : Hp} {D : Ends} (p : PS X st t) (h : t D σ H) : WS X st D σ H := fun pins s I => p.run pins s σ H D I h
theorem wb_of {sts : List Stmt} {t : TS} {σ : L2.St} {H : Hp} {D : Ends} (p : PSs X sts t) (h : t D σ H) : WB X sts D σ H := fun pins s I => p.run pins s σ H D I h
theorem wg_of {tg : Expr} {t : TG} {v : V} {σ : L2.St} {H : Hp} {Q : L2.St → Hp → Prop} (p : PG X tg t) (h : t v σ H Q) : WG X tg v σ H Q := fun pins s u I r => p.run pins s σ H v u Q I r h
theorem wi_of {tg iter : Expr} {t : TI} {σ : L2.St} {H : Hp} {R : It → Hp → Prop} (p : PI X tg iter t) (h : t σ H R) : WI X tg iter σ H R := fun pins s I => p.run pins s σ H R I h
theorem wb_cons {st : Stmt} {rest : List Stmt} {D : Ends} {σ : L2.St} {H : Hp} (h : WS X st { D with nx := fun σ' H' => WB X rest D σ' H' } σ H) : WB X (st :: rest) D σ H :=
  wb_of (pss_cons (wS (X := X) (st := st)) (wb (X := X) (sts := rest))) h
/-! ### expressions -/
/-- e gives the data d -/
def VE (X : Cx) (Φ : As) (ρ : List Sl) (e : Expr) (d : PyData) : Prop := ∀ σ G H, Same G H → SR G ρ σ → Φ.p G H → ∀ Q : VK, (∀ v G2 H2, Ext G H G2 H2 → Rp G2 v d → Q v H2) → WE X e σ H Q
/-- e gives just v -/
def VV (X : Cx) (Φ : As) (ρ : List Sl) (e : Expr) (v : V) : Prop := ∀ σ G H, Same G H → SR G ρ σ → Φ.p G H → ∀ Q : VK, (∀ G2 H2, Ext G H G2 H2 → Q v H2) → WE X e σ H Q
def VT (X : Cx) (Φ : As) (ρ : List Sl) (e : Expr) (b : Bool) : Prop := ∀ σ G H, Same G H → SR G ρ σ → Φ.p G H → ∀ Q : Bool → Hp → Prop, (∀ G2 H2, Ext G H G2 H2 → Q b H2) → WT X e σ H Q
def VA (X : Cx) (Φ : As) (ρ : List Sl) (es : List Expr) (ss : List Sl) : Prop := ∀ σ G H, Same G H → SR G ρ σ → Φ.p G H → ∀ Q : List V → Hp → Prop, (∀ vs G2 H2, Ext G H G2 H2 → SlsOk G2 ss vs → Q vs H2) → WA X es σ H Q
variable {Φ : As} {ρ : List Sl}
theorem v_name {x : Str} {pos : Pos} {d : PyData} (i : Nat) (hr : ρ[i]? = some (.d d)) (hN : X.N[i]? = some x := by rfl) (hv : Vis X.env.scope x := by first | exact Or.inl rfl | exact Or.inr (Or.inl rfl) | exact Or.inr (Or.inr rfl))
    (hd : (x == ("__debug__" : Str)) = false := by decide) (hcd : (x == ("__classdict__" : Str)) = false := by decide) : VE X Φ ρ (.Name x pos) d := fun σ G H s r f Q q => by
  obtain ⟨v, e, k⟩ := r.getD hr
  exact we_of (pe_var hN hv hd hcd) ⟨v, e, q v G H (Ext.refl s) k⟩
theorem vv_name {x : Str} {pos : Pos} {v : V} (i : Nat) (hr : ρ[i]? = some (.v v)) (hN : X.N[i]? = some x := by rfl) (hv : Vis X.env.scope x := by first | exact Or.inl rfl | exact Or.inr (Or.inl rfl) | exact Or.inr (Or.inr rfl))
    (hd : (x == ("__debug__" : Str)) = false := by decide) (hcd : (x == ("__classdict__" : Str)) = false := by decide) : VV X Φ ρ (.Name x pos) v := fun σ G H s r f Q q =>
  we_of (pe_var hN hv hd hcd) ⟨v, r.getV hr, q G H (Ext.refl s)⟩
theorem v_int {i : Int} {j : Nat} {pos : Pos} : VE X Φ ρ (.Constant (.int i) j pos) (.int i) := fun σ G H s _ _ Q q => we_of pe_int (q _ G H (Ext.refl s) (.int i))
theorem v_bool {b : Bool} {j : Nat} {pos : Pos} : VE X Φ ρ (.Constant (.bool b) j pos) (.bool b) := fun σ G H s _ _ Q q => we_of pe_bl (q _ G H (Ext.refl s) (.bl b))
theorem v_none {j : Nat} {pos : Pos} : VE X Φ ρ (.Constant .none j pos) .none := fun σ G H s _ _ Q q => we_of pe_non (q _ G H (Ext.refl s) .non)
theorem v_str {x : Str} {j : Nat} {pos : Pos} : VE X Φ ρ (.Constant (.str x) j pos) (.str x) := fun σ G H s _ _ Q q => we_of pe_str (q _ G H (Ext.refl s) (.str x))
/-- another word for the data -/
theorem VE.is {e : Expr} {d d' : PyData} (h : VE X Φ ρ e d) (q : d = d') : VE X Φ ρ e d' := q ▸ h
theorem VT.is {e : Expr} {b b' : Bool} (h : VT X Φ ρ e b) (q : b = b') : VT X Φ ρ e b' := q ▸ h
/-- an operation by values -/
def ROp (r : R2) (a b d : PyData) : Prop := ∀ v w G H, Same G H → Rp G v a → Rp G w b → ∀ Q : VK, (∀ z G2 H2, Ext G H G2 H2 → Rp G2 z d → Q z H2) → r v w H Q
theorem v_two {a b : Expr} {da db d : PyData} {r : R2} {σ : L2.St} {G H : Hp} {Q : VK} (ha : VE X Φ ρ a da) (hb : VE X Φ ρ b db) (hr : ROp r da db d) (s : Same G H) (k : SR G ρ σ) (f : Φ.p G H)
    (q : ∀ v G2 H2, Ext G H G2 H2 → Rp G2 v d → Q v H2) : tOp r (WE X a) (WE X b) σ H Q :=
  ha σ G H s k f _ fun v G1 H1 e1 r1 => hb σ G1 H1 e1.gh (k.mono e1.gg) (Φ.st s e1 f) _ fun w G2 H2 e2 r2 => hr v w G2 H2 e2.gh (r1.mono e2.gg) r2 Q fun z G3 H3 e3 r3 => q z G3 H3 ((e1.trans e2).trans e3) r3
theorem v_op {a b : Expr} {op : Operator} {r : R2} {da db d : PyData} {pos : Pos} (ho : OpR X (binaryOp op) r) (ha : VE X Φ ρ a da) (hb : VE X Φ ρ b db) (hr : ROp r da db d) : VE X Φ ρ (.BinOp a op b pos) d :=
  fun σ G H s k f Q q => we_of (pe_op ho we we) (v_two ha hb hr s k f q)
theorem v_cmp {a b : Expr} {op : CmpOp} {r : R2} {da db d : PyData} {pos : Pos} (ho : OpR X (compareOp op) r) (ha : VE X Φ ρ a da) (hb : VE X Φ ρ b db) (hr : ROp r da db d) (hm : behindInMarks op b = false) : VE X Φ ρ (.Compare a [op] [b] pos) d :=
  fun σ G H s k f Q q => we_of (pe_cmpR ho we we hm) (v_two ha hb hr s k f q)
theorem vt_cmp {a b : Expr} {op : CmpOp} {r : R2} {da db : PyData} {c : Bool} {pos : Pos} (ho : OpR X (compareOp op) r) (ha : VE X Φ ρ a da) (hb : VE X Φ ρ b db) (hr : ROp r da db (.bool c)) (hm : behindInMarks op b = false) : VT X Φ ρ (.Compare a [op] [b] pos) c :=
  fun σ G H s k f Q q => wt_of (pt_cmpR ho we we hm) (v_two (Q := fun x H' => ∃ k, x = .bl k ∧ Q k H') ha hb hr s k f fun v G2 H2 e rp => by
    cases rp
    exact ⟨c, rfl, q G2 H2 e⟩)
theorem r_ints {g : Int → Int → V} {i j : Int} {d : PyData} (h : ∀ G, Rp G (g i j) d) : ROp (rI0 g) (.int i) (.int j) d := fun v w G H s rv rw Q q => by
  cases rv
  cases rw
  exact ⟨i, j, rfl, rfl, q _ G H (Ext.refl s) (h G)⟩
theorem r_intsC {C : Int → Int → Prop} {g : Int → Int → V} {i j : Int} {d : PyData} (hc : C i j) (h : ∀ G, Rp G (g i j) d) : ROp (rI C g) (.int i) (.int j) d := fun v w G H s rv rw Q q => by
  cases rv
  cases rw
  exact ⟨i, j, rfl, rfl, hc, q _ G H (Ext.refl s) (h G)⟩
section
variable {a b : Expr} {i j : Int} {pos : Pos}
theorem v_add (ha : VE X Φ ρ a (.int i)) (hb : VE X Φ ρ b (.int j)) : VE X Φ ρ (.BinOp a .Add b pos) (.int (i + j)) := v_op op_add ha hb (r_ints fun _ => .int _)
theorem v_sub (ha : VE X Φ ρ a (.int i)) (hb : VE X Φ ρ b (.int j)) : VE X Φ ρ (.BinOp a .Sub b pos) (.int (i - j)) := v_op op_sub ha hb (r_ints fun _ => .int _)
theorem v_mul (ha : VE X Φ ρ a (.int i)) (hb : VE X Φ ρ b (.int j)) (hc : CMul i j) : VE X Φ ρ (.BinOp a .Mult b pos) (.int (i * j)) := v_op op_mul ha hb (r_intsC hc fun _ => .int _)
theorem v_div (ha : VE X Φ ρ a (.int i)) (hb : VE X Φ ρ b (.int j)) (hc : CDivW i j) : VE X Φ ρ (.BinOp a .FloorDiv b pos) (.int (i / j)) := v_op op_fdivW ha hb (r_intsC hc fun _ => .int _)
theorem vt_lt (ha : VE X Φ ρ a (.int i)) (hb : VE X Φ ρ b (.int j)) : VT X Φ ρ (.Compare a [.Lt] [b] pos) (decide (i < j)) := vt_cmp op_lt ha hb (r_ints fun _ => .bl _) (nomark _)
theorem vt_le (ha : VE X Φ ρ a (.int i)) (hb : VE X Φ ρ b (.int j)) : VT X Φ ρ (.Compare a [.LtE] [b] pos) (decide (i ≤ j)) := vt_cmp op_le ha hb (r_ints fun _ => .bl _) (nomark _)
theorem vt_gt (ha : VE X Φ ρ a (.int i)) (hb : VE X Φ ρ b (.int j)) : VT X Φ ρ (.Compare a [.Gt] [b] pos) (decide (j < i)) := vt_cmp op_gt ha hb (r_ints fun _ => .bl _) (nomark _)
theorem vt_ge (ha : VE X Φ ρ a (.int i)) (hb : VE X Φ ρ b (.int j)) : VT X Φ ρ (.Compare a [.GtE] [b] pos) (decide (j ≤ i)) := vt_cmp op_ge ha hb (r_ints fun _ => .bl _) (nomark _)
theorem v_lt (ha : VE X Φ ρ a (.int i)) (hb : VE X Φ ρ b (.int j)) : VE X Φ ρ (.Compare a [.Lt] [b] pos) (.bool (decide (i < j))) := v_cmp op_lt ha hb (r_ints fun _ => .bl _) (nomark _)
theorem v_le (ha : VE X Φ ρ a (.int i)) (hb : VE X Φ ρ b (.int j)) : VE X Φ ρ (.Compare a [.LtE] [b] pos) (.bool (decide (i ≤ j))) := v_cmp op_le ha hb (r_ints fun _ => .bl _) (nomark _)
theorem v_gt (ha : VE X Φ ρ a (.int i)) (hb : VE X Φ ρ b (.int j)) : VE X Φ ρ (.Compare a [.Gt] [b] pos) (.bool (decide (j < i))) := v_cmp op_gt ha hb (r_ints fun _ => .bl _) (nomark _)
theorem v_ge (ha : VE X Φ ρ a (.int i)) (hb : VE X Φ ρ b (.int j)) : VE X Φ ρ (.Compare a [.GtE] [b] pos) (.bool (decide (j ≤ i))) := v_cmp op_ge ha hb (r_ints fun _ => .bl _) (nomark _)
end
end
end K43
namespace K43
open PySem PySem.Spec PyProof.Rows L2
section
variable {X : Cx} {Φ : As} {ρ : List Sl} {a b e : Expr} {es : List Expr} {pos : Pos}
/-! ### arguments -/
theorem va_nil : VA X Φ ρ [] [] := fun σ G H s _ _ Q q => wa_of pa_nil (q [] G H (Ext.refl s) True.intro)
theorem va_cons {sl : Sl} {ss : List Sl} (h : ∀ σ G H, Same G H → SR G ρ σ → Φ.p G H → ∀ Q : VK, (∀ v G2 H2, Ext G H G2 H2 → SlOk G2 sl (some v) → Q v H2) → WE X e σ H Q) (k : VA X Φ ρ es ss)
    (hs : starEach (e :: es) X.env = (false, eval e X.env) :: starEach es X.env := by rfl) : VA X Φ ρ (e :: es) (sl :: ss) := fun σ G H s r f Q q =>
  wa_of (pa_cons we wa hs) (h σ G H s r f _ fun v G1 H1 e1 k1 => k σ G1 H1 e1.gh (r.mono e1.gg) (Φ.st s e1 f) _ fun vs G2 H2 e2 k2 => q (v :: vs) G2 H2 (e1.trans e2) ⟨k1.mono e2.gg, k2⟩)
theorem va_d {d : PyData} {ss : List Sl} (h : VE X Φ ρ e d) (k : VA X Φ ρ es ss) (hs : starEach (e :: es) X.env = (false, eval e X.env) :: starEach es X.env := by rfl) : VA X Φ ρ (e :: es) (.d d :: ss) :=
  va_cons (sl := .d d) (fun σ G H s r f Q q => h σ G H s r f Q q) k hs
theorem va_v {v : V} {ss : List Sl} (h : VV X Φ ρ e v) (k : VA X Φ ρ es ss) (hs : starEach (e :: es) X.env = (false, eval e X.env) :: starEach es X.env := by rfl) : VA X Φ ρ (e :: es) (.v v :: ss) :=
  va_cons (sl := .v v) (fun σ G H s r f Q q => h σ G H s r f Q fun G2 H2 e2 => q v G2 H2 e2 rfl) k hs
/-! ### new lists -/
def VN (X : Cx) (Φ : As) (ρ : List Sl) (e : Expr) (ds : List PyData) : Prop := ∀ σ G H, Same G H → SR G ρ σ → Φ.p G H → ∀ Q : VK,
  (∀ p xs G2 H2, Ext G H G2 H2 → H p = none → G2 p = none → H2 p = some (.lst xs) → RpAll G2 xs ds → Q (.ref p) H2) → WE X e σ H Q
theorem VN.ve {ds : List PyData} (h : VN X Φ ρ e ds) : VE X Φ ρ e (.list ds) := fun σ G H s r f Q q =>
  h σ G H s r f Q fun p xs G2 H2 e2 h0 g2 hp k => q _ (upd G2 p (.lst xs)) H2 (e2.still h0 g2 hp) (.lst upd_same (k.mono (same_new g2)))
theorem VN.is {ds ds' : List PyData} (h : VN X Φ ρ e ds) (q : ds = ds') : VN X Φ ρ e ds' := q ▸ h
/-- a new list laid last -/
theorem vn_fin {σ : L2.St} {G H G1 H1 : Hp} {xs : List V} {ds : List PyData} {Q : VK} (e1 : Ext G H G1 H1) (k : RpAll G1 xs ds)
    (q : ∀ p xs G2 H2, Ext G H G2 H2 → H p = none → G2 p = none → H2 p = some (.lst xs) → RpAll G2 xs ds → Q (.ref p) H2) : ∀ p, H1 p = none → Q (.ref p) (upd H1 p (.lst xs)) := fun p hp =>
  q p xs G1 _ (e1.trans (Ext.own e1.gh hp)) (e1.hh.free hp) (e1.gh.free hp) upd_same k
theorem vn_lst {ds : List PyData} (h : VA X Φ ρ es (ds.map Sl.d)) (hl : ds.length ≤ 100000 := by exact Nat.le_of_ble_eq_true rfl) : VN X Φ ρ (.List es pos) ds := fun σ G H s r f Q q =>
  we_of (pe_lst wa) (h σ G H s r f _ fun vs G1 H1 e1 k => ⟨by rw [← SlsOk.len k, List.length_map, sizeLine_eq]; omega, vn_fin (σ := σ) e1 k.rp q⟩)
theorem vn_cat {da db : List PyData} (ha : VE X Φ ρ a (.list da)) (hb : VE X Φ ρ b (.list db)) (hl : da.length + db.length ≤ 100000) : VN X Φ ρ (.BinOp a .Add b pos) (da ++ db) := fun σ G H s r f Q q =>
  we_of (pe_op op_cat we we) (ha σ G H s r f _ fun v G1 H1 e1 r1 => hb σ G1 H1 e1.gh (r.mono e1.gg) (Φ.st s e1 f) _ fun w G2 H2 e2 r2 => by
    cases r1 with
    | lst h1 k1 =>
      cases r2 with
      | lst h2 k2 =>
        exact ⟨_, _, _, _, rfl, rfl, e2.gh _ _ (e2.gg _ _ h1), e2.gh _ _ h2, by rw [k1.len, k2.len, sizeLine_eq]; omega, vn_fin (σ := σ) (e1.trans e2) ((k1.mono e2.gg).app k2) q⟩)
theorem rep_rp {G : Hp} {xs : List V} {ds : List PyData} (k : RpAll G xs ds) : ∀ n : Nat, RpAll G (List.flatten (List.replicate n xs)) (List.flatten (List.replicate n ds))
  | 0 => .nil
  | n + 1 => by
    rw [List.replicate_succ, List.replicate_succ, List.flatten_cons, List.flatten_cons]
    exact k.app (rep_rp k n)
theorem vn_rep {da : List PyData} {n : Nat} (ha : VE X Φ ρ a (.list da)) (hb : VE X Φ ρ b (.int n)) (hn : n ≤ 100000) (hl : da.length * n ≤ 100000) : VN X Φ ρ (.BinOp a .Mult b pos) (List.flatten (List.replicate n da)) := fun σ G H s r f Q q =>
  we_of (pe_op op_rep we we) (ha σ G H s r f _ fun v G1 H1 e1 r1 => hb σ G1 H1 e1.gh (r.mono e1.gg) (Φ.st s e1 f) _ fun w G2 H2 e2 r2 => by
    cases r1 with
    | lst h1 k1 =>
      cases r2 with
      | int =>
        refine ⟨_, _, _, rfl, rfl, e2.gh _ _ (e2.gg _ _ h1), by omega, by omega, by rw [Int.toNat_natCast, k1.len, sizeLine_eq]; omega, ?_⟩
        rw [Int.toNat_natCast]
        exact vn_fin (σ := σ) (e1.trans e2) (rep_rp (k1.mono e2.gg) n) q)
theorem vn_rev {ds : List PyData} {j : Nat} {p1 p2 p3 : Pos} (h : VE X Φ ρ e (.list ds)) : VN X Φ ρ (.Subscript e (.Slice none none (some (.UnaryOp .USub (.Constant (.int 1) j p1) p2)) p3) pos) ds.reverse := fun σ G H s r f Q q =>
  we_of (pe_revL we) (h σ G H s r f _ fun v G1 H1 e1 r1 => by
    cases r1 with
    | lst h1 k1 => exact ⟨_, _, rfl, SqL.of (e1.gh _ _ h1), vn_fin (σ := σ) e1 k1.rev q⟩)
/-- a slice's part -/
def VO (X : Cx) (Φ : As) (ρ : List Sl) (o : Option Expr) (x : Option Int) : Prop := match o, x with
  | none, none => True
  | some e, some i => VE X Φ ρ e (.int i)
  | _, _ => False
theorem vo_none : VO X Φ ρ none none := True.intro
theorem vo_some {e : Expr} {i : Int} (h : VE X Φ ρ e (.int i)) : VO X Φ ρ (some e) (some i) := h
theorem vo_go {o : Option Expr} {x : Option Int} (h : VO X Φ ρ o x) : ∃ t, PO X o t ∧ ∀ σ G H, Same G H → SR G ρ σ → Φ.p G H → ∀ Q : Option Int → Hp → Prop, (∀ G2 H2, Ext G H G2 H2 → Q x H2) → t σ H Q := by
  cases o with
  | none =>
    cases x with
    | none => exact ⟨_, po_none, fun σ G H s r f Q q => q G H (Ext.refl s)⟩
    | some i => exact h.elim
  | some e =>
    cases x with
    | none => exact h.elim
    | some i =>
      have h' : VE X Φ ρ e (.int i) := h
      exact ⟨_, po_some we, fun σ G H s r f Q q => h' σ G H s r f _ fun v G2 H2 e2 r2 => by
        cases r2
        exact ⟨i, rfl, q G2 H2 e2⟩⟩
/-- the items of a slice -/
def cutD {α : Type} (ds : List α) (lo hi : Option Int) : List α := (ds.drop (HT.sIx ds.length 0 lo)).take (HT.sIx ds.length ds.length hi - HT.sIx ds.length 0 lo)
theorem vn_sl {ds : List PyData} {lo hi : Option Expr} {x y : Option Int} {p2 : Pos} (h : VE X Φ ρ e (.list ds)) (hlo : VO X Φ ρ lo x) (hhi : VO X Φ ρ hi y) : VN X Φ ρ (.Subscript e (.Slice lo hi none p2) pos) (cutD ds x y) := by
  obtain ⟨tl, pl, gl⟩ := vo_go hlo
  obtain ⟨th, ph, gh⟩ := vo_go hhi
  refine fun σ G H s r f Q q => we_of (pe_slice sl_list we pl ph) (h σ G H s r f _ fun v G1 H1 e1 r1 => gl σ G1 H1 e1.gh (r.mono e1.gg) (Φ.st s e1 f) _ fun G2 H2 e2 =>
    gh σ G2 H2 e2.gh (r.mono (e1.trans e2).gg) (Φ.st s (e1.trans e2) f) _ fun G3 H3 e3 => ?_)
  cases r1 with
  | lst h1 k1 =>
    have e23 := e2.trans e3
    refine ⟨_, _, rfl, SqL.of (e3.gh _ _ (e23.gg _ _ h1)), vn_fin (σ := σ) (e1.trans e23) ?_ q⟩
    have := k1.len
    unfold cutV cutD
    rw [this]
    exact (((k1.mono e23.gg).drop _).take _)
theorem v_slS {z : List Nat} {lo hi : Option Expr} {x y : Option Int} {p2 : Pos} (h : VE X Φ ρ e (.str ⟨z.toArray⟩)) (hlo : VO X Φ ρ lo x) (hhi : VO X Φ ρ hi y) (hz : z.length ≤ 100000) :
    VE X Φ ρ (.Subscript e (.Slice lo hi none p2) pos) (.str ⟨(cutD z x y).toArray⟩) := by
  obtain ⟨tl, pl, gl⟩ := vo_go hlo
  obtain ⟨th, ph, gh⟩ := vo_go hhi
  refine fun σ G H s r f Q q => we_of (pe_slice sl_str we pl ph) (h σ G H s r f _ fun v G1 H1 e1 r1 => gl σ G1 H1 e1.gh (r.mono e1.gg) (Φ.st s e1 f) _ fun G2 H2 e2 =>
    gh σ G2 H2 e2.gh (r.mono (e1.trans e2).gg) (Φ.st s (e1.trans e2) f) _ fun G3 H3 e3 => ?_)
  cases r1 with
  | str =>
    refine ⟨_, rfl, ?_, q _ G3 H3 ((e1.trans e2).trans e3) (.str _)⟩
    show z.toArray.size ≤ sizeLine
    rw [List.size_toArray, sizeLine_eq]
    omega
/-! ### tuples, items -/
theorem v_tup {ds : List PyData} {k : Nat} (h : VA X Φ ρ es (ds.map Sl.d)) (hl : ds.length ≤ 100000 := by exact Nat.le_of_ble_eq_true rfl) : VE X Φ ρ (.Tuple es k pos) (.tuple ds) := fun σ G H s r f Q q =>
  we_of (pe_tup wa) (h σ G H s r f _ fun vs G1 H1 e1 k => ⟨by rw [← SlsOk.len k, List.length_map, sizeLine_eq]; omega, fun p hp =>
    q _ (upd G1 p (.tup vs)) _ (e1.trans (Ext.new e1.gh hp)) (.tup upd_same (k.rp.mono (same_new (e1.gh.free hp))))⟩)
theorem ix_rp {G : Hp} {xs : List V} {ds : List PyData} {i : Int} {d : PyData} (k : RpAll G xs ds) (h : atI ds i = some d) : ∃ v, atI xs i = some v ∧ Rp G v d := by
  unfold atI at h ⊢
  rw [k.len]
  cases e : ixN ds.length i with
  | none =>
    rw [e] at h
    cases h
  | some j =>
    rw [e] at h
    exact k.at h
theorem r_ixL {K : PySem.W.Frag} {ds : List PyData} {i : Int} {d : PyData} (h : atI ds i = some d) : ROp (rIxL K) (.list ds) (.int i) d := fun v w G H s rv rw Q q => by
  cases rv with
  | lst h1 k1 =>
    cases rw
    obtain ⟨x, hx, rx⟩ := ix_rp k1 h
    exact ⟨_, _, _, x, rfl, rfl, SqL.of (s _ _ h1), hx, q x G H (Ext.refl s) rx⟩
theorem r_ixT {K : PySem.W.Frag} {ds : List PyData} {i : Int} {d : PyData} (h : atI ds i = some d) : ROp (rIxT K) (.tuple ds) (.int i) d := fun v w G H s rv rw Q q => by
  cases rv with
  | tup h1 k1 =>
    cases rw
    obtain ⟨x, hx, rx⟩ := ix_rp k1 h
    exact ⟨_, _, _, x, rfl, rfl, SqT.of (s _ _ h1), hx, q x G H (Ext.refl s) rx⟩
theorem v_ixL {ds : List PyData} {i : Int} {d : PyData} (ha : VE X Φ ρ a (.list ds)) (hb : VE X Φ ρ b (.int i)) (h : atI ds i = some d) (hp : PlainIx b := by exact fun _ _ => rfl) : VE X Φ ρ (.Subscript a b pos) d :=
  fun σ G H s k f Q q => we_of (pe_ix ix_list we we hp) (v_two ha hb (r_ixL h) s k f q)
theorem v_ixT {ds : List PyData} {i : Int} {d : PyData} (ha : VE X Φ ρ a (.tuple ds)) (hb : VE X Φ ρ b (.int i)) (h : atI ds i = some d) (hp : PlainIx b := by exact fun _ _ => rfl) : VE X Φ ρ (.Subscript a b pos) d :=
  fun σ G H s k f Q q => we_of (pe_ix ix_tup we we hp) (v_two ha hb (r_ixT h) s k f q)
theorem v_ixS {z : List Nat} {i : Int} {c : Nat} (ha : VE X Φ ρ a (.str ⟨z.toArray⟩)) (hb : VE X Φ ρ b (.int i)) (hz : z.length ≤ 100000) (h : atI z i = some c) (hp : PlainIx b := by exact fun _ _ => rfl) : VE X Φ ρ (.Subscript a b pos) (.str ⟨[c].toArray⟩) :=
  fun σ G H s k f Q q => we_of (pe_ix ix_str we we hp) (v_two ha hb (fun v w G H s rv rw Q q => by
    cases rv
    cases rw
    refine ⟨_, i, c, rfl, rfl, ?_, h, q _ G H (Ext.refl s) (.str _)⟩
    show z.toArray.size ≤ sizeLine
    rw [List.size_toArray, sizeLine_eq]
    omega) s k f q)
/-! ### comparisons -/
theorem r_eqI {i j : Int} : ROp rEq (.int i) (.int j) (.bool (decide (i = j))) := fun v w G H s rv rw Q q => by
  cases rv
  cases rw
  refine ⟨rfl, ?_⟩
  have e : decide (V.int i = V.int j) = decide (i = j) := decide_eq_decide.mpr ⟨fun h => by injection h, fun h => by rw [h]⟩
  rw [e]
  exact q _ G H (Ext.refl s) (.bl _)
theorem r_neI {i j : Int} : ROp rNe (.int i) (.int j) (.bool (!decide (i = j))) := fun v w G H s rv rw Q q => by
  cases rv
  cases rw
  refine ⟨rfl, ?_⟩
  have e : decide (V.int i = V.int j) = decide (i = j) := decide_eq_decide.mpr ⟨fun h => by injection h, fun h => by rw [h]⟩
  rw [e]
  exact q _ G H (Ext.refl s) (.bl _)
theorem r_eqS {i j : Str} : ROp rEq (.str i) (.str j) (.bool (decide (i = j))) := fun v w G H s rv rw Q q => by
  cases rv
  cases rw
  refine ⟨rfl, ?_⟩
  have e : decide (V.str i = V.str j) = decide (i = j) := decide_eq_decide.mpr ⟨fun h => by injection h, fun h => by rw [h]⟩
  rw [e]
  exact q _ G H (Ext.refl s) (.bl _)
theorem r_neS {i j : Str} : ROp rNe (.str i) (.str j) (.bool (!decide (i = j))) := fun v w G H s rv rw Q q => by
  cases rv
  cases rw
  refine ⟨rfl, ?_⟩
  have e : decide (V.str i = V.str j) = decide (i = j) := decide_eq_decide.mpr ⟨fun h => by injection h, fun h => by rw [h]⟩
  rw [e]
  exact q _ G H (Ext.refl s) (.bl _)
theorem r_eqD {K : PySem.W.Frag} {x y : PyData} (hx : SeqAt.shaped x = true) (hy : SeqAt.shaped y = true) : ROp (rEqD K) x y (.bool (PyData.eqv x y)) := fun v w G H s rv rw Q q =>
  ⟨x, y, (rv.mono s).dp, (rw.mono s).dp, hx, hy, q _ G H (Ext.refl s) (.bl _)⟩
theorem r_neD {K : PySem.W.Frag} {x y : PyData} (hx : SeqAt.shaped x = true) (hy : SeqAt.shaped y = true) : ROp (rNeD K) x y (.bool (!PyData.eqv x y)) := fun v w G H s rv rw Q q =>
  ⟨x, y, (rv.mono s).dp, (rw.mono s).dp, hx, hy, q _ G H (Ext.refl s) (.bl _)⟩
theorem v_eqI {i j : Int} (ha : VE X Φ ρ a (.int i)) (hb : VE X Φ ρ b (.int j)) : VE X Φ ρ (.Compare a [.Eq] [b] pos) (.bool (decide (i = j))) := v_cmp op_eq ha hb r_eqI (nomark _)
theorem vt_eqI {i j : Int} (ha : VE X Φ ρ a (.int i)) (hb : VE X Φ ρ b (.int j)) : VT X Φ ρ (.Compare a [.Eq] [b] pos) (decide (i = j)) := vt_cmp op_eq ha hb r_eqI (nomark _)
theorem v_neI {i j : Int} (ha : VE X Φ ρ a (.int i)) (hb : VE X Φ ρ b (.int j)) : VE X Φ ρ (.Compare a [.NotEq] [b] pos) (.bool (!decide (i = j))) := v_cmp op_ne ha hb r_neI (nomark _)
theorem vt_neI {i j : Int} (ha : VE X Φ ρ a (.int i)) (hb : VE X Φ ρ b (.int j)) : VT X Φ ρ (.Compare a [.NotEq] [b] pos) (!decide (i = j)) := vt_cmp op_ne ha hb r_neI (nomark _)
theorem v_eqS {i j : Str} (ha : VE X Φ ρ a (.str i)) (hb : VE X Φ ρ b (.str j)) : VE X Φ ρ (.Compare a [.Eq] [b] pos) (.bool (decide (i = j))) := v_cmp op_eq ha hb r_eqS (nomark _)
theorem vt_eqS {i j : Str} (ha : VE X Φ ρ a (.str i)) (hb : VE X Φ ρ b (.str j)) : VT X Φ ρ (.Compare a [.Eq] [b] pos) (decide (i = j)) := vt_cmp op_eq ha hb r_eqS (nomark _)
theorem v_neS {i j : Str} (ha : VE X Φ ρ a (.str i)) (hb : VE X Φ ρ b (.str j)) : VE X Φ ρ (.Compare a [.NotEq] [b] pos) (.bool (!decide (i = j))) := v_cmp op_ne ha hb r_neS (nomark _)
theorem vt_neS {i j : Str} (ha : VE X Φ ρ a (.str i)) (hb : VE X Φ ρ b (.str j)) : VT X Φ ρ (.Compare a [.NotEq] [b] pos) (!decide (i = j)) := vt_cmp op_ne ha hb r_neS (nomark _)
theorem vt_eqD {x y : PyData} (hu : X.A.units + 64 < cLine) (ha : VE X Φ ρ a x) (hb : VE X Φ ρ b y) (hx : SeqAt.shaped x = true) (hy : SeqAt.shaped y = true) : VT X Φ ρ (.Compare a [.Eq] [b] pos) (PyData.eqv x y) := vt_cmp (op_eqD hu) ha hb (r_eqD hx hy) (nomark _)
theorem vt_neD {x y : PyData} (hu : X.A.units + 64 < cLine) (ha : VE X Φ ρ a x) (hb : VE X Φ ρ b y) (hx : SeqAt.shaped x = true) (hy : SeqAt.shaped y = true) : VT X Φ ρ (.Compare a [.NotEq] [b] pos) (!PyData.eqv x y) := vt_cmp (op_neD hu) ha hb (r_neD hx hy) (nomark _)
/-- is None, is not None -/
def isN : PyData → Bool
  | .none => true
  | _ => false
theorem isN_rp {G : Hp} {v : V} {d : PyData} (r : Rp G v d) : decide (v = .non) = isN d := by cases r <;> rfl
theorem vt_isN {d : PyData} {j : Nat} {p : Pos} (ha : VE X Φ ρ a d) : VT X Φ ρ (.Compare a [.Is] [.Constant .none j p] pos) (isN d) :=
  vt_cmp op_isN ha v_none (fun v w G H s rv rw Q q => by
    cases rw
    refine ⟨rfl, ?_⟩
    rw [isN_rp rv]
    exact q _ G H (Ext.refl s) (.bl _)) (nomark _)
theorem vt_notN {d : PyData} {j : Nat} {p : Pos} (ha : VE X Φ ρ a d) : VT X Φ ρ (.Compare a [.IsNot] [.Constant .none j p] pos) (!isN d) :=
  vt_cmp op_notN ha v_none (fun v w G H s rv rw Q q => by
    cases rw
    refine ⟨rfl, ?_⟩
    rw [isN_rp rv]
    exact q _ G H (Ext.refl s) (.bl _)) (nomark _)
theorem v_mod {i j : Int} (ha : VE X Φ ρ a (.int i)) (hb : VE X Φ ρ b (.int j)) (hj : 0 < j) : VE X Φ ρ (.BinOp a .Mod b pos) (.int (i % j)) :=
  v_op op_modN ha hb (r_intsC (by show j ≠ 0; omega) fun _ => by rw [Int.fmod_eq_emod_of_nonneg i (by omega)]; exact .int _)
theorem v_addS {i j : List Nat} (ha : VE X Φ ρ a (.str ⟨i.toArray⟩)) (hb : VE X Φ ρ b (.str ⟨j.toArray⟩)) (hl : i.length + j.length ≤ 100000) : VE X Φ ρ (.BinOp a .Add b pos) (.str ⟨(i ++ j).toArray⟩) :=
  v_op op_add_str ha hb fun v w G H s rv rw Q q => by
    cases rv
    cases rw
    refine ⟨_, _, rfl, rfl, ?_, ?_⟩
    · show i.toArray.size + j.toArray.size ≤ sizeLine
      rw [List.size_toArray, List.size_toArray, sizeLine_eq]
      omega
    · have e : (⟨i.toArray⟩ ++ ⟨j.toArray⟩ : Str) = ⟨(i ++ j).toArray⟩ := by
        show (⟨i.toArray ++ j.toArray⟩ : Str) = _
        simp
      rw [e]
      exact q _ G H (Ext.refl s) (.str _)
theorem v_pow {i j : Int} (ha : VE X Φ ρ a (.int i)) (hb : VE X Φ ρ b (.int j)) (h : CPow i j) : VE X Φ ρ (.BinOp a .Pow b pos) (.int (i ^ j.toNat)) := v_op op_pow ha hb (r_intsC h fun _ => .int _)
theorem v_neg {i : Int} (ha : VE X Φ ρ a (.int i)) : VE X Φ ρ (.UnaryOp .USub a pos) (.int (-i)) := fun σ G H s r f Q q =>
  we_of (pe_un un_neg we) (ha σ G H s r f _ fun v G1 H1 e1 r1 => by
    cases r1
    exact ⟨i, rfl, q _ G1 H1 e1 (.int _)⟩)
/-! ### tests -/
theorem vt_val {c : Bool} (h : VE X Φ ρ e (.bool c)) (he : ∀ whole, isTrue e X.env whole = (do let v ← whole; standAt e.pos; holding [v] (truthy v)) := by intro _; rfl) : VT X Φ ρ e c := fun σ G H s r f Q q =>
  wt_of (pt_val we he) (h σ G H s r f _ fun v G1 H1 e1 r1 => by
    cases r1
    exact ⟨c, rfl, q G1 H1 e1⟩)
theorem vt_not {c : Bool} (h : VT X Φ ρ e c) : VT X Φ ρ (.UnaryOp .Not e pos) (!c) := fun σ G H s r f Q q =>
  wt_of (pt_not wt) (h σ G H s r f _ fun G1 H1 e1 => q G1 H1 e1)
/-- and, or: whatever the whole is -/
def VW (X : Cx) (Φ : As) (ρ : List Sl) (e : Expr) (b : Bool) : Prop := ∀ σ G H, Same G H → SR G ρ σ → Φ.p G H → ∀ Q : Bool → Hp → Prop, (∀ G2 H2, Ext G H G2 H2 → Q b H2) →
  ∀ whole pins s, Inv X pins σ H s → wpAny (model X.prog X.w) X.A (isTrue e X.env whole) (TP X pins σ Q) X.xe s
theorem VW.vt {c : Bool} (h : VW X Φ ρ e c) : VT X Φ ρ e c := fun σ G H s r f Q q pins s' I => h σ G H s r f Q q _ pins s' I
theorem vw_and1 {c : Bool} (h : VT X Φ ρ a c) : VW X Φ ρ (.BoolOp .And [a] pos) c := fun σ G H s r f Q q whole pins s' I =>
  (pw_and1 (wt (X := X) (e := a))).run whole pins s' σ H Q I (h σ G H s r f Q q)
theorem vw_or1 {c : Bool} (h : VT X Φ ρ a c) : VW X Φ ρ (.BoolOp .Or [a] pos) c := fun σ G H s r f Q q whole pins s' I =>
  (pw_or1 (wt (X := X) (e := a))).run whole pins s' σ H Q I (h σ G H s r f Q q)
theorem vw_and {c d : Bool} {rest : List Expr} (h : VT X Φ ρ a c) (k : c = true → VW X Φ ρ (.BoolOp .And (b :: rest) pos) d) : VW X Φ ρ (.BoolOp .And (a :: b :: rest) pos) (c && d) := fun σ G H s r f Q q whole pins s' I =>
  (pw_and (wt (X := X) (e := a)) (tB' := fun σ H Q => ∀ whole pins s, Inv X pins σ H s → wpAny (model X.prog X.w) X.A (isTrue (.BoolOp .And (b :: rest) pos) X.env whole) (TP X pins σ Q) X.xe s)
    ⟨fun whole pins s σ H Q I z => z whole pins s I⟩).run whole pins s' σ H Q I (h σ G H s r f _ fun G1 H1 e1 => by
      cases c with
      | true => exact k rfl σ G1 H1 e1.gh (r.mono e1.gg) (Φ.st s e1 f) Q fun G2 H2 e2 => q G2 H2 (e1.trans e2)
      | false => exact q G1 H1 e1)
theorem vw_or {c d : Bool} {rest : List Expr} (h : VT X Φ ρ a c) (k : c = false → VW X Φ ρ (.BoolOp .Or (b :: rest) pos) d) : VW X Φ ρ (.BoolOp .Or (a :: b :: rest) pos) (c || d) := fun σ G H s r f Q q whole pins s' I =>
  (pw_or (wt (X := X) (e := a)) (tB' := fun σ H Q => ∀ whole pins s, Inv X pins σ H s → wpAny (model X.prog X.w) X.A (isTrue (.BoolOp .Or (b :: rest) pos) X.env whole) (TP X pins σ Q) X.xe s)
    ⟨fun whole pins s σ H Q I z => z whole pins s I⟩).run whole pins s' σ H Q I (h σ G H s r f _ fun G1 H1 e1 => by
      cases c with
      | false => exact k rfl σ G1 H1 e1.gh (r.mono e1.gg) (Φ.st s e1 f) Q fun G2 H2 e2 => q G2 H2 (e1.trans e2)
      | true => exact q G1 H1 e1)
/-- .. as values of truth -/
theorem v_one {op : BoolOp} {d : PyData} (h : VE X Φ ρ a d) : VE X Φ ρ (.BoolOp op [a] pos) d := fun σ G H s r f Q q => we_of (pe_one we) (h σ G H s r f Q q)
theorem v_and {c : Bool} {d : Bool} {rest : List Expr} (h : VE X Φ ρ a (.bool c)) (k : c = true → VE X Φ ρ (.BoolOp .And (b :: rest) pos) (.bool d)) : VE X Φ ρ (.BoolOp .And (a :: b :: rest) pos) (.bool (c && d)) := fun σ G H s r f Q q =>
  we_of (pe_and we we) (h σ G H s r f _ fun v G1 H1 e1 r1 => by
    cases r1
    refine ⟨c, rfl, ?_⟩
    cases c with
    | true => exact k rfl σ G1 H1 e1.gh (r.mono e1.gg) (Φ.st s e1 f) Q fun v G2 H2 e2 r2 => q v G2 H2 (e1.trans e2) r2
    | false => exact q _ G1 H1 e1 (.bl _))
theorem v_or {c : Bool} {d : Bool} {rest : List Expr} (h : VE X Φ ρ a (.bool c)) (k : c = false → VE X Φ ρ (.BoolOp .Or (b :: rest) pos) (.bool d)) : VE X Φ ρ (.BoolOp .Or (a :: b :: rest) pos) (.bool (c || d)) := fun σ G H s r f Q q =>
  we_of (pe_or we we) (h σ G H s r f _ fun v G1 H1 e1 r1 => by
    cases r1
    refine ⟨c, rfl, ?_⟩
    cases c with
    | false => exact k rfl σ G1 H1 e1.gh (r.mono e1.gg) (Φ.st s e1 f) Q fun v G2 H2 e2 r2 => q v G2 H2 (e1.trans e2) r2
    | true => exact q _ G1 H1 e1 (.bl _))
theorem v_not {c : Bool} (h : VE X Φ ρ a (.bool c)) : VE X Φ ρ (.UnaryOp .Not a pos) (.bool (!c)) := fun σ G H s r f Q q =>
  we_of (pe_not we) (h σ G H s r f _ fun v G1 H1 e1 r1 => by
    cases r1
    exact ⟨c, rfl, q _ G1 H1 e1 (.bl _)⟩)
/-- a <= b <= c, of ints -/
theorem v_chain {c : Expr} {i j k : Int} (ha : VE X Φ ρ a (.int i)) (hb : VE X Φ ρ b (.int j)) (hc : VE X Φ ρ c (.int k)) (hm : lastMarks [.LtE, .LtE] [b, c] = false := by with_unfolding_all rfl) :
    VE X Φ ρ (.Compare a [.LtE, .LtE] [b, c] pos) (.bool (decide (i ≤ j) && decide (j ≤ k))) := fun σ G H s r f Q q =>
  we_of (pe_chain op_le op_le we we we hm) (ha σ G H s r f _ fun v G1 H1 e1 r1 => hb σ G1 H1 e1.gh (r.mono e1.gg) (Φ.st s e1 f) _ fun w G2 H2 e2 r2 => by
    cases r1
    cases r2
    refine ⟨i, j, rfl, rfl, _, rfl, ?_⟩
    by_cases h : i ≤ j
    · rw [decide_eq_true h]
      refine iteT (hc σ G2 H2 e2.gh (r.mono (e1.trans e2).gg) (Φ.st s (e1.trans e2) f) _ fun z G3 H3 e3 r3 => ?_)
      cases r3
      refine ⟨j, k, rfl, rfl, q _ G3 H3 ((e1.trans e2).trans e3) ?_⟩
      rw [decide_eq_true h]
      exact .bl _
    · rw [decide_eq_false h]
      refine iteF (q _ G2 H2 (e1.trans e2) ?_)
      rw [decide_eq_false h]
      exact .bl _)
theorem vt_chain {c : Expr} {i j k : Int} (ha : VE X Φ ρ a (.int i)) (hb : VE X Φ ρ b (.int j)) (hc : VE X Φ ρ c (.int k)) (hm : lastMarks [.LtE, .LtE] [b, c] = false := by with_unfolding_all rfl) :
    VT X Φ ρ (.Compare a [.LtE, .LtE] [b, c] pos) (decide (i ≤ j) && decide (j ≤ k)) := fun σ G H s r f Q q =>
  wt_of (pt_chain op_le op_le we we we hm) (ha σ G H s r f _ fun v G1 H1 e1 r1 => hb σ G1 H1 e1.gh (r.mono e1.gg) (Φ.st s e1 f) _ fun w G2 H2 e2 r2 => by
    cases r1
    cases r2
    refine ⟨i, j, rfl, rfl, _, rfl, ?_⟩
    by_cases h : i ≤ j
    · rw [decide_eq_true h]
      refine iteT (hc σ G2 H2 e2.gh (r.mono (e1.trans e2).gg) (Φ.st s (e1.trans e2) f) _ fun z G3 H3 e3 r3 => ?_)
      cases r3
      refine ⟨j, k, rfl, rfl, _, rfl, ?_⟩
      have := q G3 H3 ((e1.trans e2).trans e3)
      rw [decide_eq_true h] at this
      exact this
    · rw [decide_eq_false h]
      refine iteF ⟨_, rfl, ?_⟩
      have := q G2 H2 (e1.trans e2)
      rw [decide_eq_false h] at this
      exact this)
end
end K43
namespace K43
open PySem PySem.Spec PyProof.Rows L2
/-- the built-ins that the text reads are no globals of its own -/
structure Bl (mg : Str → Option Value) : Prop where
  len : mg "len" = none
  range : mg "range" = none
  «sorted» : mg "sorted" = none
  abs : mg "abs" = none
  int : mg "int" = none
  max : mg "max" = none
  min : mg "min" = none
  list : mg "list" = none
  isinstance : mg "isinstance" = none
  all : mg "all" = none
  enumerate : mg "enumerate" = none
  str : mg "str" = none
  bool : mg "bool" = none
  valueError : mg "ValueError" = none
  super : mg "super" = none
section
variable {X : Cx} {Φ : As} {ρ : List Sl} {a b e : Expr} {es : List Expr} {pos p : Pos}
/-- a call of a built-in function by what it gives -/
theorem v_blt {x : Str} {id : String} {r : List V → Hp → VK → Prop} {ss : List Sl} {d : PyData} (hc : CallR X (.builtin id) r) (hg : Gl X x) (hm : X.mg x = none) (hv : bootBuiltins x = some (.builtin id)) (ha : VA X Φ ρ (e :: es) ss)
    (hr : ∀ vs G H, Same G H → SlsOk G ss vs → ∀ Q : VK, (∀ z G2 H2, Ext G H G2 H2 → Rp G2 z d → Q z H2) → r vs H Q) (hn : x ≠ "__name__" := by decide) (hdb : (x == ("__debug__" : Str)) = false := by decide)
    (he : starEach (e :: es) X.env = (false, eval e X.env) :: starEach es X.env := by rfl) (hpl : (backTo pos (starEach es X.env)).any (·.1) = false := by rfl) : VE X Φ ρ (.Call (.Name x p) (e :: es) [] pos) d := fun σ G H s k f Q q =>
  we_of (pe_callB hc hg hm hv wa hn hdb he hpl) (ha σ G H s k f _ fun vs G1 H1 e1 k1 => hr vs G1 H1 e1.gh k1 Q fun z G2 H2 e2 rz => q z G2 H2 (e1.trans e2) rz)
theorem v_bty {x : Str} {id : String} {r : List V → Hp → VK → Prop} {ss : List Sl} {d : PyData} (hc : CallR X (.type id) r) (hg : Gl X x) (hm : X.mg x = none) (hv : bootBuiltins x = some (.type id)) (ha : VA X Φ ρ (e :: es) ss)
    (hr : ∀ vs G H, Same G H → SlsOk G ss vs → ∀ Q : VK, (∀ z G2 H2, Ext G H G2 H2 → Rp G2 z d → Q z H2) → r vs H Q) (hn : x ≠ "__name__" := by decide) (hdb : (x == ("__debug__" : Str)) = false := by decide)
    (he : starEach (e :: es) X.env = (false, eval e X.env) :: starEach es X.env := by rfl) (hpl : (backTo pos (starEach es X.env)).any (·.1) = false := by rfl) : VE X Φ ρ (.Call (.Name x p) (e :: es) [] pos) d := fun σ G H s k f Q q =>
  we_of (pe_callTy hc hg hm hv wa hn hdb he hpl) (ha σ G H s k f _ fun vs G1 H1 e1 k1 => hr vs G1 H1 e1.gh k1 Q fun z G2 H2 e2 rz => q z G2 H2 (e1.trans e2) rz)
/-- .. that gives a new list -/
theorem vn_blt {x : Str} {id : String} {r : List V → Hp → VK → Prop} {ss : List Sl} {ds : List PyData} (hc : CallR X (.builtin id) r) (hg : Gl X x) (hm : X.mg x = none) (hv : bootBuiltins x = some (.builtin id)) (ha : VA X Φ ρ (e :: es) ss)
    (hr : ∀ vs G H, Same G H → SlsOk G ss vs → ∀ Q : VK, (∀ xs, RpAll G xs ds → ∀ p, H p = none → Q (.ref p) (upd H p (.lst xs))) → r vs H Q) (hn : x ≠ "__name__" := by decide) (hdb : (x == ("__debug__" : Str)) = false := by decide)
    (he : starEach (e :: es) X.env = (false, eval e X.env) :: starEach es X.env := by rfl) (hpl : (backTo pos (starEach es X.env)).any (·.1) = false := by rfl) : VN X Φ ρ (.Call (.Name x p) (e :: es) [] pos) ds := fun σ G H s k f Q q =>
  we_of (pe_callB hc hg hm hv wa hn hdb he hpl) (ha σ G H s k f _ fun vs G1 H1 e1 k1 => hr vs G1 H1 e1.gh k1 Q fun xs kx => vn_fin (σ := σ) e1 kx q)
theorem vn_bty {x : Str} {id : String} {r : List V → Hp → VK → Prop} {ss : List Sl} {ds : List PyData} (hc : CallR X (.type id) r) (hg : Gl X x) (hm : X.mg x = none) (hv : bootBuiltins x = some (.type id)) (ha : VA X Φ ρ (e :: es) ss)
    (hr : ∀ vs G H, Same G H → SlsOk G ss vs → ∀ Q : VK, (∀ xs, RpAll G xs ds → ∀ p, H p = none → Q (.ref p) (upd H p (.lst xs))) → r vs H Q) (hn : x ≠ "__name__" := by decide) (hdb : (x == ("__debug__" : Str)) = false := by decide)
    (he : starEach (e :: es) X.env = (false, eval e X.env) :: starEach es X.env := by rfl) (hpl : (backTo pos (starEach es X.env)).any (·.1) = false := by rfl) : VN X Φ ρ (.Call (.Name x p) (e :: es) [] pos) ds := fun σ G H s k f Q q =>
  we_of (pe_callTy hc hg hm hv wa hn hdb he hpl) (ha σ G H s k f _ fun vs G1 H1 e1 k1 => hr vs G1 H1 e1.gh k1 Q fun xs kx => vn_fin (σ := σ) e1 kx q)
theorem sls1 {G : Hp} {d : PyData} {vs : List V} (h : SlsOk G [.d d] vs) : ∃ v, vs = [v] ∧ Rp G v d := by
  cases vs with
  | nil => exact h.elim
  | cons v r =>
    cases r with
    | nil => exact ⟨v, rfl, h.1⟩
    | cons _ _ => exact h.2.elim
theorem sls2 {G : Hp} {c d : PyData} {vs : List V} (h : SlsOk G [.d c, .d d] vs) : ∃ v w, vs = [v, w] ∧ Rp G v c ∧ Rp G w d := by
  cases vs with
  | nil => exact h.elim
  | cons v r =>
    obtain ⟨w, e, k⟩ := sls1 h.2
    exact ⟨v, w, by rw [e], h.1, k⟩
variable (B : Bl X.mg)
include B
theorem v_lenL {ds : List PyData} (ha : VE X Φ ρ a (.list ds)) (hg : Gl X "len" := by rfl) (he : starEach [a] X.env = (false, eval a X.env) :: starEach [] X.env := by rfl) : VE X Φ ρ (.Call (.Name "len" p) [a] [] pos) (.int ds.length) :=
  v_blt (d := .int ds.length) call_len hg B.len (by decide +kernel) (va_d ha va_nil he) (fun vs G H s k Q q => by
    obtain ⟨v, rfl, r⟩ := sls1 k
    cases r with
    | lst h k => exact ⟨_, _, rfl, Or.inl ⟨_, SqL.of (s _ _ h), rfl⟩, q _ G H (Ext.refl s) (by rw [k.len]; exact .int _)⟩) (by decide) (by decide) he
theorem v_lenT {ds : List PyData} (ha : VE X Φ ρ a (.tuple ds)) (hg : Gl X "len" := by rfl) (he : starEach [a] X.env = (false, eval a X.env) :: starEach [] X.env := by rfl) : VE X Φ ρ (.Call (.Name "len" p) [a] [] pos) (.int ds.length) :=
  v_blt (d := .int ds.length) call_len hg B.len (by decide +kernel) (va_d ha va_nil he) (fun vs G H s k Q q => by
    obtain ⟨v, rfl, r⟩ := sls1 k
    cases r with
    | tup h k => exact ⟨_, _, rfl, Or.inr ⟨_, SqT.of (s _ _ h), rfl⟩, q _ G H (Ext.refl s) (by rw [k.len]; exact .int _)⟩) (by decide) (by decide) he
theorem v_lenS {z : List Nat} (ha : VE X Φ ρ a (.str ⟨z.toArray⟩)) (hz : z.length ≤ 100000) (hg : Gl X "len" := by rfl) (he : starEach [a] X.env = (false, eval a X.env) :: starEach [] X.env := by rfl) : VE X Φ ρ (.Call (.Name "len" p) [a] [] pos) (.int z.length) :=
  v_blt (d := .int z.length) call_len hg B.len (by decide +kernel) (va_d ha va_nil he) (fun vs G H s k Q q => by
    obtain ⟨v, rfl, r⟩ := sls1 k
    cases r
    have e : (⟨z.toArray⟩ : Str).length = z.length := List.size_toArray ..
    exact ⟨_, z.length, rfl, ⟨by rw [e, sizeLine_eq]; omega, e.symm⟩, q _ G H (Ext.refl s) (.int _)⟩) (by decide) (by decide) he
theorem v_abs {i : Int} (ha : VE X Φ ρ a (.int i)) (hg : Gl X "abs" := by rfl) (he : starEach [a] X.env = (false, eval a X.env) :: starEach [] X.env := by rfl) : VE X Φ ρ (.Call (.Name "abs" p) [a] [] pos) (.int (if i < 0 then -i else i)) :=
  v_blt call_abs hg B.abs (by decide +kernel) (va_d ha va_nil he) (fun vs G H s k Q q => by
    obtain ⟨v, rfl, r⟩ := sls1 k
    cases r
    exact ⟨i, rfl, q _ G H (Ext.refl s) (.int _)⟩) (by decide) (by decide) he
theorem v_intI {i : Int} (ha : VE X Φ ρ a (.int i)) (hg : Gl X "int" := by rfl) (he : starEach [a] X.env = (false, eval a X.env) :: starEach [] X.env := by rfl) : VE X Φ ρ (.Call (.Name "int" p) [a] [] pos) (.int i) :=
  v_bty call_int1 hg B.int (by decide +kernel) (va_d ha va_nil he) (fun vs G H s k Q q => by
    obtain ⟨v, rfl, r⟩ := sls1 k
    cases r
    exact Or.inl ⟨i, rfl, q _ G H (Ext.refl s) (.int _)⟩) (by decide) (by decide) he
theorem v_intB {c : Bool} (ha : VE X Φ ρ a (.bool c)) (hg : Gl X "int" := by rfl) (he : starEach [a] X.env = (false, eval a X.env) :: starEach [] X.env := by rfl) : VE X Φ ρ (.Call (.Name "int" p) [a] [] pos) (.int (if c then 1 else 0)) :=
  v_bty call_int1 hg B.int (by decide +kernel) (va_d ha va_nil he) (fun vs G H s k Q q => by
    obtain ⟨v, rfl, r⟩ := sls1 k
    cases r
    exact Or.inr ⟨c, rfl, q _ G H (Ext.refl s) (.int _)⟩) (by decide) (by decide) he
theorem v_max2 {i j : Int} (hc : X.calm = true) (ha : VE X Φ ρ a (.int i)) (hb : VE X Φ ρ b (.int j)) (hg : Gl X "max" := by rfl) (he : starEach [a, b] X.env = (false, eval a X.env) :: starEach [b] X.env := by rfl)
    (he2 : starEach [b] X.env = (false, eval b X.env) :: starEach [] X.env := by rfl) (hpl : (backTo pos (starEach [b] X.env)).any (·.1) = false := by rfl) : VE X Φ ρ (.Call (.Name "max" p) [a, b] [] pos) (.int (if j > i then j else i)) :=
  v_blt (call_max2 hc) hg B.max (by decide +kernel) (va_d ha (va_d hb va_nil he2) he) (fun vs G H s k Q q => by
    obtain ⟨v, w, rfl, r1, r2⟩ := sls2 k
    cases r1
    cases r2
    exact ⟨i, j, rfl, q _ G H (Ext.refl s) (.int _)⟩) (by decide) (by decide) he hpl
theorem v_maxL {l : List Int} {m : Int} (hc : X.calm = true) (ha : VE X Φ ρ a (dL l)) (hm : m ∈ l) (hx : ∀ y ∈ l, y ≤ m) (hg : Gl X "max" := by rfl) (he : starEach [a] X.env = (false, eval a X.env) :: starEach [] X.env := by rfl) : VE X Φ ρ (.Call (.Name "max" p) [a] [] pos) (.int m) :=
  v_blt (cr_max hc) hg B.max (by decide +kernel) (va_d ha va_nil he) (fun vs G H s k Q q => by
    obtain ⟨v, rfl, r⟩ := sls1 k
    cases r with
    | lst h k =>
      have e := k.ints
      subst e
      exact ⟨_, l, rfl, SqL.of (s _ _ h), List.length_pos_of_mem hm, fun m' h1 h2 => by
        rw [Int.le_antisymm (hx m' h1) (h2 m hm)]
        exact q _ G H (Ext.refl s) (.int _)⟩) (by decide) (by decide) he
theorem v_minL {l : List Int} {m : Int} (hc : X.calm = true) (ha : VE X Φ ρ a (dL l)) (hm : m ∈ l) (hx : ∀ y ∈ l, m ≤ y) (hg : Gl X "min" := by rfl) (he : starEach [a] X.env = (false, eval a X.env) :: starEach [] X.env := by rfl) : VE X Φ ρ (.Call (.Name "min" p) [a] [] pos) (.int m) :=
  v_blt (cr_min hc) hg B.min (by decide +kernel) (va_d ha va_nil he) (fun vs G H s k Q q => by
    obtain ⟨v, rfl, r⟩ := sls1 k
    cases r with
    | lst h k =>
      have e := k.ints
      subst e
      exact ⟨_, l, rfl, SqL.of (s _ _ h), List.length_pos_of_mem hm, fun m' h1 h2 => by
        rw [Int.le_antisymm (h2 m hm) (hx m' h1)]
        exact q _ G H (Ext.refl s) (.int _)⟩) (by decide) (by decide) he
theorem vn_sortI {l : List Int} (ha : VE X Φ ρ a (dL l)) (hg : Gl X "sorted" := by rfl) (he : starEach [a] X.env = (false, eval a X.env) :: starEach [] X.env := by rfl) : VN X Φ ρ (.Call (.Name "sorted" p) [a] [] pos) (dI (srt l)) :=
  vn_blt cr_sortedI hg B.sorted (by decide +kernel) (va_d ha va_nil he) (fun vs G H s k Q q => by
    obtain ⟨v, rfl, r⟩ := sls1 k
    cases r with
    | lst h k =>
      have e := k.ints
      subst e
      exact ⟨_, l, rfl, SqL.of (s _ _ h), fun l' p hp hs h0 => by
        have e2 : l' = srt l := srt_is hs hp
        rw [e2]
        exact q _ (RpAll.of_ints _) p h0⟩) (by decide) (by decide) he
theorem vn_list {ds : List PyData} (ha : VE X Φ ρ a (.list ds)) (hg : Gl X "list" := by rfl) (he : starEach [a] X.env = (false, eval a X.env) :: starEach [] X.env := by rfl) : VN X Φ ρ (.Call (.Name "list" p) [a] [] pos) ds :=
  vn_bty call_list_of hg B.list (by decide +kernel) (va_d ha va_nil he) (fun vs G H s k Q q => by
    obtain ⟨v, rfl, r⟩ := sls1 k
    cases r with
    | lst h k => exact ⟨_, _, rfl, Or.inl (SqL.of (s _ _ h)), q _ k⟩) (by decide) (by decide) he
end
end K43
namespace K43
open PySem PySem.Spec PyProof.Rows L2
/-! ### sorted, of cards -/
def b01 (b : Bool) : Int := if b then 1 else 0
def dC (c : Cd) : PyData := .tuple [.int c.1, .int (b01 c.2.1), .int c.2.2]
theorem dC_lt (a b : Cd) : PySem.W.dataLt (dC a) (dC b) = !leC b a := by
  unfold dC
  rw [PySem.W.dataLt_tuple, PySem.W.dataLt_cons (by simp [PySem.W.alike]), PySem.W.dataLt_cons (by simp [PySem.W.alike]), PySem.W.dataLt_cons (by simp [PySem.W.alike])]
  have e : PyProof.Rows.lexLt PyProof.Rows.itemOrd (PySem.W.keyToksAll []) (PySem.W.keyToksAll []) = false := lex_irrefl _
  rw [e, PySem.W.dataLt_int, PySem.W.dataLt_int, PySem.W.dataLt_int]
  simp only [PyData.eqv, beq_iff_eq]
  obtain ⟨x, o, i⟩ := a
  obtain ⟨y, o', j⟩ := b
  rw [Bool.eq_iff_iff, Bool.not_eq_true', Bool.eq_false_iff, Ne, leC_iff]
  cases o <;> cases o' <;> simp only [b01] <;> (repeat' split) <;> simp_all <;> omega
theorem dC_le : PySem.W.dataLe false (fun b : V × Cd => dC b.2) = fun a b => leC a.2 b.2 := by
  funext a b
  show (!PySem.W.dataLt (dC b.2) (dC a.2)) = _
  rw [dC_lt, Bool.not_not]
theorem each_zip {G : Hp} {R : Value → V × Cd → Prop} : ∀ {xs : List V} {us : List Value} {cs : List Cd}, Vals xs us → RpAll G xs (cs.map dC) → (∀ u x c, RelV x u → Rp G x (dC c) → R u (x, c)) → PySem.W.EachIs R us (xs.zip cs)
  | _, _, [], r, k, _ => by
    cases k
    cases r
    exact .nil
  | _, _, c :: cs, r, k, h => by
    cases k with
    | cons h1 k =>
      cases r with
      | cons r1 r => exact .cons (h _ _ _ r1 h1) (each_zip r k h)
theorem of_each {G : Hp} : ∀ {us : List Value} {bs : List (V × Cd)}, PySem.W.EachIs (fun u b => RelV b.1 u ∧ Rp G b.1 (dC b.2)) us bs → Vals (bs.map (·.1)) us ∧ RpAll G (bs.map (·.1)) ((bs.map (·.2)).map dC)
  | _, _, .nil => ⟨.nil, .nil⟩
  | _, _, .cons h t => by
    obtain ⟨k1, k2⟩ := of_each t
    exact ⟨.cons h.1 k1, .cons h.2 k2⟩
def rSortC : List V → Hp → VK → Prop := fun vs H Q => ∃ (G : Hp) (a : Addr) (xs : List V) (cs : List Cd), vs = [.ref a] ∧ Same G H ∧ G a = some (.lst xs) ∧ RpAll G xs (cs.map dC) ∧
  ∀ ys, RpAll G ys ((cs.mergeSort leC).map dC) → ∀ p, H p = none → Q (.ref p) (upd H p (.lst ys))
theorem cr_sortC {X : Cx} (hu : X.A.units + 64 < cLine) : CallR X (.builtin "sorted") rSortC := by
  intro pins s σ H vs us Q I r h
  obtain ⟨G, a, xs, cs, rfl, hs, ha, k, q⟩ := h
  obtain ⟨its, rv, hl, hz⟩ := I.list (SqL.of (K := X.K) (hs _ _ ha))
  rw [Vals.ref1 r]
  have hlx : xs.length = cs.length := by rw [k.len, List.length_map]
  have hzl : (xs.zip cs).length = xs.length := by rw [List.length_zip, ← hlx, Nat.min_self]
  have hmap : (xs.zip cs).map (·.2) = cs := List.map_snd_zip (Nat.le_of_eq hlx.symm)
  refine PySem.W.sorted_data (β := V × Cd) (enc := fun b => dC b.2) (R := fun u b => RelV b.1 u ∧ Rp G b.1 (dC b.2)) (bs := xs.zip cs) hl.isList (each_zip rv k fun u x c h1 h2 => ⟨h1, h2⟩)
    (each_zip rv k fun u x c h1 h2 => Dp.reads I (dC c) x u (h2.mono hs).dp h1) (PySem.W.AllAlike.of fun b b' => ?_) (PySem.W.Sortable.tuples fun b => ⟨_, _, rfl⟩) (by rw [hzl]; exact hz) (fun b _ => ?_) fun out hlen he => ?_
  · unfold dC
    simp [PySem.W.alike, PySem.W.alikeAll]
  · have e : (dC b.2).depth = 1 := by
      unfold dC
      simp [PyData.depth, PyData.depthAll]
    show X.A.units + 2 + (dC b.2).depth < cLine
    rw [e]
    omega
  · rw [dC_le] at he
    obtain ⟨k1, k2⟩ := of_each he
    have e3 : ((xs.zip cs).mergeSort fun a b => leC a.2 b.2).map (·.2) = cs.mergeSort leC := by
      rw [PySem.W.sort_maps (s := leC) (fun b : V × Cd => b.2) fun a _ b _ => rfl, hmap]
    rw [e3] at k2
    obtain ⟨ep, he'⟩ := PyProof.Rows.sortedAll_at s.heap its out.toArray
    have hlen2 : (((xs.zip cs).mergeSort fun a b => leC a.2 b.2).map (·.1)).length ≤ sizeLine := by
      rw [List.length_map, List.length_mergeSort, hzl]
      exact hz
    exact ⟨.ref _, upd H (s.heap.objs.size + 1) (.lst (((xs.zip cs).mergeSort fun a b => leC a.2 b.2).map (·.1))), I.laid (t' := s.toks) (fun _ _ => PyProof.Rows.sortedAll_old) (Nat.le_succ _) ⟨hlen2, out, ep, k1, he'⟩, rfl, q _ k2 _ (I.hok.fresh (Nat.le_succ _))⟩
section
variable {X : Cx} {Φ : As} {ρ : List Sl} {a b e : Expr} {es : List Expr} {pos p : Pos}
theorem vn_sortC {cs : List Cd} (B : Bl X.mg) (hu : X.A.units + 64 < cLine) (ha : VE X Φ ρ a (.list (cs.map dC))) (hg : Gl X "sorted" := by rfl) (he : starEach [a] X.env = (false, eval a X.env) :: starEach [] X.env := by rfl) : VN X Φ ρ (.Call (.Name "sorted" p) [a] [] pos) ((cs.mergeSort leC).map dC) :=
  vn_blt (cr_sortC hu) hg B.sorted (by decide +kernel) (va_d ha va_nil he) (fun vs G H s k Q q => by
    obtain ⟨v, rfl, r⟩ := sls1 k
    cases r with
    | lst h k => exact ⟨G, _, _, cs, rfl, s, h, k, fun ys ky p hp => q ys ky p hp⟩) (by decide) (by decide) he
/-! ### list(range(n)) -/
theorem rg_vals (n : Nat) : rgV 0 n = ((List.range n).map fun i : Nat => (i : Int)).map V.int := by
  unfold rgV
  have e : ((n : Int) - 0).toNat = n := by omega
  rw [e, List.map_map]
  refine List.map_congr_left fun i _ => ?_
  show V.int (0 + (i : Int)) = V.int i
  rw [Int.zero_add]
theorem vn_listRg {n : Nat} {p2 pos2 : Pos} (hc : X.calm = true) (B : Bl X.mg) (ha : VE X Φ ρ a (.int n)) (hn : n ≤ 100000) (hg : Gl X "list" := by rfl) (hg2 : Gl X "range" := by rfl) (na : starEach [Expr.Call (.Name "range" p2) [a] [] pos2] X.env = (false, eval (.Call (.Name "range" p2) [a] [] pos2) X.env) :: starEach [] X.env := by rfl)
    (he : starEach [a] X.env = (false, eval a X.env) :: starEach [] X.env := by rfl) : VN X Φ ρ (.Call (.Name "list" p) [.Call (.Name "range" p2) [a] [] pos2] [] pos) (dI ((List.range n).map fun i : Nat => (i : Int))) := fun σ G H s k f Q q =>
  we_of (pe_listRg hc hg B.list (prg_1 hg2 B.range we he) na) (ha σ G H s k f _ fun v G1 H1 e1 r1 => by
    cases r1
    refine ⟨n, rfl, RgOk.of_le (by omega) (by omega) (by omega) (by omega), ?_⟩
    rw [rg_vals]
    exact vn_fin (σ := σ) e1 (RpAll.of_ints _) q)
/-! ### isinstance of plain values -/
def tyD : PyData → String
  | .none => "NoneType"
  | .bool _ => "bool"
  | .int _ => "int"
  | .str _ => "str"
  | .list _ => "list"
  | .tuple _ => "tuple"
  | _ => "object"
theorem ty_rp {K : PySem.W.Frag} {G H : Hp} {v : V} {d : PyData} (s : Same G H) (r : Rp G v d) : TyX K H v (.type (tyD d)) := by
  cases r with
  | non => exact .base .non
  | bl b => exact .base (.bl b)
  | int i => exact .base (.int i)
  | str x => exact .base (.str x)
  | lst h _ => exact .base (.lst (s _ _ h))
  | tup h _ => exact .base (.tup (s _ _ h))
theorem v_isi {d : PyData} {T : Str} {t : String} {c : Bool} {p2 : Pos} (B : Bl X.mg) (ha : VE X Φ ρ a d) (hk : kitB (tyD d) t = some c) (hT : X.mg T = none) (hb : bootBuiltins T = some (.type t) := by decide +kernel) (hg : Gl X "isinstance" := by rfl) (hg2 : Gl X T := by rfl)
    (he : starEach [a, .Name T p2] X.env = (false, eval a X.env) :: starEach [.Name T p2] X.env := by rfl) (he2 : starEach [.Name T p2] X.env = (false, eval (.Name T p2) X.env) :: starEach [] X.env := by rfl) (hn : T ≠ "__name__" := by decide) (hd : (T == ("__debug__" : Str)) = false := by decide)
    (hpl : (backTo pos (starEach [.Name T p2] X.env)).any (·.1) = false := by rfl) : VE X Φ ρ (.Call (.Name "isinstance" p) [a, .Name T p2] [] pos) (.bool c) :=
  v_blt (ss := [.d d, .v (.ty t)]) call_isi hg B.isinstance (by decide +kernel) (va_d ha (va_v (fun σ G H s _ _ Q q => we_of (pe_bltn (v := .ty t) hg2 hT hb rfl hn hd) (q G H (Ext.refl s))) va_nil he2) he) (fun vs G H s k Q q => by
    match vs, k with
    | [v, w], k =>
      have k1 : Rp G v d := k.1
      have k2 : some w = some (V.ty t) := k.2.1
      cases k2
      exact ⟨v, .ty t, _, _, c, rfl, .ty t, ty_rp s k1, kit_ty hk, q _ G H (Ext.refl s) (.bl c)⟩) (by decide) (by decide) he hpl
/-! ### in, not in; index -/
theorem flat_ints : ∀ l : List Int, (l.map V.int).all flatV = true
  | [] => rfl
  | _ :: l => flat_ints l
theorem inV_ints (i : Int) : ∀ l : List Int, inV (.int i) (l.map V.int) = decide (i ∈ l)
  | [] => by simp [inV]
  | j :: l => by
    have ih := inV_ints i l
    unfold inV at ih ⊢
    rw [List.map_cons, List.any_cons, ih]
    show (j == i || decide (i ∈ l)) = _
    by_cases h1 : j = i
    · rw [beq_iff_eq.mpr h1, Bool.true_or]
      exact (decide_eq_true (by rw [h1]; exact List.mem_cons_self)).symm
    · rw [beq_eq_false_iff_ne.mpr h1, Bool.false_or]
      exact decide_eq_decide.mpr ⟨fun z => List.mem_cons_of_mem _ z, fun z => (List.mem_cons.mp z).resolve_left fun q => h1 q.symm⟩
theorem r_inI {K : PySem.W.Frag} {i : Int} {l : List Int} : ROp (rIn K false) (.int i) (dL l) (.bool (decide (i ∈ l))) := fun v w G H s rv rw Q q => by
  cases rv
  cases rw with
  | lst h k =>
    have e := k.ints
    subst e
    refine ⟨_, _, rfl, Or.inl (SqL.of (s _ _ h)), rfl, flat_ints l, q _ G H (Ext.refl s) ?_⟩
    rw [if_neg Bool.false_ne_true, inV_ints]
    exact .bl _
theorem r_ninI {K : PySem.W.Frag} {i : Int} {l : List Int} : ROp (rIn K true) (.int i) (dL l) (.bool (!decide (i ∈ l))) := fun v w G H s rv rw Q q => by
  cases rv
  cases rw with
  | lst h k =>
    have e := k.ints
    subst e
    refine ⟨_, _, rfl, Or.inl (SqL.of (s _ _ h)), rfl, flat_ints l, q _ G H (Ext.refl s) ?_⟩
    rw [if_pos rfl, inV_ints]
    exact .bl _
theorem vt_in {i : Int} {l : List Int} (ha : VE X Φ ρ a (.int i)) (hb : VE X Φ ρ b (dL l)) (hm : behindInMarks .In b = false := by rfl) : VT X Φ ρ (.Compare a [.In] [b] pos) (decide (i ∈ l)) := vt_cmp op_in_seq ha hb r_inI hm
theorem vt_nin {i : Int} {l : List Int} (ha : VE X Φ ρ a (.int i)) (hb : VE X Φ ρ b (dL l)) (hm : behindInMarks .NotIn b = false := by rfl) : VT X Φ ρ (.Compare a [.NotIn] [b] pos) (!decide (i ∈ l)) := vt_cmp op_notIn_seq ha hb r_ninI hm
theorem eqV_int (i j : Int) : eqV (.int i) (.int j) = (i == j) := rfl
theorem v_index {o : Expr} {apos : Pos} {i : Int} {l : List Int} (ho : VE X Φ ρ o (dL l)) (ha : VE X Φ ρ a (.int i)) (hm : i ∈ l) (hb : attributeBase o "index" X.env (eval o X.env) = eval o X.env := by rfl)
    (hf : ((backTo pos (starEach [a] X.env)).all (fun x => !x.1) && (backToKw pos (keywordEach [] X.env)).all (fun x => x.1.isSome) && decide ([a].length + ([] : List Keyword).length + (if ([] : List Keyword).isEmpty then 0 else 1) < 30)) = true := by rfl)
    (hl : (apos.endLine == pos.line) = true := by rfl) (hs : starEach [a] X.env = (false, eval a X.env) :: starEach [] X.env := by rfl) : VE X Φ ρ (.Call (.Attribute o "index" apos) [a] [] pos) (.int (l.idxOf i)) := fun σ G H s k f Q q =>
  we_of (pe_bm PySem.F.plainAttrs_list PySem.F.slot_list_index PySem.F.type_list_index mt_index we wa hb hf hl hs) (ho σ G H s k f _ fun v G1 H1 e1 r1 => by
    cases r1 with
    | lst h1 k1 =>
      have e := k1.ints
      subst e
      refine ⟨Or.inl ⟨rfl, _, SqL.of (e1.gh _ _ h1)⟩, va_d ha va_nil hs σ G1 H1 e1.gh (k.mono e1.gg) (Φ.st s e1 f) _ fun vs G2 H2 e2 k2 => ?_⟩
      obtain ⟨w, rfl, r2⟩ := sls1 k2
      cases r2
      have hlt : l.idxOf i < l.length := List.idxOf_lt_length_of_mem hm
      have he : l[l.idxOf i] = i := List.getElem_idxOf hlt
      refine ⟨_, _, .int i, l.idxOf i, .int i, rfl, rfl, SqL.of (e2.gh _ _ (e2.gg _ _ h1)), rfl, flat_ints l, ?_, ?_, fun m z hm hz => ?_, q _ G2 H2 (e1.trans e2) (.int _)⟩
      · rw [List.getElem?_map, List.getElem?_eq_getElem hlt, he]
        rfl
      · rw [eqV_int]
        exact beq_self_eq_true i
      · have hml : m < l.length := Nat.lt_trans hm hlt
        rw [List.getElem?_map, List.getElem?_eq_getElem hml] at hz
        have hz : V.int l[m] = z := Option.some.inj hz
        subst hz
        rw [eqV_int, beq_eq_false_iff_ne]
        exact List.not_of_lt_findIdx hm |> fun h => by simpa using h)
/-- index of data -/
theorem v_indexD {o : Expr} {apos : Pos} {ds : List PyData} {d : PyData} {j : Nat} (hu : X.A.units + 65 < cLine) (ho : VE X Φ ρ o (.list ds)) (ha : VE X Φ ρ a d) (s1 : SeqAt.shaped (.list ds) = true) (s2 : SeqAt.shaped d = true)
    (hj : ∃ z, ds[j]? = some z ∧ PyData.eqv z d = true) (hn : ∀ (m : Nat) (z : PyData), m < j → ds[m]? = some z → PyData.eqv z d = false) (hb : attributeBase o "index" X.env (eval o X.env) = eval o X.env := by rfl)
    (hf : ((backTo pos (starEach [a] X.env)).all (fun x => !x.1) && (backToKw pos (keywordEach [] X.env)).all (fun x => x.1.isSome) && decide ([a].length + ([] : List Keyword).length + (if ([] : List Keyword).isEmpty then 0 else 1) < 30)) = true := by rfl)
    (hl : (apos.endLine == pos.line) = true := by rfl) (hs : starEach [a] X.env = (false, eval a X.env) :: starEach [] X.env := by rfl) : VE X Φ ρ (.Call (.Attribute o "index" apos) [a] [] pos) (.int j) := fun σ G H s k f Q q =>
  we_of (pe_bm PySem.F.plainAttrs_list PySem.F.slot_list_index PySem.F.type_list_index (mt_indexD hu) we wa hb hf hl hs) (ho σ G H s k f _ fun v G1 H1 e1 r1 => by
    obtain ⟨z, hz, hzd⟩ := hj
    cases r1 with
    | lst h1 k1 =>
      refine ⟨Or.inl ⟨rfl, _, SqL.of (e1.gh _ _ h1)⟩, va_d ha va_nil hs σ G1 H1 e1.gh (k.mono e1.gg) (Φ.st s e1 f) _ fun vs G2 H2 e2 k2 => ?_⟩
      obtain ⟨w, rfl, r2⟩ := sls1 k2
      exact ⟨_, w, d, ds, j, z, rfl, rfl, ((Rp.lst h1 k1).mono (e2.gg.trans e2.gh)).dp, (r2.mono e2.gh).dp, s1, s2, hz, hzd, hn, q _ G2 H2 (e1.trans e2) (.int _)⟩)
/-- count in a text, join of texts -/
def cntN (c : Nat) (z : List Nat) : Nat := z.count c
end
end K43
namespace K43
open PySem PySem.Spec PyProof.Rows L2
/-! ### exceptions, outcomes, promises -/
structure Xn where
  C : Addr
  fs : Option (List (Str × V))
def XOk (x : Xn) (od : Option Addr) (H : Hp) : Prop := match x.fs with
  | none => od = none
  | some fs => ∃ dx, od = some dx ∧ H dx = some (.xd fs)
def XP (E : XK) (x : Xn) (G H : Hp) : Prop := ∀ od G2 H2, Ext G H G2 H2 → XOk x od H2 → E (.ref x.C) od H2
inductive Out where
  | val (d : PyData)
  | exc (x : Xn)
def Rt (G H : Hp) (Q : VK) (d : PyData) : Prop := ∀ v G2 H2, Ext G H G2 H2 → Rp G2 v d → Q v H2
def OP (Q : VK) (E : XK) (G H : Hp) : Out → Prop
  | .val d => Rt G H Q d
  | .exc x => XP E x G H
/-- what a def does with slots, under an assertion -/
abbrev FR := List Sl → As → Out → Prop
def spF (n : Nat) (F : FR) : Sp := fun vs H Q E => ∃ G ss Φ o, ss.length = n ∧ Same G H ∧ SlsOk G ss vs ∧ Φ.p G H ∧ F ss Φ o ∧ OP Q E G H o
theorem spF_len {n : Nat} {F : FR} {vs : List V} {H : Hp} {Q : VK} {E : XK} (h : spF n F vs H Q E) : vs.length = n := by
  obtain ⟨G, ss, Φ, o, hn, _, k, _⟩ := h
  rw [← k.len, hn]
theorem XP.ext {E : XK} {x : Xn} {G H G1 H1 : Hp} (h : XP E x G H) (e : Ext G H G1 H1) : XP E x G1 H1 := fun od G2 H2 e2 k => h od G2 H2 (e.trans e2) k
def scV : PyData → V
  | .int i => .int i
  | .str x => .str x
  | .bool b => .bl b
  | _ => .non
def scal? : PyData → Bool
  | .int _ => true
  | .str _ => true
  | .bool _ => true
  | .none => true
  | _ => false
theorem sc_rp {G : Hp} {v : V} {d : PyData} (r : Rp G v d) (h : scal? d = true) : v = scV d := by
  cases r <;> first | rfl | cases h
theorem sc_all {G : Hp} : ∀ {vs : List V} {ds : List PyData}, RpAll G vs ds → ds.all scal? = true → vs = ds.map scV
  | _, [], k, _ => by
    cases k
    rfl
  | _, d :: ds, k, h => by
    cases k with
    | cons h1 k =>
      rw [List.all_cons, Bool.and_eq_true] at h
      rw [sc_rp h1 h.1, sc_all k h.2]
      rfl
theorem sc_of {G : Hp} {d : PyData} (h : scal? d = true) : Rp G (scV d) d := by
  cases d <;> first | exact .non | exact .bl _ | exact .int _ | exact .str _ | cases h
/-- the world of a law -/
structure Wd where
  P : Program
  w : World
  K : PySem.W.Frag
  mg : Str → Option Value
  base : Heap
/-- a def of the text and its promise; dvs: its keyword-only defaults -/
structure Fn (W : Wd) (x : Str) (k : Nat) (ps : List Str) (dvs : List PyData) (F : FR) : Prop where
  ex : ∃ f fd ds, W.mg x = some (.ref f) ∧ PySem.W.keepIn W.K (.ref f) = true ∧ FnOk W.P W.w W.K W.mg W.base (L2N.CX W.P W.w) k f fd ps (spF ps.length F) ∧ Binds W.K fd ps ds ∧ Vals (dvs.map scV) ds ∧ dvs.all scal? = true
/-- X stands in W -/
structure InW (W : Wd) (X : Cx) : Prop where
  hP : X.prog = W.P
  hw : X.w = W.w
  hK : X.K = W.K
  hm : X.mg = W.mg
  hb : X.base = W.base
abbrev Wish (X : Cx) (E : XK) : Prop := Passes (L2N.CX X.prog X.w) X E
theorem takes0N {X : Cx} : L2N.Takes X (fun _ _ _ _ => False) := fun _ _ ⟨_, _, _, _, _, _, _, _, _, _, _, _, _, _, _, _, w⟩ => w.elim
theorem wish0 {X : Cx} : Wish X (fun _ _ _ => False) := L2N.passes_call takes0N (fun _ _ _ _ h => h)
section
variable {W : Wd} {X : Cx} {Φ : As} {ρ : List Sl} {a b e : Expr} {es : List Expr} {pos p : Pos} {E : XK}
/-- e lets x out -/
def VR (X : Cx) (E : XK) (Φ : As) (ρ : List Sl) (e : Expr) (x : Xn) : Prop := ∀ σ G H, Same G H → SR G ρ σ → Φ.p G H → XP E x G H → ∀ Q : VK, WE X e σ H Q
theorem SlsOk.app {G : Hp} : ∀ {ss : List Sl} {vs : List V} {ts : List Sl} {ws : List V}, SlsOk G ss vs → SlsOk G ts ws → SlsOk G (ss ++ ts) (vs ++ ws)
  | [], [], _, _, _, h => h
  | _ :: _, _ :: _, _, _, h, k => ⟨h.1, SlsOk.app h.2 k⟩
  | [], _ :: _, _, _, h, _ => h.elim
  | _ :: _, [], _, _, h, _ => h.elim
theorem sls_sc {G : Hp} : ∀ {ts : List PyData}, ts.all scal? = true → SlsOk G (ts.map Sl.d) (ts.map scV)
  | [], _ => True.intro
  | d :: ts, h => by
    rw [List.all_cons, Bool.and_eq_true] at h
    exact ⟨sc_of h.1, sls_sc h.2⟩
theorem call_of {x : Str} {k : Nat} {ps : List Str} {dvs : List PyData} {F : FR} {ss : List Sl} {o : Out} {E' : XK} (hW : InW W X) (C : Fn W x k ps dvs F) (hr : Room k X.A) (hx : Wish X E') (hl : ss.length + dvs.length = ps.length)
    (ha : VA X Φ ρ (e :: es) ss) (hF : F (ss ++ dvs.map Sl.d) Φ o) (hg : Gl X x) (hdb : (x == ("__debug__" : Str)) = false)
    (he : starEach (e :: es) X.env = (false, eval e X.env) :: starEach es X.env) (hpl : (backTo pos (starEach es X.env)).any (·.1) = false)
    {σ : L2.St} {G H : Hp} {Q : VK} (s : Same G H) (r : SR G ρ σ) (f : Φ.p G H) (q : ∀ G1 H1, Ext G H G1 H1 → OP Q E' G1 H1 o) : WE X (.Call (.Name x p) (e :: es) [] pos) σ H Q := by
  obtain ⟨h1, h2, h3, h4, h5⟩ := hW
  obtain ⟨g, fd, ds, m, kp, Fo, bn, vl, vsc⟩ := C.ex
  obtain ⟨WP, Ww, WK, Wm, Wb⟩ := W
  subst h1 h2 h3 h4 h5
  refine we_of (pe_call Fo hr hg m kp bn vl hx wa hdb he hpl) (ha σ G H s r f _ fun vs G1 H1 e1 k1 => ?_)
  refine ⟨G1, ss ++ dvs.map Sl.d, Φ, o, by rw [List.length_append, List.length_map, hl], e1.gh, k1.app (sls_sc vsc), Φ.st s e1 f, hF, q G1 H1 e1⟩
theorem call0_of {x : Str} {k : Nat} {F : FR} {o : Out} {E' : XK} (hW : InW W X) (C : Fn W x k [] [] F) (hr : Room k X.A) (hx : Wish X E') (hF : F [] Φ o) (hg : Gl X x) (hdb : (x == ("__debug__" : Str)) = false)
    {σ : L2.St} {G H : Hp} {Q : VK} (s : Same G H) (f : Φ.p G H) (q : OP Q E' G H o) : WE X (.Call (.Name x p) [] [] pos) σ H Q := by
  obtain ⟨h1, h2, h3, h4, h5⟩ := hW
  obtain ⟨g, fd, ds, m, kp, Fo, bn, vl, vsc⟩ := C.ex
  obtain ⟨WP, Ww, WK, Wm, Wb⟩ := W
  subst h1 h2 h3 h4 h5
  exact we_of (pe_call0 Fo hr hg m kp bn vl hx hdb) ⟨G, [], Φ, o, rfl, s, True.intro, f, hF, q⟩
theorem v_call {x : Str} {k j : Nat} {ps : List Str} {dvs : List PyData} {F : FR} {ss : List Sl} {d : PyData} (hW : InW W X) (C : Fn W x k ps dvs F) (hr : Room j X.A) (ha : VA X Φ ρ (e :: es) ss) (hF : F (ss ++ dvs.map Sl.d) Φ (.val d)) (hj : k ≤ j := by decide) (hl : ss.length + dvs.length = ps.length := by rfl)
    (hg : Gl X x := by rfl) (hdb : (x == ("__debug__" : Str)) = false := by decide)
    (he : starEach (e :: es) X.env = (false, eval e X.env) :: starEach es X.env := by rfl) (hpl : (backTo pos (starEach es X.env)).any (·.1) = false := by rfl) : VE X Φ ρ (.Call (.Name x p) (e :: es) [] pos) d :=
  fun σ G H s r f Q q => call_of hW C (hr.mono hj) wish0 hl ha hF hg hdb he hpl s r f fun G1 H1 e1 v G2 H2 e2 k => q v G2 H2 (e1.trans e2) k
theorem x_call {x : Str} {k j : Nat} {ps : List Str} {dvs : List PyData} {F : FR} {ss : List Sl} {z : Xn} (hW : InW W X) (hx : Wish X E) (C : Fn W x k ps dvs F) (hr : Room j X.A) (ha : VA X Φ ρ (e :: es) ss) (hF : F (ss ++ dvs.map Sl.d) Φ (.exc z)) (hj : k ≤ j := by decide) (hl : ss.length + dvs.length = ps.length := by rfl)
    (hg : Gl X x := by rfl) (hdb : (x == ("__debug__" : Str)) = false := by decide)
    (he : starEach (e :: es) X.env = (false, eval e X.env) :: starEach es X.env := by rfl) (hpl : (backTo pos (starEach es X.env)).any (·.1) = false := by rfl) : VR X E Φ ρ (.Call (.Name x p) (e :: es) [] pos) z :=
  fun σ G H s r f z Q => call_of hW C (hr.mono hj) hx hl ha hF hg hdb he hpl s r f fun G1 H1 e1 => z.ext e1
/-- .. the same def called with one keyword -/
structure FnK (W : Wd) (x : Str) (k : Nat) (ps : List Str) (n : Nat) (kw : Str) (F : FR) : Prop where
  ex : ∃ f fd, W.mg x = some (.ref f) ∧ PySem.W.keepIn W.K (.ref f) = true ∧ FnOk W.P W.w W.K W.mg W.base (L2N.CX W.P W.w) k f fd ps (spF ps.length F) ∧ KBn W.K fd ps n [kw] (fun us ws => us ++ ws) (fun vs zs => vs ++ zs)
theorem callK_of {x kw : Str} {k n : Nat} {ps : List Str} {F : FR} {ss : List Sl} {d1 : PyData} {o : Out} {E' : XK} {kpos : Pos} {ke : Expr} (hW : InW W X) (C : FnK W x k ps n kw F) (hr : Room k X.A) (hx : Wish X E') (hl : ss.length = n) (hn : n + 1 = ps.length)
    (ha : VA X Φ ρ (e :: es) ss) (hk : VE X Φ ρ ke d1) (hF : F (ss ++ [.d d1]) Φ o) (hg : Gl X x) (hdb : (x == ("__debug__" : Str)) = false)
    (hall : (backToKw pos (keywordEach [⟨some kw, ke, kpos⟩] X.env)).all (·.1.isSome) = true) (hks : (backToKw pos (keywordEach [⟨some kw, ke, kpos⟩] X.env)).filterMap (·.1) = [kw])
    (he : starEach (e :: es) X.env = (false, eval e X.env) :: starEach es X.env) (hpl : ((backTo pos (starEach (e :: es) X.env)).any (·.1) || (backToKw pos (keywordEach [⟨some kw, ke, kpos⟩] X.env)).any (·.1.isNone)) = false)
    {σ : L2.St} {G H : Hp} {Q : VK} (s : Same G H) (r : SR G ρ σ) (f : Φ.p G H) (q : ∀ G1 H1, Ext G H G1 H1 → OP Q E' G1 H1 o) : WE X (.Call (.Name x p) (e :: es) [⟨some kw, ke, kpos⟩] pos) σ H Q := by
  obtain ⟨h1, h2, h3, h4, h5⟩ := hW
  obtain ⟨g, fd, m, kp, Fo, bn⟩ := C.ex
  obtain ⟨WP, Ww, WK, Wm, Wb⟩ := W
  subst h1 h2 h3 h4 h5
  refine we_of (pe_callN Fo hr hg m kp bn hx wa (pk_cons we pk_nil) hall hks hdb he hpl) (ha σ G H s r f _ fun vs G1 H1 e1 k1 => hk σ G1 H1 e1.gh (r.mono e1.gg) (Φ.st s e1 f) _ fun v G2 H2 e2 r2 => ?_)
  have e12 := e1.trans e2
  refine ⟨by rw [← k1.len, hl], rfl, G2, ss ++ [.d d1], Φ, o, by rw [List.length_append, hl]; exact hn, e12.gh, (k1.mono e2.gg).app (ts := [.d d1]) (ws := [v]) ⟨r2, True.intro⟩, Φ.st s e12 f, hF, q G2 H2 e12⟩
theorem v_callK {x kw : Str} {k j n : Nat} {ps : List Str} {F : FR} {ss : List Sl} {d1 d : PyData} {kpos : Pos} {ke : Expr} (hW : InW W X) (C : FnK W x k ps n kw F) (hr : Room j X.A) (ha : VA X Φ ρ (e :: es) ss) (hk : VE X Φ ρ ke d1) (hF : F (ss ++ [.d d1]) Φ (.val d)) (hj : k ≤ j := by decide) (hl : ss.length = n := by rfl) (hn : n + 1 = ps.length := by rfl)
    (hg : Gl X x := by rfl) (hdb : (x == ("__debug__" : Str)) = false := by decide)
    (hall : (backToKw pos (keywordEach [⟨some kw, ke, kpos⟩] X.env)).all (·.1.isSome) = true := by rfl) (hks : (backToKw pos (keywordEach [⟨some kw, ke, kpos⟩] X.env)).filterMap (·.1) = [kw] := by rfl)
    (he : starEach (e :: es) X.env = (false, eval e X.env) :: starEach es X.env := by rfl) (hpl : ((backTo pos (starEach (e :: es) X.env)).any (·.1) || (backToKw pos (keywordEach [⟨some kw, ke, kpos⟩] X.env)).any (·.1.isNone)) = false := by rfl) :
    VE X Φ ρ (.Call (.Name x p) (e :: es) [⟨some kw, ke, kpos⟩] pos) d :=
  fun σ G H s r f Q q => callK_of hW C (hr.mono hj) wish0 hl hn ha hk hF hg hdb hall hks he hpl s r f fun G1 H1 e1 v G2 H2 e2 k => q v G2 H2 (e1.trans e2) k
theorem x_callK {x kw : Str} {k j n : Nat} {ps : List Str} {F : FR} {ss : List Sl} {d1 : PyData} {z : Xn} {kpos : Pos} {ke : Expr} (hW : InW W X) (hx : Wish X E) (C : FnK W x k ps n kw F) (hr : Room j X.A) (ha : VA X Φ ρ (e :: es) ss) (hk : VE X Φ ρ ke d1) (hF : F (ss ++ [.d d1]) Φ (.exc z)) (hj : k ≤ j := by decide) (hl : ss.length = n := by rfl) (hn : n + 1 = ps.length := by rfl)
    (hg : Gl X x := by rfl) (hdb : (x == ("__debug__" : Str)) = false := by decide)
    (hall : (backToKw pos (keywordEach [⟨some kw, ke, kpos⟩] X.env)).all (·.1.isSome) = true := by rfl) (hks : (backToKw pos (keywordEach [⟨some kw, ke, kpos⟩] X.env)).filterMap (·.1) = [kw] := by rfl)
    (he : starEach (e :: es) X.env = (false, eval e X.env) :: starEach es X.env := by rfl) (hpl : ((backTo pos (starEach (e :: es) X.env)).any (·.1) || (backToKw pos (keywordEach [⟨some kw, ke, kpos⟩] X.env)).any (·.1.isNone)) = false := by rfl) :
    VR X E Φ ρ (.Call (.Name x p) (e :: es) [⟨some kw, ke, kpos⟩] pos) z :=
  fun σ G H s r f z Q => callK_of hW C (hr.mono hj) hx hl hn ha hk hF hg hdb hall hks he hpl s r f fun G1 H1 e1 => z.ext e1
/-- a raising part of an expression: not e, (e, ..) -/
theorem xr_not {x : Xn} (h : VR X E Φ ρ a x) (he : ∀ whole, isTrue a X.env whole = (do let v ← whole; standAt a.pos; holding [v] (truthy v)) := by intro _; rfl) : ∀ σ G H, Same G H → SR G ρ σ → Φ.p G H → XP E x G H → ∀ Q, WT X (.UnaryOp .Not a pos) σ H Q := fun σ G H s r f z Q =>
  wt_of (pt_not (pt_truth we he)) (h σ G H s r f z _)
theorem xr_args {x : Xn} (h : VR X E Φ ρ e x) (hs : starEach (e :: es) X.env = (false, eval e X.env) :: starEach es X.env := by rfl) : ∀ σ G H, Same G H → SR G ρ σ → Φ.p G H → XP E x G H → ∀ Q, WA X (e :: es) σ H Q := fun σ G H s r f z Q =>
  wa_of (pa_cons we wa hs) (h σ G H s r f z _)
theorem xr_tup {x : Xn} {k : Nat} (h : VR X E Φ ρ e x) (hs : starEach (e :: es) X.env = (false, eval e X.env) :: starEach es X.env := by rfl) : VR X E Φ ρ (.Tuple (e :: es) k pos) x := fun σ G H s r f z Q =>
  we_of (pe_tup wa) (xr_args h hs σ G H s r f z _)
/-! ### blocks -/
def VB (X : Cx) (Gm G0 H0 : Hp) (sts : List Stmt) (Φ : As) (ρ : List Sl) (D : Ends) : Prop := ∀ σ G H, Same Gm G → Ext G0 H0 G H → SR G ρ σ → Φ.p G H → WB X sts D σ H
/-- the state between two turns -/
def NX (Gm G0 H0 : Hp) (Φ : As) (ρ : List Sl) : L2.St → Hp → Prop := fun σ H => ∃ G, Same Gm G ∧ Ext G0 H0 G H ∧ SR G ρ σ ∧ Φ.p G H
variable {Gm G0 H0 : Hp} {D : Ends} {rest A B : List Stmt}
theorem vb_nil (h : ∀ σ G H, Same Gm G → Ext G0 H0 G H → SR G ρ σ → Φ.p G H → D.nx σ H) : VB X Gm G0 H0 [] Φ ρ D := fun σ G H m e r f => wb_of pss_nil (h σ G H m e r f)
theorem vb_fall (h : VB X Gm G0 H0 rest Φ ρ D) : VB X Gm G0 H0 [] Φ ρ { D with nx := fun σ' H' => WB X rest D σ' H' } := vb_nil h
theorem vb_end (h : Rt G0 H0 D.rt .none) (hD : D.nx = fun _ H' => D.rt .non H' := by rfl) : VB X Gm G0 H0 [] Φ ρ D := vb_nil fun σ G H m e r f => by
  rw [hD]
  exact h .non G H e .non
theorem vb_nx {Φ' : As} {ρ' : List Sl} (hD : D.nx = NX Gm G0 H0 Φ' ρ') (hr : SLe ρ' ρ) (hf : ∀ G H, Φ.p G H → Φ'.p G H) : VB X Gm G0 H0 [] Φ ρ D := vb_nil fun σ G H m e r f => by
  rw [hD]
  exact ⟨G, m, e, r.weak hr, hf G H f⟩
theorem vb_ret {d : PyData} (he : VE X Φ ρ e d) (h : Rt G0 H0 D.rt d) : VB X Gm G0 H0 (.Return (some e) pos :: rest) Φ ρ D := fun σ G H m x r f =>
  wb_cons (ws_of (ps_ret we) (he σ G H x.gh r f _ fun v G2 H2 e2 k => h v G2 H2 (x.trans e2) k))
theorem vb_retX {x : Xn} (he : VR X E Φ ρ e x) (h : XP E x G0 H0) : VB X Gm G0 H0 (.Return (some e) pos :: rest) Φ ρ D := fun σ G H m z r f =>
  wb_cons (ws_of (ps_ret we) (he σ G H z.gh r f (h.ext z) _))
theorem vb_pass (k : VB X Gm G0 H0 rest Φ ρ D) : VB X Gm G0 H0 (.Pass pos :: rest) Φ ρ D := fun σ G H m x r f => wb_cons (ws_of ps_pass (k σ G H m x r f))
theorem vb_expr {d : PyData} (he : VE X Φ ρ e d) (k : VB X Gm G0 H0 rest Φ ρ D) (hs : swapsWith e none pos.line X.env = pure false := by rfl) : VB X Gm G0 H0 (.Expr e pos :: rest) Φ ρ D := fun σ G H m x r f =>
  wb_cons (ws_of (ps_expr we hs) (he σ G H x.gh r f _ fun v G2 H2 e2 _ => k σ G2 H2 (m.trans e2.gg) (x.trans e2) (r.mono e2.gg) (Φ.st x.gh e2 f)))
theorem vb_exprX {x : Xn} (he : VR X E Φ ρ e x) (h : XP E x G0 H0) (hs : swapsWith e none pos.line X.env = pure false := by rfl) : VB X Gm G0 H0 (.Expr e pos :: rest) Φ ρ D := fun σ G H m z r f =>
  wb_cons (ws_of (ps_expr we hs) (he σ G H z.gh r f (h.ext z) _))
theorem vb_if {c : Bool} (hc : VT X Φ ρ a c) (h1 : c = true → VB X Gm G0 H0 A Φ ρ { D with nx := fun σ' H' => WB X rest D σ' H' }) (h2 : c = false → VB X Gm G0 H0 B Φ ρ { D with nx := fun σ' H' => WB X rest D σ' H' }) :
    VB X Gm G0 H0 (.If a A B pos :: rest) Φ ρ D := fun σ G H m x r f =>
  wb_cons (ws_of (ps_if wt wb wb) (hc σ G H x.gh r f _ fun G2 H2 e2 => by
    cases c with
    | true =>
      rw [if_pos rfl]
      exact h1 rfl σ G2 H2 (m.trans e2.gg) (x.trans e2) (r.mono e2.gg) (Φ.st x.gh e2 f)
    | false =>
      rw [if_neg Bool.false_ne_true]
      exact h2 rfl σ G2 H2 (m.trans e2.gg) (x.trans e2) (r.mono e2.gg) (Φ.st x.gh e2 f)))
/-- an if without else -/
theorem vb_if1 {c : Bool} (hc : VT X Φ ρ a c) (h1 : c = true → VB X Gm G0 H0 A Φ ρ { D with nx := fun σ' H' => WB X rest D σ' H' }) (h2 : c = false → VB X Gm G0 H0 rest Φ ρ D) : VB X Gm G0 H0 (.If a A [] pos :: rest) Φ ρ D :=
  vb_if hc h1 fun hf => vb_fall (h2 hf)
theorem vb_ifX {x : Xn} (hc : ∀ σ G H, Same G H → SR G ρ σ → Φ.p G H → XP E x G H → ∀ Q, WT X a σ H Q) (h : XP E x G0 H0) : VB X Gm G0 H0 (.If a A B pos :: rest) Φ ρ D := fun σ G H m z r f =>
  wb_cons (ws_of (ps_if wt wb wb) (hc σ G H z.gh r f (h.ext z) _))
theorem xr_test {x : Xn} (h : VR X E Φ ρ a x) (he : ∀ whole, isTrue a X.env whole = (do let v ← whole; standAt a.pos; holding [v] (truthy v)) := by intro _; rfl) : ∀ σ G H, Same G H → SR G ρ σ → Φ.p G H → XP E x G H → ∀ Q, WT X a σ H Q := fun σ G H s r f z Q =>
  wt_of (pt_truth we he) (h σ G H s r f z _)
theorem vb_set {x : Str} {p : Pos} {d : PyData} (i : Nat) (he : VE X Φ ρ e d) (hN : X.N.Nodup) (k : VB X Gm G0 H0 rest Φ (ρ.set i (.d d)) D) (hi : X.N[i]? = some x := by rfl) (hx : Loc X.env.scope x := by first | exact Or.inl rfl | exact Or.inr rfl)
    (hs : swapsWith e (some (.Name x p)) pos.line X.env = pure false := by rfl) (hf : X.fn x = true ∨ X.env.scope.names.lookup x = some .local := by first | exact .inl rfl | exact .inr rfl) : VB X Gm G0 H0 (.Assign [.Name x p] e pos :: rest) Φ ρ D := fun σ G H m z r f =>
  wb_cons (ws_of (ps_set hN hi hx we hs hf) (he σ G H z.gh r f _ fun v G2 H2 e2 kv => k _ G2 H2 (m.trans e2.gg) (z.trans e2) (SR.set (s := .d d) (o := some v) kv i (r.mono e2.gg)) (Φ.st z.gh e2 f)))
/-- a name takes a new list that will be written -/
theorem vb_new {x : Str} {p : Pos} {ds : List PyData} (i : Nat) (he : VN X Φ ρ e ds) (hN : X.N.Nodup) (k : ∀ l, H0 l = none → VB X Gm G0 H0 rest (As.and (As.lst l ds) Φ) (ρ.set i (.v (.ref l))) D) (hi : X.N[i]? = some x := by rfl) (hx : Loc X.env.scope x := by first | exact Or.inl rfl | exact Or.inr rfl)
    (hs : swapsWith e (some (.Name x p)) pos.line X.env = pure false := by rfl) (hf : X.fn x = true ∨ X.env.scope.names.lookup x = some .local := by first | exact .inl rfl | exact .inr rfl) : VB X Gm G0 H0 (.Assign [.Name x p] e pos :: rest) Φ ρ D := fun σ G H m z r f =>
  wb_cons (ws_of (ps_set hN hi hx we hs hf) (he σ G H z.gh r f _ fun l xs G2 H2 e2 h0 g2 hp kx => k l (z.hh.free h0) _ G2 H2 (m.trans e2.gg) (z.trans e2) (SR.set (s := .v (.ref l)) (o := some (.ref l)) rfl i (r.mono e2.gg)) ⟨⟨g2, xs, hp, kx⟩, Φ.st z.gh e2 f⟩))
/-- an assertion weakened, slots forgotten -/
theorem VB.weak {Φ' : As} {ρ' : List Sl} {sts : List Stmt} (k : VB X Gm G0 H0 sts Φ' ρ' D) (hr : SLe ρ' ρ) (hf : ∀ G H, Φ.p G H → Φ'.p G H) : VB X Gm G0 H0 sts Φ ρ D := fun σ G H m z r f => k σ G H m z (r.weak hr) (hf G H f)
/-- a, b = a pair -/
theorem vb_two {x y : Str} {p1 p2 p3 : Pos} {c d : PyData} {kk : Nat} (i j : Nat) (he : VE X Φ ρ e (.tuple [c, d])) (hc : X.calm = true) (hN : X.N.Nodup) (k : VB X Gm G0 H0 rest Φ ((ρ.set i (.d c)).set j (.d d)) D)
    (hi : X.N[i]? = some x := by rfl) (hj : X.N[j]? = some y := by rfl) (hx : Loc X.env.scope x := by first | exact Or.inl rfl | exact Or.inr rfl) (hy : Loc X.env.scope y := by first | exact Or.inl rfl | exact Or.inr rfl)
    (hs : swapsWithSole [.Tuple [.Name x p1, .Name y p2] kk p3] e pos.line X.env = pure false := by rfl) (hw : swappedStores [.Tuple [.Name x p1, .Name y p2] kk p3] e X.env = pure none := by rfl)
    (h1 : (assignEach [.Tuple [.Name x p1, .Name y p2] kk p3] X.env).map (·.2) = [assign (.Tuple [.Name x p1, .Name y p2] kk p3) X.env] := by rfl) (hn : (assignEach [.Name x p1, .Name y p2] X.env).length = 2 := by rfl) (hst : (assignEach [.Name x p1, .Name y p2] X.env).findIdx? (·.1) = none := by rfl)
    (q1 : (assignEach [.Name x p1, .Name y p2] X.env).map (·.2) = assign (.Name x p1) X.env :: (assignEach [.Name y p2] X.env).map (·.2) := by rfl) (q2 : (assignEach [.Name y p2] X.env).map (·.2) = assign (.Name y p2) X.env :: (assignEach [] X.env).map (·.2) := by rfl)
    (hf : X.fn x = true ∨ X.env.scope.names.lookup x = some .local := by first | exact .inl rfl | exact .inr rfl) (hf2 : X.fn y = true ∨ X.env.scope.names.lookup y = some .local := by first | exact .inl rfl | exact .inr rfl) :
    VB X Gm G0 H0 (.Assign [.Tuple [.Name x p1, .Name y p2] kk p3] e pos :: rest) Φ ρ D := fun σ G H m z r f =>
  wb_cons (ws_of (ps_asg we (pg_tup hc (pgs_cons (pg_name hN hi hx hf) (pgs_cons (pg_name hN hj hy hf2) pgs_nil q2) q1) hn hst) hs hw h1) (he σ G H z.gh r f _ fun v G2 H2 e2 kv => by
    cases kv with
    | tup h k1 =>
      cases k1 with
      | cons r1 k1 =>
        cases k1 with
        | cons r2 k1 =>
          cases k1
          exact ⟨_, _, rfl, SqT.of (e2.gh _ _ h), rfl, _, _, rfl, _, _, rfl, rfl, k _ G2 H2 (m.trans e2.gg) (z.trans e2) (SR.set (s := .d d) (o := some _) r2 j (SR.set (s := .d c) (o := some _) r1 i (r.mono e2.gg))) (Φ.st z.gh e2 f)⟩))
theorem vb_twoX {x : Xn} {tg : Expr} {g : TG} (he : VR X E Φ ρ e x) (h : XP E x G0 H0) (hg : PG X tg g) (hs : swapsWithSole [tg] e pos.line X.env = pure false := by rfl) (hw : swappedStores [tg] e X.env = pure none := by rfl)
    (h1 : (assignEach [tg] X.env).map (·.2) = [assign tg X.env] := by rfl) : VB X Gm G0 H0 (.Assign [tg] e pos :: rest) Φ ρ D := fun σ G H m z r f =>
  wb_cons (ws_of (ps_asg we hg hs hw h1) (he σ G H z.gh r f (h.ext z) _))
/-- an assertion that leaves the list at l aside -/
def StP (l : Addr) (Ψ : As) : Prop := ∀ G H o, G l = none → Ψ.p G H → Ψ.p G (upd H l o)
theorem stp_top {l : Addr} : StP l As.top := fun _ _ _ _ _ => True.intro
theorem stp_and {l : Addr} {Φ Ψ : As} (h : StP l Φ) (k : StP l Ψ) : StP l (As.and Φ Ψ) := fun G H o g z => ⟨h G H o g z.1, k G H o g z.2⟩
theorem stp_lst {l m : Addr} {ds : List PyData} (h : m ≠ l) : StP l (As.lst m ds) := fun G H o g z => by
  obtain ⟨z1, xs, z2, z3⟩ := z
  exact ⟨z1, xs, by rw [upd_ne h]; exact z2, z3⟩
/-- l.append(e), l of one's own -/
theorem vb_app {l : Addr} {Ψ : As} {ds : List PyData} {d : PyData} {x : Str} {pn apos pos2 : Pos} (i : Nat) (hr : ρ[i]? = some (.v (.ref l))) (ha : VE X (As.and (As.lst l ds) Ψ) ρ a d) (h0 : H0 l = none) (hz : ds.length < 100000) (hp : StP l Ψ) (k : VB X Gm G0 H0 rest (As.and (As.lst l (ds ++ [d])) Ψ) ρ D)
    (hN : X.N[i]? = some x := by rfl) (hv : Vis X.env.scope x := by first | exact Or.inl rfl | exact Or.inr (Or.inl rfl) | exact Or.inr (Or.inr rfl)) (hd : (x == ("__debug__" : Str)) = false := by decide) (hcd : (x == ("__classdict__" : Str)) = false := by decide)
    (hs : swapsWith (.Call (.Attribute (.Name x pn) "append" apos) [a] [] pos) none pos2.line X.env = pure false := by rfl) (hb : attributeBase (.Name x pn) "append" X.env (eval (.Name x pn) X.env) = eval (.Name x pn) X.env := by rfl)
    (hw : ((backTo pos (starEach [a] X.env)).all (fun x => !x.1) && (backToKw pos (keywordEach [] X.env)).all (fun x => x.1.isSome) && decide ([a].length + ([] : List Keyword).length + (if ([] : List Keyword).isEmpty then 0 else 1) < 30)) = true := by rfl)
    (hli : (apos.endLine == pos.line) = true := by rfl) (hst : starEach [a] X.env = (false, eval a X.env) :: starEach [] X.env := by rfl) : VB X Gm G0 H0 (.Expr (.Call (.Attribute (.Name x pn) "append" apos) [a] [] pos) pos2 :: rest) (As.and (As.lst l ds) Ψ) ρ D := fun σ G H m z r f =>
  wb_cons (ws_of (ps_expr (pe_bm PySem.F.plainAttrs_list PySem.F.slot_list_append PySem.F.type_list_append mt_append we wa hb hw hli hst) hs) (vv_name i hr hN hv hd hcd σ G H z.gh r f _ fun G1 H1 e1 => by
    have f1 := (As.and (As.lst l ds) Ψ).st z.gh e1 f
    obtain ⟨⟨g1, xs1, hx1, k1⟩, _⟩ := f1
    refine ⟨Or.inl ⟨rfl, _, SqL.of hx1⟩, va_d ha va_nil hst σ G1 H1 e1.gh (r.mono e1.gg) ((As.and (As.lst l ds) Ψ).st z.gh e1 f) _ fun vs G2 H2 e2 kv => ?_⟩
    obtain ⟨v, rfl, rv⟩ := sls1 kv
    obtain ⟨⟨g2, xs2, hx2, k2⟩, p2⟩ := (As.and (As.lst l ds) Ψ).st z.gh (e1.trans e2) f
    have k3 : RpAll G2 (xs2 ++ [v]) (ds ++ [d]) := k2.app (.cons rv .nil)
    have e12 := z.trans (e1.trans e2)
    exact ⟨l, xs2, v, rfl, rfl, hx2, by rw [k2.len, sizeLine_eq]; omega, k σ G2 _ (m.trans (e1.trans e2).gg) (e12.put h0 g2) (r.mono (e1.trans e2).gg) ⟨⟨g2, _, upd_same, k3⟩, hp G2 H2 _ g2 p2⟩⟩))
end
end K43
namespace K43
open PySem PySem.Spec PyProof.Rows L2
/-! ### what a loop walks -/
def ItOk (J : It) (G1 : Hp) (ds : List PyData) : Prop := ∀ i G H, Same G1 G → Same G H → (ds.length ≤ i → J.stop i H) ∧ ∀ d, ds[i]? = some d → J.go i H ∧ ∀ x H', J.yld i H x H' → ∃ G', Ext G H G' H' ∧ Rp G' x d
def VI (X : Cx) (Φ : As) (ρ : List Sl) (tg it : Expr) (ds : List PyData) : Prop := ∃ wi, PI X tg it wi ∧ ∀ σ G H, Same G H → SR G ρ σ → Φ.p G H → ∀ R : It → Hp → Prop, (∀ J G1 H1, Ext G H G1 H1 → ItOk J G1 ds → R J H1) → wi σ H R
section
variable {X : Cx} {Φ : As} {ρ : List Sl} {a b c e tg : Expr} {es : List Expr} {pos p : Pos}
theorem it_list {K : PySem.W.Frag} {G1 : Hp} {l : Addr} {xs : List V} {ds : List PyData} (h : G1 l = some (.lst xs)) (k : RpAll G1 xs ds) : ItOk (Itl K l) G1 ds := fun i G H s1 s2 => by
  have q : SqL K H l xs := SqL.of (s2 _ _ (s1 _ _ h))
  refine ⟨fun hi => ⟨xs, q, by rw [k.len]; exact hi⟩, fun d hd => ?_⟩
  obtain ⟨v, hv, rv⟩ := k.at hd
  refine ⟨⟨xs, v, q, hv⟩, fun x H' y => ?_⟩
  obtain ⟨e, y⟩ := y
  subst e
  have e2 := y xs q
  rw [hv] at e2
  cases e2
  exact ⟨G, Ext.refl s2, rv.mono s1⟩
theorem vi_list {ds : List PyData} (h : VE X Φ ρ a (.list ds)) : VI X Φ ρ tg a ds := ⟨_, pi_list we, fun σ G H s r f R q => h σ G H s r f _ fun v G1 H1 e1 r1 => by
  cases r1 with
  | lst h1 k1 => exact ⟨_, rfl, ⟨_, SqL.of (e1.gh _ _ h1)⟩, q _ G1 H1 e1 (it_list h1 k1)⟩⟩
theorem vi_enum {ds : List PyData} {elts : List Expr} {kk : Nat} {tpos : Pos} (B : Bl X.mg) (h : VE X Φ ρ a (.list ds)) (hg : Gl X "enumerate" := by rfl) (hs : starEach [a] X.env = [(false, eval a X.env)] := by rfl) :
    VI X Φ ρ (.Tuple elts kk tpos) (.Call (.Name "enumerate" p) [a] [] pos) (ds.zipIdx.map fun x => .tuple [.int x.2, x.1]) := ⟨_, pi_enum hg B.enumerate wa hs, fun σ G H s r f R q => va_d h va_nil hs σ G H s r f _ fun vs G1 H1 e1 k1 => by
  obtain ⟨v, rfl, r1⟩ := sls1 k1
  cases r1 with
  | @lst l xs _ h1 k1 =>
    refine ⟨_, _, rfl, SqL.of (e1.gh _ _ h1), q _ G1 H1 e1 fun i G H s1 s2 => ?_⟩
    have q : SqL X.K H l xs := SqL.of (s2 _ _ (s1 _ _ h1))
    rw [List.length_map, List.length_zipIdx]
    refine ⟨fun hi => ⟨xs, q, by rw [k1.len]; exact hi⟩, fun d hd => ?_⟩
    rw [List.getElem?_map, List.getElem?_zipIdx] at hd
    cases e3 : ds[i]? with
    | none =>
      rw [e3] at hd
      cases hd
    | some d0 =>
      rw [e3] at hd
      have hd : PyData.tuple [.int ((0 + i : Nat) : Int), d0] = d := Option.some.inj hd
      subst hd
      obtain ⟨v, hv, rv⟩ := k1.at e3
      refine ⟨⟨xs, v, q, hv⟩, fun x H' y => ?_⟩
      obtain ⟨T, x, rfl, hT, rfl, y⟩ := y
      have e2 := y xs q
      rw [hv] at e2
      cases e2
      refine ⟨_, Ext.new s2 hT, .tup upd_same ?_⟩
      rw [Nat.zero_add]
      exact .cons (.int _) (.cons (rv.mono (s1.trans (same_new (s2.free hT)))) .nil)⟩
theorem it_range {lo c : Int} {n : Nat} {G1 : Hp} {ds : List PyData} (hd : ds = (List.range n).map fun i : Nat => PyData.int (lo + i * c)) : ItOk (Itc lo c n) G1 ds := fun i G H s1 s2 => by
  subst hd
  rw [List.length_map, List.length_range]
  refine ⟨fun h => h, fun d hd => ?_⟩
  by_cases hi : i < n
  · rw [List.getElem?_map, List.getElem?_range hi] at hd
    cases hd
    refine ⟨hi, fun x H' y => ?_⟩
    obtain ⟨e, y⟩ := y
    subst e y
    exact ⟨G, Ext.refl s2, .int _⟩
  · rw [List.getElem?_map, List.getElem?_eq_none (by rw [List.length_range]; omega)] at hd
    cases hd
theorem it_range1 {lo : Int} {n : Nat} {G1 : Hp} {ds : List PyData} (hd : ds = (List.range n).map fun i : Nat => PyData.int (lo + i)) : ItOk (Itr lo n) G1 ds := fun i G H s1 s2 => by
  subst hd
  rw [List.length_map, List.length_range]
  refine ⟨fun h => h, fun d hd => ?_⟩
  by_cases hi : i < n
  · rw [List.getElem?_map, List.getElem?_range hi] at hd
    cases hd
    refine ⟨hi, fun x H' y => ?_⟩
    obtain ⟨e, y⟩ := y
    subst e y
    exact ⟨G, Ext.refl s2, .int _⟩
  · rw [List.getElem?_map, List.getElem?_eq_none (by rw [List.length_range]; omega)] at hd
    cases hd
/-- 0 .. n - 1, as data -/
def rgD (n : Nat) : List PyData := (List.range n).map fun i : Nat => PyData.int i
theorem vi_range {n : Nat} (B : Bl X.mg) (h : VE X Φ ρ a (.int n)) (hn : n ≤ 100000) (hg : Gl X "range" := by rfl) (hs : starEach [a] X.env = [(false, eval a X.env)] := by rfl) :
    VI X Φ ρ tg (.Call (.Name "range" p) [a] [] pos) (rgD n) := ⟨_, pi_range1 hg B.range wa hs, fun σ G H s r f R q => va_d h va_nil hs σ G H s r f _ fun vs G1 H1 e1 k1 => by
  obtain ⟨v, rfl, r1⟩ := sls1 k1
  cases r1
  refine ⟨n, rfl, by omega, by omega, ?_⟩
  rw [Int.toNat_natCast]
  refine q _ G1 H1 e1 (it_range1 ?_)
  unfold rgD
  refine List.map_congr_left fun i _ => ?_
  rw [Int.zero_add]⟩
/-- i, i - 1, .. j + 1 -/
theorem vi_down {i j : Int} (B : Bl X.mg) (h : VA X Φ ρ [a, b, c] [.d (.int i), .d (.int j), .d (.int (-1))]) (hi : -100000 ≤ i) (hi2 : i ≤ 100000) (hj : -100000 ≤ j) (hj2 : j ≤ 100000) (hg : Gl X "range" := by rfl)
    (hs : starEach [a, b, c] X.env = (false, eval a X.env) :: starEach [b, c] X.env := by rfl) (hpl : (backTo pos (starEach [b, c] X.env)).any (·.1) = false := by rfl) :
    VI X Φ ρ tg (.Call (.Name "range" p) [a, b, c] [] pos) ((List.range (i - j).toNat).map fun k : Nat => PyData.int (i - k)) := ⟨_, pi_range3 hg B.range wa hs hpl, fun σ G H s r f R q => h σ G H s r f _ fun vs G1 H1 e1 k1 => by
  match vs, k1 with
  | [u, v, w], k1 =>
    have r1 : Rp G1 u (.int i) := k1.1
    have r2 : Rp G1 v (.int j) := k1.2.1
    have r3 : Rp G1 w (.int (-1)) := k1.2.2.1
    cases r1
    cases r2
    cases r3
    refine ⟨i, j, -1, _, rfl, RgC.neg (by omega) (by omega) (by omega) (by omega), q _ G1 H1 e1 (it_range ?_)⟩
    refine List.map_congr_left fun k _ => ?_
    rw [Int.mul_neg_one, Int.sub_eq_add_neg]⟩
/-! ### targets -/
def VG (X : Cx) (tg : Expr) (d : PyData) (is : List Nat) (f : List Sl → List Sl) : Prop := ∀ v σ G H ρ, Same G H → Rp G v d → SR G ρ σ → ∀ Q : L2.St → Hp → Prop, (∀ σ', SR G (f ρ) σ' → (∀ vs, (∀ i ∈ is, i ∈ vs) → wipe σ' vs = wipe σ vs) → Q σ' H) → WG X tg v σ H Q
theorem wipe_set {o : Option V} {i : Nat} : ∀ {vs : List Nat} (σ : L2.St), i ∈ vs → wipe (σ.set i o) vs = wipe σ vs
  | v :: vs, σ, h => by
    by_cases hv : i ∈ vs
    · unfold wipe
      rw [wipe_set σ hv]
    · have e : i = v := (List.mem_cons.mp h).resolve_right hv
      have key : ∀ (ws : List Nat) (τ : L2.St), i ∉ ws → wipe (τ.set i o) ws = (wipe τ ws).set i o := fun ws τ hw => by
        induction ws with
        | nil => rfl
        | cons w ws ih =>
          rw [List.mem_cons, not_or] at hw
          unfold wipe
          rw [ih hw.2, List.set_comm _ _ hw.1]
      unfold wipe
      rw [key vs σ hv, ← e, List.set_set]
theorem wipe_in {vs : List Nat} : ∀ (ws : List Nat) (σ : L2.St), (∀ i ∈ ws, i ∈ vs) → wipe (wipe σ ws) vs = wipe σ vs
  | [], _, _ => rfl
  | w :: ws, σ, h => by
    show wipe ((wipe σ ws).set w none) vs = _
    rw [wipe_set _ (h w (by simp)), wipe_in ws σ fun i hi => h i (List.mem_cons_of_mem _ hi)]
theorem wipe_wipe (σ : L2.St) (vs : List Nat) : wipe (wipe σ vs) vs = wipe σ vs := wipe_in vs σ fun _ h => h
def wipeS (ρ : List Sl) : List Nat → List Sl
  | [] => ρ
  | v :: vs => (wipeS ρ vs).set v .no
theorem SR.wipe {G : Hp} {ρ : List Sl} {σ : L2.St} (h : SR G ρ σ) : ∀ vs : List Nat, SR G (wipeS ρ vs) (wipe σ vs)
  | [] => h
  | v :: vs => SR.set (s := .no) (o := none) True.intro v (h.wipe vs)
theorem vg_name {x : Str} {d : PyData} (i : Nat) (hN : X.N.Nodup) (hi : X.N[i]? = some x := by rfl) (hx : Loc X.env.scope x := by first | exact Or.inl rfl | exact Or.inr rfl) (hf : X.fn x = true ∨ X.env.scope.names.lookup x = some .local := by first | exact .inl rfl | exact .inr rfl) :
    VG X (.Name x p) d [i] (fun ρ => ρ.set i (.d d)) := fun v σ G H ρ s rv r Q q =>
  wg_of (pg_name hN hi hx hf) (q _ (SR.set (s := .d d) (o := some v) rv i r) fun vs hv => wipe_set σ (hv i (by simp)))
theorem vg_two {x y : Str} {p1 p2 p3 : Pos} {kk : Nat} {c d : PyData} (i j : Nat) (hc : X.calm = true) (hN : X.N.Nodup) (hi : X.N[i]? = some x := by rfl) (hj : X.N[j]? = some y := by rfl) (hx : Loc X.env.scope x := by first | exact Or.inl rfl | exact Or.inr rfl) (hy : Loc X.env.scope y := by first | exact Or.inl rfl | exact Or.inr rfl)
    (hf : X.fn x = true ∨ X.env.scope.names.lookup x = some .local := by first | exact .inl rfl | exact .inr rfl) (hf2 : X.fn y = true ∨ X.env.scope.names.lookup y = some .local := by first | exact .inl rfl | exact .inr rfl)
    (hn : (assignEach [.Name x p1, .Name y p2] X.env).length = 2 := by rfl) (hst : (assignEach [.Name x p1, .Name y p2] X.env).findIdx? (·.1) = none := by rfl)
    (q1 : (assignEach [.Name x p1, .Name y p2] X.env).map (·.2) = assign (.Name x p1) X.env :: (assignEach [.Name y p2] X.env).map (·.2) := by rfl) (q2 : (assignEach [.Name y p2] X.env).map (·.2) = assign (.Name y p2) X.env :: (assignEach [] X.env).map (·.2) := by rfl) :
    VG X (.Tuple [.Name x p1, .Name y p2] kk p3) (.tuple [c, d]) [i, j] (fun ρ => (ρ.set i (.d c)).set j (.d d)) := fun v σ G H ρ s rv r Q q => by
  cases rv with
  | tup h k1 =>
    cases k1 with
    | cons r1 k1 =>
      cases k1 with
      | cons r2 k1 =>
        cases k1
        exact wg_of (pg_tup hc (pgs_cons (pg_name hN hi hx hf) (pgs_cons (pg_name hN hj hy hf2) pgs_nil q2) q1) hn hst) ⟨_, _, rfl, SqT.of (s _ _ h), rfl, _, _, rfl, _, _, rfl, rfl,
          q _ (SR.set (s := .d d) (o := some _) r2 j (SR.set (s := .d c) (o := some _) r1 i r)) fun vs hv => by rw [wipe_set _ (hv j (by simp)), wipe_set _ (hv i (by simp))]⟩
/-! ### for -/
variable {Gm G0 H0 : Hp} {D : Ends} {rest body : List Stmt}
theorem vb_for {it : Expr} {ds : List PyData} {is : List Nat} {f : PyData → List Sl → List Sl} (I : Nat → List Sl) (Φs : Nat → As) (hp : PassesOwn (model X.prog X.w) X.A X.env X.xe) (hc : X.calm = true) (hi : VI X Φ ρ tg it ds) (hg : ∀ d ∈ ds, VG X tg d is (f d))
    (h0 : SLe (I 0) ρ) (hΦ : ∀ G H, Φ.p G H → (Φs 0).p G H)
    (step : ∀ Gm', Same Gm Gm' → ∀ i d, ds[i]? = some d → VB X Gm' G0 H0 body (Φs i) (f d (I i)) { D with nx := NX Gm' G0 H0 (Φs (i + 1)) (I (i + 1)), ct := NX Gm' G0 H0 (Φs (i + 1)) (I (i + 1)), bk := fun σ' H' => WB X rest D σ' H' })
    (hd : VB X Gm G0 H0 rest (Φs ds.length) (I ds.length) D) (hs : ∀ x, foldedSetIterable it X.env x = pure x := by intro _; rfl) : VB X Gm G0 H0 (.For tg it body [] pos :: rest) Φ ρ D := fun σ G H m z r φ => by
  obtain ⟨wi, pi, go⟩ := hi
  refine wb_cons (ws_of (ps_for hp hc pi wg wb hs) (go σ G H z.gh r φ _ fun J G1 H1 e1 ok => ?_))
  have mg := m.trans e1.gg
  refine ⟨fun i n σ' H' => n = ds.length - i ∧ i ≤ ds.length ∧ NX G1 G0 H0 (Φs i) (I i) σ' H', ⟨_, rfl, Nat.zero_le _, G1, Same.refl G1, z.trans e1, (r.mono e1.gg).weak h0, hΦ _ _ (Φ.st z.gh e1 φ)⟩, ?_⟩
  rintro i n σ' H' ⟨rfl, hi, G', m', z', r', φ'⟩
  obtain ⟨o1, o2⟩ := ok i G' H' m' z'.gh
  by_cases hlt : i < ds.length
  · have hd : ds[i]? = some ds[i] := List.getElem?_eq_getElem hlt
    obtain ⟨g1, g2⟩ := o2 _ hd
    refine .inr ⟨g1, NX G1 G0 H0 (Φs (i + 1)) (I (i + 1)), fun σ2 H2 h2 => ⟨ds.length - (i + 1), by omega, rfl, hlt, h2⟩, fun x H2 y => ?_⟩
    obtain ⟨G2, e2, rx⟩ := g2 x H2 y
    exact hg _ (List.getElem_mem hlt) x σ' G2 H2 (I i) e2.gh rx (r'.mono e2.gg) _ fun σ3 r3 _ => step G1 mg i _ hd σ3 G2 H2 (m'.trans e2.gg) (z'.trans e2) r3 ((Φs i).st z'.gh e2 φ')
  · have e : i = ds.length := by omega
    subst e
    exact .inl ⟨o1 (Nat.le_refl _), hd σ' G' H' (mg.trans m') z' r' φ'⟩
/-! ### list comprehensions -/
/-- in a comprehension's block -/
def InBlk (X : Cx) (scope : Scope) (Pr : Cx → Prop) : Prop := ∀ (s : Shared) (H : Hp) (C : Addr) (cl : List (Str × Addr)) (fp : List Addr), Pr (X.blk s H scope (compEnvC scope cl C X.env) fp)
def VTs (X : Cx) (Φ : As) (ρ : List Sl) (ifs : List Expr) (k : Bool) : Prop := ∃ t, PTs X ifs t ∧ ∀ σ G H, Same G H → SR G ρ σ → Φ.p G H → ∀ Q : Bool → Hp → Prop, (∀ G2 H2, Ext G H G2 H2 → Q k H2) → t σ H Q
theorem vts_nil : VTs X Φ ρ [] true := ⟨_, pts_nil, fun σ G H s _ _ Q q => q G H (Ext.refl s)⟩
theorem vts_one {k : Bool} (h : VT X Φ ρ a k) : VTs X Φ ρ [a] k := ⟨_, pts_one wt, h⟩
/-- the tests' reading, as they stand -/
def WTs (X : Cx) (ifs : List Expr) : TT := fun σ H Q => ∀ pins s, Inv X pins σ H s →
    wpAny (model X.prog X.w) X.A (forIn ifs true fun c r => if r = true then do let ok ← isTrue c X.env (eval c X.env); pure (ForInStep.yield ok) else pure (ForInStep.yield r)) (TP X pins σ Q) X.xe s
theorem wts {ifs : List Expr} : PTs X ifs (WTs X ifs) := ⟨fun pins s σ H Q I h => h pins s I⟩
theorem wts_of {ifs : List Expr} {t : TT} {σ : L2.St} {H : Hp} {Q : Bool → Hp → Prop} (h : PTs X ifs t) (q : t σ H Q) : WTs X ifs σ H Q := fun pins s I => h.run pins s σ H Q I q
theorem lc_of {elt : Expr} {ifs : List Expr} {scope : Scope} {own : List (Str × Nat)} {α : Type} {xs : List α} {enc : α → PyData} {k : α → Bool} {f : α → PyData} {is : List Nat} {st : α → List Sl → List Sl} {wi : TI}
    (go : ∀ σ G H, Same G H → SR G ρ σ → Φ.p G H → ∀ R : It → Hp → Prop, (∀ J G1 H1, Ext G H G1 H1 → ItOk J G1 (xs.map enc) → R J H1) → wi σ H R) (hl : xs.length ≤ 100000)
    (his : ∀ i ∈ is, i ∈ own.map (·.2)) (hg : ∀ x ∈ xs, InBlk X scope fun Y => VG Y tg (enc x) is (st x)) (ht : ∀ x ∈ xs, InBlk X scope fun Y => VTs Y Φ (st x (wipeS ρ (own.map (·.2)))) ifs (k x))
    (he : ∀ x ∈ xs, k x = true → InBlk X scope fun Y => VE Y Φ (st x (wipeS ρ (own.map (·.2)))) elt (f x))
    {σ : L2.St} {G H : Hp} {Q : VK} (s : Same G H) (r : SR G ρ σ) (φ : Φ.p G H) (q : ∀ p ys G2 H2, Ext G H G2 H2 → H p = none → G2 p = none → H2 p = some (.lst ys) → RpAll G2 ys ((xs.filter k).map f) → Q (.ref p) H2) :
    tLc wi (fun v σ H Q => ∀ (s : Shared) (H' : Hp) (C : Addr) (cl : List (Str × Addr)) (fp : List Addr), WG (X.blk s H' scope (compEnvC scope cl C X.env) fp) tg v σ H Q)
      (fun σ H Q => ∀ (s : Shared) (H' : Hp) (C : Addr) (cl : List (Str × Addr)) (fp : List Addr), WTs (X.blk s H' scope (compEnvC scope cl C X.env) fp) ifs σ H Q)
      (fun σ H Q => ∀ (s : Shared) (H' : Hp) (C : Addr) (cl : List (Str × Addr)) (fp : List Addr), WE (X.blk s H' scope (compEnvC scope cl C X.env) fp) elt σ H Q) (own.map (·.2)) σ H Q := by
  refine go σ G H s r φ _ fun J G1 H1 e1 ok D hD => ?_
  have eD : Ext G H G1 (upd H1 D (.lst [])) := e1.trans (Ext.own e1.gh hD)
  refine ⟨fun i n H' => n = xs.length - i ∧ i ≤ xs.length ∧ ∃ G' acc, Same G1 G' ∧ Ext G H G' H' ∧ G' D = none ∧ H' D = some (.lst acc) ∧ RpAll G' acc (((xs.take i).filter k).map f), ⟨_, rfl, Nat.zero_le _, G1, [], Same.refl _, eD, e1.gh.free hD, upd_same, .nil⟩, ?_⟩
  rintro i n H' ⟨rfl, hi, G', acc, m', z', gD, hD', ka⟩
  obtain ⟨o1, o2⟩ := ok i G' H' m' z'.gh
  rw [List.length_map] at o1
  by_cases hlt : i < xs.length
  · have hx : xs[i]? = some xs[i] := List.getElem?_eq_getElem hlt
    have hm : xs[i] ∈ xs := List.getElem_mem hlt
    obtain ⟨g1, g2⟩ := o2 (enc xs[i]) (by rw [List.getElem?_map, hx]; rfl)
    have htk : xs.take (i + 1) = xs.take i ++ [xs[i]] := by rw [List.take_succ, hx]; rfl
    refine .inr ⟨g1, fun H2 => i + 1 ≤ xs.length ∧ ∃ G2 acc, Same G1 G2 ∧ Ext G H G2 H2 ∧ G2 D = none ∧ H2 D = some (.lst acc) ∧ RpAll G2 acc (((xs.take (i + 1)).filter k).map f), fun H2 h2 => ⟨xs.length - (i + 1), by omega, rfl, h2⟩, fun x H2 y => ?_⟩
    obtain ⟨G2, e2, rx⟩ := g2 x H2 y
    have z2 := z'.trans e2
    have r2 := (r.mono z2.gg).wipe (own.map (·.2))
    intro s2 H3 C cl fp
    refine hg _ hm s2 H3 C cl fp x _ G2 H2 _ e2.gh rx r2 _ fun σ3 r3 w3 => ?_
    refine ⟨by rw [w3 _ his]; exact (wipe_wipe σ _), fun s4 H4 C4 cl4 fp4 => ?_⟩
    obtain ⟨t, pt, gt⟩ := ht _ hm s4 H4 C4 cl4 fp4
    refine wts_of pt (gt σ3 G2 H2 e2.gh r3 (Φ.st s z2 φ) _ fun G5 H5 e5 => ?_)
    have z5 := z2.trans e5
    have ne2 : H2 D ≠ none := by rw [e2.hh _ _ hD']; simp
    have ne' : H' D ≠ none := by rw [hD']; simp
    have gD2 : G2 D = none := e2.ow D ne' gD
    have gD5 : G5 D = none := e5.ow D ne2 gD2
    have hD5 : H5 D = some (.lst acc) := e5.hh _ _ (e2.hh _ _ hD')
    have ka5 : RpAll G5 acc (((xs.take i).filter k).map f) := ka.mono (e2.gg.trans e5.gg)
    cases hk : k xs[i] with
    | false =>
      rw [if_neg Bool.false_ne_true]
      refine ⟨hlt, G5, acc, m'.trans (e2.gg.trans e5.gg), z5, gD5, hD5, ?_⟩
      rw [htk, List.filter_append, List.filter_cons, hk]
      simpa using ka5
    | true =>
      rw [if_pos rfl]
      intro s6 H6 C6 cl6 fp6
      refine he _ hm hk s6 H6 C6 cl6 fp6 σ3 G5 H5 e5.gh (r3.mono e5.gg) (Φ.st s z5 φ) _ fun v G7 H7 e7 rv => ?_
      have ne5 : H5 D ≠ none := by rw [hD5]; simp
      have gD7 : G7 D = none := e7.ow D ne5 gD5
      have ka7 := ka5.mono e7.gg
      have hlen : acc.length ≤ i := by
        rw [ka.len, List.length_map]
        refine Nat.le_trans (List.length_filter_le _ _) ?_
        rw [List.length_take]
        exact Nat.min_le_left _ _
      have h0D : H D = none := e1.hh.free hD
      refine ⟨acc, e7.hh _ _ hD5, by rw [sizeLine_eq]; omega, hlt, G7, acc ++ [v], m'.trans ((e2.gg.trans e5.gg).trans e7.gg), (z5.trans e7).put h0D gD7, gD7, upd_same, ?_⟩
      rw [htk, List.filter_append, List.filter_cons, hk, List.map_append]
      exact ka7.app (.cons rv .nil)
  · have e : i = xs.length := by omega
    subst e
    refine .inl ⟨o1 (Nat.le_refl _), ?_⟩
    rw [List.take_length] at ka
    exact q D acc G' H' z' (e1.hh.free hD) gD hD' ka
theorem vn_lc {elt it : Expr} {ifs : List Expr} {scope : Scope} {α : Type} {xs : List α} {enc : α → PyData} {k : α → Bool} {f : α → PyData} {is : List Nat} {st : α → List Sl → List Sl} (own : List (Str × Nat)) (hc : X.calm = true) (hN : X.N.Nodup)
    (hi : VI X Φ ρ tg it (xs.map enc)) (hl : xs.length ≤ 100000) (hg : ∀ x ∈ xs, InBlk X scope fun Y => VG Y tg (enc x) is (st x)) (ht : ∀ x ∈ xs, InBlk X scope fun Y => VTs Y Φ (st x (wipeS ρ (own.map (·.2)))) ifs (k x))
    (he : ∀ x ∈ xs, k x = true → InBlk X scope fun Y => VE Y Φ (st x (wipeS ρ (own.map (·.2)))) elt (f x)) (ok : blkC X.N X.env.scope scope own = true := by kernel_rfl) (his : ∀ i ∈ is, i ∈ own.map (·.2) := by decide) (hs : ∀ x, foldedSetIterable it X.env x = pure x := by intro _; rfl) :
    VN X Φ ρ (.ListComp elt [⟨tg, it, ifs, 0⟩] scope pos) ((xs.filter k).map f) := fun σ G H s r φ Q q => by
  obtain ⟨wi, pi, go⟩ := hi
  exact we_of (pe_lc hc hN pi (blkOk_by ok) (fun s H C cl fp => ⟨fun pins s1 σ H1 v u Q1 I rv h => h s H C cl fp pins s1 u I rv⟩) (fun s H C cl fp => ⟨fun pins s1 σ H1 Q1 I h => h s H C cl fp pins s1 I⟩) (fun s H C cl fp => ⟨fun pins s1 σ H1 Q1 I h => h s H C cl fp pins s1 I⟩) hs)
    (lc_of go hl his hg ht he s r φ q)
/-- name = [..] on one line, the name a plain local: the new list as data -/
theorem vb_setLc {x : Str} {px : Pos} {elt it : Expr} {ifs : List Expr} {scope : Scope} {α : Type} {xs : List α} {enc : α → PyData} {k : α → Bool} {f : α → PyData} {is : List Nat} {st : α → List Sl → List Sl} (i : Nat) (own : List (Str × Nat)) (hc : X.calm = true) (hN : X.N.Nodup)
    (hi : VI X Φ ρ tg it (xs.map enc)) (hl : xs.length ≤ 100000) (hg : ∀ x ∈ xs, InBlk X scope fun Y => VG Y tg (enc x) is (st x)) (ht : ∀ x ∈ xs, InBlk X scope fun Y => VTs Y Φ (st x (wipeS ρ (own.map (·.2)))) ifs (k x))
    (he : ∀ x ∈ xs, k x = true → InBlk X scope fun Y => VE Y Φ (st x (wipeS ρ (own.map (·.2)))) elt (f x))
    (kk : VB X Gm G0 H0 rest Φ (ρ.set i (.d (.list ((xs.filter k).map f)))) D) (ok : blkC X.N X.env.scope scope own = true := by kernel_rfl) (his : ∀ i ∈ is, i ∈ own.map (·.2) := by decide) (hx : X.N[i]? = some x := by rfl) (hxl : X.env.scope.names.lookup x = some .local := by rfl)
    (hk : X.env.scope.kind = .function := by rfl) (hln : (px.line == p.line) = true := by rfl) (ha : (scope.names.any fun (n, k) => n == x && (k == .local || k == .cell)) = false := by decide +kernel)
    (hs : ∀ x, foldedSetIterable it X.env x = pure x := by intro _; rfl) : VB X Gm G0 H0 (.Assign [.Name x px] (.ListComp elt [⟨tg, it, ifs, 0⟩] scope p) pos :: rest) Φ ρ D := fun σ G H m z r φ => by
  obtain ⟨wi, pi, go⟩ := hi
  refine wb_cons (ws_of (ps_setLc hc hN hx hxl (sw_true hk hxl hln ha) pi (blkOk_by ok) (fun s H C cl fp => ⟨fun pins s1 σ H1 v u Q1 I rv h => h s H C cl fp pins s1 u I rv⟩) (fun s H C cl fp => ⟨fun pins s1 σ H1 Q1 I h => h s H C cl fp pins s1 I⟩) (fun s H C cl fp => ⟨fun pins s1 σ H1 Q1 I h => h s H C cl fp pins s1 I⟩) hs)
    (lc_of go hl his hg ht he z.gh r φ fun l ys G2 H2 e2 h0 g2 hp ky => ?_))
  have e3 : Ext G H (upd G2 l (.lst ys)) H2 := e2.still h0 g2 hp
  exact kk _ _ H2 (m.trans e3.gg) (z.trans e3) (SR.set (s := .d (.list ((xs.filter k).map f))) (o := some (.ref l)) (.lst upd_same (ky.mono (same_new g2))) i (r.mono e3.gg)) (Φ.st z.gh e3 φ)
/-- .. the new list as one's own -/
theorem vb_newLc {x : Str} {px : Pos} {elt it : Expr} {ifs : List Expr} {scope : Scope} {α : Type} {xs : List α} {enc : α → PyData} {k : α → Bool} {f : α → PyData} {is : List Nat} {st : α → List Sl → List Sl} (i : Nat) (own : List (Str × Nat)) (hc : X.calm = true) (hN : X.N.Nodup)
    (hi : VI X Φ ρ tg it (xs.map enc)) (hl : xs.length ≤ 100000) (hg : ∀ x ∈ xs, InBlk X scope fun Y => VG Y tg (enc x) is (st x)) (ht : ∀ x ∈ xs, InBlk X scope fun Y => VTs Y Φ (st x (wipeS ρ (own.map (·.2)))) ifs (k x))
    (he : ∀ x ∈ xs, k x = true → InBlk X scope fun Y => VE Y Φ (st x (wipeS ρ (own.map (·.2)))) elt (f x))
    (kk : ∀ l, H0 l = none → VB X Gm G0 H0 rest (As.and (As.lst l ((xs.filter k).map f)) Φ) (ρ.set i (.v (.ref l))) D) (ok : blkC X.N X.env.scope scope own = true := by kernel_rfl) (his : ∀ i ∈ is, i ∈ own.map (·.2) := by decide) (hx : X.N[i]? = some x := by rfl) (hxl : X.env.scope.names.lookup x = some .local := by rfl)
    (hk : X.env.scope.kind = .function := by rfl) (hln : (px.line == p.line) = true := by rfl) (ha : (scope.names.any fun (n, k) => n == x && (k == .local || k == .cell)) = false := by decide +kernel)
    (hs : ∀ x, foldedSetIterable it X.env x = pure x := by intro _; rfl) : VB X Gm G0 H0 (.Assign [.Name x px] (.ListComp elt [⟨tg, it, ifs, 0⟩] scope p) pos :: rest) Φ ρ D := fun σ G H m z r φ => by
  obtain ⟨wi, pi, go⟩ := hi
  refine wb_cons (ws_of (ps_setLc hc hN hx hxl (sw_true hk hxl hln ha) pi (blkOk_by ok) (fun s H C cl fp => ⟨fun pins s1 σ H1 v u Q1 I rv h => h s H C cl fp pins s1 u I rv⟩) (fun s H C cl fp => ⟨fun pins s1 σ H1 Q1 I h => h s H C cl fp pins s1 I⟩) (fun s H C cl fp => ⟨fun pins s1 σ H1 Q1 I h => h s H C cl fp pins s1 I⟩) hs)
    (lc_of go hl his hg ht he z.gh r φ fun l ys G2 H2 e2 h0 g2 hp ky => ?_))
  exact kk l (z.hh.free h0) _ G2 H2 (m.trans e2.gg) (z.trans e2) (SR.set (s := .v (.ref l)) (o := some (.ref l)) rfl i (r.mono e2.gg)) ⟨⟨g2, ys, hp, ky⟩, Φ.st z.gh e2 φ⟩
/-! ### a list of one's own: frozen, read, written; name op= e -/
def StF (l : Addr) (Ψ : As) : Prop := ∀ G H o, H l = some o → Ψ.p G H → Ψ.p (upd G l o) H
theorem stf_top {l : Addr} : StF l As.top := fun _ _ _ _ _ => True.intro
theorem stf_and {l : Addr} {Φ Ψ : As} (h : StF l Φ) (k : StF l Ψ) : StF l (As.and Φ Ψ) := fun G H o g z => ⟨h G H o g z.1, k G H o g z.2⟩
/-- nothing more is written into it: it is data -/
theorem vb_still {sts : List Stmt} {l : Addr} {Ψ : As} {ds : List PyData} (i : Nat) (h0 : H0 l = none) (hr : ρ[i]? = some (.v (.ref l))) (hp : StF l Ψ) (k : VB X Gm G0 H0 sts Ψ (ρ.set i (.d (.list ds))) D) : VB X Gm G0 H0 sts (As.and (As.lst l ds) Ψ) ρ D := fun σ G H m z r φ => by
  obtain ⟨⟨g, xs, hx, kx⟩, ψ⟩ := φ
  have e := z.still h0 g hx
  have s1 : Same G (upd G l (.lst xs)) := same_new g
  have r1 : SR (upd G l (.lst xs)) (ρ.set i (.d (.list ds))) (σ.set i (some (.ref l))) := SR.set (s := .d (.list ds)) (o := some (.ref l)) (.lst upd_same (kx.mono s1)) i (r.mono s1)
  have hi := r.getV hr
  have e2 : σ.set i (some (.ref l)) = σ := by
    refine List.ext_getElem? fun j => ?_
    by_cases hj : i = j
    · subst hj
      obtain ⟨hlt, _⟩ := List.getElem?_eq_some_iff.mp hi
      rw [List.getElem?_set_self hlt, hi]
    · rw [List.getElem?_set_ne hj]
  rw [e2] at r1
  exact k σ _ H (m.trans s1) e r1 (hp G H _ hx ψ)
/-- l[i] = e -/
theorem vb_put {l : Addr} {Ψ : As} {ds : List PyData} {d : PyData} {x : Str} {j : Int} {n : Nat} {pn ps : Pos} (i : Nat) (hr : ρ[i]? = some (.v (.ref l))) (ha : VE X (As.and (As.lst l ds) Ψ) ρ a d) (hb : VE X (As.and (As.lst l ds) Ψ) ρ b (.int j)) (hj : ixN ds.length j = some n) (h0 : H0 l = none) (hp : StP l Ψ)
    (k : VB X Gm G0 H0 rest (As.and (As.lst l (ds.set n d)) Ψ) ρ D) (hN : X.N[i]? = some x := by rfl) (hv : Vis X.env.scope x := by first | exact Or.inl rfl | exact Or.inr (Or.inl rfl) | exact Or.inr (Or.inr rfl)) (hd : (x == ("__debug__" : Str)) = false := by decide) (hcd : (x == ("__classdict__" : Str)) = false := by decide)
    (hs : swapsWithSole [.Subscript (.Name x pn) b ps] a pos.line X.env = pure false := by rfl) (hw : swappedStores [.Subscript (.Name x pn) b ps] a X.env = pure none := by rfl)
    (h1 : (assignEach [.Subscript (.Name x pn) b ps] X.env).map (·.2) = [assign (.Subscript (.Name x pn) b ps) X.env] := by rfl)
    (hx : ∀ v, assign (.Subscript (.Name x pn) b ps) X.env v = (do
      let ov ← holding [v] (eval (.Name x pn) X.env)
      let iv ← holding [v, ov] (eval b X.env)
      standAt ps
      holding [v, ov, iv] (setItem ov iv v)
      release [v, ov, iv] []) := by intro _; rfl) :
    VB X Gm G0 H0 (.Assign [.Subscript (.Name x pn) b ps] a pos :: rest) (As.and (As.lst l ds) Ψ) ρ D := fun σ G H m z r φ =>
  wb_cons (ws_of (ps_asg we (pg_sub we we set_list hx) hs hw h1) (ha σ G H z.gh r φ _ fun v G1 H1 e1 rv => by
    refine vv_name i hr hN hv hd hcd σ G1 H1 e1.gh (r.mono e1.gg) ((As.and (As.lst l ds) Ψ).st z.gh e1 φ) _ fun G2 H2 e2 => ?_
    have e12 := e1.trans e2
    refine hb σ G2 H2 e2.gh (r.mono e12.gg) ((As.and (As.lst l ds) Ψ).st z.gh e12 φ) _ fun w G3 H3 e3 rw' => ?_
    cases rw'
    have e13 := e12.trans e3
    obtain ⟨⟨g3, xs, hx3, k3⟩, p3⟩ := (As.and (As.lst l ds) Ψ).st z.gh e13 φ
    refine ⟨l, xs, j, n, rfl, rfl, hx3, by rw [k3.len]; exact hj, k σ G3 _ (m.trans e13.gg) ((z.trans e13).put h0 g3) (r.mono e13.gg) ⟨⟨g3, _, upd_same, ?_⟩, hp G3 H3 _ g3 p3⟩⟩
    exact RpAll.set (rv.mono (e2.trans e3).gg) n k3))
/-- l[i], l one's own -/
theorem v_ixO {l : Addr} {Ψ : As} {ds : List PyData} {d : PyData} {x : Str} {j : Int} {pn : Pos} (i : Nat) (hr : ρ[i]? = some (.v (.ref l))) (hb : VE X (As.and (As.lst l ds) Ψ) ρ b (.int j)) (hj : atI ds j = some d)
    (hN : X.N[i]? = some x := by rfl) (hv : Vis X.env.scope x := by first | exact Or.inl rfl | exact Or.inr (Or.inl rfl) | exact Or.inr (Or.inr rfl)) (hd : (x == ("__debug__" : Str)) = false := by decide) (hcd : (x == ("__classdict__" : Str)) = false := by decide) (hpx : PlainIx b := by exact fun _ _ => rfl) :
    VE X (As.and (As.lst l ds) Ψ) ρ (.Subscript (.Name x pn) b pos) d := fun σ G H s r φ Q q =>
  we_of (pe_ix ix_list we we hpx) (vv_name i hr hN hv hd hcd σ G H s r φ _ fun G1 H1 e1 => hb σ G1 H1 e1.gh (r.mono e1.gg) ((As.and (As.lst l ds) Ψ).st s e1 φ) _ fun w G2 H2 e2 rw' => by
    cases rw'
    obtain ⟨⟨g2, xs, hx2, k2⟩, _⟩ := (As.and (As.lst l ds) Ψ).st s (e1.trans e2) φ
    obtain ⟨v, hv, rv⟩ := ix_rp k2 hj
    exact ⟨l, xs, j, v, rfl, rfl, SqL.of hx2, hv, q v G2 H2 (e1.trans e2) rv⟩)
theorem vb_aug {x : Str} {px : Pos} {m n : Int} {op : Operator} {g : Int → Int → Int} (i : Nat) (ho : PIp X op (ipI g)) (hr : ρ[i]? = some (.d (.int m))) (he : VE X Φ ρ e (.int n)) (hN : X.N.Nodup) (k : VB X Gm G0 H0 rest Φ (ρ.set i (.d (.int (g m n)))) D)
    (hi : X.N[i]? = some x := by rfl) (hx : Loc X.env.scope x := by first | exact Or.inl rfl | exact Or.inr rfl) (hf : X.fn x = true ∨ X.env.scope.names.lookup x = some .local := by first | exact .inl rfl | exact .inr rfl) : VB X Gm G0 H0 (.AugAssign (.Name x px) op e pos :: rest) Φ ρ D := fun σ G H mm z r φ =>
  wb_cons (ws_of (ps_aug hN hi hx we ho hf) (by
    obtain ⟨v, hv, rv⟩ := r.getD hr
    cases rv
    refine ⟨_, hv, he σ G H z.gh r φ _ fun w G2 H2 e2 rw' => ?_⟩
    cases rw'
    exact ⟨m, n, rfl, rfl, k _ G2 H2 (mm.trans e2.gg) (z.trans e2) (SR.set (s := .d (.int (g m n))) (o := some (.int (g m n))) (.int _) i (r.mono e2.gg)) (Φ.st z.gh e2 φ)⟩))
end
end K43
namespace K43
open PySem PySem.Spec PyProof.Rows L2
theorem ne_t {p : Prop} [Decidable p] (h : (!decide p) = true) : ¬ p := fun q => by
  rw [decide_eq_true q] at h
  cases h
theorem ne_f {p : Prop} [Decidable p] (h : (!decide p) = false) : p := Decidable.byContradiction fun q => by
  rw [decide_eq_false q] at h
  cases h
/-- the context of a def's body -/
abbrev cxF (W : Wd) (N : List Str) (qual : Str) (scope : Scope) (f : Addr) (cdv : Value) (A : Around) (outer : List Env) (s : Shared) (H : Hp) (E : XK) : Cx := cxOf (L2N.CX W.P W.w) W.P W.w W.K W.mg W.base N qual scope f cdv A outer s H E
theorem inW {W : Wd} {N : List Str} {qual : Str} {scope : Scope} {f : Addr} {cdv : Value} {A : Around} {outer : List Env} {s : Shared} {H : Hp} {E : XK} : InW W (cxF W N qual scope f cdv A outer s H E) := ⟨rfl, rfl, rfl, rfl, rfl⟩
theorem wishF {W : Wd} {N : List Str} {qual : Str} {scope : Scope} {f : Addr} {cdv : Value} {A : Around} {outer : List Env} {s : Shared} {H : Hp} {E : XK} : Wish (cxF W N qual scope f cdv A outer s H E) E := L2N.passes_call (L2N.takes_of rfl rfl rfl rfl) (fun _ _ _ _ h => h)
theorem takesF {W : Wd} {N : List Str} {qual : Str} {scope : Scope} {f : Addr} {cdv : Value} {A : Around} {outer : List Env} {s : Shared} {H : Hp} {E : XK} : L2N.Takes (cxF W N qual scope f cdv A outer s H E) (fun cls d _ H => E cls d H) := L2N.takes_of rfl rfl rfl rfl
theorem ownF {W : Wd} {N : List Str} {qual : Str} {scope : Scope} {f : Addr} {cdv : Value} {A : Around} {outer : List Env} {s : Shared} {H : Hp} {E : XK} : PassesOwn (model (cxF W N qual scope f cdv A outer s H E).prog (cxF W N qual scope f cdv A outer s H E).w) (cxF W N qual scope f cdv A outer s H E).A (cxF W N qual scope f cdv A outer s H E).env (cxF W N qual scope f cdv A outer s H E).xe := passes_of rfl
/-- a def's body keeps F -/
def Body (W : Wd) (k : Nat) (N : List Str) (qual : Str) (st : Stmt) (n : Nat) (F : FR) : Prop := ∀ (f : Addr) (cdv : Value) (A : Around) (outer : List Env) (s : Shared) (H G : Hp) (Q : VK) (E : XK) (ss : List Sl) (Φ : As) (o : Out), Room k (A.deeper (envOfC qual (defScope st) s.heap.objs.size f cdv)) →
  F ss Φ o → OP Q E G H o → VB (cxF W N qual (defScope st) f cdv A outer s H E) G G H (defBody st) Φ (ρ0 ss (N.length - n)) { nx := fun _ H' => Q .non H', rt := Q }
abbrev FunP (W : Wd) (x : Str) (st : Stmt) (kws : List (Str × V)) (f : Addr) (fd : FuncData) : Prop := FunD W.K x x (defArgs st) (defBody st) (defScope st) [] kws f fd
theorem fn_of_body {W : Wd} {k : Nat} {N ps : List Str} {x qual : Str} {st : Stmt} {F : FR} {kws : List (Str × V)} {f : Addr} {fd : FuncData} (D : FunD W.K x qual (defArgs st) (defBody st) (defScope st) [] kws f fd) (S : FnScope N ps (defScope st)) (b : Body W k N qual st ps.length F) :
    FnOk W.P W.w W.K W.mg W.base (L2N.CX W.P W.w) (k + 1) f fd ps (spF ps.length F) :=
  D.ok S (fun vs H Q E h => spF_len h) fun cdv A outer s H vs Q E hr h => by
    obtain ⟨G, ss, Φ, o, hn, hs, hk, hφ, hF, hO⟩ := h
    refine ⟨WB (cxF W N qual (defScope st) f cdv A outer s H E) (defBody st), wb, b f cdv A outer s H G Q E ss Φ o hr hF hO (start N vs) G H (Same.refl G) (Ext.refl hs) ?_ hφ⟩
    have e : N.length - ps.length = N.length - vs.length := by rw [← hn, hk.len]
    rw [e]
    exact SR.start _ hk
theorem fn_mk {W : Wd} {k : Nat} {N ps : List Str} {x : Str} {st : Stmt} {F : FR} {f : Addr} {fd : FuncData} (D : FunP W x st [] f fd) (hm : W.mg x = some (.ref f)) (S : FnScope N ps (defScope st)) (b : Body W k N x st ps.length F)
    (hb : ∀ (kV doc pm : Value) (an : Option Addr) (cdv ct : Value) (us : List Value), us.length = ps.length → bindArgs (PySem.W.fnOf x x (defArgs st) (defBody st) (defScope st) .none kV doc pm an cdv ct) ⟨us, []⟩ = pure (ps.zip us)) : Fn W x (k + 1) ps [] F :=
  ⟨f, fd, [], hm, D.kp, fn_of_body D S b, D.bindsN hb, .nil, rfl⟩
/-- with one keyword-only parameter that has a default: called without it, with it -/
theorem fn_mk0 {W : Wd} {k : Nat} {N ps : List Str} {x kw : Str} {d0 : PyData} {st : Stmt} {F : FR} {f : Addr} {fd : FuncData} (D : FunP W x st [(kw, scV d0)] f fd) (hm : W.mg x = some (.ref f)) (S : FnScope N ps (defScope st)) (b : Body W k N x st ps.length F) (n : Nat) (hn : n + 1 = ps.length) (hsc : scal? d0 = true)
    (hb : ∀ (D : Addr) (doc pm : Value) (an : Option Addr) (cdv ct : Value) (us ks : List Value), us.length = n → ks.length = 1 → KwChain D ([kw].zip ks) (bindArgs (PySem.W.fnOf x x (defArgs st) (defBody st) (defScope st) .none (.ref D) doc pm an cdv ct) ⟨us, []⟩) (ps.zip (us ++ ks))) : Fn W x (k + 1) ps [d0] F := by
  obtain ⟨ds, vl, bn⟩ := D.binds0 (ps := ps) n (by simp) hn hb
  exact ⟨f, fd, ds, hm, D.kp, fn_of_body D S b, bn, vl, by rw [List.all_cons, hsc]; rfl⟩
theorem fn_mkK {W : Wd} {k : Nat} {N ps : List Str} {x kw : Str} {v0 : V} {st : Stmt} {F : FR} {f : Addr} {fd : FuncData} (D : FunP W x st [(kw, v0)] f fd) (hm : W.mg x = some (.ref f)) (S : FnScope N ps (defScope st)) (b : Body W k N x st ps.length F) (n : Nat)
    (hb : ∀ (kV doc pm : Value) (an : Option Addr) (cdv ct : Value) (us ws : List Value), us.length = n → ws.length = 1 → bindArgs (PySem.W.fnOf x x (defArgs st) (defBody st) (defScope st) .none kV doc pm an cdv ct) ⟨us, [kw].zip ws⟩ = pure (ps.zip (us ++ ws))) : FnK W x (k + 1) ps n kw F := by
  refine ⟨f, fd, hm, D.kp, fn_of_body D S b, ?_⟩
  obtain ⟨oc, od, dV, kV, doc, pm, an, cdv, ct, osl, rfl, lk, hcd, hD, hK⟩ := D.ex
  rcases hD with ⟨_, rfl⟩ | ⟨e, _⟩
  · exact ⟨fun s us ws X l1 l2 => .of_eq (hb kV doc pm an cdv ct us ws l1 l2), fun r1 r2 => r1.append r2⟩
  · exact absurd rfl e
/-! ### raise -/
/-- x(e, ..) makes an exception of the class at C with the fields ns -/
structure Xc (W : Wd) (x : Str) (C : Addr) (ns : List Str) : Prop where
  go : ∀ (X : Cx) (p pos : Pos) (e : Expr) (es : List Expr), InW W X → Room 3 X.A → Gl X x → (x == ("__debug__" : Str)) = false → starEach (e :: es) X.env = (false, eval e X.env) :: starEach es X.env → (backTo pos (starEach es X.env)).any (·.1) = false →
    L2N.PMk X (.Call (.Name x p) (e :: es) [] pos) (fun σ H Q => WA X (e :: es) σ H fun vs H1 => vs.length = ns.length ∧ ∀ d, H1 d = none → Q (.ref C) (some d) (upd H1 d (.xd (ns.zip vs))))
section
variable {W : Wd} {X : Cx} {Φ : As} {ρ : List Sl} {a b c e tg : Expr} {es : List Expr} {pos p : Pos} {Gm G0 H0 : Hp} {D : Ends} {rest : List Stmt} {E : XK}
def xn (C : Addr) (ns : List Str) (ds : List PyData) : Xn := ⟨C, some (ns.zip (ds.map scV))⟩
theorem vb_raise {x : Str} {C : Addr} {ns : List Str} {ds : List PyData} {k : Nat} {p2 : Pos} (XC : Xc W x C ns) (hW : InW W X) (hr : Room k X.A) (tk : L2N.Takes X (fun cls d _ H => E cls d H)) (hc : X.calm = true) (ha : VA X Φ ρ (e :: es) (ds.map Sl.d)) (h : XP E (xn C ns ds) G0 H0) (hl : ds.length = ns.length := by rfl) (hsc : ds.all scal? = true := by rfl) (hk : 3 ≤ k := by decide)
    (hg : Gl X x := by rfl) (hdb : (x == ("__debug__" : Str)) = false := by decide) (he : starEach (e :: es) X.env = (false, eval e X.env) :: starEach es X.env := by rfl) (hpl : (backTo pos (starEach es X.env)).any (·.1) = false := by rfl) :
    VB X Gm G0 H0 (.Raise (some (.Call (.Name x p) (e :: es) [] pos)) none p2 :: rest) Φ ρ D := fun σ G H m z r φ =>
  wb_cons (ws_of (L2N.ps_raise hc tk (XC.go X p pos e es hW (hr.mono hk) hg hdb he hpl)) (ha σ G H z.gh r φ _ fun vs G2 H2 e2 k2 => by
    have e3 := sc_all k2.rp hsc
    subst e3
    refine ⟨by rw [List.length_map, hl], fun d hd => ?_⟩
    exact h (some d) _ _ ((z.trans e2).trans (Ext.own e2.gh hd)) ⟨d, rfl, upd_same⟩))
end
/-! ### the text -/
def top (i : Nat) : Stmt := PySem.Challenge.pw_climbrow_k43_whole_exact_guide.main.body.getD i (.Pass ⟨0, 0, 0, 0⟩)
/-! ### check_hands -/
abbrev s17 : Stmt := top 17
def F17 (cH : Addr) : FR := fun ss _ o => ∃ ms ts : List PyData, ss = [.d (.list ms), .d (.list ts)] ∧ ms.length ≤ 100000 ∧ ts.length ≤ 100000 ∧
  o = if ms.length = ts.length then .val .none else .exc (xn cH ["mine_count", "theirs_count"] [.int ms.length, .int ts.length])
theorem S17 : FnScope ["mine", "theirs"] ["mine", "theirs"] (defScope s17) := ⟨rfl, rfl, rfl, by decide +kernel, rfl, by decide +kernel, by decide +kernel⟩
theorem b17 {W : Wd} {cH : Addr} (B : Bl W.mg) (XH : Xc W "BadHands" cH ["mine_count", "theirs_count"]) : Body W 3 ["mine", "theirs"] "check_hands" s17 2 (F17 cH) := by
  intro f cdv A outer s H G Q E ss Φ o hr hF hO
  obtain ⟨ms, ts, rfl, h1, h2, rfl⟩ := hF
  refine vb_if1 (vt_neI (v_lenL B (v_name 0 rfl)) (v_lenL B (v_name 1 rfl))) (fun hc => ?_) (fun hc => ?_)
  · have e : ¬ ms.length = ts.length := by have := ne_t hc; omega
    rw [if_neg e] at hO
    exact vb_raise XH inW hr takesF rfl (va_d (v_lenL B (v_name 0 rfl)) (va_d (v_lenL B (v_name 1 rfl)) va_nil)) hO
  · have e : ms.length = ts.length := by have := ne_f hc; omega
    rw [if_pos e] at hO
    exact vb_end hO
theorem fn17 {W : Wd} {cH f : Addr} {fd : FuncData} (B : Bl W.mg) (XH : Xc W "BadHands" cH ["mine_count", "theirs_count"]) (D : FunP W "check_hands" s17 [] f fd) (hm : W.mg "check_hands" = some (.ref f)) : Fn W "check_hands" 4 ["mine", "theirs"] [] (F17 cH) :=
  fn_mk D hm S17 (b17 B XH) fun _ _ _ _ _ _ us hl => match us, hl with | [_, _], _ => rfl
end K43
namespace K43
open PySem PySem.Spec PyProof.Rows L2
/-! ### more words -/
def As.pu (p : Prop) : As := ⟨fun _ _ => p, fun _ _ h => h⟩
theorem stp_pu {l : Addr} {p : Prop} : StP l (As.pu p) := fun _ _ _ _ h => h
theorem stf_pu {l : Addr} {p : Prop} : StF l (As.pu p) := fun _ _ _ _ h => h
section
variable {X : Cx} {Φ : As} {ρ : List Sl} {a b e tg : Expr} {es : List Expr} {pos p : Pos} {Gm G0 H0 : Hp} {D : Ends} {rest sts : List Stmt}
theorem vb_pu {p : Prop} (k : p → VB X Gm G0 H0 sts Φ ρ D) : VB X Gm G0 H0 sts (As.and (As.pu p) Φ) ρ D := fun σ G H m z r φ => k φ.1 σ G H m z r φ.2
theorem v_strC {x : Str} {j : Nat} {z : List Nat} (h : x = ⟨z.toArray⟩ := by decide +kernel) : VE X Φ ρ (.Constant (.str x) j pos) (.str ⟨z.toArray⟩) := v_str.is (by rw [h])
theorem s1_iff {c m : Nat} : ((⟨[c].toArray⟩ : Str) = ⟨[m].toArray⟩) ↔ c = m := ⟨fun h => by
  injection h with h
  have h2 : [c].toArray.toList = [m].toArray.toList := by rw [h]
  simpa using h2, fun h => by rw [h]⟩
theorem vt_eqC {x : Str} {j : Nat} {c : Nat} {p2 : Pos} (m : Nat) (ha : VE X Φ ρ a (.str ⟨[c].toArray⟩)) (h : x = ⟨[m].toArray⟩ := by decide +kernel) : VT X Φ ρ (.Compare a [.Eq] [.Constant (.str x) j p2] pos) (decide (c = m)) :=
  (vt_eqS ha (v_strC h)).is (decide_eq_decide.mpr s1_iff)
theorem vt_neC {x : Str} {j : Nat} {c : Nat} {p2 : Pos} (m : Nat) (ha : VE X Φ ρ a (.str ⟨[c].toArray⟩)) (h : x = ⟨[m].toArray⟩ := by decide +kernel) : VT X Φ ρ (.Compare a [.NotEq] [.Constant (.str x) j p2] pos) (!decide (c = m)) :=
  (vt_neS ha (v_strC h)).is (by rw [decide_eq_decide.mpr s1_iff])
/-- the two sides' names -/
def sideS (o : Bool) : Str := if o then "mine" else "theirs"
theorem side_mine (o : Bool) : decide (sideS o = ("mine" : Str)) = o := by cases o <;> decide +kernel
theorem side_theirs (o : Bool) : decide (sideS o = ("theirs" : Str)) = !o := by cases o <;> decide +kernel
theorem side_inj {o o' : Bool} : sideS o = sideS o' ↔ o = o' := by cases o <;> cases o' <;> decide +kernel
theorem side_eq (o o' : Bool) : decide (sideS o = sideS o') = decide (o = o') := decide_eq_decide.mpr side_inj
theorem atI_nat {α : Type} {l : List α} {i : Nat} {x : α} (h : l[i]? = some x) : atI l (i : Int) = some x := by
  obtain ⟨hi, _⟩ := List.getElem?_eq_some_iff.mp h
  unfold atI ixN
  rw [if_pos (by omega)]
  rw [if_pos (by omega)]
  rw [Int.toNat_natCast]
  exact h
theorem atI_dI {l : List Int} {i : Nat} (h : i < l.length) : atI (dI l) (i : Int) = some (.int (l.getD i 0)) := by
  refine atI_nat ?_
  unfold dI
  rw [List.getElem?_map, List.getElem?_eq_getElem h, List.getD_eq_getElem?_getD, List.getElem?_eq_getElem h]
  rfl
theorem dI_len (l : List Int) : (dI l).length = l.length := List.length_map ..
theorem rgD_map {n : Nat} : rgD n = (List.range n).map fun i : Nat => PyData.int i := rfl
theorem rgD_at {n i : Nat} {d : PyData} (h : (rgD n)[i]? = some d) : i < n ∧ d = .int i := by
  unfold rgD at h
  by_cases hi : i < n
  · rw [List.getElem?_map, List.getElem?_range hi] at h
    exact ⟨hi, (Option.some.inj h).symm⟩
  · rw [List.getElem?_map, List.getElem?_eq_none (by rw [List.length_range]; omega)] at h
    cases h
theorem rgD_len (n : Nat) : (rgD n).length = n := by simp [rgD]
/-- count in a text -/
theorem cnt_count (c : Nat) : ∀ l : List Nat, cnt c l = ((l.count c : Nat) : Int)
  | [] => rfl
  | n :: r => by
    rw [PyProof.Rows.cnt_cons, cnt_count c r, List.count_cons]
    by_cases h : n = c
    · rw [if_pos h, if_pos (by simpa using h)]
      omega
    · rw [if_neg h, if_neg (by simpa using h)]
      omega
theorem v_count {o : Expr} {z : List Nat} {c : Nat} {apos : Pos} (ho : VE X Φ ρ o (.str ⟨z.toArray⟩)) (ha : VE X Φ ρ a (.str ⟨[c].toArray⟩)) (hs : starEach [a] X.env = [(false, eval a X.env)] := by rfl) (hb : attributeBase o "count" X.env (eval o X.env) = eval o X.env := by rfl)
    (hl : (apos.endLine == pos.line) = true := by rfl) : VE X Φ ρ (.Call (.Attribute o "count" apos) [a] [] pos) (.int (z.count c)) := fun σ G H s r f Q q =>
  we_of (pe_m1 PySem.F.slot_str_count PySem.F.type_str_count mt_count we we hs hb hl) (ho σ G H s r f _ fun v G1 H1 e1 r1 => by
    cases r1
    refine ⟨⟨_, rfl⟩, ha σ G1 H1 e1.gh (r.mono e1.gg) (Φ.st s e1 f) _ fun w G2 H2 e2 r2 => ?_⟩
    cases r2
    refine ⟨_, _, rfl, rfl, ?_⟩
    have e3 : Txt.count ⟨z.toArray⟩ ⟨[c].toArray⟩ = (z.count c : Int) := by
      rw [← cnt_count]
      exact count_cnt ⟨z.toArray⟩ c
    rw [e3]
    exact q _ G2 H2 (e1.trans e2) (.int _))
end
/-! ### check_card -/
abbrev s18 : Stmt := top 18
def F18 : FR := fun ss _ o => ∃ (sd : PyData) (i : Nat) (h : List PyData), ss = [.d sd, .d (.int i), .d (.list h)] ∧ i < h.length ∧ h.length ≤ 1000 ∧ o = .val .none
theorem S18 : FnScope ["side", "index", "hand"] ["side", "index", "hand"] (defScope s18) := ⟨rfl, rfl, rfl, by decide +kernel, rfl, by decide +kernel, by decide +kernel⟩
theorem b18 {W : Wd} (B : Bl W.mg) : Body W 0 ["side", "index", "hand"] "check_card" s18 3 F18 := by
  intro f cdv A outer s H G Q E ss Φ o hr hF hO
  obtain ⟨sd, i, h, rfl, h1, h2, rfl⟩ := hF
  refine vb_if1 (vw_or (vt_lt (v_name 1 rfl) v_int) (fun _ => vw_or1 (vt_ge (v_name 1 rfl) (v_lenL B (v_name 2 rfl))))).vt (fun hc => ?_) (fun hc => vb_end hO)
  simp only [Bool.or_eq_true, decide_eq_true_eq] at hc
  omega
theorem fn18 {W : Wd} {f : Addr} {fd : FuncData} (B : Bl W.mg) (D : FunP W "check_card" s18 [] f fd) (hm : W.mg "check_card" = some (.ref f)) : Fn W "check_card" 1 ["side", "index", "hand"] [] F18 :=
  fn_mk D hm S18 (b18 B) fun _ _ _ _ _ _ us hl => match us, hl with | [_, _, _], _ => rfl
/-! ### check_letters -/
abbrev s19 : Stmt := top 19
def gd (c : Nat) : Prop := c = 77 ∨ c = 84
def AllGd (z : List Nat) : Prop := ∀ (i : Nat) (c : Nat), z[i]? = some c → gd c
def FirstBad (z : List Nat) (k : Nat) : Prop := (∃ c, z[k]? = some c ∧ ¬ gd c) ∧ ∀ (i : Nat) (c : Nat), i < k → z[i]? = some c → gd c
def xw (cW : Addr) (i : Int) : Xn := xn cW ["position"] [.int i]
def F19 (cW : Addr) : FR := fun ss _ o => ∃ (z : List Nat) (n : Nat), ss = [.d (.str ⟨z.toArray⟩), .d (.int n)] ∧ z.length ≤ 1000 ∧ n ≤ 1000 ∧
  ((∃ k, FirstBad z k ∧ o = .exc (xw cW k)) ∨ (AllGd z ∧ o = if n < z.length then .exc (xw cW n) else .val .none))
theorem S19 : FnScope ["word", "most", "position"] ["word", "most"] (defScope s19) := ⟨rfl, rfl, rfl, by decide +kernel, rfl, by decide +kernel, by decide +kernel⟩
theorem b19 {W : Wd} {cW : Addr} (B : Bl W.mg) (XW : Xc W "BadWord" cW ["position"]) : Body W 3 ["word", "most", "position"] "check_letters" s19 2 (F19 cW) := by
  intro f cdv A outer s H G Q E ss Φ o hr hF hO
  obtain ⟨z, n, rfl, h1, h2, hF⟩ := hF
  refine vb_for (ds := rgD z.length) (is := [2]) (f := fun d ρ => ρ.set 2 (.d d)) (fun _ => [.d (.str ⟨z.toArray⟩), .d (.int n), .no]) (fun i => As.and (As.pu (∀ k, FirstBad z k → i ≤ k)) Φ) ownF rfl (vi_range B (v_lenS B (v_name 0 rfl) (by omega)) (by omega)) (fun d _ => vg_name 2 S19.nd) ⟨.inr rfl, .inr rfl, .inl rfl, True.intro⟩ (fun G H h => ⟨fun k _ => Nat.zero_le k, h⟩)
    (fun Gm' _ i d hd => vb_pu fun hk => ?_) (vb_pu fun hk => ?_)
  · obtain ⟨hi, rfl⟩ := rgD_at hd
    have hz : z[i]? = some z[i] := List.getElem?_eq_getElem hi
    refine vb_if1 (vw_and (vt_neC 77 (v_ixS (v_name 0 rfl) (v_name 2 rfl) (by omega) (atI_nat hz))) (fun _ => vw_and1 (vt_neC 84 (v_ixS (v_name 0 rfl) (v_name 2 rfl) (by omega) (atI_nat hz))))).vt (fun hc => ?_) (fun hc => ?_)
    · rw [Bool.and_eq_true] at hc
      have nb : ¬ gd z[i] := fun g => g.elim (ne_t hc.1) (ne_t hc.2)
      rcases hF with ⟨k, hb, rfl⟩ | ⟨ha, _⟩
      · have e : k = i := by
          have := hk k hb
          refine Nat.le_antisymm ?_ this
          exact Nat.not_lt.mp fun hlt => nb (hb.2 i _ hlt hz)
        subst e
        exact vb_raise XW inW hr takesF rfl (va_d (v_name 2 rfl) va_nil) hO
      · exact absurd (ha i _ hz) nb
    · have g : gd z[i] := by
        rcases Bool.and_eq_false_iff.mp hc with h | h
        · exact .inl (ne_f h)
        · exact .inr (ne_f h)
      refine vb_nx rfl ⟨.inr rfl, .inr rfl, .inl rfl, True.intro⟩ fun G H h => ⟨fun k hb => ?_, h⟩
      have := hk k hb
      refine Nat.lt_of_le_of_ne this fun e => ?_
      subst e
      obtain ⟨⟨c, hc, nb⟩, _⟩ := hb
      rw [hz] at hc
      cases hc
      exact nb g
  · rw [rgD_len] at hk
    rcases hF with ⟨k, hb, rfl⟩ | ⟨ha, rfl⟩
    · have := hk k hb
      obtain ⟨⟨c, hc, _⟩, _⟩ := hb
      obtain ⟨hlt, _⟩ := List.getElem?_eq_some_iff.mp hc
      omega
    · refine vb_if1 (vt_gt (v_lenS B (v_name 0 rfl) (by omega)) (v_name 1 rfl)) (fun hc => ?_) (fun hc => ?_)
      · rw [if_pos (by have := of_decide_eq_true hc; omega)] at hO
        exact vb_raise XW inW hr takesF rfl (va_d (v_name 1 rfl) va_nil) hO
      · rw [if_neg (by have := of_decide_eq_false hc; omega)] at hO
        exact vb_end hO
theorem fn19 {W : Wd} {cW f : Addr} {fd : FuncData} (B : Bl W.mg) (XW : Xc W "BadWord" cW ["position"]) (D : FunP W "check_letters" s19 [] f fd) (hm : W.mg "check_letters" = some (.ref f)) : Fn W "check_letters" 4 ["word", "most"] [] (F19 cW) :=
  fn_mk D hm S19 (b19 B XW) fun _ _ _ _ _ _ us hl => match us, hl with | [_, _], _ => rfl
/-! ### check_word -/
abbrev s20 : Stmt := top 20
/-- how a word fails -/
def WordBad (z : List Nat) (n k : Nat) : Prop := FirstBad z k ∨ (AllGd z ∧ ((n < z.length ∧ k = n) ∨ (z.length < n ∧ k = z.length)))
def F20 (cW : Addr) : FR := fun ss _ o => ∃ (z : List Nat) (n : Nat), ss = [.d (.str ⟨z.toArray⟩), .d (.int n)] ∧ z.length ≤ 1000 ∧ n ≤ 1000 ∧ ((∃ k, WordBad z n k ∧ o = .exc (xw cW k)) ∨ (AllGd z ∧ z.length = n ∧ o = .val .none))
theorem S20 : FnScope ["word", "count"] ["word", "count"] (defScope s20) := ⟨rfl, rfl, rfl, by decide +kernel, rfl, by decide +kernel, by decide +kernel⟩
theorem b20 {W : Wd} {cW : Addr} (B : Bl W.mg) (XW : Xc W "BadWord" cW ["position"]) (C19 : Fn W "check_letters" 4 ["word", "most"] [] (F19 cW)) : Body W 4 ["word", "count"] "check_word" s20 2 (F20 cW) := by
  intro f cdv A outer s H G Q E ss Φ o hr hF hO
  obtain ⟨z, n, rfl, h1, h2, hF⟩ := hF
  have bad : ∀ k, (FirstBad z k ∨ (AllGd z ∧ n < z.length ∧ k = n)) → XP E (xw cW k) G H → VB (cxF W ["word", "count"] "check_word" (defScope s20) f cdv A outer s H E) G G H (defBody s20) Φ (ρ0 [.d (.str ⟨z.toArray⟩), .d (.int n)] 0) { nx := fun _ H' => Q .non H', rt := Q } := fun k hk hx =>
    vb_exprX (x_call inW wishF C19 hr (va_d (v_name 0 rfl) (va_d (v_name 1 rfl) va_nil)) (show F19 cW _ Φ (.exc (xw cW k)) from ⟨z, n, rfl, h1, h2, hk.imp (fun h => ⟨k, h, rfl⟩) fun ⟨ha, hl, e⟩ => ⟨ha, by rw [if_pos hl, e]⟩⟩)) hx
  have good : AllGd z → ¬ n < z.length → (∀ Gm', Gm' = G → VB (cxF W ["word", "count"] "check_word" (defScope s20) f cdv A outer s H E) G G H ((defBody s20).drop 1) Φ (ρ0 [.d (.str ⟨z.toArray⟩), .d (.int n)] 0) { nx := fun _ H' => Q .non H', rt := Q }) →
      VB (cxF W ["word", "count"] "check_word" (defScope s20) f cdv A outer s H E) G G H (defBody s20) Φ (ρ0 [.d (.str ⟨z.toArray⟩), .d (.int n)] 0) { nx := fun _ H' => Q .non H', rt := Q } := fun ha hl k =>
    vb_expr (v_call inW C19 hr (va_d (v_name 0 rfl) (va_d (v_name 1 rfl) va_nil)) (show F19 cW _ Φ (.val .none) from ⟨z, n, rfl, h1, h2, .inr ⟨ha, by rw [if_neg hl]⟩⟩)) (k G rfl)
  rcases hF with ⟨k, hk, rfl⟩ | ⟨ha, hl, rfl⟩
  · rcases hk with hb | ⟨ha, hk⟩
    · exact bad k (.inl hb) hO
    · rcases hk with ⟨hl, e⟩ | ⟨hl, e⟩
      · exact bad k (.inr ⟨ha, hl, e⟩) hO
      · subst e
        exact good ha (by omega) fun _ _ => vb_if1 (vt_lt (v_lenS B (v_name 0 rfl) (by omega)) (v_name 1 rfl)) (fun _ => vb_raise XW inW hr takesF rfl (va_d (v_lenS B (v_name 0 rfl) (by omega)) va_nil) hO) fun hc => by
          have := of_decide_eq_false hc
          omega
  · exact good ha (by omega) fun _ _ => vb_if1 (vt_lt (v_lenS B (v_name 0 rfl) (by omega)) (v_name 1 rfl)) (fun hc => by
      have := of_decide_eq_true hc
      omega) fun hc => vb_end hO
theorem fn20 {W : Wd} {cW f : Addr} {fd : FuncData} (B : Bl W.mg) (XW : Xc W "BadWord" cW ["position"]) (C19 : Fn W "check_letters" 4 ["word", "most"] [] (F19 cW)) (D : FunP W "check_word" s20 [] f fd) (hm : W.mg "check_word" = some (.ref f)) : Fn W "check_word" 5 ["word", "count"] [] (F20 cW) :=
  fn_mk D hm S20 (b20 B XW C19) fun _ _ _ _ _ _ us hl => match us, hl with | [_, _], _ => rfl
end K43
namespace PySem
namespace Sx
open PySem.W PySem.Calls PyProof.Rows PySem.HandSPX
/-- an __init__ that names its class (by super) -/
structure FnT (K : Frag) (P : Program) (D cc fI : Addr) (q : Str) (params : Arguments) (body : List Stmt) (scope : Scope) : Prop where
  fn : ∃ (oc : Value) (od : Option Addr) (kV doc pm : Value) (an : Option Addr) (cda : Addr) (ct : Value) (osl : Array (Option Value)), K.lookup fI = some ⟨oc, od, .func (ksFn "__init__" q params body scope .none kV doc pm an (.ref cda) ct cc), osl⟩ ∧ codeIn K (.ref cda) q = true ∧
    ∃ (ccl : Value) (cdd : Option Addr) (vs : Array Value) (ccs : Array (Option Value)) (file : Str) (tf : Tok), K.lookup cda = some ⟨ccl, cdd, .fields vs, ccs⟩ ∧ vs[2]? = some (.str file tf) ∧ ((P.main.file : Str) == file) = true
  cell : ∃ (cl : Value) (cld : Option Addr) (csl : Array (Option Value)), K.lookup cc = some ⟨cl, cld, .cell (some (.ref D)), csl⟩
  clsD : ∃ cdD, clsIn K D = some cdD
/-- the names that the built-in super needs -/
structure SupW (P : Program) (h : Heap) : Prop where
  g : ∃ mg, h.Ns mainGlobals mg ∧ mg "super" = none
  b : ∃ mb, h.Ns builtinsNs mb ∧ mb "super" = some (.type "super")
  top : (P.main.scope.names.lookup ("super" : Str)).isSome = false
theorem SupW.keeps {P : Program} {h h' : Heap} (S : SupW P h) (k : ∀ b o, h.get? b = some o → h'.get? b = some o) : SupW P h' := by
  obtain ⟨⟨mg, g1, g2⟩, ⟨mb, b1, b2⟩, t⟩ := S
  exact ⟨⟨mg, g1.keeps k, g2⟩, ⟨mb, b1.keeps k, b2⟩, t⟩
abbrev superO (D x C : Addr) : Obj := { cls := .type "super", dict := none, data := .fields #[.ref D, .ref x, .ref C], slots := #[] }
section
variable {prog : Program} {w : World} {A : Around} {E : Value → Shared → Prop} {R : Result → Shared → Prop} {s : Shared} {K : Frag} {C D cc fI : Addr} {q : Str} {params : Arguments} {body : List Stmt} {scope : Scope}
/-- super() -/
theorem sup_base {L x : Addr} {ox : Obj} {m : Str → Option Value} {p0 p1 : Pos} {whole : Sem Value} {Q : Value → Shared → Prop} {oc : Value} {od : Option Addr} {dV kV doc pm : Value} {an : Option Addr} {cda : Addr} {ct : Value} {osl : Array (Option Value)} {ar : Arg} {bd : List Stmt}
    (X : K.In s.heap) (W : SupW prog s.heap) (hn : s.heap.Ns L m) (hf : K.lookup fI = some ⟨oc, od, .func (ksFn "__init__" q params body scope dV kV doc pm an (.ref cda) ct cc), osl⟩)
    (hcode : ∃ (ccl : Value) (cdd : Option Addr) (vs : Array Value) (ccs : Array (Option Value)) (file : Str) (tf : Tok), K.lookup cda = some ⟨ccl, cdd, .fields vs, ccs⟩ ∧ vs[2]? = some (.str file tf) ∧ ((prog.main.file : Str) == file) = true)
    (hcell : ∃ (cl : Value) (cld : Option Addr) (csl : Array (Option Value)), K.lookup cc = some ⟨cl, cld, .cell (some (.ref D)), csl⟩) (hD : ∃ cdD, clsIn K D = some cdD) (hp : (params.posonlyargs ++ params.args).head? = some ar) (hv : m ar.arg = some (.ref x))
    (hx : s.heap.get? x = some ox) (hxc : ox.cls = .ref C) (hno : ∀ c, ox.data ≠ .cls c) (hsub : mroIn K C (.ref D) = some true)
    (hks : scope.names.lookup ("super" : Str) = some .globalImplicit) (hkc : scope.names.lookup ("__class__" : Str) = some .free) (hka : scope.names.lookup ar.arg = some .local) (hk : scope.kind = .function)
    (h : ∀ h', h'.get? s.heap.objs.size = some (superO D x C) → (∀ b o, s.heap.get? b = some o → h'.get? b = some o) → Q (.ref s.heap.objs.size) { s with heap := h' }) :
    wpAt (model prog w) A (.func bd (ksEnv q scope L fI (.ref cda) cc)) (attributeBase (.Call (.Name "super" p0) [] [] p1) "__init__" (ksEnv q scope L fI (.ref cda) cc) whole) Q E s := by
  obtain ⟨cdD, hD⟩ := hD
  obtain ⟨ccl, cdd, vs, ccs, file, tf, hcode, hvs, hfile⟩ := hcode
  obtain ⟨cl, cld, csl, hcell⟩ := hcell
  obtain ⟨⟨mg, g1, g2⟩, ⟨mb, b1, b2⟩, htop⟩ := W
  obtain ⟨hh, g, d, t, os⟩ := s
  obtain ⟨oD, hD1, hD2⟩ : ∃ oD, hh.get? D = some oD ∧ oD.data = .cls cdD := by
    unfold clsIn at hD
    split at hD
    · rename_i c d cd' sl ho
      cases hD
      exact ⟨_, X _ _ ho, rfl⟩
    · cases hD
  refine ks_wpAt_super_base (env := ksEnv q scope L fI (.ref cda) cc) hks hkc (by decide) rfl (X _ _ hf) rfl hp rfl (X _ _ hcode) rfl hvs hfile htop ?_
  refine ks_loadName_global hk hks (loadGlobal_builtin (env := ksEnv q scope L fI (.ref cda) cc) g1 g2 b1 b2 ⟨rfl, ?_⟩)
  refine wpAny_loadName_free hk hkc rfl ⟨_, X _ _ hcell, rfl⟩ ?_
  refine wpAny_loadName_local hk hka hn hv ?_
  refine ks_wpAny_isType_cls hD1 hD2 ⟨rfl, ?_⟩
  exact ks_wpAny_call_super hD1 hD2 hx hxc hno (looks_mroIn X hsub) (fun h' e k => h h' e k)
/-- the built-in __init__, bound: called -/
theorem sup_call {x u t0 : Addr} {rest : List Value} {Q : Value → Shared → Prop} {bm : List Value} (X : K.In s.heap) (hi : excInitIn K C bm "ValueError.__new__" = true) (FB : ExcBaseFacts "ValueError" "ValueError.__new__" "ValueError.__init__" bm) (hu : s.heap.get? u = some (kxs_mw "ValueError.__init__" x)) (he : s.heap.get? x = some (excO C t0)) (hz : rest.length ≤ sizeLine)
    (h : ∀ h' t1, (∀ b o, b ≠ x → s.heap.get? b = some o → h'.get? b = some o) → h'.get? x = some (excO C t1) → Q .none { s with heap := h' }) : wpAny (model prog w) A (call (.ref u) rest) Q E s := by
  obtain ⟨nm, N', qn, bs, bm2, hdct, sn, sub, ab, col, dd, k0, k1, k2, k3, k5, hC, hT⟩ := excInit_of X hi
  obtain ⟨hh, g, d, tk, os⟩ := s
  refine wpAny_call (codeAny_of_tree ?_)
  show wpAny _ A.in1 (callAny (.ref u) ⟨rest, []⟩) _ _ _
  simp only [callAny]
  refine wpAny_bind (wpAny_load hu ?_)
  simp only [kxs_mw, show (Value.type "method-wrapper" == Value.type "method" || Value.type "method-wrapper" == Value.type "builtin_function_or_method" || Value.type "method-wrapper" == Value.type "method-wrapper") = true by decide, if_true]
  refine KFB.if_so (by decide) ?_
  refine wpAny_bind (check_bound_init FB.toExcCallFacts hC he rfl ?_)
  refine wpAny_bind (wpAny_pure (wpAny_pure ?_))
  refine ⟨plainId_quiet FB.init.plain _, codeAny_builtin FB.initEntry ?_⟩
  exact exc_init_tree (cls := .ref C) (t0 := t0) (dv := none) (c2 := .none) (c3 := .none) (b4 := .bool false) he hz fun h' k e' _ => h h' _ k e'
end
end Sx
end PySem
namespace PySem
namespace Sx
open PySem.W PySem.Calls PyProof.Rows PySem.HandSPX
abbrev VeT : List Value := [.type "ValueError", .type "Exception", .type "BaseException", .type "object"]
/-- the class at C of an exception object: what stores and super need -/
structure ObjC (K : Frag) (C : Addr) (ns : List Str) : Prop where
  exi : excInitIn K C VeT "ValueError.__new__" = true
  cd : ∃ cd, clsIn K C = some cd ∧ refsVE cd.mro = true ∧ cd.hasDict = true
  sa : findIn K (.ref C) "__setattr__" = some (some (.builtin "object.__setattr__"))
  no : ∀ f ∈ ns, findIn K (.ref C) f = some none
  opq : nsIn K cStatics "thirdparty.any" = some none
  ve : subIn K (.ref C) (.type "ValueError") = some true
abbrev mkSt (f : Str × Pos × Pos × Pos × Pos) : Stmt := .Assign [.Attribute (.Name "self" f.2.1) f.1 f.2.2.1] (.Name f.1 f.2.2.2.1) f.2.2.2.2
def putM (m : Str → Option Value) : List Str → (Str → Option Value) → Str → Option Value
  | [], a => a
  | f :: r, a => putM m r fun y => if y = f then m f else a y
section
variable {prog : Program} {w : World} {A : Around} {E : Value → Shared → Prop} {R : Result → Shared → Prop} {K : Frag} {C D cc fI : Addr} {q : Str} {params : Arguments} {scope : Scope} {env : Env}
/-- further fields of an exception -/
theorem st_old {L x dx : Addr} {fv : Array Value} {m : Str → Option Value} {Q : Flow → Shared → Prop} {nsA : List Str} (T : ObjC K C nsA) (hkf : env.scope.kind = .function) (hel : env.locals = L) (hself : m "self" = some (.ref x)) (hls : env.kindOf "self" = some .local) (hxd : x ≠ dx) (hLd : L ≠ dx) (hKd : K.lookup dx = none) :
    ∀ (fs : List (Str × Pos × Pos × Pos × Pos)) (s : Shared) (mA : Str → Option Value) (nl : List Str), K.In s.heap → s.heap.Ns L m → s.heap.get? x = some { cls := .ref C, dict := some dx, data := .fields fv } → s.heap.Ns1 dx mA → Within mA nl → nl.length + fs.length ≤ 900 →
      (∀ f ∈ fs, f.1 ∈ nsA ∧ env.kindOf f.1 = some .local ∧ (f.1 == ("__debug__" : Str)) = false ∧ ∃ v, m f.1 = some v) →
      (∀ h' tk', (∀ b o, b ≠ dx → s.heap.get? b = some o → h'.get? b = some o) → h'.Ns1 dx (putM m (fs.map (·.1)) mA) → Q .next { s with heap := h', toks := tk' }) →
      wpAny (model prog w) A (execs (fs.map mkSt) env) Q E s
  | [], s, mA, nl, X, hn, hx, h1, hw, hz, hf, hq => by
    have := hq s.heap s.toks (fun b o _ e => e) h1
    exact wpAny_execs_nil this
  | (f, q1, q2, q3, q4) :: fs, s, mA, nl, X, hn, hx, h1, hw, hz, hf, hq => by
    obtain ⟨f1, f2, f3, v, f4⟩ := hf _ List.mem_cons_self
    obtain ⟨cd, c1, c2, c3⟩ := T.cd
    show wpAny _ _ (execs (mkSt (f, q1, q2, q3, q4) :: fs.map mkSt) _) _ _ _
    have hn' : s.heap.Ns env.locals m := by rw [hel]; exact hn
    refine wpAny_execs_cons (plainObj_wpAny_Assign_Attribute ?_)
    refine wpAny_Name (wpAny_loadName_local hkf f2 hn' f4 ?_) f3
    refine wpAny_Name (wpAny_loadName_local hkf hls hn' hself ?_) (by decide)
    obtain ⟨oD, esD, epD, hoD, hdD, _⟩ := h1.count hw
    refine set_plain X (ox := { cls := .ref C, dict := some dx, data := .fields fv }) (od := some oD) ⟨hx, rfl, rfl, hoD⟩ T.sa ?_
    refine OEX.osa_old X hx h1 hw (by rw [List.length_cons] at hz; omega) c1 c2 c3 (T.no _ f1) fun h3 tk3 k3 n3 => ?_
    show wpAny _ _ (execs _ _) _ _ _
    have X3 : K.In h3 := fun a o e => k3 a o (fun z => by rw [z, hKd] at e; cases e) (X a o e)
    refine st_old T hkf hel hself hls hxd hLd hKd fs { s with heap := h3, toks := tk3 } _ (f :: nl) X3 ?_ (k3 _ _ hxd hx) n3 (Within.cons f v hw) (by rw [List.length_cons] at hz ⊢; omega) (fun g hg => hf g (List.mem_cons_of_mem _ hg)) fun h' tk' k' n' => hq h' tk' (fun b o hb e => k' b o hb (k3 b o hb e)) ?_
    · obtain ⟨oL, es, ep, hL, r⟩ := hn
      exact ⟨oL, es, ep, k3 _ _ hLd hL, r⟩
    · show h'.Ns1 dx (putM m (fs.map (·.1)) fun y => if y = f then m f else mA y)
      rw [f4]
      exact n'
/-- what an __init__ leaves of a fresh exception at x -/
structure InitE (h h' : Heap) (x C dx : Addr) (mA : Str → Option Value) : Prop where
  keep : ∀ b o, b ≠ x → h.get? b = some o → h'.get? b = some o
  obj : ∃ t1, h'.get? x = some { cls := .ref C, dict := some dx, data := .fields #[.ref t1, .none, .none, .none, .bool false, .none] }
  dbig : h.objs.size ≤ dx
  ns : h'.Ns1 dx mA
/-- all fields, the first makes the dict -/
theorem st_new {L x t0 : Addr} {m : Str → Option Value} {Q : Flow → Shared → Prop} {nsA : List Str} (T : ObjC K C nsA) (hkf : env.scope.kind = .function) (hel : env.locals = L) (hself : m "self" = some (.ref x)) (hls : env.kindOf "self" = some .local) (hxL : x ≠ L)
    {f : Str × Pos × Pos × Pos × Pos} {fs : List (Str × Pos × Pos × Pos × Pos)} {s : Shared} (X : K.In s.heap) (hKx : K.lookup x = none) (hn : s.heap.Ns L m) (hx : s.heap.get? x = some (excO C t0)) (hz : fs.length ≤ 800)
    (hf : ∀ g ∈ f :: fs, g.1 ∈ nsA ∧ env.kindOf g.1 = some .local ∧ (g.1 == ("__debug__" : Str)) = false ∧ ∃ v, m g.1 = some v)
    (hq : ∀ h' tk' dx, InitE s.heap h' x C dx (putM m ((f :: fs).map (·.1)) fun _ => none) → Q .next { s with heap := h', toks := tk' }) : wpAny (model prog w) A (execs ((f :: fs).map mkSt) env) Q E s := by
  obtain ⟨f, q1, q2, q3, q4⟩ := f
  obtain ⟨f1, f2, f3, v, f4⟩ := hf _ List.mem_cons_self
  obtain ⟨cd, c1, c2, c3⟩ := T.cd
  show wpAny _ _ (execs (mkSt (f, q1, q2, q3, q4) :: fs.map mkSt) _) _ _ _
  have hn' : s.heap.Ns env.locals m := by rw [hel]; exact hn
  refine wpAny_execs_cons (plainObj_wpAny_Assign_Attribute ?_)
  refine wpAny_Name (wpAny_loadName_local hkf f2 hn' f4 ?_) f3
  refine wpAny_Name (wpAny_loadName_local hkf hls hn' hself ?_) (by decide)
  refine set_plain X (ox := excO C t0) (od := none) ⟨hx, rfl, rfl, trivial⟩ T.sa ?_
  refine exc_osa X hx c1 c2 c3 (T.no _ f1) (fun h3 tk3 dx k3 dn dne hx3 hn3 => ?_)
  show wpAny _ _ (execs _ _) _ _ _
  have hLlt : L < s.heap.objs.size := hn.lt
  have hKd : K.lookup dx = none := by
    cases e : K.lookup dx with
    | none => rfl
    | some o => exact absurd (Heap.lt_size (X _ _ e)) (Nat.not_lt.mpr dn)
  have X3 : K.In h3 := fun a o e => k3 a o (fun z => by rw [z, hKx] at e; cases e) (X a o e)
  have hLd : L ≠ dx := Nat.ne_of_lt (Nat.lt_of_lt_of_le hLlt dn)
  refine st_old (L := L) T hkf hel hself hls (Ne.symm dne) hLd hKd fs { s with heap := h3, toks := tk3 } _ [f] X3 ?_ hx3 hn3 (Within.cons f v Within.nil) (by rw [List.length_singleton]; omega) (fun g hg => hf g (List.mem_cons_of_mem _ hg)) fun h' tk' k' n' => hq h' tk' dx ⟨fun b o hb e => k' b o (Nat.ne_of_lt (Nat.lt_of_lt_of_le (Heap.lt_size e) dn)) (k3 b o hb e), ⟨t0, k' _ _ (Ne.symm dne) hx3⟩, dn, ?_⟩
  · obtain ⟨oL, es, ep, hL, r⟩ := hn
    exact ⟨oL, es, ep, k3 _ _ (Ne.symm hxL) hL, r⟩
  · show h'.Ns1 dx (putM m (fs.map (·.1)) fun y => if y = f then m f else none)
    rw [f4]
    exact n'
end
/-- def __init__(self, ..): super().__init__(text); self.f = f .. -/
abbrev iBody (msg : Str) (j : Nat) (p0 p1 p2 p3 p4 p5 : Pos) (fs : List (Str × Pos × Pos × Pos × Pos)) : List Stmt :=
  .Expr (.Call (.Attribute (.Call (.Name "super" p0) [] [] p1) "__init__" p2) [.Constant (.str msg) j p3] [] p4) p5 :: fs.map mkSt
section
variable {prog : Program} {w : World} {A : Around} {E : Value → Shared → Prop} {R : Result → Shared → Prop} {s : Shared} {K : Frag} {C D cc fI : Addr} {q : Str} {params : Arguments} {scope : Scope}
theorem init_str {nsA : List Str} {msg : Str} {j : Nat} {p0 p1 p2 p3 p4 p5 : Pos} {f : Str × Pos × Pos × Pos × Pos} {fs : List (Str × Pos × Pos × Pos × Pos)} {x t0 : Addr} {us : List Value} {binds : List (Str × Value)} {ar : Arg}
    (FT : FnT K prog D cc fI q params (iBody msg j p0 p1 p2 p3 p4 p5 (f :: fs)) scope) (T : ObjC K C nsA) (X : K.In s.heap) (W : SupW prog s.heap) (hlim : s.heap.NoLimit) (hx : s.heap.get? x = some (excO C t0)) (hKx : K.lookup x = none) (hroom : A.depth < recursionLimit)
    (hsub : mroIn K C (.ref D) = some true) (hsup : ks_superIn K C D "__init__" = some (some (.builtin "ValueError.__init__")))
    (hbind : ∀ (kV doc pm : Value) (an : Option Addr) (cda : Addr) (ct : Value), bindArgs (ksFn "__init__" q params (iBody msg j p0 p1 p2 p3 p4 p5 (f :: fs)) scope .none kV doc pm an (.ref cda) ct cc) ⟨.ref x :: us, []⟩ = pure binds)
    (hp : (params.posonlyargs ++ params.args).head? = some ar) (har : ar.arg = "self") (hcell : ∀ y ∈ scope.names, y.2 ≠ .cell) (hloc : ∀ y ∈ binds, scope.names.lookup y.1 = some .local) (hself : binds.reverse.lookup ("self" : Str) = some (Value.ref x)) (hka : scope.names.lookup ("self" : Str) = some .local)
    (hco : scope.isCoroutine = false) (hgen : scope.isGenerator = false) (hks : scope.names.lookup ("super" : Str) = some .globalImplicit) (hkc : scope.names.lookup ("__class__" : Str) = some .free) (hk : scope.kind = .function) (hz : fs.length ≤ 800)
    (hev : ∀ (L cda : Addr), ∃ pl : Sem Bool, eval (.Call (.Attribute (.Call (.Name "super" p0) [] [] p1) "__init__" p2) [.Constant (.str msg) j p3] [] p4) (ksEnv q scope L fI (.ref cda) cc) = (do
      let ov ← attributeBase (.Call (.Name "super" p0) [] [] p1) "__init__" (ksEnv q scope L fI (.ref cda) cc) (eval (.Call (.Name "super" p0) [] [] p1) (ksEnv q scope L fI (.ref cda) cc))
      standAt p2.atName
      let (f, first) ← holding [ov] (getMethod ov "__init__" pl)
      callWith p4 f first (backTo p4 (starEach [.Constant (.str msg) j p3] (ksEnv q scope L fI (.ref cda) cc))) []))
    (hint : ∀ (L cda : Addr), interactive (ksEnv q scope L fI (.ref cda) cc) = false) (hsw : ∀ (L cda : Addr), swapsWith (.Call (.Attribute (.Call (.Name "super" p0) [] [] p1) "__init__" p2) [.Constant (.str msg) j p3] [] p4) none p5.line (ksEnv q scope L fI (.ref cda) cc) = pure false)
    (hf : ∀ g ∈ f :: fs, g.1 ∈ nsA ∧ scope.names.lookup g.1 = some .local ∧ (g.1 == ("__debug__" : Str)) = false ∧ ∃ v, binds.reverse.lookup g.1 = some v)
    (hq : ∀ h' tk dx, InitE s.heap h' x C dx (putM (fun y => binds.reverse.lookup y) ((f :: fs).map (·.1)) fun _ => none) → R (.ok (.ret .none)) { s with heap := h', toks := tk }) :
    codeAny (model prog w) A (.call (.ref fI) ⟨.ref x :: us, []⟩) R s := by
  obtain ⟨oc, od, kV, doc, pm, an, cda, ct, osl, ho, hcd, hcode⟩ := FT.fn
  have hxlt := Heap.lt_size hx
  refine ks_codeAny_call_defAt hroom (X _ _ ho) rfl hlim (codeRec_of X hcd) rfl (BindsTo.of_eq (hbind kV doc pm an cda ct)) hcell hloc (fun h₀ hn k => ?_) hco hgen hk
  show wpAt (model prog w) _ (.func _ (ksEnv q scope s.heap.objs.size fI (.ref cda) cc)) (execs _ (ksEnv q scope s.heap.objs.size fI (.ref cda) cc)) _ _ _
  have X₀ : K.In h₀ := X.keeps k
  have hx₀ := k _ _ hx
  have hxL : x ≠ s.heap.objs.size := Nat.ne_of_lt hxlt
  obtain ⟨pl, hev⟩ := hev s.heap.objs.size cda
  refine ks_wpAt_execs_cons (ks_wpAt_Expr_any (ks_wpAt_MethodCall ?_ hev) (hint _ _) (hsw _ _))
  refine sup_base (s := { s with heap := h₀, toks := s.toks + binds.length }) X₀ (W.keeps k) hn ho hcode FT.cell FT.clsD hp (by rw [har]; exact hself) hx₀ rfl (fun c z => by cases z) hsub hks hkc (by rw [har]; exact hka) hk fun h1 hso k1 => ?_
  have X₁ : K.In h1 := X₀.keeps k1
  have hI : Looks (model prog w) h1 (isInstance (.ref x) (.type "ValueError")) true := (InstAt.type (ox := excO C t0) (od := none) ⟨k1 _ _ hx₀, rfl, rfl, trivial⟩).andThen (looks_subIn X₁ T.ve)
  obtain ⟨cd, c1, c2, c3⟩ := T.cd
  have hne : x ≠ C := fun z => by
    have e := k1 _ _ hx₀
    rw [z] at e
    unfold clsIn at c1
    split at c1
    · rename_i c d cd' sl hoC
      have e2 := X₁ _ _ hoC
      rw [e] at e2
      cases e2
    · cases c1
  have hsup' : alongIn K "__init__" ((cd.mro.dropWhile (· != .ref D)).drop 1) = some (some (.builtin "ValueError.__init__")) := by
    unfold ks_superIn at hsup
    rw [c1] at hsup
    exact hsup
  obtain ⟨hh, g, d, t, os⟩ := s
  refine kxs_getMethod kxs_ValueError hso (looks_opaque X₁ T.opq) (l₀ := cd.mro) (fun A Q E s k q => wpAny_bind ((looks_clsIn X₁ c1) A _ E s k (wpAny_pure q))) rfl X₁ hsup' hI hne (by decide) ?_
  have k2 : ∀ b o, h1.get? b = some o → (h1.push (kxs_mw "ValueError.__init__" x)).get? b = some o := fun b o e => Heap.get?_push_of_some _ e
  have hu : (h1.push (kxs_mw "ValueError.__init__" x)).get? h1.objs.size = some (kxs_mw "ValueError.__init__" x) := Heap.get?_push_at rfl rfl
  refine kxs_callWith (i := "ValueError.__init__") (x := x) rfl (evalArgs_plain (spliced_cons (Constant_str (k := j) (pos := p3) (spliced_nil ⟨hu, ?_⟩))))
  refine sup_call (s := ⟨h1.push (kxs_mw "ValueError.__init__" x), g, d, _, os⟩) (X₁.keeps k2) T.exi F.excBase_ValueError hu (k2 _ _ (k1 _ _ hx₀)) (by rw [sizeLine_eq]; exact (by decide : 1 ≤ 16777216)) fun h3 t1 k3 hx3 => ?_
  show wpAt _ _ _ (execs _ _) _ _ _
  refine wpAt_of_wpAny ?_
  have X3 : K.In h3 := fun a o e => k3 a o (fun z => by rw [z, hKx] at e; cases e) (X₁.keeps k2 a o e)
  have hn3 : h3.Ns hh.objs.size (fun y => binds.reverse.lookup y) := by
    obtain ⟨oL, es, ep, hL, r⟩ := hn
    exact ⟨oL, es, ep, k3 _ _ (Ne.symm hxL) (k2 _ _ (k1 _ _ hL)), r⟩
  have big : h₀.objs.size ≤ h3.objs.size := by
    have hs := (Heap.lt_size (k3 h1.objs.size _ (Nat.ne_of_lt (Heap.lt_size (k1 _ _ hx₀))).symm hu))
    have h2 := Heap.lt_size hso
    exact Nat.le_of_lt (Nat.lt_trans h2 hs)
  refine st_new (env := ksEnv q scope hh.objs.size fI (.ref cda) cc) (L := hh.objs.size) T hk rfl hself hka hxL X3 hKx hn3 hx3 hz hf fun h' tk' dx IE => ?_
  exact hq h' tk' dx ⟨fun b o hb e => IE.keep b o hb (k3 b o hb (k2 _ _ (k1 _ _ (k _ _ e)))), IE.obj, Nat.le_trans (Nat.le_of_lt hn.lt) (Nat.le_trans big IE.dbig), IE.ns⟩
end
end Sx
end PySem
namespace PySem
namespace Sx
open PySem.W PySem.Calls PyProof.Rows PySem.HandSPX
/-- the __init__ at fI, run on a fresh exception object of the class at C with us, leaves the fields mA -/
def InitOk (K : Frag) (prog : Program) (C fI : Addr) (us : List Value) (mA : Str → Option Value) : Prop := ∀ (w : World) (A : Around) (R : Result → Shared → Prop) (s : Shared) (x t0 : Addr), K.In s.heap → SupW prog s.heap → s.heap.NoLimit → s.heap.get? x = some (excO C t0) → K.lookup x = none → A.depth + 3 < recursionLimit →
  (∀ h' tk dx, InitE s.heap h' x C dx mA → R (.ok (.ret .none)) { s with heap := h', toks := tk }) → codeAny (model prog w) A (.call (.ref fI) ⟨.ref x :: us, []⟩) R s
/-- def __init__(self, f): super().__init__(f), the super's a def -/
abbrev uBody (f : Str) (p0 p1 p2 p3 p4 p5 : Pos) : List Stmt := [.Expr (.Call (.Attribute (.Call (.Name "super" p0) [] [] p1) "__init__" p2) [.Name f p3] [] p4) p5]
section
variable {prog : Program} {w : World} {A : Around} {E : Value → Shared → Prop} {R : Result → Shared → Prop} {s : Shared} {K : Frag} {C D cc fI fW : Addr} {q : Str} {params : Arguments} {scope : Scope}
theorem init_sub {nsA : List Str} {f : Str} {p0 p1 p2 p3 p4 p5 : Pos} {u : Value} {mA : Str → Option Value} {ar : Arg}
    (FT : FnT K prog D cc fI q params (uBody f p0 p1 p2 p3 p4 p5) scope) (T : ObjC K C nsA) (hW : InitOk K prog C fW [u] mA) (hfW : typeIn K (.ref fW) = some (.type "function")) (hfn : fnIn K fW = true)
    (hsub : mroIn K C (.ref D) = some true) (hsup : ks_superIn K C D "__init__" = some (some (.ref fW)))
    (hbind : ∀ (x : Addr) (kV doc pm : Value) (an : Option Addr) (cda : Addr) (ct : Value), bindArgs (ksFn "__init__" q params (uBody f p0 p1 p2 p3 p4 p5) scope .none kV doc pm an (.ref cda) ct cc) ⟨[.ref x, u], []⟩ = pure [(("self" : Str), .ref x), (f, u)])
    (hp : (params.posonlyargs ++ params.args).head? = some ar) (har : ar.arg = "self") (hcell : ∀ y ∈ scope.names, y.2 ≠ .cell) (hka : scope.names.lookup ("self" : Str) = some .local) (hkf : scope.names.lookup f = some .local) (hfs : (f == ("self" : Str)) = false) (hsf : (("self" : Str) == f) = false) (hfd : (f == ("__debug__" : Str)) = false)
    (hco : scope.isCoroutine = false) (hgen : scope.isGenerator = false) (hks : scope.names.lookup ("super" : Str) = some .globalImplicit) (hkc : scope.names.lookup ("__class__" : Str) = some .free) (hk : scope.kind = .function)
    (hev : ∀ (L cda : Addr), ∃ pl : Sem Bool, eval (.Call (.Attribute (.Call (.Name "super" p0) [] [] p1) "__init__" p2) [.Name f p3] [] p4) (ksEnv q scope L fI (.ref cda) cc) = (do
      let ov ← attributeBase (.Call (.Name "super" p0) [] [] p1) "__init__" (ksEnv q scope L fI (.ref cda) cc) (eval (.Call (.Name "super" p0) [] [] p1) (ksEnv q scope L fI (.ref cda) cc))
      standAt p2.atName
      let (f', first) ← holding [ov] (getMethod ov "__init__" pl)
      callWith p4 f' first (backTo p4 (starEach [.Name f p3] (ksEnv q scope L fI (.ref cda) cc))) []))
    (hint : ∀ (L cda : Addr), interactive (ksEnv q scope L fI (.ref cda) cc) = false) (hsw : ∀ (L cda : Addr), swapsWith (.Call (.Attribute (.Call (.Name "super" p0) [] [] p1) "__init__" p2) [.Name f p3] [] p4) none p5.line (ksEnv q scope L fI (.ref cda) cc) = pure false)
    (w : World) (A : Around) (R : Result → Shared → Prop) (s : Shared) (x t0 : Addr) (X : K.In s.heap) (W : SupW prog s.heap) (hlim : s.heap.NoLimit) (hx : s.heap.get? x = some (excO C t0)) (hKx : K.lookup x = none) (hroom : A.depth + 4 < recursionLimit)
    (hq : ∀ h' tk dx, InitE s.heap h' x C dx mA → R (.ok (.ret .none)) { s with heap := h', toks := tk }) : codeAny (model prog w) A (.call (.ref fI) ⟨.ref x :: [u], []⟩) R s := by
  obtain ⟨oc, od, kV, doc, pm, an, cda, ct, osl, ho, hcd, hcode⟩ := FT.fn
  have hxlt := Heap.lt_size hx
  refine ks_codeAny_call_defAt (by omega) (X _ _ ho) rfl hlim (codeRec_of X hcd) rfl (BindsTo.of_eq (hbind x kV doc pm an cda ct)) hcell (fun y hy => ?_) (fun h₀ hn k => ?_) hco hgen hk
  · rcases List.mem_cons.mp hy with rfl | hy
    · exact hka
    · rw [List.mem_singleton.mp hy]
      exact hkf
  show wpAt (model prog w) _ (.func _ (ksEnv q scope s.heap.objs.size fI (.ref cda) cc)) (execs _ (ksEnv q scope s.heap.objs.size fI (.ref cda) cc)) _ _ _
  have X₀ : K.In h₀ := X.keeps k
  have hx₀ := k _ _ hx
  have hself : ([(("self" : Str), Value.ref x), (f, u)] : List (Str × Value)).reverse.lookup ("self" : Str) = some (.ref x) := by
    show ([(f, u), (("self" : Str), Value.ref x)] : List (Str × Value)).lookup ("self" : Str) = _
    rw [List.lookup_cons, hsf]
    rfl
  have hfv : ([(("self" : Str), Value.ref x), (f, u)] : List (Str × Value)).reverse.lookup f = some u := by
    show ([(f, u), (("self" : Str), Value.ref x)] : List (Str × Value)).lookup f = _
    rw [List.lookup_cons, beq_self_eq_true]
  obtain ⟨pl, hev⟩ := hev s.heap.objs.size cda
  refine ks_wpAt_execs_cons (ks_wpAt_Expr_any (ks_wpAt_MethodCall ?_ hev) (hint _ _) (hsw _ _))
  refine sup_base (s := { s with heap := h₀, toks := s.toks + _ }) X₀ (W.keeps k) hn ho hcode FT.cell FT.clsD hp (by rw [har]; exact hself) hx₀ rfl (fun c z => by cases z) hsub hks hkc (by rw [har]; exact hka) hk fun h1 hso k1 => ?_
  have X₁ : K.In h1 := X₀.keeps k1
  obtain ⟨cd, c1, c2, c3⟩ := T.cd
  have hne : x ≠ C := fun z => by
    have e := k1 _ _ hx₀
    rw [z] at e
    unfold clsIn at c1
    split at c1
    · rename_i c d cd' sl hoC
      have e2 := X₁ _ _ hoC
      rw [e] at e2
      cases e2
    · cases c1
  have hsup' : alongIn K "__init__" ((cd.mro.dropWhile (· != .ref D)).drop 1) = some (some (.ref fW)) := by
    unfold ks_superIn at hsup
    rw [c1] at hsup
    exact hsup
  obtain ⟨of, hof, hofc⟩ : ∃ of, h1.get? fW = some of ∧ of.cls = .type "function" := by
    have ht' : (K.lookup fW).map (·.cls) = some (.type "function") := hfW
    cases z : K.lookup fW with
    | none => rw [z] at ht'; cases ht'
    | some of => rw [z] at ht'; exact ⟨of, X₁ _ _ z, Option.some.inj ht'⟩
  obtain ⟨hh, g, d, t, os⟩ := s
  refine ks_wpAny_getMethod_super hso (looks_opaque X₁ T.opq) (l₀ := cd.mro) (fun A Q E s k q => wpAny_bind ((looks_clsIn X₁ c1) A _ E s k (wpAny_pure q))) rfl X₁ hsup' hof hofc hne (by decide) ?_
  have k2 : ∀ b o, h1.get? b = some o → (h1.push (methodObj (.ref fW) (.ref x))).get? b = some o := fun b o e => Heap.get?_push_of_some _ e
  have hu : (h1.push (methodObj (.ref fW) (.ref x))).get? h1.objs.size = some (methodObj (.ref fW) (.ref x)) := Heap.get?_push_at rfl rfl
  have X₂ := X₁.keeps k2
  have kk : ∀ b o, hh.get? b = some o → (h1.push (methodObj (.ref fW) (.ref x))).get? b = some o := fun b o e => k2 _ _ (k1 _ _ (k _ _ e))
  have hn2 : (h1.push (methodObj (.ref fW) (.ref x))).Ns hh.objs.size (fun y => ([(("self" : Str), Value.ref x), (f, u)] : List (Str × Value)).reverse.lookup y) := hn.keeps fun b o e => k2 _ _ (k1 _ _ e)
  refine callWith_of (P := MethP K h1.objs.size fW (.ref x)) rfl (keeps_M hfn) (evalArgs_plain (spliced_cons (wpAny_Name (wpAny_loadName_local hk hkf hn2 hfv (spliced_nil ⟨⟨hu, X₂⟩, ?_⟩)) hfd)))
  refine wpAny_call (ks_codeAny_call_bound hu ?_)
  refine hW w _ _ _ x t0 X₂ ((W.keeps k).keeps fun b o e => k2 _ _ (k1 _ _ e)) (hlim.keeps kk) (kk _ _ hx) hKx ?_ fun h' tk' dx IE => ?_
  · show A.depth + 1 + 3 < recursionLimit
    omega
  · show wpAt _ _ _ (execs [] _) _ _ _
    have big : hh.objs.size ≤ (h1.push (methodObj (.ref fW) (.ref x))).objs.size := by
      have h2 := Heap.lt_size hso
      have h3 := Heap.lt_size hu
      exact Nat.le_of_lt (Nat.lt_trans (Nat.lt_trans hn.lt h2) h3)
    exact wpAt_of_wpAny (wpAny_execs_nil (hq h' tk' dx ⟨fun b o hb e => IE.keep b o hb (kk _ _ e), IE.obj, Nat.le_trans big IE.dbig, IE.ns⟩))
/-- a made exception -/
structure Made (h h' : Heap) (e C d : Addr) (mA : Str → Option Value) : Prop where
  keep : ∀ b o, h.get? b = some o → h'.get? b = some o
  new : h.objs.size ≤ e
  obj : ∃ oe vs, h'.get? e = some oe ∧ oe.cls = .ref C ∧ oe.dict = some d ∧ oe.data = .fields vs ∧ vs[1]? = some .none ∧ vs[2]? = some .none
  dbig : h.objs.size ≤ d
  dne : d ≠ e
  ns : h'.Ns1 d mA
theorem made {us : List Value} {mA : Str → Option Value} {k : Nat} (exi : excInitIn K C VeT "ValueError.__new__" = true) (iC : findIn K (.ref C) "__init__" = some (some (.ref fI))) (tC : typeIn K (.ref fI) = some (.type "function")) (hI : ∀ (A : Around) (R : Result → Shared → Prop) (s : Shared) (x t0 : Addr), K.In s.heap → SupW prog s.heap → s.heap.NoLimit → s.heap.get? x = some (excO C t0) → K.lookup x = none → A.depth + k < recursionLimit →
      (∀ h' tk dx, InitE s.heap h' x C dx mA → R (.ok (.ret .none)) { s with heap := h', toks := tk }) → codeAny (model prog w) A (.call (.ref fI) ⟨.ref x :: us, []⟩) R s)
    (X : K.In s.heap) (W : SupW prog s.heap) (hlim : s.heap.NoLimit) (hroom : A.depth + 1 + k < recursionLimit) (hz : us.length ≤ sizeLine)
    (hq : ∀ h' tk e d, Made s.heap h' e C d mA → R (.ok (.ret (.ref e))) { s with heap := h', toks := tk }) : codeAny (model prog w) A (.call (.ref C) ⟨us, []⟩) R s := by
  obtain ⟨nm, N', qn, bs, bm2, hdct, sn, sub, ab, col, dd, k0, k1, k2, k3, k5, hC, hT⟩ := excInit_of X exi
  obtain ⟨hp, g, dr, tk, os⟩ := s
  have kk : ∀ b o, hp.get? b = some o → ((hp.push (kdv_tup us)).push (excO C hp.objs.size)).get? b = some o := fun b o e => Heap.get?_push_of_some _ (Heap.get?_push_of_some _ e)
  have hget : ((hp.push (kdv_tup us)).push (excO C hp.objs.size)).get? (hp.objs.size + 1) = some (excO C hp.objs.size) := by heap_get
  have hnx : K.lookup (hp.objs.size + 1) = none := by
    cases e : K.lookup (hp.objs.size + 1) with
    | none => rfl
    | some o =>
      have z : hp.get? (hp.objs.size + 1) = some o := X _ _ e
      exact absurd (Nat.lt_of_succ_lt (Heap.lt_size z)) (Nat.lt_irrefl _)
  refine call_own F.excBase_ValueError hT hC (looks_findIn X iC) (fun self => bind_fn X self tC) hz ?_
  refine hI _ _ ⟨(hp.push (kdv_tup us)).push (excO C hp.objs.size), g, dr, tk, os⟩ _ _ (X.keeps kk) (W.keeps kk) (hlim.keeps kk) hget hnx ?_ fun h' tk' dx IE => ?_
  · show A.depth + 1 + k < recursionLimit
    exact hroom
  · obtain ⟨t1, hobj⟩ := IE.obj
    have old : ∀ b o, hp.get? b = some o → h'.get? b = some o := fun b o e => IE.keep b o (Nat.ne_of_lt (Nat.lt_succ_of_lt (Heap.lt_size e))) (kk b o e)
    have z : hp.objs.size + 1 + 1 ≤ dx := by
      have q := IE.dbig
      have e : ((hp.push (kdv_tup us)).push (excO C hp.objs.size)).objs.size = hp.objs.size + 1 + 1 := by rw [Heap.size_push, Heap.size_push]
      have q : ((hp.push (kdv_tup us)).push (excO C hp.objs.size)).objs.size ≤ dx := q
      rw [e] at q
      exact q
    exact ⟨rfl, hq h' tk' (hp.objs.size + 1) dx ⟨old, Nat.le_succ _, ⟨_, _, hobj, rfl, rfl, rfl, rfl, rfl⟩, Nat.le_trans (Nat.le_trans (Nat.le_succ _) (Nat.le_succ _)) z, Nat.ne_of_gt z, IE.ns⟩⟩
end
end Sx
end PySem
namespace K43
open PySem PySem.Spec PyProof.Rows L2
theorem relO_zip : ∀ (ns : List Str) {vs : List V} {us : List Value} (f : Str), Vals vs us → RelO ((ns.zip vs).lookup f) ((ns.zip us).lookup f)
  | [], _, _, _, _ => by simp [RelO]
  | _ :: _, _, _, _, .nil => by simp [RelO]
  | n :: ns, _, _, f, .cons r t => by
    show RelO (List.lookup f ((n, _) :: ns.zip _)) (List.lookup f ((n, _) :: ns.zip _))
    rw [List.lookup_cons, List.lookup_cons]
    cases f == n with
    | true => exact r
    | false => exact relO_zip ns f t
/-- calling the class at C with as many values as it has fields makes it -/
def MadeOk (W : Wd) (C : Addr) (ns : List Str) : Prop := ∀ (us : List Value), us.length = ns.length → ∀ (w : World) (A : Around) (R : Result → Shared → Prop) (s : Shared), W.K.In s.heap → Sx.SupW W.P s.heap → s.heap.NoLimit → A.depth + 6 < recursionLimit →
  (∀ h' tk e d, Sx.Made s.heap h' e C d (fun y => (ns.zip us).lookup y) → R (.ok (.ret (.ref e))) { s with heap := h', toks := tk }) → codeAny (model W.P w) A (.call (.ref C) ⟨us, []⟩) R s
theorem supW {W : Wd} {X : Cx} (hW : InW W X) (ht : (W.P.main.scope.names.lookup ("super" : Str)).isSome = false) (hs : W.mg "super" = none) {pins : List (Addr × Obj)} {σ : L2.St} {H : Hp} {s : Shared} (I : Inv X pins σ H s) : Sx.SupW W.P s.heap := by
  obtain ⟨h1, h2, h3, h4, h5⟩ := hW
  obtain ⟨WP, Ww, WK, Wm, Wb⟩ := W
  subst h1 h2 h3 h4 h5
  obtain ⟨mb, b1, b2⟩ := I.ok.mod.blt
  exact ⟨⟨X.mg, I.mod.glob.keeps I.bk, hs⟩, ⟨mb, b1.keeps I.bk, (b2 _ (by decide)).trans (by decide +kernel)⟩, ht⟩
theorem xc_mk {W : Wd} {x : Str} {C : Addr} {ns : List Str} (gC : W.mg x = some (.ref C)) (kC : PySem.W.keepIn W.K (.ref C) = true) (exC : PySem.W.subIn W.K (.ref C) (.type "BaseException") = some true) (tyC : PySem.W.typeIn W.K (.ref C) = some (.type "type")) (M : MadeOk W C ns)
    (ht : (W.P.main.scope.names.lookup ("super" : Str)).isSome = false) (hs : W.mg "super" = none) : Xc W x C ns := by
  refine ⟨fun X p pos e es hW hr hg hdb he hpl pins s σ H Q I h => ?_⟩
  have hW' := hW
  obtain ⟨h1, h2, h3, h4, h5⟩ := hW
  obtain ⟨WP, Ww, WK, Wm, Wb⟩ := W
  subst h1 h2 h3 h4 h5
  refine wpAny_Call_Name_kw (ld_glob I hg gC ?_ hdb)
  refine PySem.W.callWith_K (h₀ := X.base) I.ok.mod.kin kC (thn ((wa (X := X) (es := e :: es)).run pos pins s σ H _ I h) fun us s1 hh => ?_) he hpl
  obtain ⟨vs, H1, I1, r1, hl, q1⟩ := hh
  refine ⟨I1.kIn, ?_⟩
  show wpAny _ _ (call (.ref C) us) _ _ _
  have hlim := I1.nolimit
  have hsw := supW hW' ht hs I1
  obtain ⟨hp, g, dr, tk, os⟩ := s1
  refine wpAny_call (M us (by rw [← r1.length]; exact hl) _ _ _ _ I1.kIn hsw hlim (by have := hr.dp; omega) fun h' tk' e d M => ?_)
  show L2N.MkP X pins σ Q (.ref e) ⟨h', g, dr, tk', os⟩
  obtain ⟨oe, fv, hoe, hc, hd, hdat, h1, h2⟩ := M.obj
  have hns := M.ns
  obtain ⟨G', g1, g2⟩ := restrict h' fun b => decide (b ≠ e)
  have gk : ∀ b, b ≠ e → G'.get? b = h'.get? b := fun b hb => g1 b (decide_eq_true hb)
  have ge : G'.get? e = none := g2 e (by simp)
  have old : ∀ b o, hp.get? b = some o → G'.get? b = some o := fun b o q => (gk b (Nat.ne_of_lt (Nat.lt_of_lt_of_le (Heap.lt_size q) M.new))).trans (M.keep b o q)
  have ob : ObjOk X.prog X.w (upd H1 d (.xd (ns.zip vs))) G' d (.xd (ns.zip vs)) := ⟨_, hns.at (fun o q => (gk d M.dne).trans q), fun f => relO_zip ns f r1⟩
  have J : Inv X pins σ (upd H1 d (.xd (ns.zip vs))) ⟨G', g, dr, tk', os⟩ := I1.laid (t' := tk') old M.dbig ob
  refine ⟨e, oe, fv, ⟨G', g, dr, tk', os⟩, _, .ref C, some d, rfl, J, fun b o q => ?_, ge, hoe, ⟨hc, hd, fun vs e => by rw [hdat] at e; cases e; exact h2⟩, hdat, h1, ?_, rfl, I1.bare, raises_own exC tyC, q1 d (I1.hok.fresh M.dbig)⟩
  · by_cases hb : b = e
    · have q' : G'.get? b = some o := q
      rw [hb, ge] at q'; cases q'
    · exact (gk b hb).symm.trans q
  · rw [upd_ne (Ne.symm M.dne)]
    exact I1.hok.fresh M.new
end K43
namespace K43
open PySem PySem.Spec PyProof.Rows L2
/-- a def in a class -/
def meth (i k : Nat) : Stmt := match top i with
  | .ClassDef _ _ _ body _ _ _ _ _ _ _ => body.getD k (.Pass ⟨0, 0, 0, 0⟩)
  | _ => .Pass ⟨0, 0, 0, 0⟩
/-- what is known of an own exception with an own __init__ -/
structure ClsX (W : Wd) (x : Str) (C fI cc : Addr) (q : Str) (st : Stmt) (ns : List Str) : Prop where
  gC : W.mg x = some (.ref C)
  kC : PySem.W.keepIn W.K (.ref C) = true
  exC : PySem.W.subIn W.K (.ref C) (.type "BaseException") = some true
  tyC : PySem.W.typeIn W.K (.ref C) = some (.type "type")
  obj : Sx.ObjC W.K C ns
  iC : PySem.W.findIn W.K (.ref C) "__init__" = some (some (.ref fI))
  tC : PySem.W.typeIn W.K (.ref fI) = some (.type "function")
  fC : PySem.W.fnIn W.K fI = true
  ft : Sx.FnT W.K W.P C cc fI q (defArgs st) (defBody st) (defScope st)
  sub : PySem.W.mroIn W.K C (.ref C) = some true
/-- .. of the program's top -/
structure TopX (W : Wd) : Prop where
  ht : (W.P.main.scope.names.lookup ("super" : Str)).isSome = false
  hs : W.mg "super" = none
theorem lk (y a : Str) (u : Value) (l : List (Str × Value)) : List.lookup y ((a, u) :: l) = if y = a then some u else List.lookup y l := by
  rw [List.lookup_cons]
  by_cases h : y = a
  · rw [if_pos h, beq_iff_eq.mpr h]
  · rw [if_neg h, beq_eq_false_iff_ne.mpr h]
theorem lk0 (y : Str) : List.lookup y ([] : List (Str × Value)) = none := rfl
theorem put1 {a : Str} {x u : Value} (h : a ≠ "self") : Sx.putM (fun y => List.lookup y [(("self" : Str), x), (a, u)].reverse) [a] (fun _ => none) = fun y => List.lookup y ([a].zip [u]) := by
  funext y
  show (if y = a then List.lookup a [(a, u), ("self", x)] else none) = List.lookup y [(a, u)]
  simp only [lk, lk0]
  by_cases h1 : y = a <;> simp [h1]
theorem put2 {a b : Str} {x u v : Value} (h : a ≠ "self") (h2 : b ≠ "self") (h3 : a ≠ b) : Sx.putM (fun y => List.lookup y [(("self" : Str), x), (a, u), (b, v)].reverse) [a, b] (fun _ => none) = fun y => List.lookup y ([a, b].zip [u, v]) := by
  funext y
  show (if y = b then List.lookup b [(b, v), (a, u), ("self", x)] else if y = a then List.lookup a [(b, v), (a, u), ("self", x)] else none) = List.lookup y [(a, u), (b, v)]
  simp only [lk, lk0]
  by_cases h1 : y = a <;> by_cases h4 : y = b
  · exact absurd (h1.symm.trans h4) h3
  · simp [h1, h3]
  · simp [h4, Ne.symm h3]
  · simp [h1, h4]
theorem put3 {a b c : Str} {x u v z : Value} (h : a ≠ "self") (h2 : b ≠ "self") (h3 : a ≠ b) (h4 : c ≠ "self") (h5 : a ≠ c) (h6 : b ≠ c) : Sx.putM (fun y => List.lookup y [(("self" : Str), x), (a, u), (b, v), (c, z)].reverse) [a, b, c] (fun _ => none) = fun y => List.lookup y ([a, b, c].zip [u, v, z]) := by
  funext y
  show (if y = c then List.lookup c [(c, z), (b, v), (a, u), ("self", x)] else if y = b then List.lookup b [(c, z), (b, v), (a, u), ("self", x)] else if y = a then List.lookup a [(c, z), (b, v), (a, u), ("self", x)] else none) = List.lookup y [(a, u), (b, v), (c, z)]
  simp only [lk, lk0]
  by_cases h7 : y = a
  · simp [h7, h3, h5]
  · by_cases h8 : y = b
    · simp [h8, h6, Ne.symm h3]
    · by_cases h9 : y = c
      · simp [h9, Ne.symm h5, Ne.symm h6]
      · simp [h7, h8, h9]
/-! ### BadHands -/
abbrev iH : Stmt := meth 2 0
theorem xH {W : Wd} {C fI cc : Addr} (T : TopX W) (c : ClsX W "BadHands" C fI cc "BadHands.__init__" iH ["mine_count", "theirs_count"]) (hsup : PySem.W.ks_superIn W.K C C "__init__" = some (some (.builtin "ValueError.__init__"))) : Xc W "BadHands" C ["mine_count", "theirs_count"] := by
  refine xc_mk c.gC c.kC c.exC c.tyC (fun us hl w A R s X S hlim hd hq => ?_) T.ht T.hs
  match us, hl with
  | [u, v], _ =>
    refine Sx.made (k := 1) (mA := fun y => ((["mine_count", "theirs_count"] : List Str).zip [u, v]).lookup y) c.obj.exi c.iC c.tC (fun A R s x t0 X S hlim hx hKx hd hq => ?_) X S hlim (by omega) (by rw [sizeLine_eq]; exact (by decide : 2 ≤ 16777216)) hq
    refine Sx.init_str (f := ("mine_count", _, _, _, _)) (fs := [("theirs_count", _, _, _, _)]) (binds := [("self", .ref x), ("mine_count", u), ("theirs_count", v)]) c.ft c.obj X S hlim hx hKx (by omega) c.sub hsup (fun _ _ _ _ _ _ => rfl) rfl rfl (by decide +kernel) (fun y hy => ?_) rfl rfl rfl rfl rfl rfl rfl (by decide) (fun _ _ => ⟨_, rfl⟩) (fun _ _ => rfl) (fun _ _ => rfl) (fun g hg => ?_) fun h' tk dx IE => hq h' tk dx ?_
    · rcases List.mem_cons.mp hy with rfl | hy
      · rfl
      · rcases List.mem_cons.mp hy with rfl | hy
        · rfl
        · rw [List.mem_singleton.mp hy]
          rfl
    · rcases List.mem_cons.mp hg with rfl | hg
      · exact ⟨by simp, rfl, by decide, u, rfl⟩
      · rw [List.mem_singleton.mp hg]
        exact ⟨by simp, rfl, by decide, v, rfl⟩
    · rw [← put2 (x := .ref x) (by decide) (by decide) (by decide)]
      exact IE
/-! ### BadWord, Unsteady -/
abbrev iW : Stmt := meth 3 0
abbrev iU : Stmt := meth 4 0
/-- BadWord's __init__ on an object of the class at O -/
theorem initW {W : Wd} {C O fI cc : Addr} {x : Str} {ns : List Str} (c : ClsX W x C fI cc "BadWord.__init__" iW ns) (obj : Sx.ObjC W.K O ["position"]) (sub : PySem.W.mroIn W.K O (.ref C) = some true) (hsup : PySem.W.ks_superIn W.K O C "__init__" = some (some (.builtin "ValueError.__init__"))) (u : Value) :
    Sx.InitOk W.K W.P O fI [u] (fun y => ((["position"] : List Str).zip [u]).lookup y) := fun w A R s x t0 X S hlim hx hKx hd hq => by
  refine Sx.init_str (f := ("position", _, _, _, _)) (fs := []) (binds := [("self", .ref x), ("position", u)]) c.ft obj X S hlim hx hKx (by omega) sub hsup (fun _ _ _ _ _ _ => rfl) rfl rfl (by decide +kernel) (fun y hy => ?_) rfl rfl rfl rfl rfl rfl rfl (by decide) (fun _ _ => ⟨_, rfl⟩) (fun _ _ => rfl) (fun _ _ => rfl) (fun g hg => ?_) fun h' tk dx IE => hq h' tk dx ?_
  · rcases List.mem_cons.mp hy with rfl | hy
    · rfl
    · rw [List.mem_singleton.mp hy]
      rfl
  · rw [List.mem_singleton.mp hg]
    exact ⟨by simp, rfl, by decide, u, rfl⟩
  · rw [← put1 (x := .ref x) (by decide)]
    exact IE
theorem xW {W : Wd} {C fI cc : Addr} (T : TopX W) (c : ClsX W "BadWord" C fI cc "BadWord.__init__" iW ["position"]) (hsup : PySem.W.ks_superIn W.K C C "__init__" = some (some (.builtin "ValueError.__init__"))) : Xc W "BadWord" C ["position"] := by
  refine xc_mk c.gC c.kC c.exC c.tyC (fun us hl w A R s X S hlim hd hq => ?_) T.ht T.hs
  match us, hl with
  | [u], _ => exact Sx.made (k := 3) c.obj.exi c.iC c.tC (fun A R s x t0 X S hlim hx hKx hd hq => initW c c.obj c.sub hsup u w A R s x t0 X S hlim hx hKx hd hq) X S hlim (by omega) (by rw [sizeLine_eq]; exact (by decide : 1 ≤ 16777216)) hq
theorem xU {W : Wd} {C fI cc D fW cw : Addr} (T : TopX W) (c : ClsX W "Unsteady" C fI cc "Unsteady.__init__" iU ["position"]) (d : ClsX W "BadWord" D fW cw "BadWord.__init__" iW ["position"]) (hs1 : PySem.W.ks_superIn W.K C C "__init__" = some (some (.ref fW)))
    (hs2 : PySem.W.ks_superIn W.K C D "__init__" = some (some (.builtin "ValueError.__init__"))) (sub : PySem.W.mroIn W.K C (.ref D) = some true) : Xc W "Unsteady" C ["position"] := by
  refine xc_mk c.gC c.kC c.exC c.tyC (fun us hl w A R s X S hlim hd hq => ?_) T.ht T.hs
  match us, hl with
  | [u], _ => exact Sx.made (k := 4) c.obj.exi c.iC c.tC (fun A R s x t0 X S hlim hx hKx hd hq => Sx.init_sub (f := "position") c.ft c.obj (initW d c.obj sub hs2 u) d.tC d.fC c.sub hs1 (fun _ _ _ _ _ _ _ => rfl) rfl rfl (by decide +kernel) rfl rfl (by decide) (by decide) (by decide) rfl rfl rfl rfl rfl (fun _ _ => ⟨_, rfl⟩) (fun _ _ => rfl) (fun _ _ => rfl) w A R s x t0 X S hlim hx hKx hd hq) X S hlim (by omega) (by rw [sizeLine_eq]; exact (by decide : 1 ≤ 16777216)) hq
/-! ### BadCard, Unreachable -/
abbrev iC : Stmt := meth 5 0
abbrev iR : Stmt := meth 9 0
theorem xC {W : Wd} {C fI cc : Addr} (T : TopX W) (c : ClsX W "BadCard" C fI cc "BadCard.__init__" iC ["side", "index"]) (hsup : PySem.W.ks_superIn W.K C C "__init__" = some (some (.builtin "ValueError.__init__"))) : Xc W "BadCard" C ["side", "index"] := by
  refine xc_mk c.gC c.kC c.exC c.tyC (fun us hl w A R s X S hlim hd hq => ?_) T.ht T.hs
  match us, hl with
  | [u, v], _ =>
    refine Sx.made (k := 1) (mA := fun y => ((["side", "index"] : List Str).zip [u, v]).lookup y) c.obj.exi c.iC c.tC (fun A R s x t0 X S hlim hx hKx hd hq => ?_) X S hlim (by omega) (by rw [sizeLine_eq]; exact (by decide : 2 ≤ 16777216)) hq
    refine Sx.init_str (f := ("side", _, _, _, _)) (fs := [("index", _, _, _, _)]) (binds := [("self", .ref x), ("side", u), ("index", v)]) c.ft c.obj X S hlim hx hKx (by omega) c.sub hsup (fun _ _ _ _ _ _ => rfl) rfl rfl (by decide +kernel) (fun y hy => ?_) rfl rfl rfl rfl rfl rfl rfl (by decide) (fun _ _ => ⟨_, rfl⟩) (fun _ _ => rfl) (fun _ _ => rfl) (fun g hg => ?_) fun h' tk dx IE => hq h' tk dx ?_
    · rcases List.mem_cons.mp hy with rfl | hy
      · rfl
      · rcases List.mem_cons.mp hy with rfl | hy
        · rfl
        · rw [List.mem_singleton.mp hy]
          rfl
    · rcases List.mem_cons.mp hg with rfl | hg
      · exact ⟨by simp, rfl, by decide, u, rfl⟩
      · rw [List.mem_singleton.mp hg]
        exact ⟨by simp, rfl, by decide, v, rfl⟩
    · rw [← put2 (x := .ref x) (by decide) (by decide) (by decide)]
      exact IE
theorem xR {W : Wd} {C fI cc : Addr} (T : TopX W) (c : ClsX W "Unreachable" C fI cc "Unreachable.__init__" iR ["wanted", "lowest", "highest"]) (hsup : PySem.W.ks_superIn W.K C C "__init__" = some (some (.builtin "ValueError.__init__"))) : Xc W "Unreachable" C ["wanted", "lowest", "highest"] := by
  refine xc_mk c.gC c.kC c.exC c.tyC (fun us hl w A R s X S hlim hd hq => ?_) T.ht T.hs
  match us, hl with
  | [u, v, z], _ =>
    refine Sx.made (k := 1) (mA := fun y => ((["wanted", "lowest", "highest"] : List Str).zip [u, v, z]).lookup y) c.obj.exi c.iC c.tC (fun A R s x t0 X S hlim hx hKx hd hq => ?_) X S hlim (by omega) (by rw [sizeLine_eq]; exact (by decide : 3 ≤ 16777216)) hq
    refine Sx.init_str (f := ("wanted", _, _, _, _)) (fs := [("lowest", _, _, _, _), ("highest", _, _, _, _)]) (binds := [("self", .ref x), ("wanted", u), ("lowest", v), ("highest", z)]) c.ft c.obj X S hlim hx hKx (by omega) c.sub hsup (fun _ _ _ _ _ _ => rfl) rfl rfl (by decide +kernel) (fun y hy => ?_) rfl rfl rfl rfl rfl rfl rfl (by decide) (fun _ _ => ⟨_, rfl⟩) (fun _ _ => rfl) (fun _ _ => rfl) (fun g hg => ?_) fun h' tk dx IE => hq h' tk dx ?_
    · rcases List.mem_cons.mp hy with rfl | hy
      · rfl
      · rcases List.mem_cons.mp hy with rfl | hy
        · rfl
        · rcases List.mem_cons.mp hy with rfl | hy
          · rfl
          · rw [List.mem_singleton.mp hy]
            rfl
    · rcases List.mem_cons.mp hg with rfl | hg
      · exact ⟨by simp, rfl, by decide, u, rfl⟩
      · rcases List.mem_cons.mp hg with rfl | hg
        · exact ⟨by simp, rfl, by decide, v, rfl⟩
        · rw [List.mem_singleton.mp hg]
          exact ⟨by simp, rfl, by decide, z, rfl⟩
    · rw [← put3 (x := .ref x) (by decide) (by decide) (by decide) (by decide) (by decide) (by decide)]
      exact IE
end K43
set_option maxHeartbeats 0
namespace K43
open PySem PySem.Spec PyProof.Rows L2
/-! ### the head: what is read off the heap behind the top -/
def d17 : He.DefD := ⟨("check_hands", none), "check_hands", "check_hands", defArgs (top 17), defBody (top 17), defScope (top 17), [], []⟩
def d18 : He.DefD := ⟨("check_card", none), "check_card", "check_card", defArgs (top 18), defBody (top 18), defScope (top 18), [], []⟩
def d19 : He.DefD := ⟨("check_letters", none), "check_letters", "check_letters", defArgs (top 19), defBody (top 19), defScope (top 19), [], []⟩
def d20 : He.DefD := ⟨("check_word", none), "check_word", "check_word", defArgs (top 20), defBody (top 20), defScope (top 20), [], []⟩
def d21 : He.DefD := ⟨("chosen", none), "chosen", "chosen", defArgs (top 21), defBody (top 21), defScope (top 21), [], []⟩
def d22 : He.DefD := ⟨("without", none), "without", "without", defArgs (top 22), defBody (top 22), defScope (top 22), [], []⟩
def d23 : He.DefD := ⟨("lays_before_last", none), "lays_before_last", "lays_before_last", defArgs (top 23), defBody (top 23), defScope (top 23), [], []⟩
def d26 : He.DefD := ⟨("wins", none), "wins", "wins", defArgs (top 26), defBody (top 26), defScope (top 26), [], []⟩
def d27 : He.DefD := ⟨("hand_of", none), "hand_of", "hand_of", defArgs (top 27), defBody (top 27), defScope (top 27), [], []⟩
def d28 : He.DefD := ⟨("deck", none), "deck", "deck", defArgs (top 28), defBody (top 28), defScope (top 28), [], []⟩
def d29 : He.DefD := ⟨("around", none), "around", "around", defArgs (top 29), defBody (top 29), defScope (top 29), [], [("down", .bl false)]⟩
def d30 : He.DefD := ⟨("next_up", none), "next_up", "next_up", defArgs (top 30), defBody (top 30), defScope (top 30), [], []⟩
def d31 : He.DefD := ⟨("next_down", none), "next_down", "next_down", defArgs (top 31), defBody (top 31), defScope (top 31), [], []⟩
def d33 : He.DefD := ⟨("check_pair", none), "check_pair", "check_pair", defArgs (top 33), defBody (top 33), defScope (top 33), [], []⟩
def d34 : He.DefD := ⟨("taken_out", none), "taken_out", "taken_out", defArgs (top 34), defBody (top 34), defScope (top 34), [], []⟩
def d36 : He.DefD := ⟨("heights", none), "heights", "heights", defArgs (top 36), defBody (top 36), defScope (top 36), [], []⟩
def d38 : He.DefD := ⟨("side_levels", none), "side_levels", "side_levels", defArgs (top 38), defBody (top 38), defScope (top 38), [], []⟩
def d39 : He.DefD := ⟨("row_of", none), "row_of", "row_of", defArgs (top 39), defBody (top 39), defScope (top 39), [], []⟩
def d40 : He.DefD := ⟨("row_after", none), "row_after", "row_after", defArgs (top 40), defBody (top 40), defScope (top 40), [], []⟩
def d42 : He.DefD := ⟨("entry_value", none), "entry_value", "entry_value", defArgs (top 42), defBody (top 42), defScope (top 42), [], []⟩
def d43 : He.DefD := ⟨("value", none), "value", "value", defArgs (top 43), defBody (top 43), defScope (top 43), [], [("many", .str "mine")]⟩
def d47 : He.DefD := ⟨("exact_range", none), "exact_range", "exact_range", defArgs (top 47), defBody (top 47), defScope (top 47), [], []⟩
def d48 : He.DefD := ⟨("unsteady_position", none), "unsteady_position", "unsteady_position", defArgs (top 48), defBody (top 48), defScope (top 48), [], []⟩
def d49 : He.DefD := ⟨("can_force", none), "can_force", "can_force", defArgs (top 49), defBody (top 49), defScope (top 49), [], []⟩
def d51 : He.DefD := ⟨("exact_lay", none), "exact_lay", "exact_lay", defArgs (top 51), defBody (top 51), defScope (top 51), [], []⟩
def d52 : He.DefD := ⟨("exact_answer", none), "exact_answer", "exact_answer", defArgs (top 52), defBody (top 52), defScope (top 52), [], []⟩
def d55 : He.DefD := ⟨("_law_cell", none), "_law_cell", "_law_cell", defArgs (top 55), defBody (top 55), defScope (top 55), [], []⟩
def d56 : He.DefD := ⟨("_law_draws", none), "_law_draws", "_law_draws", defArgs (top 56), defBody (top 56), defScope (top 56), [], []⟩
def d57 : He.DefD := ⟨("_law_hand", none), "_law_hand", "_law_hand", defArgs (top 57), defBody (top 57), defScope (top 57), [], []⟩
def d58 : He.DefD := ⟨("_law_hands", none), "_law_hands", "_law_hands", defArgs (top 58), defBody (top 58), defScope (top 58), [], []⟩
def d59 : He.DefD := ⟨("_law_word", none), "_law_word", "_law_word", defArgs (top 59), defBody (top 59), defScope (top 59), [], []⟩
def d60 : He.DefD := ⟨("_law_is_int", none), "_law_is_int", "_law_is_int", defArgs (top 60), defBody (top 60), defScope (top 60), [], []⟩
def d61 : He.DefD := ⟨("_law_order", none), "_law_order", "_law_order", defArgs (top 61), defBody (top 61), defScope (top 61), [], []⟩
def d62 : He.DefD := ⟨("_law_row", none), "_law_row", "_law_row", defArgs (top 62), defBody (top 62), defScope (top 62), [], []⟩
def d63 : He.DefD := ⟨("_law_value", none), "_law_value", "_law_value", defArgs (top 63), defBody (top 63), defScope (top 63), [], []⟩
def d64 : He.DefD := ⟨("_law_up", none), "_law_up", "_law_up", defArgs (top 64), defBody (top 64), defScope (top 64), [], []⟩
def d65 : He.DefD := ⟨("_law_levels", none), "_law_levels", "_law_levels", defArgs (top 65), defBody (top 65), defScope (top 65), [], []⟩
def d66 : He.DefD := ⟨("_law_steady", none), "_law_steady", "_law_steady", defArgs (top 66), defBody (top 66), defScope (top 66), [], []⟩
def d67 : He.DefD := ⟨("_law_broken", none), "_law_broken", "_law_broken", defArgs (top 67), defBody (top 67), defScope (top 67), [], []⟩
def d68 : He.DefD := ⟨("_law_make", none), "_law_make", "_law_make", defArgs (top 68), defBody (top 68), defScope (top 68), [], []⟩
def d69 : He.DefD := ⟨("_law_created", none), "_law_created", "_law_created", defArgs (top 69), defBody (top 69), defScope (top 69), [], []⟩
def d70 : He.DefD := ⟨("_law_foe", none), "_law_foe", "_law_foe", defArgs (top 70), defBody (top 70), defScope (top 70), [], []⟩
def d71 : He.DefD := ⟨("_law_shorter", none), "_law_shorter", "_law_shorter", defArgs (top 71), defBody (top 71), defScope (top 71), [], []⟩
def d72 : He.DefD := ⟨("_law_due_lay", none), "_law_due_lay", "_law_due_lay", defArgs (top 72), defBody (top 72), defScope (top 72), [], []⟩
def d73 : He.DefD := ⟨("_law_due_answer", none), "_law_due_answer", "_law_due_answer", defArgs (top 73), defBody (top 73), defScope (top 73), [], []⟩
def d74 : He.DefD := ⟨("_law_round", none), "_law_round", "_law_round", defArgs (top 74), defBody (top 74), defScope (top 74), [], []⟩
def d75 : He.DefD := ⟨("_law_call", none), "_law_call", "_law_call", defArgs (top 75), defBody (top 75), defScope (top 75), [], []⟩
def d76 : He.DefD := ⟨("_law_try", none), "_law_try", "_law_try", defArgs (top 76), defBody (top 76), defScope (top 76), [], []⟩
def d77 : He.DefD := ⟨("_law_refused", none), "_law_refused", "_law_refused", defArgs (top 77), defBody (top 77), defScope (top 77), [], []⟩
def d78 : He.DefD := ⟨("_law_shown", none), "_law_shown", "_law_shown", defArgs (top 78), defBody (top 78), defScope (top 78), [], []⟩
def d79 : He.DefD := ⟨("_law_flat", none), "_law_flat", "_law_flat", defArgs (top 79), defBody (top 79), defScope (top 79), [], []⟩
def d80 : He.DefD := ⟨("_law_all_answers", none), "_law_all_answers", "_law_all_answers", defArgs (top 80), defBody (top 80), defScope (top 80), [], []⟩
def d81 : He.DefD := ⟨("law", none), "law", "law", defArgs (top 81), defBody (top 81), defScope (top 81), [], []⟩
def d45x0 : He.DefD := ⟨("OpenHands", some "__init__"), "__init__", "OpenHands.__init__", defArgs (meth 45 0), defBody (meth 45 0), defScope (meth 45 0), [], []⟩
def d45x1 : He.DefD := ⟨("OpenHands", some "numbers"), "numbers", "OpenHands.numbers", defArgs (meth 45 1), defBody (meth 45 1), defScope (meth 45 1), [], []⟩
def d45x2 : He.DefD := ⟨("OpenHands", some "spot"), "spot", "OpenHands.spot", defArgs (meth 45 2), defBody (meth 45 2), defScope (meth 45 2), [], []⟩
def d45x3 : He.DefD := ⟨("OpenHands", some "indexes"), "indexes", "OpenHands.indexes", defArgs (meth 45 3), defBody (meth 45 3), defScope (meth 45 3), [], []⟩
def d45x4 : He.DefD := ⟨("OpenHands", some "remove_pair"), "remove_pair", "OpenHands.remove_pair", defArgs (meth 45 4), defBody (meth 45 4), defScope (meth 45 4), [], []⟩
def d53x0 : He.DefD := ⟨("ExactGuide", some "__init__"), "__init__", "ExactGuide.__init__", defArgs (meth 53 0), defBody (meth 53 0), defScope (meth 53 0), [], []⟩
def d53x1 : He.DefD := ⟨("ExactGuide", some "lay"), "lay", "ExactGuide.lay", defArgs (meth 53 1), defBody (meth 53 1), defScope (meth 53 1), [], []⟩
def d53x2 : He.DefD := ⟨("ExactGuide", some "answer"), "answer", "ExactGuide.answer", defArgs (meth 53 2), defBody (meth 53 2), defScope (meth 53 2), [], []⟩
def d53x3 : He.DefD := ⟨("ExactGuide", some "saw"), "saw", "ExactGuide.saw", defArgs (meth 53 3), defBody (meth 53 3), defScope (meth 53 3), [], []⟩
def hdD0 : List He.DefD := [d17, d18, d19, d20, d21, d22, d23, d26, d27, d28, d29, d30, d31, d33, d34, d36, d38, d39, d40, d42, d43, d47, d48, d49, d51, d52, d55, d56, d57, d58]
def hdD1 : List He.DefD := [d59, d60, d61, d62, d63, d64, d65, d66, d67, d68, d69, d70, d71, d72, d73, d74, d75, d76, d77, d78, d79, d80, d81, d45x0, d45x1, d45x2, d45x3, d45x4, d53x0, d53x1]
def hdD2 : List He.DefD := [d53x2, d53x3]
def hdD : List He.DefD := hdD0 ++ hdD1 ++ hdD2
def hdG0 : List Str := ["check_hands", "check_card", "check_letters", "check_word", "chosen", "without", "lays_before_last", "wins", "hand_of", "deck", "around", "next_up", "next_down", "check_pair", "taken_out", "heights", "side_levels", "row_of", "row_after", "entry_value", "value", "exact_range", "unsteady_position", "can_force", "exact_lay", "exact_answer", "_law_cell", "_law_draws", "_law_hand", "_law_hands"]
def hdG1 : List Str := ["_law_word", "_law_is_int", "_law_order", "_law_row", "_law_value", "_law_up", "_law_levels", "_law_steady", "_law_broken", "_law_make", "_law_created", "_law_foe", "_law_shorter", "_law_due_lay", "_law_due_answer", "_law_round", "_law_call", "_law_try", "_law_refused", "_law_shown", "_law_flat", "_law_all_answers", "law", "ClimbrowError", "BadHands", "BadWord", "Unsteady", "BadCard", "BadPairing", "BadPlace"]
def hdG2 : List Str := ["OutOfTurn", "Unreachable", "Contradiction", "BadBounds", "BadSchedule", "BadText", "UnknownName", "DuplicateName", "OpenHands", "ExactGuide"]
def hdG : List Str := hdG0 ++ hdG1 ++ hdG2
def hdF : List Str := ["len", "range", "sorted", "abs", "int", "max", "min", "list", "isinstance", "all", "enumerate", "str", "bool", "ValueError", "super"]
def hdFa : List He.Fa := [.glo "SIDES", .cls "OpenHands", .cls "ExactGuide", .mkr "OpenHands", .mkr "ExactGuide", .noat "OpenHands" "mine", .noat "OpenHands" "theirs", .noat "OpenHands" "my_left", .noat "OpenHands" "their_left", .noat "ExactGuide" "needed", .noat "ExactGuide" "word", .noat "ExactGuide" "hands", .meth "OpenHands" "__init__", .meth "OpenHands" "numbers", .meth "OpenHands" "spot", .meth "OpenHands" "indexes", .meth "OpenHands" "remove_pair", .meth "ExactGuide" "__init__", .meth "ExactGuide" "lay", .meth "ExactGuide" "answer", .meth "ExactGuide" "saw", .exc "OutOfTurn", .exm "BadHands" "ClimbrowError" true, .exm "BadWord" "ClimbrowError" true, .exm "Unsteady" "ClimbrowError" true, .exm "BadCard" "ClimbrowError" true, .exm "OutOfTurn" "ClimbrowError" true, .exm "Unreachable" "ClimbrowError" true] ++ (hdG.map He.Fa.glo ++ hdF.map He.Fa.free)
/-- own exceptions with their own __init__ -/
def hdX : List (Str × Stmt × List Str) := [("BadHands", iH, ["mine_count", "theirs_count"]), ("BadWord", iW, ["position"]), ("Unsteady", iU, ["position"]), ("BadCard", iC, ["side", "index"]), ("Unreachable", iR, ["wanted", "lowest", "highest"])]
abbrev FnQ : Type := Option (Str × Str × Arguments × FuncBody × Scope × Addr × List Str × Addr)
def inA (K : PySem.W.Frag) (x : Str) : Addr := He.ma K (He.ga K x) "__init__"
def fnQ (K : PySem.W.Frag) (x : Str) : FnQ := match K.lookup (inA K x) with
  | some ⟨_, _, .func fd, _⟩ => some (fd.name, fd.qualname, fd.params, fd.body, fd.scope, fd.globals, fd.closure.map (·.1), fd.builtins)
  | _ => none
def fnQV (q : Str × Stmt × List Str) : FnQ := some ("__init__", q.1 ++ ".__init__", defArgs q.2.1, .stmts (defBody q.2.1), defScope q.2.1, mainGlobals, ["__class__"], builtinsNs)
def codeB (K : PySem.W.Frag) (cd : Value) (q : Str) : Bool := match cd with
  | .ref c => PySem.W.codeIn K (.ref c) q && (match K.lookup c with
    | some ⟨_, _, .fields vs, _⟩ => (match vs[2]? with
      | some (Value.str file _) => (PySem.Challenge.pw_climbrow_k43_whole_exact_guide.main.file : Str) == file
      | _ => false)
    | _ => false)
  | _ => false
def cellB (K : PySem.W.Frag) (cl : List (Str × Addr)) (D : Addr) : Bool := match cl with
  | [(_, cc)] => (match K.lookup cc with
    | some ⟨_, _, .cell (some (.ref E)), _⟩ => E == D
    | _ => false)
  | _ => false
def noneB : Value → Bool
  | .none => true
  | _ => false
def fntB (K : PySem.W.Frag) (D fI : Addr) (q : Str) : Bool := match K.lookup fI with
  | some ⟨_, _, .func fd, _⟩ => noneB fd.defaults && (codeB K fd.code q && cellB K fd.closure D)
  | _ => false
def objB (K : PySem.W.Frag) (C : Addr) (ns : List Str) : Bool := PySem.W.excInitIn K C Sx.VeT "ValueError.__new__" && ((PySem.W.clsIn K C).any (fun cd => PySem.HandSPX.refsVE cd.mro && cd.hasDict) && (He.eqO (PySem.W.findIn K (.ref C) "__setattr__") (some (some (.builtin "object.__setattr__"))) &&
  (ns.all (fun f => He.eqO (PySem.W.findIn K (.ref C) f) (some none)) && (He.eqO (PySem.W.nsIn K cStatics "thirdparty.any") (some none) && decide (PySem.W.subIn K (.ref C) (.type "ValueError") = some true)))))
def initB (K : PySem.W.Frag) (q : Str × Stmt × List Str) : Bool := PySem.W.keepIn K (.ref (He.ga K q.1)) && (decide (PySem.W.subIn K (.ref (He.ga K q.1)) (.type "BaseException") = some true) && (decide (PySem.W.typeIn K (.ref (He.ga K q.1)) = some (.type "type")) && (objB K (He.ga K q.1) q.2.2 &&
  (He.eqO (PySem.W.findIn K (.ref (He.ga K q.1)) "__init__") (some (some (.ref (inA K q.1)))) && (decide (PySem.W.typeIn K (.ref (inA K q.1)) = some (.type "function")) && (PySem.W.fnIn K (inA K q.1) && (fntB K (He.ga K q.1) (inA K q.1) (q.1 ++ ".__init__") && decide (PySem.W.mroIn K (He.ga K q.1) (.ref (He.ga K q.1)) = some true))))))))
def supB (K : PySem.W.Frag) (x y : Str) (v : Value) : Bool := decide (PySem.W.ks_superIn K (He.ga K x) (He.ga K y) "__init__" = some (some v))
abbrev hdN : List Str := ["ClimbrowError", "BadHands", "BadWord", "Unsteady", "BadCard", "BadPairing", "BadPlace", "OutOfTurn", "Unreachable", "Contradiction", "BadBounds", "BadSchedule", "BadText", "UnknownName", "DuplicateName"]
abbrev hdS : List Str := ["BadHands", "BadWord", "Unsteady", "BadCard", "OutOfTurn", "Unreachable"]
def hdSub (x y : Str) : Bool := x == y || y == "ClimbrowError" || (x == "Unsteady" && y == "BadWord")
def hdP : List (Str × Str) := [("BadHands", "mine_count"), ("BadHands", "theirs_count"), ("BadWord", "position"), ("Unsteady", "position"), ("BadCard", "side"), ("BadCard", "index"), ("Unreachable", "wanted"), ("Unreachable", "lowest"), ("Unreachable", "highest")]
def excB (K : PySem.W.Frag) (D : Addr) : Bool := xfB K D && (decide (PySem.W.findIn K (.ref D) "__class__" = some (some (.builtin "object.__class__"))) && (decide (PySem.W.specialIn K (.builtin "object.__class__") "__get__" = some (some (.builtin "getset_descriptor.__get__"))) && (decide (PySem.W.takesIn K (.builtin "object.__class__") = some true) && decide (PySem.W.mroIn K D (.type "object") = some true))))
def exB (K : PySem.W.Frag) : Bool := hdX.all (initB K) && (supB K "BadHands" "BadHands" (.builtin "ValueError.__init__") && (supB K "BadWord" "BadWord" (.builtin "ValueError.__init__") && (supB K "BadCard" "BadCard" (.builtin "ValueError.__init__") && (supB K "Unreachable" "Unreachable" (.builtin "ValueError.__init__") &&
  (supB K "Unsteady" "Unsteady" (.ref (inA K "BadWord")) && (supB K "Unsteady" "BadWord" (.builtin "ValueError.__init__") && (decide (PySem.W.mroIn K (He.ga K "Unsteady") (.ref (He.ga K "BadWord")) = some true) && (hdS.all (fun x => excB K (He.ga K x)) && (hdS.all (fun x => decide (PySem.W.exmOne K (.ref (He.ga K x)) (.ref (He.ga K "ClimbrowError")) = some true)) &&
  (hdS.all (fun x => hdN.all fun y => decide (PySem.W.kitOne K (.ref (He.ga K x)) (.ref (He.ga K y)) = some (hdSub x y))) && (hdS.all (fun x => decide (PySem.W.kitOne K (.ref (He.ga K x)) (.type "ValueError") = some true)) && (hdP.all (fun p => decide (PySem.W.findIn K (.ref (He.ga K p.1)) p.2 = some none)) && He.tupB K "SIDES" [.str "theirs", .str "mine"]))))))))))))
abbrev AlK : Type := He.AlD × Bool × List FnQ
def obK (K : PySem.W.Frag) : AlK := (He.obsD hdFa hdD K, exB K, hdX.map fun q => fnQ K q.1)
def vaK : AlK := (He.valD hdD, true, hdX.map fnQV)
def adr0 : List Addr := [2, 3, 6, 4, 24, 46, 67, 88, 109, 130, 151, 163, 184, 196, 217, 238, 259, 280, 301, 310, 317, 324, 331, 336, 343, 350, 351, 358, 365, 370, 376, 383, 390, 397, 404, 411, 418, 425, 430, 437, 445, 490, 501, 508, 515, 520, 527, 565, 576, 583]
def adr1 : List Addr := [588, 593, 598, 605, 610, 617, 622, 627, 632, 637, 644, 649, 656, 661, 668, 673, 680, 685, 692, 699, 704, 711, 716, 721, 726, 0, 23, 45, 66, 87, 108, 129, 150, 162, 183, 195, 216, 237, 258, 279, 300, 309, 316, 323, 330, 335, 342, 349, 357, 364]
def adr2 : List Addr := [369, 375, 371, 382, 389, 396, 403, 410, 417, 424, 429, 436, 444, 438, 489, 500, 507, 514, 519, 526, 564, 575, 582, 587, 592, 597, 604, 609, 616, 621, 626, 631, 636, 643, 648, 655, 660, 667, 672, 679, 684, 691, 698, 703, 710, 715, 720, 725, 22, 25]
def adr3 : List Addr := [43, 44, 64, 65, 85, 86, 106, 107, 127, 128, 148, 149, 161, 181, 182, 194, 214, 215, 235, 236, 256, 257, 277, 278, 298, 299, 304, 305, 306, 307, 308, 311, 312, 313, 314, 315, 318, 319, 320, 321, 322, 325, 326, 327, 328, 329, 332, 333, 334, 337]
def adr4 : List Addr := [338, 339, 340, 341, 344, 345, 346, 347, 348, 352, 353, 354, 355, 356, 359, 360, 361, 362, 363, 366, 367, 368, 372, 373, 374, 377, 378, 379, 380, 381, 384, 385, 386, 387, 388, 391, 392, 393, 394, 395, 398, 399, 400, 401, 402, 405, 406, 407, 408, 409]
def adr5 : List Addr := [412, 413, 414, 415, 416, 419, 420, 421, 422, 423, 426, 427, 428, 431, 432, 433, 434, 435, 439, 440, 441, 442, 443, 459, 466, 473, 480, 487, 488, 491, 492, 495, 496, 497, 498, 499, 502, 503, 504, 505, 506, 509, 510, 511, 512, 513, 516, 517, 518, 521]
def adr6 : List Addr := [522, 523, 524, 525, 541, 548, 555, 562, 563, 566, 567, 570, 571, 572, 573, 574, 577, 578, 579, 580, 581, 584, 585, 586, 589, 590, 591, 594, 595, 596, 599, 600, 601, 602, 603, 606, 607, 608, 611, 612, 613, 614, 615, 618, 619, 620, 623, 624, 625, 628]
def adr7 : List Addr := [629, 630, 633, 634, 635, 638, 639, 640, 641, 642, 645, 646, 647, 650, 651, 652, 653, 654, 657, 658, 659, 662, 663, 664, 665, 666, 669, 670, 671, 674, 675, 676, 677, 678, 681, 682, 683, 686, 687, 688, 689, 690, 693, 694, 695, 696, 697, 700, 701, 702]
def adr8 : List Addr := [705, 706, 707, 708, 709, 712, 713, 714, 717, 718, 719, 722, 723, 724, 42, 31, 63, 52, 84, 73, 105, 94, 126, 115, 147, 136, 180, 169, 213, 202, 234, 223, 255, 244, 276, 265, 297, 286, 458, 465, 472, 479, 486, 540, 547, 554, 561, 37, 38, 39]
def adr9 : List Addr := [40, 41, 58, 59, 60, 61, 62, 79, 80, 81, 82, 83, 100, 101, 102, 103, 104, 121, 122, 123, 124, 125, 142, 143, 144, 145, 146, 175, 176, 177, 178, 179, 208, 209, 210, 211, 212, 229, 230, 231, 232, 233, 250, 251, 252, 253, 254, 271, 272, 273]
def adr10 : List Addr := [274, 275, 292, 293, 294, 295, 296, 453, 454, 455, 456, 457, 460, 461, 462, 463, 464, 467, 468, 469, 470, 471, 474, 475, 476, 477, 478, 481, 482, 483, 484, 485, 535, 536, 537, 538, 539, 542, 543, 544, 545, 546, 549, 550, 551, 552, 553, 556, 557, 558]
def adr11 : List Addr := [559, 560]
/-- the objects of the text, by address: what the module's names reach -/
def asK : List Addr := adr0 ++ (adr1 ++ (adr2 ++ (adr3 ++ (adr4 ++ (adr5 ++ (adr6 ++ (adr7 ++ (adr8 ++ (adr9 ++ (adr10 ++ (adr11)))))))))))
def SaysK (K : PySem.W.Frag) : Prop := obK K = vaK
def hk : PySem.W.Hook where
  α := AlK
  obs := fun s => obK (He.frG s.heap.get? asK)
  val := fun _ => vaK
  says := fun _ h => ∃ K : PySem.W.Frag, K.In h ∧ SaysK K
  of := fun _ _ e => ⟨_, He.frG_in, e⟩
  keeps := fun _ _ _ ⟨K, hK, c⟩ k => ⟨K, PySem.W.Frag.In.keeps hK k, c⟩
def obT (s : PySem.W.SharedT) : AlK := obK (He.frG (HandSHeadRun.getT s) asK)
theorem obT_eq (s : PySem.W.SharedT) : obT s = hk.obs s.abs := by
  have e : HandSHeadRun.getT s = s.abs.heap.get? := funext fun a => HandSHeadRun.getT_eq s a
  unfold obT
  rw [e]
  rfl
end K43
namespace K43
open PySem PySem.Spec PyProof.Rows L2
abbrev R0 : PySem.W.OpenRow := PySem.W.OpenLaw.row PySem.Challenge.rw_climbrow_k43_whole_exact_guide
def hdL : List PySem.Str := (("SIDES" : Str) :: hdG).filter fun x : Str => !(x == ("law" : Str))
theorem run (w : World) : HandSHeadRun.RunEq R0 (PySem.W.view R0.prog [81]) hk obT 60000 hdL w := by
  intro os
  kernel_rfl
end K43
set_option maxHeartbeats 4000000
namespace K43
open PySem PySem.Spec PyProof.Rows L2
/-! ### more words -/
/-- lists of indexes -/
def dX (l : List Nat) : List PyData := l.map fun i : Nat => PyData.int (i : Int)
theorem dX_dI (l : List Nat) : dX l = dI (l.map fun i : Nat => (i : Int)) := by
  unfold dX dI
  rw [List.map_map]
  rfl
theorem filt_true {α : Type} (l : List α) : l.filter (fun _ => true) = l := by simp
theorem VI.is {X : Cx} {Φ : As} {ρ : List Sl} {tg it : Expr} {ds ds' : List PyData} (h : VI X Φ ρ tg it ds) (e : ds = ds') : VI X Φ ρ tg it ds' := e ▸ h
theorem Rt.is {G H : Hp} {Q : VK} {d d' : PyData} (h : Rt G H Q d) (e : d = d') : Rt G H Q d' := e ▸ h
theorem cut_all {α : Type} (l : List α) (n : Nat) : cutD l none (some (n : Int)) = l.take n := by
  unfold cutD
  rw [HT.sIx_nat, HT.sIx_none, List.drop_zero, Nat.sub_zero]
  by_cases h : n ≤ l.length
  · rw [Nat.min_eq_left h]
  · rw [Nat.min_eq_right (by omega), List.take_length, List.take_of_length_le (by omega)]
theorem cut_from {α : Type} (l : List α) (n : Nat) : cutD l (some (n : Int)) none = l.drop n := by
  unfold cutD
  rw [HT.sIx_nat, HT.sIx_none]
  by_cases h : n ≤ l.length
  · rw [Nat.min_eq_left h, List.take_of_length_le (by rw [List.length_drop]; exact Nat.le_refl _)]
  · rw [Nat.min_eq_right (by omega), Nat.sub_self, List.take_zero, List.drop_eq_nil_of_le (by omega)]
theorem cut_last {α : Type} (l : List α) : cutD l none (some (-1)) = l.dropLast := by
  unfold cutD
  rw [HT.sIx_none, List.drop_zero, Nat.sub_zero, List.dropLast_eq_take]
  congr 1
  show (if (-1 : Int) < 0 then ((-1 : Int) + (l.length : Int)).toNat else min (-1 : Int).toNat l.length) = _
  rw [if_pos (by decide)]
  omega
/-! ### chosen -/
abbrev s21 : Stmt := top 21
def F21 : FR := fun ss _ o => ∃ (h : List Int) (ix : List Nat), ss = [.d (dL h), .d (.list (dX ix))] ∧ (∀ i ∈ ix, i < h.length) ∧ h.length ≤ 1000 ∧ ix.length ≤ 1000 ∧ o = .val (dL (ix.map fun i => h.getD i 0))
theorem S21 : FnScope ["hand", "indexes", "index"] ["hand", "indexes"] (defScope s21) := ⟨rfl, rfl, rfl, by decide +kernel, rfl, by decide +kernel, by decide +kernel⟩
theorem b21 {W : Wd} : Body W 0 ["hand", "indexes", "index"] "chosen" s21 2 F21 := by
  intro f cdv A outer s H G Q E ss Φ o hr hF hO
  obtain ⟨h, ix, rfl, h1, h2, h3, rfl⟩ := hF
  refine vb_ret ((vn_lc (α := Nat) (xs := ix) (enc := fun i => .int (i : Int)) (k := fun _ => true) (f := fun i => .int (h.getD i 0)) (is := [2]) (st := fun i ρ => ρ.set 2 (.d (.int (i : Int)))) [("index", 2)] rfl S21.nd (vi_list (v_name 1 rfl)) (by omega)
    (fun i _ s H C cl fp => vg_name 2 S21.nd) (fun i _ s H C cl fp => vts_nil) (fun i hi _ s H C cl fp => v_ixL (v_name 0 rfl) (v_name 2 rfl) (atI_dI (h1 i hi)))).ve) (Rt.is hO ?_)
  rw [filt_true]
  unfold dL dI
  rw [List.map_map]
  rfl
theorem fn21 {W : Wd} {f : Addr} {fd : FuncData} (D : FunP W "chosen" s21 [] f fd) (hm : W.mg "chosen" = some (.ref f)) : Fn W "chosen" 1 ["hand", "indexes"] [] F21 :=
  fn_mk D hm S21 b21 fun _ _ _ _ _ _ us hl => match us, hl with | [_, _], _ => rfl
/-! ### without -/
abbrev s22 : Stmt := top 22
def F22 : FR := fun ss _ o => ∃ (l : List Int) (v : Int), ss = [.d (dL l), .d (.int v)] ∧ l.length ≤ 1000 ∧ o = .val (dL (l.erase v))
theorem S22 : FnScope ["values", "value", "kept", "found", "entry"] ["values", "value"] (defScope s22) := ⟨rfl, rfl, rfl, by decide +kernel, rfl, by decide +kernel, by decide +kernel⟩
theorem take_snoc {α : Type} {l : List α} {i : Nat} {x : α} (h : l[i]? = some x) : l.take (i + 1) = l.take i ++ [x] := by rw [List.take_succ, h]; rfl
theorem dI_at {l : List Int} {i : Nat} {d : PyData} (h : (dI l)[i]? = some d) : ∃ x, l[i]? = some x ∧ d = .int x := by
  unfold dI at h
  rw [List.getElem?_map] at h
  cases e : l[i]? with
  | none =>
    rw [e] at h
    cases h
  | some x =>
    rw [e] at h
    exact ⟨x, rfl, (Option.some.inj h).symm⟩
theorem dI_snoc (l : List Int) (x : Int) : dI l ++ [.int x] = dI (l ++ [x]) := by simp [dI]
theorem b22 {W : Wd} : Body W 0 ["values", "value", "kept", "found", "entry"] "without" s22 2 F22 := by
  intro f cdv A outer s H G Q E ss Φ o hr hF hO
  obtain ⟨l, v, rfl, h1, rfl⟩ := hF
  refine VB.weak (Φ' := As.top) ?_ (SLe.refl _) fun _ _ _ => True.intro
  refine vb_new 2 (vn_lst (ds := []) va_nil) S22.nd fun k hk => ?_
  refine vb_set 3 v_bool S22.nd ?_
  refine vb_for (ds := dI l) (is := [4]) (f := fun d ρ => ρ.set 4 (.d d)) (fun i => [.d (dL l), .d (.int v), .v (.ref k), .d (.bool (decide (v ∈ l.take i))), .no]) (fun i => As.and (As.lst k (dI ((l.take i).erase v))) As.top) ownF rfl (vi_list (v_name 0 rfl)) (fun d _ => vg_name 4 S22.nd)
    ⟨.inr rfl, .inr rfl, .inr rfl, .inr (by simp), .inl rfl, True.intro⟩ (fun G H h => h) (fun Gm' _ i d hd => ?_) ?_
  · obtain ⟨x, hx, rfl⟩ := dI_at hd
    have ht := take_snoc hx
    refine vb_if (vw_and (vt_eqI (v_name 4 rfl) (v_name 1 rfl)) (fun _ => vw_and1 (vt_not (vt_val (v_name 3 rfl))))).vt (fun hc => ?_) (fun hc => ?_)
    · rw [Bool.and_eq_true, decide_eq_true_eq, Bool.not_eq_true', decide_eq_false_iff_not] at hc
      refine vb_set 3 v_bool S22.nd (vb_fall (vb_nx rfl ⟨.inr rfl, .inr rfl, .inr rfl, .inr ?_, .inl rfl, True.intro⟩ ?_))
      · rw [ht, decide_eq_true (by rw [← hc.1]; simp)]
      · have e : (l.take (i + 1)).erase v = (l.take i).erase v := by
          rw [ht, List.erase_append_right _ hc.2, hc.1]
          simp [List.erase_of_not_mem hc.2]
        rw [e]
        exact fun _ _ h => h
    · refine vb_app 2 rfl (v_name 4 rfl) hk ?_ stp_top (vb_fall (vb_nx rfl ⟨.inr rfl, .inr rfl, .inr rfl, .inr ?_, .inl rfl, True.intro⟩ ?_))
      · rw [dI_len]
        have := List.length_erase_le (a := v) (l := l.take i)
        rw [List.length_take] at this
        omega
      · rw [Bool.and_eq_false_iff, decide_eq_false_iff_not, Bool.not_eq_false', decide_eq_true_eq] at hc
        congr 2
        rw [ht, decide_eq_decide, List.mem_append, List.mem_singleton]
        constructor
        · rintro (h | h)
          · exact h
          · rcases hc with h2 | h2
            · exact absurd h.symm h2
            · exact h2
        · exact .inl
      · rw [dI_snoc]
        have e : (l.take (i + 1)).erase v = (l.take i).erase v ++ [x] := by
          rw [Bool.and_eq_false_iff, decide_eq_false_iff_not, Bool.not_eq_false', decide_eq_true_eq] at hc
          rw [ht]
          by_cases hm : v ∈ l.take i
          · rw [List.erase_append_left _ hm]
          · rw [List.erase_append_right _ hm, List.erase_of_not_mem hm]
            have hx2 : ¬ x = v := hc.resolve_right hm
            simp [List.erase_cons, hx2]
        rw [e]
        exact fun _ _ h => h
  · rw [dI_len, List.take_length]
    exact vb_still 2 hk rfl stf_top (vb_ret (v_name 2 rfl) hO)
theorem fn22 {W : Wd} {f : Addr} {fd : FuncData} (D : FunP W "without" s22 [] f fd) (hm : W.mg "without" = some (.ref f)) : Fn W "without" 1 ["values", "value"] [] F22 :=
  fn_mk D hm S22 b22 fun _ _ _ _ _ _ us hl => match us, hl with | [_, _], _ => rfl
/-! ### lays_before_last -/
abbrev s23 : Stmt := top 23
def F23 : FR := fun ss _ o => ∃ z : List Nat, ss = [.d (.str ⟨z.toArray⟩)] ∧ z.length ≤ 1000 ∧ o = .val (.tuple [.int (z.dropLast.count 77), .int (z.dropLast.count 84)])
theorem S23 : FnScope ["word", "early"] ["word"] (defScope s23) := ⟨rfl, rfl, rfl, by decide +kernel, rfl, by decide +kernel, by decide +kernel⟩
theorem b23 {W : Wd} : Body W 0 ["word", "early"] "lays_before_last" s23 1 F23 := by
  intro f cdv A outer s H G Q E ss Φ o hr hF hO
  obtain ⟨z, rfl, h1, rfl⟩ := hF
  refine vb_set 1 ((v_slS (v_name 0 rfl) vo_none (vo_some (v_neg v_int)) (by omega)).is (by rw [cut_last])) S23.nd ?_
  exact vb_ret (v_tup (ds := [_, _]) (va_d (v_count (v_name 1 rfl) v_strC) (va_d (v_count (v_name 1 rfl) v_strC) va_nil))) hO
theorem fn23 {W : Wd} {f : Addr} {fd : FuncData} (D : FunP W "lays_before_last" s23 [] f fd) (hm : W.mg "lays_before_last" = some (.ref f)) : Fn W "lays_before_last" 1 ["word"] [] F23 :=
  fn_mk D hm S23 b23 fun _ _ _ _ _ _ us hl => match us, hl with | [_], _ => rfl
/-! ### wins, hand_of -/
abbrev s26 : Stmt := top 26
def F26 : FR := fun ss _ o => ∃ m t : Int, ss = [.d (.int m), .d (.int t)] ∧ o = .val (.bool (decide (t ≤ m)))
theorem S26 : FnScope ["my_number", "their_number"] ["my_number", "their_number"] (defScope s26) := ⟨rfl, rfl, rfl, by decide +kernel, rfl, by decide +kernel, by decide +kernel⟩
theorem b26 {W : Wd} : Body W 0 ["my_number", "their_number"] "wins" s26 2 F26 := by
  intro f cdv A outer s H G Q E ss Φ o hr hF hO
  obtain ⟨m, t, rfl, rfl⟩ := hF
  exact vb_ret (v_ge (v_name 0 rfl) (v_name 1 rfl)) hO
theorem fn26 {W : Wd} {f : Addr} {fd : FuncData} (D : FunP W "wins" s26 [] f fd) (hm : W.mg "wins" = some (.ref f)) : Fn W "wins" 1 ["my_number", "their_number"] [] F26 :=
  fn_mk D hm S26 b26 fun _ _ _ _ _ _ us hl => match us, hl with | [_, _], _ => rfl
abbrev s27 : Stmt := top 27
def F27 : FR := fun ss _ o => ∃ (m t : PyData) (c : Bool), ss = [.d m, .d t, .d (.str (sideS c))] ∧ o = .val (if c then m else t)
theorem S27 : FnScope ["mine", "theirs", "side"] ["mine", "theirs", "side"] (defScope s27) := ⟨rfl, rfl, rfl, by decide +kernel, rfl, by decide +kernel, by decide +kernel⟩
theorem b27 {W : Wd} : Body W 0 ["mine", "theirs", "side"] "hand_of" s27 3 F27 := by
  intro f cdv A outer s H G Q E ss Φ o hr hF hO
  obtain ⟨m, t, c, rfl, rfl⟩ := hF
  refine vb_if1 ((vt_eqS (v_name 2 rfl) v_str).is (side_mine c)) (fun hc => ?_) (fun hc => ?_)
  · subst hc
    exact vb_ret (v_name 0 rfl) hO
  · subst hc
    exact vb_ret (v_name 1 rfl) hO
theorem fn27 {W : Wd} {f : Addr} {fd : FuncData} (D : FunP W "hand_of" s27 [] f fd) (hm : W.mg "hand_of" = some (.ref f)) : Fn W "hand_of" 1 ["mine", "theirs", "side"] [] F27 :=
  fn_mk D hm S27 b27 fun _ _ _ _ _ _ us hl => match us, hl with | [_, _, _], _ => rfl
end K43
namespace K43
open PySem PySem.Spec PyProof.Rows L2
/-! ### SIDES -/
structure Sd (W : Wd) : Prop where
  ex : ∃ a o its n, W.mg "SIDES" = some (.ref a) ∧ W.K.lookup a = some o ∧ o.cls = .type "tuple" ∧ o.data = .seq its n ∧ its.size ≤ sizeLine ∧ Vals [.str (sideS false), .str (sideS true)] its.toList
theorem v_sides {W : Wd} {X : Cx} {Φ : As} {ρ : List Sl} {b : Expr} {pos p : Pos} {c : Bool} (S : Sd W) (hW : InW W X) (hb : VE X Φ ρ b (.int (b01 c))) (hg : Gl X "SIDES" := by rfl) (hp : PlainIx b := by exact fun _ _ => rfl) : VE X Φ ρ (.Subscript (.Name "SIDES" p) b pos) (.str (sideS c)) := fun σ G H s r f Q q => by
  obtain ⟨h1, h2, h3, h4, h5⟩ := hW
  obtain ⟨a, o, its, n, m, lk, hc, hd, hz, hv⟩ := S.ex
  obtain ⟨WP, Ww, WK, Wm, Wb⟩ := W
  subst h1 h2 h3 h4 h5
  refine we_of (pe_ix ix_tup (pe_glob (v := .ref a) hg m rfl) we hp) (hb σ G H s r f _ fun w G1 H1 e1 r1 => ?_)
  cases r1
  refine ⟨a, _, b01 c, .str (sideS c), rfl, rfl, Or.inr ⟨o, its, n, lk, hc, hd, hz, hv⟩, ?_, q _ G1 H1 e1 (.str _)⟩
  cases c <;> rfl
/-! ### deck -/
abbrev s28 : Stmt := top 28
def dN (c : Nm) : PyData := .tuple [.str (sideS c.1), .int (c.2 : Int)]
def F28 : FR := fun ss _ o => ∃ mine theirs : List Int, ss = [.d (dL mine), .d (dL theirs)] ∧ mine.length ≤ 1000 ∧ theirs.length ≤ 1000 ∧ o = .val (.list ((dk mine theirs).map dN))
theorem S28 : FnScope ["mine", "theirs", "cards", "index", "card"] ["mine", "theirs"] (defScope s28) := ⟨rfl, rfl, rfl, by decide +kernel, rfl, by decide +kernel, by decide +kernel⟩
theorem side_range (o : Bool) (l : List Int) : side o l 0 = (List.range l.length).map fun i => (l.getD i 0, o, i) := by
  refine List.ext_getElem? fun i => ?_
  unfold side
  rw [List.getElem?_map, List.getElem?_zipIdx, List.getElem?_map]
  by_cases h : i < l.length
  · rw [List.getElem?_range h, List.getElem?_eq_getElem h]
    show some (l[i], o, 0 + i) = some (l.getD i 0, o, i)
    rw [List.getD_eq_getElem?_getD, List.getElem?_eq_getElem h, Nat.zero_add]
    rfl
  · rw [List.getElem?_eq_none (by omega), List.getElem?_eq_none (by rw [List.length_range]; omega)]
    rfl
theorem b28 {W : Wd} (B : Bl W.mg) (S : Sd W) : Body W 4 ["mine", "theirs", "cards", "index", "card"] "deck" s28 2 F28 := by
  intro f cdv A outer s H G Q E ss Φ o hr hF hO
  obtain ⟨mine, theirs, rfl, h1, h2, rfl⟩ := hF
  refine VB.weak (Φ' := As.top) ?_ (SLe.refl _) fun _ _ _ => True.intro
  refine vb_newLc (α := Nat) (xs := List.range theirs.length) (enc := fun i => .int (i : Int)) (k := fun _ => true) (f := fun i => dC (theirs.getD i 0, false, i)) (is := [3]) (st := fun i ρ => ρ.set 3 (.d (.int (i : Int)))) 2 [("index", 3)] rfl S28.nd
    (vi_range B ((v_lenL B (v_name 1 rfl)).is (by rw [dI_len])) (by omega)) (by rw [List.length_range]; omega) (fun i _ s H C cl fp => vg_name 3 S28.nd) (fun i _ s H C cl fp => vts_nil)
    (fun i hi _ s H C cl fp => v_tup (ds := [_, _, _]) (va_d (v_ixL (v_name 1 rfl) (v_name 3 rfl) (atI_dI (List.mem_range.mp hi))) (va_d v_int (va_d (v_name 3 rfl) va_nil)))) (fun k hk => ?_)
  rw [filt_true]
  refine vb_for (ds := rgD mine.length) (is := [3]) (f := fun d ρ => ρ.set 3 (.d d)) (fun i => [.d (dL mine), .d (dL theirs), .v (.ref k), .no, .no]) (fun i => As.and (As.lst k (((List.range theirs.length).map fun i => dC (theirs.getD i 0, false, i)) ++ (List.range i).map fun i => dC (mine.getD i 0, true, i))) As.top) ownF rfl
    (vi_range B ((v_lenL B (v_name 0 rfl)).is (by rw [dI_len])) (by omega)) (fun d _ => vg_name 3 S28.nd) ⟨.inr rfl, .inr rfl, .inr rfl, .inl rfl, .inl rfl, True.intro⟩ (fun G H h => by rw [List.range_zero, List.map_nil, List.append_nil]; exact h) (fun Gm' _ i d hd => ?_) ?_
  · obtain ⟨hi, rfl⟩ := rgD_at hd
    refine vb_app 2 rfl (v_tup (ds := [_, _, _]) (va_d (v_ixL (v_name 0 rfl) (v_name 3 rfl) (atI_dI hi)) (va_d v_int (va_d (v_name 3 rfl) va_nil)))) hk (by rw [List.length_append, List.length_map, List.length_map, List.length_range, List.length_range]; omega) stp_top (vb_nx rfl ⟨.inr rfl, .inr rfl, .inr rfl, .inl rfl, .inl rfl, True.intro⟩ ?_)
    rw [List.range_succ, List.map_append, ← List.append_assoc]
    exact fun _ _ h => h
  · rw [rgD_len]
    refine vb_still 2 hk rfl stf_top ?_
    refine vb_ret ((vn_lc (α := Cd) (xs := ord mine theirs) (enc := dC) (k := fun _ => true) (f := fun c => dN (nmOf c)) (is := [4]) (st := fun c ρ => ρ.set 4 (.d (dC c))) [("card", 4)] rfl S28.nd (vi_list (vn_sortC (cs := cards mine theirs) B hr.units ((v_name 2 rfl).is ?_)).ve) ?_
      (fun i _ s H C cl fp => vg_name 4 S28.nd) (fun i _ s H C cl fp => vts_nil) (fun c hc _ s H C cl fp => v_tup (ds := [_, _]) (va_d (v_sides S ⟨rfl, rfl, rfl, rfl, rfl⟩ (v_ixT (v_name 4 rfl) v_int rfl)) (va_d (v_ixT (v_name 4 rfl) v_int rfl) va_nil)))).ve) (Rt.is hO ?_)
    · unfold cards
      rw [side_range, side_range, List.map_append, List.map_map, List.map_map]
      rfl
    · rw [(ord_perm mine theirs).length_eq]
      unfold cards
      rw [List.length_append, side_range, side_range, List.length_map, List.length_map, List.length_range, List.length_range]
      omega
    · rw [filt_true]
      unfold dk
      rw [List.map_map]
      rfl
theorem fn28 {W : Wd} {f : Addr} {fd : FuncData} (B : Bl W.mg) (S : Sd W) (D : FunP W "deck" s28 [] f fd) (hm : W.mg "deck" = some (.ref f)) : Fn W "deck" 5 ["mine", "theirs"] [] F28 :=
  fn_mk D hm S28 (b28 B S) fun _ _ _ _ _ _ us hl => match us, hl with | [_, _], _ => rfl
end K43
namespace K43
open PySem PySem.Spec PyProof.Rows L2
theorem u65 {k : Nat} {A : Around} (r : Room k A) : A.units + 65 < cLine := by have := r.un; omega
/-! ### shapes -/
def Sh (n : Nat) (d : PyData) : Prop := d.canLay0 = true ∧ d.depth ≤ n
def ShAll (n : Nat) (ds : List PyData) : Prop := PyData.canLayAll0 ds = true ∧ PyData.depthAll ds ≤ n
theorem shAll {n : Nat} : ∀ {ds : List PyData}, (∀ d ∈ ds, Sh n d) → ShAll n ds
  | [], _ => ⟨rfl, Nat.zero_le _⟩
  | d :: ds, h => by
    obtain ⟨a1, a2⟩ := h d List.mem_cons_self
    obtain ⟨b1, b2⟩ := shAll fun x hx => h x (List.mem_cons_of_mem _ hx)
    exact ⟨by rw [PyData.canLayAll0, a1, b1]; rfl, by rw [PyData.depthAll]; exact Nat.max_le.mpr ⟨a2, b2⟩⟩
theorem sh_list {n : Nat} {ds : List PyData} (h : ∀ d ∈ ds, Sh n d) : Sh (n + 1) (.list ds) := by
  obtain ⟨a, b⟩ := shAll h
  exact ⟨by rw [PyData.canLay0]; exact a, by rw [PyData.depth]; exact Nat.succ_le_succ b⟩
theorem sh_tup {n : Nat} {ds : List PyData} (h : ∀ d ∈ ds, Sh n d) : Sh (n + 1) (.tuple ds) := by
  obtain ⟨a, b⟩ := shAll h
  exact ⟨by rw [PyData.canLay0]; exact a, by rw [PyData.depth]; exact Nat.succ_le_succ b⟩
theorem sh_int {n : Nat} {i : Int} : Sh n (.int i) := ⟨by rw [PyData.canLay0], by rw [PyData.depth]; exact Nat.zero_le _⟩
theorem sh_bool {n : Nat} {i : Bool} : Sh n (.bool i) := ⟨by rw [PyData.canLay0], by rw [PyData.depth]; exact Nat.zero_le _⟩
theorem sh_none {n : Nat} : Sh n .none := ⟨by rw [PyData.canLay0], by rw [PyData.depth]; exact Nat.zero_le _⟩
theorem sh_str {n : Nat} {x : Str} (h : PyData.strOk x = true) : Sh n (.str x) := ⟨by rw [PyData.canLay0]; exact h, by rw [PyData.depth]; exact Nat.zero_le _⟩
theorem Sh.ok {n : Nat} {d : PyData} (h : Sh n d) (hn : n ≤ 64 := by decide) : SeqAt.shaped d = true := by
  unfold SeqAt.shaped
  rw [h.1, decide_eq_true (Nat.le_trans h.2 hn)]
  rfl
theorem sh_side (n : Nat) (o : Bool) : Sh n (.str (sideS o)) := sh_str (by cases o <;> decide +kernel)
theorem sh_dN (n : Nat) (c : Nm) : Sh (n + 1) (dN c) := sh_tup fun d hd => by
  rcases List.mem_cons.mp hd with e | hd
  · rw [e]
    exact sh_side n c.1
  · rw [List.mem_singleton.mp hd]
    exact sh_int
theorem eqv_dN (c c' : Nm) : PyData.eqv (dN c) (dN c') = decide (c = c') := by
  unfold dN
  simp only [PyData.eqv, PyData.eqvAll, Bool.and_true]
  rw [Bool.eq_iff_iff, Bool.and_eq_true, beq_iff_eq, beq_iff_eq, decide_eq_true_eq, side_inj]
  constructor
  · rintro ⟨a, b⟩
    exact Prod.ext a (by omega)
  · intro e
    subst e
    exact ⟨rfl, rfl⟩
/-! ### around -/
abbrev s29 : Stmt := top 29
abbrev N29 : List Str := ["mine", "theirs", "side", "index", "down", "order", "place", "met", "card"]
abbrev P29 : List Str := ["mine", "theirs", "side", "index", "down"]
def len? (mine theirs : List Int) (o : Bool) : Nat := if o then mine.length else theirs.length
def F29 : FR := fun ss _ r => ∃ (mine theirs : List Int) (o : Bool) (i : Nat) (dn : Bool), ss = [.d (dL mine), .d (dL theirs), .d (.str (sideS o)), .d (.int i), .d (.bool dn)] ∧ mine.length ≤ 1000 ∧ theirs.length ≤ 1000 ∧ i < len? mine theirs o ∧
  r = .val (.list (dX (if dn then (upL mine theirs (o, i)).reverse else upL mine theirs (o, i))))
theorem S29 : FnScope N29 P29 (defScope s29) := ⟨rfl, rfl, rfl, by decide +kernel, rfl, by decide +kernel, by decide +kernel⟩
theorem dk_in {mine theirs : List Int} {o : Bool} {i : Nat} (h : i < len? mine theirs o) : (o, i) ∈ dk mine theirs := by
  cases o with
  | false => exact dk_mem.mpr (.inl ⟨rfl, h⟩)
  | true => exact dk_mem.mpr (.inr ⟨rfl, h⟩)
theorem dk_length (mine theirs : List Int) : (dk mine theirs).length = theirs.length + mine.length := by
  rw [(dk_perm mine theirs).length_eq, List.length_append, List.length_map, List.length_map, List.length_range, List.length_range]
theorem b29 {W : Wd} (B : Bl W.mg) (C18 : Fn W "check_card" 1 ["side", "index", "hand"] [] F18) (C27 : Fn W "hand_of" 1 ["mine", "theirs", "side"] [] F27) (C28 : Fn W "deck" 5 ["mine", "theirs"] [] F28) : Body W 5 N29 "around" s29 5 F29 := by
  intro f cdv A outer s H G Q E ss Φ r hr hF hO
  obtain ⟨mine, theirs, o, i, dn, rfl, h1, h2, h3, rfl⟩ := hF
  have hin := dk_in h3
  have hlt : (dk mine theirs).idxOf (o, i) < (dk mine theirs).length := List.idxOf_lt_length_of_mem hin
  have hdl := dk_length mine theirs
  refine vb_expr (v_call (d := .none) inW C18 hr (va_d (v_name 2 rfl) (va_d (v_name 3 rfl) (va_d (v_call inW C27 hr (va_d (v_name 0 rfl) (va_d (v_name 1 rfl) (va_d (v_name 2 rfl) va_nil))) ⟨dL mine, dL theirs, o, rfl, rfl⟩) va_nil)))
    ⟨.str (sideS o), i, if o then dI mine else dI theirs, by cases o <;> rfl, by cases o <;> (show i < List.length (dI _)) <;> rw [dI_len] <;> exact h3, by cases o <;> (show List.length (dI _) ≤ 1000) <;> rw [dI_len] <;> assumption, rfl⟩) ?_
  refine vb_set 5 (v_call inW C28 hr (va_d (v_name 0 rfl) (va_d (v_name 1 rfl) va_nil)) ⟨mine, theirs, rfl, h1, h2, rfl⟩) S29.nd ?_
  refine vb_set 6 (v_indexD (ds := (dk mine theirs).map dN) (d := dN (o, i)) (j := (dk mine theirs).idxOf (o, i)) (u65 hr) (v_name 5 rfl) (v_tup (ds := [_, _]) (va_d (v_name 2 rfl) (va_d (v_name 3 rfl) va_nil))) (sh_list (n := 1) fun d hd => by
    obtain ⟨c, _, rfl⟩ := List.mem_map.mp hd
    exact sh_dN 0 c).ok (sh_dN 0 (o, i)).ok ⟨dN (o, i), ?_, ?_⟩ (fun m z hm hz => ?_)) S29.nd ?_
  · rw [List.getElem?_map, List.getElem?_eq_getElem hlt, List.getElem_idxOf hlt]
    rfl
  · rw [eqv_dN, decide_eq_true rfl]
  · have hml : m < (dk mine theirs).length := Nat.lt_trans hm hlt
    rw [List.getElem?_map, List.getElem?_eq_getElem hml] at hz
    have hz : dN (dk mine theirs)[m] = z := Option.some.inj hz
    subst hz
    rw [eqv_dN, decide_eq_false]
    have := List.not_of_lt_findIdx hm
    simpa using this
  · refine vb_set 7 (d := .list ((ring (dk mine theirs) (o, i)).map dN)) ((vn_cat (vn_sl (v_name 5 rfl) (vo_some ((v_add (v_name 6 rfl) v_int).is (d' := .int (((dk mine theirs).idxOf (o, i) + 1 : Nat) : Int)) rfl)) vo_none).ve (vn_sl (v_name 5 rfl) vo_none (vo_some (v_name 6 rfl))).ve ?_).ve.is ?_) S29.nd ?_
    · rw [cut_from, cut_all, List.length_drop, List.length_take, List.length_map]
      omega
    · rw [cut_from, cut_all, ← List.map_drop, ← List.map_take, ← List.map_append]
      rfl
    · have fin : ∀ ds : List Nm, ds.length ≤ 100000 → dX (if dn then (upL mine theirs (o, i)).reverse else upL mine theirs (o, i)) = dX ((ds.filter fun b => b.1 != o).map (·.2)) → VB (cxF W N29 "around" (defScope s29) f cdv A outer s H E) G G H ((defBody s29).drop 5) Φ [.d (dL mine), .d (dL theirs), .d (.str (sideS o)), .d (.int i), .d (.bool dn), .d (.list ((dk mine theirs).map dN)), .d (.int ((dk mine theirs).idxOf (o, i))), .d (.list (ds.map dN)), .no] { nx := fun _ H' => Q .non H', rt := Q } := fun ds hds he =>
        vb_ret ((vn_lc (α := Nm) (xs := ds) (enc := dN) (k := fun b => b.1 != o) (f := fun c => .int (c.2 : Int)) (is := [8]) (st := fun c ρ => ρ.set 8 (.d (dN c))) [("card", 8)] rfl S29.nd (vi_list (v_name 7 rfl)) hds
          (fun c _ s H C cl fp => vg_name 8 S29.nd) (fun c _ s H C cl fp => vts_one ((vt_neS (v_ixT (v_name 8 rfl) v_int rfl) (v_name 2 rfl)).is (by rw [side_eq]; cases c.1 <;> cases o <;> rfl))) (fun c _ _ s H C cl fp => v_ixT (v_name 8 rfl) v_int rfl)).ve) (Rt.is hO (by
            rw [he]
            unfold dX
            rw [List.map_map]
            rfl))
      have hrl : (ring (dk mine theirs) (o, i)).length ≤ 100000 := by
        unfold ring
        rw [List.length_append, List.length_drop, List.length_take]
        omega
      refine vb_if1 (vt_val (v_name 4 rfl)) (fun hc => ?_) (fun hc => ?_)
      · subst hc
        refine vb_set 7 ((vn_rev (v_name 7 rfl)).ve.is (by rw [← List.map_reverse])) S29.nd (vb_fall (fin _ (by rw [List.length_reverse]; exact hrl) ?_))
        rw [if_pos rfl, List.filter_reverse, List.map_reverse]
        rfl
      · subst hc
        refine fin _ hrl ?_
        rw [if_neg Bool.false_ne_true]
        rfl
theorem fn29 {W : Wd} {f : Addr} {fd : FuncData} (B : Bl W.mg) (C18 : Fn W "check_card" 1 ["side", "index", "hand"] [] F18) (C27 : Fn W "hand_of" 1 ["mine", "theirs", "side"] [] F27) (C28 : Fn W "deck" 5 ["mine", "theirs"] [] F28)
    (D : FunP W "around" s29 [("down", .bl false)] f fd) (hm : W.mg "around" = some (.ref f)) : Fn W "around" 6 P29 [.bool false] F29 ∧ FnK W "around" 6 P29 4 "down" F29 :=
  ⟨fn_mk0 (d0 := .bool false) D hm S29 (b29 B C18 C27 C28) 4 rfl rfl fun _ _ _ _ _ _ us ks h1 h2 => match us, h1, ks, h2 with | [_, _, _, _], _, [_], _ => ⟨_, _, _, _, _, _, rfl, rfl, rfl⟩,
    fn_mkK D hm S29 (b29 B C18 C27 C28) 4 fun _ _ _ _ _ _ us ks h1 h2 => match us, h1, ks, h2 with | [_, _, _, _], _, [_], _ => rfl⟩
end K43
namespace K43
open PySem PySem.Spec PyProof.Rows L2
/-! ### more words -/
section
variable {X : Cx} {Φ : As} {ρ : List Sl} {a b e tg : Expr} {es : List Expr} {pos p : Pos}
/-- a list's truth -/
theorem vt_lst {ds : List PyData} (h : VE X Φ ρ a (.list ds)) (he : ∀ whole, isTrue a X.env whole = (do let v ← whole; standAt a.pos; holding [v] (truthy v)) := by intro _; rfl) : VT X Φ ρ a (!ds.isEmpty) := fun σ G H s r f Q q =>
  wt_of (pt_truth we he) (h σ G H s r f _ fun v G1 H1 e1 r1 => by
    cases r1 with
    | @lst l xs _ h1 k1 =>
      refine ⟨!ds.isEmpty, Or.inl ⟨xs, SqL.of (e1.gh _ _ h1), ?_⟩, q G1 H1 e1⟩
      have := k1.len
      cases xs <;> cases ds <;> simp_all)
/-- place, (owner, index) -/
theorem vg_nest {x y z : Str} {p1 p2 p3 p4 p5 : Pos} {k1 k2 : Nat} {c d1 d2 : PyData} (i j l : Nat) (hc : X.calm = true) (hN : X.N.Nodup) (hi : X.N[i]? = some x := by rfl) (hj : X.N[j]? = some y := by rfl) (hl : X.N[l]? = some z := by rfl)
    (hx : Loc X.env.scope x := by first | exact Or.inl rfl | exact Or.inr rfl) (hy : Loc X.env.scope y := by first | exact Or.inl rfl | exact Or.inr rfl) (hz : Loc X.env.scope z := by first | exact Or.inl rfl | exact Or.inr rfl)
    (hf : X.fn x = true ∨ X.env.scope.names.lookup x = some .local := by first | exact .inl rfl | exact .inr rfl) (hf2 : X.fn y = true ∨ X.env.scope.names.lookup y = some .local := by first | exact .inl rfl | exact .inr rfl) (hf3 : X.fn z = true ∨ X.env.scope.names.lookup z = some .local := by first | exact .inl rfl | exact .inr rfl)
    (hn : (assignEach [.Name y p2, .Name z p3] X.env).length = 2 := by rfl) (hst : (assignEach [.Name y p2, .Name z p3] X.env).findIdx? (·.1) = none := by rfl)
    (q1 : (assignEach [.Name y p2, .Name z p3] X.env).map (·.2) = assign (.Name y p2) X.env :: (assignEach [.Name z p3] X.env).map (·.2) := by rfl) (q2 : (assignEach [.Name z p3] X.env).map (·.2) = assign (.Name z p3) X.env :: (assignEach [] X.env).map (·.2) := by rfl)
    (hn2 : (assignEach [.Name x p1, .Tuple [.Name y p2, .Name z p3] k1 p4] X.env).length = 2 := by rfl) (hst2 : (assignEach [.Name x p1, .Tuple [.Name y p2, .Name z p3] k1 p4] X.env).findIdx? (·.1) = none := by rfl)
    (q3 : (assignEach [.Name x p1, .Tuple [.Name y p2, .Name z p3] k1 p4] X.env).map (·.2) = assign (.Name x p1) X.env :: (assignEach [.Tuple [.Name y p2, .Name z p3] k1 p4] X.env).map (·.2) := by rfl)
    (q4 : (assignEach [.Tuple [.Name y p2, .Name z p3] k1 p4] X.env).map (·.2) = assign (.Tuple [.Name y p2, .Name z p3] k1 p4) X.env :: (assignEach [] X.env).map (·.2) := by rfl) :
    VG X (.Tuple [.Name x p1, .Tuple [.Name y p2, .Name z p3] k1 p4] k2 p5) (.tuple [c, .tuple [d1, d2]]) [i, j, l] (fun ρ => ((ρ.set i (.d c)).set j (.d d1)).set l (.d d2)) := fun v σ G H ρ s rv r Q q => by
  cases rv with
  | tup h kk =>
    cases kk with
    | cons r1 kk =>
      cases kk with
      | cons r2 kk =>
        cases kk
        cases r2 with
        | tup h2 k3 =>
          cases k3 with
          | cons r3 k3 =>
            cases k3 with
            | cons r4 k3 =>
              cases k3
              exact wg_of (pg_tup hc (pgs_cons (pg_name hN hi hx hf) (pgs_cons (pg_tup hc (pgs_cons (pg_name hN hj hy hf2) (pgs_cons (pg_name hN hl hz hf3) pgs_nil q2) q1) hn hst) pgs_nil q4) q3) hn2 hst2)
                ⟨_, _, rfl, SqT.of (s _ _ h), rfl, _, _, rfl, _, _, rfl, ⟨_, _, rfl, SqT.of (s _ _ h2), rfl, _, _, rfl, _, _, rfl, rfl, rfl,
                  q _ (SR.set (s := .d d2) (o := some _) r4 l (SR.set (s := .d d1) (o := some _) r3 j (SR.set (s := .d c) (o := some _) r1 i r))) fun vs hv => by rw [wipe_set _ (hv l (by simp)), wipe_set _ (hv j (by simp)), wipe_set _ (hv i (by simp))]⟩⟩
end
theorem atI_dX {l : List Nat} {i : Nat} (h : i < l.length) : atI (dX l) (i : Int) = some (.int (l.getD i 0 : Nat)) := by
  refine atI_nat ?_
  unfold dX
  rw [List.getElem?_map, List.getElem?_eq_getElem h, List.getD_eq_getElem?_getD, List.getElem?_eq_getElem h]
  rfl
theorem dX_len (l : List Nat) : (dX l).length = l.length := List.length_map ..
theorem atI_dX0 {l : List Nat} (h : 0 < l.length) : atI (dX l) 0 = some (.int (l.headD 0 : Nat)) := by
  have := atI_dX (i := 0) h
  cases l with
  | nil => cases h
  | cons a l => exact this
theorem rev_head (l : List Nat) : l.reverse.headD 0 = l.getLastD 0 := by
  rw [List.headD_eq_head?_getD, List.head?_reverse, List.getLastD_eq_getLast?]
theorem upL_len2 {mine theirs : List Int} {o : Bool} {i : Nat} (h : i < len? mine theirs o) : (upL mine theirs (o, i)).length = len? mine theirs (!o) := by
  cases o with
  | false => exact upL_lenM h
  | true => exact upL_lenT h
/-! ### next_up, next_down -/
abbrev s30 : Stmt := top 30
abbrev s31 : Stmt := top 31
abbrev P30 : List Str := ["mine", "theirs", "side", "index"]
def F30 : FR := fun ss _ r => ∃ (mine theirs : List Int) (o : Bool) (i : Nat), ss = [.d (dL mine), .d (dL theirs), .d (.str (sideS o)), .d (.int i)] ∧ mine.length ≤ 1000 ∧ theirs.length ≤ 1000 ∧ i < len? mine theirs o ∧ 0 < len? mine theirs (!o) ∧
  r = .val (.int ((upL mine theirs (o, i)).headD 0 : Nat))
def F31 : FR := fun ss _ r => ∃ (mine theirs : List Int) (o : Bool) (i : Nat), ss = [.d (dL mine), .d (dL theirs), .d (.str (sideS o)), .d (.int i)] ∧ mine.length ≤ 1000 ∧ theirs.length ≤ 1000 ∧ i < len? mine theirs o ∧ 0 < len? mine theirs (!o) ∧
  r = .val (.int ((upL mine theirs (o, i)).getLastD 0 : Nat))
theorem S30 : FnScope ["mine", "theirs", "side", "index", "above"] P30 (defScope s30) := ⟨rfl, rfl, rfl, by decide +kernel, rfl, by decide +kernel, by decide +kernel⟩
theorem S31 : FnScope ["mine", "theirs", "side", "index", "below"] P30 (defScope s31) := ⟨rfl, rfl, rfl, by decide +kernel, rfl, by decide +kernel, by decide +kernel⟩
theorem b30 {W : Wd} (B : Bl W.mg) (C29 : Fn W "around" 6 P29 [.bool false] F29) : Body W 6 ["mine", "theirs", "side", "index", "above"] "next_up" s30 4 F30 := by
  intro f cdv A outer s H G Q E ss Φ r hr hF hO
  obtain ⟨mine, theirs, o, i, rfl, h1, h2, h3, h4, rfl⟩ := hF
  have hu := upL_len2 h3
  refine vb_set 4 (v_call (d := .list (dX (upL mine theirs (o, i)))) inW C29 hr (va_d (v_name 0 rfl) (va_d (v_name 1 rfl) (va_d (v_name 2 rfl) (va_d (v_name 3 rfl) va_nil)))) ⟨mine, theirs, o, i, false, rfl, h1, h2, h3, rfl⟩) S30.nd ?_
  refine vb_if1 (vt_eqI (v_lenL B (v_name 4 rfl)) v_int) (fun hc => ?_) (fun hc => ?_)
  · have := of_decide_eq_true hc
    rw [dX_len, hu] at this
    omega
  · exact vb_ret (v_ixL (v_name 4 rfl) v_int (atI_dX0 (by omega))) hO
theorem b31 {W : Wd} (B : Bl W.mg) (C29 : FnK W "around" 6 P29 4 "down" F29) : Body W 6 ["mine", "theirs", "side", "index", "below"] "next_down" s31 4 F31 := by
  intro f cdv A outer s H G Q E ss Φ r hr hF hO
  obtain ⟨mine, theirs, o, i, rfl, h1, h2, h3, h4, rfl⟩ := hF
  have hu := upL_len2 h3
  refine vb_set 4 (v_callK (d := .list (dX (upL mine theirs (o, i)).reverse)) inW C29 hr (va_d (v_name 0 rfl) (va_d (v_name 1 rfl) (va_d (v_name 2 rfl) (va_d (v_name 3 rfl) va_nil)))) v_bool ⟨mine, theirs, o, i, true, rfl, h1, h2, h3, rfl⟩) S31.nd ?_
  refine vb_if1 (vt_eqI (v_lenL B (v_name 4 rfl)) v_int) (fun hc => ?_) (fun hc => ?_)
  · have := of_decide_eq_true hc
    rw [dX_len, List.length_reverse, hu] at this
    omega
  · refine vb_ret (v_ixL (v_name 4 rfl) v_int (atI_dX0 (by rw [List.length_reverse]; omega))) (Rt.is hO ?_)
    rw [rev_head]
theorem fn30 {W : Wd} {f : Addr} {fd : FuncData} (B : Bl W.mg) (C29 : Fn W "around" 6 P29 [.bool false] F29) (D : FunP W "next_up" s30 [] f fd) (hm : W.mg "next_up" = some (.ref f)) : Fn W "next_up" 7 P30 [] F30 :=
  fn_mk D hm S30 (b30 B C29) fun _ _ _ _ _ _ us hl => match us, hl with | [_, _, _, _], _ => rfl
theorem fn31 {W : Wd} {f : Addr} {fd : FuncData} (B : Bl W.mg) (C29 : FnK W "around" 6 P29 4 "down" F29) (D : FunP W "next_down" s31 [] f fd) (hm : W.mg "next_down" = some (.ref f)) : Fn W "next_down" 7 P30 [] F31 :=
  fn_mk D hm S31 (b31 B C29) fun _ _ _ _ _ _ us hl => match us, hl with | [_, _, _, _], _ => rfl
/-! ### check_pair, taken_out -/
abbrev s33 : Stmt := top 33
abbrev s34 : Stmt := top 34
abbrev P33 : List Str := ["mine", "theirs", "m", "t"]
def F33 : FR := fun ss _ r => ∃ (mine theirs : List Int) (m t : Nat), ss = [.d (dL mine), .d (dL theirs), .d (.int m), .d (.int t)] ∧ mine.length ≤ 1000 ∧ mine.length = theirs.length ∧ m < mine.length ∧ t < theirs.length ∧ r = .val .none
def F34 : FR := fun ss _ r => ∃ (mine theirs : List Int) (m t : Nat), ss = [.d (dL mine), .d (dL theirs), .d (.int m), .d (.int t)] ∧ mine.length ≤ 1000 ∧ mine.length = theirs.length ∧ m < mine.length ∧ t < theirs.length ∧ r = .val (.tuple [dL (mine.eraseIdx m), dL (theirs.eraseIdx t)])
theorem S33 : FnScope P33 P33 (defScope s33) := ⟨rfl, rfl, rfl, by decide +kernel, rfl, by decide +kernel, by decide +kernel⟩
theorem S34 : FnScope P33 P33 (defScope s34) := ⟨rfl, rfl, rfl, by decide +kernel, rfl, by decide +kernel, by decide +kernel⟩
theorem b33 {W : Wd} {cH : Addr} (C17 : Fn W "check_hands" 4 ["mine", "theirs"] [] (F17 cH)) (C18 : Fn W "check_card" 1 ["side", "index", "hand"] [] F18) : Body W 4 P33 "check_pair" s33 4 F33 := by
  intro f cdv A outer s H G Q E ss Φ r hr hF hO
  obtain ⟨mine, theirs, m, t, rfl, h1, h2, h3, h4, rfl⟩ := hF
  refine vb_expr (v_call (d := .none) inW C17 hr (va_d (v_name 0 rfl) (va_d (v_name 1 rfl) va_nil)) ⟨dI mine, dI theirs, rfl, by rw [dI_len]; omega, by rw [dI_len]; omega, by rw [dI_len, dI_len, if_pos h2]⟩) ?_
  refine vb_expr (v_call (d := .none) inW C18 hr (va_d v_str (va_d (v_name 2 rfl) (va_d (v_name 0 rfl) va_nil))) ⟨_, m, dI mine, rfl, by rw [dI_len]; exact h3, by rw [dI_len]; exact h1, rfl⟩) ?_
  exact vb_expr (v_call (d := .none) inW C18 hr (va_d v_str (va_d (v_name 3 rfl) (va_d (v_name 1 rfl) va_nil))) ⟨_, t, dI theirs, rfl, by rw [dI_len]; exact h4, by rw [dI_len]; omega, rfl⟩) (vb_end hO)
theorem fn33 {W : Wd} {cH f : Addr} {fd : FuncData} (C17 : Fn W "check_hands" 4 ["mine", "theirs"] [] (F17 cH)) (C18 : Fn W "check_card" 1 ["side", "index", "hand"] [] F18) (D : FunP W "check_pair" s33 [] f fd) (hm : W.mg "check_pair" = some (.ref f)) : Fn W "check_pair" 5 P33 [] F33 :=
  fn_mk D hm S33 (b33 C17 C18) fun _ _ _ _ _ _ us hl => match us, hl with | [_, _, _, _], _ => rfl
theorem cut_out (l : List Int) (m : Nat) : cutD (dI l) none (some (m : Int)) ++ cutD (dI l) (some ((m + 1 : Nat) : Int)) none = dI (l.eraseIdx m) := by
  rw [cut_all, cut_from, List.eraseIdx_eq_take_drop_succ]
  unfold dI
  rw [List.map_append, List.map_take, List.map_drop]
theorem cut_len {α : Type} (l : List α) (x y : Option Int) : (cutD l x y).length ≤ l.length := by
  unfold cutD
  rw [List.length_take, List.length_drop]
  omega
theorem v_out {X : Cx} {Φ : As} {ρ : List Sl} {a a2 b b2 : Expr} {pos p1 p2 p3 p4 p5 p6 : Pos} {l : List Int} {m : Nat} {k : Nat} (ha : VE X Φ ρ a (dL l)) (hb : VE X Φ ρ b (.int m)) (ha2 : VE X Φ ρ a2 (dL l)) (hb2 : VE X Φ ρ b2 (.int m)) (hl : l.length ≤ 1000) :
    VE X Φ ρ (.BinOp (.Subscript a (.Slice none (some b) none p1) p2) .Add (.Subscript a2 (.Slice (some (.BinOp b2 .Add (.Constant (.int 1) k p3) p4)) none none p5) p6) pos) (dL (l.eraseIdx m)) :=
  (vn_cat (vn_sl ha vo_none (vo_some hb)).ve (vn_sl ha2 (vo_some ((v_add hb2 v_int).is (d' := .int ((m + 1 : Nat) : Int)) rfl)) vo_none).ve (by
    have h1 := cut_len (dI l) none (some (m : Int))
    have h2 := cut_len (dI l) (some ((m + 1 : Nat) : Int)) none
    rw [dI_len] at h1 h2
    omega)).ve.is (by rw [cut_out]; rfl)
theorem b34 {W : Wd} (C33 : Fn W "check_pair" 5 P33 [] F33) : Body W 5 P33 "taken_out" s34 4 F34 := by
  intro f cdv A outer s H G Q E ss Φ r hr hF hO
  obtain ⟨mine, theirs, m, t, rfl, h1, h2, h3, h4, rfl⟩ := hF
  refine vb_expr (v_call (d := .none) inW C33 hr (va_d (v_name 0 rfl) (va_d (v_name 1 rfl) (va_d (v_name 2 rfl) (va_d (v_name 3 rfl) va_nil)))) ⟨mine, theirs, m, t, rfl, h1, h2, h3, h4, rfl⟩) ?_
  exact vb_ret (v_tup (ds := [_, _]) (va_d (v_out (v_name 0 rfl) (v_name 2 rfl) (v_name 0 rfl) (v_name 2 rfl) h1) (va_d (v_out (v_name 1 rfl) (v_name 3 rfl) (v_name 1 rfl) (v_name 3 rfl) (by omega)) va_nil))) hO
theorem fn34 {W : Wd} {f : Addr} {fd : FuncData} (C33 : Fn W "check_pair" 5 P33 [] F33) (D : FunP W "taken_out" s34 [] f fd) (hm : W.mg "taken_out" = some (.ref f)) : Fn W "taken_out" 6 P33 [] F34 :=
  fn_mk D hm S34 (b34 C33) fun _ _ _ _ _ _ us hl => match us, hl with | [_, _, _, _], _ => rfl
end K43
namespace K43
open PySem PySem.Spec PyProof.Rows L2
/-! ### heights -/
abbrev s36 : Stmt := top 36
/-- the walk's entry ahead of place i -/
def htAt (d : List Nm) (i : Nat) : Int := en 0 (own (d.take i))
def walkOf (d : List Nm) : List Int := (List.range (d.length + 1)).map (htAt d)
def F36 : FR := fun ss _ r => ∃ mine theirs : List Int, ss = [.d (dL mine), .d (dL theirs)] ∧ mine.length ≤ 1000 ∧ mine.length = theirs.length ∧ r = .val (dL (walkOf (dk mine theirs)))
theorem S36 : FnScope ["mine", "theirs", "height", "walk", "card"] ["mine", "theirs"] (defScope s36) := ⟨rfl, rfl, rfl, by decide +kernel, rfl, by decide +kernel, by decide +kernel⟩
theorem htAt_succ {d : List Nm} {i : Nat} {c : Nm} (h : d[i]? = some c) : htAt d (i + 1) = if c.1 then htAt d i - 1 else htAt d i + 1 := by
  unfold htAt
  rw [take_snoc h, own_app, en_app]
  obtain ⟨o, j⟩ := c
  cases o <;> rfl
theorem dN_at {d : List Nm} {i : Nat} {x : PyData} (h : (d.map dN)[i]? = some x) : ∃ c, d[i]? = some c ∧ x = dN c := by
  rw [List.getElem?_map] at h
  cases e : d[i]? with
  | none =>
    rw [e] at h
    cases h
  | some c =>
    rw [e] at h
    exact ⟨c, rfl, (Option.some.inj h).symm⟩
theorem side_th (o : Bool) : decide (sideS o = (Str.ofString "theirs")) = !o := side_theirs o
theorem b36 {W : Wd} {cH : Addr} (C17 : Fn W "check_hands" 4 ["mine", "theirs"] [] (F17 cH)) (C28 : Fn W "deck" 5 ["mine", "theirs"] [] F28) : Body W 5 ["mine", "theirs", "height", "walk", "card"] "heights" s36 2 F36 := by
  intro f cdv A outer s H G Q E ss Φ r hr hF hO
  obtain ⟨mine, theirs, rfl, h1, h2, rfl⟩ := hF
  have hdl := dk_length mine theirs
  refine VB.weak (Φ' := As.top) ?_ (SLe.refl _) fun _ _ _ => True.intro
  refine vb_expr (v_call (d := .none) inW C17 hr (va_d (v_name 0 rfl) (va_d (v_name 1 rfl) va_nil)) ⟨dI mine, dI theirs, rfl, by rw [dI_len]; omega, by rw [dI_len]; omega, by rw [dI_len, dI_len, if_pos h2]⟩) ?_
  refine vb_set 2 v_int S36.nd (vb_new 3 (vn_lst (ds := [_]) (va_d v_int va_nil)) S36.nd fun k hk => ?_)
  refine vb_for (ds := (dk mine theirs).map dN) (is := [4]) (f := fun d ρ => ρ.set 4 (.d d)) (fun i => [.d (dL mine), .d (dL theirs), .d (.int (htAt (dk mine theirs) i)), .v (.ref k), .no]) (fun i => As.and (As.lst k (dI ((List.range (i + 1)).map (htAt (dk mine theirs))))) As.top) ownF rfl
    (vi_list (v_call inW C28 hr (va_d (v_name 0 rfl) (va_d (v_name 1 rfl) va_nil)) ⟨mine, theirs, rfl, h1, by omega, rfl⟩)) (fun d _ => vg_name 4 S36.nd) ⟨.inr rfl, .inr rfl, .inr rfl, .inr rfl, .inl rfl, True.intro⟩ (fun G H h => h) (fun Gm' _ i d hd => ?_) ?_
  · obtain ⟨c, hc, rfl⟩ := dN_at hd
    have hlt : i < (dk mine theirs).length := (List.getElem?_eq_some_iff.mp hc).1
    have es := htAt_succ hc
    have fin : ∀ (h : Int) (sts : List Stmt), sts = ((match (match (defBody s36).getD 3 (.Pass ⟨0, 0, 0, 0⟩) with | .For _ _ b _ _ => b | _ => []) with | _ :: r => r | [] => [])) → h = htAt (dk mine theirs) (i + 1) → VB (cxF W ["mine", "theirs", "height", "walk", "card"] "heights" (defScope s36) f cdv A outer s H E) Gm' G H sts (As.and (As.lst k (dI ((List.range (i + 1)).map (htAt (dk mine theirs))))) As.top)
        [.d (dL mine), .d (dL theirs), .d (.int h), .v (.ref k), .d (dN c)]
        { nx := NX Gm' G H (As.and (As.lst k (dI ((List.range (i + 1 + 1)).map (htAt (dk mine theirs))))) As.top) [.d (dL mine), .d (dL theirs), .d (.int (htAt (dk mine theirs) (i + 1))), .v (.ref k), .no], ct := NX Gm' G H (As.and (As.lst k (dI ((List.range (i + 1 + 1)).map (htAt (dk mine theirs))))) As.top) [.d (dL mine), .d (dL theirs), .d (.int (htAt (dk mine theirs) (i + 1))), .v (.ref k), .no], bk := fun σ' H' => WB (cxF W ["mine", "theirs", "height", "walk", "card"] "heights" (defScope s36) f cdv A outer s H E) ((defBody s36).drop 4) { nx := fun _ H' => Q .non H', rt := Q } σ' H', rt := Q } := fun h sts hst e => by
      subst hst
      subst e
      refine vb_app 3 rfl (v_name 2 rfl) hk (by rw [dI_len, List.length_map, List.length_range]; omega) stp_top (vb_nx rfl ⟨.inr rfl, .inr rfl, .inr rfl, .inr rfl, .inl rfl, True.intro⟩ ?_)
      rw [List.range_succ (n := i + 1), List.map_append, dI_snoc]
      exact fun _ _ h => h
    refine vb_if ((vt_eqS (v_ixT (v_name 4 rfl) v_int rfl) v_str).is (side_th c.1)) (fun hc => ?_) (fun hc => ?_)
    · have h3 : c.1 = false := by simpa using hc
      refine vb_aug 2 ip_add rfl v_int S36.nd (vb_fall (fin _ _ rfl ?_))
      rw [es, h3]
      rfl
    · have h3 : c.1 = true := by simpa using hc
      refine vb_aug 2 ip_sub rfl v_int S36.nd (vb_fall (fin _ _ rfl ?_))
      rw [es, h3]
      rfl
  · rw [List.length_map]
    exact vb_still 3 hk rfl stf_top (vb_ret (v_name 3 rfl) hO)
theorem fn36 {W : Wd} {cH f : Addr} {fd : FuncData} (C17 : Fn W "check_hands" 4 ["mine", "theirs"] [] (F17 cH)) (C28 : Fn W "deck" 5 ["mine", "theirs"] [] F28) (D : FunP W "heights" s36 [] f fd) (hm : W.mg "heights" = some (.ref f)) : Fn W "heights" 6 ["mine", "theirs"] [] F36 :=
  fn_mk D hm S36 (b36 C17 C28) fun _ _ _ _ _ _ us hl => match us, hl with | [_, _], _ => rfl
/-! ### side_levels -/
abbrev s38 : Stmt := top 38
abbrev N38 : List Str := ["mine", "theirs", "side", "walk", "found", "place", "owner", "index"]
/-- the levels of a side -/
def levO (mine theirs : List Int) (o : Bool) : List Int := if o then levM mine theirs else levT mine theirs
def F38 : FR := fun ss _ r => ∃ (mine theirs : List Int) (o : Bool), ss = [.d (dL mine), .d (dL theirs), .d (.str (sideS o))] ∧ mine.length ≤ 1000 ∧ mine.length = theirs.length ∧ r = .val (dL (levO mine theirs o))
theorem S38 : FnScope N38 ["mine", "theirs", "side"] (defScope s38) := ⟨rfl, rfl, rfl, by decide +kernel, rfl, by decide +kernel, by decide +kernel⟩
/-- found behind p places -/
def fnd (d : List Nm) (o : Bool) (n p : Nat) : List Int := (List.range n).map fun i => if d.idxOf (o, i) < p then (if o then hgt d (o, i) - 1 else hgt d (o, i)) else 0
theorem fnd_0 (d : List Nm) (o : Bool) (n : Nat) : fnd d o n 0 = List.replicate n 0 := by
  unfold fnd
  refine List.ext_getElem? fun i => ?_
  rw [List.getElem?_map, List.getElem?_replicate]
  by_cases h : i < n
  · rw [List.getElem?_range h, if_pos h]
    rfl
  · rw [List.getElem?_eq_none (by rw [List.length_range]; omega), if_neg h]
    rfl
theorem fnd_other {d : List Nm} (hd : d.Nodup) {o : Bool} {n p : Nat} {c : Nm} (h : d[p]? = some c) (hc : c.1 ≠ o) : fnd d o n (p + 1) = fnd d o n p := by
  unfold fnd
  refine List.map_congr_left fun i _ => ?_
  have ne : d.idxOf (o, i) ≠ p := fun e => by
    obtain ⟨hp, hv⟩ := List.getElem?_eq_some_iff.mp h
    have : d[d.idxOf (o, i)]'(by rw [e]; exact hp) = (o, i) := List.getElem_idxOf (by rw [e]; exact hp)
    have h2 : d[p] = (o, i) := by
      rw [← this]
      congr 1
      exact e.symm
    rw [hv] at h2
    rw [h2] at hc
    exact hc rfl
  by_cases hlt : d.idxOf (o, i) < p
  · rw [if_pos hlt, if_pos (by omega)]
  · rw [if_neg hlt, if_neg (by omega)]
theorem idx_of_at {d : List Nm} (hd : d.Nodup) {p : Nat} {c : Nm} (h : d[p]? = some c) : d.idxOf c = p := by
  obtain ⟨hp, hv⟩ := List.getElem?_eq_some_iff.mp h
  rw [← hv]
  exact List.Nodup.idxOf_getElem hd p hp
theorem fnd_set {d : List Nm} (hd : d.Nodup) {o : Bool} {n p : Nat} {i : Nat} (h : d[p]? = some (o, i)) (hi : i < n) : fnd d o n (p + 1) = (fnd d o n p).set i (if o then hgt d (o, i) - 1 else hgt d (o, i)) := by
  have hp := idx_of_at hd h
  refine List.ext_getElem? fun j => ?_
  by_cases hj : i = j
  · subst hj
    rw [List.getElem?_set_self (by unfold fnd; rw [List.length_map, List.length_range]; exact hi)]
    unfold fnd
    rw [List.getElem?_map, List.getElem?_range hi]
    show some (if d.idxOf (o, i) < p + 1 then _ else _) = _
    rw [if_pos (by omega)]
  · rw [List.getElem?_set_ne hj]
    unfold fnd
    rw [List.getElem?_map, List.getElem?_map]
    by_cases hjn : j < n
    · rw [List.getElem?_range hjn]
      show some (if d.idxOf (o, j) < p + 1 then _ else _) = some (if d.idxOf (o, j) < p then _ else _)
      have ne : d.idxOf (o, j) ≠ p := fun e => by
        obtain ⟨hpl, hv⟩ := List.getElem?_eq_some_iff.mp h
        have h2 : d[d.idxOf (o, j)]'(by rw [e]; exact hpl) = (o, j) := List.getElem_idxOf (by rw [e]; exact hpl)
        have h3 : d[p] = (o, j) := by
          rw [← h2]
          congr 1
          exact e.symm
        rw [hv] at h3
        injection h3 with _ h4
        exact hj h4
      by_cases hlt : d.idxOf (o, j) < p
      · rw [if_pos hlt, if_pos (by omega)]
      · rw [if_neg hlt, if_neg (by omega)]
    · rw [List.getElem?_eq_none (by rw [List.length_range]; omega)]
      rfl
theorem fnd_len (d : List Nm) (o : Bool) (n p : Nat) : (fnd d o n p).length = n := by
  unfold fnd
  rw [List.length_map, List.length_range]
theorem fnd_all {mine theirs : List Int} (h2 : mine.length = theirs.length) (o : Bool) : fnd (dk mine theirs) o mine.length (dk mine theirs).length = levO mine theirs o := by
  unfold fnd levO
  cases o with
  | false =>
    unfold levT
    rw [← h2]
    refine List.map_congr_left fun i hi => ?_
    rw [if_pos (List.idxOf_lt_length_of_mem (dk_mem.mpr (.inl ⟨rfl, by have := List.mem_range.mp hi; omega⟩)))]
    rfl
  | true =>
    unfold levM
    refine List.map_congr_left fun i hi => ?_
    rw [if_pos (List.idxOf_lt_length_of_mem (dk_mem.mpr (.inr ⟨rfl, List.mem_range.mp hi⟩)))]
    rfl
theorem walk_at {d : List Nm} {i : Nat} (h : i ≤ d.length) : atI (dI (walkOf d)) (i : Int) = some (.int (htAt d i)) := by
  refine atI_nat ?_
  unfold dI walkOf
  rw [List.getElem?_map, List.getElem?_map, List.getElem?_range (by omega)]
  rfl
theorem hgt_of {d : List Nm} (hd : d.Nodup) {p : Nat} {c : Nm} (h : d[p]? = some c) : hgt d c = htAt d p := by
  unfold hgt htAt
  rw [idx_of_at hd h]
theorem ixN_nat {n i : Nat} (h : i < n) : ixN n (i : Int) = some i := by
  unfold ixN
  rw [if_pos (by omega), if_pos (by omega), Int.toNat_natCast]
theorem dI_set (l : List Int) (i : Nat) (x : Int) : (dI l).set i (.int x) = dI (l.set i x) := by
  unfold dI
  rw [List.map_set]
theorem rep_one (n : Nat) (x : Int) : List.flatten (List.replicate n [PyData.int x]) = dI (List.replicate n x) := by
  unfold dI
  rw [List.map_replicate]
  induction n with
  | zero => rfl
  | succ n ih =>
    rw [List.replicate_succ, List.flatten_cons, ih, List.replicate_succ]
    rfl
theorem b38 {W : Wd} (B : Bl W.mg) (C36 : Fn W "heights" 6 ["mine", "theirs"] [] F36) (C28 : Fn W "deck" 5 ["mine", "theirs"] [] F28) : Body W 6 N38 "side_levels" s38 3 F38 := by
  intro f cdv A outer s H G Q E ss Φ r hr hF hO
  obtain ⟨mine, theirs, o, rfl, h1, h2, rfl⟩ := hF
  have hdl := dk_length mine theirs
  have hd := dk_nodup mine theirs
  refine VB.weak (Φ' := As.top) ?_ (SLe.refl _) fun _ _ _ => True.intro
  refine vb_set 3 (v_call inW C36 hr (va_d (v_name 0 rfl) (va_d (v_name 1 rfl) va_nil)) ⟨mine, theirs, rfl, h1, h2, rfl⟩) S38.nd ?_
  refine vb_new 4 ((vn_rep (n := mine.length) (vn_lst (ds := [_]) (va_d v_int va_nil)).ve ((v_lenL B (v_name 0 rfl)).is (by rw [dI_len])) (by omega) (by show 1 * mine.length ≤ _; omega)).is ((rep_one mine.length 0).trans (congrArg dI (fnd_0 (dk mine theirs) o mine.length).symm))) S38.nd fun k hk => ?_
  refine vb_for (ds := ((dk mine theirs).map dN).zipIdx.map fun x => .tuple [.int x.2, x.1]) (is := [5, 6, 7]) (f := fun d ρ => match d with | .tuple [c, .tuple [d1, d2]] => ((ρ.set 5 (.d c)).set 6 (.d d1)).set 7 (.d d2) | _ => ρ) (fun i => [.d (dL mine), .d (dL theirs), .d (.str (sideS o)), .d (dL (walkOf (dk mine theirs))), .v (.ref k), .no, .no, .no])
    (fun i => As.and (As.lst k (dI (fnd (dk mine theirs) o mine.length i))) As.top) ownF rfl (vi_enum B (v_call inW C28 hr (va_d (v_name 0 rfl) (va_d (v_name 1 rfl) va_nil)) ⟨mine, theirs, rfl, h1, by omega, rfl⟩)) (fun d hm => ?_) ⟨.inr rfl, .inr rfl, .inr rfl, .inr rfl, .inr rfl, .inl rfl, .inl rfl, .inl rfl, True.intro⟩ (fun G H h => h) (fun Gm' _ i d hdi => ?_) ?_
  · obtain ⟨x, hx, rfl⟩ := List.mem_map.mp hm
    obtain ⟨y, j⟩ := x
    have := (List.mem_zipIdx hx).2.2
    have hy : y ∈ (dk mine theirs).map dN := by
      rw [this]
      exact List.getElem_mem _
    obtain ⟨c, _, rfl⟩ := List.mem_map.mp hy
    exact vg_nest 5 6 7 rfl S38.nd
  · rw [List.getElem?_map, List.getElem?_zipIdx] at hdi
    cases e : ((dk mine theirs).map dN)[i]? with
    | none =>
      rw [e] at hdi
      cases hdi
    | some y =>
      rw [e] at hdi
      have hdi : PyData.tuple [.int ((0 + i : Nat) : Int), y] = d := Option.some.inj hdi
      obtain ⟨c, hc, rfl⟩ := dN_at e
      subst hdi
      rw [Nat.zero_add]
      obtain ⟨o', j⟩ := c
      have hlt : i < (dk mine theirs).length := (List.getElem?_eq_some_iff.mp hc).1
      refine vb_if1 ((vt_eqS (v_name 6 rfl) (v_name 2 rfl)).is (side_eq o' o)) (fun hq => ?_) (fun hq => ?_)
      · have hoo : o' = o := of_decide_eq_true hq
        subst hoo
        have hj : j < mine.length := by
          have := List.mem_of_getElem? hc
          rcases dk_mem.mp this with ⟨_, h⟩ | ⟨_, h⟩ <;> omega
        refine vb_put (n := j) (j := (j : Int)) 4 rfl (d := .int (if o' then hgt (dk mine theirs) (o', j) - 1 else hgt (dk mine theirs) (o', j))) ((v_ixL (d := .int (htAt (dk mine theirs) (i + if o' then 1 else 0))) (i := ((i + if o' then 1 else 0 : Nat) : Int)) (v_name 3 rfl) ((v_add (v_name 5 rfl) (v_intB B ((v_eqS (v_name 2 rfl) v_str).is (congrArg _ (side_mine o'))))).is ?_) (walk_at ?_)).is ?_) (v_name 7 rfl) ?_ hk stp_top (vb_fall (vb_nx rfl ⟨.inr rfl, .inr rfl, .inr rfl, .inr rfl, .inr rfl, .inl rfl, .inl rfl, .inl rfl, True.intro⟩ ?_))
        · cases o' <;> rfl
        · cases o' <;> simp <;> omega
        · cases o' with
          | false => rw [hgt_of hd hc]; rfl
          | true =>
            rw [hgt_of hd hc]
            show PyData.int (htAt _ (i + 1)) = _
            rw [htAt_succ hc]
            rfl
        · rw [dI_len, fnd_len]
          exact ixN_nat hj
        · rw [dI_set, ← fnd_set hd hc hj]
          exact fun _ _ h => h
      · have hoo : o' ≠ o := of_decide_eq_false hq
        refine vb_nx rfl ⟨.inr rfl, .inr rfl, .inr rfl, .inr rfl, .inr rfl, .inl rfl, .inl rfl, .inl rfl, True.intro⟩ ?_
        rw [fnd_other hd hc hoo]
        exact fun _ _ h => h
  · rw [List.length_map, List.length_zipIdx, List.length_map, fnd_all h2]
    exact vb_still 4 hk rfl stf_top (vb_ret (v_name 4 rfl) hO)
theorem fn38 {W : Wd} {f : Addr} {fd : FuncData} (B : Bl W.mg) (C36 : Fn W "heights" 6 ["mine", "theirs"] [] F36) (C28 : Fn W "deck" 5 ["mine", "theirs"] [] F28) (D : FunP W "side_levels" s38 [] f fd) (hm : W.mg "side_levels" = some (.ref f)) : Fn W "side_levels" 7 ["mine", "theirs", "side"] [] F38 :=
  fn_mk D hm S38 (b38 B C36 C28) fun _ _ _ _ _ _ us hl => match us, hl with | [_, _, _], _ => rfl
end K43
namespace K43
open PySem PySem.Spec PyProof.Rows L2
/-! ### row_of, row_after -/
abbrev s39 : Stmt := top 39
abbrev s40 : Stmt := top 40
def F39 : FR := fun ss _ r => ∃ mine theirs : List Int, ss = [.d (dL mine), .d (dL theirs)] ∧ mine.length ≤ 1000 ∧ mine.length = theirs.length ∧ r = .val (dL (rowOf mine theirs))
theorem S39 : FnScope ["mine", "theirs"] ["mine", "theirs"] (defScope s39) := ⟨rfl, rfl, rfl, by decide +kernel, rfl, by decide +kernel, by decide +kernel⟩
theorem b39 {W : Wd} (B : Bl W.mg) (C38 : Fn W "side_levels" 7 ["mine", "theirs", "side"] [] F38) : Body W 7 ["mine", "theirs"] "row_of" s39 2 F39 := by
  intro f cdv A outer s H G Q E ss Φ r hr hF hO
  obtain ⟨mine, theirs, rfl, h1, h2, rfl⟩ := hF
  refine vb_ret (vn_sortI B (v_call inW C38 hr (va_d (v_name 0 rfl) (va_d (v_name 1 rfl) (va_d v_str va_nil))) ⟨mine, theirs, true, rfl, h1, h2, rfl⟩)).ve (Rt.is hO ?_)
  rw [← row_M h2]
  rfl
theorem fn39 {W : Wd} {f : Addr} {fd : FuncData} (B : Bl W.mg) (C38 : Fn W "side_levels" 7 ["mine", "theirs", "side"] [] F38) (D : FunP W "row_of" s39 [] f fd) (hm : W.mg "row_of" = some (.ref f)) : Fn W "row_of" 8 ["mine", "theirs"] [] F39 :=
  fn_mk D hm S39 (b39 B C38) fun _ _ _ _ _ _ us hl => match us, hl with | [_, _], _ => rfl
abbrev N40 : List Str := ["mine", "theirs", "m", "t", "rest_mine", "rest_theirs", "hit", "height"]
def F40 : FR := fun ss _ r => ∃ (mine theirs : List Int) (m t : Nat), ss = [.d (dL mine), .d (dL theirs), .d (.int m), .d (.int t)] ∧ mine.length ≤ 1000 ∧ mine.length = theirs.length ∧ m < mine.length ∧ t < theirs.length ∧
  r = .val (dL ((rowOf (mine.eraseIdx m) (theirs.eraseIdx t)).map fun x => x + hit mine theirs m t))
theorem S40 : FnScope N40 P33 (defScope s40) := ⟨rfl, rfl, rfl, by decide +kernel, rfl, by decide +kernel, by decide +kernel⟩
theorem b40 {W : Wd} (B : Bl W.mg) (C34 : Fn W "taken_out" 6 P33 [] F34) (C26 : Fn W "wins" 1 ["my_number", "their_number"] [] F26) (C39 : Fn W "row_of" 8 ["mine", "theirs"] [] F39) : Body W 8 N40 "row_after" s40 4 F40 := by
  intro f cdv A outer s H G Q E ss Φ r hr hF hO
  obtain ⟨mine, theirs, m, t, rfl, h1, h2, h3, h4, rfl⟩ := hF
  have l1 : (mine.eraseIdx m).length = mine.length - 1 := List.length_eraseIdx_of_lt h3
  have l2 : (theirs.eraseIdx t).length = theirs.length - 1 := List.length_eraseIdx_of_lt h4
  have l3 := row_len (mine.eraseIdx m) (theirs.eraseIdx t)
  refine vb_two (c := dL (mine.eraseIdx m)) (d := dL (theirs.eraseIdx t)) 4 5 (v_call inW C34 hr (va_d (v_name 0 rfl) (va_d (v_name 1 rfl) (va_d (v_name 2 rfl) (va_d (v_name 3 rfl) va_nil)))) ⟨mine, theirs, m, t, rfl, h1, h2, h3, h4, rfl⟩) rfl S40.nd ?_
  refine vb_set 6 (d := .int (hit mine theirs m t)) ((v_intB B (v_call inW C26 hr (va_d (v_ixL (v_name 0 rfl) (v_name 2 rfl) (atI_dI h3)) (va_d (v_ixL (v_name 1 rfl) (v_name 3 rfl) (atI_dI h4)) va_nil)) ⟨_, _, rfl, rfl⟩)).is ?_) S40.nd ?_
  · unfold hit
    by_cases h : theirs.getD t 0 ≤ mine.getD m 0
    · rw [decide_eq_true h, if_pos h]
      rfl
    · rw [decide_eq_false h, if_neg h]
      rfl
  · refine vb_ret ((vn_lc (α := Int) (xs := rowOf (mine.eraseIdx m) (theirs.eraseIdx t)) (enc := .int) (k := fun _ => true) (f := fun x => .int (x + hit mine theirs m t)) (is := [7]) (st := fun x ρ => ρ.set 7 (.d (.int x))) [("height", 7)] rfl S40.nd
      (vi_list (v_call inW C39 hr (va_d (v_name 4 rfl) (va_d (v_name 5 rfl) va_nil)) ⟨_, _, rfl, by omega, by omega, rfl⟩)) (by omega) (fun x _ s H C cl fp => vg_name 7 S40.nd) (fun x _ s H C cl fp => vts_nil) (fun x _ _ s H C cl fp => v_add (v_name 7 rfl) (v_name 6 rfl))).ve) (Rt.is hO ?_)
    rw [filt_true]
    unfold dL dI
    rw [List.map_map]
    rfl
theorem fn40 {W : Wd} {f : Addr} {fd : FuncData} (B : Bl W.mg) (C34 : Fn W "taken_out" 6 P33 [] F34) (C26 : Fn W "wins" 1 ["my_number", "their_number"] [] F26) (C39 : Fn W "row_of" 8 ["mine", "theirs"] [] F39) (D : FunP W "row_after" s40 [] f fd) (hm : W.mg "row_after" = some (.ref f)) : Fn W "row_after" 9 P33 [] F40 :=
  fn_mk D hm S40 (b40 B C34 C26 C39) fun _ _ _ _ _ _ us hl => match us, hl with | [_, _, _, _], _ => rfl
/-! ### entry_value, value, exact_range -/
abbrev s42 : Stmt := top 42
abbrev s43 : Stmt := top 43
abbrev s47 : Stmt := top 47
def F42 : FR := fun ss _ r => ∃ (c : List Int) (e l : Nat), ss = [.d (dL c), .d (.int e), .d (.int l)] ∧ (c.length = 0 ∨ e < c.length) ∧ r = .val (.int (highV c e l))
theorem S42 : FnScope ["row", "early", "late"] ["row", "early", "late"] (defScope s42) := ⟨rfl, rfl, rfl, by decide +kernel, rfl, by decide +kernel, by decide +kernel⟩
theorem b42 {W : Wd} : Body W 0 ["row", "early", "late"] "entry_value" s42 3 F42 := by
  intro f cdv A outer s H G Q E ss Φ r hr hF hO
  obtain ⟨c, e, l, rfl, h1, rfl⟩ := hF
  refine vb_if1 (vt_not (vt_lst (v_name 0 rfl))) (fun hc => ?_) (fun hc => ?_)
  · refine vb_ret v_int (Rt.is hO ?_)
    have : c.length = 0 := by
      cases c with
      | nil => rfl
      | cons a c => simp [dI] at hc
    unfold highV
    rw [if_pos this]
  · have : ¬ c.length = 0 := by
      cases c with
      | nil => simp [dI] at hc
      | cons a c => simp
    refine vb_ret (v_add (v_add (v_name 2 rfl) v_int) (v_ixL (v_name 0 rfl) (v_name 1 rfl) (atI_dI (h1.resolve_left this)))) (Rt.is hO ?_)
    unfold highV
    rw [if_neg this]
theorem fn42 {W : Wd} {f : Addr} {fd : FuncData} (D : FunP W "entry_value" s42 [] f fd) (hm : W.mg "entry_value" = some (.ref f)) : Fn W "entry_value" 1 ["row", "early", "late"] [] F42 :=
  fn_mk D hm S42 b42 fun _ _ _ _ _ _ us hl => match us, hl with | [_, _, _], _ => rfl
/-- the letters ahead of the last -/
def zM (z : List Nat) : Nat := z.dropLast.count 77
def zT (z : List Nat) : Nat := z.dropLast.count 84
theorem zMT (z : List Nat) (h : 0 < z.length) : zM z < z.length ∧ zT z < z.length := by
  have a := List.count_le_length (a := 77) (l := z.dropLast)
  have b := List.count_le_length (a := 84) (l := z.dropLast)
  rw [List.length_dropLast] at a b
  unfold zM zT
  omega
def valO (c : List Int) (z : List Nat) (o : Bool) : Int := if o then highV c (zM z) (zT z) else lowV c (zM z) (zT z)
def F43 (cW : Addr) : FR := fun ss _ r => ∃ (c : List Int) (z : List Nat) (o : Bool), ss = [.d (dL c), .d (.str ⟨z.toArray⟩), .d (.str (sideS o))] ∧ c.length ≤ 1000 ∧ z.length ≤ 1000 ∧
  ((∃ k, WordBad z c.length k ∧ r = .exc (xw cW k)) ∨ (AllGd z ∧ z.length = c.length ∧ r = .val (.int (valO c z o))))
abbrev N43 : List Str := ["row", "word", "many", "mine_lays", "their_lays"]
theorem S43 : FnScope N43 ["row", "word", "many"] (defScope s43) := ⟨rfl, rfl, rfl, by decide +kernel, rfl, by decide +kernel, by decide +kernel⟩
theorem b43 {W : Wd} {cW : Addr} (B : Bl W.mg) (C20 : Fn W "check_word" 5 ["word", "count"] [] (F20 cW)) (C23 : Fn W "lays_before_last" 1 ["word"] [] F23) (C42 : Fn W "entry_value" 1 ["row", "early", "late"] [] F42) : Body W 5 N43 "value" s43 3 (F43 cW) := by
  intro f cdv A outer s H G Q E ss Φ r hr hF hO
  obtain ⟨c, z, o, rfl, h1, h2, hF⟩ := hF
  have hl : VE (cxF W N43 "value" (defScope s43) f cdv A outer s H E) Φ (ρ0 [.d (dL c), .d (.str ⟨z.toArray⟩), .d (.str (sideS o))] 2) (match (defBody s43).getD 0 (.Pass ⟨0, 0, 0, 0⟩) with | .Expr (.Call _ [_, e] _ _) _ => e | _ => .Name "" ⟨0, 0, 0, 0⟩) (.int c.length) := (v_lenL B (v_name 0 rfl)).is (by rw [dI_len])
  rcases hF with ⟨k, hk, rfl⟩ | ⟨ha, hz, rfl⟩
  · exact vb_exprX (x_call inW wishF C20 hr (va_d (v_name 1 rfl) (va_d hl va_nil)) (show F20 cW _ Φ (.exc (xw cW k)) from ⟨z, c.length, rfl, h2, h1, .inl ⟨k, hk, rfl⟩⟩)) hO
  · refine vb_expr (v_call inW C20 hr (va_d (v_name 1 rfl) (va_d hl va_nil)) (show F20 cW _ Φ (.val .none) from ⟨z, c.length, rfl, h2, h1, .inr ⟨ha, hz, rfl⟩⟩)) ?_
    refine vb_two (c := .int (zM z)) (d := .int (zT z)) 3 4 (v_call inW C23 hr (va_d (v_name 1 rfl) va_nil) ⟨z, rfl, h2, rfl⟩) rfl S43.nd ?_
    have hb : c.length = 0 ∨ (zM z < c.length ∧ zT z < c.length) := by
      by_cases h0 : c.length = 0
      · exact .inl h0
      · have := zMT z (by omega)
        exact .inr (by omega)
    refine vb_if1 ((vt_eqS (v_name 2 rfl) v_str).is (side_mine o)) (fun hc => ?_) (fun hc => ?_)
    · subst hc
      exact vb_ret (v_call inW C42 hr (va_d (v_name 0 rfl) (va_d (v_name 3 rfl) (va_d (v_name 4 rfl) va_nil))) ⟨c, zM z, zT z, rfl, hb.imp id (·.1), rfl⟩) hO
    · subst hc
      exact vb_ret (v_call inW C42 hr (va_d (v_name 0 rfl) (va_d (v_name 4 rfl) (va_d (v_name 3 rfl) va_nil))) ⟨c, zT z, zM z, rfl, hb.imp id (·.2), rfl⟩) hO
theorem fn43 {W : Wd} {cW f : Addr} {fd : FuncData} (B : Bl W.mg) (C20 : Fn W "check_word" 5 ["word", "count"] [] (F20 cW)) (C23 : Fn W "lays_before_last" 1 ["word"] [] F23) (C42 : Fn W "entry_value" 1 ["row", "early", "late"] [] F42)
    (D : FunP W "value" s43 [("many", .str (sideS true))] f fd) (hm : W.mg "value" = some (.ref f)) : Fn W "value" 6 ["row", "word", "many"] [.str (sideS true)] (F43 cW) ∧ FnK W "value" 6 ["row", "word", "many"] 2 "many" (F43 cW) :=
  ⟨fn_mk0 (d0 := .str (sideS true)) D hm S43 (b43 B C20 C23 C42) 2 rfl rfl fun _ _ _ _ _ _ us ks h1 h2 => match us, h1, ks, h2 with | [_, _], _, [_], _ => ⟨_, _, _, _, _, _, rfl, rfl, rfl⟩,
    fn_mkK D hm S43 (b43 B C20 C23 C42) 2 fun _ _ _ _ _ _ us ks h1 h2 => match us, h1, ks, h2 with | [_, _], _, [_], _ => rfl⟩
def F47 (cW : Addr) : FR := fun ss _ r => ∃ (c : List Int) (z : List Nat), ss = [.d (dL c), .d (.str ⟨z.toArray⟩)] ∧ c.length ≤ 1000 ∧ z.length ≤ 1000 ∧
  ((∃ k, WordBad z c.length k ∧ r = .exc (xw cW k)) ∨ (AllGd z ∧ z.length = c.length ∧ r = .val (.tuple [.int (valO c z false), .int (valO c z true)])))
theorem S47 : FnScope ["row", "word"] ["row", "word"] (defScope s47) := ⟨rfl, rfl, rfl, by decide +kernel, rfl, by decide +kernel, by decide +kernel⟩
theorem b47 {W : Wd} {cW : Addr} (C43 : Fn W "value" 6 ["row", "word", "many"] [.str (sideS true)] (F43 cW)) (K43 : FnK W "value" 6 ["row", "word", "many"] 2 "many" (F43 cW)) : Body W 6 ["row", "word"] "exact_range" s47 2 (F47 cW) := by
  intro f cdv A outer s H G Q E ss Φ r hr hF hO
  obtain ⟨c, z, rfl, h1, h2, hF⟩ := hF
  rcases hF with ⟨k, hk, rfl⟩ | ⟨ha, hz, rfl⟩
  · exact vb_retX (xr_tup (x_callK inW wishF K43 hr (va_d (v_name 0 rfl) (va_d (v_name 1 rfl) va_nil)) v_str (show F43 cW _ Φ (.exc (xw cW k)) from ⟨c, z, false, rfl, h1, h2, .inl ⟨k, hk, rfl⟩⟩))) hO
  · exact vb_ret (v_tup (ds := [_, _]) (va_d (v_callK inW K43 hr (va_d (v_name 0 rfl) (va_d (v_name 1 rfl) va_nil)) v_str (show F43 cW _ Φ (.val (.int (valO c z false))) from ⟨c, z, false, rfl, h1, h2, .inr ⟨ha, hz, rfl⟩⟩))
      (va_d (v_call inW C43 hr (va_d (v_name 0 rfl) (va_d (v_name 1 rfl) va_nil)) (show F43 cW _ Φ (.val (.int (valO c z true))) from ⟨c, z, true, rfl, h1, h2, .inr ⟨ha, hz, rfl⟩⟩)) va_nil))) hO
theorem fn47 {W : Wd} {cW f : Addr} {fd : FuncData} (C43 : Fn W "value" 6 ["row", "word", "many"] [.str (sideS true)] (F43 cW)) (K43 : FnK W "value" 6 ["row", "word", "many"] 2 "many" (F43 cW)) (D : FunP W "exact_range" s47 [] f fd) (hm : W.mg "exact_range" = some (.ref f)) : Fn W "exact_range" 7 ["row", "word"] [] (F47 cW) :=
  fn_mk D hm S47 (b47 C43 K43) fun _ _ _ _ _ _ us hl => match us, hl with | [_, _], _ => rfl
end K43
namespace K43
open PySem PySem.Spec PyProof.Rows L2
/-! ### unsteady_position -/
abbrev s48 : Stmt := top 48
def sur (e : List Nat) (p : Nat) : Int := ((e.drop p).count 77 : Int) - ((e.drop p).count 84 : Int)
def UnP (e : List Nat) (p : Nat) : Prop := p < e.length ∧ 0 < sur e p ∧ ∀ q, p < q → q < e.length → sur e q ≤ 0
def StP2 (e : List Nat) : Prop := ∀ q, q < e.length → sur e q ≤ 0
theorem sur_step {e : List Nat} {p c : Nat} (h : e[p]? = some c) (hg : gd c) : sur e p = if c = 77 then sur e (p + 1) + 1 else sur e (p + 1) - 1 := by
  obtain ⟨hp, hv⟩ := List.getElem?_eq_some_iff.mp h
  unfold sur
  rw [List.drop_eq_getElem_cons hp, hv, List.count_cons, List.count_cons]
  rcases hg with rfl | rfl
  · simp
    omega
  · simp
    omega
def F48 : FR := fun ss _ r => ∃ z : List Nat, ss = [.d (.str ⟨z.toArray⟩)] ∧ z.length ≤ 1000 ∧ AllGd z ∧ ((∃ p : Nat, UnP z.dropLast p ∧ r = .val (.int p)) ∨ (StP2 z.dropLast ∧ r = .val .none))
theorem S48 : FnScope ["word", "early", "surplus", "position"] ["word"] (defScope s48) := ⟨rfl, rfl, rfl, by decide +kernel, rfl, by decide +kernel, by decide +kernel⟩
theorem gd_drop {z : List Nat} (h : AllGd z) : AllGd z.dropLast := fun i c hc => by
  rw [List.dropLast_eq_take, List.getElem?_take] at hc
  split at hc
  · exact h i c hc
  · cases hc
theorem b48 {W : Wd} (B : Bl W.mg) : Body W 0 ["word", "early", "surplus", "position"] "unsteady_position" s48 1 F48 := by
  intro f cdv A outer s H G Q E ss Φ r hr hF hO
  obtain ⟨z, rfl, h1, hg, hF⟩ := hF
  have hg2 := gd_drop hg
  have hl : z.dropLast.length ≤ 1000 := by rw [List.length_dropLast]; omega
  have body : ∀ e : List Nat, e = z.dropLast → (∃ p : Nat, UnP e p ∧ r = .val (.int p)) ∨ (StP2 e ∧ r = .val .none) → AllGd e → e.length ≤ 1000 →
      VB (cxF W ["word", "early", "surplus", "position"] "unsteady_position" (defScope s48) f cdv A outer s H E) G G H ((defBody s48).drop 1) Φ [.d (.str ⟨z.toArray⟩), .d (.str ⟨e.toArray⟩), .no, .no] { nx := fun _ H' => Q .non H', rt := Q } := fun e _ hF hg2 hl => by
    refine vb_set 2 v_int S48.nd ?_
    refine vb_for (ds := (List.range ((e.length : Int) - 1 - -1).toNat).map fun k : Nat => PyData.int ((e.length : Int) - 1 - k)) (is := [3]) (f := fun d ρ => ρ.set 3 (.d d)) (fun k => [.d (.str ⟨z.toArray⟩), .d (.str ⟨e.toArray⟩), .d (.int (sur e (e.length - k))), .no]) (fun k => As.and (As.pu (∀ p, UnP e p → p < e.length - k)) Φ) ownF rfl
      (vi_down B (va_d (v_sub (v_lenS B (v_name 1 rfl) (by omega)) v_int) (va_d (v_neg v_int) (va_d (v_neg v_int) va_nil))) (by omega) (by omega) (by omega) (by omega)) (fun d _ => vg_name 3 S48.nd) ⟨.inr rfl, .inr rfl, .inr ?_, .inl rfl, True.intro⟩ (fun G H h => ⟨fun p hp => hp.1, h⟩) (fun Gm' _ k d hd => vb_pu fun hk => ?_) (vb_pu fun hk => ?_)
    · unfold sur
      rw [Nat.sub_zero, List.drop_length]
      rfl
    · rw [List.getElem?_map] at hd
      have hkl : k < e.length := by
        by_cases hlt : k < ((e.length : Int) - 1 - -1).toNat
        · omega
        · rw [List.getElem?_eq_none (by rw [List.length_range]; omega)] at hd
          cases hd
      rw [List.getElem?_range (by omega)] at hd
      have hd : PyData.int ((e.length : Int) - 1 - k) = d := Option.some.inj hd
      have eq : (e.length : Int) - 1 - k = ((e.length - 1 - k : Nat) : Int) := by omega
      rw [eq] at hd
      subst hd
      have hq : e.length - 1 - k < e.length := by omega
      have hz : e[e.length - 1 - k]? = some e[e.length - 1 - k] := List.getElem?_eq_getElem hq
      have gq := hg2 _ _ hz
      have st := sur_step hz gq
      have ek : e.length - k = e.length - 1 - k + 1 := by omega
      have ek2 : e.length - (k + 1) = e.length - 1 - k := by omega
      have go : VB (cxF W ["word", "early", "surplus", "position"] "unsteady_position" (defScope s48) f cdv A outer s H E) Gm' G H (match (defBody s48).getD 2 (.Pass ⟨0, 0, 0, 0⟩) with | .For _ _ b _ _ => b.drop 1 | _ => []) Φ [.d (.str ⟨z.toArray⟩), .d (.str ⟨e.toArray⟩), .d (.int (sur e (e.length - 1 - k))), .d (.int ((e.length - 1 - k : Nat) : Int))]
          { nx := NX Gm' G H (As.and (As.pu (∀ p, UnP e p → p < e.length - (k + 1))) Φ) [.d (.str ⟨z.toArray⟩), .d (.str ⟨e.toArray⟩), .d (.int (sur e (e.length - (k + 1)))), .no], ct := NX Gm' G H (As.and (As.pu (∀ p, UnP e p → p < e.length - (k + 1))) Φ) [.d (.str ⟨z.toArray⟩), .d (.str ⟨e.toArray⟩), .d (.int (sur e (e.length - (k + 1)))), .no], bk := fun σ' H' => WB (cxF W ["word", "early", "surplus", "position"] "unsteady_position" (defScope s48) f cdv A outer s H E) ((defBody s48).drop 3) { nx := fun _ H' => Q .non H', rt := Q } σ' H', rt := Q } := by
        refine vb_if1 (vt_gt (v_name 2 rfl) v_int) (fun hc => ?_) (fun hc => ?_)
        · have hs := of_decide_eq_true hc
          rcases hF with ⟨p, hp, rfl⟩ | ⟨hs2, _⟩
          · have h5 := hk p hp
            have h6 : p = e.length - 1 - k := by
              by_cases hlt : p < e.length - 1 - k
              · have := hp.2.2 _ hlt hq
                omega
              · omega
            subst h6
            exact vb_ret (v_name 3 rfl) hO
          · have := hs2 _ hq
            omega
        · have hs := of_decide_eq_false hc
          refine vb_nx rfl ⟨.inr rfl, .inr rfl, .inr ?_, .inl rfl, True.intro⟩ fun G H h => ⟨fun p hp => ?_, h⟩
          · rw [ek2]
          · have h5 := hk p hp
            have h7 := hp.2.1
            by_cases h8 : p = e.length - 1 - k
            · rw [h8] at h7
              omega
            · omega
      refine vb_if (vt_eqC 77 (v_ixS (v_name 1 rfl) (v_name 3 rfl) (by omega) (atI_nat hz))) (fun hc => vb_set 2 (d := .int (sur e (e.length - 1 - k))) ((v_add (v_name 2 rfl) v_int).is ?_) S48.nd (vb_fall go)) (fun hc => vb_set 2 (d := .int (sur e (e.length - 1 - k))) ((v_sub (v_name 2 rfl) v_int).is ?_) S48.nd (vb_fall go))
      · rw [st, if_pos (of_decide_eq_true hc), ek]
      · rw [st, if_neg (of_decide_eq_false hc), ek]
    · rw [List.length_map, List.length_range] at hk ⊢
      rcases hF with ⟨p, hp, rfl⟩ | ⟨hs2, rfl⟩
      · have := hk p hp
        omega
      · exact vb_ret v_none hO
  exact vb_set 1 ((v_slS (v_name 0 rfl) vo_none (vo_some (v_neg v_int)) (by omega)).is (by rw [cut_last])) S48.nd (body _ rfl hF hg2 hl)
theorem fn48 {W : Wd} {f : Addr} {fd : FuncData} (B : Bl W.mg) (D : FunP W "unsteady_position" s48 [] f fd) (hm : W.mg "unsteady_position" = some (.ref f)) : Fn W "unsteady_position" 1 ["word"] [] F48 :=
  fn_mk D hm S48 (b48 B) fun _ _ _ _ _ _ us hl => match us, hl with | [_], _ => rfl
/-! ### can_force -/
abbrev s49 : Stmt := top 49
abbrev N49 : List Str := ["row", "word", "wanted", "low", "high", "position"]
def xu (cU : Addr) (i : Int) : Xn := xn cU ["position"] [.int i]
def F49 (cW cU : Addr) : FR := fun ss _ r => ∃ (c : List Int) (z : List Nat) (k : Int), ss = [.d (dL c), .d (.str ⟨z.toArray⟩), .d (.int k)] ∧ c.length ≤ 1000 ∧ z.length ≤ 1000 ∧
  ((∃ i, WordBad z c.length i ∧ r = .exc (xw cW i)) ∨ (AllGd z ∧ z.length = c.length ∧ ((∃ p : Nat, UnP z.dropLast p ∧ r = .exc (xu cU p)) ∨ (StP2 z.dropLast ∧ r = .val (.bool (decide (valO c z false ≤ k) && decide (k ≤ valO c z true)))))))
theorem S49 : FnScope N49 ["row", "word", "wanted"] (defScope s49) := ⟨rfl, rfl, rfl, by decide +kernel, rfl, by decide +kernel, by decide +kernel⟩
theorem b49 {W : Wd} {cW cU : Addr} (XU : Xc W "Unsteady" cU ["position"]) (C47 : Fn W "exact_range" 7 ["row", "word"] [] (F47 cW)) (C48 : Fn W "unsteady_position" 1 ["word"] [] F48) : Body W 7 N49 "can_force" s49 3 (F49 cW cU) := by
  intro f cdv A outer s H G Q E ss Φ r hr hF hO
  obtain ⟨c, z, k, rfl, h1, h2, hF⟩ := hF
  rcases hF with ⟨i, hi, rfl⟩ | ⟨ha, hz, hF⟩
  · exact vb_twoX (x_call inW wishF C47 hr (va_d (v_name 0 rfl) (va_d (v_name 1 rfl) va_nil)) (show F47 cW _ Φ (.exc (xw cW i)) from ⟨c, z, rfl, h1, h2, .inl ⟨i, hi, rfl⟩⟩)) hO wg
  · refine vb_two 3 4 (v_call inW C47 hr (va_d (v_name 0 rfl) (va_d (v_name 1 rfl) va_nil)) (show F47 cW _ Φ (.val (.tuple [.int (valO c z false), .int (valO c z true)])) from ⟨c, z, rfl, h1, h2, .inr ⟨ha, hz, rfl⟩⟩)) rfl S49.nd ?_
    rcases hF with ⟨p, hp, rfl⟩ | ⟨hs, rfl⟩
    · refine vb_set 5 (v_call (d := .int p) inW C48 hr (va_d (v_name 1 rfl) va_nil) ⟨z, rfl, h2, ha, .inl ⟨p, hp, rfl⟩⟩) S49.nd ?_
      exact vb_if1 (vt_notN (v_name 5 rfl)) (fun _ => vb_raise XU inW hr takesF rfl (va_d (v_name 5 rfl) va_nil) hO) (fun hc => by cases hc)
    · refine vb_set 5 (v_call (d := .none) inW C48 hr (va_d (v_name 1 rfl) va_nil) ⟨z, rfl, h2, ha, .inr ⟨hs, rfl⟩⟩) S49.nd ?_
      exact vb_if1 (vt_notN (v_name 5 rfl)) (fun hc => by cases hc) (fun _ => vb_ret (v_chain (v_name 3 rfl) (v_name 2 rfl) (v_name 4 rfl)) hO)
theorem fn49 {W : Wd} {cW cU f : Addr} {fd : FuncData} (XU : Xc W "Unsteady" cU ["position"]) (C47 : Fn W "exact_range" 7 ["row", "word"] [] (F47 cW)) (C48 : Fn W "unsteady_position" 1 ["word"] [] F48) (D : FunP W "can_force" s49 [] f fd) (hm : W.mg "can_force" = some (.ref f)) : Fn W "can_force" 8 ["row", "word", "wanted"] [] (F49 cW cU) :=
  fn_mk D hm S49 (b49 XU C47 C48) fun _ _ _ _ _ _ us hl => match us, hl with | [_, _, _], _ => rfl
end K43
namespace K43
open PySem PySem.Spec PyProof.Rows L2
theorem find_at {α : Type} {p : α → Bool} {l : List α} {i : Nat} {x : α} (h : l[i]? = some x) (hp : p x = true) (hn : ∀ y ∈ l.take i, p y = false) : l.find? p = some x := by
  obtain ⟨hi, hv⟩ := List.getElem?_eq_some_iff.mp h
  have e : l = l.take i ++ x :: l.drop (i + 1) := by
    rw [← hv, ← List.drop_eq_getElem_cons hi, List.take_append_drop]
  rw [e, List.find?_append, List.find?_eq_none.mpr (fun y hy => by rw [hn y hy]; exact Bool.false_ne_true), List.find?_cons, hp]
  rfl
theorem dX_at {l : List Nat} {i : Nat} {d : PyData} (h : (dX l)[i]? = some d) : ∃ x, l[i]? = some x ∧ d = .int (x : Int) := by
  unfold dX at h
  rw [List.getElem?_map] at h
  cases e : l[i]? with
  | none =>
    rw [e] at h
    cases h
  | some x =>
    rw [e] at h
    exact ⟨x, rfl, (Option.some.inj h).symm⟩
theorem zMT2 (z : List Nat) : zM z + zT z ≤ z.length - 1 := by
  have h : ∀ l : List Nat, l.count 77 + l.count 84 ≤ l.length := fun l => by
    induction l with
    | nil => simp
    | cons a l ih =>
      rw [List.count_cons, List.count_cons, List.length_cons]
      by_cases h1 : a = 77
      · subst h1
        simp
        omega
      · by_cases h2 : a = 84
        · subst h2
          simp
          omega
        · simp [h1, h2]
          omega
  have := h z.dropLast
  rw [List.length_dropLast] at this
  exact this
/-! ### exact_lay -/
abbrev s51 : Stmt := top 51
abbrev N51 : List Str := ["mine", "theirs", "word", "needed", "order", "owner", "index", "f", "s", "heights", "entries", "lowest", "highest"]
def F51 : FR := fun ss _ r => ∃ (mine theirs : List Int) (z : List Nat) (k : Int), ss = [.d (dL mine), .d (dL theirs), .d (.str ⟨z.toArray⟩), .d (.int k)] ∧ mine.length ≤ 1000 ∧ mine.length = theirs.length ∧ 0 < mine.length ∧ z.length = mine.length ∧ (mine.length ≠ 1 → 0 < zM z) ∧
  r = .val (.int (layOf mine theirs (zM z) (zT z) k : Nat))
theorem S51 : FnScope N51 ["mine", "theirs", "word", "needed"] (defScope s51) := ⟨rfl, rfl, rfl, by decide +kernel, rfl, by decide +kernel, by decide +kernel⟩
theorem upT_lt {mine theirs : List Int} {i z : Nat} (hi : i < mine.length) (h : z ∈ upL mine theirs (true, i)) : z < theirs.length := by
  have := (upL_mem (dk_mem.mpr (.inr ⟨rfl, hi⟩))).mp h
  rcases dk_mem.mp this with ⟨_, e⟩ | ⟨e, _⟩
  · exact e
  · cases e
theorem upM_lt {mine theirs : List Int} {i z : Nat} (hi : i < theirs.length) (h : z ∈ upL mine theirs (false, i)) : z < mine.length := by
  have := (upL_mem (dk_mem.mpr (.inl ⟨rfl, hi⟩))).mp h
  rcases dk_mem.mp this with ⟨e, _⟩ | ⟨_, e⟩
  · cases e
  · exact e
theorem levT_len (mine theirs : List Int) : (levT mine theirs).length = theirs.length := by
  unfold levT
  rw [List.length_map, List.length_range]
theorem levT_mem {mine theirs : List Int} {i : Nat} (h : i < theirs.length) : (levT mine theirs).getD i 0 ∈ rowOf mine theirs := by
  rw [← row_T mine theirs, (srt_perm _).mem_iff, List.getD_eq_getElem?_getD, List.getElem?_eq_getElem (by rw [levT_len]; exact h)]
  exact List.getElem_mem _
theorem b51 {W : Wd} (B : Bl W.mg) (C28 : Fn W "deck" 5 ["mine", "theirs"] [] F28) (C23 : Fn W "lays_before_last" 1 ["word"] [] F23) (C38 : Fn W "side_levels" 7 ["mine", "theirs", "side"] [] F38) (C30 : Fn W "next_up" 7 P30 [] F30) (C31 : Fn W "next_down" 7 P30 [] F31) (C22 : Fn W "without" 1 ["values", "value"] [] F22) :
    Body W 7 N51 "exact_lay" s51 4 F51 := by
  intro f cdv A outer s H G Q E ss Φ r hr hF hO
  obtain ⟨mine, theirs, z, k, rfl, h1, h2, h0, hz, hm, rfl⟩ := hF
  have hml := mineO_len mine theirs
  have hdl := dk_length mine theirs
  have hrl := row_len mine theirs
  have hll := levT_len mine theirs
  refine vb_setLc (α := Nm) (xs := dk mine theirs) (enc := dN) (k := fun c => c.1) (f := fun c => .int (c.2 : Int)) (is := [5, 6]) (st := fun c ρ => (ρ.set 5 (.d (.str (sideS c.1)))).set 6 (.d (.int (c.2 : Int)))) 4 [("owner", 5), ("index", 6)] rfl S51.nd
    (vi_list (v_call inW C28 hr (va_d (v_name 0 rfl) (va_d (v_name 1 rfl) va_nil)) ⟨mine, theirs, rfl, h1, by omega, rfl⟩)) (by omega) (fun c _ s H C cl fp => vg_two 5 6 rfl S51.nd) (fun c _ s H C cl fp => vts_one ((vt_eqS (v_name 5 rfl) v_str).is (side_mine c.1))) (fun c _ _ s H C cl fp => v_name 6 rfl) ?_
  have eo : ((dk mine theirs).filter fun c => c.1).map (fun c => PyData.int (c.2 : Int)) = dX (mineO mine theirs) := by
    unfold mineO dX
    rw [List.map_map]
    rfl
  rw [eo]
  refine vb_if1 (vt_eqI (v_lenL B (v_name 4 rfl)) v_int) (fun hc => ?_) (fun hc => ?_)
  · have hc := of_decide_eq_true hc
    rw [dX_len] at hc
    refine vb_ret (v_ixL (v_name 4 rfl) v_int (atI_dX0 (by omega))) (Rt.is hO ?_)
    unfold layOf
    rw [if_pos (by omega)]
  · have hc := of_decide_eq_false hc
    rw [dX_len] at hc
    have n1 : mine.length ≠ 1 := by omega
    have hf := hm n1
    have hfs := zMT2 z
    refine vb_two (c := .int (zM z)) (d := .int (zT z)) 7 8 (v_call inW C23 hr (va_d (v_name 2 rfl) va_nil) ⟨z, rfl, by omega, rfl⟩) rfl S51.nd ?_
    refine vb_set 9 (d := dL (levT mine theirs)) (v_call inW C38 hr (va_d (v_name 0 rfl) (va_d (v_name 1 rfl) (va_d v_str va_nil))) ⟨mine, theirs, false, rfl, h1, h2, rfl⟩) S51.nd ?_
    refine vb_set 10 (d := dL (rowOf mine theirs)) ((vn_sortI B (v_name 9 rfl)).ve.is (by rw [row_T]; rfl)) S51.nd ?_
    refine vb_for (ds := dX (mineO mine theirs)) (is := [6]) (f := fun d ρ => ρ.set 6 (.d d)) (fun _ => [.d (dL mine), .d (dL theirs), .d (.str ⟨z.toArray⟩), .d (.int k), .d (.list (dX (mineO mine theirs))), .no, .no, .d (.int (zM z)), .d (.int (zT z)), .d (dL (levT mine theirs)), .d (dL (rowOf mine theirs)), .no, .no])
      (fun i => As.and (As.pu (∀ y ∈ (mineO mine theirs).take i, okLay mine theirs (zM z) (zT z) k y = false)) Φ) ownF rfl (vi_list (v_name 4 rfl)) (fun d _ => vg_name 6 S51.nd) ⟨.inr rfl, .inr rfl, .inr rfl, .inr rfl, .inr rfl, .inl rfl, .inl rfl, .inr rfl, .inr rfl, .inr rfl, .inr rfl, .inl rfl, .inl rfl, True.intro⟩
      (fun G H h => ⟨fun y hy => (by simp at hy), h⟩) (fun Gm' _ i d hd => vb_pu fun hk => ?_) (vb_pu fun hk => ?_)
    · obtain ⟨j, hj, rfl⟩ := dX_at hd
      have hjm : j < mine.length := mineO_mem.mp (List.mem_of_getElem? hj)
      have hul : (upL mine theirs (true, j)).length = theirs.length := upL_lenT hjm
      have hne : upL mine theirs (true, j) ≠ [] := fun e => by
        rw [e] at hul
        simp at hul
        omega
      have u1 : (upL mine theirs (true, j)).headD 0 < theirs.length := upT_lt hjm (headD_mem hne)
      have u2 : (upL mine theirs (true, j)).getLastD 0 < theirs.length := upT_lt hjm (getLastD_mem hne)
      refine vb_set 11 (v_call inW C22 hr (va_d (v_name 10 rfl) (va_d (v_ixL (v_name 9 rfl) (v_call inW C30 hr (va_d (v_name 0 rfl) (va_d (v_name 1 rfl) (va_d v_str (va_d (v_name 6 rfl) va_nil)))) ⟨mine, theirs, true, j, rfl, h1, by omega, hjm, by show 0 < theirs.length; omega, rfl⟩) (atI_dI (by omega))) va_nil)) ⟨rowOf mine theirs, _, rfl, by omega, rfl⟩) S51.nd ?_
      refine vb_set 12 (v_call inW C22 hr (va_d (v_name 10 rfl) (va_d (v_ixL (v_name 9 rfl) (v_call inW C31 hr (va_d (v_name 0 rfl) (va_d (v_name 1 rfl) (va_d v_str (va_d (v_name 6 rfl) va_nil)))) ⟨mine, theirs, true, j, rfl, h1, by omega, hjm, by show 0 < theirs.length; omega, rfl⟩) (atI_dI (by omega))) va_nil)) ⟨rowOf mine theirs, _, rfl, by omega, rfl⟩) S51.nd ?_
      have e1 := List.length_erase_of_mem (levT_mem (mine := mine) u1)
      have e2 := List.length_erase_of_mem (levT_mem (mine := mine) u2)
      refine vb_if1 (vw_and (vt_ge (v_add (v_add (v_ixL (i := ((zM z - 1 : Nat) : Int)) (v_name 11 rfl) ((v_sub (v_name 7 rfl) v_int).is ?_) (atI_dI ?_)) (v_name 8 rfl)) v_int) (v_name 3 rfl)) (fun _ => vw_and1 (vt_le (v_add (v_add (v_ixL (v_name 12 rfl) (v_name 8 rfl) (atI_dI ?_)) (v_name 7 rfl)) v_int) (v_name 3 rfl)))).vt (fun hc => ?_) (fun hc => ?_)
      · congr 1
        omega
      · omega
      · omega
      · have hok : okLay mine theirs (zM z) (zT z) k j = true := by
          unfold okLay
          rw [Bool.and_eq_true, decide_eq_true_eq, decide_eq_true_eq] at hc
          exact decide_eq_true hc
        refine vb_ret (v_name 6 rfl) (Rt.is hO ?_)
        unfold layOf
        rw [if_neg (by omega), find_at hj hok hk]
        rfl
      · refine vb_nx rfl ⟨.inr rfl, .inr rfl, .inr rfl, .inr rfl, .inr rfl, .inl rfl, .inl rfl, .inr rfl, .inr rfl, .inr rfl, .inr rfl, .inl rfl, .inl rfl, True.intro⟩ fun G H h => ⟨fun y hy => ?_, h⟩
        rw [take_snoc hj, List.mem_append, List.mem_singleton] at hy
        rcases hy with hy | rfl
        · exact hk y hy
        · unfold okLay
          rw [Bool.and_eq_false_iff, decide_eq_false_iff_not, decide_eq_false_iff_not] at hc
          exact decide_eq_false fun q => hc.elim (fun n => n q.1) fun n => n q.2
    · rw [dX_len, List.take_length] at hk
      refine vb_ret (v_ixL (v_name 4 rfl) v_int (atI_dX0 (by omega))) (Rt.is hO ?_)
      unfold layOf
      rw [if_neg (by omega), List.find?_eq_none.mpr (fun y hy => by rw [hk y hy]; exact Bool.false_ne_true)]
      rfl
theorem fn51 {W : Wd} {f : Addr} {fd : FuncData} (B : Bl W.mg) (C28 : Fn W "deck" 5 ["mine", "theirs"] [] F28) (C23 : Fn W "lays_before_last" 1 ["word"] [] F23) (C38 : Fn W "side_levels" 7 ["mine", "theirs", "side"] [] F38) (C30 : Fn W "next_up" 7 P30 [] F30) (C31 : Fn W "next_down" 7 P30 [] F31) (C22 : Fn W "without" 1 ["values", "value"] [] F22)
    (D : FunP W "exact_lay" s51 [] f fd) (hm : W.mg "exact_lay" = some (.ref f)) : Fn W "exact_lay" 8 ["mine", "theirs", "word", "needed"] [] F51 :=
  fn_mk D hm S51 (b51 B C28 C23 C38 C30 C31 C22) fun _ _ _ _ _ _ us hl => match us, hl with | [_, _, _, _], _ => rfl
/-! ### exact_answer -/
abbrev s52 : Stmt := top 52
abbrev N52 : List Str := ["mine", "theirs", "index", "letters", "needed", "order", "m", "low", "high"]
abbrev P52 : List Str := ["mine", "theirs", "index", "letters", "needed"]
def F52 : FR := fun ss _ r => ∃ (mine theirs : List Int) (i : Nat) (z : List Nat) (k : Int), ss = [.d (dL mine), .d (dL theirs), .d (.int i), .d (.str ⟨z.toArray⟩), .d (.int k)] ∧ mine.length ≤ 1000 ∧ mine.length = theirs.length ∧ i < theirs.length ∧ z.length + 1 = mine.length ∧ AllGd z ∧
  r = .val (.int (ansOf mine theirs i (zM z) (zT z) k : Nat))
theorem S52 : FnScope N52 P52 (defScope s52) := ⟨rfl, rfl, rfl, by decide +kernel, rfl, by decide +kernel, by decide +kernel⟩
theorem getD_add (c : List Int) (h : Int) {i : Nat} (hi : i < c.length) : (c.map fun x => x + h).getD i 0 = c.getD i 0 + h := by
  rw [List.getD_eq_getElem?_getD, List.getD_eq_getElem?_getD, List.getElem?_map, List.getElem?_eq_getElem hi]
  rfl
theorem b52 {W : Wd} {cW : Addr} (B : Bl W.mg) (C29 : Fn W "around" 6 P29 [.bool false] F29) (C47 : Fn W "exact_range" 7 ["row", "word"] [] (F47 cW)) (C40 : Fn W "row_after" 9 P33 [] F40) : Body W 9 N52 "exact_answer" s52 5 F52 := by
  intro f cdv A outer s H G Q E ss Φ r hr hF hO
  obtain ⟨mine, theirs, i, z, k, rfl, h1, h2, h3, hz, hg, rfl⟩ := hF
  have hul : (upL mine theirs (false, i)).length = mine.length := upL_lenM h3
  refine vb_set 5 (v_call (d := .list (dX (upL mine theirs (false, i)))) inW C29 hr (va_d (v_name 0 rfl) (va_d (v_name 1 rfl) (va_d v_str (va_d (v_name 2 rfl) va_nil)))) ⟨mine, theirs, false, i, false, rfl, h1, by omega, h3, rfl⟩) S52.nd ?_
  refine vb_if1 (vt_eqI (v_lenL B (v_name 5 rfl)) v_int) (fun hc => ?_) (fun hc => ?_)
  · have hc := of_decide_eq_true hc
    rw [dX_len] at hc
    refine vb_ret (v_ixL (v_name 5 rfl) v_int (atI_dX0 (by omega))) (Rt.is hO ?_)
    unfold ansOf
    rw [if_pos (by omega)]
  · have hc := of_decide_eq_false hc
    rw [dX_len] at hc
    refine vb_for (ds := dX (upL mine theirs (false, i))) (is := [6]) (f := fun d ρ => ρ.set 6 (.d d)) (fun _ => [.d (dL mine), .d (dL theirs), .d (.int i), .d (.str ⟨z.toArray⟩), .d (.int k), .d (.list (dX (upL mine theirs (false, i)))), .no, .no, .no])
      (fun n => As.and (As.pu (∀ y ∈ (upL mine theirs (false, i)).take n, okAns mine theirs i (zM z) (zT z) k y = false)) Φ) ownF rfl (vi_list (v_name 5 rfl)) (fun d _ => vg_name 6 S52.nd) ⟨.inr rfl, .inr rfl, .inr rfl, .inr rfl, .inr rfl, .inr rfl, .inl rfl, .inl rfl, .inl rfl, True.intro⟩
      (fun G H h => ⟨fun y hy => (by simp at hy), h⟩) (fun Gm' _ n d hd => vb_pu fun hk => ?_) (vb_pu fun hk => ?_)
    · obtain ⟨m, hm, rfl⟩ := dX_at hd
      have hml : m < mine.length := upM_lt h3 (List.mem_of_getElem? hm)
      have l1 : (mine.eraseIdx m).length = mine.length - 1 := List.length_eraseIdx_of_lt hml
      have l2 : (theirs.eraseIdx i).length = theirs.length - 1 := List.length_eraseIdx_of_lt h3
      have l3 := row_len (mine.eraseIdx m) (theirs.eraseIdx i)
      have hzz := zMT z (by omega)
      refine vb_two (c := .int (lowV (rowOf (mine.eraseIdx m) (theirs.eraseIdx i)) (zM z) (zT z) + hit mine theirs m i)) (d := .int (highV (rowOf (mine.eraseIdx m) (theirs.eraseIdx i)) (zM z) (zT z) + hit mine theirs m i)) 7 8
        ((v_call inW C47 hr (va_d (v_call inW C40 hr (va_d (v_name 0 rfl) (va_d (v_name 1 rfl) (va_d (v_name 6 rfl) (va_d (v_name 2 rfl) va_nil)))) ⟨mine, theirs, m, i, rfl, h1, h2, hml, h3, rfl⟩) (va_d (v_name 3 rfl) va_nil)) (show F47 cW _ Φ (.val (.tuple [.int (valO _ z false), .int (valO _ z true)])) from ⟨_, z, rfl, by rw [List.length_map]; omega, by omega, .inr ⟨hg, by rw [List.length_map]; omega, rfl⟩⟩)).is ?_) rfl S52.nd ?_
      · unfold valO lowV highV
        rw [if_neg Bool.false_ne_true, if_pos rfl, List.length_map, if_neg (by omega), if_neg (by omega), if_neg (by omega), if_neg (by omega), getD_add _ _ (by omega), getD_add _ _ (by omega)]
        simp only [Int.add_assoc]
      · refine vb_if1 (vt_chain (v_name 7 rfl) (v_name 4 rfl) (v_name 8 rfl)) (fun hc => ?_) (fun hc => ?_)
        · have hok : okAns mine theirs i (zM z) (zT z) k m = true := by
            unfold okAns
            rw [Bool.and_eq_true, decide_eq_true_eq, decide_eq_true_eq] at hc
            exact decide_eq_true hc
          refine vb_ret (v_name 6 rfl) (Rt.is hO ?_)
          unfold ansOf
          rw [if_neg (by omega), find_at hm hok hk]
          rfl
        · refine vb_nx rfl ⟨.inr rfl, .inr rfl, .inr rfl, .inr rfl, .inr rfl, .inr rfl, .inl rfl, .inl rfl, .inl rfl, True.intro⟩ fun G H h => ⟨fun y hy => ?_, h⟩
          rw [take_snoc hm, List.mem_append, List.mem_singleton] at hy
          rcases hy with hy | rfl
          · exact hk y hy
          · unfold okAns
            rw [Bool.and_eq_false_iff, decide_eq_false_iff_not, decide_eq_false_iff_not] at hc
            exact decide_eq_false fun q => hc.elim (fun n => n q.1) fun n => n q.2
    · rw [dX_len, List.take_length] at hk
      refine vb_ret (v_ixL (v_name 5 rfl) v_int (atI_dX0 (by omega))) (Rt.is hO ?_)
      unfold ansOf
      rw [if_neg (by omega), List.find?_eq_none.mpr (fun y hy => by rw [hk y hy]; exact Bool.false_ne_true)]
      rfl
theorem fn52 {W : Wd} {cW f : Addr} {fd : FuncData} (B : Bl W.mg) (C29 : Fn W "around" 6 P29 [.bool false] F29) (C47 : Fn W "exact_range" 7 ["row", "word"] [] (F47 cW)) (C40 : Fn W "row_after" 9 P33 [] F40)
    (D : FunP W "exact_answer" s52 [] f fd) (hm : W.mg "exact_answer" = some (.ref f)) : Fn W "exact_answer" 10 P52 [] F52 :=
  fn_mk D hm S52 (b52 B C29 C47 C40) fun _ _ _ _ _ _ us hl => match us, hl with | [_, _, _, _, _], _ => rfl
end K43
namespace K43
open PySem PySem.Spec PyProof.Rows L2
/-! ### objects -/
def FsOk (G : Hp) : List (Str × Sl) → List (Str × V) → Prop
  | [], [] => True
  | (f, s) :: r, (g, v) :: q => f = g ∧ SlOk G s (some v) ∧ FsOk G r q
  | _, _ => False
theorem FsOk.mono {G G2 : Hp} (e : Same G G2) : ∀ {fs : List (Str × Sl)} {vs : List (Str × V)}, FsOk G fs vs → FsOk G2 fs vs
  | [], [], _ => True.intro
  | (_, _) :: _, (_, _) :: _, h => ⟨h.1, h.2.1.mono e, FsOk.mono e h.2.2⟩
  | [], _ :: _, h => h.elim
  | _ :: _, [], h => h.elim
theorem FsOk.len {G : Hp} : ∀ {fs : List (Str × Sl)} {vs : List (Str × V)}, FsOk G fs vs → vs.length = fs.length
  | [], [], _ => rfl
  | (_, _) :: _, (_, _) :: _, h => congrArg Nat.succ (FsOk.len h.2.2)
  | [], _ :: _, h => h.elim
  | _ :: _, [], h => h.elim
theorem FsOk.at {G : Hp} {f : Str} {s : Sl} : ∀ {fs : List (Str × Sl)} {vs : List (Str × V)}, FsOk G fs vs → fs.lookup f = some s → ∃ v, vs.lookup f = some v ∧ SlOk G s (some v)
  | [], [], _, e => by cases e
  | (g, t) :: r, (g', v) :: q, h, e => by
    obtain ⟨h1, h2, h3⟩ := h
    subst h1
    rw [List.lookup_cons] at e ⊢
    cases hb : f == g with
    | true =>
      rw [hb] at e
      cases e
      exact ⟨v, rfl, h2⟩
    | false =>
      rw [hb] at e
      exact FsOk.at h3 e
  | [], _ :: _, h, _ => h.elim
  | _ :: _, [], h, _ => h.elim
theorem FsOk.no {G : Hp} {f : Str} : ∀ {fs : List (Str × Sl)} {vs : List (Str × V)}, FsOk G fs vs → fs.lookup f = none → vs.lookup f = none
  | [], [], _, _ => rfl
  | (g, t) :: r, (g', v) :: q, h, e => by
    obtain ⟨h1, h2, h3⟩ := h
    subst h1
    rw [List.lookup_cons] at e ⊢
    cases hb : f == g with
    | true =>
      rw [hb] at e
      cases e
    | false =>
      rw [hb] at e
      exact FsOk.no h3 e
  | [], _ :: _, h, _ => h.elim
  | _ :: _, [], h, _ => h.elim
def putS (f : Str) (s : Sl) : List (Str × Sl) → List (Str × Sl)
  | [] => [(f, s)]
  | (g, x) :: r => if g = f then (g, s) :: r else (g, x) :: putS f s r
theorem FsOk.put {G : Hp} {f : Str} {s : Sl} {v : V} (q : SlOk G s (some v)) : ∀ {fs : List (Str × Sl)} {vs : List (Str × V)}, FsOk G fs vs → FsOk G (putS f s fs) (putF f v vs)
  | [], [], _ => ⟨rfl, q, True.intro⟩
  | (g, t) :: r, (g', w) :: u, h => by
    obtain ⟨h1, h2, h3⟩ := h
    subst h1
    unfold putS putF
    by_cases hg : g = f
    · rw [if_pos hg, if_pos hg]
      exact ⟨rfl, q, h3⟩
    · rw [if_neg hg, if_neg hg]
      exact ⟨rfl, h2, FsOk.put q h3⟩
  | [], _ :: _, h => h.elim
  | _ :: _, [], h => h.elim
/-- an instance of the class at C, one's own -/
def As.ob (a C : Addr) (fs : List (Str × Sl)) : As := ⟨fun G H => G a = none ∧ ∃ dx vs, H a = some (.ins C dx vs) ∧ FsOk G fs vs, fun s e h => by
  obtain ⟨g, dx, vs, hx, k⟩ := h
  exact ⟨e.ow a (by rw [hx]; simp) g, dx, vs, e.hh _ _ hx, k.mono e.gg⟩⟩
theorem stp_ob {l m C : Addr} {fs : List (Str × Sl)} (h : m ≠ l) : StP l (As.ob m C fs) := fun G H o g z => by
  obtain ⟨z1, dx, vs, z2, z3⟩ := z
  exact ⟨z1, dx, vs, by rw [upd_ne h]; exact z2, z3⟩
/-- without the objects at S -/
def delS (H : Hp) (S : List Addr) : Hp := fun a => if a ∈ S then none else H a
theorem delS_in {H : Hp} {S : List Addr} {a : Addr} (h : a ∈ S) : delS H S a = none := if_pos h
theorem delS_out {H : Hp} {S : List Addr} {a : Addr} (h : a ∉ S) : delS H S a = H a := if_neg h
theorem delS_some {H : Hp} {S : List Addr} {a : Addr} {o : HO} (h : delS H S a = some o) : a ∉ S ∧ H a = some o := by
  unfold delS at h
  by_cases hs : a ∈ S
  · rw [if_pos hs] at h
    cases h
  · rw [if_neg hs] at h
    exact ⟨hs, h⟩
theorem Ext.del {G H : Hp} {S : List Addr} (s : Same G H) : Ext G (delS H S) G H := ⟨Same.refl G, fun b u e => (delS_some e).2, s, fun _ _ z => z⟩
theorem Ext.delOf {G H G2 H2 : Hp} {S : List Addr} (e : Ext G H G2 H2) : Ext G (delS H S) G2 H2 := ⟨e.gg, fun b u q => e.hh _ _ (delS_some q).2, e.gh, fun a h g => e.ow a (by
  cases q : delS H S a with
  | none => exact absurd q h
  | some o => rw [(delS_some q).2]; simp) g⟩
theorem Ext.mut {G0 H0 G H G2 H2 : Hp} {S : List Addr} (e : Ext G0 H0 G H) (m : Ext G (delS H S) G2 H2) (h : ∀ a ∈ S, H0 a = none) : Ext G0 H0 G2 H2 := by
  have out : ∀ b, H0 b ≠ none → b ∉ S := fun b hb hs => hb (h b hs)
  refine ⟨e.gg.trans m.gg, fun b u q => ?_, m.gh, fun a ha g => ?_⟩
  · have hs := out b (by rw [q]; simp)
    exact m.hh _ _ (by rw [delS_out hs]; exact e.hh _ _ q)
  · refine m.ow a ?_ (e.ow a ha g)
    rw [delS_out (out a ha)]
    cases q : H0 a with
    | none => exact absurd q ha
    | some o => rw [e.hh _ _ q]; simp
/-- an assertion that changes at S leave aside -/
def StS (S : List Addr) (Ψ : As) : Prop := ∀ G H G2 H2, Same G H → Ext G (delS H S) G2 H2 → Ψ.p G H → Ψ.p G2 H2
theorem sts_top {S : List Addr} : StS S As.top := fun _ _ _ _ _ _ _ => True.intro
theorem sts_pu {S : List Addr} {p : Prop} : StS S ⟨fun _ _ => p, fun _ _ h => h⟩ := fun _ _ _ _ _ _ h => h
theorem sts_and {S : List Addr} {Φ Ψ : As} (h : StS S Φ) (k : StS S Ψ) : StS S (As.and Φ Ψ) := fun G H G2 H2 s e z => ⟨h G H G2 H2 s e z.1, k G H G2 H2 s e z.2⟩
theorem sts_ob {S : List Addr} {m C : Addr} {fs : List (Str × Sl)} (h : m ∉ S) : StS S (As.ob m C fs) := fun G H G2 H2 s e z => by
  obtain ⟨g, dx, vs, hx, k⟩ := z
  have q : delS H S m = some (.ins C dx vs) := by rw [delS_out h]; exact hx
  exact ⟨e.ow m (by rw [q]; simp) g, dx, vs, e.hh _ _ q, k.mono e.gg⟩
theorem sts_lst {S : List Addr} {m : Addr} {ds : List PyData} (h : m ∉ S) : StS S (As.lst m ds) := fun G H G2 H2 s e z => by
  obtain ⟨g, xs, hx, k⟩ := z
  have q : delS H S m = some (.lst xs) := by rw [delS_out h]; exact hx
  exact ⟨e.ow m (by rw [q]; simp) g, xs, e.hh _ _ q, k.mono e.gg⟩
/-! ### promises that change objects -/
inductive MOut where
  | val (d : PyData) (Φ : As)
  | exc (x : Xn)
def RtM (G H : Hp) (S : List Addr) (Q : VK) (d : PyData) (Φ : As) : Prop := ∀ v G2 H2, Ext G (delS H S) G2 H2 → Rp G2 v d → Φ.p G2 H2 → Q v H2
def MP (Q : VK) (E : XK) (G H : Hp) (S : List Addr) : MOut → Prop
  | .val d Φ => RtM G H S Q d Φ
  | .exc x => XP E x G H
abbrev FM := List Sl → As → List Addr → MOut → Prop
def spM (n : Nat) (F : FM) : Sp := fun vs H Q E => ∃ G ss Φ S o, ss.length = n ∧ Same G H ∧ SlsOk G ss vs ∧ Φ.p G H ∧ (∀ a ∈ S, G a = none) ∧ F ss Φ S o ∧ MP Q E G H S o
theorem spM_len {n : Nat} {F : FM} {vs : List V} {H : Hp} {Q : VK} {E : XK} (h : spM n F vs H Q E) : vs.length = n := by
  obtain ⟨G, ss, Φ, S, o, hn, _, k, _⟩ := h
  rw [← k.len, hn]
/-- methods -/
structure Mt (W : Wd) (C : Addr) (m : Str) (k : Nat) (ps : List Str) (F : FR) : Prop where
  ex : ∃ f fd, Meth W.K C m f ∧ FnOk W.P W.w W.K W.mg W.base (L2N.CX W.P W.w) k f fd ps (spF ps.length F) ∧ Binds W.K fd ps []
structure MtM (W : Wd) (C : Addr) (m : Str) (k : Nat) (ps : List Str) (F : FM) : Prop where
  ex : ∃ f fd, Meth W.K C m f ∧ FnOk W.P W.w W.K W.mg W.base (L2N.CX W.P W.w) k f fd ps (spM ps.length F) ∧ Binds W.K fd ps []
/-- a class that is made -/
structure MkM (W : Wd) (x : Str) (C : Addr) (k : Nat) (ps : List Str) (F : FM) : Prop where
  ex : ∃ f fd, W.mg x = some (.ref C) ∧ Mk W.K C f ∧ FnOk W.P W.w W.K W.mg W.base (L2N.CX W.P W.w) k f fd ps (spM ps.length F) ∧ Binds W.K fd ps []
def BodyM (W : Wd) (k : Nat) (N : List Str) (qual : Str) (st : Stmt) (n : Nat) (F : FM) : Prop := ∀ (f : Addr) (cdv : Value) (A : Around) (outer : List Env) (s : Shared) (H G : Hp) (Q : VK) (E : XK) (ss : List Sl) (Φ : As) (S : List Addr), Room k (A.deeper (envOfC qual (defScope st) s.heap.objs.size f cdv)) → (∀ a ∈ S, G a = none) →
  (∀ x, F ss Φ S (.exc x) → XP E x G H → VB (cxF W N qual (defScope st) f cdv A outer s H E) G G H (defBody st) Φ (ρ0 ss (N.length - n)) { nx := fun _ H' => Q .non H', rt := Q }) ∧
  (∀ d Φ', F ss Φ S (.val d Φ') → RtM G H S Q d Φ' → VB (cxF W N qual (defScope st) f cdv A outer s H E) G G (delS H S) (defBody st) Φ (ρ0 ss (N.length - n)) { nx := fun _ H' => Q .non H', rt := Q })
theorem fn_of_bodyM {W : Wd} {k : Nat} {N ps : List Str} {x qual : Str} {st : Stmt} {F : FM} {kws : List (Str × V)} {f : Addr} {fd : FuncData} (D : FunD W.K x qual (defArgs st) (defBody st) (defScope st) [] kws f fd) (S : FnScope N ps (defScope st)) (b : BodyM W k N qual st ps.length F) :
    FnOk W.P W.w W.K W.mg W.base (L2N.CX W.P W.w) (k + 1) f fd ps (spM ps.length F) :=
  D.ok S (fun vs H Q E h => spM_len h) fun cdv A outer s H vs Q E hr h => by
    obtain ⟨G, ss, Φ, S, o, hn, hs, hk, hφ, hS, hF, hO⟩ := h
    have e : N.length - ps.length = N.length - vs.length := by rw [← hn, hk.len]
    refine ⟨WB (cxF W N qual (defScope st) f cdv A outer s H E) (defBody st), wb, ?_⟩
    obtain ⟨b1, b2⟩ := b f cdv A outer s H G Q E ss Φ S hr hS
    have sr : SR G (ρ0 ss (N.length - ps.length)) (start N vs) := by
      rw [e]
      exact SR.start _ hk
    cases o with
    | exc x => exact b1 x hF hO _ G H (Same.refl G) (Ext.refl hs) sr hφ
    | val d Φ' => exact b2 d Φ' hF hO _ G H (Same.refl G) (Ext.del hs) sr hφ
section
variable {W : Wd} {X : Cx} {Φ Φ' Ψ : As} {ρ : List Sl} {a b e o tg : Expr} {es : List Expr} {pos p apos : Pos} {E : XK} {Gm G0 H0 : Hp} {D : Ends} {rest A B : List Stmt}
/-! ### fields -/
theorem v_fld {l C : Addr} {fs : List (Str × Sl)} {f : Str} {d : PyData} (hs : VV X Φ ρ o (.ref l)) (hp : ∀ G H, Φ.p G H → (As.ob l C fs).p G H) (c : Cls X.K C) (n : NoAttr X.K C f) (hl : fs.lookup f = some (.d d) := by rfl) (hb : attributeBase o f X.env (eval o X.env) = eval o X.env := by rfl) : VE X Φ ρ (.Attribute o f pos) d := fun σ G H s r φ Q q =>
  we_of (pe_fld we hb) (hs σ G H s r φ _ fun G1 H1 e1 => by
    obtain ⟨g, dx, vs, hx, k⟩ := hp G1 H1 (Φ.st s e1 φ)
    obtain ⟨v, h1, h2⟩ := k.at hl
    exact ⟨l, C, dx, vs, v, rfl, hx, c, n, h1, q v G1 H1 e1 h2⟩)
theorem vv_fld {l C : Addr} {fs : List (Str × Sl)} {f : Str} {v : V} (hs : VV X Φ ρ o (.ref l)) (hp : ∀ G H, Φ.p G H → (As.ob l C fs).p G H) (c : Cls X.K C) (n : NoAttr X.K C f) (hl : fs.lookup f = some (.v v) := by rfl) (hb : attributeBase o f X.env (eval o X.env) = eval o X.env := by rfl) : VV X Φ ρ (.Attribute o f pos) v := fun σ G H s r φ Q q =>
  we_of (pe_fld we hb) (hs σ G H s r φ _ fun G1 H1 e1 => by
    obtain ⟨g, dx, vs, hx, k⟩ := hp G1 H1 (Φ.st s e1 φ)
    obtain ⟨v, h1, h2⟩ := k.at hl
    cases h2
    exact ⟨l, C, dx, vs, _, rfl, hx, c, n, h1, q G1 H1 e1⟩)
/-- o.f = e -/
theorem vb_fld {l C : Addr} {fs : List (Str × Sl)} {f : Str} {d : PyData} {p' : Pos} (he : VE X (As.and (As.ob l C fs) Ψ) ρ e d) (hs : VV X (As.and (As.ob l C fs) Ψ) ρ o (.ref l)) (c : Cls X.K C) (n : NoAttr X.K C f) (h0 : H0 l = none) (hp : StP l Ψ) (k : VB X Gm G0 H0 rest (As.and (As.ob l C (putS f (.d d) fs)) Ψ) ρ D) (hz : fs.length < 1000 := by decide)
    (hsw : swapsWith e (some (.Attribute o f p')) pos.line X.env = pure false := by rfl) : VB X Gm G0 H0 (.Assign [.Attribute o f p'] e pos :: rest) (As.and (As.ob l C fs) Ψ) ρ D := fun σ G H m z r φ =>
  wb_cons (ws_of (ps_fld we we hsw) (he σ G H z.gh r φ _ fun v G1 H1 e1 rv => hs σ G1 H1 e1.gh (r.mono e1.gg) ((As.and (As.ob l C fs) Ψ).st z.gh e1 φ) _ fun G2 H2 e2 => by
    have e12 := e1.trans e2
    obtain ⟨⟨g, dx, vs, hx, kk⟩, ψ⟩ := (As.and (As.ob l C fs) Ψ).st z.gh e12 φ
    exact ⟨l, C, dx, vs, rfl, hx, c, n, by rw [kk.len]; exact hz, k σ G2 _ (m.trans e12.gg) ((z.trans e12).put h0 g) (r.mono e12.gg) ⟨⟨g, dx, _, upd_same, kk.put (s := .d d) (rv.mono e2.gg)⟩, hp G2 H2 _ g ψ⟩⟩))
theorem vb_fldV {l C : Addr} {fs : List (Str × Sl)} {f : Str} {v : V} {p' : Pos} (he : VV X (As.and (As.ob l C fs) Ψ) ρ e v) (hs : VV X (As.and (As.ob l C fs) Ψ) ρ o (.ref l)) (c : Cls X.K C) (n : NoAttr X.K C f) (h0 : H0 l = none) (hp : StP l Ψ) (k : VB X Gm G0 H0 rest (As.and (As.ob l C (putS f (.v v) fs)) Ψ) ρ D) (hz : fs.length < 1000 := by decide)
    (hsw : swapsWith e (some (.Attribute o f p')) pos.line X.env = pure false := by rfl) : VB X Gm G0 H0 (.Assign [.Attribute o f p'] e pos :: rest) (As.and (As.ob l C fs) Ψ) ρ D := fun σ G H m z r φ =>
  wb_cons (ws_of (ps_fld we we hsw) (he σ G H z.gh r φ _ fun G1 H1 e1 => hs σ G1 H1 e1.gh (r.mono e1.gg) ((As.and (As.ob l C fs) Ψ).st z.gh e1 φ) _ fun G2 H2 e2 => by
    have e12 := e1.trans e2
    obtain ⟨⟨g, dx, vs, hx, kk⟩, ψ⟩ := (As.and (As.ob l C fs) Ψ).st z.gh e12 φ
    exact ⟨l, C, dx, vs, rfl, hx, c, n, by rw [kk.len]; exact hz, k σ G2 _ (m.trans e12.gg) ((z.trans e12).put h0 g) (r.mono e12.gg) ⟨⟨g, dx, _, upd_same, kk.put (s := .v v) rfl⟩, hp G2 H2 _ g ψ⟩⟩))
/-- o.f -= e, ints -/
theorem vb_fldsub {l C : Addr} {fs : List (Str × Sl)} {f : Str} {i j : Int} {tpos : Pos} (he : VE X (As.and (As.ob l C fs) Ψ) ρ e (.int j)) (hs : VV X (As.and (As.ob l C fs) Ψ) ρ o (.ref l)) (c : Cls X.K C) (n : NoAttr X.K C f) (hl : fs.lookup f = some (.d (.int i))) (h0 : H0 l = none) (hp : StP l Ψ) (k : VB X Gm G0 H0 rest (As.and (As.ob l C (putS f (.d (.int (i - j))) fs)) Ψ) ρ D) (hz : fs.length < 1000 := by decide) :
    VB X Gm G0 H0 (.AugAssign (.Attribute o f tpos) .Sub e pos :: rest) (As.and (As.ob l C fs) Ψ) ρ D := fun σ G H m z r φ =>
  wb_cons (ws_of (ps_fldaug we we in_sub) (hs σ G H z.gh r φ _ fun G1 H1 e1 => by
    have φ1 := (As.and (As.ob l C fs) Ψ).st z.gh e1 φ
    obtain ⟨⟨g, dx, vs, hx, kk⟩, _⟩ := φ1
    obtain ⟨v, h1, h2⟩ := kk.at hl
    have h2' : Rp G1 v (.int i) := h2
    cases h2'
    refine ⟨l, C, dx, vs, _, rfl, hx, c, n, h1, he σ G1 H1 e1.gh (r.mono e1.gg) ((As.and (As.ob l C fs) Ψ).st z.gh e1 φ) _ fun w G2 H2 e2 rw' => ?_⟩
    cases rw'
    have e12 := e1.trans e2
    obtain ⟨⟨g2, dx2, vs2, hx2, kk2⟩, ψ⟩ := (As.and (As.ob l C fs) Ψ).st z.gh e12 φ
    exact ⟨i, j, rfl, rfl, dx2, vs2, hx2, by rw [kk2.len]; exact hz, k σ G2 _ (m.trans e12.gg) ((z.trans e12).put h0 g2) (r.mono e12.gg) ⟨⟨g2, dx2, _, upd_same, kk2.put (s := .d (.int (i - j))) (.int _)⟩, hp G2 H2 _ g2 ψ⟩⟩))
/-! ### method calls -/
theorem meth_of {l C : Addr} {fs : List (Str × Sl)} {mn : Str} {k : Nat} {ps : List Str} {F : FR} {ss : List Sl} {r : Out} {E' : XK} {pl : Sem Bool} (hW : InW W X) (M : Mt W C mn k ps F) (hr : Room k X.A) (hx : Wish X E') (c : Cls X.K C) (hs : VV X Φ ρ o (.ref l)) (hp : ∀ G H, Φ.p G H → (As.ob l C fs).p G H) (hn : fs.lookup mn = none)
    (ha : VA X Φ ρ (e :: es) ss) (hl : ss.length + 1 = ps.length) (hF : F (.v (.ref l) :: ss) Φ r) (hst : starEach (e :: es) X.env = (false, eval e X.env) :: starEach es X.env) (hpl : (backTo pos (starEach es X.env)).any (·.1) = false)
    (ht : eval (.Call (.Attribute o mn apos) (e :: es) [] pos) X.env = (do
      let ov ← eval o X.env
      standAt apos.atName
      let (f, first) ← holding [ov] (getMethod ov mn pl)
      callWith pos f first (backTo pos (starEach (e :: es) X.env)) (backToKw pos (keywordEach [] X.env))))
    {σ : L2.St} {G H : Hp} {Q : VK} (s : Same G H) (rr : SR G ρ σ) (φ : Φ.p G H) (q : ∀ G1 H1, Ext G H G1 H1 → OP Q E' G1 H1 r) : WE X (.Call (.Attribute o mn apos) (e :: es) [] pos) σ H Q := by
  obtain ⟨h1, h2, h3, h4, h5⟩ := hW
  obtain ⟨g, fd, me, Fo, bn⟩ := M.ex
  obtain ⟨WP, Ww, WK, Wm, Wb⟩ := W
  subst h1 h2 h3 h4 h5
  refine we_of (pe_meth we c me Fo hr bn .nil hx wa hst hpl ht) (hs σ G H s rr φ _ fun G1 H1 e1 => ?_)
  obtain ⟨g1, dx, vs, hx1, kk⟩ := hp G1 H1 (Φ.st s e1 φ)
  refine ⟨l, dx, vs, rfl, hx1, kk.no hn, ha σ G1 H1 e1.gh (rr.mono e1.gg) (Φ.st s e1 φ) _ fun ws G2 H2 e2 k2 => ?_⟩
  have e12 := e1.trans e2
  refine ⟨G2, .v (.ref l) :: ss, Φ, r, by rw [List.length_cons]; omega, e12.gh, ?_, Φ.st s e12 φ, hF, q G2 H2 e12⟩
  rw [List.append_nil]
  exact ⟨rfl, k2⟩
theorem meth0_of {l C : Addr} {fs : List (Str × Sl)} {mn : Str} {k : Nat} {F : FR} {p1 : Str} {r : Out} {E' : XK} {pl : Sem Bool} (hW : InW W X) (M : Mt W C mn k [p1] F) (hr : Room k X.A) (hx : Wish X E') (c : Cls X.K C) (hs : VV X Φ ρ o (.ref l)) (hp : ∀ G H, Φ.p G H → (As.ob l C fs).p G H) (hn : fs.lookup mn = none)
    (hF : F [.v (.ref l)] Φ r)
    (ht : eval (.Call (.Attribute o mn apos) [] [] pos) X.env = (do
      let ov ← eval o X.env
      standAt apos.atName
      let (f, first) ← holding [ov] (getMethod ov mn pl)
      callWith pos f first (backTo pos (starEach [] X.env)) (backToKw pos (keywordEach [] X.env))))
    {σ : L2.St} {G H : Hp} {Q : VK} (s : Same G H) (rr : SR G ρ σ) (φ : Φ.p G H) (q : ∀ G1 H1, Ext G H G1 H1 → OP Q E' G1 H1 r) : WE X (.Call (.Attribute o mn apos) [] [] pos) σ H Q := by
  obtain ⟨h1, h2, h3, h4, h5⟩ := hW
  obtain ⟨g, fd, me, Fo, bn⟩ := M.ex
  obtain ⟨WP, Ww, WK, Wm, Wb⟩ := W
  subst h1 h2 h3 h4 h5
  refine we_of (pe_meth0 we c me Fo hr bn .nil hx ht) (hs σ G H s rr φ _ fun G1 H1 e1 => ?_)
  obtain ⟨g1, dx, vs, hx1, kk⟩ := hp G1 H1 (Φ.st s e1 φ)
  exact ⟨l, dx, vs, rfl, hx1, kk.no hn, G1, [.v (.ref l)], Φ, r, rfl, e1.gh, ⟨rfl, True.intro⟩, Φ.st s e1 φ, hF, q G1 H1 e1⟩
theorem v_meth {l C : Addr} {fs : List (Str × Sl)} {mn : Str} {k j : Nat} {ps : List Str} {F : FR} {ss : List Sl} {d : PyData} {pl : Sem Bool} (hW : InW W X) (M : Mt W C mn k ps F) (hr : Room j X.A) (c : Cls X.K C) (hs : VV X Φ ρ o (.ref l)) (hp : ∀ G H, Φ.p G H → (As.ob l C fs).p G H)
    (ha : VA X Φ ρ (e :: es) ss) (hF : F (.v (.ref l) :: ss) Φ (.val d)) (hj : k ≤ j := by decide) (hn : fs.lookup mn = none := by rfl) (hl : ss.length + 1 = ps.length := by rfl) (hst : starEach (e :: es) X.env = (false, eval e X.env) :: starEach es X.env := by rfl) (hpl : (backTo pos (starEach es X.env)).any (·.1) = false := by rfl)
    (ht : eval (.Call (.Attribute o mn apos) (e :: es) [] pos) X.env = (do
      let ov ← eval o X.env
      standAt apos.atName
      let (f, first) ← holding [ov] (getMethod ov mn pl)
      callWith pos f first (backTo pos (starEach (e :: es) X.env)) (backToKw pos (keywordEach [] X.env))) := by rfl) : VE X Φ ρ (.Call (.Attribute o mn apos) (e :: es) [] pos) d := fun σ G H s rr φ Q q =>
  meth_of hW M (hr.mono hj) wish0 c hs hp hn ha hl hF hst hpl ht s rr φ fun G1 H1 e1 v G2 H2 e2 k => q v G2 H2 (e1.trans e2) k
theorem x_meth {l C : Addr} {fs : List (Str × Sl)} {mn : Str} {k j : Nat} {ps : List Str} {F : FR} {ss : List Sl} {x : Xn} {pl : Sem Bool} (hW : InW W X) (hx : Wish X E) (M : Mt W C mn k ps F) (hr : Room j X.A) (c : Cls X.K C) (hs : VV X Φ ρ o (.ref l)) (hp : ∀ G H, Φ.p G H → (As.ob l C fs).p G H)
    (ha : VA X Φ ρ (e :: es) ss) (hF : F (.v (.ref l) :: ss) Φ (.exc x)) (hj : k ≤ j := by decide) (hn : fs.lookup mn = none := by rfl) (hl : ss.length + 1 = ps.length := by rfl) (hst : starEach (e :: es) X.env = (false, eval e X.env) :: starEach es X.env := by rfl) (hpl : (backTo pos (starEach es X.env)).any (·.1) = false := by rfl)
    (ht : eval (.Call (.Attribute o mn apos) (e :: es) [] pos) X.env = (do
      let ov ← eval o X.env
      standAt apos.atName
      let (f, first) ← holding [ov] (getMethod ov mn pl)
      callWith pos f first (backTo pos (starEach (e :: es) X.env)) (backToKw pos (keywordEach [] X.env))) := by rfl) : VR X E Φ ρ (.Call (.Attribute o mn apos) (e :: es) [] pos) x := fun σ G H s rr φ z Q =>
  meth_of hW M (hr.mono hj) hx c hs hp hn ha hl hF hst hpl ht s rr φ fun G1 H1 e1 => z.ext e1
theorem v_meth0 {l C : Addr} {fs : List (Str × Sl)} {mn : Str} {k j : Nat} {p1 : Str} {F : FR} {d : PyData} {pl : Sem Bool} (hW : InW W X) (M : Mt W C mn k [p1] F) (hr : Room j X.A) (c : Cls X.K C) (hs : VV X Φ ρ o (.ref l)) (hp : ∀ G H, Φ.p G H → (As.ob l C fs).p G H)
    (hF : F [.v (.ref l)] Φ (.val d)) (hj : k ≤ j := by decide) (hn : fs.lookup mn = none := by rfl)
    (ht : eval (.Call (.Attribute o mn apos) [] [] pos) X.env = (do
      let ov ← eval o X.env
      standAt apos.atName
      let (f, first) ← holding [ov] (getMethod ov mn pl)
      callWith pos f first (backTo pos (starEach [] X.env)) (backToKw pos (keywordEach [] X.env))) := by rfl) : VE X Φ ρ (.Call (.Attribute o mn apos) [] [] pos) d := fun σ G H s rr φ Q q =>
  meth0_of hW M (hr.mono hj) wish0 c hs hp hn hF ht s rr φ fun G1 H1 e1 v G2 H2 e2 k => q v G2 H2 (e1.trans e2) k
theorem x_meth0 {l C : Addr} {fs : List (Str × Sl)} {mn : Str} {k j : Nat} {p1 : Str} {F : FR} {x : Xn} {pl : Sem Bool} (hW : InW W X) (hx : Wish X E) (M : Mt W C mn k [p1] F) (hr : Room j X.A) (c : Cls X.K C) (hs : VV X Φ ρ o (.ref l)) (hp : ∀ G H, Φ.p G H → (As.ob l C fs).p G H)
    (hF : F [.v (.ref l)] Φ (.exc x)) (hj : k ≤ j := by decide) (hn : fs.lookup mn = none := by rfl)
    (ht : eval (.Call (.Attribute o mn apos) [] [] pos) X.env = (do
      let ov ← eval o X.env
      standAt apos.atName
      let (f, first) ← holding [ov] (getMethod ov mn pl)
      callWith pos f first (backTo pos (starEach [] X.env)) (backToKw pos (keywordEach [] X.env))) := by rfl) : VR X E Φ ρ (.Call (.Attribute o mn apos) [] [] pos) x := fun σ G H s rr φ z Q =>
  meth0_of hW M (hr.mono hj) hx c hs hp hn hF ht s rr φ fun G1 H1 e1 => z.ext e1
end
end K43
namespace K43
open PySem PySem.Spec PyProof.Rows L2
/-- the heap holds at least Hc -/
def As.dom (Hc : Hp) : As := ⟨fun _ H => Same Hc H, fun _ e h => h.trans e.hh⟩
theorem stp_dom {l : Addr} {Hc : Hp} (h : Hc l = none) : StP l (As.dom Hc) := fun G H o g z b u q => by
  rw [upd_ne (ne_of_none q h)]
  exact z b u q
section
variable {W : Wd} {X : Cx} {Φ Φ' Ψ : As} {ρ : List Sl} {a b e o tg : Expr} {es : List Expr} {pos p apos : Pos} {E : XK} {Gm G0 H0 : Hp} {D : Ends} {rest A B : List Stmt}
/-! ### ends of bodies that change objects -/
theorem vb_endM {G H : Hp} {S : List Addr} {Q : VK} (h : RtM G H S Q .none Φ') (hf : ∀ G H, Φ.p G H → Φ'.p G H) : VB X Gm G (delS H S) [] Φ ρ { nx := fun _ H' => Q .non H', rt := Q } := vb_nil fun σ G2 H2 m e r f => h .non G2 H2 e .non (hf _ _ f)
theorem vb_retM {G H : Hp} {S : List Addr} {Q : VK} {d : PyData} (he : VE X Φ ρ e d) (h : RtM G H S Q d Φ') (hf : ∀ G H, Φ.p G H → Φ'.p G H) (hD : D.rt = Q := by rfl) : VB X Gm G (delS H S) (.Return (some e) pos :: rest) Φ ρ D := fun σ G2 H2 m x r f =>
  wb_cons (ws_of (ps_ret we) (he σ G2 H2 x.gh r f _ fun v G3 H3 e3 k => by
    show D.rt v H3
    rw [hD]
    exact h v G3 H3 (x.trans e3) k (hf _ _ (Φ.st x.gh e3 f))))
/-! ### calls that change objects -/
def VEm (X : Cx) (S : List Addr) (Φ Φ' : As) (ρ : List Sl) (e : Expr) (d : PyData) : Prop := ∀ σ G H, Same G H → SR G ρ σ → Φ.p G H → ∀ Q : VK, (∀ v G2 H2, Ext G (delS H S) G2 H2 → Rp G2 v d → Φ'.p G2 H2 → Q v H2) → WE X e σ H Q
def VTm (X : Cx) (S : List Addr) (Φ Φ' : As) (ρ : List Sl) (e : Expr) (c : Bool) : Prop := ∀ σ G H, Same G H → SR G ρ σ → Φ.p G H → ∀ Q : Bool → Hp → Prop, (∀ G2 H2, Ext G (delS H S) G2 H2 → Φ'.p G2 H2 → Q c H2) → WT X e σ H Q
theorem v_methM {l C : Addr} {fs : List (Str × Sl)} {mn : Str} {k j : Nat} {ps : List Str} {F : FM} {ss : List Sl} {d : PyData} {S : List Addr} {pl : Sem Bool} (hW : InW W X) (M : MtM W C mn k ps F) (hr : Room j X.A) (c : Cls X.K C) (hs : VV X (As.and Φ Ψ) ρ o (.ref l)) (hp : ∀ G H, Φ.p G H → (As.ob l C fs).p G H)
    (hS : ∀ G H, Φ.p G H → ∀ a ∈ S, G a = none) (hΨ : StS S Ψ) (ha : VA X (As.and Φ Ψ) ρ (e :: es) ss) (hF : F (.v (.ref l) :: ss) Φ S (.val d Φ')) (hj : k ≤ j := by decide) (hn : fs.lookup mn = none := by rfl) (hl : ss.length + 1 = ps.length := by rfl)
    (hst : starEach (e :: es) X.env = (false, eval e X.env) :: starEach es X.env := by rfl) (hpl : (backTo pos (starEach es X.env)).any (·.1) = false := by rfl)
    (ht : eval (.Call (.Attribute o mn apos) (e :: es) [] pos) X.env = (do
      let ov ← eval o X.env
      standAt apos.atName
      let (f, first) ← holding [ov] (getMethod ov mn pl)
      callWith pos f first (backTo pos (starEach (e :: es) X.env)) (backToKw pos (keywordEach [] X.env))) := by rfl) : VEm X S (As.and Φ Ψ) (As.and Φ' Ψ) ρ (.Call (.Attribute o mn apos) (e :: es) [] pos) d := fun σ G H s rr φ Q q => by
  obtain ⟨h1, h2, h3, h4, h5⟩ := hW
  obtain ⟨g, fd, me, Fo, bn⟩ := M.ex
  obtain ⟨WP, Ww, WK, Wm, Wb⟩ := W
  subst h1 h2 h3 h4 h5
  refine we_of (pe_meth we c me Fo (hr.mono hj) bn .nil wish0 wa hst hpl ht) (hs σ G H s rr φ _ fun G1 H1 e1 => ?_)
  obtain ⟨g1, dx, vs, hx1, kk⟩ := hp G1 H1 ((As.and Φ Ψ).st s e1 φ).1
  refine ⟨l, dx, vs, rfl, hx1, kk.no hn, ha σ G1 H1 e1.gh (rr.mono e1.gg) ((As.and Φ Ψ).st s e1 φ) _ fun ws G2 H2 e2 k2 => ?_⟩
  have e12 := e1.trans e2
  obtain ⟨φ2, ψ2⟩ := (As.and Φ Ψ).st s e12 φ
  refine ⟨G2, .v (.ref l) :: ss, Φ, S, .val d Φ', by rw [List.length_cons]; omega, e12.gh, ?_, φ2, hS _ _ φ2, hF, fun v G3 H3 e3 k3 φ3 => ?_⟩
  · rw [List.append_nil]
    exact ⟨rfl, k2⟩
  · exact q v G3 H3 (e12.delOf.mut e3 fun a h => delS_in h) k3 ⟨φ3, hΨ G2 H2 G3 H3 e12.gh e3 ψ2⟩
theorem x_methM {l C : Addr} {fs : List (Str × Sl)} {mn : Str} {k j : Nat} {ps : List Str} {F : FM} {ss : List Sl} {x : Xn} {S : List Addr} {pl : Sem Bool} (hW : InW W X) (hx : Wish X E) (M : MtM W C mn k ps F) (hr : Room j X.A) (c : Cls X.K C) (hs : VV X Φ ρ o (.ref l)) (hp : ∀ G H, Φ.p G H → (As.ob l C fs).p G H)
    (hS : ∀ G H, Φ.p G H → ∀ a ∈ S, G a = none) (ha : VA X Φ ρ (e :: es) ss) (hF : F (.v (.ref l) :: ss) Φ S (.exc x)) (hj : k ≤ j := by decide) (hn : fs.lookup mn = none := by rfl) (hl : ss.length + 1 = ps.length := by rfl)
    (hst : starEach (e :: es) X.env = (false, eval e X.env) :: starEach es X.env := by rfl) (hpl : (backTo pos (starEach es X.env)).any (·.1) = false := by rfl)
    (ht : eval (.Call (.Attribute o mn apos) (e :: es) [] pos) X.env = (do
      let ov ← eval o X.env
      standAt apos.atName
      let (f, first) ← holding [ov] (getMethod ov mn pl)
      callWith pos f first (backTo pos (starEach (e :: es) X.env)) (backToKw pos (keywordEach [] X.env))) := by rfl) : VR X E Φ ρ (.Call (.Attribute o mn apos) (e :: es) [] pos) x := fun σ G H s rr φ z Q => by
  obtain ⟨h1, h2, h3, h4, h5⟩ := hW
  obtain ⟨g, fd, me, Fo, bn⟩ := M.ex
  obtain ⟨WP, Ww, WK, Wm, Wb⟩ := W
  subst h1 h2 h3 h4 h5
  refine we_of (pe_meth we c me Fo (hr.mono hj) bn .nil hx wa hst hpl ht) (hs σ G H s rr φ _ fun G1 H1 e1 => ?_)
  obtain ⟨g1, dx, vs, hx1, kk⟩ := hp G1 H1 (Φ.st s e1 φ)
  refine ⟨l, dx, vs, rfl, hx1, kk.no hn, ha σ G1 H1 e1.gh (rr.mono e1.gg) (Φ.st s e1 φ) _ fun ws G2 H2 e2 k2 => ?_⟩
  have e12 := e1.trans e2
  refine ⟨G2, .v (.ref l) :: ss, Φ, S, .exc x, by rw [List.length_cons]; omega, e12.gh, ?_, Φ.st s e12 φ, hS _ _ (Φ.st s e12 φ), hF, z.ext e12⟩
  rw [List.append_nil]
  exact ⟨rfl, k2⟩
theorem vtm_val {S : List Addr} {c : Bool} (h : VEm X S Φ Φ' ρ e (.bool c)) (he : ∀ whole, isTrue e X.env whole = (do let v ← whole; standAt e.pos; holding [v] (truthy v)) := by intro _; rfl) : VTm X S Φ Φ' ρ e c := fun σ G H s r f Q q =>
  wt_of (pt_val we he) (h σ G H s r f _ fun v G1 H1 e1 r1 f1 => by
    cases r1
    exact ⟨c, rfl, q G1 H1 e1 f1⟩)
theorem vtm_notN {S : List Addr} {d : PyData} {j : Nat} {p2 : Pos} (h : VEm X S Φ Φ' ρ e d) : VTm X S Φ Φ' ρ (.Compare e [.IsNot] [.Constant .none j p2] pos) (!isN d) := fun σ G H s r f Q q =>
  wt_of (pt_cmpR op_notN we pe_non (nomark _)) (h σ G H s r f _ fun v G1 H1 e1 r1 f1 => ⟨rfl, _, rfl, by
    rw [isN_rp r1]
    exact q G1 H1 e1 f1⟩)
theorem vb_ifM {S : List Addr} {c : Bool} (hc : VTm X S Φ Φ' ρ a c) (h0 : ∀ a ∈ S, H0 a = none) (h1 : c = true → VB X Gm G0 H0 A Φ' ρ { D with nx := fun σ' H' => WB X rest D σ' H' }) (h2 : c = false → VB X Gm G0 H0 B Φ' ρ { D with nx := fun σ' H' => WB X rest D σ' H' }) :
    VB X Gm G0 H0 (.If a A B pos :: rest) Φ ρ D := fun σ G H m x r f =>
  wb_cons (ws_of (ps_if wt wb wb) (hc σ G H x.gh r f _ fun G2 H2 e2 f2 => by
    have ee := x.mut e2 h0
    cases c with
    | true =>
      rw [if_pos rfl]
      exact h1 rfl σ G2 H2 (m.trans e2.gg) ee (r.mono e2.gg) f2
    | false =>
      rw [if_neg Bool.false_ne_true]
      exact h2 rfl σ G2 H2 (m.trans e2.gg) ee (r.mono e2.gg) f2))
/-! ### making an object -/
def VM (X : Cx) (Φ : As) (ρ : List Sl) (e : Expr) (K : Addr → Hp → As) : Prop := ∀ σ G H, Same G H → SR G ρ σ → Φ.p G H → ∀ Q : VK, (∀ a Hc G2 H2, (∀ b, Hc b = none → H b = none) → Ext G H G2 H2 → Hc a = none → (K a Hc).p G2 H2 → Q (.ref a) H2) → WE X e σ H Q
theorem make_at {H : Hp} {x dx C : Addr} (h1 : H x = none) (h2 : H dx = none) (h3 : dx ≠ x) {G : Hp} (s : Same G H) : Ext G H G (upd (upd H dx (.own x)) x (.ins C dx [])) :=
  (Ext.own s h2).trans (Ext.own (s.trans (same_new h2)) (by rw [upd_ne (Ne.symm h3)]; exact h1))
theorem v_make {x : Str} {C : Addr} {k j : Nat} {ps : List Str} {F : FM} {ss : List Sl} {K : Addr → Hp → As} (hW : InW W X) (M : MkM W x C k ps F) (hr : Room j X.A) (ha : VA X Φ ρ (e :: es) ss)
    (hF : ∀ l Hc, Hc l = none → F (.v (.ref l) :: ss) (As.and (As.ob l C []) (As.and (As.dom Hc) Φ)) [l] (.val .none (K l Hc))) (hj : k + 1 ≤ j := by decide) (hl : ss.length + 1 = ps.length := by rfl) (hg : Gl X x := by rfl) (hdb : (x == ("__debug__" : Str)) = false := by decide)
    (he : starEach (e :: es) X.env = (false, eval e X.env) :: starEach es X.env := by rfl) (hpl : (backTo pos (starEach es X.env)).any (·.1) = false := by rfl) : VM X Φ ρ (.Call (.Name x p) (e :: es) [] pos) K := fun σ G H s rr φ Q q => by
  obtain ⟨h1, h2, h3, h4, h5⟩ := hW
  obtain ⟨g, fd, m, mk, Fo, bn⟩ := M.ex
  obtain ⟨WP, Ww, WK, Wm, Wb⟩ := W
  subst h1 h2 h3 h4 h5
  refine we_of (pe_make mk Fo (hr.mono hj) hg m bn .nil wish0 wa hdb he hpl) (ha σ G H s rr φ _ fun ws G2 H2 e2 k2 l dx hl0 hd0 hne => ?_)
  have em := make_at (C := C) hl0 hd0 hne e2.gh
  have φ2 := Φ.st s (e2.trans em) φ
  refine ⟨G2, .v (.ref l) :: ss, As.and (As.ob l C []) (As.and (As.dom H2) Φ), [l], .val .none (K l H2), by rw [List.length_cons]; omega, em.gh, ?_, ⟨⟨e2.gh.free hl0, dx, [], upd_same, True.intro⟩, em.hh, φ2⟩, fun a h => ?_, hF l H2 hl0, fun v G3 H3 e3 r3 φ3 => ?_⟩
  · rw [List.append_nil]
    exact ⟨rfl, k2⟩
  · rw [List.mem_singleton.mp h]
    exact e2.gh.free hl0
  · cases r3
    exact ⟨rfl, q l H2 G3 H3 (fun b hb => e2.hh.free hb) ((e2.trans em).mut e3 fun a h => by rw [List.mem_singleton.mp h]; exact e2.hh.free hl0) hl0 φ3⟩
theorem x_make {x : Str} {C : Addr} {k j : Nat} {ps : List Str} {F : FM} {ss : List Sl} {z : Xn} (hW : InW W X) (hx : Wish X E) (M : MkM W x C k ps F) (hr : Room j X.A) (ha : VA X Φ ρ (e :: es) ss)
    (hF : ∀ l Hc, Hc l = none → F (.v (.ref l) :: ss) (As.and (As.ob l C []) (As.and (As.dom Hc) Φ)) [l] (.exc z)) (hj : k + 1 ≤ j := by decide) (hl : ss.length + 1 = ps.length := by rfl) (hg : Gl X x := by rfl) (hdb : (x == ("__debug__" : Str)) = false := by decide)
    (he : starEach (e :: es) X.env = (false, eval e X.env) :: starEach es X.env := by rfl) (hpl : (backTo pos (starEach es X.env)).any (·.1) = false := by rfl) : VR X E Φ ρ (.Call (.Name x p) (e :: es) [] pos) z := fun σ G H s rr φ zz Q => by
  obtain ⟨h1, h2, h3, h4, h5⟩ := hW
  obtain ⟨g, fd, m, mk, Fo, bn⟩ := M.ex
  obtain ⟨WP, Ww, WK, Wm, Wb⟩ := W
  subst h1 h2 h3 h4 h5
  refine we_of (pe_make mk Fo (hr.mono hj) hg m bn .nil hx wa hdb he hpl) (ha σ G H s rr φ _ fun ws G2 H2 e2 k2 l dx hl0 hd0 hne => ?_)
  have em := make_at (C := C) hl0 hd0 hne e2.gh
  refine ⟨G2, .v (.ref l) :: ss, As.and (As.ob l C []) (As.and (As.dom H2) Φ), [l], .exc z, by rw [List.length_cons]; omega, em.gh, ?_, ⟨⟨e2.gh.free hl0, dx, [], upd_same, True.intro⟩, em.hh, Φ.st s (e2.trans em) φ⟩, fun a h => ?_, hF l H2 hl0, zz.ext (e2.trans em)⟩
  · rw [List.append_nil]
    exact ⟨rfl, k2⟩
  · rw [List.mem_singleton.mp h]
    exact e2.gh.free hl0
/-- name = C(..) -/
theorem vb_setM {x : Str} {p : Pos} {K : Addr → Hp → As} (i : Nat) (he : VM X Φ ρ e K) (hN : X.N.Nodup) (k : ∀ l Hc, (∀ b, Hc b = none → H0 b = none) → Hc l = none → VB X Gm G0 H0 rest (As.and (K l Hc) Φ) (ρ.set i (.v (.ref l))) D) (hi : X.N[i]? = some x := by rfl) (hx : Loc X.env.scope x := by first | exact Or.inl rfl | exact Or.inr rfl)
    (hs : swapsWith e (some (.Name x p)) pos.line X.env = pure false := by rfl) (hf : X.fn x = true ∨ X.env.scope.names.lookup x = some .local := by first | exact .inl rfl | exact .inr rfl) : VB X Gm G0 H0 (.Assign [.Name x p] e pos :: rest) Φ ρ D := fun σ G H m z r f =>
  wb_cons (ws_of (ps_set hN hi hx we hs hf) (he σ G H z.gh r f _ fun l Hc G2 H2 hc e2 hl kx => k l Hc (fun b hb => z.hh.free (hc b hb)) hl _ G2 H2 (m.trans e2.gg) (z.trans e2) (SR.set (s := .v (.ref l)) (o := some (.ref l)) rfl i (r.mono e2.gg)) ⟨kx, Φ.st z.gh e2 f⟩))
/-- o.f = C(..) -/
theorem vb_fldM {l C : Addr} {fs : List (Str × Sl)} {f : Str} {K : Addr → Hp → As} {p' : Pos} (he : VM X (As.and (As.ob l C fs) Ψ) ρ e K) (hs : VV X As.top ρ o (.ref l)) (c : Cls X.K C) (n : NoAttr X.K C f) (h0 : H0 l = none) (hp : StP l Ψ) (hK : ∀ m Hc, m ≠ l → StP l (K m Hc)) {Hd : Hp} (hd : ∀ G H, Ψ.p G H → Same Hd H)
    (k : ∀ m Hc, (∀ b, Hc b = none → H0 b = none) → Hc m = none → m ≠ l → Hd m = none → VB X Gm G0 H0 rest (As.and (As.ob l C (putS f (.v (.ref m)) fs)) (As.and (K m Hc) Ψ)) ρ D) (hz : fs.length < 1000 := by decide)
    (hsw : swapsWith e (some (.Attribute o f p')) pos.line X.env = pure false := by rfl) : VB X Gm G0 H0 (.Assign [.Attribute o f p'] e pos :: rest) (As.and (As.ob l C fs) Ψ) ρ D := fun σ G H m z r φ =>
  wb_cons (ws_of (ps_fld we we hsw) (he σ G H z.gh r φ _ fun q Hc G1 H1 hc e1 hq kq => hs σ G1 H1 e1.gh (r.mono e1.gg) True.intro _ fun G2 H2 e2 => by
    have e12 := e1.trans e2
    have ne : q ≠ l := fun e => by
      obtain ⟨⟨g, dx, vs, hx, kk⟩, _⟩ := φ
      have := hc q hq
      rw [e, hx] at this
      cases this
    obtain ⟨⟨g, dx, vs, hx, kk⟩, ψ⟩ := (As.and (As.ob l C fs) Ψ).st z.gh e12 φ
    exact ⟨l, C, dx, vs, rfl, hx, c, n, by rw [kk.len]; exact hz, k q Hc (fun b hb => z.hh.free (hc b hb)) hq ne ((hd _ _ φ.2).free (hc q hq)) σ G2 _ (m.trans e12.gg) ((z.trans e12).put h0 g) (r.mono e12.gg) ⟨⟨g, dx, _, upd_same, kk.put (s := .v (.ref q)) rfl⟩, hK q Hc ne G2 H2 _ g ((K q Hc).st e1.gh e2 kq), hp G2 H2 _ g ψ⟩⟩))
end
end K43
namespace K43
open PySem PySem.Spec PyProof.Rows L2
/-- what is known of a plain class -/
structure Cl (W : Wd) (C : Addr) (ns : List Str) : Prop where
  c : Cls W.K C
  no : ∀ f ∈ ns, NoAttr W.K C f
abbrev fO : List Str := ["mine", "theirs", "my_left", "their_left"]
def fsO (mine theirs : List Int) (ml tl : List Nat) : List (Str × Sl) := [("mine", .d (dL mine)), ("theirs", .d (dL theirs)), ("my_left", .d (.list (dX ml))), ("their_left", .d (.list (dX tl)))]
/-- the hands: all left indexes are there -/
structure HOkk (mine theirs : List Int) (ml tl : List Nat) : Prop where
  l1 : mine.length ≤ 1000
  l2 : mine.length = theirs.length
  m : ∀ i ∈ ml, i < mine.length
  t : ∀ i ∈ tl, i < theirs.length
  m1 : ml.length ≤ 1000
  t1 : tl.length ≤ 1000
def zI (l : List Nat) : List Int := l.map fun i : Nat => (i : Int)
theorem dX_zI (l : List Nat) : dX l = dI (zI l) := dX_dI l
theorem zI_mem {l : List Nat} {i : Int} : i ∈ zI l ↔ ∃ n : Nat, n ∈ l ∧ i = n := by
  unfold zI
  rw [List.mem_map]
  constructor
  · rintro ⟨n, h, rfl⟩
    exact ⟨n, h, rfl⟩
  · rintro ⟨n, h, rfl⟩
    exact ⟨n, h, rfl⟩
theorem zI_nat {l : List Nat} {n : Nat} : (n : Int) ∈ zI l ↔ n ∈ l := by
  rw [zI_mem]
  constructor
  · rintro ⟨m, h, e⟩
    have : n = m := by omega
    rw [this]
    exact h
  · intro h
    exact ⟨n, h, rfl⟩
theorem zI_erase (n : Nat) : ∀ l : List Nat, (zI l).erase (n : Int) = zI (l.erase n)
  | [] => rfl
  | m :: l => by
    show ((m : Int) :: zI l).erase (n : Int) = _
    rw [List.erase_cons, List.erase_cons]
    by_cases h : m = n
    · subst h
      rw [if_pos (beq_self_eq_true _), if_pos (beq_self_eq_true _)]
    · have h2 : ¬ ((m : Int) == (n : Int)) = true := by
        rw [beq_iff_eq]
        omega
      have h3 : ¬ (m == n) = true := by
        rw [beq_iff_eq]
        exact h
      rw [if_neg h2, if_neg h3, zI_erase n l]
      rfl
theorem zI_idx (n : Nat) : ∀ l : List Nat, (zI l).idxOf (n : Int) = l.idxOf n
  | [] => rfl
  | m :: l => by
    show ((m : Int) :: zI l).idxOf (n : Int) = _
    rw [List.idxOf_cons, List.idxOf_cons]
    by_cases h : m = n
    · subst h
      rw [beq_self_eq_true, beq_self_eq_true]
      rfl
    · rw [beq_eq_false_iff_ne.mpr h, beq_eq_false_iff_ne.mpr (by omega), zI_idx n l]
/-! ### OpenHands -/
abbrev m45i : Stmt := meth 45 0
abbrev m45n : Stmt := meth 45 1
abbrev m45s : Stmt := meth 45 2
abbrev m45x : Stmt := meth 45 3
abbrev m45r : Stmt := meth 45 4
/-- what the fields hold is nothing that stood in Hc -/
def Fr (Hc : Hp) (vs : List (Str × V)) : Prop := ∀ q ∈ vs, ∀ b, q.2 = .ref b → Hc b = none
theorem Fr.put {Hc : Hp} {f : Str} {v : V} (hv : ∀ b, v = .ref b → Hc b = none) : ∀ {vs : List (Str × V)}, Fr Hc vs → Fr Hc (putF f v vs)
  | [], _ => fun q hq b e => by
    rw [List.mem_singleton.mp hq] at e
    exact hv b e
  | (g, w) :: r, h => fun q hq b e => by
    unfold putF at hq
    by_cases hg : g = f
    · rw [if_pos hg] at hq
      rcases List.mem_cons.mp hq with rfl | hq
      · exact hv b e
      · exact h q (List.mem_cons_of_mem _ hq) b e
    · rw [if_neg hg] at hq
      rcases List.mem_cons.mp hq with rfl | hq
      · exact h _ List.mem_cons_self b e
      · exact Fr.put hv (vs := r) (fun q hq => h q (List.mem_cons_of_mem _ hq)) q hq b e
def As.obF (Hc : Hp) (a C : Addr) (fs : List (Str × Sl)) : As := ⟨fun G H => G a = none ∧ ∃ dx vs, H a = some (.ins C dx vs) ∧ FsOk G fs vs ∧ Fr Hc vs, fun s e h => by
  obtain ⟨g, dx, vs, hx, k, q⟩ := h
  exact ⟨e.ow a (by rw [hx]; simp) g, dx, vs, e.hh _ _ hx, k.mono e.gg, q⟩⟩
theorem obF_ob {Hc : Hp} {a C : Addr} {fs : List (Str × Sl)} {G H : Hp} (h : (As.obF Hc a C fs).p G H) : (As.ob a C fs).p G H := by
  obtain ⟨g, dx, vs, hx, k, _⟩ := h
  exact ⟨g, dx, vs, hx, k⟩
theorem obF_older {Hc Hd : Hp} {a C : Addr} {fs : List (Str × Sl)} {G H : Hp} (hd : ∀ b, Hc b = none → Hd b = none) (h : (As.obF Hc a C fs).p G H) : (As.obF Hd a C fs).p G H := by
  obtain ⟨g, dx, vs, hx, k, q⟩ := h
  exact ⟨g, dx, vs, hx, k, fun p hp b e => hd b (q p hp b e)⟩
theorem stp_obF {Hc : Hp} {l m C : Addr} {fs : List (Str × Sl)} (h : m ≠ l) : StP l (As.obF Hc m C fs) := fun G H o g z => by
  obtain ⟨z1, dx, vs, z2, z3⟩ := z
  exact ⟨z1, dx, vs, by rw [upd_ne h]; exact z2, z3⟩
section
variable {W : Wd} {X : Cx} {Φ Φ' Ψ : As} {ρ : List Sl} {a b e o tg : Expr} {es : List Expr} {pos p apos : Pos} {E : XK} {Gm G0 H0 : Hp} {D : Ends} {rest A B : List Stmt}
/-- o.f = a new list -/
theorem vb_fldN {Hc : Hp} {l C : Addr} {fs : List (Str × Sl)} {f : Str} {ds : List PyData} {p' : Pos} (he : VN X (As.and (As.obF Hc l C fs) Ψ) ρ e ds) (hs : VV X (As.and (As.obF Hc l C fs) Ψ) ρ o (.ref l)) (c : Cls X.K C) (n : NoAttr X.K C f) (h0 : H0 l = none) (hp : StP l Ψ) (hd : ∀ G H, Ψ.p G H → Same Hc H)
    (k : VB X Gm G0 H0 rest (As.and (As.obF Hc l C (putS f (.d (.list ds)) fs)) Ψ) ρ D) (hz : fs.length < 1000 := by decide) (hsw : swapsWith e (some (.Attribute o f p')) pos.line X.env = pure false := by rfl) : VB X Gm G0 H0 (.Assign [.Attribute o f p'] e pos :: rest) (As.and (As.obF Hc l C fs) Ψ) ρ D := fun σ G H m z r φ =>
  wb_cons (ws_of (ps_fld we we hsw) (he σ G H z.gh r φ _ fun q xs G1 H1 e1 hq gq hx1 kx => hs σ _ H1 (e1.still hq gq hx1).gh (r.mono (e1.still hq gq hx1).gg) ((As.and (As.obF Hc l C fs) Ψ).st z.gh (e1.still hq gq hx1) φ) _ fun G2 H2 e2 => by
    have e12 := (e1.still hq gq hx1).trans e2
    obtain ⟨⟨g, dx, vs, hx, kk, fr⟩, ψ⟩ := (As.and (As.obF Hc l C fs) Ψ).st z.gh e12 φ
    exact ⟨l, C, dx, vs, rfl, hx, c, n, by rw [kk.len]; exact hz, k σ G2 _ (m.trans e12.gg) ((z.trans e12).put h0 g) (r.mono e12.gg) ⟨⟨g, dx, _, upd_same, kk.put (s := .d (.list ds)) (Rp.mono e2.gg (.lst upd_same (kx.mono (same_new gq)))), fr.put fun b hb => by
      cases hb
      exact (hd _ _ φ.2).free hq⟩, hp G2 H2 _ g ψ⟩⟩))
/-- o.f = C(..), told what stood before -/
theorem vb_fldM2 {l C : Addr} {fs : List (Str × Sl)} {f : Str} {K : Addr → Hp → As} {p' : Pos} (he : VM X (As.and (As.ob l C fs) Ψ) ρ e K) (hs : VV X As.top ρ o (.ref l)) (c : Cls X.K C) (n : NoAttr X.K C f) (h0 : H0 l = none) (hp : StP l Ψ) (hK : ∀ m Hc, m ≠ l → StP l (K m Hc)) {Hd : Hp} (hd : ∀ G H, Ψ.p G H → Same Hd H)
    (k : ∀ m Hc, (∀ b, Hc b = none → Hd b = none) → Hc m = none → m ≠ l → VB X Gm G0 H0 rest (As.and (As.ob l C (putS f (.v (.ref m)) fs)) (As.and (K m Hc) Ψ)) ρ D) (hz : fs.length < 1000 := by decide)
    (hsw : swapsWith e (some (.Attribute o f p')) pos.line X.env = pure false := by rfl) : VB X Gm G0 H0 (.Assign [.Attribute o f p'] e pos :: rest) (As.and (As.ob l C fs) Ψ) ρ D := fun σ G H m z r φ =>
  wb_cons (ws_of (ps_fld we we hsw) (he σ G H z.gh r φ _ fun q Hc G1 H1 hc e1 hq kq => hs σ G1 H1 e1.gh (r.mono e1.gg) True.intro _ fun G2 H2 e2 => by
    have e12 := e1.trans e2
    have ne : q ≠ l := fun e => by
      obtain ⟨⟨g, dx, vs, hx, kk⟩, _⟩ := φ
      have := hc q hq
      rw [e, hx] at this
      cases this
    obtain ⟨⟨g, dx, vs, hx, kk⟩, ψ⟩ := (As.and (As.ob l C fs) Ψ).st z.gh e12 φ
    exact ⟨l, C, dx, vs, rfl, hx, c, n, by rw [kk.len]; exact hz, k q Hc (fun b hb => (hd _ _ φ.2).free (hc b hb)) hq ne σ G2 _ (m.trans e12.gg) ((z.trans e12).put h0 g) (r.mono e12.gg) ⟨⟨g, dx, _, upd_same, kk.put (s := .v (.ref q)) rfl⟩, hK q Hc ne G2 H2 _ g ((K q Hc).st e1.gh e2 kq), hp G2 H2 _ g ψ⟩⟩))
end
def F45i (cO : Addr) : FM := fun ss Φ S o => ∃ (l : Addr) (mine theirs : List Int) (Hc : Hp) (Ψ : As), ss = [.v (.ref l), .d (dL mine), .d (dL theirs)] ∧ Φ = As.and (As.ob l cO []) (As.and (As.dom Hc) Ψ) ∧ S = [l] ∧ Hc l = none ∧ mine.length ≤ 1000 ∧ theirs.length ≤ 1000 ∧
  o = .val .none (As.obF Hc l cO (fsO mine theirs (List.range mine.length) (List.range theirs.length)))
theorem M45i : FnScope ["self", "mine", "theirs"] ["self", "mine", "theirs"] (defScope m45i) := ⟨rfl, rfl, rfl, by decide +kernel, rfl, by decide +kernel, by decide +kernel⟩
theorem bm45i {W : Wd} {cO : Addr} (B : Bl W.mg) (O : Cl W cO fO) : BodyM W 0 ["self", "mine", "theirs"] "OpenHands.__init__" m45i 3 (F45i cO) := by
  intro f cdv A outer s H G Q E ss Φ S hr hS
  refine ⟨fun x hF => ?_, fun d Φ' hF hR => ?_⟩
  · obtain ⟨l, mine, theirs, Hc, Ψ, _, _, _, _, _, _, h⟩ := hF
    cases h
  · obtain ⟨l, mine, theirs, Hc, Ψ, rfl, rfl, rfl, hl, h1, h2, h⟩ := hF
    cases h
    have h0 : delS H [l] l = none := delS_in (by simp)
    refine VB.weak (Φ' := As.and (As.obF Hc l cO []) (As.dom Hc)) ?_ (SLe.refl _) fun G H h => ⟨?_, h.2.1⟩
    · refine vb_fldN (vn_list B (v_name 1 rfl)) (vv_name 0 rfl) O.c (O.no _ (by decide)) h0 (stp_dom hl) (fun _ _ h => h) ?_
      refine vb_fldN (vn_list B (v_name 2 rfl)) (vv_name 0 rfl) O.c (O.no _ (by decide)) h0 (stp_dom hl) (fun _ _ h => h) ?_ (by show 1 < 1000; decide)
      refine vb_fldN (ds := dX (List.range mine.length)) ((vn_listRg (n := mine.length) rfl B ((v_lenL B (v_name 1 rfl)).is (by rw [dI_len])) (by omega)).is (by rw [dX_dI])) (vv_name 0 rfl) O.c (O.no _ (by decide)) h0 (stp_dom hl) (fun _ _ h => h) ?_ (by show 2 < 1000; decide)
      refine vb_fldN (ds := dX (List.range theirs.length)) ((vn_listRg (n := theirs.length) rfl B ((v_lenL B (v_name 2 rfl)).is (by rw [dI_len])) (by omega)).is (by rw [dX_dI])) (vv_name 0 rfl) O.c (O.no _ (by decide)) h0 (stp_dom hl) (fun _ _ h => h) ?_ (by show 3 < 1000; decide)
      exact vb_endM hR fun _ _ h => h.1
    · obtain ⟨g, dx, vs, hx, k⟩ := h.1
      refine ⟨g, dx, vs, hx, k, fun q hq => ?_⟩
      cases vs with
      | nil => cases hq
      | cons _ _ => exact k.elim
theorem fm45i {W : Wd} {cO f : Addr} {fd : FuncData} (B : Bl W.mg) (O : Cl W cO fO) (D : FunD W.K "__init__" "OpenHands.__init__" (defArgs m45i) (defBody m45i) (defScope m45i) [] [] f fd) (hm : W.mg "OpenHands" = some (.ref cO)) (hk : Mk W.K cO f) : MkM W "OpenHands" cO 1 ["self", "mine", "theirs"] (F45i cO) :=
  ⟨f, fd, hm, hk, fn_of_bodyM D M45i (bm45i B O), D.bindsN fun _ _ _ _ _ _ us hl => match us, hl with | [_, _, _], _ => rfl⟩
/-- an assertion about the hands at l -/
def HasO (cO l : Addr) (mine theirs : List Int) (ml tl : List Nat) (Φ : As) : Prop := ∀ G H, Φ.p G H → (As.ob l cO (fsO mine theirs ml tl)).p G H
def F45n (cO : Addr) : FR := fun ss Φ o => ∃ (l : Addr) (mine theirs : List Int) (ml tl : List Nat), ss = [.v (.ref l)] ∧ HasO cO l mine theirs ml tl Φ ∧ HOkk mine theirs ml tl ∧ o = .val (.tuple [dL (ml.map fun i => mine.getD i 0), dL (tl.map fun i => theirs.getD i 0)])
theorem M45n : FnScope ["self"] ["self"] (defScope m45n) := ⟨rfl, rfl, rfl, by decide +kernel, rfl, by decide +kernel, by decide +kernel⟩
theorem bm45n {W : Wd} {cO : Addr} (O : Cl W cO fO) (C21 : Fn W "chosen" 1 ["hand", "indexes"] [] F21) : Body W 1 ["self"] "OpenHands.numbers" m45n 1 (F45n cO) := by
  intro f cdv A outer s H G Q E ss Φ o hr hF hO
  obtain ⟨l, mine, theirs, ml, tl, rfl, hp, ok, rfl⟩ := hF
  have a1 := ok.l1
  have a2 := ok.l2
  exact vb_ret (v_tup (ds := [_, _]) (va_d (v_call inW C21 hr (va_d (v_fld (vv_name 0 rfl) hp O.c (O.no _ (by decide))) (va_d (v_fld (vv_name 0 rfl) hp O.c (O.no _ (by decide))) va_nil)) ⟨mine, ml, rfl, ok.m, a1, ok.m1, rfl⟩)
    (va_d (v_call inW C21 hr (va_d (v_fld (vv_name 0 rfl) hp O.c (O.no _ (by decide))) (va_d (v_fld (vv_name 0 rfl) hp O.c (O.no _ (by decide))) va_nil)) ⟨theirs, tl, rfl, ok.t, by omega, ok.t1, rfl⟩) va_nil))) hO
theorem fm45n {W : Wd} {cO f : Addr} {fd : FuncData} (O : Cl W cO fO) (C21 : Fn W "chosen" 1 ["hand", "indexes"] [] F21) (D : FunD W.K "numbers" "OpenHands.numbers" (defArgs m45n) (defBody m45n) (defScope m45n) [] [] f fd) (hm : Meth W.K cO "numbers" f) : Mt W cO "numbers" 2 ["self"] (F45n cO) :=
  ⟨f, fd, hm, fn_of_body D M45n (bm45n O C21), D.bindsN fun _ _ _ _ _ _ us hl => match us, hl with | [_], _ => rfl⟩
def F45x (cO : Addr) : FR := fun ss Φ o => ∃ (l : Addr) (mine theirs : List Int) (ml tl : List Nat) (c : Bool), ss = [.v (.ref l), .d (.str (sideS c))] ∧ HasO cO l mine theirs ml tl Φ ∧ o = .val (.list (dX (if c then ml else tl)))
theorem M45x : FnScope ["self", "side"] ["self", "side"] (defScope m45x) := ⟨rfl, rfl, rfl, by decide +kernel, rfl, by decide +kernel, by decide +kernel⟩
theorem bm45x {W : Wd} {cO : Addr} (B : Bl W.mg) (O : Cl W cO fO) : Body W 0 ["self", "side"] "OpenHands.indexes" m45x 2 (F45x cO) := by
  intro f cdv A outer s H G Q E ss Φ o hr hF hO
  obtain ⟨l, mine, theirs, ml, tl, c, rfl, hp, rfl⟩ := hF
  refine vb_if1 ((vt_eqS (v_name 1 rfl) v_str).is (side_mine c)) (fun hc => ?_) (fun hc => ?_)
  · subst hc
    exact vb_ret (vn_list B (v_fld (vv_name 0 rfl) hp O.c (O.no _ (by decide)))).ve hO
  · subst hc
    exact vb_ret (vn_list B (v_fld (vv_name 0 rfl) hp O.c (O.no _ (by decide)))).ve hO
theorem fm45x {W : Wd} {cO f : Addr} {fd : FuncData} (B : Bl W.mg) (O : Cl W cO fO) (D : FunD W.K "indexes" "OpenHands.indexes" (defArgs m45x) (defBody m45x) (defScope m45x) [] [] f fd) (hm : Meth W.K cO "indexes" f) : Mt W cO "indexes" 1 ["self", "side"] (F45x cO) :=
  ⟨f, fd, hm, fn_of_body D M45x (bm45x B O), D.bindsN fun _ _ _ _ _ _ us hl => match us, hl with | [_, _], _ => rfl⟩
def xcard (cC : Addr) (c : Bool) (i : Int) : Xn := xn cC ["side", "index"] [.str (sideS c), .int i]
def F45s (cO cC : Addr) : FR := fun ss Φ o => ∃ (l : Addr) (mine theirs : List Int) (ml tl : List Nat) (c : Bool) (i : Int), ss = [.v (.ref l), .d (.str (sideS c)), .d (.int i)] ∧ HasO cO l mine theirs ml tl Φ ∧
  ((i ∈ zI (if c then ml else tl) ∧ o = .val (.int ((zI (if c then ml else tl)).idxOf i))) ∨ (i ∉ zI (if c then ml else tl) ∧ o = .exc (xcard cC c i)))
theorem M45s : FnScope ["self", "side", "index", "left"] ["self", "side", "index"] (defScope m45s) := ⟨rfl, rfl, rfl, by decide +kernel, rfl, by decide +kernel, by decide +kernel⟩
theorem bm45s {W : Wd} {cO cC : Addr} (O : Cl W cO fO) (XC : Xc W "BadCard" cC ["side", "index"]) (Mx : Mt W cO "indexes" 1 ["self", "side"] (F45x cO)) : Body W 3 ["self", "side", "index", "left"] "OpenHands.spot" m45s 3 (F45s cO cC) := by
  intro f cdv A outer s H G Q E ss Φ o hr hF hO
  obtain ⟨l, mine, theirs, ml, tl, c, i, rfl, hp, hF⟩ := hF
  refine vb_set 3 (d := dL (zI (if c then ml else tl))) ((v_meth inW Mx hr O.c (vv_name 0 rfl) hp (va_d (v_name 1 rfl) va_nil) ⟨l, mine, theirs, ml, tl, c, rfl, hp, rfl⟩).is (by rw [dX_zI]; rfl)) M45s.nd ?_
  refine vb_if1 (vt_nin (v_name 2 rfl) (v_name 3 rfl)) (fun hc => ?_) (fun hc => ?_)
  · have hc := ne_t hc
    rcases hF with ⟨h, _⟩ | ⟨_, rfl⟩
    · exact absurd h hc
    · exact vb_raise XC inW hr takesF rfl (va_d (v_name 1 rfl) (va_d (v_name 2 rfl) va_nil)) hO
  · have hc := ne_f hc
    rcases hF with ⟨_, rfl⟩ | ⟨h, _⟩
    · exact vb_ret (v_index (v_name 3 rfl) (v_name 2 rfl) hc) hO
    · exact absurd hc h
theorem fm45s {W : Wd} {cO cC f : Addr} {fd : FuncData} (O : Cl W cO fO) (XC : Xc W "BadCard" cC ["side", "index"]) (Mx : Mt W cO "indexes" 1 ["self", "side"] (F45x cO)) (D : FunD W.K "spot" "OpenHands.spot" (defArgs m45s) (defBody m45s) (defScope m45s) [] [] f fd) (hm : Meth W.K cO "spot" f) : Mt W cO "spot" 4 ["self", "side", "index"] (F45s cO cC) :=
  ⟨f, fd, hm, fn_of_body D M45s (bm45s O XC Mx), D.bindsN fun _ _ _ _ _ _ us hl => match us, hl with | [_, _, _], _ => rfl⟩
/-! ### remove_pair -/
def F45r (cO cC : Addr) : FM := fun ss Φ S o => ∃ (l : Addr) (mine theirs : List Int) (ml tl : List Nat) (m t : Int), ss = [.v (.ref l), .d (.int m), .d (.int t)] ∧ HasO cO l mine theirs ml tl Φ ∧ HOkk mine theirs ml tl ∧ S = [l] ∧
  ((m ∉ zI ml ∧ o = .exc (xcard cC true m)) ∨ (m ∈ zI ml ∧ t ∉ zI tl ∧ o = .exc (xcard cC false t)) ∨
    (∃ mi ti : Nat, m = mi ∧ t = ti ∧ mi ∈ ml ∧ ti ∈ tl ∧ o = .val (.bool (decide (theirs.getD ti 0 ≤ mine.getD mi 0))) (As.ob l cO (fsO mine theirs (ml.erase mi) (tl.erase ti)))))
theorem M45r : FnScope ["self", "m", "t"] ["self", "m", "t"] (defScope m45r) := ⟨rfl, rfl, rfl, by decide +kernel, rfl, by decide +kernel, by decide +kernel⟩
theorem bm45r {W : Wd} {cO cC : Addr} (O : Cl W cO fO) (XC : Xc W "BadCard" cC ["side", "index"]) (C22 : Fn W "without" 1 ["values", "value"] [] F22) (C26 : Fn W "wins" 1 ["my_number", "their_number"] [] F26) : BodyM W 3 ["self", "m", "t"] "OpenHands.remove_pair" m45r 3 (F45r cO cC) := by
  intro f cdv A outer s H G Q E ss Φ S hr hS
  refine ⟨fun x hF hX => ?_, fun d Φ' hF hR => ?_⟩
  · obtain ⟨l, mine, theirs, ml, tl, m, t, rfl, hp, ok, rfl, hF⟩ := hF
    refine vb_if1 (vt_nin (l := zI ml) (v_name 1 rfl) ((v_fld (vv_name 0 rfl) hp O.c (O.no _ (by decide))).is (by rw [dX_zI]; rfl))) (fun hc => ?_) (fun hc => ?_)
    · have hc := ne_t hc
      rcases hF with ⟨_, h⟩ | ⟨h, _⟩ | ⟨_, _, _, _, _, _, h⟩
      · cases h
        exact vb_raise (ds := [.str (sideS true), .int m]) XC inW hr takesF rfl (va_d v_str (va_d (v_name 1 rfl) va_nil)) hX
      · exact absurd h hc
      · cases h
    · have hc := ne_f hc
      refine vb_if1 (vt_nin (l := zI tl) (v_name 2 rfl) ((v_fld (vv_name 0 rfl) hp O.c (O.no _ (by decide))).is (by rw [dX_zI]; rfl))) (fun hc2 => ?_) (fun hc2 => ?_)
      · have hc2 := ne_t hc2
        rcases hF with ⟨h, _⟩ | ⟨_, _, h⟩ | ⟨_, _, _, _, _, _, h⟩
        · exact absurd hc h
        · cases h
          exact vb_raise (ds := [.str (sideS false), .int t]) XC inW hr takesF rfl (va_d v_str (va_d (v_name 2 rfl) va_nil)) hX
        · cases h
      · have hc2 := ne_f hc2
        rcases hF with ⟨h, _⟩ | ⟨_, h, _⟩ | ⟨_, _, _, _, _, _, h⟩
        · exact absurd hc h
        · exact absurd hc2 h
        · cases h
  · obtain ⟨l, mine, theirs, ml, tl, m, t, rfl, hp, ok, rfl, hF⟩ := hF
    rcases hF with ⟨_, h⟩ | ⟨_, _, h⟩ | ⟨mi, ti, rfl, rfl, hm, ht, h⟩
    · cases h
    · cases h
    · cases h
      have h0 : delS H [l] l = none := delS_in (by simp)
      have a1 := ok.m1
      have a2 := ok.t1
      refine VB.weak (Φ' := As.and (As.ob l cO (fsO mine theirs ml tl)) As.top) ?_ (SLe.refl _) fun G H h => ⟨hp G H h, True.intro⟩
      have P0 : ∀ G H, (As.and (As.ob l cO (fsO mine theirs ml tl)) As.top).p G H → (As.ob l cO (fsO mine theirs ml tl)).p G H := fun _ _ h => h.1
      have P1 : ∀ G H, (As.and (As.ob l cO (fsO mine theirs (ml.erase mi) tl)) As.top).p G H → (As.ob l cO (fsO mine theirs (ml.erase mi) tl)).p G H := fun _ _ h => h.1
      have P2 : ∀ G H, (As.and (As.ob l cO (fsO mine theirs (ml.erase mi) (tl.erase ti))) As.top).p G H → (As.ob l cO (fsO mine theirs (ml.erase mi) (tl.erase ti))).p G H := fun _ _ h => h.1
      refine vb_if1 (vt_nin (l := zI ml) (v_name 1 rfl) ((v_fld (vv_name 0 rfl) P0 O.c (O.no _ (by decide))).is (by rw [dX_zI]; rfl))) (fun hc => absurd (zI_nat.mpr hm) (ne_t hc)) (fun hc => ?_)
      refine vb_if1 (vt_nin (l := zI tl) (v_name 2 rfl) ((v_fld (vv_name 0 rfl) P0 O.c (O.no _ (by decide))).is (by rw [dX_zI]; rfl))) (fun hc => absurd (zI_nat.mpr ht) (ne_t hc)) (fun hc => ?_)
      refine vb_fld (d := .list (dX (ml.erase mi))) ((v_call inW C22 hr (va_d ((v_fld (vv_name 0 rfl) P0 O.c (O.no _ (by decide))).is (d' := dL (zI ml)) (by rw [dX_zI]; rfl)) (va_d (v_name 1 rfl) va_nil)) ⟨zI ml, mi, rfl, by unfold zI; rw [List.length_map]; exact a1, rfl⟩).is (by rw [zI_erase, dX_zI]; rfl)) (vv_name 0 rfl) O.c (O.no _ (by decide)) h0 stp_top ?_ (by show 4 < 1000; decide)
      refine vb_fld (d := .list (dX (tl.erase ti))) ((v_call inW C22 hr (va_d ((v_fld (vv_name 0 rfl) P1 O.c (O.no _ (by decide)) (d := .list (dX tl))).is (d' := dL (zI tl)) (by rw [dX_zI]; rfl)) (va_d (v_name 2 rfl) va_nil)) ⟨zI tl, ti, rfl, by unfold zI; rw [List.length_map]; exact a2, rfl⟩).is (by rw [zI_erase, dX_zI]; rfl)) (vv_name 0 rfl) O.c (O.no _ (by decide)) h0 stp_top ?_ (by show 4 < 1000; decide)
      exact vb_retM (v_call inW C26 hr (va_d (v_ixL (v_fld (vv_name 0 rfl) P2 O.c (O.no _ (by decide)) (d := dL mine)) (v_name 1 rfl) (atI_dI (ok.m _ hm))) (va_d (v_ixL (v_fld (vv_name 0 rfl) P2 O.c (O.no _ (by decide)) (d := dL theirs)) (v_name 2 rfl) (atI_dI (ok.t _ ht))) va_nil)) ⟨_, _, rfl, rfl⟩) hR fun _ _ h => h.1
theorem fm45r {W : Wd} {cO cC f : Addr} {fd : FuncData} (O : Cl W cO fO) (XC : Xc W "BadCard" cC ["side", "index"]) (C22 : Fn W "without" 1 ["values", "value"] [] F22) (C26 : Fn W "wins" 1 ["my_number", "their_number"] [] F26) (D : FunD W.K "remove_pair" "OpenHands.remove_pair" (defArgs m45r) (defBody m45r) (defScope m45r) [] [] f fd) (hm : Meth W.K cO "remove_pair" f) : MtM W cO "remove_pair" 4 ["self", "m", "t"] (F45r cO cC) :=
  ⟨f, fd, hm, fn_of_bodyM D M45r (bm45r O XC C22 C26), D.bindsN fun _ _ _ _ _ _ us hl => match us, hl with | [_, _, _], _ => rfl⟩
end K43
namespace K43
open PySem PySem.Spec PyProof.Rows L2
/-- x() makes an exception of the class at C, without fields -/
structure Xc0 (W : Wd) (x : Str) (C : Addr) : Prop where
  go : ∀ (X : Cx) (p pos : Pos), InW W X → Gl X x → (x == ("__debug__" : Str)) = false → L2N.PMk X (.Call (.Name x p) [] [] pos) (fun _ H Q => Q (.ref C) none H)
theorem xc0_mk {W : Wd} {x : Str} {C : Addr} (q : PySem.W.excIn W.K C Sx.VeT "ValueError.__new__" = true) (gC : W.mg x = some (.ref C)) (kC : PySem.W.keepIn W.K (.ref C) = true) (exC : PySem.W.subIn W.K (.ref C) (.type "BaseException") = some true) (tyC : PySem.W.typeIn W.K (.ref C) = some (.type "type")) : Xc0 W x C := by
  refine ⟨fun X p pos hW hg hdb pins s σ H Q I h => ?_⟩
  obtain ⟨h1, h2, h3, h4, h5⟩ := hW
  obtain ⟨WP, Ww, WK, Wm, Wb⟩ := W
  subst h1 h2 h3 h4 h5
  refine wpAny_Call_Name_kw (ld_glob I hg gC ?_ hdb)
  refine PySem.W.callWith_K0 I.kIn kC ?_
  show wpAny _ _ (call (.ref C) []) _ _ _
  obtain ⟨bm, N, nm, qn, bs, hdct, sn, sub, ab, col, dd, k0, k1, k2, k3, k5, mN, hC, hN, hni, T⟩ := exc_obj I.kIn q
  exact wpAny_call_exc_subT PySem.F.excBase_ValueError T hC hN hni (fun h' e hm => L2N.mk_of I hm (raises_own exC tyC) h (I.hok.gone hm.new)) (Nat.zero_le _)
section
variable {W : Wd} {X : Cx} {Φ : As} {ρ : List Sl} {a b e tg : Expr} {pos p : Pos} {Gm G0 H0 : Hp} {D : Ends} {rest : List Stmt} {E : XK}
theorem vb_raise0 {x : Str} {C : Addr} {p2 : Pos} (XC : Xc0 W x C) (hW : InW W X) (tk : L2N.Takes X (fun cls d _ H => E cls d H)) (hc : X.calm = true) (h : XP E ⟨C, none⟩ G0 H0) (hg : Gl X x := by rfl) (hdb : (x == ("__debug__" : Str)) = false := by decide) :
    VB X Gm G0 H0 (.Raise (some (.Call (.Name x p) [] [] pos)) none p2 :: rest) Φ ρ D := fun σ G H m z r φ =>
  wb_cons (ws_of (L2N.ps_raise hc tk (XC.go X p pos hW hg hdb)) (h none G H z rfl))
theorem sL_iff {z m : List Nat} : ((⟨z.toArray⟩ : Str) = ⟨m.toArray⟩) ↔ z = m := ⟨fun h => by
  injection h with h
  have h2 : z.toArray.toList = m.toArray.toList := by rw [h]
  simpa using h2, fun h => by rw [h]⟩
theorem vt_neL {x : Str} {j : Nat} {z : List Nat} {p2 : Pos} (m : List Nat) (ha : VE X Φ ρ a (.str ⟨z.toArray⟩)) (h : x = ⟨m.toArray⟩ := by decide +kernel) : VT X Φ ρ (.Compare a [.NotEq] [.Constant (.str x) j p2] pos) (!decide (z = m)) :=
  (vt_neS ha (v_strC h)).is (by rw [decide_eq_decide.mpr sL_iff])
theorem vt_eqL {x : Str} {j : Nat} {z : List Nat} {p2 : Pos} (m : List Nat) (ha : VE X Φ ρ a (.str ⟨z.toArray⟩)) (h : x = ⟨m.toArray⟩ := by decide +kernel) : VT X Φ ρ (.Compare a [.Eq] [.Constant (.str x) j p2] pos) (decide (z = m)) :=
  (vt_eqS ha (v_strC h)).is (decide_eq_decide.mpr sL_iff)
/-- z[:1] -/
theorem v_head {z : List Nat} {j : Nat} {p2 p3 : Pos} (ha : VE X Φ ρ a (.str ⟨z.toArray⟩)) (hz : z.length ≤ 1000) : VE X Φ ρ (.Subscript a (.Slice none (some (.Constant (.int 1) j p2)) none p3) pos) (.str ⟨(z.take 1).toArray⟩) :=
  (v_slS ha vo_none (vo_some v_int) (by omega)).is (by
    have := cut_all z 1
    rw [← this]
    rfl)
/-- z[1:] -/
theorem v_tail {z : List Nat} {j : Nat} {p2 p3 : Pos} (ha : VE X Φ ρ a (.str ⟨z.toArray⟩)) (hz : z.length ≤ 1000) : VE X Φ ρ (.Subscript a (.Slice (some (.Constant (.int 1) j p2)) none none p3) pos) (.str ⟨(z.drop 1).toArray⟩) :=
  (v_slS ha (vo_some v_int) vo_none (by omega)).is (by
    have := cut_from z 1
    rw [← this]
    rfl)
end
/-! ### ExactGuide -/
abbrev fG : List Str := ["needed", "word", "hands"]
def fsG (k : Int) (z : List Nat) (hh : Addr) : List (Str × Sl) := [("needed", .d (.int k)), ("word", .d (.str ⟨z.toArray⟩)), ("hands", .v (.ref hh))]
abbrev m53i : Stmt := meth 53 0
abbrev m53l : Stmt := meth 53 1
abbrev m53a : Stmt := meth 53 2
abbrev m53s : Stmt := meth 53 3
/-- a guide and its hands -/
def AsG (cG cO g hh : Addr) (k : Int) (z : List Nat) (mine theirs : List Int) (ml tl : List Nat) : As := As.and (As.ob g cG (fsG k z hh)) (As.ob hh cO (fsO mine theirs ml tl))
/-- a new guide: its hands stand at a new place -/
def AsN (cG cO g : Addr) (Hc : Hp) (k : Int) (z : List Nat) (mine theirs : List Int) : As := ⟨fun G H => ∃ hh, Hc hh = none ∧ hh ≠ g ∧ (As.and (As.ob g cG (fsG k z hh)) (As.obF Hc hh cO (fsO mine theirs (List.range mine.length) (List.range theirs.length)))).p G H, fun s e h => by
  obtain ⟨hh, h1, h2, h3⟩ := h
  exact ⟨hh, h1, h2, (As.and (As.ob g cG (fsG k z hh)) (As.obF Hc hh cO (fsO mine theirs (List.range mine.length) (List.range theirs.length)))).st s e h3⟩⟩
def xhands (cH : Addr) (a b : Nat) : Xn := xn cH ["mine_count", "theirs_count"] [.int a, .int b]
def xreach (cR : Addr) (k lo hi : Int) : Xn := xn cR ["wanted", "lowest", "highest"] [.int k, .int lo, .int hi]
structure Cs where
  H : Addr
  W : Addr
  U : Addr
  C : Addr
  R : Addr
  T : Addr
  O : Addr
  G : Addr
def F53i (c : Cs) : FM := fun ss Φ S o => ∃ (g : Addr) (mine theirs : List Int) (z : List Nat) (k : Int) (Hc : Hp) (Ψ : As), ss = [.v (.ref g), .d (dL mine), .d (dL theirs), .d (.str ⟨z.toArray⟩), .d (.int k)] ∧ Φ = As.and (As.ob g c.G []) (As.and (As.dom Hc) Ψ) ∧ S = [g] ∧ Hc g = none ∧ mine.length ≤ 1000 ∧ theirs.length ≤ 1000 ∧ z.length ≤ 1000 ∧
  ((mine.length ≠ theirs.length ∧ o = .exc (xhands c.H mine.length theirs.length)) ∨ (mine.length = theirs.length ∧ ((∃ i, WordBad z mine.length i ∧ o = .exc (xw c.W i)) ∨ (AllGd z ∧ z.length = mine.length ∧ ((∃ p : Nat, UnP z.dropLast p ∧ o = .exc (xu c.U p)) ∨ (StP2 z.dropLast ∧
    ((¬ (valO (rowOf mine theirs) z false ≤ k ∧ k ≤ valO (rowOf mine theirs) z true) ∧ o = .exc (xreach c.R k (valO (rowOf mine theirs) z false) (valO (rowOf mine theirs) z true))) ∨
      ((valO (rowOf mine theirs) z false ≤ k ∧ k ≤ valO (rowOf mine theirs) z true) ∧ o = .val .none (AsN c.G c.O g Hc k z mine theirs)))))))))
abbrev N53i : List Str := ["self", "mine", "theirs", "word", "wanted", "entries", "low", "high"]
theorem M53i : FnScope N53i ["self", "mine", "theirs", "word", "wanted"] (defScope m53i) := ⟨rfl, rfl, rfl, by decide +kernel, rfl, by decide +kernel, by decide +kernel⟩
theorem bm53i {W : Wd} {c : Cs} (B : Bl W.mg) (LG : Cl W c.G fG) (XR : Xc W "Unreachable" c.R ["wanted", "lowest", "highest"]) (C17 : Fn W "check_hands" 4 ["mine", "theirs"] [] (F17 c.H)) (C39 : Fn W "row_of" 8 ["mine", "theirs"] [] F39) (C49 : Fn W "can_force" 8 ["row", "word", "wanted"] [] (F49 c.W c.U)) (C47 : Fn W "exact_range" 7 ["row", "word"] [] (F47 c.W)) (MO : MkM W "OpenHands" c.O 1 ["self", "mine", "theirs"] (F45i c.O)) :
    BodyM W 8 N53i "ExactGuide.__init__" m53i 5 (F53i c) := by
  intro f cdv A outer s H G Q E ss Φ S hr hS
  refine ⟨fun x hF hX => ?_, fun d Φ' hF hR => ?_⟩
  · obtain ⟨g, mine, theirs, z, k, Hc, Ψ, rfl, rfl, rfl, hg, h1, h2, h3, hF⟩ := hF
    rcases hF with ⟨ne, h⟩ | ⟨he, hF⟩
    · cases h
      exact vb_exprX (x_call inW wishF C17 hr (va_d (v_name 1 rfl) (va_d (v_name 2 rfl) va_nil)) (show F17 c.H _ _ (.exc (xhands c.H mine.length theirs.length)) from ⟨dI mine, dI theirs, rfl, by rw [dI_len]; omega, by rw [dI_len]; omega, by rw [dI_len, dI_len, if_neg ne]; rfl⟩)) hX
    · refine vb_expr (v_call (d := .none) inW C17 hr (va_d (v_name 1 rfl) (va_d (v_name 2 rfl) va_nil)) ⟨dI mine, dI theirs, rfl, by rw [dI_len]; omega, by rw [dI_len]; omega, by rw [dI_len, dI_len, if_pos he]⟩) ?_
      refine vb_set 5 (d := dL (rowOf mine theirs)) (v_call inW C39 hr (va_d (v_name 1 rfl) (va_d (v_name 2 rfl) va_nil)) ⟨mine, theirs, rfl, h1, he, rfl⟩) M53i.nd ?_
      have hrl := row_len mine theirs
      rcases hF with ⟨i, hi, h⟩ | ⟨ha, hz, hF⟩
      · cases h
        exact vb_ifX (xr_not (x_call inW wishF C49 hr (va_d (v_name 5 rfl) (va_d (v_name 3 rfl) (va_d (v_name 4 rfl) va_nil))) (show F49 c.W c.U _ _ (.exc (xw c.W i)) from ⟨rowOf mine theirs, z, k, rfl, by omega, h3, .inl ⟨i, by rw [hrl, ← he]; exact hi, rfl⟩⟩))) hX
      · rcases hF with ⟨p, hp, h⟩ | ⟨hs, hF⟩
        · cases h
          exact vb_ifX (xr_not (x_call inW wishF C49 hr (va_d (v_name 5 rfl) (va_d (v_name 3 rfl) (va_d (v_name 4 rfl) va_nil))) (show F49 c.W c.U _ _ (.exc (xu c.U p)) from ⟨rowOf mine theirs, z, k, rfl, by omega, h3, .inr ⟨ha, by omega, .inl ⟨p, hp, rfl⟩⟩⟩))) hX
        · rcases hF with ⟨hn, h⟩ | ⟨_, h⟩
          · cases h
            refine vb_if1 (vt_not (vt_val (v_call inW C49 hr (va_d (v_name 5 rfl) (va_d (v_name 3 rfl) (va_d (v_name 4 rfl) va_nil))) (show F49 c.W c.U _ _ (.val (.bool _)) from ⟨rowOf mine theirs, z, k, rfl, by omega, h3, .inr ⟨ha, by omega, .inr ⟨hs, rfl⟩⟩⟩)))) (fun _ => ?_) (fun hc => ?_)
            · refine vb_two 6 7 (v_call inW C47 hr (va_d (v_name 5 rfl) (va_d (v_name 3 rfl) va_nil)) (show F47 c.W _ _ (.val (.tuple [.int (valO (rowOf mine theirs) z false), .int (valO (rowOf mine theirs) z true)])) from ⟨rowOf mine theirs, z, rfl, by omega, h3, .inr ⟨ha, by omega, rfl⟩⟩)) rfl M53i.nd ?_
              exact vb_raise (ds := [.int k, .int (valO (rowOf mine theirs) z false), .int (valO (rowOf mine theirs) z true)]) XR inW hr takesF rfl (va_d (v_name 4 rfl) (va_d (v_name 6 rfl) (va_d (v_name 7 rfl) va_nil))) hX
            · refine absurd ?_ hn
              rw [Bool.not_eq_false', Bool.and_eq_true, decide_eq_true_eq, decide_eq_true_eq] at hc
              exact hc
          · cases h
  · obtain ⟨g, mine, theirs, z, k, Hc, Ψ, rfl, rfl, rfl, hg, h1, h2, h3, hF⟩ := hF
    rcases hF with ⟨ne, h⟩ | ⟨he, ⟨i, hi, h⟩ | ⟨ha, hz, ⟨p, hp, h⟩ | ⟨hs, ⟨hn, h⟩ | ⟨hy, h⟩⟩⟩⟩
    · cases h
    · cases h
    · cases h
    · cases h
    · cases h
      have h0 : delS H [g] g = none := delS_in (by simp)
      have hrl := row_len mine theirs
      refine VB.weak (Φ' := As.and (As.ob g c.G []) (As.dom Hc)) ?_ (SLe.refl _) fun _ _ h => ⟨h.1, h.2.1⟩
      refine vb_expr (v_call (d := .none) inW C17 hr (va_d (v_name 1 rfl) (va_d (v_name 2 rfl) va_nil)) ⟨dI mine, dI theirs, rfl, by rw [dI_len]; omega, by rw [dI_len]; omega, by rw [dI_len, dI_len, if_pos he]⟩) ?_
      refine vb_set 5 (d := dL (rowOf mine theirs)) (v_call inW C39 hr (va_d (v_name 1 rfl) (va_d (v_name 2 rfl) va_nil)) ⟨mine, theirs, rfl, h1, he, rfl⟩) M53i.nd ?_
      refine vb_if1 (vt_not (vt_val (v_call inW C49 hr (va_d (v_name 5 rfl) (va_d (v_name 3 rfl) (va_d (v_name 4 rfl) va_nil))) (show F49 c.W c.U _ _ (.val (.bool _)) from ⟨rowOf mine theirs, z, k, rfl, by omega, h3, .inr ⟨ha, by omega, .inr ⟨hs, rfl⟩⟩⟩)))) (fun hc => ?_) (fun _ => ?_)
      · rw [Bool.not_eq_true', Bool.and_eq_false_iff, decide_eq_false_iff_not, decide_eq_false_iff_not] at hc
        exact absurd hy fun q => hc.elim (fun n => n q.1) fun n => n q.2
      · refine vb_fld (v_name 4 rfl) (vv_name 0 rfl) LG.c (LG.no _ (by decide)) h0 (stp_dom hg) ?_
        refine vb_fld (v_name 3 rfl) (vv_name 0 rfl) LG.c (LG.no _ (by decide)) h0 (stp_dom hg) ?_ (by show 1 < 1000; decide)
        refine vb_fldM2 (K := fun l Hd => As.obF Hd l c.O (fsO mine theirs (List.range mine.length) (List.range theirs.length))) (v_make inW MO hr (va_d (v_name 1 rfl) (va_d (v_name 2 rfl) va_nil)) fun l Hd hl => ⟨l, mine, theirs, Hd, _, rfl, rfl, rfl, hl, h1, h2, rfl⟩) (vv_name 0 rfl) LG.c (LG.no _ (by decide)) h0 (stp_dom hg) (fun m _ hm => stp_obF hm) (Hd := Hc) (fun _ _ h => h) (fun m Hd hc hd hm => ?_) (by show 2 < 1000; decide)
        exact vb_endM hR fun G H h => ⟨m, hc m hd, hm, h.1, obF_older hc h.2.1⟩
theorem fm53i {W : Wd} {c : Cs} {f : Addr} {fd : FuncData} (B : Bl W.mg) (LG : Cl W c.G fG) (XR : Xc W "Unreachable" c.R ["wanted", "lowest", "highest"]) (C17 : Fn W "check_hands" 4 ["mine", "theirs"] [] (F17 c.H)) (C39 : Fn W "row_of" 8 ["mine", "theirs"] [] F39) (C49 : Fn W "can_force" 8 ["row", "word", "wanted"] [] (F49 c.W c.U)) (C47 : Fn W "exact_range" 7 ["row", "word"] [] (F47 c.W)) (MO : MkM W "OpenHands" c.O 1 ["self", "mine", "theirs"] (F45i c.O))
    (D : FunD W.K "__init__" "ExactGuide.__init__" (defArgs m53i) (defBody m53i) (defScope m53i) [] [] f fd) (hm : W.mg "ExactGuide" = some (.ref c.G)) (hk : Mk W.K c.G f) : MkM W "ExactGuide" c.G 9 ["self", "mine", "theirs", "word", "wanted"] (F53i c) :=
  ⟨f, fd, hm, hk, fn_of_bodyM D M53i (bm53i B LG XR C17 C39 C49 C47 MO), D.bindsN fun _ _ _ _ _ _ us hl => match us, hl with | [_, _, _, _, _], _ => rfl⟩
end K43
namespace K43
open PySem PySem.Spec PyProof.Rows L2
/-- the guide's state stands in Φ -/
structure HasG (c : Cs) (g hh : Addr) (k : Int) (z : List Nat) (mine theirs : List Int) (ml tl : List Nat) (Φ : As) : Prop where
  hg : ∀ G H, Φ.p G H → (As.ob g c.G (fsG k z hh)).p G H
  hO : ∀ G H, Φ.p G H → (As.ob hh c.O (fsO mine theirs ml tl)).p G H
/-- a state in the middle of a play -/
structure GOk (z : List Nat) (mine theirs : List Int) (ml tl : List Nat) : Prop where
  ok : HOkk mine theirs ml tl
  ha : AllGd z
  lz : z.length = ml.length
  lt : ml.length = tl.length
abbrev pk (l : List Nat) (h : List Int) : List Int := l.map fun i => h.getD i 0
theorem pk_len (l : List Nat) (h : List Int) : (pk l h).length = l.length := List.length_map ..
theorem take1_m {z : List Nat} : z.take 1 = [77] ↔ z.head? = some 77 := by
  cases z with
  | nil => simp
  | cons a z => simp
theorem take1_t {z : List Nat} : z.take 1 = [84] ↔ z.head? = some 84 := by
  cases z with
  | nil => simp
  | cons a z => simp
theorem zM_pos {z : List Nat} (h : z.head? = some 77) (hl : z.length ≠ 1) : 0 < zM z := by
  cases z with
  | nil => cases h
  | cons a z =>
    have e : a = 77 := Option.some.inj h
    subst e
    cases z with
    | nil => exact absurd rfl hl
    | cons b z =>
      unfold zM
      show 0 < List.count 77 (77 :: (b :: z).dropLast)
      rw [List.count_cons_self]
      omega
def F53l (c : Cs) : FR := fun ss Φ o => ∃ (g hh : Addr) (k : Int) (z : List Nat) (mine theirs : List Int) (ml tl : List Nat), ss = [.v (.ref g)] ∧ HasG c g hh k z mine theirs ml tl Φ ∧ z.length ≤ 1000 ∧
  ((z.head? ≠ some 77 ∧ o = .exc ⟨c.T, none⟩) ∨ (z.head? = some 77 ∧ GOk z mine theirs ml tl ∧ o = .val (.int (ml.getD (layOf (pk ml mine) (pk tl theirs) (zM z) (zT z) k) 0 : Nat))))
theorem M53l : FnScope ["self", "mine", "theirs", "at"] ["self"] (defScope m53l) := ⟨rfl, rfl, rfl, by decide +kernel, rfl, by decide +kernel, by decide +kernel⟩
theorem bm53l {W : Wd} {c : Cs} (LG : Cl W c.G fG) (LO : Cl W c.O fO) (XT : Xc0 W "OutOfTurn" c.T) (Mn : Mt W c.O "numbers" 2 ["self"] (F45n c.O)) (Mx : Mt W c.O "indexes" 1 ["self", "side"] (F45x c.O)) (C51 : Fn W "exact_lay" 8 ["mine", "theirs", "word", "needed"] [] F51) : Body W 8 ["self", "mine", "theirs", "at"] "ExactGuide.lay" m53l 1 (F53l c) := by
  intro f cdv A outer s H G Q E ss Φ o hr hF hO
  obtain ⟨g, hh, k, z, mine, theirs, ml, tl, rfl, hp, hz, hF⟩ := hF
  refine vb_if1 (vt_neL [77] (v_head (v_fld (vv_name 0 rfl) hp.hg LG.c (LG.no _ (by decide))) hz)) (fun hc => ?_) (fun hc => ?_)
  · have hc := ne_t hc
    rcases hF with ⟨_, rfl⟩ | ⟨h, _⟩
    · exact vb_raise0 XT inW takesF rfl hO
    · exact absurd (take1_m.mpr h) hc
  · have hc := take1_m.mp (ne_f hc)
    rcases hF with ⟨h, _⟩ | ⟨_, ok, rfl⟩
    · exact absurd hc h
    · have a1 := ok.ok.m1
      have a2 := ok.lz
      have a3 := ok.lt
      have a4 := pk_len ml mine
      have a5 := pk_len tl theirs
      have a6 : 0 < z.length := by
        cases z with
        | nil => cases hc
        | cons => simp
      have a7 : layOf (pk ml mine) (pk tl theirs) (zM z) (zT z) k < (pk ml mine).length := lay_mem (by omega)
      refine vb_two (c := dL (pk ml mine)) (d := dL (pk tl theirs)) 1 2 (v_meth0 inW Mn hr LO.c (vv_fld (vv_name 0 rfl) hp.hg LG.c (LG.no _ (by decide))) hp.hO ⟨hh, mine, theirs, ml, tl, rfl, hp.hO, ok.ok, rfl⟩) rfl M53l.nd ?_
      refine vb_set 3 (v_call inW C51 hr (va_d (v_name 1 rfl) (va_d (v_name 2 rfl) (va_d (v_fld (vv_name 0 rfl) hp.hg LG.c (LG.no _ (by decide))) (va_d (v_fld (vv_name 0 rfl) hp.hg LG.c (LG.no _ (by decide))) va_nil)))) ⟨pk ml mine, pk tl theirs, z, k, rfl, by omega, by omega, by omega, by omega, fun h => zM_pos hc (by omega), rfl⟩) M53l.nd ?_
      exact vb_ret (v_ixL (v_meth inW Mx hr LO.c (vv_fld (vv_name 0 rfl) hp.hg LG.c (LG.no _ (by decide))) hp.hO (va_d v_str va_nil) ⟨hh, mine, theirs, ml, tl, true, rfl, hp.hO, rfl⟩) (v_name 3 rfl) (atI_dX (by rw [if_pos rfl]; omega))) hO
theorem fm53l {W : Wd} {c : Cs} {f : Addr} {fd : FuncData} (LG : Cl W c.G fG) (LO : Cl W c.O fO) (XT : Xc0 W "OutOfTurn" c.T) (Mn : Mt W c.O "numbers" 2 ["self"] (F45n c.O)) (Mx : Mt W c.O "indexes" 1 ["self", "side"] (F45x c.O)) (C51 : Fn W "exact_lay" 8 ["mine", "theirs", "word", "needed"] [] F51)
    (D : FunD W.K "lay" "ExactGuide.lay" (defArgs m53l) (defBody m53l) (defScope m53l) [] [] f fd) (hm : Meth W.K c.G "lay" f) : Mt W c.G "lay" 9 ["self"] (F53l c) :=
  ⟨f, fd, hm, fn_of_body D M53l (bm53l LG LO XT Mn Mx C51), D.bindsN fun _ _ _ _ _ _ us hl => match us, hl with | [_], _ => rfl⟩
/-! ### answer -/
def F53a (c : Cs) : FR := fun ss Φ o => ∃ (g hh : Addr) (k : Int) (z : List Nat) (mine theirs : List Int) (ml tl : List Nat) (i : Int), ss = [.v (.ref g), .d (.int i)] ∧ HasG c g hh k z mine theirs ml tl Φ ∧ z.length ≤ 1000 ∧
  ((z.head? ≠ some 84 ∧ o = .exc ⟨c.T, none⟩) ∨ (z.head? = some 84 ∧ i ∉ zI tl ∧ o = .exc (xcard c.C false i)) ∨
    (z.head? = some 84 ∧ ∃ ti : Nat, i = ti ∧ ti ∈ tl ∧ GOk z mine theirs ml tl ∧ o = .val (.int (ml.getD (ansOf (pk ml mine) (pk tl theirs) (tl.idxOf ti) (zM (z.drop 1)) (zT (z.drop 1)) k) 0 : Nat))))
theorem M53a : FnScope ["self", "index", "laid", "mine", "theirs", "at"] ["self", "index"] (defScope m53a) := ⟨rfl, rfl, rfl, by decide +kernel, rfl, by decide +kernel, by decide +kernel⟩
theorem gd_tail {z : List Nat} (h : AllGd z) : AllGd (z.drop 1) := fun i c hc => by
  rw [List.getElem?_drop] at hc
  exact h _ c hc
theorem bm53a {W : Wd} {c : Cs} (LG : Cl W c.G fG) (LO : Cl W c.O fO) (XT : Xc0 W "OutOfTurn" c.T) (Mn : Mt W c.O "numbers" 2 ["self"] (F45n c.O)) (Mx : Mt W c.O "indexes" 1 ["self", "side"] (F45x c.O)) (Ms : Mt W c.O "spot" 4 ["self", "side", "index"] (F45s c.O c.C)) (C52 : Fn W "exact_answer" 10 P52 [] F52) : Body W 10 ["self", "index", "laid", "mine", "theirs", "at"] "ExactGuide.answer" m53a 2 (F53a c) := by
  intro f cdv A outer s H G Q E ss Φ o hr hF hO
  obtain ⟨g, hh, k, z, mine, theirs, ml, tl, i, rfl, hp, hz, hF⟩ := hF
  refine vb_if1 (vt_neL [84] (v_head (v_fld (vv_name 0 rfl) hp.hg LG.c (LG.no _ (by decide))) hz)) (fun hc => ?_) (fun hc => ?_)
  · have hc := ne_t hc
    rcases hF with ⟨_, rfl⟩ | ⟨h, _⟩ | ⟨h, _⟩
    · exact vb_raise0 XT inW takesF rfl hO
    · exact absurd (take1_t.mpr h) hc
    · exact absurd (take1_t.mpr h) hc
  · have hc := take1_t.mp (ne_f hc)
    rcases hF with ⟨h, _⟩ | ⟨_, hn, rfl⟩ | ⟨_, ti, rfl, ht, ok, rfl⟩
    · exact absurd hc h
    · exact vb_twoX (x_meth inW wishF Ms hr LO.c (vv_fld (vv_name 0 rfl) hp.hg LG.c (LG.no _ (by decide))) hp.hO (va_d v_str (va_d (v_name 1 rfl) va_nil)) (show F45s c.O c.C _ _ (.exc (xcard c.C false i)) from ⟨hh, mine, theirs, ml, tl, false, i, rfl, hp.hO, .inr ⟨hn, rfl⟩⟩)) hO wg
    · have a1 := ok.ok.m1
      have a2 := ok.lz
      have a3 := ok.lt
      have a4 := pk_len ml mine
      have a5 := pk_len tl theirs
      have a6 : 0 < z.length := by
        cases z with
        | nil => cases hc
        | cons => simp
      have a8 : tl.idxOf ti < tl.length := List.idxOf_lt_length_of_mem ht
      have a7 : ansOf (pk ml mine) (pk tl theirs) (tl.idxOf ti) (zM (z.drop 1)) (zT (z.drop 1)) k < (pk ml mine).length := ans_mem (by omega) (by omega)
      refine vb_set 2 (d := .int (tl.idxOf ti : Nat)) ((v_meth inW Ms hr LO.c (vv_fld (vv_name 0 rfl) hp.hg LG.c (LG.no _ (by decide))) hp.hO (va_d v_str (va_d (v_name 1 rfl) va_nil)) (show F45s c.O c.C _ _ (.val (.int _)) from ⟨hh, mine, theirs, ml, tl, false, ti, rfl, hp.hO, .inl ⟨zI_nat.mpr ht, rfl⟩⟩)).is (by rw [if_neg Bool.false_ne_true, zI_idx])) M53a.nd ?_
      refine vb_two (c := dL (pk ml mine)) (d := dL (pk tl theirs)) 3 4 (v_meth0 inW Mn hr LO.c (vv_fld (vv_name 0 rfl) hp.hg LG.c (LG.no _ (by decide))) hp.hO ⟨hh, mine, theirs, ml, tl, rfl, hp.hO, ok.ok, rfl⟩) rfl M53a.nd ?_
      refine vb_set 5 (v_call inW C52 hr (va_d (v_name 3 rfl) (va_d (v_name 4 rfl) (va_d (v_name 2 rfl) (va_d (v_tail (v_fld (vv_name 0 rfl) hp.hg LG.c (LG.no _ (by decide))) hz) (va_d (v_fld (vv_name 0 rfl) hp.hg LG.c (LG.no _ (by decide))) va_nil))))) ⟨pk ml mine, pk tl theirs, tl.idxOf ti, z.drop 1, k, rfl, by omega, by omega, by omega, by rw [List.length_drop]; omega, gd_tail ok.ha, rfl⟩) M53a.nd ?_
      exact vb_ret (v_ixL (v_meth inW Mx hr LO.c (vv_fld (vv_name 0 rfl) hp.hg LG.c (LG.no _ (by decide))) hp.hO (va_d v_str va_nil) ⟨hh, mine, theirs, ml, tl, true, rfl, hp.hO, rfl⟩) (v_name 5 rfl) (atI_dX (by rw [if_pos rfl]; omega))) hO
theorem fm53a {W : Wd} {c : Cs} {f : Addr} {fd : FuncData} (LG : Cl W c.G fG) (LO : Cl W c.O fO) (XT : Xc0 W "OutOfTurn" c.T) (Mn : Mt W c.O "numbers" 2 ["self"] (F45n c.O)) (Mx : Mt W c.O "indexes" 1 ["self", "side"] (F45x c.O)) (Ms : Mt W c.O "spot" 4 ["self", "side", "index"] (F45s c.O c.C)) (C52 : Fn W "exact_answer" 10 P52 [] F52)
    (D : FunD W.K "answer" "ExactGuide.answer" (defArgs m53a) (defBody m53a) (defScope m53a) [] [] f fd) (hm : Meth W.K c.G "answer" f) : Mt W c.G "answer" 11 ["self", "index"] (F53a c) :=
  ⟨f, fd, hm, fn_of_body D M53a (bm53a LG LO XT Mn Mx Ms C52), D.bindsN fun _ _ _ _ _ _ us hl => match us, hl with | [_, _], _ => rfl⟩
/-! ### saw -/
def F53s (c : Cs) : FM := fun ss Φ S o => ∃ (g hh : Addr) (k : Int) (z : List Nat) (mine theirs : List Int) (ml tl : List Nat) (m t : Int), ss = [.v (.ref g), .d (.int m), .d (.int t)] ∧ HasG c g hh k z mine theirs ml tl Φ ∧ HOkk mine theirs ml tl ∧ z.length ≤ 1000 ∧ hh ≠ g ∧ S = [g, hh] ∧
  ((m ∉ zI ml ∧ o = .exc (xcard c.C true m)) ∨ (m ∈ zI ml ∧ t ∉ zI tl ∧ o = .exc (xcard c.C false t)) ∨
    (∃ mi ti : Nat, m = mi ∧ t = ti ∧ mi ∈ ml ∧ ti ∈ tl ∧ o = .val .none (AsG c.G c.O g hh (k - hit mine theirs mi ti) (z.drop 1) mine theirs (ml.erase mi) (tl.erase ti))))
theorem M53s : FnScope ["self", "m", "t"] ["self", "m", "t"] (defScope m53s) := ⟨rfl, rfl, rfl, by decide +kernel, rfl, by decide +kernel, by decide +kernel⟩
theorem bm53s {W : Wd} {c : Cs} (LG : Cl W c.G fG) (LO : Cl W c.O fO) (Mr : MtM W c.O "remove_pair" 4 ["self", "m", "t"] (F45r c.O c.C)) : BodyM W 4 ["self", "m", "t"] "ExactGuide.saw" m53s 3 (F53s c) := by
  intro f cdv A outer s H G Q E ss Φ S hr hS
  refine ⟨fun x hF hX => ?_, fun d Φ' hF hR => ?_⟩
  · obtain ⟨g, hh, k, z, mine, theirs, ml, tl, m, t, rfl, hp, ok, hz, hne, rfl, hF⟩ := hF
    have hb : F45r c.O c.C (.v (.ref hh) :: [.d (.int m), .d (.int t)]) Φ [hh] (.exc x) := ⟨hh, mine, theirs, ml, tl, m, t, rfl, hp.hO, ok, rfl, by
      rcases hF with ⟨h, e⟩ | ⟨h1, h2, e⟩ | ⟨_, _, _, _, _, _, e⟩
      · cases e
        exact .inl ⟨h, rfl⟩
      · cases e
        exact .inr (.inl ⟨h1, h2, rfl⟩)
      · cases e⟩
    exact vb_ifX (xr_test (x_methM (S := [hh]) inW wishF Mr hr LO.c (vv_fld (vv_name 0 rfl) hp.hg LG.c (LG.no _ (by decide))) hp.hO (fun G H h a ha => by
      rw [List.mem_singleton.mp ha]
      exact (hp.hO G H h).1) (va_d (v_name 1 rfl) (va_d (v_name 2 rfl) va_nil)) hb)) hX
  · obtain ⟨g, hh, k, z, mine, theirs, ml, tl, m, t, rfl, hp, ok, hz, hne, rfl, hF⟩ := hF
    rcases hF with ⟨_, h⟩ | ⟨_, _, h⟩ | ⟨mi, ti, rfl, rfl, hm, ht, h⟩
    · cases h
    · cases h
    · cases h
      have h0 : delS H [g, hh] g = none := delS_in (by simp)
      have h1 : delS H [g, hh] hh = none := delS_in (by simp)
      have P1 : ∀ G H, (As.and (As.ob hh c.O (fsO mine theirs ml tl)) (As.ob g c.G (fsG k z hh))).p G H → (As.ob g c.G (fsG k z hh)).p G H := fun _ _ h => h.2
      refine VB.weak (Φ' := As.and (As.ob hh c.O (fsO mine theirs ml tl)) (As.ob g c.G (fsG k z hh))) ?_ (SLe.refl _) fun G H h => ⟨hp.hO G H h, hp.hg G H h⟩
      have fin : ∀ k' : Int, k' = k - hit mine theirs mi ti → VB (cxF W ["self", "m", "t"] "ExactGuide.saw" (defScope m53s) f cdv A outer s H E) G G (delS H [g, hh]) ((defBody m53s).drop 1) (As.and (As.ob g c.G (fsG k' z hh)) (As.ob hh c.O (fsO mine theirs (ml.erase mi) (tl.erase ti)))) (ρ0 [.v (.ref g), .d (.int mi), .d (.int ti)] 0) { nx := fun _ H' => Q .non H', rt := Q } := fun k' hk => by
        have P2 : ∀ G H, (As.and (As.ob g c.G (fsG k' z hh)) (As.ob hh c.O (fsO mine theirs (ml.erase mi) (tl.erase ti)))).p G H → (As.ob g c.G (fsG k' z hh)).p G H := fun _ _ h => h.1
        refine vb_fld (d := .str ⟨(z.drop 1).toArray⟩) (v_tail (v_fld (vv_name 0 rfl) P2 LG.c (LG.no _ (by decide))) hz) (vv_name 0 rfl) LG.c (LG.no _ (by decide)) h0 (stp_ob hne) ?_ (by show 3 < 1000; decide)
        subst hk
        exact vb_endM hR fun _ _ h => h
      refine vb_ifM (S := [hh]) (vtm_val (v_methM (S := [hh]) inW Mr hr LO.c (vv_fld (vv_name 0 rfl) P1 LG.c (LG.no _ (by decide))) (fun _ _ h => h) (fun G H h a ha => by
        rw [List.mem_singleton.mp ha]
        exact h.1) (sts_ob (by simp; exact Ne.symm hne)) (va_d (v_name 1 rfl) (va_d (v_name 2 rfl) va_nil)) ⟨hh, mine, theirs, ml, tl, mi, ti, rfl, fun _ _ h => h, ok, rfl, .inr (.inr ⟨mi, ti, rfl, rfl, hm, ht, rfl⟩)⟩)) (fun a ha => by rw [List.mem_singleton.mp ha]; exact h1) (fun hc => ?_) (fun hc => ?_)
      · refine VB.weak (Φ' := As.and (As.ob g c.G (fsG k z hh)) (As.ob hh c.O (fsO mine theirs (ml.erase mi) (tl.erase ti)))) ?_ (SLe.refl _) fun G H h => ⟨h.2, h.1⟩
        refine vb_fldsub (i := k) v_int (vv_name 0 rfl) LG.c (LG.no _ (by decide)) rfl h0 (stp_ob hne) (vb_fall (fin (k - 1) ?_)) (by show 3 < 1000; decide)
        unfold hit
        rw [if_pos (of_decide_eq_true hc)]
      · refine VB.weak (Φ' := As.and (As.ob g c.G (fsG k z hh)) (As.ob hh c.O (fsO mine theirs (ml.erase mi) (tl.erase ti)))) (vb_fall (fin k ?_)) (SLe.refl _) fun G H h => ⟨h.2, h.1⟩
        unfold hit
        rw [if_neg (of_decide_eq_false hc)]
        omega
theorem fm53s {W : Wd} {c : Cs} {f : Addr} {fd : FuncData} (LG : Cl W c.G fG) (LO : Cl W c.O fO) (Mr : MtM W c.O "remove_pair" 4 ["self", "m", "t"] (F45r c.O c.C))
    (D : FunD W.K "saw" "ExactGuide.saw" (defArgs m53s) (defBody m53s) (defScope m53s) [] [] f fd) (hm : Meth W.K c.G "saw" f) : MtM W c.G "saw" 5 ["self", "m", "t"] (F53s c) :=
  ⟨f, fd, hm, fn_of_bodyM D M53s (bm53s LG LO Mr), D.bindsN fun _ _ _ _ _ _ us hl => match us, hl with | [_, _, _], _ => rfl⟩
end K43
namespace K43
open PySem PySem.Spec PyProof.Rows L2
/-! ### _law_cell -/
abbrev s55 : Stmt := top 55
def cellOf (ns : List Int) (k : Nat) : Int := if k < ns.length then ns.getD k 0 else if 0 < ns.length then ns.getD 0 0 + 104729 * ((k : Int) + 1) else 104729 * ((k : Int) + 1)
/-- the script: a list that nothing writes -/
def As.scr (K : PySem.W.Frag) (a : Addr) (ns : List Int) : As := ⟨fun _ H => SqL K H a (ns.map V.int), fun _ e h => h.elim (fun h => .inl (h.elim (fun h => .inl (e.hh _ _ h)) fun ⟨o, h⟩ => .inr ⟨o, e.hh _ _ h⟩)) .inr⟩
def Scr (K : PySem.W.Frag) (a : Addr) (ns : List Int) (Φ : As) : Prop := ∀ G H, Φ.p G H → SqL K H a (ns.map V.int)
section
variable {X : Cx} {Φ : As} {ρ : List Sl} {a b : Expr} {pos p : Pos}
theorem v_lenF {l : Addr} {ns : List Int} (B : Bl X.mg) (hs : VV X Φ ρ a (.ref l)) (hp : Scr X.K l ns Φ) (hg : Gl X "len" := by rfl) (he : starEach [a] X.env = (false, eval a X.env) :: starEach [] X.env := by rfl) (hpl : (backTo pos (starEach [] X.env)).any (·.1) = false := by rfl) : VE X Φ ρ (.Call (.Name "len" p) [a] [] pos) (.int ns.length) := fun σ G H s k f Q q =>
  we_of (pe_callB call_len hg B.len (by decide +kernel) wa (by decide) (by decide) he hpl) (va_v hs va_nil he σ G H s k f _ fun vs G1 H1 e1 k1 => by
    match vs, k1 with
    | [v], k1 =>
      have e : v = .ref l := Option.some.inj k1.1
      subst e
      refine ⟨_, _, rfl, Or.inl ⟨_, hp G1 H1 (Φ.st s e1 f), rfl⟩, q _ G1 H1 e1 ?_⟩
      rw [List.length_map]
      exact .int _)
theorem v_ixF {l : Addr} {ns : List Int} {j i : Int} (hs : VV X Φ ρ a (.ref l)) (hp : Scr X.K l ns Φ) (hb : VE X Φ ρ b (.int j)) (hj : atI (dI ns) j = some (.int i)) (hpx : PlainIx b := by exact fun _ _ => rfl) : VE X Φ ρ (.Subscript a b pos) (.int i) := fun σ G H s r φ Q q =>
  we_of (pe_ix ix_list we we hpx) (hs σ G H s r φ _ fun G1 H1 e1 => hb σ G1 H1 e1.gh (r.mono e1.gg) (Φ.st s e1 φ) _ fun w G2 H2 e2 rw' => by
    cases rw'
    have hx : atI (ns.map V.int) j = some (.int i) := by
      unfold atI dI at hj
      unfold atI
      rw [List.length_map] at hj ⊢
      cases e : ixN ns.length j with
      | none =>
        rw [e] at hj
        cases hj
      | some n =>
        rw [e] at hj
        have hj : (ns.map PyData.int)[n]? = some (.int i) := hj
        show (ns.map V.int)[n]? = some (.int i)
        rw [List.getElem?_map] at hj ⊢
        cases e2 : ns[n]? with
        | none =>
          rw [e2] at hj
          cases hj
        | some x =>
          rw [e2] at hj
          cases hj
          rfl
    exact ⟨l, _, j, _, rfl, rfl, hp G2 H2 (Φ.st s (e1.trans e2) φ), hx, q _ G2 H2 (e1.trans e2) (.int _)⟩)
end
def F55 (K : PySem.W.Frag) : FR := fun ss Φ o => ∃ (a : Addr) (ns : List Int) (k : Nat), ss = [.v (.ref a), .d (.int k)] ∧ Scr K a ns Φ ∧ ns.length ≤ 1000 ∧ k ≤ 1000 ∧ o = .val (.int (cellOf ns k))
abbrev P55 : List Str := ["_law_script", "_law_k"]
theorem S55 : FnScope P55 P55 (defScope s55) := ⟨rfl, rfl, rfl, by decide +kernel, rfl, by decide +kernel, by decide +kernel⟩
theorem cmul_small {i j : Int} (h : -1000000 ≤ i ∧ i ≤ 1000000) : CMul i j := by
  unfold CMul
  omega
theorem b55 {W : Wd} (B : Bl W.mg) : Body W 0 P55 "_law_cell" s55 2 (F55 W.K) := by
  intro f cdv A outer s H G Q E ss Φ o hr hF hO
  obtain ⟨a, ns, k, rfl, hS, h1, h2, rfl⟩ := hF
  have e1 : ∀ {Φ ρ}, ρ[1]? = some (Sl.d (.int (k : Int))) → VE (cxF W P55 "_law_cell" (defScope s55) f cdv A outer s H E) Φ ρ (.Name "_law_k" ⟨0, 0, 0, 0⟩) (.int k) := fun h => v_name 1 h
  refine vb_if1 (vt_lt (v_name 1 rfl) (v_lenF B (vv_name 0 rfl) hS)) (fun hc => ?_) (fun hc => ?_)
  · have hc := of_decide_eq_true hc
    refine vb_ret (v_intI B (v_ixF (vv_name 0 rfl) hS (v_name 1 rfl) (atI_dI (by omega)))) (Rt.is hO ?_)
    unfold cellOf
    rw [if_pos (by omega)]
  · have hc := of_decide_eq_false hc
    refine vb_if1 (vt_gt (v_lenF B (vv_name 0 rfl) hS) v_int) (fun hc2 => ?_) (fun hc2 => ?_)
    · have hc2 := of_decide_eq_true hc2
      refine vb_ret (v_add (v_intI B (v_ixF (i := ns.getD 0 0) (vv_name 0 rfl) hS v_int (atI_dI (i := 0) (by omega)))) (v_mul v_int (v_add (v_name 1 rfl) v_int) (cmul_small (by decide)))) (Rt.is hO ?_)
      unfold cellOf
      rw [if_neg (by omega), if_pos (by omega)]
    · have hc2 := of_decide_eq_false hc2
      refine vb_ret (v_mul v_int (v_add (v_name 1 rfl) v_int) (cmul_small (by decide))) (Rt.is hO ?_)
      unfold cellOf
      rw [if_neg (by omega), if_neg (by omega)]
theorem fn55 {W : Wd} {f : Addr} {fd : FuncData} (B : Bl W.mg) (D : FunP W "_law_cell" s55 [] f fd) (hm : W.mg "_law_cell" = some (.ref f)) : Fn W "_law_cell" 1 P55 [] (F55 W.K) :=
  fn_mk D hm S55 (b55 B) fun _ _ _ _ _ _ us hl => match us, hl with | [_, _], _ => rfl
/-! ### _law_draws -/
abbrev s56 : Stmt := top 56
abbrev P56 : List Str := ["_law_cell_here", "_law_sizes"]
abbrev N56 : List Str := ["_law_cell_here", "_law_sizes", "_law_digits", "_law_great", "_law_first", "_law_out", "_law_k", "_law_mixed"]
def dgs (gr : Bool) (S : List Int) (d : Int) : Nat → Int
  | 0 => d
  | i + 1 => if gr && decide (0 < dgs gr S d i) then dgs gr S d i / S.getD i 1 else dgs gr S d i
def mix1 (a : Int) (k : Nat) : Int := (a + 7919 * k + 13) % 2147483647
def mix2 (b : Int) : Int := (b * (b + 48271)) % 2147483629
def mix3 (b : Int) (k : Nat) : Int := (b * (b + 69621) + 31 * k) % 2147483647
def drwV (gr : Bool) (S : List Int) (d : Int) (i : Nat) : Int := if gr && decide (0 < dgs gr S d i) then dgs gr S d i % S.getD i 1 else (mix3 (mix2 (mix1 d i)) i / 9) % S.getD i 1
def absI (c : Int) : Int := if c < 0 then -c else c
def drawsOf (c : Int) (S : List Int) : List Int := (List.range S.length).map (drwV (decide ((10 : Int) ^ (18 : Int).toNat ≤ absI c)) S (absI c))
theorem draws_len (c : Int) (S : List Int) : (drawsOf c S).length = S.length := by
  unfold drawsOf
  rw [List.length_map, List.length_range]
def SzOk (S : List Int) : Prop := S.length ≤ 1000 ∧ ∀ s ∈ S, 0 < s ∧ s < 2 ^ 60
theorem draws_at {c : Int} {S : List Int} (h : SzOk S) {i : Nat} (hi : i < S.length) : ∃ x, (drawsOf c S)[i]? = some x ∧ 0 ≤ x ∧ x < S.getD i 1 := by
  have hs : 0 < S.getD i 1 := by
    rw [List.getD_eq_getElem?_getD, List.getElem?_eq_getElem hi]
    exact (h.2 _ (List.getElem_mem hi)).1
  refine ⟨_, by unfold drawsOf; rw [List.getElem?_map, List.getElem?_range hi]; rfl, ?_, ?_⟩
  · unfold drwV
    split <;> exact Int.emod_nonneg _ (by omega)
  · unfold drwV
    split <;> exact Int.emod_lt_of_pos _ hs
theorem draws_getD {c : Int} {S : List Int} (h : SzOk S) {i : Nat} (hi : i < S.length) : 0 ≤ (drawsOf c S).getD i 0 ∧ (drawsOf c S).getD i 0 < S.getD i 1 := by
  obtain ⟨x, e, h1, h2⟩ := draws_at (c := c) h hi
  rw [List.getD_eq_getElem?_getD, e]
  exact ⟨h1, h2⟩
def F56 : FR := fun ss _ o => ∃ (c : Int) (S : List Int), ss = [.d (.int c), .d (dL S)] ∧ SzOk S ∧ o = .val (dL (drawsOf c S))
theorem S56 : FnScope N56 P56 (defScope s56) := ⟨rfl, rfl, rfl, by decide +kernel, rfl, by decide +kernel, by decide +kernel⟩
theorem atI_dI1 {l : List Int} {i : Nat} (h : i < l.length) : atI (dI l) (i : Int) = some (.int (l.getD i 1)) := by
  rw [atI_dI h, List.getD_eq_getElem?_getD, List.getD_eq_getElem?_getD, List.getElem?_eq_getElem h]
  rfl
theorem cmod {x m : Int} (hm : 0 < m) (h : m < 2 ^ 63) : ∀ y, CMul (x % m) y := fun y => by
  have h1 := Int.emod_nonneg x (by omega : m ≠ 0)
  have h2 := Int.emod_lt_of_pos x hm
  unfold CMul
  omega
theorem cdivw {i j : Int} (h : 0 < j) (h2 : j < 2 ^ 60) : CDivW i j := by
  refine ⟨h, ?_⟩
  have h3 : j.natAbs ≠ 0 := by omega
  have h4 : j.natAbs < 2 ^ 60 := by omega
  exact Nat.lt_of_lt_of_le ((Nat.log2_lt h3).mpr h4) (by decide)
theorem b56 {W : Wd} (B : Bl W.mg) : Body W 0 N56 "_law_draws" s56 2 F56 := by
  intro f cdv A outer s H G Q E ss Φ o hr hF hO
  obtain ⟨c, S, rfl, hS, rfl⟩ := hF
  have h1 := hS.1
  refine VB.weak (Φ' := As.top) ?_ (SLe.refl _) fun _ _ _ => True.intro
  refine vb_set 2 (d := .int (absI c)) (v_abs B (v_intI B (v_name 0 rfl))) S56.nd ?_
  refine vb_set 3 (v_ge (v_name 2 rfl) (v_pow v_int v_int (by unfold CPow; decide))) S56.nd ?_
  refine vb_set 4 (v_name 2 rfl) S56.nd (vb_new 5 (vn_lst (ds := []) va_nil) S56.nd fun l hl => ?_)
  refine vb_for (ds := rgD S.length) (is := [6]) (f := fun d ρ => ρ.set 6 (.d d)) (fun i => [.d (.int c), .d (dL S), .d (.int (dgs (decide ((10 : Int) ^ (18 : Int).toNat ≤ absI c)) S (absI c) i)), .d (.bool (decide ((10 : Int) ^ (18 : Int).toNat ≤ absI c))), .d (.int (absI c)), .v (.ref l), .no, .no])
    (fun i => As.and (As.lst l (dI ((List.range i).map (drwV (decide ((10 : Int) ^ (18 : Int).toNat ≤ absI c)) S (absI c))))) As.top) ownF rfl (vi_range B ((v_lenL B (v_name 1 rfl)).is (by rw [dI_len])) (by omega)) (fun d _ => vg_name 6 S56.nd)
    ⟨.inr rfl, .inr rfl, .inr rfl, .inr rfl, .inr rfl, .inr rfl, .inl rfl, .inl rfl, True.intro⟩ (fun G H h => h) (fun Gm' _ i d hd => ?_) ?_
  · obtain ⟨hi, rfl⟩ := rgD_at hd
    have hs : 0 < S.getD i 1 ∧ S.getD i 1 < 2 ^ 60 := by
      rw [List.getD_eq_getElem?_getD, List.getElem?_eq_getElem hi]
      exact hS.2 _ (List.getElem_mem hi)
    refine vb_if (vw_and (vt_val (v_name 3 rfl)) (fun _ => vw_and1 (vt_gt (v_name 2 rfl) v_int))).vt (fun hc => ?_) (fun hc => ?_)
    · refine vb_app 5 rfl (v_mod (v_intI B (v_name 2 rfl)) (v_ixL (v_name 1 rfl) (v_name 6 rfl) (atI_dI1 hi)) hs.1) hl (by rw [dI_len, List.length_map, List.length_range]; omega) stp_top ?_
      refine vb_set 2 (v_div (v_name 2 rfl) (v_ixL (v_name 1 rfl) (v_name 6 rfl) (atI_dI1 hi)) (cdivw hs.1 hs.2)) S56.nd (vb_fall (vb_nx rfl ⟨.inr rfl, .inr rfl, .inr ?_, .inr rfl, .inr rfl, .inr rfl, .inl rfl, .inl rfl, True.intro⟩ ?_))
      · congr 2
        show (if _ then _ else _) = _
        rw [if_pos hc]
      · rw [List.range_succ, List.map_append, dI_snoc]
        intro G H h
        have e : drwV (decide ((10 : Int) ^ (18 : Int).toNat ≤ absI c)) S (absI c) i = dgs (decide ((10 : Int) ^ (18 : Int).toNat ≤ absI c)) S (absI c) i % S.getD i 1 := by
          unfold drwV
          rw [if_pos hc]
        rw [← e] at h
        exact h
    · refine vb_set 7 (v_mod (v_intI B (v_add (v_add (v_name 4 rfl) (v_mul v_int (v_name 6 rfl) (cmul_small (by decide)))) v_int)) v_int (by decide)) S56.nd ?_
      refine vb_set 7 (v_mod (v_intI B (v_mul (v_name 7 rfl) (v_add (v_name 7 rfl) v_int) (cmod (by decide) (by decide) _))) v_int (by decide)) S56.nd ?_
      refine vb_set 7 (v_mod (v_intI B (v_add (v_mul (v_name 7 rfl) (v_add (v_name 7 rfl) v_int) (cmod (by decide) (by decide) _)) (v_mul v_int (v_name 6 rfl) (cmul_small (by decide))))) v_int (by decide)) S56.nd ?_
      refine vb_app 5 rfl (v_mod (v_intI B (v_div (v_name 7 rfl) v_int (cdivw (by decide) (by decide)))) (v_ixL (v_name 1 rfl) (v_name 6 rfl) (atI_dI1 hi)) hs.1) hl (by rw [dI_len, List.length_map, List.length_range]; omega) stp_top (vb_fall (vb_nx rfl ⟨.inr rfl, .inr rfl, .inr ?_, .inr rfl, .inr rfl, .inr rfl, .inl rfl, .inl rfl, True.intro⟩ ?_))
      · congr 2
        show (if _ then _ else _) = _
        rw [if_neg (by rw [hc]; exact Bool.false_ne_true)]
      · rw [List.range_succ, List.map_append, dI_snoc]
        intro G H h
        have e : drwV (decide ((10 : Int) ^ (18 : Int).toNat ≤ absI c)) S (absI c) i = (mix3 (mix2 (mix1 (absI c) i)) i / 9) % S.getD i 1 := by
          unfold drwV
          rw [if_neg (by rw [hc]; exact Bool.false_ne_true)]
        show (As.and (As.lst l (dI (List.map _ (List.range i) ++ [drwV (decide ((10 : Int) ^ (18 : Int).toNat ≤ absI c)) S (absI c) i]))) As.top).p G H
        rw [e]
        exact h
  · rw [rgD_len]
    exact vb_still 5 hl rfl stf_top (vb_ret (v_name 5 rfl) hO)
theorem fn56 {W : Wd} {f : Addr} {fd : FuncData} (B : Bl W.mg) (D : FunP W "_law_draws" s56 [] f fd) (hm : W.mg "_law_draws" = some (.ref f)) : Fn W "_law_draws" 1 P56 [] F56 :=
  fn_mk D hm S56 (b56 B) fun _ _ _ _ _ _ us hl => match us, hl with | [_, _], _ => rfl
end K43
namespace K43
open PySem PySem.Spec PyProof.Rows L2
/-! ### _law_hand -/
abbrev s57 : Stmt := top 57
abbrev P57 : List Str := ["_law_cell_here", "_law_count", "_law_kind"]
abbrev N57 : List Str := ["_law_cell_here", "_law_count", "_law_kind", "_law_x", "_law_k"]
def rp (n : Nat) (s : Int) : List Int := (List.range n).map fun _ => s
theorem rp_len (n : Nat) (s : Int) : (rp n s).length = n := by unfold rp; rw [List.length_map, List.length_range]
theorem rp_getD {n : Nat} {s : Int} {i : Nat} (h : i < n) : (rp n s).getD i 1 = s := by
  unfold rp
  rw [List.getD_eq_getElem?_getD, List.getElem?_map, List.getElem?_range h]
  rfl
theorem rp_ok {n : Nat} {s : Int} (h1 : n ≤ 1000) (h2 : 0 < s) (h3 : s < 2 ^ 60) : SzOk (rp n s) := ⟨by rw [rp_len]; exact h1, fun x hx => by
  unfold rp at hx
  obtain ⟨_, _, rfl⟩ := List.mem_map.mp hx
  exact ⟨h2, h3⟩⟩
def handOf (c : Int) (n : Nat) (kind : Int) : List Int :=
  if kind = 0 then (drawsOf c (rp n 3)).map fun x => x - 1
  else if kind = 1 then (drawsOf c (rp n (2 * (n : Int) + 1))).map fun x => x - n
  else if kind = 2 then (drawsOf c (rp n (2 * 10 ^ (15 : Int).toNat + 1))).map fun x => x - 10 ^ (15 : Int).toNat
  else drawsOf c (rp n ((n : Int) + 2))
theorem hand_len (c : Int) (n : Nat) (kind : Int) : (handOf c n kind).length = n := by
  unfold handOf
  split
  · rw [List.length_map, draws_len, rp_len]
  · split
    · rw [List.length_map, draws_len, rp_len]
    · split
      · rw [List.length_map, draws_len, rp_len]
      · rw [draws_len, rp_len]
def F57 : FR := fun ss _ o => ∃ (c : Int) (n : Nat) (kind : Int), ss = [.d (.int c), .d (.int n), .d (.int kind)] ∧ n ≤ 1000 ∧ o = .val (dL (handOf c n kind))
theorem S57 : FnScope N57 P57 (defScope s57) := ⟨rfl, rfl, rfl, by decide +kernel, rfl, by decide +kernel, by decide +kernel⟩
theorem dI_map (l : List Int) (g : Int → Int) : (l.filter fun _ => true).map (fun x => PyData.int (g x)) = dI (l.map g) := by
  rw [filt_true]
  unfold dI
  rw [List.map_map]
  rfl
theorem rp_dI (n : Nat) (s : Int) : ((List.range n).filter fun _ => true).map (fun _ => PyData.int s) = dI (rp n s) := by
  rw [filt_true]
  unfold dI rp
  rw [List.map_map]
  rfl
theorem b57 {W : Wd} (B : Bl W.mg) (C56 : Fn W "_law_draws" 1 P56 [] F56) : Body W 1 N57 "_law_hand" s57 3 F57 := by
  intro f cdv A outer s H G Q E ss Φ o hr hF hO
  obtain ⟨c, n, kind, rfl, h1, rfl⟩ := hF
  have p1 : (0 : Int) < 2 * 10 ^ (15 : Int).toNat + 1 ∧ (2 : Int) * 10 ^ (15 : Int).toNat + 1 < 2 ^ 60 := by decide
  refine vb_if1 (vt_eqI (v_name 2 rfl) v_int) (fun hc => ?_) (fun hc => ?_)
  · refine vb_ret ((vn_lc (α := Int) (xs := drawsOf c (rp n 3)) (enc := .int) (k := fun _ => true) (f := fun x => .int (x - 1)) (is := [3]) (st := fun x ρ => ρ.set 3 (.d (.int x))) [("_law_x", 3)] rfl S57.nd
      (vi_list (v_call inW C56 hr (va_d (v_name 0 rfl) (va_d ((vn_lc (α := Nat) (xs := List.range n) (enc := fun i => .int (i : Int)) (k := fun _ => true) (f := fun _ => .int 3) (is := [4]) (st := fun x ρ => ρ.set 4 (.d (.int (x : Int)))) [("_law_k", 4)] rfl S57.nd
        (vi_range B (v_name 1 rfl) (by omega)) (by rw [List.length_range]; omega) (fun x _ s H C cl fp => vg_name 4 S57.nd) (fun x _ s H C cl fp => vts_nil) (fun x _ _ s H C cl fp => v_int)).ve.is (by rw [rp_dI]; rfl)) va_nil)) ⟨c, rp n 3, rfl, rp_ok h1 (by decide) (by decide), rfl⟩))
      (by rw [draws_len, rp_len]; omega) (fun x _ s H C cl fp => vg_name 3 S57.nd) (fun x _ s H C cl fp => vts_nil) (fun x _ _ s H C cl fp => v_sub (v_name 3 rfl) v_int)).ve) (Rt.is hO ?_)
    rw [dI_map]
    unfold handOf
    rw [if_pos (of_decide_eq_true hc)]
    rfl
  · refine vb_if1 (vt_eqI (v_name 2 rfl) v_int) (fun hc2 => ?_) (fun hc2 => ?_)
    · refine vb_ret ((vn_lc (α := Int) (xs := drawsOf c (rp n (2 * (n : Int) + 1))) (enc := .int) (k := fun _ => true) (f := fun x => .int (x - n)) (is := [3]) (st := fun x ρ => ρ.set 3 (.d (.int x))) [("_law_x", 3)] rfl S57.nd
        (vi_list (v_call inW C56 hr (va_d (v_name 0 rfl) (va_d ((vn_lc (α := Nat) (xs := List.range n) (enc := fun i => .int (i : Int)) (k := fun _ => true) (f := fun _ => .int (2 * (n : Int) + 1)) (is := [4]) (st := fun x ρ => ρ.set 4 (.d (.int (x : Int)))) [("_law_k", 4)] rfl S57.nd
          (vi_range B (v_name 1 rfl) (by omega)) (by rw [List.length_range]; omega) (fun x _ s H C cl fp => vg_name 4 S57.nd) (fun x _ s H C cl fp => vts_nil) (fun x _ _ s H C cl fp => v_add (v_mul v_int (v_name 1 rfl) (cmul_small (by decide))) v_int)).ve.is (by rw [rp_dI]; rfl)) va_nil)) ⟨c, rp n (2 * (n : Int) + 1), rfl, rp_ok h1 (by omega) (by omega), rfl⟩))
        (by rw [draws_len, rp_len]; omega) (fun x _ s H C cl fp => vg_name 3 S57.nd) (fun x _ s H C cl fp => vts_nil) (fun x _ _ s H C cl fp => v_sub (v_name 3 rfl) (v_name 1 rfl))).ve) (Rt.is hO ?_)
      rw [dI_map]
      unfold handOf
      rw [if_neg (of_decide_eq_false hc), if_pos (of_decide_eq_true hc2)]
      rfl
    · refine vb_if1 (vt_eqI (v_name 2 rfl) v_int) (fun hc3 => ?_) (fun hc3 => ?_)
      · refine vb_ret ((vn_lc (α := Int) (xs := drawsOf c (rp n (2 * 10 ^ (15 : Int).toNat + 1))) (enc := .int) (k := fun _ => true) (f := fun x => .int (x - 10 ^ (15 : Int).toNat)) (is := [3]) (st := fun x ρ => ρ.set 3 (.d (.int x))) [("_law_x", 3)] rfl S57.nd
          (vi_list (v_call inW C56 hr (va_d (v_name 0 rfl) (va_d ((vn_lc (α := Nat) (xs := List.range n) (enc := fun i => .int (i : Int)) (k := fun _ => true) (f := fun _ => .int (2 * 10 ^ (15 : Int).toNat + 1)) (is := [4]) (st := fun x ρ => ρ.set 4 (.d (.int (x : Int)))) [("_law_k", 4)] rfl S57.nd
            (vi_range B (v_name 1 rfl) (by omega)) (by rw [List.length_range]; omega) (fun x _ s H C cl fp => vg_name 4 S57.nd) (fun x _ s H C cl fp => vts_nil) (fun x _ _ s H C cl fp => v_add (v_mul v_int (v_pow v_int v_int (by unfold CPow; decide)) (cmul_small (by decide))) v_int)).ve.is (by rw [rp_dI]; rfl)) va_nil)) ⟨c, rp n (2 * 10 ^ (15 : Int).toNat + 1), rfl, rp_ok h1 p1.1 p1.2, rfl⟩))
          (by rw [draws_len, rp_len]; omega) (fun x _ s H C cl fp => vg_name 3 S57.nd) (fun x _ s H C cl fp => vts_nil) (fun x _ _ s H C cl fp => v_sub (v_name 3 rfl) (v_pow v_int v_int (by unfold CPow; decide)))).ve) (Rt.is hO ?_)
        rw [dI_map]
        unfold handOf
        rw [if_neg (of_decide_eq_false hc), if_neg (of_decide_eq_false hc2), if_pos (of_decide_eq_true hc3)]
        rfl
      · refine vb_ret ((vn_lc (α := Int) (xs := drawsOf c (rp n ((n : Int) + 2))) (enc := .int) (k := fun _ => true) (f := fun x => .int x) (is := [3]) (st := fun x ρ => ρ.set 3 (.d (.int x))) [("_law_x", 3)] rfl S57.nd
          (vi_list (v_call inW C56 hr (va_d (v_name 0 rfl) (va_d ((vn_lc (α := Nat) (xs := List.range n) (enc := fun i => .int (i : Int)) (k := fun _ => true) (f := fun _ => .int ((n : Int) + 2)) (is := [4]) (st := fun x ρ => ρ.set 4 (.d (.int (x : Int)))) [("_law_k", 4)] rfl S57.nd
            (vi_range B (v_name 1 rfl) (by omega)) (by rw [List.length_range]; omega) (fun x _ s H C cl fp => vg_name 4 S57.nd) (fun x _ s H C cl fp => vts_nil) (fun x _ _ s H C cl fp => v_add (v_name 1 rfl) v_int)).ve.is (by rw [rp_dI]; rfl)) va_nil)) ⟨c, rp n ((n : Int) + 2), rfl, rp_ok h1 (by omega) (by omega), rfl⟩))
          (by rw [draws_len, rp_len]; omega) (fun x _ s H C cl fp => vg_name 3 S57.nd) (fun x _ s H C cl fp => vts_nil) (fun x _ _ s H C cl fp => v_name 3 rfl)).ve) (Rt.is hO ?_)
        rw [filt_true]
        unfold handOf
        rw [if_neg (of_decide_eq_false hc), if_neg (of_decide_eq_false hc2), if_neg (of_decide_eq_false hc3)]
        rfl
theorem fn57 {W : Wd} {f : Addr} {fd : FuncData} (B : Bl W.mg) (C56 : Fn W "_law_draws" 1 P56 [] F56) (D : FunP W "_law_hand" s57 [] f fd) (hm : W.mg "_law_hand" = some (.ref f)) : Fn W "_law_hand" 2 P57 [] F57 :=
  fn_mk D hm S57 (b57 B C56) fun _ _ _ _ _ _ us hl => match us, hl with | [_, _, _], _ => rfl
/-! ### _law_hands -/
abbrev s58 : Stmt := top 58
abbrev P58 : List Str := ["_law_script", "_law_at", "_law_count"]
abbrev N58 : List Str := ["_law_script", "_law_at", "_law_count", "_law_shape", "_law_mine", "_law_theirs", "_law_x"]
def shOf (ns : List Int) (at_ : Nat) : List Int := drawsOf (cellOf ns at_) [6, 4, 3, 40]
def hMine (ns : List Int) (at_ n : Nat) : List Int := handOf (cellOf ns (at_ + 1)) n ((shOf ns at_).getD 0 0 % 4)
def hTh1 (ns : List Int) (at_ n : Nat) : List Int :=
  if (shOf ns at_).getD 0 0 = 4 then (if 0 < n ∧ 0 < (shOf ns at_).getD 1 0 then (hMine ns at_ n).set ((shOf ns at_).getD 3 0 % n).toNat ((hMine ns at_ n).getD ((shOf ns at_).getD 3 0 % n).toNat 0 + (shOf ns at_).getD 1 0 - 2) else hMine ns at_ n)
  else handOf (cellOf ns (at_ + 2)) n ((shOf ns at_).getD 0 0 % 4)
def hTh (ns : List Int) (at_ n : Nat) : List Int := if (shOf ns at_).getD 0 0 = 5 ∧ 0 < (shOf ns at_).getD 2 0 then (hMine ns at_ n).map fun x => x + 3 - 2 * (shOf ns at_).getD 1 0 else hTh1 ns at_ n
theorem hMine_len (ns : List Int) (at_ n : Nat) : (hMine ns at_ n).length = n := hand_len ..
theorem hTh1_len (ns : List Int) (at_ n : Nat) : (hTh1 ns at_ n).length = n := by
  unfold hTh1
  split
  · split
    · rw [List.length_set, hMine_len]
    · rw [hMine_len]
  · exact hand_len ..
theorem hTh_len (ns : List Int) (at_ n : Nat) : (hTh ns at_ n).length = n := by
  unfold hTh
  split
  · rw [List.length_map, hMine_len]
  · exact hTh1_len ..
def F58 (K : PySem.W.Frag) : FR := fun ss Φ o => ∃ (a : Addr) (ns : List Int) (at_ n : Nat), ss = [.v (.ref a), .d (.int at_), .d (.int n)] ∧ Scr K a ns Φ ∧ ns.length ≤ 1000 ∧ at_ ≤ 900 ∧ n ≤ 1000 ∧ o = .val (.tuple [dL (hMine ns at_ n), dL (hTh ns at_ n)])
theorem S58 : FnScope N58 P58 (defScope s58) := ⟨rfl, rfl, rfl, by decide +kernel, rfl, by decide +kernel, by decide +kernel⟩
theorem sz4 : SzOk [6, 4, 3, 40] := ⟨by decide, by decide⟩
theorem b58 {W : Wd} (B : Bl W.mg) (C55 : Fn W "_law_cell" 1 P55 [] (F55 W.K)) (C56 : Fn W "_law_draws" 1 P56 [] F56) (C57 : Fn W "_law_hand" 2 P57 [] F57) : Body W 2 N58 "_law_hands" s58 3 (F58 W.K) := by
  intro f cdv A outer s H G Q E ss Φ o hr hF hO
  obtain ⟨a, ns, at_, n, rfl, hS, h1, h2, h3, rfl⟩ := hF
  have hsl : (shOf ns at_).length = 4 := draws_len ..
  have hml := hMine_len ns at_ n
  refine vb_set 3 (d := dL (shOf ns at_)) (v_call inW C56 hr (va_d (v_call inW C55 hr (va_v (vv_name 0 rfl) (va_d (v_name 1 rfl) va_nil)) ⟨a, ns, at_, rfl, hS, h1, by omega, rfl⟩) (va_d (vn_lst (ds := [_, _, _, _]) (va_d v_int (va_d v_int (va_d v_int (va_d v_int va_nil))))).ve va_nil)) ⟨_, [6, 4, 3, 40], rfl, sz4, rfl⟩) S58.nd ?_
  refine vb_set 4 (d := dL (hMine ns at_ n)) (v_call inW C57 hr (va_d (v_call inW C55 hr (va_v (vv_name 0 rfl) (va_d ((v_add (v_name 1 rfl) v_int).is (d' := .int ((at_ + 1 : Nat) : Int)) rfl) va_nil)) ⟨a, ns, at_ + 1, rfl, hS, h1, by omega, rfl⟩) (va_d (v_name 2 rfl) (va_d (v_mod (v_ixL (v_name 3 rfl) v_int (atI_dI (i := 0) (by omega))) v_int (by decide)) va_nil))) ⟨_, n, _, rfl, h3, rfl⟩) S58.nd ?_
  refine vb_set 5 (d := dL (handOf (cellOf ns (at_ + 2)) n ((shOf ns at_).getD 0 0 % 4))) (v_call inW C57 hr (va_d (v_call inW C55 hr (va_v (vv_name 0 rfl) (va_d ((v_add (v_name 1 rfl) v_int).is (d' := .int ((at_ + 2 : Nat) : Int)) rfl) va_nil)) ⟨a, ns, at_ + 2, rfl, hS, h1, by omega, rfl⟩) (va_d (v_name 2 rfl) (va_d (v_mod (v_ixL (v_name 3 rfl) v_int (atI_dI (i := 0) (by omega))) v_int (by decide)) va_nil))) ⟨_, n, _, rfl, h3, rfl⟩) S58.nd ?_
  refine VB.weak (Φ' := As.top) ?_ (SLe.refl _) fun _ _ _ => True.intro
  have rest : ∀ th : List Int, th = hTh1 ns at_ n → VB (cxF W N58 "_law_hands" (defScope s58) f cdv A outer s H E) G G H ((defBody s58).drop 4) As.top [.v (.ref a), .d (.int at_), .d (.int n), .d (dL (shOf ns at_)), .d (dL (hMine ns at_ n)), .d (dL th), .no] { nx := fun _ H' => Q .non H', rt := Q } := fun th hth => by
    refine vb_if1 (vw_and (vt_eqI (v_ixL (v_name 3 rfl) v_int (atI_dI (i := 0) (by omega))) v_int) (fun _ => vw_and1 (vt_gt (v_ixL (v_name 3 rfl) v_int (atI_dI (i := 2) (by omega))) v_int))).vt (fun hc => ?_) (fun hc => ?_)
    · rw [Bool.and_eq_true, decide_eq_true_eq, decide_eq_true_eq] at hc
      refine vb_setLc (α := Int) (xs := hMine ns at_ n) (enc := .int) (k := fun _ => true) (f := fun x => .int (x + 3 - 2 * (shOf ns at_).getD 1 0)) (is := [6]) (st := fun x ρ => ρ.set 6 (.d (.int x))) 5 [("_law_x", 6)] rfl S58.nd (vi_list (v_name 4 rfl)) (by omega) (fun x _ s H C cl fp => vg_name 6 S58.nd) (fun x _ s H C cl fp => vts_nil)
        (fun x _ _ s H C cl fp => v_sub (v_add (v_name 6 rfl) v_int) (v_mul v_int (v_ixL (v_name 3 rfl) v_int (atI_dI (i := 1) (by omega))) (cmul_small (by decide)))) ?_
      rw [dI_map]
      refine vb_fall (vb_ret (v_tup (ds := [_, _]) (va_d (v_name 4 rfl) (va_d (v_name 5 rfl) va_nil))) (Rt.is hO ?_))
      unfold hTh
      rw [if_pos hc]
      rfl
    · rw [Bool.and_eq_false_iff, decide_eq_false_iff_not, decide_eq_false_iff_not] at hc
      refine vb_ret (v_tup (ds := [_, _]) (va_d (v_name 4 rfl) (va_d (v_name 5 rfl) va_nil))) (Rt.is hO ?_)
      unfold hTh
      rw [if_neg (fun q => hc.elim (fun n => n q.1) fun n => n q.2), hth]
  refine vb_if1 (vt_eqI (v_ixL (v_name 3 rfl) v_int (atI_dI (i := 0) (by omega))) v_int) (fun hc => ?_) (fun hc => ?_)
  · have hc := of_decide_eq_true hc
    refine vb_new 5 (vn_list B (v_name 4 rfl)) S58.nd fun l hl => ?_
    refine vb_if1 (vw_and (vt_gt (v_name 2 rfl) v_int) (fun _ => vw_and1 (vt_gt (v_ixL (v_name 3 rfl) v_int (atI_dI (i := 1) (by omega))) v_int))).vt (fun hc2 => ?_) (fun hc2 => ?_)
    · rw [Bool.and_eq_true, decide_eq_true_eq, decide_eq_true_eq] at hc2
      have hn : 0 < n := by omega
      have hj : ((shOf ns at_).getD 3 0 % n).toNat < n := by
        have a1 := Int.emod_nonneg ((shOf ns at_).getD 3 0) (by omega : (n : Int) ≠ 0)
        have a2 := Int.emod_lt_of_pos ((shOf ns at_).getD 3 0) (by omega : (0 : Int) < n)
        omega
      have ej : (shOf ns at_).getD 3 0 % n = (((shOf ns at_).getD 3 0 % n).toNat : Nat) := by
        have a1 := Int.emod_nonneg ((shOf ns at_).getD 3 0) (by omega : (n : Int) ≠ 0)
        omega
      refine vb_put (n := ((shOf ns at_).getD 3 0 % n).toNat) 5 rfl (d := .int ((hMine ns at_ n).getD ((shOf ns at_).getD 3 0 % n).toNat 0 + (shOf ns at_).getD 1 0 - 2)) (v_sub (v_add (v_ixO 5 rfl ((v_mod (v_ixL (v_name 3 rfl) v_int (atI_dI (i := 3) (by omega))) (v_name 2 rfl) (by omega)).is (congrArg PyData.int ej)) (atI_dI (by omega))) (v_ixL (v_name 3 rfl) v_int (atI_dI (i := 1) (by omega)))) v_int)
        ((v_mod (v_ixL (v_name 3 rfl) v_int (atI_dI (i := 3) (by omega))) (v_name 2 rfl) (by omega)).is (congrArg PyData.int ej)) (by rw [dI_len]; exact ixN_nat (by omega)) hl stp_top ?_
      rw [dI_set]
      refine vb_fall (vb_fall (vb_still 5 hl rfl stf_top (rest _ ?_)))
      unfold hTh1
      rw [if_pos hc, if_pos ⟨hn, by omega⟩]
    · rw [Bool.and_eq_false_iff, decide_eq_false_iff_not, decide_eq_false_iff_not] at hc2
      refine vb_fall (vb_still 5 hl rfl stf_top (rest _ ?_))
      unfold hTh1
      rw [if_pos hc, if_neg (fun q => hc2.elim (fun n => n (by omega)) fun n => n (by omega))]
  · refine rest _ ?_
    unfold hTh1
    rw [if_neg (of_decide_eq_false hc)]
theorem fn58 {W : Wd} {f : Addr} {fd : FuncData} (B : Bl W.mg) (C55 : Fn W "_law_cell" 1 P55 [] (F55 W.K)) (C56 : Fn W "_law_draws" 1 P56 [] F56) (C57 : Fn W "_law_hand" 2 P57 [] F57) (D : FunP W "_law_hands" s58 [] f fd) (hm : W.mg "_law_hands" = some (.ref f)) : Fn W "_law_hands" 3 P58 [] (F58 W.K) :=
  fn_mk D hm S58 (b58 B C55 C56 C57) fun _ _ _ _ _ _ us hl => match us, hl with | [_, _, _], _ => rfl
end K43
namespace K43
open PySem PySem.Spec PyProof.Rows L2
/-! ### texts: join, walked -/
theorem rp_strs {G : Hp} : ∀ {vs : List V} {zs : List Nat}, RpAll G vs (zs.map fun c => PyData.str ⟨[c].toArray⟩) → vs = (zs.map fun c => (⟨[c].toArray⟩ : Str)).map V.str
  | _, [], k => by
    cases k
    rfl
  | _, c :: zs, k => by
    cases k with
    | cons h k =>
      cases h
      rw [rp_strs k]
      rfl
section
variable {X : Cx} {Φ : As} {ρ : List Sl} {a b e o tg : Expr} {pos p apos : Pos}
theorem v_join {zs : List Nat} (ho : VE X Φ ρ o (.str ⟨([] : List Nat).toArray⟩)) (ha : VE X Φ ρ a (.list (zs.map fun c => .str ⟨[c].toArray⟩))) (hz : zs.length ≤ 100000) (hs : starEach [a] X.env = [(false, eval a X.env)] := by rfl) (hb : attributeBase o "join" X.env (eval o X.env) = eval o X.env := by rfl) (hl : (apos.endLine == pos.line) = true := by rfl) :
    VE X Φ ρ (.Call (.Attribute o "join" apos) [a] [] pos) (.str ⟨zs.toArray⟩) := fun σ G H s r f Q q =>
  we_of (pe_join we we hs hb hl) (ho σ G H s r f _ fun v G1 H1 e1 r1 => by
    cases r1
    refine ⟨⟨_, rfl⟩, ha σ G1 H1 e1.gh (r.mono e1.gg) (Φ.st s e1 f) _ fun w G2 H2 e2 r2 => ?_⟩
    cases r2 with
    | lst h k =>
      have e3 := rp_strs k
      subst e3
      refine ⟨_, _, zs.map fun c => (⟨[c].toArray⟩ : Str), rfl, rfl, Or.inl (SqL.of (e2.gh _ _ h)), ?_, ?_⟩
      · have h1 : ∀ zs : List Nat, ((zs.map fun c => (⟨[c].toArray⟩ : Str)).map (·.length)).sum = zs.length := fun zs => by
          induction zs with
          | nil => rfl
          | cons c zs ih =>
            rw [List.map_cons, List.map_cons, List.sum_cons, ih, List.length_cons]
            show 1 + zs.length = _
            omega
        rw [h1, List.length_map]
        show zs.length + zs.length * 0 ≤ _
        omega
      · have e4 : Txt.join ⟨([] : List Nat).toArray⟩ (zs.map fun c => (⟨[c].toArray⟩ : Str)) = ⟨zs.toArray⟩ := by
          unfold Txt.join
          rw [StrLaws.glued_eq_join]
          have h := join_nil_signs ⟨zs.toArray⟩
          have e5 : signs ⟨zs.toArray⟩ = zs.map fun c => (⟨[c].toArray⟩ : Str) := by
            unfold signs
            rfl
          rw [e5] at h
          exact h
        rw [e4]
        exact q _ G2 H2 (e1.trans e2) (.str _))
theorem vi_str {z : List Nat} (h : VE X Φ ρ a (.str ⟨z.toArray⟩)) (hz : z.length ≤ 100000) : VI X Φ ρ tg a (z.map fun c => .str ⟨[c].toArray⟩) := ⟨_, pi_str we, fun σ G H s r f R q => h σ G H s r f _ fun v G1 H1 e1 r1 => by
  cases r1
  refine ⟨_, rfl, q _ G1 H1 e1 fun i G H s1 s2 => ?_⟩
  rw [List.length_map]
  refine ⟨fun hi => by show z.toArray.size ≤ i; rw [List.size_toArray]; exact hi, fun d hd => ?_⟩
  rw [List.getElem?_map] at hd
  cases e3 : z[i]? with
  | none =>
    rw [e3] at hd
    cases hd
  | some c =>
    rw [e3] at hd
    cases hd
    have hi := (List.getElem?_eq_some_iff.mp e3).1
    refine ⟨by show i < z.toArray.size; rw [List.size_toArray]; exact hi, fun x H' y => ?_⟩
    obtain ⟨e4, c', hc, e5⟩ := y
    subst e4
    have hc : z.toArray[i]? = some c' := hc
    rw [List.getElem?_toArray, e3] at hc
    cases hc
    subst e5
    exact ⟨G, Ext.refl s2, .str _⟩⟩
end
/-! ### _law_word, _law_is_int -/
abbrev s59 : Stmt := top 59
abbrev P59 : List Str := ["_law_cell_here", "_law_count"]
abbrev N59 : List Str := ["_law_cell_here", "_law_count", "_law_x", "_law_k"]
def ltr (x : Int) : Nat := if x = 0 then 77 else 84
def wordOf (c : Int) (n : Nat) : List Nat := (drawsOf c (rp n 2)).map ltr
theorem word_len (c : Int) (n : Nat) : (wordOf c n).length = n := by
  unfold wordOf
  rw [List.length_map, draws_len, rp_len]
theorem gd_ltr (x : Int) : gd (ltr x) := by
  unfold ltr
  split
  · exact .inl rfl
  · exact .inr rfl
theorem word_gd (c : Int) (n : Nat) : AllGd (wordOf c n) := fun i x h => by
  unfold wordOf at h
  rw [List.getElem?_map] at h
  cases e : (drawsOf c (rp n 2))[i]? with
  | none =>
    rw [e] at h
    cases h
  | some y =>
    rw [e] at h
    cases h
    exact gd_ltr y
def F59 : FR := fun ss _ o => ∃ (c : Int) (n : Nat), ss = [.d (.int c), .d (.int n)] ∧ n ≤ 1000 ∧ o = .val (.str ⟨(wordOf c n).toArray⟩)
theorem S59 : FnScope N59 P59 (defScope s59) := ⟨rfl, rfl, rfl, by decide +kernel, rfl, by decide +kernel, by decide +kernel⟩
theorem draws_mem {c : Int} {S : List Int} (h : SzOk S) {x : Int} (hx : x ∈ drawsOf c S) : ∃ i, i < S.length ∧ 0 ≤ x ∧ x < S.getD i 1 := by
  obtain ⟨i, hi⟩ := List.getElem?_of_mem hx
  have hl : i < S.length := by
    have := (List.getElem?_eq_some_iff.mp hi).1
    rw [draws_len] at this
    exact this
  obtain ⟨y, hy, h1, h2⟩ := draws_at (c := c) h hl
  rw [hi] at hy
  cases hy
  exact ⟨i, hl, h1, h2⟩
theorem mt_at {x : Int} (h1 : 0 ≤ x) (h2 : x < 2) : atI [77, 84] x = some (ltr x) := by
  have : x = 0 ∨ x = 1 := by omega
  rcases this with rfl | rfl <;> rfl
theorem b59 {W : Wd} (B : Bl W.mg) (C56 : Fn W "_law_draws" 1 P56 [] F56) : Body W 1 N59 "_law_word" s59 2 F59 := by
  intro f cdv A outer s H G Q E ss Φ o hr hF hO
  obtain ⟨c, n, rfl, h1, rfl⟩ := hF
  refine vb_ret (v_join (zs := wordOf c n) v_strC ((vn_lc (α := Int) (xs := drawsOf c (rp n 2)) (enc := .int) (k := fun _ => true) (f := fun x => .str ⟨[ltr x].toArray⟩) (is := [2]) (st := fun x ρ => ρ.set 2 (.d (.int x))) [("_law_x", 2)] rfl S59.nd
      (vi_list (v_call inW C56 hr (va_d (v_name 0 rfl) (va_d ((vn_lc (α := Nat) (xs := List.range n) (enc := fun i => .int (i : Int)) (k := fun _ => true) (f := fun _ => .int 2) (is := [3]) (st := fun x ρ => ρ.set 3 (.d (.int (x : Int)))) [("_law_k", 3)] rfl S59.nd
        (vi_range B (v_name 1 rfl) (by omega)) (by rw [List.length_range]; omega) (fun x _ s H C cl fp => vg_name 3 S59.nd) (fun x _ s H C cl fp => vts_nil) (fun x _ _ s H C cl fp => v_int)).ve.is (by rw [rp_dI]; rfl)) va_nil)) ⟨c, rp n 2, rfl, rp_ok h1 (by decide) (by decide), rfl⟩))
      (by rw [draws_len, rp_len]; omega) (fun x _ s H C cl fp => vg_name 2 S59.nd) (fun x _ s H C cl fp => vts_nil) (fun x hx _ s H C cl fp => v_ixS (z := [77, 84]) v_strC (v_name 2 rfl) (by decide) (by
        obtain ⟨i, hi, h2, h3⟩ := draws_mem (rp_ok h1 (by decide) (by decide)) hx
        rw [rp_len] at hi
        rw [rp_getD hi] at h3
        exact mt_at h2 h3))).ve.is ?_) (by rw [word_len]; omega)) hO
  rw [filt_true]
  unfold wordOf
  rw [List.map_map]
  rfl
theorem fn59 {W : Wd} {f : Addr} {fd : FuncData} (B : Bl W.mg) (C56 : Fn W "_law_draws" 1 P56 [] F56) (D : FunP W "_law_word" s59 [] f fd) (hm : W.mg "_law_word" = some (.ref f)) : Fn W "_law_word" 2 P59 [] F59 :=
  fn_mk D hm S59 (b59 B C56) fun _ _ _ _ _ _ us hl => match us, hl with | [_, _], _ => rfl
abbrev s60 : Stmt := top 60
def F60 : FR := fun ss _ o => ∃ i : Int, ss = [.d (.int i)] ∧ o = .val (.bool true)
theorem S60 : FnScope ["_law_x"] ["_law_x"] (defScope s60) := ⟨rfl, rfl, rfl, by decide +kernel, rfl, by decide +kernel, by decide +kernel⟩
theorem b60 {W : Wd} (B : Bl W.mg) : Body W 0 ["_law_x"] "_law_is_int" s60 1 F60 := by
  intro f cdv A outer s H G Q E ss Φ o hr hF hO
  obtain ⟨i, rfl, rfl⟩ := hF
  exact vb_ret ((v_and (v_isi (t := "int") (c := true) B (v_name 0 rfl) (by show kitB "int" "int" = _; decide +kernel) B.int) (fun _ => v_one (v_not (v_isi (t := "bool") (c := false) B (v_name 0 rfl) (by show kitB "int" "bool" = _; decide +kernel) B.bool)))).is rfl) hO
theorem fn60 {W : Wd} {f : Addr} {fd : FuncData} (B : Bl W.mg) (D : FunP W "_law_is_int" s60 [] f fd) (hm : W.mg "_law_is_int" = some (.ref f)) : Fn W "_law_is_int" 1 ["_law_x"] [] F60 :=
  fn_mk D hm S60 (b60 B) fun _ _ _ _ _ _ us hl => match us, hl with | [_], _ => rfl
/-! ### _law_order, _law_row -/
abbrev s61 : Stmt := top 61
abbrev s62 : Stmt := top 62
abbrev P61 : List Str := ["_law_mine", "_law_theirs"]
abbrev N61 : List Str := ["_law_mine", "_law_theirs", "_law_cards", "_law_k"]
abbrev N62 : List Str := ["_law_mine", "_law_theirs", "_law_height", "_law_out", "_law_card"]
def F61 : FR := fun ss _ o => ∃ mine theirs : List Int, ss = [.d (dL mine), .d (dL theirs)] ∧ mine.length ≤ 1000 ∧ theirs.length ≤ 1000 ∧ o = .val (.list ((ord mine theirs).map dC))
theorem S61 : FnScope N61 P61 (defScope s61) := ⟨rfl, rfl, rfl, by decide +kernel, rfl, by decide +kernel, by decide +kernel⟩
theorem b61 {W : Wd} (B : Bl W.mg) : Body W 4 N61 "_law_order" s61 2 F61 := by
  intro f cdv A outer s H G Q E ss Φ o hr hF hO
  obtain ⟨mine, theirs, rfl, h1, h2, rfl⟩ := hF
  refine vb_setLc (α := Nat) (xs := List.range theirs.length) (enc := fun i => .int (i : Int)) (k := fun _ => true) (f := fun i => dC (theirs.getD i 0, false, i)) (is := [3]) (st := fun i ρ => ρ.set 3 (.d (.int (i : Int)))) 2 [("_law_k", 3)] rfl S61.nd
    (vi_range B ((v_lenL B (v_name 1 rfl)).is (by rw [dI_len])) (by omega)) (by rw [List.length_range]; omega) (fun i _ s H C cl fp => vg_name 3 S61.nd) (fun i _ s H C cl fp => vts_nil)
    (fun i hi _ s H C cl fp => v_tup (ds := [_, _, _]) (va_d (v_ixL (v_name 1 rfl) (v_name 3 rfl) (atI_dI (List.mem_range.mp hi))) (va_d v_int (va_d (v_name 3 rfl) va_nil)))) ?_
  refine vb_ret (vn_sortC (cs := cards mine theirs) B hr.units ((vn_cat (v_name 2 rfl) (vn_lc (α := Nat) (xs := List.range mine.length) (enc := fun i => .int (i : Int)) (k := fun _ => true) (f := fun i => dC (mine.getD i 0, true, i)) (is := [3]) (st := fun i ρ => ρ.set 3 (.d (.int (i : Int)))) [("_law_k", 3)] rfl S61.nd
    (vi_range B ((v_lenL B (v_name 0 rfl)).is (by rw [dI_len])) (by omega)) (by rw [List.length_range]; omega) (fun i _ s H C cl fp => vg_name 3 S61.nd) (fun i _ s H C cl fp => vts_nil)
    (fun i hi _ s H C cl fp => v_tup (ds := [_, _, _]) (va_d (v_ixL (v_name 0 rfl) (v_name 3 rfl) (atI_dI (List.mem_range.mp hi))) (va_d v_int (va_d (v_name 3 rfl) va_nil))))).ve ?_).ve.is ?_)).ve hO
  · rw [filt_true, filt_true, List.length_map, List.length_map, List.length_range, List.length_range]
    omega
  · rw [filt_true, filt_true]
    unfold cards
    rw [side_range, side_range, List.map_append, List.map_map, List.map_map]
    rfl
theorem fn61 {W : Wd} {f : Addr} {fd : FuncData} (B : Bl W.mg) (D : FunP W "_law_order" s61 [] f fd) (hm : W.mg "_law_order" = some (.ref f)) : Fn W "_law_order" 5 P61 [] F61 :=
  fn_mk D hm S61 (b61 B) fun _ _ _ _ _ _ us hl => match us, hl with | [_, _], _ => rfl
def F62 : FR := fun ss _ o => ∃ mine theirs : List Int, ss = [.d (dL mine), .d (dL theirs)] ∧ mine.length ≤ 1000 ∧ theirs.length ≤ 1000 ∧ o = .val (dL (rowOf mine theirs))
theorem S62 : FnScope N62 P61 (defScope s62) := ⟨rfl, rfl, rfl, by decide +kernel, rfl, by decide +kernel, by decide +kernel⟩
theorem dC_at {d : List Cd} {i : Nat} {x : PyData} (h : (d.map dC)[i]? = some x) : ∃ c, d[i]? = some c ∧ x = dC c := by
  rw [List.getElem?_map] at h
  cases e : d[i]? with
  | none =>
    rw [e] at h
    cases h
  | some c =>
    rw [e] at h
    exact ⟨c, rfl, (Option.some.inj h).symm⟩
/-- the sides of the first i cards -/
def ownC (d : List Cd) (i : Nat) : List Bool := (d.take i).map fun c => c.2.1
theorem ownC_all (mine theirs : List Int) : ownC (ord mine theirs) (ord mine theirs).length = own (dk mine theirs) := by
  unfold ownC own dk
  rw [List.take_length, List.map_map]
  rfl
theorem ownC_succ {d : List Cd} {i : Nat} {c : Cd} (h : d[i]? = some c) : ownC d (i + 1) = ownC d i ++ [c.2.1] := by
  unfold ownC
  rw [take_snoc h, List.map_append]
  rfl
theorem ord_length (mine theirs : List Int) : (ord mine theirs).length = theirs.length + mine.length := by
  rw [(ord_perm mine theirs).length_eq]
  unfold cards
  rw [List.length_append, side_range, side_range, List.length_map, List.length_map, List.length_range, List.length_range]
theorem lv_len_le (u : List Bool) (h : Int) : (lv h u).length ≤ u.length := by
  rw [lv_len]
  exact List.count_le_length
theorem b62 {W : Wd} (B : Bl W.mg) (C61 : Fn W "_law_order" 5 P61 [] F61) : Body W 5 N62 "_law_row" s62 2 F62 := by
  intro f cdv A outer s H G Q E ss Φ o hr hF hO
  obtain ⟨mine, theirs, rfl, h1, h2, rfl⟩ := hF
  have hol := ord_length mine theirs
  refine VB.weak (Φ' := As.top) ?_ (SLe.refl _) fun _ _ _ => True.intro
  refine vb_set 2 v_int S62.nd (vb_new 3 (vn_lst (ds := []) va_nil) S62.nd fun l hl => ?_)
  refine vb_for (ds := (ord mine theirs).map dC) (is := [4]) (f := fun d ρ => ρ.set 4 (.d d)) (fun i => [.d (dL mine), .d (dL theirs), .d (.int (en 0 (ownC (ord mine theirs) i))), .v (.ref l), .no]) (fun i => As.and (As.lst l (dI (lv 0 (ownC (ord mine theirs) i)))) As.top) ownF rfl
    (vi_list (v_call inW C61 hr (va_d (v_name 0 rfl) (va_d (v_name 1 rfl) va_nil)) ⟨mine, theirs, rfl, h1, h2, rfl⟩)) (fun d _ => vg_name 4 S62.nd) ⟨.inr rfl, .inr rfl, .inr rfl, .inr rfl, .inl rfl, True.intro⟩ (fun G H h => h) (fun Gm' _ i d hd => ?_) ?_
  · obtain ⟨c, hc, rfl⟩ := dC_at hd
    have hlt : i < (ord mine theirs).length := (List.getElem?_eq_some_iff.mp hc).1
    have es := ownC_succ hc
    have hll := lv_len_le (ownC (ord mine theirs) i) 0
    have hll2 : (ownC (ord mine theirs) i).length ≤ i := by
      unfold ownC
      rw [List.length_map, List.length_take]
      omega
    refine vb_if1 (vt_eqI (v_ixT (v_name 4 rfl) v_int rfl) v_int) (fun hq => ?_) (fun hq => ?_)
    · have h3 : c.2.1 = false := by
        have := of_decide_eq_true hq
        cases h : c.2.1 with
        | false => rfl
        | true =>
          rw [h] at this
          exact absurd this (by decide)
      refine vb_app 3 rfl (v_name 2 rfl) hl (by rw [dI_len]; omega) stp_top (vb_fall (vb_set 2 (v_sub (v_add (v_name 2 rfl) v_int) (v_mul v_int (v_ixT (v_name 4 rfl) v_int rfl) (cmul_small (by decide)))) S62.nd (vb_nx rfl ⟨.inr rfl, .inr rfl, .inr ?_, .inr rfl, .inl rfl, True.intro⟩ ?_)))
      · rw [es, en_app, h3]
        show _ = Sl.d (.int (_ + 1 - 2 * 0))
        congr 2
        show en 0 (ownC (ord mine theirs) i) + 1 = _
        omega
      · rw [es, lv_app, h3, dI_snoc]
        exact fun _ _ h => h
    · have h3 : c.2.1 = true := by
        have := of_decide_eq_false hq
        cases h : c.2.1 with
        | true => rfl
        | false =>
          rw [h] at this
          exact absurd rfl this
      refine vb_set 2 (v_sub (v_add (v_name 2 rfl) v_int) (v_mul v_int (v_ixT (v_name 4 rfl) v_int rfl) (cmul_small (by decide)))) S62.nd (vb_nx rfl ⟨.inr rfl, .inr rfl, .inr ?_, .inr rfl, .inl rfl, True.intro⟩ ?_)
      · rw [es, en_app, h3]
        show _ = Sl.d (.int (_ + 1 - 2 * 1))
        congr 2
        show en 0 (ownC (ord mine theirs) i) - 1 = _
        omega
      · rw [es, lv_app, h3]
        show ∀ G H, _ → (As.and (As.lst l (dI (lv 0 (ownC (ord mine theirs) i) ++ []))) As.top).p G H
        rw [List.append_nil]
        exact fun _ _ h => h
  · rw [List.length_map, ownC_all]
    exact vb_still 3 hl rfl stf_top (vb_ret (vn_sortI B (v_name 3 rfl)).ve hO)
theorem fn62 {W : Wd} {f : Addr} {fd : FuncData} (B : Bl W.mg) (C61 : Fn W "_law_order" 5 P61 [] F61) (D : FunP W "_law_row" s62 [] f fd) (hm : W.mg "_law_row" = some (.ref f)) : Fn W "_law_row" 6 P61 [] F62 :=
  fn_mk D hm S62 (b62 B C61) fun _ _ _ _ _ _ us hl => match us, hl with | [_, _], _ => rfl
end K43
namespace K43
open PySem PySem.Spec PyProof.Rows L2
/-! ### _law_value -/
abbrev s63 : Stmt := top 63
abbrev P63 : List Str := ["_law_row_here", "_law_word_here", "_law_wish"]
abbrev N63 : List Str := ["_law_row_here", "_law_word_here", "_law_wish", "_law_early", "_law_mine_lays", "_law_x"]
def F63 : FR := fun ss _ o => ∃ (c : List Int) (z : List Nat) (w : Bool), ss = [.d (dL c), .d (.str ⟨z.toArray⟩), .d (.str (sideS w))] ∧ c.length ≤ 1000 ∧ z.length = c.length ∧ AllGd z ∧ o = .val (.int (valO c z w))
theorem S63 : FnScope N63 P63 (defScope s63) := ⟨rfl, rfl, rfl, by decide +kernel, rfl, by decide +kernel, by decide +kernel⟩
theorem gd_tl {a : Nat} {l : List Nat} (h : AllGd (a :: l)) : AllGd l := fun i c hc => h (i + 1) c hc
theorem gd_count : ∀ {l : List Nat}, AllGd l → l.count 77 + l.count 84 = l.length
  | [], _ => rfl
  | a :: l, h => by
    have ih := gd_count (gd_tl h)
    rw [List.count_cons, List.count_cons, List.length_cons]
    rcases h 0 a rfl with rfl | rfl
    · simp
      omega
    · simp
      omega
theorem zT_eq {z : List Nat} (h : AllGd z) : zM z + zT z = z.length - 1 := by
  have := gd_count (gd_drop h)
  rw [List.length_dropLast] at this
  exact this
theorem len_count (l : List Nat) (c : Nat) : (l.filter fun x => x == c).length = l.count c := by
  rw [List.count, List.countP_eq_length_filter]
theorem b63 {W : Wd} (B : Bl W.mg) : Body W 0 N63 "_law_value" s63 3 F63 := by
  intro f cdv A outer s H G Q E ss Φ o hr hF hO
  obtain ⟨c, z, w, rfl, h1, h2, hg, rfl⟩ := hF
  refine vb_if1 (vt_eqI (v_lenL B (v_name 0 rfl)) v_int) (fun hc => ?_) (fun hc => ?_)
  · have hc := of_decide_eq_true hc
    rw [dI_len] at hc
    refine vb_ret v_int (Rt.is hO ?_)
    have h0 : c.length = 0 := by omega
    unfold valO highV lowV
    rw [if_pos h0, if_pos h0]
    cases w <;> rfl
  · have hc := of_decide_eq_false hc
    rw [dI_len] at hc
    have hz := zMT z (by omega)
    have he := zT_eq hg
    have hdl : z.dropLast.length = z.length - 1 := List.length_dropLast
    refine vb_set 3 (d := .str ⟨z.dropLast.toArray⟩) ((v_slS (v_name 1 rfl) vo_none (vo_some ((v_sub (v_lenS B (v_name 1 rfl) (by omega)) v_int).is (d' := .int ((z.length - 1 : Nat) : Int)) (by congr 1; omega))) (by omega)).is (by rw [cut_all, List.dropLast_eq_take])) S63.nd ?_
    refine vb_set 4 (d := .int (zM z)) ((v_lenL B (vn_lc (α := Nat) (xs := z.dropLast) (enc := fun c => .str ⟨[c].toArray⟩) (k := fun c => c == 77) (f := fun c => .str ⟨[c].toArray⟩) (is := [5]) (st := fun c ρ => ρ.set 5 (.d (.str ⟨[c].toArray⟩))) [("_law_x", 5)] rfl S63.nd
      (vi_str (v_name 3 rfl) (by omega)) (by omega) (fun c _ s H C cl fp => vg_name 5 S63.nd) (fun c _ s H C cl fp => vts_one ((vt_eqC 77 (v_name 5 rfl)).is rfl)) (fun c _ _ s H C cl fp => v_name 5 rfl)).ve).is (by rw [List.length_map, len_count]; rfl)) S63.nd ?_
    refine vb_if1 ((vt_eqS (v_name 2 rfl) v_str).is (side_mine w)) (fun hw => ?_) (fun hw => ?_)
    · subst hw
      refine vb_ret (v_add (v_add (v_sub (v_lenS B (v_name 3 rfl) (by omega)) (v_name 4 rfl)) v_int) (v_ixL (v_name 0 rfl) (v_name 4 rfl) (atI_dI (by omega)))) (Rt.is hO ?_)
      unfold valO highV
      rw [if_pos rfl, if_neg (by omega)]
      congr 3
      omega
    · subst hw
      refine vb_ret (v_add (v_add (v_name 4 rfl) v_int) (v_ixL (v_name 0 rfl) ((v_sub (v_lenS B (v_name 3 rfl) (by omega)) (v_name 4 rfl)).is (d' := .int (zT z)) (by congr 1; omega)) (atI_dI (by omega)))) (Rt.is hO ?_)
      unfold valO lowV
      rw [if_neg Bool.false_ne_true, if_neg (by omega)]
theorem fn63 {W : Wd} {f : Addr} {fd : FuncData} (B : Bl W.mg) (D : FunP W "_law_value" s63 [] f fd) (hm : W.mg "_law_value" = some (.ref f)) : Fn W "_law_value" 1 P63 [] F63 :=
  fn_mk D hm S63 (b63 B) fun _ _ _ _ _ _ us hl => match us, hl with | [_, _, _], _ => rfl
/-! ### _law_up -/
abbrev s64 : Stmt := top 64
abbrev P64 : List Str := ["_law_mine", "_law_theirs", "_law_side", "_law_index"]
abbrev N64 : List Str := ["_law_mine", "_law_theirs", "_law_side", "_law_index", "_law_own", "_law_order_here", "_law_card", "_law_at"]
def dP (c : Nm) : PyData := .list [.int (b01 c.1), .int (c.2 : Int)]
def F64 : FR := fun ss _ r => ∃ (mine theirs : List Int) (o : Bool) (i : Nat), ss = [.d (dL mine), .d (dL theirs), .d (.str (sideS o)), .d (.int i)] ∧ mine.length ≤ 1000 ∧ theirs.length ≤ 1000 ∧ i < len? mine theirs o ∧ r = .val (.list (dX (upL mine theirs (o, i))))
theorem S64 : FnScope N64 P64 (defScope s64) := ⟨rfl, rfl, rfl, by decide +kernel, rfl, by decide +kernel, by decide +kernel⟩
theorem b01_inj {a b : Bool} : b01 a = b01 b ↔ a = b := by cases a <;> cases b <;> decide
theorem ne_dec : ∀ a b : Bool, (!decide (a = b)) = (a != b) := by decide
theorem sh_dP (n : Nat) (c : Nm) : Sh (n + 1) (dP c) := sh_list fun d hd => by
  rcases List.mem_cons.mp hd with e | hd
  · rw [e]
    exact sh_int
  · rw [List.mem_singleton.mp hd]
    exact sh_int
theorem eqv_dP (c c' : Nm) : PyData.eqv (dP c) (dP c') = decide (c = c') := by
  unfold dP
  simp only [PyData.eqv, PyData.eqvAll, Bool.and_true]
  rw [Bool.eq_iff_iff, Bool.and_eq_true, beq_iff_eq, beq_iff_eq, decide_eq_true_eq, b01_inj]
  constructor
  · rintro ⟨a, b⟩
    exact Prod.ext a (by omega)
  · intro e
    subst e
    exact ⟨rfl, rfl⟩
theorem b64 {W : Wd} (B : Bl W.mg) (C61 : Fn W "_law_order" 5 P61 [] F61) : Body W 5 N64 "_law_up" s64 4 F64 := by
  intro f cdv A outer s H G Q E ss Φ r hr hF hO
  obtain ⟨mine, theirs, o, i, rfl, h1, h2, h3, rfl⟩ := hF
  have hin := dk_in h3
  have hlt : (dk mine theirs).idxOf (o, i) < (dk mine theirs).length := List.idxOf_lt_length_of_mem hin
  have hdl := dk_length mine theirs
  have hol := ord_length mine theirs
  refine vb_set 4 (d := .int (b01 o)) (v_intB B ((v_eqS (v_name 2 rfl) v_str).is (congrArg _ (side_mine o)))) S64.nd ?_
  refine vb_setLc (α := Cd) (xs := ord mine theirs) (enc := dC) (k := fun _ => true) (f := fun c => dP (nmOf c)) (is := [6]) (st := fun c ρ => ρ.set 6 (.d (dC c))) 5 [("_law_card", 6)] rfl S64.nd
    (vi_list (v_call inW C61 hr (va_d (v_name 0 rfl) (va_d (v_name 1 rfl) va_nil)) ⟨mine, theirs, rfl, h1, h2, rfl⟩)) (by omega) (fun c _ s H C cl fp => vg_name 6 S64.nd) (fun c _ s H C cl fp => vts_nil)
    (fun c _ _ s H C cl fp => (vn_lst (ds := [_, _]) (va_d (v_ixT (v_name 6 rfl) v_int rfl) (va_d (v_ixT (v_name 6 rfl) v_int rfl) va_nil))).ve) ?_
  have eo : ((ord mine theirs).filter fun _ => true).map (fun c => dP (nmOf c)) = (dk mine theirs).map dP := by
    rw [filt_true]
    unfold dk
    rw [List.map_map]
    rfl
  rw [eo]
  refine vb_set 7 (v_indexD (ds := (dk mine theirs).map dP) (d := dP (o, i)) (j := (dk mine theirs).idxOf (o, i)) (u65 hr) (v_name 5 rfl) (vn_lst (ds := [_, _]) (va_d (v_name 4 rfl) (va_d (v_name 3 rfl) va_nil))).ve (sh_list (n := 1) fun d hd => by
    obtain ⟨c, _, rfl⟩ := List.mem_map.mp hd
    exact sh_dP 0 c).ok (sh_dP 0 (o, i)).ok ⟨dP (o, i), ?_, ?_⟩ (fun m z hm hz => ?_)) S64.nd ?_
  · rw [List.getElem?_map, List.getElem?_eq_getElem hlt, List.getElem_idxOf hlt]
    rfl
  · rw [eqv_dP, decide_eq_true rfl]
  · have hml : m < (dk mine theirs).length := Nat.lt_trans hm hlt
    rw [List.getElem?_map, List.getElem?_eq_getElem hml] at hz
    have hz : dP (dk mine theirs)[m] = z := Option.some.inj hz
    subst hz
    rw [eqv_dP, decide_eq_false]
    have := List.not_of_lt_findIdx hm
    simpa using this
  · have hrl : (ring (dk mine theirs) (o, i)).length ≤ 100000 := by
      unfold ring
      rw [List.length_append, List.length_drop, List.length_take]
      omega
    refine vb_ret ((vn_lc (α := Nm) (xs := ring (dk mine theirs) (o, i)) (enc := dP) (k := fun b => b.1 != o) (f := fun c => .int (c.2 : Int)) (is := [6]) (st := fun c ρ => ρ.set 6 (.d (dP c))) [("_law_card", 6)] rfl S64.nd
      (vi_list ((vn_cat (vn_sl (v_name 5 rfl) (vo_some ((v_add (v_name 7 rfl) v_int).is (d' := .int (((dk mine theirs).idxOf (o, i) + 1 : Nat) : Int)) rfl)) vo_none).ve (vn_sl (v_name 5 rfl) vo_none (vo_some (v_name 7 rfl))).ve ?_).ve.is ?_)) hrl
      (fun c _ s H C cl fp => vg_name 6 S64.nd) (fun c _ s H C cl fp => vts_one ((vt_neI (v_ixL (v_name 6 rfl) v_int rfl) (v_name 4 rfl)).is ?_)) (fun c _ _ s H C cl fp => v_ixL (v_name 6 rfl) v_int rfl)).ve) (Rt.is hO ?_)
    · rw [cut_from, cut_all, List.length_drop, List.length_take, List.length_map]
      omega
    · rw [cut_from, cut_all, ← List.map_drop, ← List.map_take, ← List.map_append]
      rfl
    · rw [decide_eq_decide.mpr b01_inj]
      exact ne_dec c.1 o
    · unfold upL dX
      rw [List.map_map]
      rfl
theorem fn64 {W : Wd} {f : Addr} {fd : FuncData} (B : Bl W.mg) (C61 : Fn W "_law_order" 5 P61 [] F61) (D : FunP W "_law_up" s64 [] f fd) (hm : W.mg "_law_up" = some (.ref f)) : Fn W "_law_up" 6 P64 [] F64 :=
  fn_mk D hm S64 (b64 B C61) fun _ _ _ _ _ _ us hl => match us, hl with | [_, _, _, _], _ => rfl
/-! ### _law_shorter -/
abbrev s71 : Stmt := top 71
abbrev P71 : List Str := ["_law_row_here", "_law_entry"]
abbrev N71 : List Str := ["_law_row_here", "_law_entry", "_law_at"]
def F71 : FR := fun ss _ r => ∃ (c : List Int) (x : Int), ss = [.d (dL c), .d (.int x)] ∧ c.length ≤ 1000 ∧ x ∈ c ∧ r = .val (dL (c.erase x))
theorem S71 : FnScope N71 P71 (defScope s71) := ⟨rfl, rfl, rfl, by decide +kernel, rfl, by decide +kernel, by decide +kernel⟩
theorem erase_idx : ∀ (l : List Int) (x : Int), l.eraseIdx (l.idxOf x) = l.erase x
  | [], _ => rfl
  | a :: l, x => by
    rw [List.idxOf_cons, List.erase_cons]
    by_cases h : (a == x) = true
    · rw [h, if_pos rfl]
      rfl
    · rw [if_neg h, Bool.not_eq_true] at *
      rw [h]
      show a :: l.eraseIdx (l.idxOf x) = _
      rw [erase_idx l x]
theorem b71 {W : Wd} : Body W 0 N71 "_law_shorter" s71 2 F71 := by
  intro f cdv A outer s H G Q E ss Φ r hr hF hO
  obtain ⟨c, x, rfl, h1, h2, rfl⟩ := hF
  refine vb_set 2 (v_index (v_name 0 rfl) (v_name 1 rfl) h2) S71.nd ?_
  refine vb_ret (v_out (v_name 0 rfl) (v_name 2 rfl) (v_name 0 rfl) (v_name 2 rfl) h1) (Rt.is hO ?_)
  rw [erase_idx]
theorem fn71 {W : Wd} {f : Addr} {fd : FuncData} (D : FunP W "_law_shorter" s71 [] f fd) (hm : W.mg "_law_shorter" = some (.ref f)) : Fn W "_law_shorter" 1 P71 [] F71 :=
  fn_mk D hm S71 b71 fun _ _ _ _ _ _ us hl => match us, hl with | [_, _], _ => rfl
/-! ### _law_due_answer -/
abbrev s73 : Stmt := top 73
abbrev P73 : List Str := ["_law_mine", "_law_theirs", "_law_laid", "_law_letters", "_law_needed"]
abbrev N73 : List Str := ["_law_mine", "_law_theirs", "_law_laid", "_law_letters", "_law_needed", "_law_order_here", "_law_index", "_law_hit", "_law_rest", "_law_low", "_law_high"]
theorem S73 : FnScope N73 P73 (defScope s73) := ⟨rfl, rfl, rfl, by decide +kernel, rfl, by decide +kernel, by decide +kernel⟩
theorem b73 {W : Wd} (B : Bl W.mg) (C64 : Fn W "_law_up" 6 P64 [] F64) (C62 : Fn W "_law_row" 6 P61 [] F62) (C63 : Fn W "_law_value" 1 P63 [] F63) : Body W 6 N73 "_law_due_answer" s73 5 F52 := by
  intro f cdv A outer s H G Q E ss Φ r hr hF hO
  obtain ⟨mine, theirs, i, z, k, rfl, h1, h2, h3, hz, hg, rfl⟩ := hF
  have hul : (upL mine theirs (false, i)).length = mine.length := upL_lenM h3
  refine vb_set 5 (v_call (d := .list (dX (upL mine theirs (false, i)))) inW C64 hr (va_d (v_name 0 rfl) (va_d (v_name 1 rfl) (va_d v_str (va_d (v_name 2 rfl) va_nil)))) ⟨mine, theirs, false, i, rfl, h1, by omega, h3, rfl⟩) S73.nd ?_
  refine vb_if1 (vt_eqI (v_lenL B (v_name 5 rfl)) v_int) (fun hc => ?_) (fun hc => ?_)
  · have hc := of_decide_eq_true hc
    rw [dX_len] at hc
    refine vb_ret (v_ixL (v_name 5 rfl) v_int (atI_dX0 (by omega))) (Rt.is hO ?_)
    unfold ansOf
    rw [if_pos (by omega)]
  · have hc := of_decide_eq_false hc
    rw [dX_len] at hc
    refine vb_for (ds := dX (upL mine theirs (false, i))) (is := [6]) (f := fun d ρ => ρ.set 6 (.d d)) (fun _ => [.d (dL mine), .d (dL theirs), .d (.int i), .d (.str ⟨z.toArray⟩), .d (.int k), .d (.list (dX (upL mine theirs (false, i)))), .no, .no, .no, .no, .no])
      (fun n => As.and (As.pu (∀ y ∈ (upL mine theirs (false, i)).take n, okAns mine theirs i (zM z) (zT z) k y = false)) Φ) ownF rfl (vi_list (v_name 5 rfl)) (fun d _ => vg_name 6 S73.nd) ⟨.inr rfl, .inr rfl, .inr rfl, .inr rfl, .inr rfl, .inr rfl, .inl rfl, .inl rfl, .inl rfl, .inl rfl, .inl rfl, True.intro⟩
      (fun G H h => ⟨fun y hy => (by simp at hy), h⟩) (fun Gm' _ n d hd => vb_pu fun hk => ?_) (vb_pu fun hk => ?_)
    · obtain ⟨m, hm, rfl⟩ := dX_at hd
      have hml : m < mine.length := upM_lt h3 (List.mem_of_getElem? hm)
      have l1 : (mine.eraseIdx m).length = mine.length - 1 := List.length_eraseIdx_of_lt hml
      have l2 : (theirs.eraseIdx i).length = theirs.length - 1 := List.length_eraseIdx_of_lt h3
      have l3 := row_len (mine.eraseIdx m) (theirs.eraseIdx i)
      refine vb_set 7 (d := .int (hit mine theirs m i)) ((v_intB B (v_ge (v_ixL (v_name 0 rfl) (v_name 6 rfl) (atI_dI hml)) (v_ixL (v_name 1 rfl) (v_name 2 rfl) (atI_dI h3)))).is ?_) S73.nd ?_
      · unfold hit
        by_cases h : theirs.getD i 0 ≤ mine.getD m 0
        · rw [decide_eq_true h, if_pos h]
          rfl
        · rw [decide_eq_false h, if_neg h]
          rfl
      · refine vb_set 8 (d := dL (rowOf (mine.eraseIdx m) (theirs.eraseIdx i))) (v_call inW C62 hr (va_d (v_out (v_name 0 rfl) (v_name 6 rfl) (v_name 0 rfl) (v_name 6 rfl) h1) (va_d (v_out (v_name 1 rfl) (v_name 2 rfl) (v_name 1 rfl) (v_name 2 rfl) (by omega)) va_nil)) ⟨_, _, rfl, by omega, by omega, rfl⟩) S73.nd ?_
        refine vb_set 9 (v_add (v_call inW C63 hr (va_d (v_name 8 rfl) (va_d (v_name 3 rfl) (va_d v_str va_nil))) ⟨_, z, false, rfl, by omega, by omega, hg, rfl⟩) (v_name 7 rfl)) S73.nd ?_
        refine vb_set 10 (v_add (v_call inW C63 hr (va_d (v_name 8 rfl) (va_d (v_name 3 rfl) (va_d v_str va_nil))) ⟨_, z, true, rfl, by omega, by omega, hg, rfl⟩) (v_name 7 rfl)) S73.nd ?_
        refine vb_if1 (vw_and (vt_le (v_name 9 rfl) (v_name 4 rfl)) (fun _ => vw_and1 (vt_le (v_name 4 rfl) (v_name 10 rfl)))).vt (fun hc => ?_) (fun hc => ?_)
        · have hok : okAns mine theirs i (zM z) (zT z) k m = true := by
            unfold okAns
            rw [Bool.and_eq_true, decide_eq_true_eq, decide_eq_true_eq] at hc
            exact decide_eq_true hc
          refine vb_ret (v_name 6 rfl) (Rt.is hO ?_)
          unfold ansOf
          rw [if_neg (by omega), find_at hm hok hk]
          rfl
        · refine vb_nx rfl ⟨.inr rfl, .inr rfl, .inr rfl, .inr rfl, .inr rfl, .inr rfl, .inl rfl, .inl rfl, .inl rfl, .inl rfl, .inl rfl, True.intro⟩ fun G H h => ⟨fun y hy => ?_, h⟩
          rw [take_snoc hm, List.mem_append, List.mem_singleton] at hy
          rcases hy with hy | rfl
          · exact hk y hy
          · unfold okAns
            rw [Bool.and_eq_false_iff, decide_eq_false_iff_not, decide_eq_false_iff_not] at hc
            exact decide_eq_false fun q => hc.elim (fun n => n q.1) fun n => n q.2
    · rw [dX_len, List.take_length] at hk
      refine vb_ret (v_ixL (v_name 5 rfl) v_int (atI_dX0 (by omega))) (Rt.is hO ?_)
      unfold ansOf
      rw [if_neg (by omega), List.find?_eq_none.mpr (fun y hy => by rw [hk y hy]; exact Bool.false_ne_true)]
      rfl
theorem fn73 {W : Wd} {f : Addr} {fd : FuncData} (B : Bl W.mg) (C64 : Fn W "_law_up" 6 P64 [] F64) (C62 : Fn W "_law_row" 6 P61 [] F62) (C63 : Fn W "_law_value" 1 P63 [] F63) (D : FunP W "_law_due_answer" s73 [] f fd) (hm : W.mg "_law_due_answer" = some (.ref f)) : Fn W "_law_due_answer" 7 P73 [] F52 :=
  fn_mk D hm S73 (b73 B C64 C62 C63) fun _ _ _ _ _ _ us hl => match us, hl with | [_, _, _, _, _], _ => rfl
end K43
namespace K43
open PySem PySem.Spec PyProof.Rows L2
/-! ### a list of two lists of one's own -/
def As.lsv (l : Addr) (vs : List V) : As := ⟨fun G H => G l = none ∧ H l = some (.lst vs), fun s e h => ⟨e.ow l (by rw [h.2]; simp) h.1, e.hh _ _ h.2⟩⟩
theorem stp_lsv {l m : Addr} {vs : List V} (h : m ≠ l) : StP l (As.lsv m vs) := fun G H o g z => ⟨z.1, by rw [upd_ne h]; exact z.2⟩
section
variable {X : Cx} {Φ Ψ : As} {ρ : List Sl} {a b e e1 e2 o tg : Expr} {pos p pos2 : Pos} {Gm G0 H0 : Hp} {D : Ends} {rest : List Stmt}
/-- name = [a new list, another] -/
theorem vb_new2 {x : Str} {p : Pos} {ds1 ds2 : List PyData} (i : Nat) (h1 : VN X Φ ρ e1 ds1) (h2 : VN X Φ ρ e2 ds2) (hN : X.N.Nodup)
    (k : ∀ l1 l2 l, H0 l1 = none → H0 l2 = none → H0 l = none → l1 ≠ l2 → l1 ≠ l → l2 ≠ l → VB X Gm G0 H0 rest (As.and (As.lst l1 ds1) (As.and (As.lst l2 ds2) (As.and (As.lsv l [.ref l1, .ref l2]) Φ))) (ρ.set i (.v (.ref l))) D)
    (hi : X.N[i]? = some x := by rfl) (hx : Loc X.env.scope x := by first | exact Or.inl rfl | exact Or.inr rfl) (hs : swapsWith (.List [e1, e2] pos2) (some (.Name x p)) pos.line X.env = pure false := by rfl) (hf : X.fn x = true ∨ X.env.scope.names.lookup x = some .local := by first | exact .inl rfl | exact .inr rfl)
    (hst : starEach [e1, e2] X.env = (false, eval e1 X.env) :: starEach [e2] X.env := by rfl) (hst2 : starEach [e2] X.env = (false, eval e2 X.env) :: starEach [] X.env := by rfl) :
    VB X Gm G0 H0 (.Assign [.Name x p] (.List [e1, e2] pos2) pos :: rest) Φ ρ D := fun σ G H m z r f =>
  wb_cons (ws_of (ps_set hN hi hx (pe_lst (pa_cons we (pa_cons we pa_nil hst2) hst)) hs hf) (h1 σ G H z.gh r f _ fun l1 xs1 G1 H1 x1 n1 g1 hx1 k1 => h2 σ G1 H1 x1.gh (r.mono x1.gg) (Φ.st z.gh x1 f) _ fun l2 xs2 G2 H2 x2 n2 g2 hx2 k2 => ⟨by rw [sizeLine_eq]; exact (by decide : 2 ≤ 16777216), fun l hl => by
    have q1 : H2 l1 = some (.lst xs1) := x2.hh _ _ hx1
    have q2 : l1 ≠ l2 := fun e => by rw [e, n2] at hx1; cases hx1
    have q3 : l1 ≠ l := fun e => by rw [e, hl] at q1; cases q1
    have q4 : l2 ≠ l := fun e => by rw [e, hl] at hx2; cases hx2
    have e12 := x1.trans x2
    have e3 := Ext.own (o := .lst [.ref l1, .ref l2]) e12.gh hl
    have e13 := e12.trans e3
    have g1' : G2 l1 = none := x2.ow l1 (by rw [hx1]; simp) g1
    exact k l1 l2 l (z.hh.free n1) (z.hh.free (x1.hh.free n2)) (z.hh.free (e12.hh.free hl)) q2 q3 q4 _ G2 _ (m.trans e13.gg) (z.trans e13) (SR.set (s := .v (.ref l)) (o := some (.ref l)) rfl i (r.mono e13.gg))
      ⟨⟨g1', xs1, by rw [upd_ne q3]; exact q1, k1.mono x2.gg⟩, ⟨g2, xs2, by rw [upd_ne q4]; exact hx2, k2⟩, ⟨e12.gh.free hl, upd_same⟩, Φ.st z.gh e13 f⟩⟩))
/-- name = a value -/
theorem vb_setV {x : Str} {p : Pos} {v : V} (i : Nat) (he : VV X Φ ρ e v) (hN : X.N.Nodup) (k : VB X Gm G0 H0 rest Φ (ρ.set i (.v v)) D) (hi : X.N[i]? = some x := by rfl) (hx : Loc X.env.scope x := by first | exact Or.inl rfl | exact Or.inr rfl)
    (hs : swapsWith e (some (.Name x p)) pos.line X.env = pure false := by rfl) (hf : X.fn x = true ∨ X.env.scope.names.lookup x = some .local := by first | exact .inl rfl | exact .inr rfl) : VB X Gm G0 H0 (.Assign [.Name x p] e pos :: rest) Φ ρ D := fun σ G H m z r f =>
  wb_cons (ws_of (ps_set hN hi hx we hs hf) (he σ G H z.gh r f _ fun G2 H2 e2 => k _ G2 H2 (m.trans e2.gg) (z.trans e2) (SR.set (s := .v v) (o := some v) rfl i (r.mono e2.gg)) (Φ.st z.gh e2 f)))
/-- l[i] of the outer list -/
theorem vv_ixO {l : Addr} {vs : List V} {j : Int} {v : V} {x : Str} {pn : Pos} (i : Nat) (hr : ρ[i]? = some (.v (.ref l))) (hp : ∀ G H, Φ.p G H → (As.lsv l vs).p G H) (hb : VE X Φ ρ b (.int j)) (hj : atI vs j = some v)
    (hN : X.N[i]? = some x := by rfl) (hv : Vis X.env.scope x := by first | exact Or.inl rfl | exact Or.inr (Or.inl rfl) | exact Or.inr (Or.inr rfl)) (hd : (x == ("__debug__" : Str)) = false := by decide) (hcd : (x == ("__classdict__" : Str)) = false := by decide) (hpx : PlainIx b := by exact fun _ _ => rfl) :
    VV X Φ ρ (.Subscript (.Name x pn) b pos) v := fun σ G H s r φ Q q =>
  we_of (pe_ix ix_list we we hpx) (vv_name i hr hN hv hd hcd σ G H s r φ _ fun G1 H1 e1 => hb σ G1 H1 e1.gh (r.mono e1.gg) (Φ.st s e1 φ) _ fun w G2 H2 e2 rw' => by
    cases rw'
    obtain ⟨_, hx⟩ := hp G2 H2 (Φ.st s (e1.trans e2) φ)
    exact ⟨l, vs, j, v, rfl, rfl, SqL.of hx, hj, q G2 H2 (e1.trans e2)⟩)
/-- return the outer list -/
theorem vb_retO {l1 l2 l : Addr} {ds1 ds2 : List PyData} {x : Str} {pn : Pos} (i : Nat) (hr : ρ[i]? = some (.v (.ref l))) (n12 : l1 ≠ l2) (n1 : l1 ≠ l) (n2 : l2 ≠ l) (h1 : H0 l1 = none) (h2 : H0 l2 = none) (h0 : H0 l = none) (h : Rt G0 H0 D.rt (.list [.list ds1, .list ds2]))
    (hN : X.N[i]? = some x := by rfl) (hv : Vis X.env.scope x := by first | exact Or.inl rfl | exact Or.inr (Or.inl rfl) | exact Or.inr (Or.inr rfl)) (hd : (x == ("__debug__" : Str)) = false := by decide) (hcd : (x == ("__classdict__" : Str)) = false := by decide) :
    VB X Gm G0 H0 (.Return (some (.Name x pn)) pos :: rest) (As.and (As.lst l1 ds1) (As.and (As.lst l2 ds2) (As.and (As.lsv l [.ref l1, .ref l2]) Φ))) ρ D := fun σ G H m z r f =>
  wb_cons (ws_of (ps_ret we) (vv_name i hr hN hv hd hcd σ G H z.gh r f _ fun G1 H1 e1 => by
    obtain ⟨⟨a1, xs1, a2, a3⟩, ⟨b1, xs2, b2, b3⟩, ⟨c1, c2⟩, _⟩ := (As.and (As.lst l1 ds1) (As.and (As.lst l2 ds2) (As.and (As.lsv l [.ref l1, .ref l2]) Φ))).st z.gh e1 f
    have z1 := z.trans e1
    have z2 := z1.still h1 a1 a2
    have g2 : (upd G1 l1 (.lst xs1)) l2 = none := by rw [upd_ne (Ne.symm n12)]; exact b1
    have z3 := z2.still h2 g2 b2
    have g3 : (upd (upd G1 l1 (.lst xs1)) l2 (.lst xs2)) l = none := by rw [upd_ne (Ne.symm n2), upd_ne (Ne.symm n1)]; exact c1
    have z4 := z3.still h0 g3 c2
    have s1 : Same G1 (upd G1 l1 (.lst xs1)) := same_new a1
    have s2 : Same (upd G1 l1 (.lst xs1)) (upd (upd G1 l1 (.lst xs1)) l2 (.lst xs2)) := same_new g2
    have s3 : Same (upd (upd G1 l1 (.lst xs1)) l2 (.lst xs2)) (upd (upd (upd G1 l1 (.lst xs1)) l2 (.lst xs2)) l (.lst [.ref l1, .ref l2])) := same_new g3
    refine h _ _ H1 z4 (.lst upd_same (.cons (.lst (xs := xs1) ?_ (a3.mono ((s1.trans s2).trans s3))) (.cons (.lst (xs := xs2) ?_ (b3.mono ((s1.trans s2).trans s3))) .nil)))
    · rw [upd_ne n1, upd_ne n12, upd_same]
    · rw [upd_ne n2, upd_same]))
end
/-! ### _law_levels -/
abbrev s65 : Stmt := top 65
abbrev N65 : List Str := ["_law_mine", "_law_theirs", "_law_height", "_law_found", "_law_x", "_law_card", "_law_row_here"]
def F65 : FR := fun ss _ r => ∃ mine theirs : List Int, ss = [.d (dL mine), .d (dL theirs)] ∧ mine.length ≤ 1000 ∧ mine.length = theirs.length ∧ r = .val (.list [dL (levT mine theirs), dL (levM mine theirs)])
theorem S65 : FnScope N65 P61 (defScope s65) := ⟨rfl, rfl, rfl, by decide +kernel, rfl, by decide +kernel, by decide +kernel⟩
theorem zeros_dI (l : List Int) : (l.filter fun _ => true).map (fun _ => PyData.int 0) = dI (List.replicate l.length 0) := by
  rw [filt_true]
  unfold dI
  rw [List.map_replicate, List.map_const']
theorem ord_dk {mine theirs : List Int} {i : Nat} {c : Cd} (h : (ord mine theirs)[i]? = some c) : (dk mine theirs)[i]? = some (nmOf c) := by
  unfold dk
  rw [List.getElem?_map, h]
  rfl
theorem b65 {W : Wd} (B : Bl W.mg) (C61 : Fn W "_law_order" 5 P61 [] F61) : Body W 5 N65 "_law_levels" s65 2 F65 := by
  intro f cdv A outer s H G Q E ss Φ r hr hF hO
  obtain ⟨mine, theirs, rfl, h1, h2, rfl⟩ := hF
  have hol := ord_length mine theirs
  have hd := dk_nodup mine theirs
  have hdl := dk_length mine theirs
  refine VB.weak (Φ' := As.top) ?_ (SLe.refl _) fun _ _ _ => True.intro
  refine vb_set 2 v_int S65.nd ?_
  refine vb_new2 3 ((vn_lc (α := Int) (xs := theirs) (enc := .int) (k := fun _ => true) (f := fun _ => .int 0) (is := [4]) (st := fun x ρ => ρ.set 4 (.d (.int x))) [("_law_x", 4)] rfl S65.nd (vi_list (v_name 1 rfl)) (by omega) (fun x _ s H C cl fp => vg_name 4 S65.nd) (fun x _ s H C cl fp => vts_nil) (fun x _ _ s H C cl fp => v_int)).is ((zeros_dI theirs).trans (congrArg dI (fnd_0 (dk mine theirs) false theirs.length).symm)))
    ((vn_lc (α := Int) (xs := mine) (enc := .int) (k := fun _ => true) (f := fun _ => .int 0) (is := [4]) (st := fun x ρ => ρ.set 4 (.d (.int x))) [("_law_x", 4)] rfl S65.nd (vi_list (v_name 0 rfl)) (by omega) (fun x _ s H C cl fp => vg_name 4 S65.nd) (fun x _ s H C cl fp => vts_nil) (fun x _ _ s H C cl fp => v_int)).is ((zeros_dI mine).trans (congrArg dI (fnd_0 (dk mine theirs) true mine.length).symm))) S65.nd fun l1 l2 l a1 a2 a3 n12 n1 n2 => ?_
  refine vb_for (ds := (ord mine theirs).map dC) (is := [5]) (f := fun d ρ => ρ.set 5 (.d d)) (fun i => [.d (dL mine), .d (dL theirs), .d (.int (htAt (dk mine theirs) i)), .v (.ref l), .no, .no, .no])
    (fun i => As.and (As.lst l1 (dI (fnd (dk mine theirs) false theirs.length i))) (As.and (As.lst l2 (dI (fnd (dk mine theirs) true mine.length i))) (As.and (As.lsv l [.ref l1, .ref l2]) As.top))) ownF rfl
    (vi_list (v_call inW C61 hr (va_d (v_name 0 rfl) (va_d (v_name 1 rfl) va_nil)) ⟨mine, theirs, rfl, h1, by omega, rfl⟩)) (fun d _ => vg_name 5 S65.nd) ⟨.inr rfl, .inr rfl, .inr rfl, .inr rfl, .inl rfl, .inl rfl, .inl rfl, True.intro⟩ (fun G H h => h) (fun Gm' _ i d hdi => ?_) ?_
  · obtain ⟨c, hc0, rfl⟩ := dC_at hdi
    have hc := ord_dk hc0
    have es := htAt_succ hc
    have hmem := List.mem_of_getElem? hc
    obtain ⟨x, o, j⟩ := c
    cases o with
    | false =>
      have hj : j < theirs.length := by
        rcases dk_mem.mp hmem with ⟨_, h⟩ | ⟨h, _⟩
        · exact h
        · cases h
      have hc : (dk mine theirs)[i]? = some (false, j) := hc
      refine vb_setV (v := .ref l1) 6 (vv_ixO 3 rfl (fun G H h => h.2.2.1) (v_ixT (v_name 5 rfl) v_int rfl) rfl) S65.nd ?_
      refine vb_if ((vt_eqI (v_ixT (v_name 5 rfl) v_int rfl) v_int).is (b' := true) rfl) (fun _ => ?_) (fun h => by cases h)
      refine vb_put (n := j) (j := (j : Int)) 6 rfl (v_name 2 rfl) (v_ixT (v_name 5 rfl) v_int rfl) (by rw [dI_len, fnd_len]; exact ixN_nat hj) a1 (stp_and (stp_lst (Ne.symm n12)) (stp_and (stp_lsv (Ne.symm n1)) stp_top)) ?_
      refine vb_set 2 (v_add (v_name 2 rfl) v_int) S65.nd (vb_fall (vb_nx rfl ⟨.inr rfl, .inr rfl, .inr ?_, .inr rfl, .inl rfl, .inl rfl, .inl rfl, True.intro⟩ ?_))
      · rw [es]
        rfl
      · rw [dI_set, fnd_set hd hc hj, fnd_other hd hc (show false ≠ true by decide), hgt_of hd hc]
        exact fun _ _ h => h
    | true =>
      have hj : j < mine.length := by
        rcases dk_mem.mp hmem with ⟨h, _⟩ | ⟨_, h⟩
        · cases h
        · exact h
      have hc : (dk mine theirs)[i]? = some (true, j) := hc
      refine vb_setV (v := .ref l2) 6 (vv_ixO 3 rfl (fun G H h => h.2.2.1) (v_ixT (v_name 5 rfl) v_int rfl) rfl) S65.nd ?_
      refine vb_if ((vt_eqI (v_ixT (v_name 5 rfl) v_int rfl) v_int).is (b' := false) rfl) (fun h => by cases h) (fun _ => ?_)
      refine vb_set 2 (d := .int (htAt (dk mine theirs) i - 1)) (v_sub (v_name 2 rfl) v_int) S65.nd ?_
      refine VB.weak (Φ' := As.and (As.lst l2 (dI (fnd (dk mine theirs) true mine.length i))) (As.and (As.lst l1 (dI (fnd (dk mine theirs) false theirs.length i))) (As.and (As.lsv l [.ref l1, .ref l2]) As.top))) ?_ (SLe.refl _) fun G H h => ⟨h.2.1, h.1, h.2.2⟩
      refine vb_put (n := j) (j := (j : Int)) 6 rfl (v_name 2 rfl) (v_ixT (v_name 5 rfl) v_int rfl) (by rw [dI_len, fnd_len]; exact ixN_nat hj) a2 (stp_and (stp_lst n12) (stp_and (stp_lsv (Ne.symm n2)) stp_top)) ?_
      refine vb_fall (vb_nx rfl ⟨.inr rfl, .inr rfl, .inr ?_, .inr rfl, .inl rfl, .inl rfl, .inl rfl, True.intro⟩ ?_)
      · rw [es]
        rfl
      · rw [dI_set, fnd_set hd hc hj, fnd_other hd hc (show true ≠ false by decide), if_pos rfl, hgt_of hd hc]
        exact fun _ _ h => ⟨h.2.1, h.1, h.2.2⟩
  · have hlen : ((ord mine theirs).map dC).length = (dk mine theirs).length := by rw [List.length_map, hol, hdl]
    rw [hlen]
    have e1 := fnd_all h2 false
    have e2 := fnd_all h2 true
    rw [h2] at e1
    rw [e1, e2]
    exact vb_retO 3 rfl n12 n1 n2 a1 a2 a3 hO
theorem fn65 {W : Wd} {f : Addr} {fd : FuncData} (B : Bl W.mg) (C61 : Fn W "_law_order" 5 P61 [] F61) (D : FunP W "_law_levels" s65 [] f fd) (hm : W.mg "_law_levels" = some (.ref f)) : Fn W "_law_levels" 6 P61 [] F65 :=
  fn_mk D hm S65 (b65 B C61) fun _ _ _ _ _ _ us hl => match us, hl with | [_, _], _ => rfl
end K43
namespace K43
open PySem PySem.Spec PyProof.Rows L2
/-! ### _law_due_lay -/
abbrev s72 : Stmt := top 72
abbrev P72 : List Str := ["_law_mine", "_law_theirs", "_law_letters", "_law_needed"]
abbrev N72 : List Str := ["_law_mine", "_law_theirs", "_law_letters", "_law_needed", "_law_order_here", "_law_card", "_law_mine_lays", "_law_x", "_law_their_lays", "_law_levels_here", "_law_row_here", "_law_index", "_law_up_here", "_law_lower", "_law_upper"]
def F72 : FR := fun ss Φ r => F51 ss Φ r ∧ ∃ (a b k : Sl) (z : List Nat), ss = [a, b, .d (.str ⟨z.toArray⟩), k] ∧ AllGd z
theorem S72 : FnScope N72 P72 (defScope s72) := ⟨rfl, rfl, rfl, by decide +kernel, rfl, by decide +kernel, by decide +kernel⟩
theorem pick_dC (l : List Cd) (o : Bool) : (l.filter fun c => c.2.1 == o).map (fun c => PyData.int (c.2.2 : Int)) = dX (((l.map nmOf).filter fun c => c.1 == o).map (·.2)) := by
  unfold dX
  rw [List.filter_map, List.map_map, List.map_map]
  rfl
theorem mine_ord (mine theirs : List Int) : ((ord mine theirs).filter fun c => c.2.1 == true).map (fun c => PyData.int (c.2.2 : Int)) = dX (mineO mine theirs) := by
  rw [pick_dC]
  unfold mineO dk
  congr 3
  funext c
  simp
theorem eq_b01 : ∀ b : Bool, decide (b01 b = 1) = (b == true) := by decide
theorem eq_b00 : ∀ b : Bool, decide (b01 b = 0) = (b == false) := by decide
theorem strs_inj {a b : List Nat} (h : PyData.str ⟨a.toArray⟩ = .str ⟨b.toArray⟩) : a = b := by
  injection h with h
  injection h with h
  exact List.toArray_inj h
theorem atI_last {l : List Nat} (h : 0 < l.length) : atI (dX l) ((l.length : Int) - 1) = some (.int (l.getLastD 0 : Nat)) := by
  have e : (l.length : Int) - 1 = ((l.length - 1 : Nat) : Int) := by omega
  rw [e, atI_dX (by omega)]
  congr 3
  rw [List.getLastD_eq_getLast?, List.getLast?_eq_getElem?, List.getD_eq_getElem?_getD]
theorem b72 {W : Wd} (B : Bl W.mg) (C61 : Fn W "_law_order" 5 P61 [] F61) (C65 : Fn W "_law_levels" 6 P61 [] F65) (C62 : Fn W "_law_row" 6 P61 [] F62) (C64 : Fn W "_law_up" 6 P64 [] F64) (C71 : Fn W "_law_shorter" 1 P71 [] F71) : Body W 6 N72 "_law_due_lay" s72 4 F72 := by
  intro f cdv A outer s H G Q E ss Φ r hr hF hO
  obtain ⟨⟨mine, theirs, z, k, rfl, h1, h2, h0, hz, hm, rfl⟩, _, _, _, z', e0, hg⟩ := hF
  have hzz : z = z' := by
    injection e0 with _ e0
    injection e0 with _ e0
    injection e0 with e0 _
    injection e0 with e0
    exact strs_inj e0
  subst hzz
  have hml := mineO_len mine theirs
  have hol := ord_length mine theirs
  have hrl := row_len mine theirs
  have hll := levT_len mine theirs
  have hl5 : (dI (levT mine theirs)).length = theirs.length := by rw [dI_len, hll]
  refine vb_setLc (α := Cd) (xs := ord mine theirs) (enc := dC) (k := fun c => c.2.1 == true) (f := fun c => .int (c.2.2 : Int)) (is := [5]) (st := fun c ρ => ρ.set 5 (.d (dC c))) 4 [("_law_card", 5)] rfl S72.nd
    (vi_list (v_call inW C61 hr (va_d (v_name 0 rfl) (va_d (v_name 1 rfl) va_nil)) ⟨mine, theirs, rfl, h1, by omega, rfl⟩)) (by omega) (fun c _ s H C cl fp => vg_name 5 S72.nd) (fun c _ s H C cl fp => vts_one ((vt_eqI (v_ixT (v_name 5 rfl) v_int rfl) v_int).is (eq_b01 c.2.1))) (fun c _ _ s H C cl fp => v_ixT (v_name 5 rfl) v_int rfl) ?_
  rw [mine_ord]
  refine vb_if1 (vt_eqI (v_lenL B (v_name 4 rfl)) v_int) (fun hc => ?_) (fun hc => ?_)
  · have hc := of_decide_eq_true hc
    rw [dX_len] at hc
    refine vb_ret (v_ixL (v_name 4 rfl) v_int (atI_dX0 (by omega))) (Rt.is hO ?_)
    unfold layOf
    rw [if_pos (by omega)]
  · have hc := of_decide_eq_false hc
    rw [dX_len] at hc
    have n1 : mine.length ≠ 1 := by omega
    have hf := hm n1
    have hfs := zT_eq hg
    refine vb_set 6 (d := .int (zM z)) ((v_lenL B (vn_lc (α := Nat) (xs := z.dropLast) (enc := fun c => .str ⟨[c].toArray⟩) (k := fun c => c == 77) (f := fun c => .str ⟨[c].toArray⟩) (is := [7]) (st := fun c ρ => ρ.set 7 (.d (.str ⟨[c].toArray⟩))) [("_law_x", 7)] rfl S72.nd
      (vi_str ((v_slS (v_name 2 rfl) vo_none (vo_some ((v_sub (v_lenS B (v_name 2 rfl) (by omega)) v_int).is (d' := .int ((z.length - 1 : Nat) : Int)) (by congr 1; omega))) (by omega)).is (by rw [cut_all, List.dropLast_eq_take])) (by rw [List.length_dropLast]; omega)) (by rw [List.length_dropLast]; omega) (fun c _ s H C cl fp => vg_name 7 S72.nd) (fun c _ s H C cl fp => vts_one ((vt_eqC 77 (v_name 7 rfl)).is rfl)) (fun c _ _ s H C cl fp => v_name 7 rfl)).ve).is (by rw [List.length_map, len_count]; rfl)) S72.nd ?_
    refine vb_set 8 (d := .int (zT z)) ((v_sub (v_sub (v_lenS B (v_name 2 rfl) (by omega)) v_int) (v_name 6 rfl)).is (by congr 1; omega)) S72.nd ?_
    refine vb_set 9 (d := dL (levT mine theirs)) (v_ixL (v_call inW C65 hr (va_d (v_name 0 rfl) (va_d (v_name 1 rfl) va_nil)) ⟨mine, theirs, rfl, h1, h2, rfl⟩) v_int rfl) S72.nd ?_
    refine vb_set 10 (d := dL (rowOf mine theirs)) (v_call inW C62 hr (va_d (v_name 0 rfl) (va_d (v_name 1 rfl) va_nil)) ⟨mine, theirs, rfl, h1, by omega, rfl⟩) S72.nd ?_
    refine vb_for (ds := dX (mineO mine theirs)) (is := [11]) (f := fun d ρ => ρ.set 11 (.d d)) (fun _ => [.d (dL mine), .d (dL theirs), .d (.str ⟨z.toArray⟩), .d (.int k), .d (.list (dX (mineO mine theirs))), .no, .d (.int (zM z)), .no, .d (.int (zT z)), .d (dL (levT mine theirs)), .d (dL (rowOf mine theirs)), .no, .no, .no, .no])
      (fun i => As.and (As.pu (∀ y ∈ (mineO mine theirs).take i, okLay mine theirs (zM z) (zT z) k y = false)) Φ) ownF rfl (vi_list (v_name 4 rfl)) (fun d _ => vg_name 11 S72.nd) ⟨.inr rfl, .inr rfl, .inr rfl, .inr rfl, .inr rfl, .inl rfl, .inr rfl, .inl rfl, .inr rfl, .inr rfl, .inr rfl, .inl rfl, .inl rfl, .inl rfl, .inl rfl, True.intro⟩
      (fun G H h => ⟨fun y hy => (by simp at hy), h⟩) (fun Gm' _ i d hd => vb_pu fun hk => ?_) (vb_pu fun hk => ?_)
    · obtain ⟨j, hj, rfl⟩ := dX_at hd
      have hjm : j < mine.length := mineO_mem.mp (List.mem_of_getElem? hj)
      have hul : (upL mine theirs (true, j)).length = theirs.length := upL_lenT hjm
      have hne : upL mine theirs (true, j) ≠ [] := fun e => by
        rw [e] at hul
        simp at hul
        omega
      have u1 : (upL mine theirs (true, j)).headD 0 < theirs.length := upT_lt hjm (headD_mem hne)
      have u2 : (upL mine theirs (true, j)).getLastD 0 < theirs.length := upT_lt hjm (getLastD_mem hne)
      have hxl := dX_len (upL mine theirs (true, j))
      refine vb_set 12 (d := .list (dX (upL mine theirs (true, j)))) (v_call inW C64 hr (va_d (v_name 0 rfl) (va_d (v_name 1 rfl) (va_d v_str (va_d (v_name 11 rfl) va_nil)))) ⟨mine, theirs, true, j, rfl, h1, by omega, hjm, rfl⟩) S72.nd ?_
      refine vb_set 13 (v_call inW C71 hr (va_d (v_name 10 rfl) (va_d (v_ixL (v_name 9 rfl) (v_ixL (v_name 12 rfl) v_int (atI_dX0 (by omega))) (atI_dI (by omega))) va_nil)) ⟨rowOf mine theirs, _, rfl, by omega, levT_mem u1, rfl⟩) S72.nd ?_
      refine vb_set 14 (v_call inW C71 hr (va_d (v_name 10 rfl) (va_d (v_ixL (v_name 9 rfl) (v_ixL (v_name 12 rfl) (v_sub (v_lenL B (v_name 12 rfl)) v_int) (by rw [hxl]; exact atI_last (by omega))) (atI_dI (by omega))) va_nil)) ⟨rowOf mine theirs, _, rfl, by omega, levT_mem u2, rfl⟩) S72.nd ?_
      have e1 := List.length_erase_of_mem (levT_mem (mine := mine) u1)
      have e2 := List.length_erase_of_mem (levT_mem (mine := mine) u2)
      refine vb_if1 (vw_and (vt_ge (v_add (v_add (v_ixL (i := ((zM z - 1 : Nat) : Int)) (v_name 13 rfl) ((v_sub (v_name 6 rfl) v_int).is ?_) (atI_dI ?_)) (v_name 8 rfl)) v_int) (v_name 3 rfl)) (fun _ => vw_and1 (vt_le (v_add (v_add (v_ixL (v_name 14 rfl) (v_name 8 rfl) (atI_dI ?_)) (v_name 6 rfl)) v_int) (v_name 3 rfl)))).vt (fun hc => ?_) (fun hc => ?_)
      · congr 1
        omega
      · omega
      · omega
      · have hok : okLay mine theirs (zM z) (zT z) k j = true := by
          unfold okLay
          rw [Bool.and_eq_true, decide_eq_true_eq, decide_eq_true_eq] at hc
          exact decide_eq_true hc
        refine vb_ret (v_name 11 rfl) (Rt.is hO ?_)
        unfold layOf
        rw [if_neg (by omega), find_at hj hok hk]
        rfl
      · refine vb_nx rfl ⟨.inr rfl, .inr rfl, .inr rfl, .inr rfl, .inr rfl, .inl rfl, .inr rfl, .inl rfl, .inr rfl, .inr rfl, .inr rfl, .inl rfl, .inl rfl, .inl rfl, .inl rfl, True.intro⟩ fun G H h => ⟨fun y hy => ?_, h⟩
        rw [take_snoc hj, List.mem_append, List.mem_singleton] at hy
        rcases hy with hy | rfl
        · exact hk y hy
        · unfold okLay
          rw [Bool.and_eq_false_iff, decide_eq_false_iff_not, decide_eq_false_iff_not] at hc
          exact decide_eq_false fun q => hc.elim (fun n => n q.1) fun n => n q.2
    · rw [dX_len, List.take_length] at hk
      refine vb_ret (v_ixL (v_name 4 rfl) v_int (atI_dX0 (by omega))) (Rt.is hO ?_)
      unfold layOf
      rw [if_neg (by omega), List.find?_eq_none.mpr (fun y hy => by rw [hk y hy]; exact Bool.false_ne_true)]
      rfl
theorem fn72 {W : Wd} {f : Addr} {fd : FuncData} (B : Bl W.mg) (C61 : Fn W "_law_order" 5 P61 [] F61) (C65 : Fn W "_law_levels" 6 P61 [] F65) (C62 : Fn W "_law_row" 6 P61 [] F62) (C64 : Fn W "_law_up" 6 P64 [] F64) (C71 : Fn W "_law_shorter" 1 P71 [] F71) (D : FunP W "_law_due_lay" s72 [] f fd) (hm : W.mg "_law_due_lay" = some (.ref f)) : Fn W "_law_due_lay" 7 P72 [] F72 :=
  fn_mk D hm S72 (b72 B C61 C65 C62 C64 C71) fun _ _ _ _ _ _ us hl => match us, hl with | [_, _, _, _], _ => rfl
end K43
namespace K43
open PySem PySem.Spec PyProof.Rows L2
/-! ### _law_foe -/
abbrev s70 : Stmt := top 70
abbrev P70 : List Str := ["_law_mine", "_law_theirs", "_law_laid", "_law_way"]
abbrev N70 : List Str := ["_law_mine", "_law_theirs", "_law_laid", "_law_way", "_law_order_here", "_law_card", "_law_mode", "_law_up_here", "_law_levels_here", "_law_goal", "_law_k"]
def theirO (mine theirs : List Int) : List Nat := ((dk mine theirs).filter fun c => c.1 == false).map (·.2)
theorem theirO_mem {mine theirs : List Int} {i : Nat} : i ∈ theirO mine theirs ↔ i < theirs.length := by
  unfold theirO
  rw [List.mem_map]
  constructor
  · rintro ⟨c, hc, rfl⟩
    rw [List.mem_filter] at hc
    obtain ⟨h1, h2⟩ := hc
    rcases dk_mem.mp (show (c.1, c.2) ∈ dk mine theirs from h1) with ⟨_, h⟩ | ⟨h, _⟩
    · exact h
    · rw [h] at h2
      cases h2
  · intro h
    exact ⟨(false, i), List.mem_filter.mpr ⟨dk_mem.mpr (.inl ⟨rfl, h⟩), rfl⟩, rfl⟩
theorem theirO_len (mine theirs : List Int) : (theirO mine theirs).length = theirs.length := by
  have hm := mineO_len mine theirs
  have hd := dk_length mine theirs
  have h : ∀ l : List Nm, (l.filter fun c => c.1 == false).length + (l.filter fun c => c.1).length = l.length := fun l => by
    induction l with
    | nil => rfl
    | cons a l ih =>
      obtain ⟨b, i⟩ := a
      cases b <;> simp at ih ⊢ <;> omega
  have := h (dk mine theirs)
  unfold mineO at hm
  unfold theirO
  rw [List.length_map] at hm ⊢
  omega
theorem their_ord (mine theirs : List Int) : ((ord mine theirs).filter fun c => c.2.1 == false).map (fun c => PyData.int (c.2.2 : Int)) = dX (theirO mine theirs) := by
  rw [pick_dC]
  rfl
def foeM (a b : Nat) : Nat := if 4 < a then b / 41 % 5 else a
def laidD : Option Nat → PyData
  | none => .none
  | some j => .int (j : Int)
def foeOf (mine theirs : List Int) (laid : Option Nat) (a b : Nat) (mx mn : Int) : Nat :=
  if foeM a b = 0 then b % theirs.length
  else if 2 < foeM a b then (theirO mine theirs).getD ((foeM a b - 3) * (theirs.length - 1)) 0
  else match laid with
    | some j => if foeM a b = 1 then (upL mine theirs (true, j)).headD 0 else (upL mine theirs (true, j)).getLastD 0
    | none => ((theirO mine theirs).filter fun i => (levT mine theirs).getD i 0 == (if foeM a b = 1 then mx else mn)).headD 0
def Ext2 (l : List Int) (mx mn : Int) : Prop := (mx ∈ l ∧ ∀ y ∈ l, y ≤ mx) ∧ (mn ∈ l ∧ ∀ y ∈ l, mn ≤ y)
theorem ext2_ex : ∀ {l : List Int}, l ≠ [] → ∃ mx mn, Ext2 l mx mn
  | [], h => absurd rfl h
  | [a], _ => ⟨a, a, ⟨by simp, by simp⟩, by simp, by simp⟩
  | a :: b :: l, _ => by
    obtain ⟨mx, mn, ⟨h1, h2⟩, h3, h4⟩ := ext2_ex (l := b :: l) (by simp)
    refine ⟨if a ≤ mx then mx else a, if mn ≤ a then mn else a, ⟨?_, fun y hy => ?_⟩, ?_, fun y hy => ?_⟩
    · split
      · exact List.mem_cons_of_mem _ h1
      · exact List.mem_cons_self
    · rcases List.mem_cons.mp hy with rfl | hy
      · split <;> omega
      · have := h2 y hy
        split <;> omega
    · split
      · exact List.mem_cons_of_mem _ h3
      · exact List.mem_cons_self
    · rcases List.mem_cons.mp hy with rfl | hy
      · split <;> omega
      · have := h4 y hy
        split <;> omega
def laidOk (n : Nat) : Option Nat → Prop
  | none => True
  | some j => j < n
def F70 : FR := fun ss _ r => ∃ (mine theirs : List Int) (laid : Option Nat) (a b : Nat) (mx mn : Int), ss = [.d (dL mine), .d (dL theirs), .d (laidD laid), .d (.list [.int a, .int b])] ∧ mine.length ≤ 1000 ∧ mine.length = theirs.length ∧ 0 < mine.length ∧ laidOk mine.length laid ∧ Ext2 (levT mine theirs) mx mn ∧
  r = .val (.int (foeOf mine theirs laid a b mx mn : Nat))
theorem S70 : FnScope N70 P70 (defScope s70) := ⟨rfl, rfl, rfl, by decide +kernel, rfl, by decide +kernel, by decide +kernel⟩
theorem levT_ix {mine theirs : List Int} {x : Int} (h : x ∈ levT mine theirs) : ∃ i, i < theirs.length ∧ (levT mine theirs).getD i 0 = x := by
  obtain ⟨i, hi⟩ := List.getElem?_of_mem h
  refine ⟨i, ?_, ?_⟩
  · rw [← levT_len mine theirs]
    exact (List.getElem?_eq_some_iff.mp hi).1
  · rw [List.getD_eq_getElem?_getD, hi]
    rfl
theorem goal_ne {mine theirs : List Int} {x : Int} (h : x ∈ levT mine theirs) : ((theirO mine theirs).filter fun i => (levT mine theirs).getD i 0 == x) ≠ [] := fun e => by
  obtain ⟨i, hi, h2⟩ := levT_ix h
  have : i ∈ ((theirO mine theirs).filter fun i => (levT mine theirs).getD i 0 == x) := List.mem_filter.mpr ⟨theirO_mem.mpr hi, beq_iff_eq.mpr h2⟩
  rw [e] at this
  cases this
theorem foe_lt {mine theirs : List Int} {laid : Option Nat} {a b : Nat} {mx mn : Int} (h2 : mine.length = theirs.length) (h0 : 0 < mine.length) (hl : laidOk mine.length laid) (he : Ext2 (levT mine theirs) mx mn) : foeOf mine theirs laid a b mx mn < theirs.length := by
  unfold foeOf
  split
  · exact Nat.mod_lt _ (by omega)
  · split
    · by_cases hi : (foeM a b - 3) * (theirs.length - 1) < (theirO mine theirs).length
      · rw [List.getD_eq_getElem?_getD, List.getElem?_eq_getElem hi]
        exact theirO_mem.mp (List.getElem_mem hi)
      · rw [List.getD_eq_getElem?_getD, List.getElem?_eq_none (by omega)]
        show 0 < _
        omega
    · cases laid with
      | some j =>
        have hj : j < mine.length := hl
        have hne : upL mine theirs (true, j) ≠ [] := fun e => by
          have := upL_lenT (theirs := theirs) hj
          rw [e] at this
          simp at this
          omega
        dsimp only
        split
        · exact upT_lt hj (headD_mem hne)
        · exact upT_lt hj (getLastD_mem hne)
      | none =>
        dsimp only
        refine theirO_mem.mp (List.mem_filter.mp (headD_mem (goal_ne ?_))).1
        split
        · exact he.1.1
        · exact he.2.1
theorem b70 {W : Wd} (B : Bl W.mg) (C61 : Fn W "_law_order" 5 P61 [] F61) (C65 : Fn W "_law_levels" 6 P61 [] F65) (C64 : Fn W "_law_up" 6 P64 [] F64) : Body W 6 N70 "_law_foe" s70 4 F70 := by
  intro f cdv A outer s H G Q E ss Φ r hr hF hO
  obtain ⟨mine, theirs, laid, a, b, mx, mn, rfl, h1, h2, h0, hla, he, rfl⟩ := hF
  have hol := ord_length mine theirs
  have hll := levT_len mine theirs
  have htl := theirO_len mine theirs
  refine vb_setLc (α := Cd) (xs := ord mine theirs) (enc := dC) (k := fun c => c.2.1 == false) (f := fun c => .int (c.2.2 : Int)) (is := [5]) (st := fun c ρ => ρ.set 5 (.d (dC c))) 4 [("_law_card", 5)] rfl S70.nd
    (vi_list (v_call inW C61 hr (va_d (v_name 0 rfl) (va_d (v_name 1 rfl) va_nil)) ⟨mine, theirs, rfl, h1, by omega, rfl⟩)) (by omega) (fun c _ s H C cl fp => vg_name 5 S70.nd) (fun c _ s H C cl fp => vts_one ((vt_eqI (v_ixT (v_name 5 rfl) v_int rfl) v_int).is (eq_b00 c.2.1))) (fun c _ _ s H C cl fp => v_ixT (v_name 5 rfl) v_int rfl) ?_
  rw [their_ord]
  have hxl := dX_len (theirO mine theirs)
  have rest : ∀ m : Nat, m = foeM a b → (m ≤ 4 ∨ 4 < a) → m ≤ 4 → VB (cxF W N70 "_law_foe" (defScope s70) f cdv A outer s H E) G G H ((defBody s70).drop 3) Φ [.d (dL mine), .d (dL theirs), .d (laidD laid), .d (.list [.int a, .int b]), .d (.list (dX (theirO mine theirs))), .no, .d (.int m), .no, .no, .no, .no] { nx := fun _ H' => Q .non H', rt := Q } := fun m hm _ hm4 => by
    refine vb_if1 (vt_eqI (v_name 6 rfl) v_int) (fun hc => ?_) (fun hc => ?_)
    · have hc := of_decide_eq_true hc
      refine vb_ret (v_mod (v_intI B (v_ixL (v_name 3 rfl) v_int rfl)) (v_lenL B (v_name 4 rfl)) (by omega)) (Rt.is hO ?_)
      unfold foeOf
      rw [if_pos (by omega), hxl, htl]
      congr 1
    · have hc := of_decide_eq_false hc
      refine vb_if1 (vt_gt (v_name 6 rfl) v_int) (fun hc2 => ?_) (fun hc2 => ?_)
      · have hc2 := of_decide_eq_true hc2
        have hm3 : m = 3 ∨ m = 4 := by omega
        have hi : (m - 3) * (theirs.length - 1) < (theirO mine theirs).length := by
          rw [htl]
          rcases hm3 with rfl | rfl
          · omega
          · omega
        refine vb_ret (v_ixL (i := (((m - 3) * (theirs.length - 1) : Nat) : Int)) (v_name 4 rfl) ((v_mul (v_sub (v_name 6 rfl) v_int) (v_sub (v_lenL B (v_name 4 rfl)) v_int) (cmul_small (by omega))).is ?_) (atI_dX hi)) (Rt.is hO ?_)
        · rw [hxl, htl]
          congr 1
          rcases hm3 with rfl | rfl
          · omega
          · omega
        · unfold foeOf
          rw [if_neg (by omega), if_pos (by omega), hm]
      · have hc2 := of_decide_eq_false hc2
        have hm12 : m = 1 ∨ m = 2 := by omega
        cases laid with
        | some j =>
          have hj : j < mine.length := hla
          have hul : (upL mine theirs (true, j)).length = theirs.length := upL_lenT hj
          have hyl := dX_len (upL mine theirs (true, j))
          refine vb_if1 (vt_notN (v_name (d := .int (j : Int)) 2 rfl)) (fun _ => ?_) (fun hc3 => by cases hc3)
          refine vb_set 7 (d := .list (dX (upL mine theirs (true, j)))) (v_call inW C64 hr (va_d (v_name 0 rfl) (va_d (v_name 1 rfl) (va_d v_str (va_d (v_name (d := .int (j : Int)) 2 rfl) va_nil)))) ⟨mine, theirs, true, j, rfl, h1, by omega, hj, rfl⟩) S70.nd ?_
          refine vb_ret (d := .int (foeOf mine theirs (some j) a b mx mn : Nat)) (v_ixL (vn_lst (ds := [.int ((upL mine theirs (true, j)).headD 0 : Nat), .int ((upL mine theirs (true, j)).getLastD 0 : Nat)]) (va_d (v_ixL (v_name 7 rfl) v_int (atI_dX0 (by omega))) (va_d (v_ixL (v_name 7 rfl) (v_sub (v_lenL B (v_name 7 rfl)) v_int) (by rw [hyl]; exact atI_last (by omega))) va_nil))).ve (v_sub (v_name 6 rfl) v_int) ?_) hO
          unfold foeOf
          rw [if_neg (by omega), if_neg (by omega)]
          dsimp only
          rcases hm12 with h | h
          · rw [if_pos (by omega), h]
            rfl
          · rw [if_neg (by omega), h]
            rfl
        | none =>
          refine vb_if1 (vt_notN (v_name (d := .none) 2 rfl)) (fun hc3 => by cases hc3) (fun _ => ?_)
          refine vb_set 8 (d := dL (levT mine theirs)) (v_ixL (v_call inW C65 hr (va_d (v_name 0 rfl) (va_d (v_name 1 rfl) va_nil)) ⟨mine, theirs, rfl, h1, h2, rfl⟩) v_int rfl) S70.nd ?_
          refine vb_set 9 (d := .int (if m = 1 then mx else mn)) (v_ixL (vn_lst (ds := [.int mx, .int mn]) (va_d (v_maxL B rfl (v_name 8 rfl) he.1.1 he.1.2) (va_d (v_minL B rfl (v_name 8 rfl) he.2.1 he.2.2) va_nil))).ve (v_sub (v_name 6 rfl) v_int) ?_) S70.nd ?_
          · rcases hm12 with h | h
            · rw [if_pos h, h]
              rfl
            · rw [if_neg (by omega), h]
              rfl
          · refine vb_ret (d := .int (foeOf mine theirs none a b mx mn : Nat)) (v_ixL (vn_lc (α := Nat) (xs := theirO mine theirs) (enc := fun i => .int (i : Int)) (k := fun i => (levT mine theirs).getD i 0 == (if m = 1 then mx else mn)) (f := fun i => .int (i : Int)) (is := [10]) (st := fun i ρ => ρ.set 10 (.d (.int (i : Int)))) [("_law_k", 10)] rfl S70.nd
              (vi_list (v_name 4 rfl)) (by omega) (fun c _ s H C cl fp => vg_name 10 S70.nd) (fun c hcm s H C cl fp => vts_one ((vt_eqI (v_ixL (v_name 8 rfl) (v_name 10 rfl) (atI_dI (by rw [hll]; exact theirO_mem.mp hcm))) (v_name 9 rfl)).is (by rw [Bool.eq_iff_iff, decide_eq_true_eq, beq_iff_eq]))) (fun c _ _ s H C cl fp => v_name 10 rfl)).ve v_int ?_) hO
            have hne : ((theirO mine theirs).filter fun i => (levT mine theirs).getD i 0 == (if m = 1 then mx else mn)) ≠ [] := goal_ne (by
              split
              · exact he.1.1
              · exact he.2.1)
            refine (atI_dX0 (l := (theirO mine theirs).filter fun i => (levT mine theirs).getD i 0 == (if m = 1 then mx else mn)) (List.length_pos_iff.mpr hne)).trans ?_
            have e5 : foeOf mine theirs none a b mx mn = ((theirO mine theirs).filter fun i => (levT mine theirs).getD i 0 == (if m = 1 then mx else mn)).headD 0 := by
              unfold foeOf
              rw [← hm, if_neg (show ¬ m = 0 by omega), if_neg (show ¬ 2 < m by omega)]
            rw [e5]
  refine vb_set 6 (d := .int a) (v_ixL (v_name 3 rfl) v_int rfl) S70.nd ?_
  refine vb_if1 (vt_gt (v_name 6 rfl) v_int) (fun hc => ?_) (fun hc => ?_)
  · have hc := of_decide_eq_true hc
    have e : foeM a b = b / 41 % 5 := by
      unfold foeM
      rw [if_pos (by omega)]
    have hlt : b / 41 % 5 < 5 := Nat.mod_lt _ (by decide)
    refine vb_set 6 (d := .int ((b / 41 % 5 : Nat) : Int)) ((v_mod (v_div (v_intI B (v_ixL (v_name 3 rfl) v_int rfl)) v_int (cdivw (by decide) (by decide))) v_int (by decide)).is rfl) S70.nd (vb_fall ?_)
    exact rest (b / 41 % 5) e.symm (.inr (by omega)) (by omega)
  · have hc := of_decide_eq_false hc
    have e : foeM a b = a := by
      unfold foeM
      rw [if_neg (by omega)]
    exact rest a e.symm (.inl (by omega)) (by omega)
theorem fn70 {W : Wd} {f : Addr} {fd : FuncData} (B : Bl W.mg) (C61 : Fn W "_law_order" 5 P61 [] F61) (C65 : Fn W "_law_levels" 6 P61 [] F65) (C64 : Fn W "_law_up" 6 P64 [] F64) (D : FunP W "_law_foe" s70 [] f fd) (hm : W.mg "_law_foe" = some (.ref f)) : Fn W "_law_foe" 7 P70 [] F70 :=
  fn_mk D hm S70 (b70 B C61 C65 C64) fun _ _ _ _ _ _ us hl => match us, hl with | [_, _, _, _], _ => rfl
end K43
namespace K43
open PySem PySem.Spec PyProof.Rows L2
/-! ### _law_steady -/
abbrev s66 : Stmt := top 66
abbrev P66 : List Str := ["_law_cell_here", "_law_count"]
abbrev N66 : List Str := ["_law_cell_here", "_law_count", "_law_word_here", "_law_extra", "_law_x", "_law_k"]
def exW (w : List Nat) : Int := - sur w.dropLast 0
def stW (w : List Nat) (x : Int) : List Nat := if w = [] then [ltr (x % 2)] else if 0 < exW w ∧ 1 < x then 77 :: w else 84 :: w
def steadyOf (c : Int) (n : Nat) : List Nat := (drawsOf c (rp n 6)).foldl stW []
def F66 : FR := fun ss _ o => ∃ (c : Int) (n : Nat), ss = [.d (.int c), .d (.int n)] ∧ n ≤ 1000 ∧ o = .val (.str ⟨(steadyOf c n).toArray⟩)
theorem S66 : FnScope N66 P66 (defScope s66) := ⟨rfl, rfl, rfl, by decide +kernel, rfl, by decide +kernel, by decide +kernel⟩
theorem sur_cons (a : Nat) (e : List Nat) (q : Nat) : sur (a :: e) (q + 1) = sur e q := by
  unfold sur
  rw [List.drop_succ_cons]
theorem sur_77 (e : List Nat) : sur (77 :: e) 0 = sur e 0 + 1 := by
  unfold sur
  simp
  omega
theorem sur_84 (e : List Nat) : sur (84 :: e) 0 = sur e 0 - 1 := by
  unfold sur
  simp
  omega
theorem dl_cons {a : Nat} {w : List Nat} (h : w ≠ []) : (a :: w).dropLast = a :: w.dropLast := by
  cases w with
  | nil => exact absurd rfl h
  | cons b w => rfl
theorem stp2_cons {a : Nat} {e : List Nat} (h : StP2 e) (h0 : sur (a :: e) 0 ≤ 0) : StP2 (a :: e) := fun q hq => by
  cases q with
  | zero => exact h0
  | succ q =>
    rw [sur_cons]
    exact h q (by simpa using hq)
theorem gd_cons {a : Nat} {l : List Nat} (h : gd a) (k : AllGd l) : AllGd (a :: l) := fun i c hc => by
  cases i with
  | zero =>
    cases hc
    exact h
  | succ i => exact k i c hc
structure StW (w : List Nat) : Prop where
  gd : AllGd w
  st : StP2 w.dropLast
  ex : 0 ≤ exW w
theorem stw_nil : StW [] := ⟨fun i c hc => by simp at hc, fun q hq => by simp at hq, Int.le_refl _⟩
theorem stp_len (w : List Nat) (x : Int) : (stW w x).length = w.length + 1 := by
  unfold stW
  split
  · rename_i h
    rw [h]
    rfl
  · split <;> rfl
theorem stw_stp {w : List Nat} (h : StW w) (x : Int) : StW (stW w x) := by
  unfold stW
  split
  · exact ⟨fun i c hc => gd_cons (gd_ltr _) (fun i c hc => by simp at hc) i c hc, fun q hq => by simp at hq, Int.le_refl _⟩
  · rename_i hw
    split
    · rename_i hx
      have e : sur (77 :: w.dropLast) 0 ≤ 0 := by
        rw [sur_77]
        have := hx.1
        unfold exW at this
        omega
      refine ⟨gd_cons (.inl rfl) h.gd, ?_, ?_⟩
      · rw [dl_cons hw]
        exact stp2_cons h.st e
      · unfold exW
        rw [dl_cons hw]
        omega
    · have e : sur (84 :: w.dropLast) 0 ≤ 0 := by
        rw [sur_84]
        have := h.ex
        unfold exW at this
        omega
      refine ⟨gd_cons (.inr rfl) h.gd, ?_, ?_⟩
      · rw [dl_cons hw]
        exact stp2_cons h.st e
      · unfold exW
        rw [dl_cons hw]
        omega
theorem stw_fold : ∀ {l : List Int} {w : List Nat}, StW w → StW (l.foldl stW w)
  | [], _, h => h
  | x :: l, _, h => stw_fold (l := l) (stw_stp h x)
theorem stW_flen : ∀ (l : List Int) (w : List Nat), (l.foldl stW w).length = w.length + l.length
  | [], _ => rfl
  | x :: l, w => by
    rw [List.foldl_cons, stW_flen l, stp_len, List.length_cons]
    omega
theorem steady_ok (c : Int) (n : Nat) : StW (steadyOf c n) := stw_fold stw_nil
theorem steady_len (c : Int) (n : Nat) : (steadyOf c n).length = n := by
  unfold steadyOf
  rw [stW_flen, draws_len, rp_len]
  exact Nat.zero_add n
theorem mt_at2 (x : Int) : atI [77, 84] (x % 2) = some (ltr (x % 2)) := mt_at (Int.emod_nonneg _ (by decide)) (Int.emod_lt_of_pos _ (by decide))
theorem nil_str (w : List Nat) : decide ((⟨w.toArray⟩ : Str) = ⟨([] : List Nat).toArray⟩) = decide (w = []) := by
  rw [decide_eq_decide]
  constructor
  · intro h
    injection h with h
    exact List.toArray_inj h
  · intro h
    rw [h]
theorem b66 {W : Wd} (B : Bl W.mg) (C56 : Fn W "_law_draws" 1 P56 [] F56) : Body W 1 N66 "_law_steady" s66 2 F66 := by
  intro f cdv A outer s H G Q E ss Φ o hr hF hO
  obtain ⟨c, n, rfl, h1, rfl⟩ := hF
  refine vb_set 2 (d := .str ⟨([] : List Nat).toArray⟩) v_strC S66.nd ?_
  refine vb_set 3 v_int S66.nd ?_
  refine vb_for (ds := dI (drawsOf c (rp n 6))) (is := [4]) (f := fun d ρ => ρ.set 4 (.d d)) (fun i => [.d (.int c), .d (.int n), .d (.str ⟨(((drawsOf c (rp n 6)).take i).foldl stW []).toArray⟩), .d (.int (exW (((drawsOf c (rp n 6)).take i).foldl stW []))), .no, .no]) (fun i => Φ) ownF rfl
    (vi_list (v_call inW C56 hr (va_d (v_name 0 rfl) (va_d ((vn_lc (α := Nat) (xs := List.range n) (enc := fun i => .int (i : Int)) (k := fun _ => true) (f := fun _ => .int 6) (is := [5]) (st := fun x ρ => ρ.set 5 (.d (.int (x : Int)))) [("_law_k", 5)] rfl S66.nd
        (vi_range B (v_name 1 rfl) (by omega)) (by rw [List.length_range]; omega) (fun x _ s H C cl fp => vg_name 5 S66.nd) (fun x _ s H C cl fp => vts_nil) (fun x _ _ s H C cl fp => v_int)).ve.is (by rw [rp_dI]; rfl)) va_nil)) ⟨c, rp n 6, rfl, rp_ok h1 (by decide) (by decide), rfl⟩))
    (fun d _ => vg_name 4 S66.nd) ⟨.inr rfl, .inr rfl, .inr rfl, .inr rfl, .inl rfl, .inl rfl, True.intro⟩ (fun G H h => h) (fun Gm' _ i d hd => ?_) ?_
  · obtain ⟨x, hx, rfl⟩ := dI_at hd
    have ht := take_snoc hx
    have hil : i < n := by
      have := (List.getElem?_eq_some_iff.mp hx).1
      rw [draws_len, rp_len] at this
      exact this
    have ef : ((drawsOf c (rp n 6)).take (i + 1)).foldl stW [] = stW (((drawsOf c (rp n 6)).take i).foldl stW []) x := by
      rw [ht, List.foldl_append]
      rfl
    have hwl : (((drawsOf c (rp n 6)).take i).foldl stW []).length ≤ i := by
      rw [stW_flen, List.length_take]
      show 0 + _ ≤ _
      omega
    rw [ef]
    generalize ((drawsOf c (rp n 6)).take i).foldl stW [] = w at hwl
    refine vb_if ((vt_eqS (v_name 2 rfl) (v_strC (z := []))).is (nil_str w)) (fun hc => ?_) (fun hc => ?_)
    · have hc := of_decide_eq_true hc
      refine vb_set 2 (d := .str ⟨[ltr (x % 2)].toArray⟩) (v_ixS (z := [77, 84]) v_strC (v_mod (v_intI B (v_name 4 rfl)) v_int (by decide)) (by decide) (mt_at2 x)) S66.nd (vb_fall (vb_nx rfl ⟨.inr rfl, .inr rfl, .inr ?_, .inr ?_, .inl rfl, .inl rfl, True.intro⟩ fun G H h => h))
      · unfold stW
        rw [if_pos hc]
      · unfold stW
        rw [if_pos hc, hc]
        rfl
    · have hc := of_decide_eq_false hc
      refine vb_if (vw_and (vt_gt (v_name 3 rfl) v_int) (fun _ => vw_and1 (vt_gt (v_name 4 rfl) v_int))).vt (fun hc2 => ?_) (fun hc2 => ?_)
      · rw [Bool.and_eq_true, decide_eq_true_eq, decide_eq_true_eq] at hc2
        have es : stW w x = 77 :: w := by
          unfold stW
          rw [if_neg hc, if_pos hc2]
        rw [es]
        refine vb_set 2 (d := .str ⟨(77 :: w).toArray⟩) (v_addS (i := [77]) (j := w) v_strC (v_name 2 rfl) (by show 1 + w.length ≤ _; omega)) S66.nd ?_
        refine vb_set 3 (v_sub (v_name 3 rfl) v_int) S66.nd (vb_fall (vb_fall (vb_nx rfl ⟨.inr rfl, .inr rfl, .inr rfl, .inr ?_, .inl rfl, .inl rfl, True.intro⟩ fun G H h => h)))
        unfold exW
        rw [dl_cons hc, sur_77]
        congr 2
        omega
      · have es : stW w x = 84 :: w := by
          unfold stW
          rw [if_neg hc, if_neg (by
            rw [Bool.and_eq_false_iff, decide_eq_false_iff_not, decide_eq_false_iff_not] at hc2
            omega)]
        rw [es]
        refine vb_set 2 (d := .str ⟨(84 :: w).toArray⟩) (v_addS (i := [84]) (j := w) v_strC (v_name 2 rfl) (by show 1 + w.length ≤ _; omega)) S66.nd ?_
        refine vb_set 3 (v_add (v_name 3 rfl) v_int) S66.nd (vb_fall (vb_fall (vb_nx rfl ⟨.inr rfl, .inr rfl, .inr rfl, .inr ?_, .inl rfl, .inl rfl, True.intro⟩ fun G H h => h)))
        unfold exW
        rw [dl_cons hc, sur_84]
        congr 2
        omega
  · rw [dI_len, List.take_length]
    exact vb_ret (v_name 2 rfl) hO
theorem fn66 {W : Wd} {f : Addr} {fd : FuncData} (B : Bl W.mg) (C56 : Fn W "_law_draws" 1 P56 [] F56) (D : FunP W "_law_steady" s66 [] f fd) (hm : W.mg "_law_steady" = some (.ref f)) : Fn W "_law_steady" 2 P66 [] F66 :=
  fn_mk D hm S66 (b66 B C56) fun _ _ _ _ _ _ us hl => match us, hl with | [_, _], _ => rfl
/-! ### _law_broken -/
abbrev s67 : Stmt := top 67
abbrev N67 : List Str := ["_law_word_here", "_law_extra", "_law_k", "_law_at"]
theorem S67 : FnScope N67 ["_law_word_here"] (defScope s67) := ⟨rfl, rfl, rfl, by decide +kernel, rfl, by decide +kernel, by decide +kernel⟩
section
variable {X : Cx} {Φ : As} {ρ : List Sl} {a tg : Expr} {p pos : Pos}
theorem vi_rangeI {j : Int} (B : Bl X.mg) (h : VE X Φ ρ a (.int j)) (h1 : -100000 ≤ j) (h2 : j ≤ 100000) (hg : Gl X "range" := by rfl) (hs : starEach [a] X.env = [(false, eval a X.env)] := by rfl) :
    VI X Φ ρ tg (.Call (.Name "range" p) [a] [] pos) (rgD j.toNat) := ⟨_, pi_range1 hg B.range wa hs, fun σ G H s r f R q => va_d h va_nil hs σ G H s r f _ fun vs G1 H1 e1 k1 => by
  obtain ⟨v, rfl, r1⟩ := sls1 k1
  cases r1
  refine ⟨j, rfl, by omega, by omega, ?_⟩
  refine q _ G1 H1 e1 (it_range1 ?_)
  unfold rgD
  refine List.map_congr_left fun i _ => ?_
  rw [Int.zero_add]⟩
end
theorem b67 {W : Wd} (B : Bl W.mg) : Body W 0 N67 "_law_broken" s67 1 F48 := by
  intro f cdv A outer s H G Q E ss Φ r hr hF hO
  obtain ⟨z, rfl, h1, hg, hF⟩ := hF
  have hg2 := gd_drop hg
  have hle : z.dropLast.length = z.length - 1 := List.length_dropLast
  refine vb_set 1 v_int S67.nd ?_
  refine vb_for (ds := rgD ((z.length : Int) - 1).toNat) (is := [2]) (f := fun d ρ => ρ.set 2 (.d d)) (fun k => [.d (.str ⟨z.toArray⟩), .d (.int (sur z.dropLast (z.dropLast.length - k))), .no, .no]) (fun k => As.and (As.pu (∀ p, UnP z.dropLast p → p < z.dropLast.length - k)) Φ) ownF rfl
    (vi_rangeI B (v_sub (v_lenS B (v_name 0 rfl) (by omega)) v_int) (by omega) (by omega)) (fun d _ => vg_name 2 S67.nd) ⟨.inr rfl, .inr ?_, .inl rfl, .inl rfl, True.intro⟩ (fun G H h => ⟨fun p hp => hp.1, h⟩) (fun Gm' _ k d hd => vb_pu fun hk => ?_) (vb_pu fun hk => ?_)
  · unfold sur
    rw [Nat.sub_zero, List.drop_length]
    rfl
  · obtain ⟨hkl, rfl⟩ := rgD_at hd
    have hkl2 : k < z.dropLast.length := by omega
    have hq : z.dropLast.length - 1 - k < z.dropLast.length := by omega
    have hz : z.dropLast[z.dropLast.length - 1 - k]? = some z.dropLast[z.dropLast.length - 1 - k] := List.getElem?_eq_getElem hq
    have gq := hg2 _ _ hz
    have st := sur_step hz gq
    have hz0 : z[z.dropLast.length - 1 - k]? = some z.dropLast[z.dropLast.length - 1 - k] := by
      have h9 : ∀ (i c : Nat), z.dropLast[i]? = some c → z[i]? = some c := fun i c h => by
        rw [List.dropLast_eq_take, List.getElem?_take] at h
        split at h
        · exact h
        · cases h
      exact h9 _ _ hz
    have ek : z.dropLast.length - k = z.dropLast.length - 1 - k + 1 := by omega
    have ek2 : z.dropLast.length - (k + 1) = z.dropLast.length - 1 - k := by omega
    refine vb_set 3 (d := .int ((z.dropLast.length - 1 - k : Nat) : Int)) ((v_sub (v_sub (v_lenS B (v_name 0 rfl) (by omega)) v_int) (v_name 2 rfl)).is (by congr 1; omega)) S67.nd ?_
    refine vb_set 1 (d := .int (sur z.dropLast (z.dropLast.length - 1 - k))) ((v_add (v_name 1 rfl) (v_ixL (d := .int (if z.dropLast[z.dropLast.length - 1 - k] = 77 then 1 else -1)) (vn_lst (ds := [.int (-1), .int 1]) (va_d (v_neg v_int) (va_d v_int va_nil))).ve (v_intB B ((v_eqS (v_ixS (v_name 0 rfl) (v_name 3 rfl) (by omega) (atI_nat hz0)) (v_strC (z := [77]))).is (d' := .bool (decide (z.dropLast[z.dropLast.length - 1 - k] = 77))) ?_)) ?_)).is ?_) S67.nd ?_
    · congr 1
      rw [decide_eq_decide]
      constructor
      · intro h
        injection h with h
        have := List.toArray_inj h
        injection this
      · intro h
        rw [h]
    · by_cases h : z.dropLast[z.dropLast.length - 1 - k] = 77
      · rw [decide_eq_true h, if_pos h]
        rfl
      · rw [decide_eq_false h, if_neg h]
        rfl
    · rw [st, ek]
      congr 1
      split <;> omega
    · refine vb_if1 (vt_gt (v_name 1 rfl) v_int) (fun hc => ?_) (fun hc => ?_)
      · have hs := of_decide_eq_true hc
        rcases hF with ⟨p, hp, rfl⟩ | ⟨hs2, _⟩
        · have h5 := hk p hp
          have h6 : p = z.dropLast.length - 1 - k := by
            by_cases hlt : p < z.dropLast.length - 1 - k
            · have := hp.2.2 _ hlt hq
              omega
            · omega
          subst h6
          exact vb_ret (v_name 3 rfl) hO
        · have := hs2 _ hq
          omega
      · have hs := of_decide_eq_false hc
        refine vb_nx rfl ⟨.inr rfl, .inr ?_, .inl rfl, .inl rfl, True.intro⟩ fun G H h => ⟨fun p hp => ?_, h⟩
        · rw [ek2]
        · have h5 := hk p hp
          have h7 := hp.2.1
          by_cases h8 : p = z.dropLast.length - 1 - k
          · rw [h8] at h7
            omega
          · omega
  · rw [rgD_len] at hk ⊢
    rcases hF with ⟨p, hp, rfl⟩ | ⟨hs2, rfl⟩
    · have := hk p hp
      omega
    · exact vb_ret v_none hO
theorem fn67 {W : Wd} {f : Addr} {fd : FuncData} (B : Bl W.mg) (D : FunP W "_law_broken" s67 [] f fd) (hm : W.mg "_law_broken" = some (.ref f)) : Fn W "_law_broken" 1 ["_law_word_here"] [] F48 :=
  fn_mk D hm S67 (b67 B) fun _ _ _ _ _ _ us hl => match us, hl with | [_], _ => rfl
/-! ### _law_flat -/
abbrev s79 : Stmt := top 79
abbrev P79 : List Str := ["_law_hands_here", "_law_flat_here"]
abbrev N79 : List Str := ["_law_hands_here", "_law_flat_here", "_law_x"]
def flatL (fl : Bool) (l : List Int) : List Int := if fl then l.map fun _ => l.getD 0 0 else l
theorem flat_len (fl : Bool) (l : List Int) : (flatL fl l).length = l.length := by
  unfold flatL
  split
  · rw [List.length_map]
  · rfl
def F79 : FR := fun ss _ o => ∃ (mine theirs : List Int) (fl : Bool), ss = [.d (.tuple [dL mine, dL theirs]), .d (.bool fl)] ∧ mine.length ≤ 1000 ∧ theirs.length ≤ 1000 ∧ o = .val (.tuple [dL (flatL fl mine), dL (flatL fl theirs)])
theorem S79 : FnScope N79 P79 (defScope s79) := ⟨rfl, rfl, rfl, by decide +kernel, rfl, by decide +kernel, by decide +kernel⟩
theorem b79 {W : Wd} : Body W 0 N79 "_law_flat" s79 2 F79 := by
  intro f cdv A outer s H G Q E ss Φ o hr hF hO
  obtain ⟨mine, theirs, fl, rfl, h1, h2, rfl⟩ := hF
  refine vb_if1 (vt_val (v_name 1 rfl)) (fun hc => ?_) (fun hc => ?_)
  · subst hc
    have pos : ∀ {l : List Int} {x : Int}, x ∈ l → 0 < l.length := fun h => List.length_pos_of_mem h
    refine vb_ret (v_tup (ds := [dL (flatL true mine), dL (flatL true theirs)]) (va_d ((vn_lc (α := Int) (xs := mine) (enc := .int) (k := fun _ => true) (f := fun _ => .int (mine.getD 0 0)) (is := [2]) (st := fun x ρ => ρ.set 2 (.d (.int x))) [("_law_x", 2)] rfl S79.nd
      (vi_list (v_ixT (v_name 0 rfl) v_int rfl)) (by omega) (fun x _ s H C cl fp => vg_name 2 S79.nd) (fun x _ s H C cl fp => vts_nil) (fun x hx _ s H C cl fp => v_ixL (v_ixT (v_name 0 rfl) v_int rfl) v_int (atI_dI (i := 0) (pos hx)))).ve.is (by rw [dI_map]; rfl))
      (va_d ((vn_lc (α := Int) (xs := theirs) (enc := .int) (k := fun _ => true) (f := fun _ => .int (theirs.getD 0 0)) (is := [2]) (st := fun x ρ => ρ.set 2 (.d (.int x))) [("_law_x", 2)] rfl S79.nd
      (vi_list (v_ixT (v_name 0 rfl) v_int rfl)) (by omega) (fun x _ s H C cl fp => vg_name 2 S79.nd) (fun x _ s H C cl fp => vts_nil) (fun x hx _ s H C cl fp => v_ixL (v_ixT (v_name 0 rfl) v_int rfl) v_int (atI_dI (i := 0) (pos hx)))).ve.is (by rw [dI_map]; rfl)) va_nil))) hO
  · subst hc
    exact vb_ret (v_name 0 rfl) hO
theorem fn79 {W : Wd} {f : Addr} {fd : FuncData} (D : FunP W "_law_flat" s79 [] f fd) (hm : W.mg "_law_flat" = some (.ref f)) : Fn W "_law_flat" 1 P79 [] F79 :=
  fn_mk D hm S79 b79 fun _ _ _ _ _ _ us hl => match us, hl with | [_, _], _ => rfl
end K43
namespace K43
open PySem PySem.Spec PyProof.Rows L2
/-- what is known of the guide's class -/
structure GM (W : Wd) (c : Cs) : Prop where
  LG : Cl W c.G fG
  LO : Cl W c.O fO
  Ml : Mt W c.G "lay" 9 ["self"] (F53l c)
  Ma : Mt W c.G "answer" 11 ["self", "index"] (F53a c)
  Ms : MtM W c.G "saw" 5 ["self", "m", "t"] (F53s c)
  Mi : MkM W "ExactGuide" c.G 9 ["self", "mine", "theirs", "word", "wanted"] (F53i c)
theorem HasG.weak {c : Cs} {g hh : Addr} {k : Int} {z : List Nat} {mine theirs : List Int} {ml tl : List Nat} {Φ Ψ : As} (h : HasG c g hh k z mine theirs ml tl Φ) (w : ∀ G H, Ψ.p G H → Φ.p G H) : HasG c g hh k z mine theirs ml tl Ψ := ⟨fun G H x => h.hg G H (w G H x), fun G H x => h.hO G H (w G H x)⟩
theorem HasG.snd {c : Cs} {g hh : Addr} {k : Int} {z : List Nat} {mine theirs : List Int} {ml tl : List Nat} {Φ Ψ : As} (h : HasG c g hh k z mine theirs ml tl Φ) : HasG c g hh k z mine theirs ml tl (As.and Ψ Φ) := h.weak fun _ _ x => x.2
/-! ### _law_shown -/
abbrev s78 : Stmt := top 78
abbrev P78 : List Str := ["_law_guide", "_law_letters", "_law_needed"]
def F78 (c : Cs) : FR := fun ss Φ r => ∃ (g hh : Addr) (k : Int) (z : List Nat) (mine theirs : List Int) (ml tl : List Nat), ss = [.v (.ref g), .d (.str ⟨z.toArray⟩), .d (.int k)] ∧ HasG c g hh k z mine theirs ml tl Φ ∧ r = .val (.bool true)
theorem S78 : FnScope P78 P78 (defScope s78) := ⟨rfl, rfl, rfl, by decide +kernel, rfl, by decide +kernel, by decide +kernel⟩
theorem b78 {W : Wd} {c : Cs} (B : Bl W.mg) (M : GM W c) (C60 : Fn W "_law_is_int" 1 ["_law_x"] [] F60) : Body W 1 P78 "_law_shown" s78 3 (F78 c) := by
  intro f cdv A outer s H G Q E ss Φ r hr hF hO
  obtain ⟨g, hh, k, z, mine, theirs, ml, tl, rfl, hp, rfl⟩ := hF
  refine vb_if1 ((vw_or (vt_not (vt_val (v_call (d := .bool true) inW C60 hr (va_d (v_fld (vv_name 0 rfl) hp.hg M.LG.c (M.LG.no _ (by decide))) va_nil) ⟨k, rfl, rfl⟩))) (fun _ => vw_or1 (vt_neI (v_fld (vv_name 0 rfl) hp.hg M.LG.c (M.LG.no _ (by decide))) (v_name 2 rfl)))).vt.is (b' := false) (by rw [decide_eq_true rfl]; rfl)) (fun h => by cases h) (fun _ => ?_)
  exact vb_ret ((v_and (v_isi (t := "str") (c := true) B (v_fld (vv_name 0 rfl) hp.hg M.LG.c (M.LG.no _ (by decide))) (by show kitB "str" "str" = _; decide +kernel) B.str) (fun _ => v_one (v_eqS (v_fld (vv_name 0 rfl) hp.hg M.LG.c (M.LG.no _ (by decide))) (v_name 1 rfl)))).is (by rw [decide_eq_true rfl]; rfl)) hO
theorem fn78 {W : Wd} {c : Cs} {f : Addr} {fd : FuncData} (B : Bl W.mg) (M : GM W c) (C60 : Fn W "_law_is_int" 1 ["_law_x"] [] F60) (D : FunP W "_law_shown" s78 [] f fd) (hm : W.mg "_law_shown" = some (.ref f)) : Fn W "_law_shown" 2 P78 [] (F78 c) :=
  fn_mk D hm S78 (b78 B M C60) fun _ _ _ _ _ _ us hl => match us, hl with | [_, _, _], _ => rfl
/-! ### _law_round -/
abbrev s74 : Stmt := top 74
abbrev P74 : List Str := ["_law_guide", "_law_hands_here", "_law_left", "_law_letters", "_law_way", "_law_asked"]
abbrev N74 : List Str := ["_law_guide", "_law_hands_here", "_law_left", "_law_letters", "_law_way", "_law_asked", "_law_mine", "_law_k", "_law_theirs", "_law_spot", "_law_card", "_law_at"]
def dLeft (ml tl : List Nat) : PyData := .list [.list (dX ml), .list (dX tl)]
/-- the pair of a round: its places in the hands that are left -/
def rMine (z : List Nat) (m t : List Int) (k : Int) (foe : Nat) : Nat := if z.head? = some 77 then layOf m t (zM z) (zT z) k else ansOf m t foe (zM (z.drop 1)) (zT (z.drop 1)) k
def F74 (c : Cs) : FR := fun ss Φ r => ∃ (g hh : Addr) (k : Int) (z : List Nat) (mine theirs : List Int) (ml tl : List Nat) (a b : Nat) (a1 a2 : Bool) (mx mn : Int), ss = [.v (.ref g), .d (.tuple [dL mine, dL theirs]), .d (dLeft ml tl), .d (.str ⟨z.toArray⟩), .d (.list [.int a, .int b]), .d (.list [.bool a1, .bool a2, .int k])] ∧
  HasG c g hh k z mine theirs ml tl Φ ∧ GOk z mine theirs ml tl ∧ ml.Nodup ∧ tl.Nodup ∧ 0 < z.length ∧ z.length ≤ 1000 ∧ Ext2 (levT (pk ml mine) (pk tl theirs)) mx mn ∧
  ((z.head? = some 77 ∧ r = .val (.tuple [.int (ml.getD (layOf (pk ml mine) (pk tl theirs) (zM z) (zT z) k) 0 : Nat), .int (tl.getD (foeOf (pk ml mine) (pk tl theirs) (some (layOf (pk ml mine) (pk tl theirs) (zM z) (zT z) k)) a b mx mn) 0 : Nat)])) ∨
   (z.head? = some 84 ∧ r = .val (.tuple [.int (ml.getD (ansOf (pk ml mine) (pk tl theirs) (foeOf (pk ml mine) (pk tl theirs) none a b mx mn) (zM (z.drop 1)) (zT (z.drop 1)) k) 0 : Nat), .int (tl.getD (foeOf (pk ml mine) (pk tl theirs) none a b mx mn) 0 : Nat)])))
theorem S74 : FnScope N74 P74 (defScope s74) := ⟨rfl, rfl, rfl, by decide +kernel, rfl, by decide +kernel, by decide +kernel⟩
theorem gd_head {z : List Nat} (h : AllGd z) (h0 : 0 < z.length) : ∃ x, z[0]? = some x ∧ z.head? = some x ∧ gd x := by
  cases z with
  | nil => simp at h0
  | cons x z => exact ⟨x, rfl, rfl, h 0 x rfl⟩
theorem pk_dL (l : List Nat) (h : List Int) : (l.filter fun _ => true).map (fun i => PyData.int (h.getD i 0)) = dI (pk l h) := by
  rw [filt_true]
  unfold dI
  rw [List.map_map]
  rfl
theorem getD_mem {l : List Nat} {i : Nat} (h : i < l.length) : l.getD i 0 ∈ l := by
  rw [List.getD_eq_getElem?_getD, List.getElem?_eq_getElem h]
  exact List.getElem_mem h
theorem idx_getD {l : List Nat} (hn : l.Nodup) {i : Nat} (h : i < l.length) : l.idxOf (l.getD i 0) = i := by
  rw [List.getD_eq_getElem?_getD, List.getElem?_eq_getElem h]
  exact List.Nodup.idxOf_getElem hn i h
section
variable {X : Cx} {Φ : As} {ρ : List Sl} {a b : Expr} {pos p1 : Pos}
theorem v_leftT {ml tl : List Nat} {j : Nat} (h : VE X Φ ρ a (dLeft ml tl)) : VE X Φ ρ (.Subscript a (.Constant (.int 1) j p1) pos) (.list (dX tl)) := v_ixL h v_int rfl
theorem v_leftM {ml tl : List Nat} {j : Nat} (h : VE X Φ ρ a (dLeft ml tl)) : VE X Φ ρ (.Subscript a (.Constant (.int 0) j p1) pos) (.list (dX ml)) := v_ixL h v_int rfl
end
theorem b74 {W : Wd} {c : Cs} (B : Bl W.mg) (M : GM W c) (C60 : Fn W "_law_is_int" 1 ["_law_x"] [] F60) (C70 : Fn W "_law_foe" 7 P70 [] F70) (C72 : Fn W "_law_due_lay" 7 P72 [] F72) (C73 : Fn W "_law_due_answer" 7 P73 [] F52) : Body W 11 N74 "_law_round" s74 6 (F74 c) := by
  intro f cdv A outer s H G Q E ss Φ r hr hF hO
  obtain ⟨g, hh, k, z, mine, theirs, ml, tl, a, b, a1, a2, mx, mn, rfl, hp, ok, nm, nt, h0, hz, he, hF⟩ := hF
  have l1 := ok.ok.m1
  have l2 := ok.lz
  have l3 := ok.lt
  have l4 := pk_len ml mine
  have l5 := pk_len tl theirs
  obtain ⟨x, hx, hx2, gx⟩ := gd_head ok.ha h0
  refine vb_setLc (α := Nat) (xs := ml) (enc := fun i => .int (i : Int)) (k := fun _ => true) (f := fun i => .int (mine.getD i 0)) (is := [7]) (st := fun i ρ => ρ.set 7 (.d (.int (i : Int)))) 6 [("_law_k", 7)] rfl S74.nd
    (vi_list (v_leftM (v_name 2 rfl))) (by omega) (fun i _ s H C cl fp => vg_name 7 S74.nd) (fun i _ s H C cl fp => vts_nil) (fun i hi _ s H C cl fp => v_ixL (v_ixT (v_name 1 rfl) v_int rfl) (v_name 7 rfl) (atI_dI (ok.ok.m i hi))) ?_
  rw [pk_dL]
  refine vb_setLc (α := Nat) (xs := tl) (enc := fun i => .int (i : Int)) (k := fun _ => true) (f := fun i => .int (theirs.getD i 0)) (is := [7]) (st := fun i ρ => ρ.set 7 (.d (.int (i : Int)))) 8 [("_law_k", 7)] rfl S74.nd
    (vi_list (v_leftT (v_name 2 rfl))) (by omega) (fun i _ s H C cl fp => vg_name 7 S74.nd) (fun i _ s H C cl fp => vts_nil) (fun i hi _ s H C cl fp => v_ixL (v_ixT (v_name 1 rfl) v_int rfl) (v_name 7 rfl) (atI_dI (ok.ok.t i hi))) ?_
  rw [pk_dL]
  refine vb_set 9 v_int S74.nd ?_
  rcases hF with ⟨hm, rfl⟩ | ⟨hm, rfl⟩
  · have ex : x = 77 := by rw [hx2] at hm; exact Option.some.inj hm
    subst ex
    have hlt : layOf (pk ml mine) (pk tl theirs) (zM z) (zT z) k < (pk ml mine).length := lay_mem (by omega)
    have hl2 : ∀ {Φ : As}, HasG c g hh k z mine theirs ml tl Φ → F53l c [.v (.ref g)] Φ (.val (.int (ml.getD (layOf (pk ml mine) (pk tl theirs) (zM z) (zT z) k) 0 : Nat))) := fun h => ⟨g, hh, k, z, mine, theirs, ml, tl, rfl, h, hz, .inr ⟨hm, ok, rfl⟩⟩
    have hfo := foe_lt (mine := pk ml mine) (theirs := pk tl theirs) (laid := some (layOf (pk ml mine) (pk tl theirs) (zM z) (zT z) k)) (a := a) (b := b) (by omega) (by omega) hlt he
    have hmem := getD_mem (l := ml) (i := layOf (pk ml mine) (pk tl theirs) (zM z) (zT z) k) (by omega)
    have hidx := idx_getD nm (i := layOf (pk ml mine) (pk tl theirs) (zM z) (zT z) k) (by omega)
    refine vb_if (vt_eqC 77 (v_ixS (v_name 3 rfl) v_int (by omega) (atI_nat hx))) (fun _ => ?_) (fun h => by cases h)
    refine vb_set 10 (v_meth0 inW M.Ml hr M.LG.c (vv_name 0 rfl) hp.hg (hl2 hp)) S74.nd ?_
    refine vb_if1 ((vw_and (vt_val (v_ixL (d := .bool a2) (v_name 5 rfl) v_int rfl)) (fun _ => vw_and1 (vt_neI (v_meth0 inW M.Ml hr M.LG.c (vv_name 0 rfl) hp.hg (hl2 hp)) (v_name 10 rfl)))).vt.is (b' := false) (by rw [decide_eq_true rfl]; simp)) (fun h => by cases h) (fun _ => vb_fall ?_)
    refine vb_if1 ((vw_or (vt_not (vt_val (v_call (d := .bool true) inW C60 hr (va_d (v_name 10 rfl) va_nil) ⟨_, rfl, rfl⟩))) (fun _ => vw_or1 (vt_nin (l := zI ml) (v_name 10 rfl) ((v_leftM (v_name 2 rfl)).is (by rw [dX_zI]; rfl))))).vt.is (b' := false) (by rw [decide_eq_true (zI_nat.mpr hmem)]; rfl)) (fun h => by cases h) (fun _ => ?_)
    refine vb_set 11 (d := .int (layOf (pk ml mine) (pk tl theirs) (zM z) (zT z) k : Nat)) ((v_index (l := zI ml) ((v_leftM (v_name 2 rfl)).is (by rw [dX_zI]; rfl)) (v_name 10 rfl) (zI_nat.mpr hmem)).is (by rw [zI_idx, hidx])) S74.nd ?_
    refine vb_if1 (vt_eqC 77 (v_ixS (v_name 3 rfl) v_int (by omega) (atI_nat hx))) (fun _ => ?_) (fun h => by cases h)
    refine vb_if1 ((vw_and (vt_val (v_ixL (d := .bool a1) (v_name 5 rfl) v_int rfl)) (fun _ => vw_and1 (vt_neI (v_name 11 rfl) (v_call inW C72 hr (va_d (v_name 6 rfl) (va_d (v_name 8 rfl) (va_d (v_name 3 rfl) (va_d (v_ixL (d := .int k) (v_name 5 rfl) v_int rfl) va_nil)))) ⟨⟨pk ml mine, pk tl theirs, z, k, rfl, by omega, by omega, by omega, by omega, fun h => zM_pos hm (by omega), rfl⟩, _, _, _, z, rfl, ok.ha⟩)))).vt.is (b' := false) (by rw [decide_eq_true rfl]; simp)) (fun h => by cases h) (fun _ => ?_)
    exact vb_ret (v_tup (ds := [_, _]) (va_d (v_name 10 rfl) (va_d (v_ixL (v_leftT (v_name 2 rfl)) (v_call inW C70 hr (va_d (v_name 6 rfl) (va_d (v_name 8 rfl) (va_d (v_name 11 rfl) (va_d (v_name 4 rfl) va_nil)))) ⟨pk ml mine, pk tl theirs, some (layOf (pk ml mine) (pk tl theirs) (zM z) (zT z) k), a, b, mx, mn, rfl, by omega, by omega, by omega, hlt, he, rfl⟩) (atI_dX (by omega))) va_nil))) hO
  · have ex : x = 84 := by rw [hx2] at hm; exact Option.some.inj hm
    subst ex
    have hfo := foe_lt (mine := pk ml mine) (theirs := pk tl theirs) (laid := none) (a := a) (b := b) (by omega) (by omega) True.intro he
    generalize hff : foeOf (pk ml mine) (pk tl theirs) none a b mx mn = fo at hfo hO
    have hlt : ansOf (pk ml mine) (pk tl theirs) fo (zM (z.drop 1)) (zT (z.drop 1)) k < (pk ml mine).length := ans_mem (by omega) (by omega)
    have htm := getD_mem (l := tl) (i := fo) (by omega)
    have hti := idx_getD nt (i := fo) (by omega)
    have hl2 : ∀ {Φ : As}, HasG c g hh k z mine theirs ml tl Φ → F53a c [.v (.ref g), .d (.int (tl.getD fo 0 : Nat))] Φ (.val (.int (ml.getD (ansOf (pk ml mine) (pk tl theirs) fo (zM (z.drop 1)) (zT (z.drop 1)) k) 0 : Nat))) := fun h => ⟨g, hh, k, z, mine, theirs, ml, tl, _, rfl, h, hz, .inr (.inr ⟨hm, tl.getD fo 0, rfl, htm, ok, by rw [hti]⟩)⟩
    have hmem := getD_mem (l := ml) (i := ansOf (pk ml mine) (pk tl theirs) fo (zM (z.drop 1)) (zT (z.drop 1)) k) (by omega)
    have hidx := idx_getD nm (i := ansOf (pk ml mine) (pk tl theirs) fo (zM (z.drop 1)) (zT (z.drop 1)) k) (by omega)
    refine vb_if (vt_eqC 77 (v_ixS (v_name 3 rfl) v_int (by omega) (atI_nat hx))) (fun h => by cases h) (fun _ => ?_)
    refine vb_set 9 (d := .int (fo : Nat)) (v_call inW C70 hr (va_d (v_name 6 rfl) (va_d (v_name 8 rfl) (va_d v_none (va_d (v_name 4 rfl) va_nil)))) ⟨pk ml mine, pk tl theirs, none, a, b, mx, mn, rfl, by omega, by omega, by omega, True.intro, he, by rw [hff]⟩) S74.nd ?_
    refine vb_set 10 (v_meth inW M.Ma hr M.LG.c (vv_name 0 rfl) hp.hg (va_d (v_ixL (v_leftT (v_name 2 rfl)) (v_name 9 rfl) (atI_dX (by omega))) va_nil) (hl2 hp)) S74.nd ?_
    refine vb_if1 ((vw_and (vt_val (v_ixL (d := .bool a2) (v_name 5 rfl) v_int rfl)) (fun _ => vw_and1 (vt_neI (v_meth inW M.Ma hr M.LG.c (vv_name 0 rfl) hp.hg (va_d (v_ixL (v_leftT (v_name 2 rfl)) (v_name 9 rfl) (atI_dX (by omega))) va_nil) (hl2 hp)) (v_name 10 rfl)))).vt.is (b' := false) (by rw [decide_eq_true rfl]; simp)) (fun h => by cases h) (fun _ => vb_fall ?_)
    refine vb_if1 ((vw_or (vt_not (vt_val (v_call (d := .bool true) inW C60 hr (va_d (v_name 10 rfl) va_nil) ⟨_, rfl, rfl⟩))) (fun _ => vw_or1 (vt_nin (l := zI ml) (v_name 10 rfl) ((v_leftM (v_name 2 rfl)).is (by rw [dX_zI]; rfl))))).vt.is (b' := false) (by rw [decide_eq_true (zI_nat.mpr hmem)]; rfl)) (fun h => by cases h) (fun _ => ?_)
    refine vb_set 11 (d := .int (ansOf (pk ml mine) (pk tl theirs) fo (zM (z.drop 1)) (zT (z.drop 1)) k : Nat)) ((v_index (l := zI ml) ((v_leftM (v_name 2 rfl)).is (by rw [dX_zI]; rfl)) (v_name 10 rfl) (zI_nat.mpr hmem)).is (by rw [zI_idx, hidx])) S74.nd ?_
    refine vb_if1 (vt_eqC 77 (v_ixS (v_name 3 rfl) v_int (by omega) (atI_nat hx))) (fun h => by cases h) (fun _ => ?_)
    refine vb_if1 ((vw_and (vt_val (v_ixL (d := .bool a1) (v_name 5 rfl) v_int rfl)) (fun _ => vw_and1 (vt_neI (v_name 11 rfl) (v_call inW C73 hr (va_d (v_name 6 rfl) (va_d (v_name 8 rfl) (va_d (v_name 9 rfl) (va_d (v_tail (v_name 3 rfl) hz) (va_d (v_ixL (d := .int k) (v_name 5 rfl) v_int rfl) va_nil))))) ⟨pk ml mine, pk tl theirs, fo, z.drop 1, k, rfl, by omega, by omega, by omega, by rw [List.length_drop]; omega, gd_tail ok.ha, rfl⟩)))).vt.is (b' := false) (by rw [decide_eq_true rfl]; simp)) (fun h => by cases h) (fun _ => ?_)
    exact vb_ret (v_tup (ds := [_, _]) (va_d (v_name 10 rfl) (va_d (v_ixL (v_leftT (v_name 2 rfl)) (v_name 9 rfl) (atI_dX (by omega))) va_nil))) hO
theorem fn74 {W : Wd} {c : Cs} {f : Addr} {fd : FuncData} (B : Bl W.mg) (M : GM W c) (C60 : Fn W "_law_is_int" 1 ["_law_x"] [] F60) (C70 : Fn W "_law_foe" 7 P70 [] F70) (C72 : Fn W "_law_due_lay" 7 P72 [] F72) (C73 : Fn W "_law_due_answer" 7 P73 [] F52) (D : FunP W "_law_round" s74 [] f fd) (hm : W.mg "_law_round" = some (.ref f)) : Fn W "_law_round" 12 P74 [] (F74 c) :=
  fn_mk D hm S74 (b74 B M C60 C70 C72 C73) fun _ _ _ _ _ _ us hl => match us, hl with | [_, _, _, _, _, _], _ => rfl
end K43
namespace K43
open PySem PySem.Spec PyProof.Rows L2
/-! ### _law_all_answers -/
abbrev s80 : Stmt := top 80
abbrev P80 : List Str := ["_law_guide", "_law_hands_here", "_law_left", "_law_letters", "_law_needed", "_law_exact"]
abbrev N80 : List Str := ["_law_guide", "_law_hands_here", "_law_left", "_law_letters", "_law_needed", "_law_exact", "_law_mine", "_law_k", "_law_theirs", "_law_dues", "_law_spot", "_law_spots", "_law_again", "_law_card"]
def F80 (c : Cs) : FR := fun ss Φ r => ∃ (g hh : Addr) (k : Int) (z : List Nat) (mine theirs : List Int) (ml tl : List Nat) (ex : Bool), ss = [.v (.ref g), .d (.tuple [dL mine, dL theirs]), .d (dLeft ml tl), .d (.str ⟨z.toArray⟩), .d (.int k), .d (.bool ex)] ∧
  HasG c g hh k z mine theirs ml tl Φ ∧ GOk z mine theirs ml tl ∧ ml.Nodup ∧ tl.Nodup ∧ z.length ≤ 1000 ∧ r = .val (.bool true)
theorem S80 : FnScope N80 P80 (defScope s80) := ⟨rfl, rfl, rfl, by decide +kernel, rfl, by decide +kernel, by decide +kernel⟩
theorem map_at {α : Type} {l : List α} {g : α → PyData} {i : Nat} (h : i < l.length) (x : α) (hx : l[i]? = some x) : atI (l.map g) (i : Int) = some (g x) := by
  refine atI_nat ?_
  rw [List.getElem?_map, hx]
  rfl
theorem b80 {W : Wd} {c : Cs} (B : Bl W.mg) (M : GM W c) (C60 : Fn W "_law_is_int" 1 ["_law_x"] [] F60) (C73 : Fn W "_law_due_answer" 7 P73 [] F52) : Body W 11 N80 "_law_all_answers" s80 6 (F80 c) := by
  intro f cdv A outer s H G Q E ss Φ r hr hF hO
  obtain ⟨g, hh, k, z, mine, theirs, ml, tl, ex, rfl, hp, ok, nm, nt, hz, rfl⟩ := hF
  have l1 := ok.ok.m1
  have l2 := ok.lz
  have l3 := ok.lt
  have l4 := pk_len ml mine
  have l5 := pk_len tl theirs
  refine vb_if1 (vt_neL [84] (v_head (v_name 3 rfl) hz)) (fun _ => vb_ret v_bool hO) (fun hc => ?_)
  have hm := take1_t.mp (ne_f hc)
  have h0 : 0 < z.length := by
    cases z with
    | nil => cases hm
    | cons => simp
  refine vb_set 6 (d := dL (pk ml mine)) ((vn_lc (α := Nat) (xs := ml) (enc := fun i => .int (i : Int)) (k := fun _ => true) (f := fun i => .int (mine.getD i 0)) (is := [7]) (st := fun i ρ => ρ.set 7 (.d (.int (i : Int)))) [("_law_k", 7)] rfl S80.nd
    (vi_list (v_leftM (v_name 2 rfl))) (by omega) (fun i _ s H C cl fp => vg_name 7 S80.nd) (fun i _ s H C cl fp => vts_nil) (fun i hi _ s H C cl fp => v_ixL (v_ixT (v_name 1 rfl) v_int rfl) (v_name 7 rfl) (atI_dI (ok.ok.m i hi)))).ve.is (by rw [pk_dL]; rfl)) S80.nd ?_
  refine vb_set 8 (d := dL (pk tl theirs)) ((vn_lc (α := Nat) (xs := tl) (enc := fun i => .int (i : Int)) (k := fun _ => true) (f := fun i => .int (theirs.getD i 0)) (is := [7]) (st := fun i ρ => ρ.set 7 (.d (.int (i : Int)))) [("_law_k", 7)] rfl S80.nd
    (vi_list (v_leftT (v_name 2 rfl))) (by omega) (fun i _ s H C cl fp => vg_name 7 S80.nd) (fun i _ s H C cl fp => vts_nil) (fun i hi _ s H C cl fp => v_ixL (v_ixT (v_name 1 rfl) v_int rfl) (v_name 7 rfl) (atI_dI (ok.ok.t i hi)))).ve.is (by rw [pk_dL]; rfl)) S80.nd ?_
  refine vb_setLc (α := Nat) (xs := tl) (enc := fun i => .int (i : Int)) (k := fun _ => true) (f := fun _ => .int (-1)) (is := [7]) (st := fun i ρ => ρ.set 7 (.d (.int (i : Int)))) 9 [("_law_k", 7)] rfl S80.nd
    (vi_list (v_leftT (v_name 2 rfl))) (by omega) (fun i _ s H C cl fp => vg_name 7 S80.nd) (fun i _ s H C cl fp => vts_nil) (fun i hi _ s H C cl fp => v_neg v_int) ?_
  have hxl := dX_len tl
  have rest : ∀ dues : List PyData, (ex = true → ∀ i, i < tl.length → atI dues (i : Int) = some (.int (ansOf (pk ml mine) (pk tl theirs) i (zM (z.drop 1)) (zT (z.drop 1)) k : Nat))) →
      VB (cxF W N80 "_law_all_answers" (defScope s80) f cdv A outer s H E) G G H ((defBody s80).drop 5) Φ [.v (.ref g), .d (.tuple [dL mine, dL theirs]), .d (dLeft ml tl), .d (.str ⟨z.toArray⟩), .d (.int k), .d (.bool ex), .d (dL (pk ml mine)), .no, .d (dL (pk tl theirs)), .d (.list dues), .no, .no, .no, .no] { nx := fun _ H' => Q .non H', rt := Q } := fun dues hdu => by
    refine vb_setLc (α := Nat) (xs := List.range tl.length) (enc := fun i => .int (i : Int)) (k := fun i : Nat => ex || decide (((i : Nat) : Int) % 4 = 0)) (f := fun i => .int (i : Int)) (is := [10]) (st := fun i ρ => ρ.set 10 (.d (.int (i : Int)))) 11 [("_law_spot", 10)] rfl S80.nd
      (vi_range B ((v_lenL B (v_leftT (v_name 2 rfl))).is (d' := .int (tl.length : Nat)) (by rw [hxl])) (by omega)) (by rw [List.length_range]; omega) (fun i _ s H C cl fp => vg_name 10 S80.nd) (fun i _ s H C cl fp => vts_one (vw_or (vt_val (v_name 5 rfl)) (fun _ => vw_or1 (vt_eqI (v_mod (v_intI B (v_name 10 rfl)) v_int (by decide)) v_int))).vt) (fun i _ _ s H C cl fp => v_name 10 rfl) ?_
    refine vb_for (ds := rgD (if ex then 2 else 1)) (is := [12]) (f := fun d ρ => ρ.set 12 (.d d)) (fun _ => [.v (.ref g), .d (.tuple [dL mine, dL theirs]), .d (dLeft ml tl), .d (.str ⟨z.toArray⟩), .d (.int k), .d (.bool ex), .no, .no, .no, .d (.list dues), .no, .d (.list (((List.range tl.length).filter fun i : Nat => ex || decide (((i : Nat) : Int) % 4 = 0)).map fun i : Nat => PyData.int ((i : Nat) : Int))), .no, .no]) (fun _ => Φ) ownF rfl
      (vi_range B ((v_ixL (d := .int (if ex then 2 else 1)) (vn_lst (ds := [.int 1, .int 2]) (va_d v_int (va_d v_int va_nil))).ve (v_intB B (v_name 5 rfl)) (by cases ex <;> rfl)).is (d' := .int ((if ex then 2 else 1 : Nat) : Int)) (by cases ex <;> rfl)) (by cases ex <;> decide))
      (fun d _ => vg_name 12 S80.nd) ⟨.inr rfl, .inr rfl, .inr rfl, .inr rfl, .inr rfl, .inr rfl, .inl rfl, .inl rfl, .inl rfl, .inr rfl, .inl rfl, .inr rfl, .inl rfl, .inl rfl, True.intro⟩ (fun G H h => h) (fun Gm' _ i d hd => ?_) (vb_ret v_bool hO)
    refine vb_for (ds := ((List.range tl.length).filter fun i : Nat => ex || decide (((i : Nat) : Int) % 4 = 0)).map fun i : Nat => PyData.int ((i : Nat) : Int)) (is := [10]) (f := fun d ρ => ρ.set 10 (.d d)) (fun _ => [.v (.ref g), .d (.tuple [dL mine, dL theirs]), .d (dLeft ml tl), .d (.str ⟨z.toArray⟩), .d (.int k), .d (.bool ex), .no, .no, .no, .d (.list dues), .no, .d (.list (((List.range tl.length).filter fun i : Nat => ex || decide (((i : Nat) : Int) % 4 = 0)).map fun i : Nat => PyData.int ((i : Nat) : Int))), .no, .no]) (fun _ => Φ) ownF rfl
      (vi_list (v_name 11 rfl)) (fun d _ => vg_name 10 S80.nd) ⟨.inr rfl, .inr rfl, .inr rfl, .inr rfl, .inr rfl, .inr rfl, .inl rfl, .inl rfl, .inl rfl, .inr rfl, .inl rfl, .inr rfl, .inl rfl, .inl rfl, True.intro⟩ (fun G H h => h) (fun Gm2 _ j d2 hd2 => ?_) (vb_nx rfl ⟨.inr rfl, .inr rfl, .inr rfl, .inr rfl, .inr rfl, .inr rfl, .inl rfl, .inl rfl, .inl rfl, .inr rfl, .inl rfl, .inr rfl, .inl rfl, .inl rfl, True.intro⟩ (fun G H h => h))
    obtain ⟨t, ht, rfl⟩ : ∃ t, t < tl.length ∧ d2 = .int (t : Int) := by
      obtain ⟨t, h1, h2⟩ := List.mem_map.mp (List.mem_of_getElem? hd2)
      exact ⟨t, List.mem_range.mp (List.mem_filter.mp h1).1, h2.symm⟩
    have hlt : ansOf (pk ml mine) (pk tl theirs) t (zM (z.drop 1)) (zT (z.drop 1)) k < (pk ml mine).length := ans_mem (by omega) (by omega)
    have hmem := getD_mem (l := ml) (i := ansOf (pk ml mine) (pk tl theirs) t (zM (z.drop 1)) (zT (z.drop 1)) k) (by omega)
    have hidx := idx_getD nm (i := ansOf (pk ml mine) (pk tl theirs) t (zM (z.drop 1)) (zT (z.drop 1)) k) (by omega)
    refine vb_set 13 (d := .int (ml.getD (ansOf (pk ml mine) (pk tl theirs) t (zM (z.drop 1)) (zT (z.drop 1)) k) 0 : Nat)) (v_meth inW M.Ma hr M.LG.c (vv_name 0 rfl) hp.hg (va_d (v_ixL (d := .int (tl.getD t 0 : Nat)) (v_leftT (v_name 2 rfl)) (v_name 10 rfl) (atI_dX ht)) va_nil) ⟨g, hh, k, z, mine, theirs, ml, tl, _, rfl, hp, hz, .inr (.inr ⟨hm, tl.getD t 0, rfl, getD_mem ht, ok, by rw [idx_getD nt ht]⟩)⟩) S80.nd ?_
    refine vb_if1 ((vw_or (vt_not (vt_val (v_call (d := .bool true) inW C60 hr (va_d (v_name 13 rfl) va_nil) ⟨_, rfl, rfl⟩))) (fun _ => vw_or1 (vt_nin (l := zI ml) (v_name 13 rfl) ((v_leftM (v_name 2 rfl)).is (by rw [dX_zI]; rfl))))).vt.is (b' := false) (by rw [decide_eq_true (zI_nat.mpr hmem)]; rfl)) (fun h => by cases h) (fun _ => ?_)
    refine vb_if1 (c := false) ?_ (fun h => by cases h) (fun _ => vb_nx rfl ⟨.inr rfl, .inr rfl, .inr rfl, .inr rfl, .inr rfl, .inr rfl, .inl rfl, .inl rfl, .inl rfl, .inr rfl, .inl rfl, .inr rfl, .inl rfl, .inl rfl, True.intro⟩ (fun G H h => h))
    cases ex with
    | false => exact (vw_and (c := false) (d := false) (vt_val (v_name 5 rfl)) (fun h => by cases h)).vt
    | true =>
      exact ((vw_and (vt_val (v_name 5 rfl)) (fun _ => vw_and1 (vt_neI ((v_index (l := zI ml) ((v_leftM (v_name 2 rfl)).is (by rw [dX_zI]; rfl)) (v_name 13 rfl) (zI_nat.mpr hmem)).is (d' := .int (ansOf (pk ml mine) (pk tl theirs) t (zM (z.drop 1)) (zT (z.drop 1)) k : Nat)) (by rw [zI_idx, hidx])) (v_ixL (v_name 9 rfl) (v_name 10 rfl) (hdu rfl t ht))))).vt.is (by rw [decide_eq_true rfl]; rfl))
  refine vb_if1 (vt_val (v_name 5 rfl)) (fun he => ?_) (fun he => rest _ fun h => by rw [he] at h; cases h)
  refine vb_setLc (α := Nat) (xs := List.range tl.length) (enc := fun i => .int (i : Int)) (k := fun _ => true) (f := fun i => .int (ansOf (pk ml mine) (pk tl theirs) i (zM (z.drop 1)) (zT (z.drop 1)) k : Nat)) (is := [10]) (st := fun i ρ => ρ.set 10 (.d (.int (i : Int)))) 9 [("_law_spot", 10)] rfl S80.nd
    (vi_range B ((v_lenL B (v_leftT (v_name 2 rfl))).is (d' := .int (tl.length : Nat)) (by rw [hxl])) (by omega)) (by rw [List.length_range]; omega) (fun i _ s H C cl fp => vg_name 10 S80.nd) (fun i _ s H C cl fp => vts_nil)
    (fun i hi _ s H C cl fp => v_call ⟨rfl, rfl, rfl, rfl, rfl⟩ C73 hr (va_d (v_name 6 rfl) (va_d (v_name 8 rfl) (va_d (v_name 10 rfl) (va_d (v_tail (v_name 3 rfl) hz) (va_d (v_name 4 rfl) va_nil))))) ⟨pk ml mine, pk tl theirs, i, z.drop 1, k, rfl, by omega, by omega, by have := List.mem_range.mp hi; omega, by rw [List.length_drop]; omega, gd_tail ok.ha, rfl⟩) (vb_fall (rest _ fun _ i hi => ?_))
  rw [filt_true]
  exact map_at (by rw [List.length_range]; exact hi) i (List.getElem?_range hi)
theorem fn80 {W : Wd} {c : Cs} {f : Addr} {fd : FuncData} (B : Bl W.mg) (M : GM W c) (C60 : Fn W "_law_is_int" 1 ["_law_x"] [] F60) (C73 : Fn W "_law_due_answer" 7 P73 [] F52) (D : FunP W "_law_all_answers" s80 [] f fd) (hm : W.mg "_law_all_answers" = some (.ref f)) : Fn W "_law_all_answers" 12 P80 [] (F80 c) :=
  fn_mk D hm S80 (b80 B M C60 C73) fun _ _ _ _ _ _ us hl => match us, hl with | [_, _, _, _, _, _], _ => rfl
end K43
namespace K43
open PySem PySem.Spec PyProof.Rows L2
/-! ### the exceptions' classes -/
abbrev exN : List Str := ["ClimbrowError", "BadHands", "BadWord", "Unsteady", "BadCard", "BadPairing", "BadPlace", "OutOfTurn", "Unreachable", "Contradiction", "BadBounds", "BadSchedule", "BadText", "UnknownName", "DuplicateName"]
abbrev exS : List Str := ["BadHands", "BadWord", "Unsteady", "BadCard", "OutOfTurn", "Unreachable"]
def subE (x y : Str) : Bool := x == y || y == "ClimbrowError" || (x == "Unsteady" && y == "BadWord")
def exF : List (Str × Str) := [("BadHands", "mine_count"), ("BadHands", "theirs_count"), ("BadWord", "position"), ("Unsteady", "position"), ("BadCard", "side"), ("BadCard", "index"), ("Unreachable", "wanted"), ("Unreachable", "lowest"), ("Unreachable", "highest")]
structure EF (W : Wd) (ca : Str → Addr) : Prop where
  g : ∀ x ∈ exN, W.mg x = some (.ref (ca x))
  ex : ∀ x ∈ exS, ExcC W.K (ca x)
  xf : ∀ x ∈ exS, XfC W.K (ca x)
  m : ∀ x ∈ exS, PySem.W.exmOne W.K (.ref (ca x)) (.ref (ca "ClimbrowError")) = some true
  is : ∀ x ∈ exS, ∀ y ∈ exN, PySem.W.kitOne W.K (.ref (ca x)) (.ref (ca y)) = some (subE x y)
  ve : ∀ x ∈ exS, PySem.W.kitOne W.K (.ref (ca x)) (.type "ValueError") = some true
  no : ∀ p ∈ exF, PySem.W.findIn W.K (.ref (ca p.1)) p.2 = some none
theorem EF.any {W : Wd} {ca : Str → Addr} (F : EF W ca) {x : Str} (hx : x ∈ exS) : ∀ ys : List Str, (∀ y ∈ ys, y ∈ exN) → PySem.W.kitAny W.K (.ref (ca x)) (ys.map fun y => .ref (ca y)) = some (ys.any (subE x))
  | [], _ => rfl
  | y :: ys, h => by
    rw [List.map_cons, List.any_cons]
    refine kitAny_cons (F.is x hx y (h y List.mem_cons_self)) (fun e => ?_) (fun e => ?_)
    · rw [e, Bool.false_or]
      exact F.any hx ys fun z hz => h z (List.mem_cons_of_mem _ hz)
    · rw [e, Bool.true_or]
/-! ### what stands in an except suite -/
/-- the caught exception's object: its dict, with the fields -/
def As.xf (x : Xn) (od : Option Addr) : As := ⟨fun _ H => XOk x od H, fun _ e h => by
  unfold XOk at h ⊢
  split at h
  · exact h
  · obtain ⟨dx, h1, h2⟩ := h
    exact ⟨dx, h1, e.hh _ _ h2⟩⟩
/-- isinstance of the caught exception -/
def rIsX (K : PySem.W.Frag) (D a : Addr) (z : Xn) (od : Option Addr) : List V → Hp → VK → Prop := fun xs H Q => XOk z od H ∧ ∃ (us : List Value) (b : Bool),
  ((∃ c u, xs = [.ref a, c] ∧ us = [u] ∧ ClsV c u ∧ PySem.W.kitOne K (.ref D) u = some b) ∨ (∃ tp cs, xs = [.ref a, .ref tp] ∧ H tp = some (.tup cs) ∧ Paired ClsV cs us ∧ PySem.W.kitAny K (.ref D) us = some b)) ∧ Q (.bl b) H
theorem call_isX {X : Cx} {a D : Addr} {oe : Obj} {z : Xn} {od : Option Addr} {pn : List (Addr × Obj)} (C : ExcC X.K D) (hz : Zc (.ref D) od oe) (hf : ∃ vs, oe.data = .fields vs) : CallR (X.suite a ((a, oe) :: pn)) (.builtin "isinstance") (rIsX X.K D a z od) := by
  intro pins s σ H xs us Q I r h
  obtain ⟨hx, ws, b, hc, q⟩ := h
  obtain ⟨hget, _⟩ := I.pin (a, oe) (List.mem_append.mpr (.inl List.mem_cons_self))
  obtain ⟨vs, hv⟩ := hf
  have J : ∃ o, PySem.W.InstAt s.heap a oe D o := by
    obtain ⟨oc, odd, oda, osl⟩ := oe
    obtain ⟨h1, h2⟩ := hz
    dsimp only at h1 h2 hv
    subst h1 h2 hv
    unfold XOk at hx
    split at hx
    · subst hx
      exact ⟨none, hget, rfl, rfl, trivial⟩
    · obtain ⟨dx, rfl, h4⟩ := hx
      have hk : ObjOk X.prog X.w H s.heap dx (.xd _) := I.hok dx _ h4
      obtain ⟨mA, hns, hr⟩ := hk
      obtain ⟨o, ho, hl⟩ := lookIn_ns hns
      exact ⟨some o, hget, rfl, rfl, ho⟩
  obtain ⟨o, J⟩ := J
  have cl : (PySem.W.clsIn X.K D).isSome = true := by
    obtain ⟨cd, h1, _⟩ := PySem.W.any_some C.hd
    rw [h1]
    rfl
  have Z := PySem.W.kitx_exc (x := a) (ox := oe) (od := o) cl C.hg C.hk C.hs C.ha C.hn C.ht C.hm
  rcases hc with ⟨c, u, rfl, rfl, k, e⟩ | ⟨tp, cs, rfl, hT, k, e⟩
  · obtain ⟨u1, u2, rfl, r1, r2⟩ := vals2 r
    cases (show u1 = Value.ref a from r1)
    have e2 := k.eq r2
    subst e2
    exact PySem.W.kia_one Z I.kIn J e (fun z => nomatch z) fun tk => ⟨.bl b, H, I.tok tk, rfl, q⟩
  · obtain ⟨u1, u2, rfl, r1, r2⟩ := vals2 r
    cases (show u1 = Value.ref a from r1)
    cases (show u2 = Value.ref tp from r2)
    obtain ⟨_, its, rv, o, h1, h2, n, h3⟩ := (show ObjOk X.prog X.w H s.heap tp (.tup cs) from I.hok tp _ hT)
    have e3 := ClsV.all k rv
    subst e3
    obtain ⟨oc, od2, dt, sl⟩ := o
    simp only at h2 h3
    subst h2 h3
    exact PySem.W.kia_tup Z I.kIn J h1 e (fun z => nomatch z) fun tk => ⟨.bl b, H, I.tok tk, rfl, q⟩
section
variable {W : Wd} {X : Cx} {Φ : As} {ρ : List Sl} {e : Expr} {es : List Expr} {pos p : Pos}
/-- a class of the text, by its name -/
theorem vv_cls {x : Str} {C : Addr} {p : Pos} (hm : X.mg x = some (.ref C)) (hg : Gl X x := by rfl) (hd : (x == ("__debug__" : Str)) = false := by decide) : VV X Φ ρ (.Name x p) (.ref C) := fun σ G H s r f Q q pins s1 I =>
  ld_glob I hg hm ⟨.ref C, H, I, rfl, q G H (Ext.refl s)⟩ hd
end
end K43
namespace K43
open PySem PySem.Spec PyProof.Rows L2
theorem Rt.ext {G H G2 H2 : Hp} {Q : VK} {d : PyData} (h : Rt G H Q d) (e : Ext G H G2 H2) : Rt G2 H2 Q d := fun v G3 H3 e3 k => h v G3 H3 (e.trans e3) k
theorem sr_no {G : Hp} : ∀ {n : Nat} {σ : L2.St}, σ.length = n → SR G (List.replicate n .no) σ
  | 0, [], _ => True.intro
  | n + 1, _ :: σ, h => ⟨True.intro, sr_no (by simpa using h)⟩
section
variable {W : Wd} {X : Cx} {Φ : As} {ρ : List Sl} {e : Expr} {es : List Expr} {pos p : Pos} {a D : Addr} {oe : Obj} {z : Xn} {od : Option Addr} {pn : List (Addr × Obj)} {Gm G0 H0 : Hp} {rest : List Stmt}
/-! ### isinstance(e, ..), e the caught exception -/
theorem v_isE {y : Str} {Cy : Addr} {b : Bool} {py : Pos} (C : ExcC X.K D) (hz : L2N.Zn (.ref D) od oe) (hf : ∃ vs, oe.data = .fields vs) (B : Bl X.mg) (he : VV (X.suite a ((a, oe) :: pn)) Φ ρ e (.ref a)) (hp : ∀ G H, Φ.p G H → XOk z od H) (hm : X.mg y = some (.ref Cy)) (hk : PySem.W.kitOne X.K (.ref D) (.ref Cy) = some b)
    (hg : Gl X "isinstance" := by rfl) (hg2 : Gl X y := by rfl) (hst : starEach [e, .Name y py] X.env = (false, eval e X.env) :: starEach [.Name y py] X.env := by rfl) (hst2 : starEach [.Name y py] X.env = (false, eval (.Name y py) X.env) :: starEach [] X.env := by rfl)
    (hpl : (backTo pos (starEach [.Name y py] X.env)).any (·.1) = false := by rfl) (hd : (y == ("__debug__" : Str)) = false := by decide) : VE (X.suite a ((a, oe) :: pn)) Φ ρ (.Call (.Name "isinstance" p) [e, .Name y py] [] pos) (.bool b) := fun σ G H s r f Q q =>
  we_of (pe_callB (X := X.suite a ((a, oe) :: pn)) (call_isX (z := z) C hz.zc hf) hg B.isinstance (by decide +kernel) wa (by decide) (by decide) hst hpl) (va_v he (va_v (vv_cls (X := X.suite a ((a, oe) :: pn)) hm hg2 hd) va_nil hst2) hst σ G H s r f _ fun vs G1 H1 e1 k1 => by
    match vs, k1 with
    | [v, w], k1 =>
      have k2 : some v = some (V.ref a) := k1.1
      have k3 : some w = some (V.ref Cy) := k1.2.1
      cases k2
      cases k3
      exact ⟨hp _ _ (Φ.st s e1 f), _, b, .inl ⟨_, _, rfl, rfl, .own Cy, hk⟩, q _ G1 H1 e1 (.bl b)⟩)
theorem v_isVE {b : Bool} {py : Pos} (C : ExcC X.K D) (hz : L2N.Zn (.ref D) od oe) (hf : ∃ vs, oe.data = .fields vs) (B : Bl X.mg) (he : VV (X.suite a ((a, oe) :: pn)) Φ ρ e (.ref a)) (hp : ∀ G H, Φ.p G H → XOk z od H) (hk : PySem.W.kitOne X.K (.ref D) (.type "ValueError") = some b)
    (hg : Gl X "isinstance" := by rfl) (hg2 : Gl X "ValueError" := by rfl) (hst : starEach [e, .Name "ValueError" py] X.env = (false, eval e X.env) :: starEach [.Name "ValueError" py] X.env := by rfl) (hst2 : starEach [.Name "ValueError" py] X.env = (false, eval (.Name "ValueError" py) X.env) :: starEach [] X.env := by rfl)
    (hpl : (backTo pos (starEach [.Name "ValueError" py] X.env)).any (·.1) = false := by rfl) : VE (X.suite a ((a, oe) :: pn)) Φ ρ (.Call (.Name "isinstance" p) [e, .Name "ValueError" py] [] pos) (.bool b) := fun σ G H s r f Q q =>
  we_of (pe_callB (X := X.suite a ((a, oe) :: pn)) (call_isX (z := z) C hz.zc hf) hg B.isinstance (by decide +kernel) wa (by decide) (by decide) hst hpl) (va_v he (va_v (v := .ty "ValueError") (fun σ G H s _ _ Q q => we_of (pe_bltn (X := X.suite a ((a, oe) :: pn)) (v := .ty "ValueError") hg2 B.valueError (by decide +kernel) rfl (by decide) (by decide)) (q G H (Ext.refl s))) va_nil hst2) hst σ G H s r f _ fun vs G1 H1 e1 k1 => by
    match vs, k1 with
    | [v, w], k1 =>
      have k2 : some v = some (V.ref a) := k1.1
      have k3 : some w = some (V.ty "ValueError") := k1.2.1
      cases k2
      cases k3
      exact ⟨hp _ _ (Φ.st s e1 f), _, b, .inl ⟨_, _, rfl, rfl, .ty _, hk⟩, q _ G1 H1 e1 (.bl b)⟩)
theorem cls_pair {G : Hp} : ∀ {cs : List Addr} {vs : List V}, SlsOk G (cs.map fun C => Sl.v (.ref C)) vs → Paired ClsV vs (cs.map fun C => Value.ref C)
  | [], [], _ => .nil
  | C :: cs, v :: vs, h => by
    have k : some v = some (V.ref C) := h.1
    cases k
    exact .cons (.own C) (cls_pair h.2)
  | [], _ :: _, h => h.elim
  | _ :: _, [], h => h.elim
theorem v_isET {cs : List Addr} {b : Bool} {k : Nat} {py : Pos} (C : ExcC X.K D) (hz : L2N.Zn (.ref D) od oe) (hf : ∃ vs, oe.data = .fields vs) (B : Bl X.mg) (he : VV (X.suite a ((a, oe) :: pn)) Φ ρ e (.ref a)) (hp : ∀ G H, Φ.p G H → XOk z od H) (ha : VA (X.suite a ((a, oe) :: pn)) Φ ρ es (cs.map fun C => Sl.v (.ref C)))
    (hk : PySem.W.kitAny X.K (.ref D) (cs.map fun C => Value.ref C) = some b) (hl : cs.length ≤ 1000 := by exact Nat.le_of_ble_eq_true rfl)
    (hg : Gl X "isinstance" := by rfl) (hst : starEach [e, .Tuple es k py] X.env = (false, eval e X.env) :: starEach [.Tuple es k py] X.env := by rfl) (hst2 : starEach [.Tuple es k py] X.env = (false, eval (.Tuple es k py) X.env) :: starEach [] X.env := by rfl)
    (hpl : (backTo pos (starEach [.Tuple es k py] X.env)).any (·.1) = false := by rfl) : VE (X.suite a ((a, oe) :: pn)) Φ ρ (.Call (.Name "isinstance" p) [e, .Tuple es k py] [] pos) (.bool b) := fun σ G H s r f Q q =>
  we_of (pe_callB (X := X.suite a ((a, oe) :: pn)) (call_isX (z := z) C hz.zc hf) hg B.isinstance (by decide +kernel) wa (by decide) (by decide) hst hpl) (wa_of (pa_cons we (pa_cons we pa_nil hst2) hst) (he σ G H s r f _ fun G1 H1 e1 => we_of (pe_tup wa) (ha σ G1 H1 e1.gh (r.mono e1.gg) (Φ.st s e1 f) _ fun vs G2 H2 e2 k2 => ⟨by rw [← SlsOk.len k2, List.length_map, sizeLine_eq]; omega, fun tp htp => by
    have e12 := e1.trans e2
    have e3 : Ext G2 H2 (upd G2 tp (.tup vs)) (upd H2 tp (.tup vs)) := Ext.new e12.gh htp
    have e13 := e12.trans e3
    exact ⟨hp _ _ (Φ.st s e13 f), _, b, .inr ⟨tp, vs, rfl, upd_same, cls_pair k2, hk⟩, q _ _ _ e13 (.bl b)⟩⟩)))
/-! ### e.f -/
theorem v_xf {fs : List (Str × V)} {f : Str} {d : PyData} (T : XfC X.K D) (hno : PySem.W.findIn X.K (.ref D) f = some none) (hz : L2N.Zn (.ref D) od oe) (hf : ∃ vs, oe.data = .fields vs) (he : VV (X.suite a ((a, oe) :: pn)) Φ ρ e (.ref a)) (hp : ∀ G H, Φ.p G H → XOk z od H) (hfs : z.fs = some fs) (hl : fs.lookup f = some (scV d)) (hd : scal? d = true := by rfl)
    (hb : attributeBase e f X.env (eval e X.env) = eval e X.env := by rfl) : VE (X.suite a ((a, oe) :: pn)) Φ ρ (.Attribute e f pos) d := fun σ G H s r φ Q q =>
  we_of (pe_xf T hno hz.zc hf we hb) (he σ G H s r φ _ fun G1 H1 e1 => by
    have hx := hp _ _ (Φ.st s e1 φ)
    unfold XOk at hx
    rw [hfs] at hx
    obtain ⟨dx, h1, h2⟩ := hx
    exact ⟨rfl, rfl, dx, fs, _, h1, h2, hl, q _ G1 H1 e1 (sc_of hd)⟩)
/-! ### try -/
theorem vb_tryX {D : Ends} {x n : Str} {cE : Addr} {i : Nat} {epos np pos' : Pos} {b₀ : Stmt} {suite : List Stmt} {Wout : WX} (ρs : Addr → List Sl) (hs : X.stack = X.env :: X.outer) (hf : X.env.frame = some X.env.locals) (hN : X.N.Nodup) (hi : X.N[i]? = some n) (hln : X.env.kindOf n = some .local) (hc : Names X x (.ref cE)) (tk : L2N.Takes X Wout)
    (hm : PySem.W.exmOne X.K (.ref z.C) (.ref cE) = some true) (hb : ∀ (pn : List (Addr × Obj)) (xe : Value → Shared → Prop) (E' : XK), Wish (X.tr pn xe) E' → VR (X.tr pn xe) E' Φ ρ e z)
    (hsu : ∀ (a : Addr) (oe : Obj) (od : Option Addr) (pn : List (Addr × Obj)) (G2 H2 : Hp), L2N.Zn (.ref z.C) od oe → (∃ vs, oe.data = .fields vs) → Ext G0 H0 G2 H2 → ∀ D2 : Ends, D2.rt = D.rt → VB (X.suite a ((a, oe) :: pn)) G2 G2 H2 (b₀ :: suite) (As.xf z od) (ρs a) D2)
    (hρ : ∀ a, ρs a = (List.replicate X.N.length .no).set i (.v (.ref a)) := by intro _; rfl) (hsw : swapsWith e none epos.line X.env = pure false := by rfl) :
    VB X Gm G0 H0 (.Try [.Expr e epos] [.ExceptHandler (some (.Name x np)) (some n) (b₀ :: suite) pos'] [] [] pos :: rest) Φ ρ D := fun σ G H m zz r f =>
  wb_cons (ws_of (L2N.ps_try_as (tb := fun W D σ H => ∀ pn xe, L2N.Takes (X.tr pn xe) W → PassesOwn (model X.prog X.w) X.A X.env xe → WB (X.tr pn xe) [.Expr e epos] D σ H)
      (ts := fun a cls d D σ H => ∀ oe pn, L2N.Zn cls d oe → (∃ vs, oe.data = .fields vs) → WB (X.suite a ((a, oe) :: pn)) (b₀ :: suite) D σ H) hs hf hN hi hln hc tk
      (fun W pn xe t po => ⟨fun pins s σ H D I h => h pn xe t po pins s I⟩) (fun a oe cls d pn h1 h2 => ⟨fun pins s σ H D I h => h oe pn h1 h2 pins s I⟩)) (fun pn xe t po => by
    generalize hW : wAs X.K (Value.ref cE) i _ Wout _ = W0 at t
    refine vb_exprX (X := X.tr pn xe) (E := fun cls d H' => ∀ σ' : L2.St, σ'.length = X.N.length → W0 cls d σ' H') (hb pn xe _ fun pins σ' H' s' u s'' I c => t u s'' (L2N.XE.of_call I (fun cls d H' h => h σ' I.len) c)) ?_ hsw σ G H (Same.refl G) (Ext.refl zz.gh) r f
    intro od G2 H2 e2 k σ' hl
    rw [← hW]
    refine ⟨true, hm, fun _ a ha oe pn2 h1 h2 => ?_, fun h => by cases h⟩
    refine hsu a oe od pn2 G2 H2 h1 h2 (zz.trans e2) _ ?h1 _ G2 H2 (Same.refl G2) (Ext.refl e2.gh) ?h2 k
    case h1 => rfl
    rw [hρ]
    exact SR.set (s := .v (.ref a)) (o := some (.ref a)) rfl i (sr_no hl)))
end
end K43
namespace K43
open PySem PySem.Spec PyProof.Rows L2
/-! ### a def that is called while an exception is handled; it raises nothing -/
structure FnS (W : Wd) (x : Str) (ps : List Str) (F : FR) : Prop where
  ex : ∃ f fd, W.mg x = some (.ref f) ∧ PySem.W.keepIn W.K (.ref f) = true ∧ Binds W.K fd ps [] ∧
    ∀ (A : Around) (outer : List Env) (s : Shared) (H : Hp) (args : Args) (us : List Value) (vs : List V) (Q : VK) (p : Addr × Obj), L2H.RoomH 1 A → L2H.PinOk outer H s p → Env0 W.P W.w W.K W.mg W.base A outer s H → BindsTo s fd args (ps.zip us) → Vals vs us → spF ps.length F vs H Q (fun _ _ _ => False) →
      codeAny (model W.P W.w) A (.call (.ref f) args) (CR (L2N.CX W.P W.w) outer W.P W.w H s Q fun _ _ _ => False) s
abbrev cxS (W : Wd) (N : List Str) (qual : Str) (scope : Scope) (f : Addr) (cd : Value) (A : Around) (outer : List Env) (s : Shared) (H : Hp) (p : Addr × Obj) : Cx := L2H.cxH (L2N.CX W.P W.w) W.P W.w W.K W.mg W.base N qual scope f cd A outer s H (fun _ _ _ => False) p
def BodyS (W : Wd) (N : List Str) (qual : Str) (st : Stmt) (n : Nat) (F : FR) : Prop := ∀ (f : Addr) (cdv : Value) (A : Around) (outer : List Env) (s : Shared) (H G : Hp) (Q : VK) (ss : List Sl) (Φ : As) (o : Out) (p : Addr × Obj),
  F ss Φ o → OP Q (fun _ _ _ => False) G H o → VB (cxS W N qual (defScope st) f cdv A outer s H p) G G H (defBody st) Φ (ρ0 ss (N.length - n)) { nx := fun _ H' => Q .non H', rt := Q }
theorem fnS_mk {W : Wd} {N ps : List Str} {x : Str} {st : Stmt} {F : FR} {f : Addr} {fd : FuncData} (D : FunP W x st [] f fd) (hm : W.mg x = some (.ref f)) (S : FnScope N ps (defScope st)) (b : BodyS W N x st ps.length F)
    (hb : ∀ (kV doc pm : Value) (an : Option Addr) (cdv ct : Value) (us : List Value), us.length = ps.length → bindArgs (PySem.W.fnOf x x (defArgs st) (defBody st) (defScope st) .none kV doc pm an cdv ct) ⟨us, []⟩ = pure (ps.zip us)) : FnS W x ps F := by
  refine ⟨f, fd, hm, D.kp, D.bindsN hb, fun A outer s H args us vs Q p hr hpin e0 hbt r hsp => ?_⟩
  obtain ⟨oc, od, dV, kV, doc, pm, an, cdv, ct, osl, rfl, lk, hcd, hD, hK⟩ := D.ex
  obtain ⟨G, ss, Φ, o, hn, hs, hk, hφ, hF, hO⟩ := hsp
  have hl : vs.length = ps.length := by rw [← hk.len, hn]
  have KX : W.K.In s.heap := e0.mod.kin.keeps fun b o e => (e0.bs b o e).1
  have lim : s.heap.NoLimit := e0.mod.nolimit.keeps fun b o e => (e0.bs b o e).1
  have hkind : ∀ y ∈ ps.zip us, (defScope st).names.lookup y.1 = some .local ∨ ((defScope st).names.lookup y.1 = some .cell ∧ ((cellsFrom (s.heap.objs.size + 1) (defScope st).names []).lookup y.1).isSome = true) := fun ⟨n, v⟩ hy => by
    rcases S.par n (List.of_mem_zip hy).1 with q | q
    · exact .inl q
    · exact .inr ⟨q, PySem.W.cellsFrom_some _ _ _ (.inl q)⟩
  refine codeAny_call_function hr.depth (KX _ _ lk) rfl S.co S.gen rfl (PySem.W.codeRec_of KX hcd) (hbt _ _ _ _ ?_)
  refine wpAny_newFunctionEnv_cells S.kind hkind fun env he s1 x1 => ?_
  subst he
  refine ⟨lim.keeps x1.toInCall.keep, codeAny_func ?_⟩
  have I : Inv (cxS W N x (defScope st) f cdv A outer s H p) [] (L2.start N vs) H s1 := L2H.inv_startH S hpin e0 hl r x1
  have sr : SR G (ρ0 ss (N.length - ps.length)) (start N vs) := by
    have e : N.length - ps.length = N.length - vs.length := by rw [hl]
    rw [e]
    exact SR.start _ hk
  refine wpAny_mono (b f cdv A outer s H G Q ss Φ o p hF hO _ G H (Same.refl G) (Ext.refl hs) sr hφ [] s1 I) (fun fl s' h => ?_) fun e s' h => h
  have fin : ∀ {σ' : L2.St} {H' : Hp} {v : V} {u : Value}, Inv (cxS W N x (defScope st) f cdv A outer s H p) [] σ' H' s' → RelV v u → Q v H' → CE outer W.P W.w H s Q u s' :=
    fun {σ' H' v u} J rv q => ⟨v, H', J.os, J.bare, J.base, J.hok, rv, q⟩
  cases fl with
  | ret u =>
    obtain ⟨v, σ', H', J, rv, q⟩ := h
    exact fin J rv q
  | next =>
    obtain ⟨σ', H', J, q⟩ := h
    exact fin (v := V.non) (u := Value.none) J rfl q
  | brk =>
    obtain ⟨_, _, _, q⟩ := h
    exact False.elim q
  | cont =>
    obtain ⟨_, _, _, q⟩ := h
    exact False.elim q
section
variable {W : Wd} {X : Cx} {Φ : As} {ρ : List Sl} {e : Expr} {es : List Expr} {pos p : Pos}
/-- such a call, at the level of values -/
theorem run_S {ps : List Str} {F : FR} {pins : List (Addr × Obj)} {σ : L2.St} {H : Hp} {s : Shared} {Q : VK} {us : List Value} {vs : List V} {f : Addr} {fd : FuncData} {q : Addr × Obj} (hW : InW W X) (hb : Binds W.K fd ps [])
    (go : ∀ (A : Around) (outer : List Env) (s : Shared) (H : Hp) (args : Args) (us : List Value) (vs : List V) (Q : VK) (p : Addr × Obj), L2H.RoomH 1 A → L2H.PinOk outer H s p → Env0 W.P W.w W.K W.mg W.base A outer s H → BindsTo s fd args (ps.zip us) → Vals vs us → spF ps.length F vs H Q (fun _ _ _ => False) →
      codeAny (model W.P W.w) A (.call (.ref f) args) (CR (L2N.CX W.P W.w) outer W.P W.w H s Q fun _ _ _ => False) s)
    (hr : L2H.RoomH 1 X.A) (hq : q ∈ X.pn ++ pins) (I : Inv X pins σ H s) (r : Vals vs us) (h : spF ps.length F vs H Q fun _ _ _ => False) : wpAny (model X.prog X.w) X.A (call (.ref f) us) (EP X pins σ Q) X.xe s := by
  obtain ⟨h1, h2, h3, h4, h5⟩ := hW
  obtain ⟨WP, Ww, WK, Wm, Wb⟩ := W
  subst h1 h2 h3 h4 h5
  have hl : us.length = ps.length := by rw [← r.length]; exact spF_len h
  have b := hb s us I.kIn (by rw [List.append_nil]; exact hl)
  rw [List.append_nil] at b
  have P1 := I.pin q hq
  have hpin : L2H.PinOk X.stack H s q := ⟨P1.1, P1.2.1, fun hm => (List.mem_cons.mp (I.stkSub q.1 hm)).elim P1.2.2.1 P1.2.2.2.1, P1.2.2.2.2⟩
  refine wpAny_call (codeAny_mono (go X.A X.stack s H ⟨us, []⟩ us vs Q q hr hpin I.env0 b r h) fun r s' hq => ?_)
  cases r with
  | error e =>
    obtain ⟨_, _, _, _, _, _, _, _, _, _, _, _, w⟩ := hq
    exact w.elim
  | ok fl =>
    cases fl with
    | ret u => exact I.after hq
    | next => exact False.elim hq
    | brk => exact False.elim hq
    | cont => exact False.elim hq
theorem v_callS {x : Str} {ps : List Str} {F : FR} {ss : List Sl} {d : PyData} {q : Addr × Obj} (hW : InW W X) (C : FnS W x ps F) (hr : L2H.RoomH 1 X.A) (hq : q ∈ X.pn) (ha : VA X Φ ρ (e :: es) ss) (hF : F ss Φ (.val d)) (hl : ss.length = ps.length := by rfl)
    (hg : Gl X x := by rfl) (hdb : (x == ("__debug__" : Str)) = false := by decide)
    (he : starEach (e :: es) X.env = (false, eval e X.env) :: starEach es X.env := by rfl) (hpl : (backTo pos (starEach es X.env)).any (·.1) = false := by rfl) : VE X Φ ρ (.Call (.Name x p) (e :: es) [] pos) d := fun σ G H s r φ Q k pins s0 I => by
  obtain ⟨f, fd, m, kp, bn, go⟩ := C.ex
  refine wpAny_Call_Name_kw (ld_glob I hg (by rw [hW.hm]; exact m) ?_ hdb)
  refine PySem.W.callWith_K (h₀ := X.base) I.ok.mod.kin (by rw [hW.hK]; exact kp) (thn (wa.run pos pins s0 σ H _ I (ha σ G H s r φ (fun vs H1 => spF ps.length F vs H1 Q fun _ _ _ => False) fun vs G1 H1 e1 k1 => ⟨G1, ss, Φ, .val d, hl, e1.gh, k1, Φ.st s e1 φ, hF, fun v G2 H2 e2 k2 => k v G2 H2 (e1.trans e2) k2⟩)) fun us s1 ⟨vs, H1, I1, r1, q1⟩ => ⟨I1.kIn, ?_⟩) he hpl
  exact run_S hW bn go hr (List.mem_append_left _ hq) I1 r1 q1
end
theorem bs60 {W : Wd} (B : Bl W.mg) : BodyS W ["_law_x"] "_law_is_int" s60 1 F60 := by
  intro f cdv A outer s H G Q ss Φ o p hF hO
  obtain ⟨i, rfl, rfl⟩ := hF
  exact vb_ret ((v_and (v_isi (t := "int") (c := true) B (v_name 0 rfl) (by show kitB "int" "int" = _; decide +kernel) B.int) (fun _ => v_one (v_not (v_isi (t := "bool") (c := false) B (v_name 0 rfl) (by show kitB "int" "bool" = _; decide +kernel) B.bool)))).is rfl) hO
theorem fs60 {W : Wd} {f : Addr} {fd : FuncData} (B : Bl W.mg) (D : FunP W "_law_is_int" s60 [] f fd) (hm : W.mg "_law_is_int" = some (.ref f)) : FnS W "_law_is_int" ["_law_x"] F60 :=
  fnS_mk D hm S60 (bs60 B) fun _ _ _ _ _ _ us hl => match us, hl with | [_], _ => rfl
end K43
namespace K43
open PySem PySem.Spec PyProof.Rows L2
/-! ### _law_call, where it raises -/
abbrev s75 : Stmt := top 75
abbrev P75 : List Str := ["_law_guide", "_law_what", "_law_a", "_law_b"]
/-- what a guide refuses -/
def Refu (c : Cs) (Φ : As) (g : Addr) (what : Str) (a b : Int) (x : Xn) : Prop := ∃ (hh : Addr) (k : Int) (z : List Nat) (mine theirs : List Int) (ml tl : List Nat), HasG c g hh k z mine theirs ml tl Φ ∧ HOkk mine theirs ml tl ∧ z.length ≤ 1000 ∧ hh ≠ g ∧
  ((what = "lay" ∧ z.head? ≠ some 77 ∧ x = ⟨c.T, none⟩) ∨ (what = "answer" ∧ z.head? ≠ some 84 ∧ x = ⟨c.T, none⟩) ∨ (what = "answer" ∧ z.head? = some 84 ∧ a ∉ zI tl ∧ x = xcard c.C false a) ∨
   (what = "saw" ∧ a ∉ zI ml ∧ x = xcard c.C true a) ∨ (what = "saw" ∧ a ∈ zI ml ∧ b ∉ zI tl ∧ x = xcard c.C false b))
def F75 (c : Cs) : FR := fun ss Φ o => ∃ (g : Addr) (what : Str) (a b : Int) (x : Xn), ss = [.v (.ref g), .d (.str what), .d (.int a), .d (.int b)] ∧ Refu c Φ g what a b x ∧ o = .exc x
theorem S75 : FnScope P75 P75 (defScope s75) := ⟨rfl, rfl, rfl, by decide +kernel, rfl, by decide +kernel, by decide +kernel⟩
theorem b75 {W : Wd} {c : Cs} (M : GM W c) : Body W 11 P75 "_law_call" s75 4 (F75 c) := by
  intro f cdv A outer s H G Q E ss Φ o hr hF hO
  obtain ⟨g, what, a, b, x, rfl, ⟨hh, k, z, mine, theirs, ml, tl, hp, ok, hz, hne, hR⟩, rfl⟩ := hF
  refine vb_if1 (vt_eqS (v_name 1 rfl) v_str) (fun hc => ?_) (fun hc => ?_)
  · have hc := of_decide_eq_true hc
    rcases hR with ⟨_, h1, rfl⟩ | ⟨h, _⟩ | ⟨h, _⟩ | ⟨h, _⟩ | ⟨h, _⟩
    · exact vb_retX (x_meth0 inW wishF M.Ml hr M.LG.c (vv_name 0 rfl) hp.hg (show F53l c _ _ (.exc ⟨c.T, none⟩) from ⟨g, hh, k, z, mine, theirs, ml, tl, rfl, hp, hz, .inl ⟨h1, rfl⟩⟩)) hO
    · exact absurd (hc.symm.trans h) (by decide)
    · exact absurd (hc.symm.trans h) (by decide)
    · exact absurd (hc.symm.trans h) (by decide)
    · exact absurd (hc.symm.trans h) (by decide)
  · have hc := of_decide_eq_false hc
    refine vb_if1 (vt_eqS (v_name 1 rfl) v_str) (fun hc2 => ?_) (fun hc2 => ?_)
    · have hc2 := of_decide_eq_true hc2
      rcases hR with ⟨h, _⟩ | ⟨_, h1, rfl⟩ | ⟨_, h1, h2, rfl⟩ | ⟨h, _⟩ | ⟨h, _⟩
      · exact absurd h hc
      · exact vb_retX (x_meth inW wishF M.Ma hr M.LG.c (vv_name 0 rfl) hp.hg (va_d (v_name 2 rfl) va_nil) (show F53a c _ _ (.exc ⟨c.T, none⟩) from ⟨g, hh, k, z, mine, theirs, ml, tl, a, rfl, hp, hz, .inl ⟨h1, rfl⟩⟩)) hO
      · exact vb_retX (x_meth inW wishF M.Ma hr M.LG.c (vv_name 0 rfl) hp.hg (va_d (v_name 2 rfl) va_nil) (show F53a c _ _ (.exc (xcard c.C false a)) from ⟨g, hh, k, z, mine, theirs, ml, tl, a, rfl, hp, hz, .inr (.inl ⟨h1, h2, rfl⟩)⟩)) hO
      · exact absurd (hc2.symm.trans h) (by decide)
      · exact absurd (hc2.symm.trans h) (by decide)
    · have hc2 := of_decide_eq_false hc2
      have hx : F53s c (.v (.ref g) :: [.d (.int a), .d (.int b)]) Φ [g, hh] (.exc x) := ⟨g, hh, k, z, mine, theirs, ml, tl, a, b, rfl, hp, ok, hz, hne, rfl, by
        rcases hR with ⟨h, _⟩ | ⟨h, _⟩ | ⟨h, _⟩ | ⟨_, h1, rfl⟩ | ⟨_, h1, h2, rfl⟩
        · exact absurd h hc
        · exact absurd h hc2
        · exact absurd h hc2
        · exact .inl ⟨h1, rfl⟩
        · exact .inr (.inl ⟨h1, h2, rfl⟩)⟩
      exact vb_retX (x_methM (S := [g, hh]) inW wishF M.Ms hr M.LG.c (vv_name 0 rfl) hp.hg (fun G H h a ha => by
        rcases List.mem_cons.mp ha with rfl | ha
        · exact (hp.hg G H h).1
        · rw [List.mem_singleton.mp ha]
          exact (hp.hO G H h).1) (va_d (v_name 2 rfl) (va_d (v_name 3 rfl) va_nil)) hx) hO
theorem fn75 {W : Wd} {c : Cs} {f : Addr} {fd : FuncData} (M : GM W c) (D : FunP W "_law_call" s75 [] f fd) (hm : W.mg "_law_call" = some (.ref f)) : Fn W "_law_call" 12 P75 [] (F75 c) :=
  fn_mk D hm S75 (b75 M) fun _ _ _ _ _ _ us hl => match us, hl with | [_, _, _, _], _ => rfl
/-! ### _law_try -/
abbrev s76 : Stmt := top 76
abbrev N76 : List Str := ["_law_guide", "_law_what", "_law_a", "_law_b", "e"]
abbrev T76a : List Str := ["BadBounds", "BadHands", "BadPairing", "BadPlace", "BadSchedule", "BadText", "BadWord"]
abbrev T76b : List Str := ["Contradiction", "DuplicateName", "Unreachable", "UnknownName"]
/-- what _law_try says of it -/
def trD (c : Cs) (x : Xn) : PyData := match x.fs with
  | none => .tuple [.str "OutOfTurn"]
  | some fs => .tuple (.str "BadCard" :: fs.map fun f => match f.2 with
    | .str s => .str s
    | .int i => .int i
    | _ => .none)
theorem trD_card (c : Cs) (b : Bool) (i : Int) : trD c (xcard c.C b i) = .tuple [.str "BadCard", .str (sideS b), .int i] := rfl
def F76 (c : Cs) : FR := fun ss Φ o => ∃ (g : Addr) (what : Str) (a b : Int) (x : Xn), ss = [.v (.ref g), .d (.str what), .d (.int a), .d (.int b)] ∧ Refu c Φ g what a b x ∧ o = .val (trD c x)
theorem S76 : FnScope N76 P75 (defScope s76) := ⟨rfl, rfl, rfl, by decide +kernel, rfl, by decide +kernel, by decide +kernel⟩
theorem refu_x {c : Cs} {Φ : As} {g : Addr} {what : Str} {a b : Int} {x : Xn} (h : Refu c Φ g what a b x) : x = ⟨c.T, none⟩ ∨ ∃ s i, x = xcard c.C s i := by
  obtain ⟨_, _, _, _, _, _, _, _, _, _, _, h⟩ := h
  rcases h with ⟨_, _, h⟩ | ⟨_, _, h⟩ | ⟨_, _, _, h⟩ | ⟨_, _, h⟩ | ⟨_, _, _, h⟩
  · exact .inl h
  · exact .inl h
  · exact .inr ⟨_, _, h⟩
  · exact .inr ⟨_, _, h⟩
  · exact .inr ⟨_, _, h⟩
theorem b76 {W : Wd} {c : Cs} {ca : Str → Addr} (B : Bl W.mg) (F : EF W ca) (hT : c.T = ca "OutOfTurn") (hC : c.C = ca "BadCard") (C75 : Fn W "_law_call" 12 P75 [] (F75 c)) (S60 : FnS W "_law_is_int" ["_law_x"] F60) : Body W 12 N76 "_law_try" s76 4 (F76 c) := by
  intro f cdv A outer s H G Q E ss Φ o hr hF hO
  obtain ⟨g, what, a, b, x, rfl, hR, rfl⟩ := hF
  have hroom : ∀ (aa : Addr) (pn : List (Addr × Obj)), L2H.RoomH 1 ((cxF W N76 "_law_try" (defScope s76) f cdv A outer s H E).suite aa pn).A := fun aa pn => ⟨by have := hr.dp; show (A.deeper (envOfC "_law_try" (defScope s76) s.heap.objs.size f cdv)).depth + 3 * 1 + 5 < _; omega, by have := hr.un; show (A.deeper (envOfC "_law_try" (defScope s76) s.heap.objs.size f cdv)).units + 16 * 1 + 200 < _; omega⟩
  have hx := refu_x hR
  have hm : PySem.W.exmOne W.K (.ref x.C) (.ref (ca "ClimbrowError")) = some true := by
    rcases hx with rfl | ⟨s, i, rfl⟩
    · show PySem.W.exmOne W.K (.ref c.T) _ = _
      rw [hT]
      exact F.m "OutOfTurn" (by decide)
    · show PySem.W.exmOne W.K (.ref c.C) _ = _
      rw [hC]
      exact F.m "BadCard" (by decide)
  refine vb_tryX (z := x) (i := 4) (cE := ca "ClimbrowError") (Wout := fun cls d _ H => E cls d H) (fun a => [.no, .no, .no, .no, .v (.ref a)]) rfl rfl S76.nd rfl rfl ⟨rfl, by decide, .inl (F.g _ (by decide))⟩ takesF hm (fun pn xe E' w => x_call ⟨rfl, rfl, rfl, rfl, rfl⟩ w C75 hr (va_v (vv_name 0 rfl) (va_d (v_name 1 rfl) (va_d (v_name 2 rfl) (va_d (v_name 3 rfl) va_nil)))) ⟨g, what, a, b, x, rfl, hR, rfl⟩) (fun aa oe od pn G2 H2 hz hf he D2 hD2 => ?_)
  have hO2 : Rt G2 H2 D2.rt (trD c x) := by
    rw [hD2]
    exact Rt.ext hO he
  have hxf : ∀ G H, (As.xf x od).p G H → XOk x od H := fun _ _ h => h
  have g : ∀ y ∈ exN, W.mg y = some (.ref (ca y)) := F.g
  rcases hx with rfl | ⟨sd, i, rfl⟩
  · have hz : L2N.Zn (.ref (ca "OutOfTurn")) od oe := by
      rw [← hT]
      exact hz
    have X0 : ExcC W.K (ca "OutOfTurn") := F.ex _ (by decide)
    refine vb_if1 (c := false) (vt_val (v_isET (z := ⟨c.T, none⟩) (cs := T76a.map ca) X0 hz hf B (vv_name 4 rfl) hxf (va_v (vv_cls (g _ (by decide))) (va_v (vv_cls (g _ (by decide))) (va_v (vv_cls (g _ (by decide))) (va_v (vv_cls (g _ (by decide))) (va_v (vv_cls (g _ (by decide))) (va_v (vv_cls (g _ (by decide))) (va_v (vv_cls (g _ (by decide))) va_nil)))))))
      (by rw [List.map_map]; exact F.any (by decide) _ (by decide)))) (fun h => by cases h) (fun _ => ?_)
    refine vb_if1 (c := false) (VW.vt (vw_or (c := false) (d := false) (vt_val (v_isET (z := ⟨c.T, none⟩) (cs := T76b.map ca) X0 hz hf B (vv_name 4 rfl) hxf (va_v (vv_cls (g _ (by decide))) (va_v (vv_cls (g _ (by decide))) (va_v (vv_cls (g _ (by decide))) (va_v (vv_cls (g _ (by decide))) va_nil))))
      (by rw [List.map_map]; exact F.any (by decide) _ (by decide)))) (fun _ => vw_or1 (vt_not (c := true) (vt_val (v_isVE (z := ⟨c.T, none⟩) X0 hz hf B (vv_name 4 rfl) hxf (F.ve _ (by decide)))))))) (fun h => by cases h) (fun _ => ?_)
    refine vb_if1 (c := false) (VW.vt (vw_and (c := false) (d := false) (vt_val (v_isE (z := ⟨c.T, none⟩) X0 hz hf B (vv_name 4 rfl) hxf (g "BadCard" (by decide)) (F.is _ (by decide) "BadCard" (by decide)))) (fun h => by cases h))) (fun h => by cases h) (fun _ => ?_)
    refine vb_if1 (c := true) (VW.vt (vw_and (c := true) (d := true) (vt_val (v_isE (z := ⟨c.T, none⟩) X0 hz hf B (vv_name 4 rfl) hxf (g "OutOfTurn" (by decide)) (F.is _ (by decide) "OutOfTurn" (by decide)))) (fun _ => vw_and1 (vt_not (c := false) (vt_val (v_isE (z := ⟨c.T, none⟩) X0 hz hf B (vv_name 4 rfl) hxf (g "BadCard" (by decide)) (F.is _ (by decide) "BadCard" (by decide)))))))) (fun _ => ?_) (fun h => by cases h)
    exact vb_ret (v_tup (ds := [.str "OutOfTurn"]) (va_d v_str va_nil)) hO2
  · have hz : L2N.Zn (.ref (ca "BadCard")) od oe := by
      rw [← hC]
      exact hz
    have X0 : ExcC W.K (ca "BadCard") := F.ex _ (by decide)
    refine vb_if1 (c := false) (vt_val (v_isET (z := xcard c.C sd i) (cs := T76a.map ca) X0 hz hf B (vv_name 4 rfl) hxf (va_v (vv_cls (g _ (by decide))) (va_v (vv_cls (g _ (by decide))) (va_v (vv_cls (g _ (by decide))) (va_v (vv_cls (g _ (by decide))) (va_v (vv_cls (g _ (by decide))) (va_v (vv_cls (g _ (by decide))) (va_v (vv_cls (g _ (by decide))) va_nil)))))))
      (by rw [List.map_map]; exact F.any (by decide) _ (by decide)))) (fun h => by cases h) (fun _ => ?_)
    refine vb_if1 (c := false) (VW.vt (vw_or (c := false) (d := false) (vt_val (v_isET (z := xcard c.C sd i) (cs := T76b.map ca) X0 hz hf B (vv_name 4 rfl) hxf (va_v (vv_cls (g _ (by decide))) (va_v (vv_cls (g _ (by decide))) (va_v (vv_cls (g _ (by decide))) (va_v (vv_cls (g _ (by decide))) va_nil))))
      (by rw [List.map_map]; exact F.any (by decide) _ (by decide)))) (fun _ => vw_or1 (vt_not (c := true) (vt_val (v_isVE (z := xcard c.C sd i) X0 hz hf B (vv_name 4 rfl) hxf (F.ve _ (by decide)))))))) (fun h => by cases h) (fun _ => ?_)
    refine vb_if1 (c := true) (VW.vt (vw_and (c := true) (d := true) (vt_val (v_isE (z := xcard c.C sd i) X0 hz hf B (vv_name 4 rfl) hxf (g "BadCard" (by decide)) (F.is _ (by decide) "BadCard" (by decide)))) (fun _ => vw_and (c := true) (d := true) (vt_not (c := false) (vt_val (v_isE (z := xcard c.C sd i) X0 hz hf B (vv_name 4 rfl) hxf (g "OutOfTurn" (by decide)) (F.is _ (by decide) "OutOfTurn" (by decide))))) (fun _ => vw_and1 (vt_val (v_callS (d := .bool true) (q := (aa, oe)) ⟨rfl, rfl, rfl, rfl, rfl⟩ S60 (hroom _ _) List.mem_cons_self (va_d (v_xf (z := xcard c.C sd i) (d := .int i) (F.xf _ (by decide)) (F.no ("BadCard", "index") (by decide)) hz hf (vv_name 4 rfl) hxf rfl rfl) va_nil) ⟨i, rfl, rfl⟩)))))) (fun _ => ?_) (fun h => by cases h)
    exact vb_ret (v_tup (ds := [.str "BadCard", .str (sideS sd), .int i]) (va_d v_str (va_d (v_xf (z := xcard c.C sd i) (d := .str (sideS sd)) (F.xf _ (by decide)) (F.no ("BadCard", "side") (by decide)) hz hf (vv_name 4 rfl) hxf rfl rfl) (va_d (v_xf (z := xcard c.C sd i) (d := .int i) (F.xf _ (by decide)) (F.no ("BadCard", "index") (by decide)) hz hf (vv_name 4 rfl) hxf rfl rfl) va_nil)))) hO2
theorem fn76 {W : Wd} {c : Cs} {ca : Str → Addr} {f : Addr} {fd : FuncData} (B : Bl W.mg) (F : EF W ca) (hT : c.T = ca "OutOfTurn") (hC : c.C = ca "BadCard") (C75 : Fn W "_law_call" 12 P75 [] (F75 c)) (S60 : FnS W "_law_is_int" ["_law_x"] F60) (D : FunP W "_law_try" s76 [] f fd) (hm : W.mg "_law_try" = some (.ref f)) : Fn W "_law_try" 13 P75 [] (F76 c) :=
  fn_mk D hm S76 (b76 B F hT hC C75 S60) fun _ _ _ _ _ _ us hl => match us, hl with | [_, _, _, _], _ => rfl
end K43
namespace K43
open PySem PySem.Spec PyProof.Rows L2 HotX
/-! ### lists walked while an exception is handled -/
section
variable {prog : Program} {w : World} {A : Around} {E : Value → Shared → Prop} {s : Shared}
/-- a list's iterator at its end: StopIteration is made and taken -/
theorem list_end_hot {it l x1 : Addr} {i : Nat} {items : Array Value} {Q : Option Value → Shared → Prop} (hot : HotAt A x1 s.heap) (hx1 : x1 ≠ it)
    (hit : s.heap.IsListIter it l i) (hl : s.heap.IsList l items) (hx : items[i]? = none)
    (hQ : ∀ h', Heap.ExtBut it s.heap h' → Q none { s with heap := h' }) : wpAny (model prog w) A (pyNext (.ref it)) Q E s := by
  obtain ⟨o, ho, hc, hd⟩ := id hit
  obtain ⟨ol, hol, _, nl, hdl⟩ := hl
  obtain ⟨hh, o1, vs1, h1, d1, c1⟩ := hot
  unfold pyNext
  refine wpAny_bind (wpAny_attempt (wpAny_callSpecial?_slot (name := Str.ofString "__next__") hit.typeIs slot_listiter_next
    (wpAny_call_entry slot_listiter_next hit.typeIs entry_listiter_next ?_ (args_listiter_next _))))
  show wpAny _ _ (field (.ref it) 0 >>= _) _ _ s
  refine wpAny_bind (wpAny_field ho hd (x := .ref l) rfl ?_)
  show wpAny _ _ (if (Value.ref l == Value.none) = true then _ else _) _ _ s
  rw [if_neg (show ¬ ((Value.ref l == Value.none) = true) from Bool.false_ne_true)]
  show wpAny _ _ (field (.ref it) 1 >>= _) _ _ s
  refine wpAny_bind (wpAny_field ho hd (x := .int i 0) rfl ?_)
  show wpAny _ _ (seqItems? (.ref l) >>= _) _ _ s
  refine wpAny_bind (wpAny_seqItems hol hdl ?_)
  simp only [Int.toNat_natCast, hx]
  refine wpAny_bind (wpAny_rule (wpAny_bind (wpAny_setField ho hd (by simp) ?_)))
  show wpAny _ _ (newExc (.type "StopIteration") [] >>= _) _ _ _
  refine wpAny_bind ?_
  simp only [newExc, newTuple]
  refine wpAny_bind (wpAny_newObj_type ?_ (by size_fits))
  refine wpAny_bind (m := firstArgMember _ _) (wpAny_of_eq (a := Value.none) (by first | rfl | (simp only [firstArgMember]; rfl)) ?_)
  refine wpAny_newObj_type ?_ (by size_fits)
  have k1 : ∀ b u, b ≠ it → s.heap.get? b = some u → ((s.heap.update it (Obj.mapFields (·.setIfInBounds 0 .none))).get? b = some u) := fun b u hb e => (Heap.get?_update_other _ _ (Ne.symm hb)).trans e
  refine raiseNew_hot (x1 := x1) ⟨hh, o1, vs1, Heap.get?_push_of_some _ (Heap.get?_push_of_some _ (k1 _ _ hx1 h1)), d1, c1⟩ (Nat.ne_of_lt (Heap.lt_size (Heap.get?_push_of_some _ (k1 _ _ hx1 h1)))) (Heap.get?_push_size _ rfl) rfl (by first | (simp; done) | (simp; omega) | (simp only [Array.size_append]; simp; omega)) ?_
  refine wpAny_bind (wpAny_isInstance (T := "StopIteration") (b := true) ⟨_, Heap.get?_update_self _ (Heap.get?_push_size _ rfl) rfl, rfl⟩ isSubtype_stop ?_)
  refine wpAny_pure (hQ _ fun b u hb e => ?_)
  have e2 := Heap.get?_push_of_some { cls := .type "tuple", dict := none, data := .seq #[] } (k1 b u hb e)
  rw [Heap.get?_update_other _ _ (Nat.ne_of_gt (Heap.lt_size (Heap.get?_push_of_some _ (k1 b u hb e))))]
  exact Heap.get?_push_of_some _ (Heap.get?_push_of_some _ (k1 b u hb e))
end
end K43
namespace K43
open PySem PySem.Spec PyProof.Rows L2 HotX
/-- the context holds the handled exception, whose context is None -/
structure HotY (Y : Cx) (a : Addr) (oe : Obj) : Prop where
  pn : (a, oe) ∈ Y.pn
  hh : Y.A.handled = some (.ref a)
  c : ∃ vs, oe.data = .fields vs ∧ vs[2]? = some .none
theorem walks_hot {prog : Program} {w : World} {A : Around} {x1 : Addr} {o1 : Obj} (hh : A.handled = some (.ref x1)) (c : ∃ vs, o1.data = .fields vs ∧ vs[2]? = some .none) (I ax : Addr) (hne : ax ≠ I) (hx : x1 ≠ I) (items : Array Value) :
    Walks prog w A I [I, ax, x1] [I] items.size (fun i v => items[i]? = some v) (fun i h => (h.IsListIter I ax i ∧ h.IsList ax items) ∧ h.get? x1 = some o1) where
  sub := fun b hb => by simp at hb; simp [hb]
  frame := fun _ _ _ st hk => ⟨⟨st.1.1.at fun o e => hk I (by simp) o e, st.1.2.at fun o e => hk ax (by simp) o e⟩, hk x1 (by simp) _ st.2⟩
  item := fun i s Q E hi st hQ => by
    refine wpAny_pyNext_list_item st.1.1 st.1.2 (x := items[i]) (by simp [hi]) fun h' hit' hs' => ?_
    exact hQ _ h' s.toks (by simp [hi]) ⟨⟨hit', st.1.2.extBut hs'.extBut hne⟩, hs'.extBut x1 _ hx st.2⟩ fun b o hb e => hs'.extBut b o (fun h => hb (by simp [h])) e
  done := fun s Q E st hQ => by
    obtain ⟨vs, d1, c1⟩ := c
    exact list_end_hot ⟨hh, o1, vs, st.2, d1, c1⟩ hx st.1.1 st.1.2 (by simp) fun h' he' => hQ h' s.toks fun b o hb e => he' b o (fun h => hb (by simp [h])) e
  self := fun _ _ _ _ st hQ => wpAny_pyIter_listiter st.1.1 hQ
/-- all(a list of bools) there -/
theorem cr_allH {Y : Cx} {a : Addr} {oe : Obj} (hY : HotY Y a oe) : CallR Y (.builtin "all") (rAll Y.K) := by
  intro pins s σ H vs us Q I r h
  obtain ⟨l, bs, rfl, hs, q⟩ := h
  obtain ⟨its, rv, hl, _⟩ := I.list hs
  rw [Vals.ref1 r]
  have hb := rv.bls
  have hp := (I.pin (a, oe) (List.mem_append_left _ hY.pn)).1
  refine call_all_walk (iter_any hl.isList fun s₂ e2 st hne => ?_)
  subst e2
  refine ⟨_, _, _, _, _, _, _, rfl, walks_hot (A := Y.A.in1) hY.hh hY.c _ l hne (Nat.ne_of_lt (Heap.lt_size hp)) its.toArray, ⟨st, Heap.get?_push_of_some _ hp⟩, truth_bools hb, fun h' tk hk => ?_⟩
  refine ⟨.bl _, H, I.kept fun b o eo => hk b o (fun hmem => ?_) (Heap.get?_push_of_some _ eo), ?_, q⟩
  · rcases List.mem_cons.mp hmem with e1 | hmem
    · exact absurd (e1 ▸ Heap.lt_size eo) (Nat.lt_irrefl _)
    · cases hmem
  · show Value.bool _ = Value.bool _
    rw [← L2.all_range, hb, List.size_toArray, List.length_map]
end K43
namespace K43
open PySem PySem.Spec PyProof.Rows L2 HotX
theorem rp_bls {G : Hp} : ∀ ns : List Int, RpAll G (List.replicate ns.length (V.bl true)) (ns.map fun _ => PyData.bool true)
  | [] => .nil
  | _ :: ns => .cons (.bl true) (rp_bls ns)
/-- [f(x) for x in a list of ints], f a def that says True of each int, where an exception is handled -/
theorem v_lcS {W : Wd} {Y : Cx} {a : Addr} {oe : Obj} {Φ : As} {ρ : List Sl} {fx x p1 : Str} {F : FR} {it : Expr} {ns : List Int} {scope : Scope} {px q1 q2 q3 pos : Pos} (j : Nat) (hY : HotY Y a oe) (hW : InW W Y) (C : FnS W fx [p1] F) (hr : L2H.RoomH 1 Y.A) (hF : ∀ i Φ, F [.d (.int i)] Φ (.val (.bool true)))
    (hN : Y.N.Nodup) (hi : VE Y Φ ρ it (dL ns)) (hl : ns.length ≤ 1000) (ok : blkC Y.N Y.env.scope scope [(x, j)] = true)
    (hg : ∀ i, InBlk Y scope fun Z => VG Z (.Name x px) (.int i) [j] (fun ρ => ρ.set j (.d (.int i))))
    (he : ∀ i, InBlk Y scope fun Z => VA Z Φ ((wipeS ρ [j]).set j (.d (.int i))) [.Name x q2] [.d (.int i)])
    (hgl : ∀ (s : Shared) (H : Hp) (C : Addr) (cl : List (Str × Addr)) (fp : List Addr), Gl (Y.blk s H scope (compEnvC scope cl C Y.env) fp) fx) (hdb : (fx == ("__debug__" : Str)) = false)
    (hst : ∀ env : Env, starEach [.Name x q2] env = (false, eval (.Name x q2) env) :: starEach [] env) (hpl : ∀ env : Env, (backTo q3 (starEach [] env)).any (·.1) = false)
    (hs : ∀ x, foldedSetIterable it Y.env x = pure x := by intro _; rfl) :
    VE Y Φ ρ (.ListComp (.Call (.Name fx q1) [.Name x q2] [] q3) [⟨.Name x px, it, [], 0⟩] scope pos) (.list (ns.map fun _ => .bool true)) := fun σ G H s r φ Q k pins s0 I => by
  have okB := blkOk_by ok
  have hfree : ∀ y ∈ scope.names, y.2 = .free → ∃ c, Y.env.cells.lookup y.1 = some c := fun y hy e => by
    rcases okB.free y hy e with q | q
    · exact I.ok.has _ (.inl q)
    · exact I.ok.has _ (.inr q)
  obtain ⟨ff, fd, fm, fkp, fbn, fgo⟩ := C.ex
  rw [eval_ListComp]
  refine wpAny_comprehension_free (use := none) rfl hs (closure_ok hfree) okB.kind (fun y hy e => by rw [okB.uniq y hy, e]) (thn (hi σ G H s r φ (fun v H1 => ∃ G1, Ext G H G1 H1 ∧ Rp G1 v (dL ns)) (fun v G1 H1 e1 rv => ⟨G1, e1, rv⟩) pins s0 I) fun xv s1 hx => ?_)
  obtain ⟨v, H1, I1, rv, G1, e1, rp⟩ := hx
  cases rp with
  | @lst l xs _ h1 k1 =>
  cases rv
  obtain ⟨its, rvs, pl, hz⟩ := I1.list (SqL.of (e1.gh _ _ h1))
  refine wpAny_pyIter_list pl.isList ?_
  refine wpAny_newObj_type (newEnv_comp ?_) (by show 0 ≤ sizeLine; decide)
  generalize hitr : s1.heap.objs.size = itr
  have I2 : Inv Y pins σ H1 { s1 with heap := s1.heap.push { cls := .type "list_iterator", data := .fields #[.ref l, .int 0 0] } } := I1.kept (t' := s1.toks) fun b o e => Heap.get?_push_of_some _ e
  have st2 : (s1.heap.push { cls := .type "list_iterator", data := .fields #[.ref l, .int 0 0] }).IsListIter itr l 0 := ⟨_, by rw [← hitr]; exact Heap.get?_push_size _ rfl, rfl, rfl⟩
  have f2 : FpOk Y pins H1 itr := I1.fpOk (Nat.le_of_eq hitr) (I1.hok.fresh (Nat.le_of_eq hitr))
  have lt2 : itr < (s1.heap.push { cls := .type "list_iterator", data := .fields #[.ref l, .int 0 0] }).objs.size := by rw [Heap.size_push, hitr]; exact Nat.lt_succ_self _
  generalize hs2 : ({ s1 with heap := s1.heap.push { cls := .type "list_iterator", data := .fields #[.ref l, .int 0 0] } } : Shared) = s2 at I2
  have h2 : s1.heap.push { cls := .type "list_iterator", data := .fields #[.ref l, .int 0 0] } = s2.heap := by rw [← hs2]
  rw [h2] at st2 lt2
  generalize hD : s2.heap.objs.size = D
  have hDn : H1 D = none := I2.hok.fresh (Nat.le_of_eq hD)
  have hDG : G1 D = none := e1.gh.free hDn
  generalize hs3 : ({ s2 with heap := s2.heap.push { cls := .type "list", data := .seq ([] : List Value).toArray } } : Shared) = s3
  have I3 : Inv Y pins σ (upd H1 D (.lst [])) s3 := by
    rw [← hs3]
    refine I2.laid (t' := s2.toks) (fun b o e => Heap.get?_push_of_some _ e) (Nat.le_of_eq hD) ⟨Nat.zero_le _, [], 0, .nil, ?_⟩
    rw [← hD]
    exact Heap.get?_push_size _ rfl
  have h3 : s3.heap = s2.heap.push { cls := .type "list", data := .seq ([] : List Value).toArray } := by rw [← hs3]
  have f3 : FpOk Y pins (upd H1 D (.lst [])) itr ∧ itr < s3.heap.objs.size := by
    refine ⟨⟨?_, f2.2⟩, by rw [h3, Heap.size_push]; exact Nat.lt_succ_of_lt lt2⟩
    rw [upd_ne (by rw [← hD]; exact Nat.ne_of_lt lt2)]
    exact f2.1
  have st3 : s3.heap.IsListIter itr l 0 := by
    rw [h3]
    exact st2.at fun o e => Heap.get?_push_of_some _ e
  have f3' : ∀ b ∈ [itr], FpOk Y pins (upd H1 D (.lst [])) b ∧ b < s3.heap.objs.size := fun b hb => by
    rw [List.mem_singleton.mp hb]
    exact f3
  have I4 := block_start I3 okB hN f3'
  have e3 : Ext G H G1 (upd H1 D (.lst [])) := e1.trans (Ext.own e1.gh hDn)
  have pA := (I3.pin (a, oe) (List.mem_append_left _ hY.pn))
  have nDl : D ≠ l := fun e => by
    rw [e, e1.gh _ _ h1] at hDn
    cases hDn
  show codeAny _ _ (.compStart (.ListComp (.Call (.Name fx q1) [.Name x q2] [] q3) [⟨.Name x px, it, [], 0⟩] scope pos) 0 (.ref itr) (.ref D) (compEnvC scope (cellsFrom (s3.heap.objs.size + 1) scope.names (cloFrom Y.env.cells scope.names [])) s3.heap.objs.size Y.env)) (compPost (model Y.prog Y.w) Y.A Y.xe none (EP Y pins σ Q) (.ref D) s3.heap.objs.size) { s3 with heap := pushCells (s3.heap.push { cls := .type "dict", data := .dict #[] }) scope.names }
  generalize hce : compEnvC scope (cellsFrom (s3.heap.objs.size + 1) scope.names (cloFrom Y.env.cells scope.names [])) s3.heap.objs.size Y.env = ce at I4 ⊢
  have cL : ce.locals = s3.heap.objs.size := by subst hce; rfl
  have nfp : (upd H1 D (.lst [])) itr = none := f3.1.1
  generalize hH3 : upd H1 D (.lst []) = H3 at I3 I4 nfp f3 e3 pA
  generalize hs4 : ({ s3 with heap := pushCells (s3.heap.push { cls := .type "dict", data := .dict #[] }) scope.names } : Shared) = s4 at I4 ⊢
  have st4 : s4.heap.IsListIter itr l 0 := by
    rw [← hs4]
    exact st3.at fun o e => pushCells_keeps _ _ _ _ (Heap.get?_push_of_some _ e)
  have stat : ∀ {σ' : L2.St} {H' : Hp} {s' : Shared}, Inv (Y.blk s3 H3 scope ce [itr]) [] σ' H' s' → H' itr = none → ∀ b ∈ [itr], FpOk (Y.blk s3 H3 scope ce [itr]) [] H' b := fun {σ' H' s'} I' hn b hb => by
    have eb := List.mem_singleton.mp hb
    rw [eb]
    exact ⟨hn, (I'.ok.exf itr (by simp)).1, I'.ok.exfs itr (by simp), .inl (by simp), fun x c e => (I'.ok.exf itr (by simp)).2 x c e, fun p hp => absurd (show p ∈ ([] : List (Addr × Obj)) ++ [] from hp) (by simp)⟩
  have nia : a ≠ itr := fun e => by
    have h5 := f3.1.2.2.2.2.2 (a, oe) (List.mem_append_left _ hY.pn)
    exact h5 e
  have nas : a ∉ (Y.blk s3 H3 scope ce [itr]).fs := fun hm => (List.mem_cons.mp (I3.stkSub a hm)).elim pA.2.2.1 pA.2.2.2.1
  have loop : codeAny (model Y.prog Y.w) Y.A (.compLoop (.ListComp (.Call (.Name fx q1) [.Name x q2] [] q3) [⟨.Name x px, it, [], 0⟩] scope pos) 0 (.ref itr) (.ref D) ce) (compPost (model Y.prog Y.w) Y.A Y.xe none (EP Y pins σ Q) (.ref D) s3.heap.objs.size) s4 := by
    refine compLoop_any (fun n s' => ∃ i H' G', Inv (Y.blk s3 H3 scope ce [itr]) [] (wipe σ [j]) H' s' ∧ s'.heap.IsListIter itr l i ∧ H' itr = none ∧ Same G1 G' ∧ Ext G H G' H' ∧ G' D = none ∧ H' D = some (.lst (List.replicate i (.bl true))) ∧ i ≤ ns.length ∧ n = ns.length - i) ?_ (ns.length - 0) ⟨0, H3, G1, I4, st4, nfp, Same.refl _, e3, hDG, by rw [← hH3]; exact upd_same, Nat.zero_le _, rfl⟩
    rintro n s5 ⟨i, H5, G5, I5, st5, n5, m5, z5, gD, hD5, hi5, rfl⟩
    have pA5 : s5.heap.get? a = some oe := I5.base.keep a oe pA.1 pA.2.1 nas (by intro hm; exact nia (List.mem_singleton.mp hm))
    obtain ⟨vs, d1, c1⟩ := hY.c
    have hot : HotAt Y.A a s5.heap := ⟨hY.hh, oe, vs, pA5, d1, c1⟩
    obtain ⟨its5, rv5, p5, hz5⟩ := I5.list (SqL.of (z5.gh _ _ (m5 _ _ h1)))
    obtain ⟨f0, f1, f2', f3', f4, f5⟩ := stat I5 n5 itr (by simp)
    have hlen : xs.length = ns.length := by
      rw [k1.len]
      exact List.length_map ..
    have hrl := rv5.length
    by_cases hlt : i < ns.length
    · obtain ⟨v, hv, rv1⟩ := k1.at (i := i) (d := .int ns[i]) (by unfold dI; rw [List.getElem?_map, List.getElem?_eq_getElem hlt]; rfl)
      cases rv1
      obtain ⟨u, hu, ru⟩ := rv5.get hv
      refine wpAny_pyNext_list_item st5 p5.isList (x := u) (by simpa using hu) fun h' st' sb => ?_
      have I6 : Inv (Y.blk s3 H3 scope ce [itr]) [] (wipe σ [j]) H5 { s5 with heap := h' } := I5.turned (t' := s5.toks) (fun b o hb e => (sb.2 b hb).trans e) f0 f1 f3' f4 f5
      obtain ⟨o, eo, co, do_⟩ := id st'
      refine go_of (s := { s5 with heap := h' }) eo co do_ (by decide) ?_
      have I7 := I6.pinned (fp := [itr]) (stat I6 n5) fun b hb => ⟨o, by rw [List.mem_singleton.mp hb]; exact eo, fun v z => by rw [do_] at z; cases z⟩
      have hgi := hg ns[i] s3 H3 s3.heap.objs.size (cellsFrom (s3.heap.objs.size + 1) scope.names (cloFrom Y.env.cells scope.names [])) [itr]
      have hei := he ns[i] s3 H3 s3.heap.objs.size (cellsFrom (s3.heap.objs.size + 1) scope.names (cloFrom Y.env.cells scope.names [])) [itr]
      have hgl' := hgl s3 H3 s3.heap.objs.size (cellsFrom (s3.heap.objs.size + 1) scope.names (cloFrom Y.env.cells scope.names [])) [itr]
      rw [hce] at hgi hei hgl'
      have r5 := (r.mono z5.gg).wipe [j]
      refine thnF (hgi (.int ns[i]) (wipe σ [j]) G5 H5 _ z5.gh (.int _) r5 (fun σ8 H8 => H8 = H5 ∧ SR G5 ((wipeS ρ [j]).set j (.d (.int ns[i]))) σ8 ∧ wipe σ8 [j] = wipe σ [j]) (fun σ8 r8 w8 => ⟨rfl, r8, by rw [w8 [j] (by simp)]; exact wipe_wipe σ [j]⟩) _ _ _ I7 ru) fun _ s8 h8 => ?_
      obtain ⟨σ8, H8, I8, rfl, r8, w8⟩ := h8
      rw [List.forIn_nil]
      refine wpAny_pure ?_
      rw [if_pos rfl]
      refine thnF (wpAny_Call_Name_kw (ld_glob I8 hgl' (by show Y.mg fx = _; rw [hW.hm]; exact fm) (PySem.W.callWith_K (h₀ := Y.base) I8.ok.mod.kin (by show PySem.W.keepIn Y.K _ = true; rw [hW.hK]; exact fkp) (thn ((wa (X := Y.blk s3 H3 scope ce [itr]) (es := [.Name x q2])).run q3 _ s8 σ8 H8 (fun vs H9 => spF 1 F vs H9 (fun v H10 => v = .bl true ∧ ∃ G10, Ext G5 H8 G10 H10) fun _ _ _ => False) I8 (hei σ8 G5 H8 z5.gh r8 (Φ.st s z5 φ) _ fun vs G9 H9 e9 k9 => ⟨G9, [.d (.int ns[i])], Φ, .val (.bool true), rfl, e9.gh, k9, Φ.st s (z5.trans e9) φ, hF _ _, fun v G10 H10 e10 k10 => by cases k10; exact ⟨rfl, G10, e9.trans e10⟩⟩)) fun us s9 ⟨vs, H9, I9, r9, q9⟩ => ⟨I9.kIn, run_S (X := Y.blk s3 H3 scope ce [itr]) (F := F) (ps := [p1]) (q := (itr, o)) ⟨hW.hP, hW.hw, hW.hK, hW.hm, hW.hb⟩ fbn fgo hr (List.mem_append_right _ (List.mem_append_right _ (mem_pinsAt (fp := [itr]) List.mem_cons_self eo))) I9 r9 q9⟩) (hst _) (hpl _)) hdb)) fun y s10 h10 => ?_
      obtain ⟨v10, H10, I10, r10, rfl, G10, e10⟩ := h10
      have neD : H8 D ≠ none := by rw [hD5]; simp
      have gD10 : G10 D = none := e10.ow D neD gD
      have hD10 : H10 D = some (.lst (List.replicate i (.bl true))) := e10.hh _ _ hD5
      refine app_ok (X := Y.blk s3 H3 scope ce [itr]) I10 hD10 (by rw [List.length_replicate, sizeLine_eq]; omega) r10 fun s11 I11 => ?_
      have pit := I11.pin (itr, o) (List.mem_append_right _ (List.mem_append_right _ (mem_pinsAt (fp := [itr]) List.mem_cons_self eo)))
      refine ⟨ns.length - (i + 1), by omega, i + 1, _, G10, (I11.unpinned (pins := [])).weak (by rw [← w8, wipe_length]) (fun jj v e => ?_), st'.at fun o2 e2 => by rw [eo] at e2; cases e2; exact pit.1, ?_, m5.trans e10.gg, (z5.trans e10).put (e1.hh.free hDn) gD10, gD10, ?_, hlt, rfl⟩
      · rw [← w8] at e
        exact (wipe_some e).1
      · exact pit.2.1
      · rw [upd_same, List.replicate_succ']
    · have e : i = ns.length := by omega
      subst e
      refine list_end_hot hot nia st5 p5.isList (by simp; omega) fun h' eb => ?_
      have I6 : Inv (Y.blk s3 H3 scope ce [itr]) [] (wipe σ [j]) H5 { s5 with heap := h' } := I5.turned (t' := s5.toks) (fun b o hb e => eb b o hb e) f0 f1 f3' f4 f5
      have I7 : Inv Y pins σ H5 { s5 with heap := h' } := I3.call' (ch := [itr]) I6.os I6.base I6.hok I6.bare fun b hb => by
        rw [List.mem_singleton.mp hb]
        exact ⟨f3.1.2.2.2.1, f3.1.2.1, f3.1.2.2.2.2.1, f3.1.2.2.2.2.2⟩
      have nC : H5 s3.heap.objs.size = none := by
        have z : H5 ce.locals = none := I6.free
        rw [cL] at z
        exact z
      obtain ⟨m, hn, _⟩ := I6.loc
      have hn : h'.Ns ce.locals m := hn
      rw [cL] at hn
      refine ⟨m, hn, fun h'' sb => ?_⟩
      obtain ⟨g0, g1, g2, g3, g4, g5⟩ := I3.fpOk (Nat.le_refl _) nC
      refine ⟨.ref D, H5, I7.turned (t' := s5.toks) (fun b o hb e => (sb.2 b hb).trans e) g0 g1 g3 g4 g5, rfl, ?_⟩
      have zD : Ext G H (upd G5 D (.lst (List.replicate ns.length (.bl true)))) H5 := z5.still (e1.hh.free hDn) gD hD5
      refine k _ (upd G5 D (.lst (List.replicate ns.length (.bl true)))) H5 zD (.lst upd_same (rp_bls ns))
  exact codeAny_compStart_list loop (wpAny_pyIter_listiter st4 loop)
end K43
namespace K43
open PySem PySem.Spec PyProof.Rows L2
section
variable {W : Wd} {X : Cx} {Φ : As} {ρ : List Sl} {Gm G0 H0 : Hp} {rest : List Stmt} {D : Ends}
/-- a try whose body makes an object and runs through -/
theorem vb_tryOk {x n : Str} {cE : Addr} {i : Nat} {e : Expr} {epos np pos pos' : Pos} {b₀ : Stmt} {suite : List Stmt} {Wout : WX} {K : Addr → Hp → As} (hs : X.stack = X.env :: X.outer) (hf : X.env.frame = some X.env.locals) (hN : X.N.Nodup) (hi : X.N[i]? = some n) (hln : X.env.kindOf n = some .local) (hc : Names X x (.ref cE)) (tk : L2N.Takes X Wout)
    (hb : ∀ (pn : List (Addr × Obj)) (xe : Value → Shared → Prop), VM (X.tr pn xe) Φ ρ e K) (k : VB X Gm G0 H0 rest Φ ρ D) (hsw : swapsWith e none epos.line X.env = pure false := by rfl) :
    VB X Gm G0 H0 (.Try [.Expr e epos] [.ExceptHandler (some (.Name x np)) (some n) (b₀ :: suite) pos'] [] [] pos :: rest) Φ ρ D := fun σ G H m zz r f =>
  wb_cons (ws_of (L2N.ps_try_as (tb := fun W D σ H => ∀ pn xe, L2N.Takes (X.tr pn xe) W → PassesOwn (model X.prog X.w) X.A X.env xe → WB (X.tr pn xe) [.Expr e epos] D σ H)
      (ts := fun a cls d D σ H => ∀ oe pn, L2N.Zn cls d oe → (∃ vs, oe.data = .fields vs) → WB (X.suite a ((a, oe) :: pn)) (b₀ :: suite) D σ H) hs hf hN hi hln hc tk
      (fun W pn xe t po => ⟨fun pins s σ H D I h => h pn xe t po pins s I⟩) (fun a oe cls d pn h1 h2 => ⟨fun pins s σ H D I h => h oe pn h1 h2 pins s I⟩)) (fun pn xe t po =>
    wb_cons (ws_of (ps_expr we hsw) (hb pn xe σ G H zz.gh r f _ fun l Hc G2 H2 hc e2 hl kx => wb_of pss_nil (k σ G2 H2 (m.trans e2.gg) (zz.trans e2) (r.mono e2.gg) (Φ.st zz.gh e2 f))))))
end
/-! ### _law_make -/
abbrev s68 : Stmt := top 68
abbrev P68 : List Str := ["_law_mine", "_law_theirs", "_law_word_here", "_law_wanted"]
abbrev N68 : List Str := ["_law_mine", "_law_theirs", "_law_word_here", "_law_wanted", "e", "_law_kinds", "_law_x"]
abbrev T68a : List Str := ["BadBounds", "BadCard", "BadPairing", "BadPlace", "BadSchedule", "BadText", "OutOfTurn"]
abbrev T68b : List Str := ["Contradiction", "DuplicateName", "UnknownName"]
abbrev ex4 : List Str := ["BadHands", "BadWord", "Unsteady", "Unreachable"]
def suite68 : List Stmt := match defBody s68 with
  | .Try _ [.ExceptHandler _ _ b _] _ _ _ :: _ => b
  | _ => []
/-- what making a guide gives -/
def Made68 (mine theirs : List Int) (z : List Nat) (k : Int) (r : PyData) : Prop :=
  (mine.length ≠ theirs.length ∧ r = .tuple [.str "BadHands", .int mine.length, .int theirs.length]) ∨
  (mine.length = theirs.length ∧ ((∃ i : Nat, WordBad z mine.length i ∧ r = .tuple [.str "BadWord", .int i]) ∨ (AllGd z ∧ z.length = mine.length ∧ ((∃ p : Nat, UnP z.dropLast p ∧ r = .tuple [.str "Unsteady", .int p]) ∨ (StP2 z.dropLast ∧
    ((¬ (valO (rowOf mine theirs) z false ≤ k ∧ k ≤ valO (rowOf mine theirs) z true) ∧ r = .tuple [.str "Unreachable", .int k, .int (valO (rowOf mine theirs) z false), .int (valO (rowOf mine theirs) z true)]) ∨
      ((valO (rowOf mine theirs) z false ≤ k ∧ k ≤ valO (rowOf mine theirs) z true) ∧ r = .tuple [.str "done"])))))))
def F68 : FR := fun ss _ o => ∃ (mine theirs : List Int) (z : List Nat) (k : Int) (r : PyData), ss = [.d (dL mine), .d (dL theirs), .d (.str ⟨z.toArray⟩), .d (.int k)] ∧ mine.length ≤ 1000 ∧ theirs.length ≤ 1000 ∧ z.length ≤ 1000 ∧ Made68 mine theirs z k r ∧ o = .val r
theorem S68 : FnScope N68 P68 (defScope s68) := ⟨rfl, rfl, rfl, by decide +kernel, rfl, by decide +kernel, by decide +kernel⟩
section
variable {W : Wd} {ca : Str → Addr} {c : Cs} {f : Addr} {cdv : Value} {A : Around} {outer : List Env} {s : Shared} {H : Hp} {E : XK}
/-- the suite's first three statements -/
theorem pre68 (B : Bl W.mg) (F : EF W ca) {nm : Str} (hnm : nm ∈ ex4) {z : Xn} (hC : z.C = ca nm) {aa : Addr} {oe : Obj} {od : Option Addr} {pn : List (Addr × Obj)} {G2 H2 : Hp} (hz : L2N.Zn (.ref z.C) od oe) (hf : ∃ vs, oe.data = .fields vs) {D2 : Ends}
    (k : VB ((cxF W N68 "_law_make" (defScope s68) f cdv A outer s H E).suite aa ((aa, oe) :: pn)) G2 G2 H2 (suite68.drop 3) (As.xf z od) [.no, .no, .no, .no, .v (.ref aa), .d (.list [.bool (subE nm "BadHands"), .bool (subE nm "BadWord"), .bool (subE nm "Unsteady"), .bool (subE nm "Unreachable")]), .no] D2) :
    VB ((cxF W N68 "_law_make" (defScope s68) f cdv A outer s H E).suite aa ((aa, oe) :: pn)) G2 G2 H2 suite68 (As.xf z od) [.no, .no, .no, .no, .v (.ref aa), .no, .no] D2 := by
  have hx : nm ∈ exS := (show ∀ x ∈ ex4, x ∈ exS by decide) nm hnm
  have h1 : T68a.any (subE nm) = false := (show ∀ x ∈ ex4, T68a.any (subE x) = false by decide) nm hnm
  have h2 : T68b.any (subE nm) = false := (show ∀ x ∈ ex4, T68b.any (subE x) = false by decide) nm hnm
  have hz : L2N.Zn (.ref (ca nm)) od oe := by
    rw [← hC]
    exact hz
  have hxf : ∀ G H, (As.xf z od).p G H → XOk z od H := fun _ _ h => h
  have g : ∀ y ∈ exN, W.mg y = some (.ref (ca y)) := F.g
  have X0 : ExcC W.K (ca nm) := F.ex _ hx
  refine vb_if1 (c := false) (vt_val (v_isET (z := z) (cs := T68a.map ca) X0 hz hf B (vv_name 4 rfl) hxf (va_v (vv_cls (g _ (by decide))) (va_v (vv_cls (g _ (by decide))) (va_v (vv_cls (g _ (by decide))) (va_v (vv_cls (g _ (by decide))) (va_v (vv_cls (g _ (by decide))) (va_v (vv_cls (g _ (by decide))) (va_v (vv_cls (g _ (by decide))) va_nil)))))))
    (by rw [List.map_map, ← h1]; exact F.any hx _ (by decide)))) (fun h => by cases h) (fun _ => ?_)
  refine vb_if1 (c := false) (VW.vt (vw_or (c := false) (d := false) (vt_val (v_isET (z := z) (cs := T68b.map ca) X0 hz hf B (vv_name 4 rfl) hxf (va_v (vv_cls (g _ (by decide))) (va_v (vv_cls (g _ (by decide))) (va_v (vv_cls (g _ (by decide))) va_nil)))
    (by rw [List.map_map, ← h2]; exact F.any hx _ (by decide)))) (fun _ => vw_or1 (vt_not (c := true) (vt_val (v_isVE (z := z) X0 hz hf B (vv_name 4 rfl) hxf (F.ve _ hx))))))) (fun h => by cases h) (fun _ => ?_)
  exact vb_set 5 (vn_lst (ds := [.bool (subE nm "BadHands"), .bool (subE nm "BadWord"), .bool (subE nm "Unsteady"), .bool (subE nm "Unreachable")])
    (va_d (v_isE (z := z) X0 hz hf B (vv_name 4 rfl) hxf (g "BadHands" (by decide)) (F.is _ hx "BadHands" (by decide))) (va_d (v_isE (z := z) X0 hz hf B (vv_name 4 rfl) hxf (g "BadWord" (by decide)) (F.is _ hx "BadWord" (by decide)))
      (va_d (v_isE (z := z) X0 hz hf B (vv_name 4 rfl) hxf (g "Unsteady" (by decide)) (F.is _ hx "Unsteady" (by decide))) (va_d (v_isE (z := z) X0 hz hf B (vv_name 4 rfl) hxf (g "Unreachable" (by decide)) (F.is _ hx "Unreachable" (by decide))) va_nil))))).ve S68.nd k
end
end K43
namespace K43
open PySem PySem.Spec PyProof.Rows L2
section
variable {X : Cx} {Φ : As} {ρ : List Sl} {a b : Expr} {pos : Pos}
/-- == of lists of bools -/
theorem vt_eqBs {x y : List Bool} (hu : X.A.units + 64 < cLine) (ha : VE X Φ ρ a (.list (x.map .bool))) (hb : VE X Φ ρ b (.list (y.map .bool))) (c : Bool) (hx : SeqAt.shaped (.list (x.map .bool)) = true := by rfl) (hy : SeqAt.shaped (.list (y.map .bool)) = true := by rfl) (h : PyData.eqv (.list (x.map .bool)) (.list (y.map .bool)) = c := by rfl) : VT X Φ ρ (.Compare a [.Eq] [b] pos) c :=
  (vt_eqD hu ha hb hx hy).is h
end
theorem rp_true {G : Hp} : ∀ {ns : List Int} {xs : List V}, RpAll G xs (ns.map fun _ => PyData.bool true) → xs = (ns.map fun _ => true).map V.bl
  | [], _, h => by
    cases h
    rfl
  | _ :: ns, _, h => by
    cases h with
    | cons a h =>
      cases a
      rw [rp_true h]
      rfl
theorem all_true : ∀ ns : List Int, (ns.map fun _ => true).all id = true
  | [] => rfl
  | _ :: ns => all_true ns
theorem v_allH {Y : Cx} {a : Addr} {oe : Obj} {Φ : As} {ρ : List Sl} {e : Expr} {ns : List Int} {p pos : Pos} (hY : HotY Y a oe) (hm : Y.mg "all" = none) (he : VE Y Φ ρ e (.list (ns.map fun _ => .bool true))) (hg : Gl Y "all" := by rfl) (hst : starEach [e] Y.env = (false, eval e Y.env) :: starEach [] Y.env := by rfl) :
    VE Y Φ ρ (.Call (.Name "all" p) [e] [] pos) (.bool true) :=
  v_blt (ss := [.d (.list (ns.map fun _ => .bool true))]) (cr_allH hY) hg hm (by decide +kernel) (va_d he va_nil hst) (fun vs G H s k Q q => by
    obtain ⟨v, rfl, r⟩ := sls1 k
    cases r with
    | lst h1 h2 =>
      have e := rp_true h2
      subst e
      exact ⟨_, ns.map fun _ => true, rfl, SqL.of (s _ _ h1), by rw [all_true]; exact q _ G H (Ext.refl s) (.bl true)⟩) (by decide) (by decide) hst
theorem made_ex {c : Cs} {W : Wd} {ca : Str → Addr} {f : Addr} {cdv : Value} {A : Around} {outer : List Env} {s : Shared} {H : Hp} {E : XK} (B : Bl W.mg) (F : EF W ca) (S60 : FnS W "_law_is_int" ["_law_x"] F60) (hr : Room 10 (A.deeper (envOfC "_law_make" (defScope s68) s.heap.objs.size f cdv)))
    {nm : Str} {ns : List Str} {ds : List PyData} {r : PyData} (hk : (nm = "BadHands" ∧ ∃ i j : Int, ns = (["mine_count", "theirs_count"] : List Str) ∧ ds = [.int i, .int j] ∧ r = .tuple [.str "BadHands", .int i, .int j]) ∨ (nm = "BadWord" ∧ ∃ i : Int, ns = (["position"] : List Str) ∧ ds = [.int i] ∧ r = .tuple [.str "BadWord", .int i]) ∨ (nm = "Unsteady" ∧ ∃ i : Int, ns = (["position"] : List Str) ∧ ds = [.int i] ∧ r = .tuple [.str "Unsteady", .int i]) ∨
      (nm = "Unreachable" ∧ ∃ i j k : Int, ns = (["wanted", "lowest", "highest"] : List Str) ∧ ds = [.int i, .int j, .int k] ∧ r = .tuple [.str "Unreachable", .int i, .int j, .int k]))
    {aa : Addr} {oe : Obj} {od : Option Addr} {pn : List (Addr × Obj)} {G2 H2 : Hp} (hz : L2N.Zn (.ref (ca nm)) od oe) (hf : ∃ vs, oe.data = .fields vs) {D2 : Ends} (hO : Rt G2 H2 D2.rt r) :
    VB ((cxF W N68 "_law_make" (defScope s68) f cdv A outer s H E).suite aa ((aa, oe) :: pn)) G2 G2 H2 suite68 (As.xf (xn (ca nm) ns ds) od) [.no, .no, .no, .no, .v (.ref aa), .no, .no] D2 := by
  have hroom : L2H.RoomH 1 ((cxF W N68 "_law_make" (defScope s68) f cdv A outer s H E).suite aa ((aa, oe) :: pn)).A := ⟨by have := hr.dp; show (A.deeper (envOfC "_law_make" (defScope s68) s.heap.objs.size f cdv)).depth + 3 * 1 + 5 < _; omega, by have := hr.un; show (A.deeper (envOfC "_law_make" (defScope s68) s.heap.objs.size f cdv)).units + 16 * 1 + 200 < _; omega⟩
  have hu : ((cxF W N68 "_law_make" (defScope s68) f cdv A outer s H E).suite aa ((aa, oe) :: pn)).A.units + 64 < cLine := by have := hroom.un; omega
  have hY : HotY ((cxF W N68 "_law_make" (defScope s68) f cdv A outer s H E).suite aa ((aa, oe) :: pn)) aa oe := ⟨List.mem_cons_self, rfl, by
    obtain ⟨vs, hv⟩ := hf
    exact ⟨vs, hv, hz.2.2 vs hv⟩⟩
  have hxf : ∀ G H, (As.xf (xn (ca nm) ns ds) od).p G H → XOk (xn (ca nm) ns ds) od H := fun _ _ h => h
  rcases hk with ⟨rfl, i, j, rfl, rfl, rfl⟩ | ⟨rfl, i, rfl, rfl, rfl⟩ | ⟨rfl, i, rfl, rfl, rfl⟩ | ⟨rfl, i, j, k, rfl, rfl, rfl⟩
  · refine pre68 B F (by decide) rfl hz hf ?_
    refine vb_if1 (c := true) (vt_eqBs (x := [true, false, false, false]) (y := [true, false, false, false]) hu (v_name 5 rfl) (vn_lst (ds := [_, _, _, _]) (va_d v_bool (va_d v_bool (va_d v_bool (va_d v_bool va_nil))))).ve true) (fun _ => ?_) (fun h => by cases h)
    exact vb_ret (v_tup (ds := [.str "BadHands", .int i, .int j]) (va_d v_str (va_d (v_xf (z := xn (ca "BadHands") ["mine_count", "theirs_count"] [.int i, .int j]) (d := .int i) (F.xf _ (by decide)) (F.no ("BadHands", "mine_count") (by decide)) hz hf (vv_name 4 rfl) hxf rfl rfl)
      (va_d (v_xf (z := xn (ca "BadHands") ["mine_count", "theirs_count"] [.int i, .int j]) (d := .int j) (F.xf _ (by decide)) (F.no ("BadHands", "theirs_count") (by decide)) hz hf (vv_name 4 rfl) hxf rfl rfl) va_nil)))) hO
  · refine pre68 B F (by decide) rfl hz hf ?_
    refine vb_if1 (c := false) (vt_eqBs (x := [false, true, false, false]) (y := [true, false, false, false]) hu (v_name 5 rfl) (vn_lst (ds := [_, _, _, _]) (va_d v_bool (va_d v_bool (va_d v_bool (va_d v_bool va_nil))))).ve false) (fun h => by cases h) (fun _ => ?_)
    refine vb_if1 (c := true) (VW.vt (vw_and (c := true) (d := true) (vt_eqBs (x := [false, true, false, false]) (y := [false, true, false, false]) hu (v_name 5 rfl) (vn_lst (ds := [_, _, _, _]) (va_d v_bool (va_d v_bool (va_d v_bool (va_d v_bool va_nil))))).ve true) (fun _ => vw_and1 (vt_val (v_callS (d := .bool true) (q := (aa, oe)) ⟨rfl, rfl, rfl, rfl, rfl⟩ S60 hroom List.mem_cons_self (va_d (v_xf (z := xn (ca "BadWord") ["position"] [.int i]) (d := .int i) (F.xf _ (by decide)) (F.no ("BadWord", "position") (by decide)) hz hf (vv_name 4 rfl) hxf rfl rfl) va_nil) ⟨i, rfl, rfl⟩))))) (fun _ => ?_) (fun h => by cases h)
    exact vb_ret (v_tup (ds := [.str "BadWord", .int i]) (va_d v_str (va_d (v_xf (z := xn (ca "BadWord") ["position"] [.int i]) (d := .int i) (F.xf _ (by decide)) (F.no ("BadWord", "position") (by decide)) hz hf (vv_name 4 rfl) hxf rfl rfl) va_nil))) hO
  · refine pre68 B F (by decide) rfl hz hf ?_
    refine vb_if1 (c := false) (vt_eqBs (x := [false, true, true, false]) (y := [true, false, false, false]) hu (v_name 5 rfl) (vn_lst (ds := [_, _, _, _]) (va_d v_bool (va_d v_bool (va_d v_bool (va_d v_bool va_nil))))).ve false) (fun h => by cases h) (fun _ => ?_)
    refine vb_if1 (c := false) (VW.vt (vw_and (c := false) (d := false) (vt_eqBs (x := [false, true, true, false]) (y := [false, true, false, false]) hu (v_name 5 rfl) (vn_lst (ds := [_, _, _, _]) (va_d v_bool (va_d v_bool (va_d v_bool (va_d v_bool va_nil))))).ve false) (fun h => by cases h))) (fun h => by cases h) (fun _ => ?_)
    refine vb_if1 (c := true) (VW.vt (vw_and (c := true) (d := true) (vt_eqBs (x := [false, true, true, false]) (y := [false, true, true, false]) hu (v_name 5 rfl) (vn_lst (ds := [_, _, _, _]) (va_d v_bool (va_d v_bool (va_d v_bool (va_d v_bool va_nil))))).ve true) (fun _ => vw_and1 (vt_val (v_callS (d := .bool true) (q := (aa, oe)) ⟨rfl, rfl, rfl, rfl, rfl⟩ S60 hroom List.mem_cons_self (va_d (v_xf (z := xn (ca "Unsteady") ["position"] [.int i]) (d := .int i) (F.xf _ (by decide)) (F.no ("Unsteady", "position") (by decide)) hz hf (vv_name 4 rfl) hxf rfl rfl) va_nil) ⟨i, rfl, rfl⟩))))) (fun _ => ?_) (fun h => by cases h)
    exact vb_ret (v_tup (ds := [.str "Unsteady", .int i]) (va_d v_str (va_d (v_xf (z := xn (ca "Unsteady") ["position"] [.int i]) (d := .int i) (F.xf _ (by decide)) (F.no ("Unsteady", "position") (by decide)) hz hf (vv_name 4 rfl) hxf rfl rfl) va_nil))) hO
  · refine pre68 B F (by decide) rfl hz hf ?_
    refine vb_if1 (c := false) (vt_eqBs (x := [false, false, false, true]) (y := [true, false, false, false]) hu (v_name 5 rfl) (vn_lst (ds := [_, _, _, _]) (va_d v_bool (va_d v_bool (va_d v_bool (va_d v_bool va_nil))))).ve false) (fun h => by cases h) (fun _ => ?_)
    refine vb_if1 (c := false) (VW.vt (vw_and (c := false) (d := false) (vt_eqBs (x := [false, false, false, true]) (y := [false, true, false, false]) hu (v_name 5 rfl) (vn_lst (ds := [_, _, _, _]) (va_d v_bool (va_d v_bool (va_d v_bool (va_d v_bool va_nil))))).ve false) (fun h => by cases h))) (fun h => by cases h) (fun _ => ?_)
    refine vb_if1 (c := false) (VW.vt (vw_and (c := false) (d := false) (vt_eqBs (x := [false, false, false, true]) (y := [false, true, true, false]) hu (v_name 5 rfl) (vn_lst (ds := [_, _, _, _]) (va_d v_bool (va_d v_bool (va_d v_bool (va_d v_bool va_nil))))).ve false) (fun h => by cases h))) (fun h => by cases h) (fun _ => ?_)
    refine vb_if1 (c := true) (VW.vt (vw_and (c := true) (d := true) (vt_eqBs (x := [false, false, false, true]) (y := [false, false, false, true]) hu (v_name 5 rfl) (vn_lst (ds := [_, _, _, _]) (va_d v_bool (va_d v_bool (va_d v_bool (va_d v_bool va_nil))))).ve true) (fun _ => vw_and1 (vt_val (v_allH hY B.all (v_lcS (F := F60) (p1 := "_law_x") (x := "_law_x") (ns := [i, j, k]) 6 hY ⟨rfl, rfl, rfl, rfl, rfl⟩ S60 hroom (fun i Φ => ⟨i, rfl, rfl⟩) S68.nd
        (vn_lst (ds := [.int i, .int j, .int k]) (va_d (v_xf (z := xn (ca "Unreachable") ["wanted", "lowest", "highest"] [.int i, .int j, .int k]) (d := .int i) (F.xf _ (by decide)) (F.no ("Unreachable", "wanted") (by decide)) hz hf (vv_name 4 rfl) hxf rfl rfl) (va_d (v_xf (z := xn (ca "Unreachable") ["wanted", "lowest", "highest"] [.int i, .int j, .int k]) (d := .int j) (F.xf _ (by decide)) (F.no ("Unreachable", "lowest") (by decide)) hz hf (vv_name 4 rfl) hxf rfl rfl) (va_d (v_xf (z := xn (ca "Unreachable") ["wanted", "lowest", "highest"] [.int i, .int j, .int k]) (d := .int k) (F.xf _ (by decide)) (F.no ("Unreachable", "highest") (by decide)) hz hf (vv_name 4 rfl) hxf rfl rfl) va_nil)))).ve
        (by exact Nat.le_of_ble_eq_true rfl) (by kernel_rfl) (fun i s H C cl fp => vg_name 6 S68.nd) (fun i s H C cl fp => va_d (v_name 6 rfl) va_nil) (fun s H C cl fp => rfl) (by decide) (fun _ => rfl) (fun _ => rfl))))))) (fun _ => ?_) (fun h => by cases h)
    exact vb_ret (v_tup (ds := [.str "Unreachable", .int i, .int j, .int k]) (va_d v_str (va_d (v_xf (z := xn (ca "Unreachable") ["wanted", "lowest", "highest"] [.int i, .int j, .int k]) (d := .int i) (F.xf _ (by decide)) (F.no ("Unreachable", "wanted") (by decide)) hz hf (vv_name 4 rfl) hxf rfl rfl) (va_d (v_xf (z := xn (ca "Unreachable") ["wanted", "lowest", "highest"] [.int i, .int j, .int k]) (d := .int j) (F.xf _ (by decide)) (F.no ("Unreachable", "lowest") (by decide)) hz hf (vv_name 4 rfl) hxf rfl rfl) (va_d (v_xf (z := xn (ca "Unreachable") ["wanted", "lowest", "highest"] [.int i, .int j, .int k]) (d := .int k) (F.xf _ (by decide)) (F.no ("Unreachable", "highest") (by decide)) hz hf (vv_name 4 rfl) hxf rfl rfl) va_nil))))) hO
end K43
namespace K43
open PySem PySem.Spec PyProof.Rows L2
structure CsOk (c : Cs) (ca : Str → Addr) : Prop where
  H : c.H = ca "BadHands"
  W : c.W = ca "BadWord"
  U : c.U = ca "Unsteady"
  C : c.C = ca "BadCard"
  R : c.R = ca "Unreachable"
  T : c.T = ca "OutOfTurn"
theorem b68 {W : Wd} {c : Cs} {ca : Str → Addr} (B : Bl W.mg) (F : EF W ca) (K : CsOk c ca) (M : GM W c) (S60 : FnS W "_law_is_int" ["_law_x"] F60) : Body W 10 N68 "_law_make" s68 4 F68 := by
  intro f cdv A outer s H G Q E ss Φ o hr hF hO
  obtain ⟨mine, theirs, z, k, r, rfl, h1, h2, h3, hM, rfl⟩ := hF
  have exc : ∀ (nm : Str) (ns : List Str) (ds : List PyData), nm ∈ exS → (∀ g Hc Ψ, Hc g = none → F53i c [.v (.ref g), .d (dL mine), .d (dL theirs), .d (.str ⟨z.toArray⟩), .d (.int k)] (As.and (As.ob g c.G []) (As.and (As.dom Hc) Ψ)) [g] (.exc (xn (ca nm) ns ds))) →
      ((nm = "BadHands" ∧ ∃ i j : Int, ns = (["mine_count", "theirs_count"] : List Str) ∧ ds = [.int i, .int j] ∧ r = .tuple [.str "BadHands", .int i, .int j]) ∨ (nm = "BadWord" ∧ ∃ i : Int, ns = (["position"] : List Str) ∧ ds = [.int i] ∧ r = .tuple [.str "BadWord", .int i]) ∨ (nm = "Unsteady" ∧ ∃ i : Int, ns = (["position"] : List Str) ∧ ds = [.int i] ∧ r = .tuple [.str "Unsteady", .int i]) ∨
      (nm = "Unreachable" ∧ ∃ i j k : Int, ns = (["wanted", "lowest", "highest"] : List Str) ∧ ds = [.int i, .int j, .int k] ∧ r = .tuple [.str "Unreachable", .int i, .int j, .int k])) →
      VB (cxF W N68 "_law_make" (defScope s68) f cdv A outer s H E) G G H (defBody s68) Φ (ρ0 [.d (dL mine), .d (dL theirs), .d (.str ⟨z.toArray⟩), .d (.int k)] (N68.length - 4)) { nx := fun _ H' => Q .non H', rt := Q } := fun nm ns ds hnm hx hk => by
    refine vb_tryX (z := xn (ca nm) ns ds) (i := 4) (cE := ca "ClimbrowError") (Wout := fun cls d _ H => E cls d H) (fun a => [.no, .no, .no, .no, .v (.ref a), .no, .no]) rfl rfl S68.nd rfl rfl ⟨rfl, by decide, .inl (F.g _ (by decide))⟩ takesF (F.m nm hnm)
      (fun pn xe E' w => x_make ⟨rfl, rfl, rfl, rfl, rfl⟩ w M.Mi hr (va_d (vn_list B (v_name 0 rfl)).ve (va_d (vn_list B (v_name 1 rfl)).ve (va_d (v_name 2 rfl) (va_d (v_name 3 rfl) va_nil)))) (fun l Hc hl => hx l Hc _ hl)) (fun aa oe od pn G2 H2 hz hf he D2 hD2 => ?_)
    exact made_ex (c := c) B F S60 hr hk hz hf (by rw [hD2]; exact Rt.ext hO he)
  rcases hM with ⟨ne, rfl⟩ | ⟨he, ⟨i, hi, rfl⟩ | ⟨ha, hz, ⟨p, hp, rfl⟩ | ⟨hs, ⟨hn, rfl⟩ | ⟨hy, rfl⟩⟩⟩⟩
  · refine exc "BadHands" ["mine_count", "theirs_count"] [.int mine.length, .int theirs.length] (by decide) (fun g Hc Ψ hg => ⟨g, mine, theirs, z, k, Hc, Ψ, rfl, rfl, rfl, hg, h1, h2, h3, .inl ⟨ne, by rw [← K.H]; rfl⟩⟩) (.inl ⟨rfl, _, _, rfl, rfl, rfl⟩)
  · refine exc "BadWord" ["position"] [.int i] (by decide) (fun g Hc Ψ hg => ⟨g, mine, theirs, z, k, Hc, Ψ, rfl, rfl, rfl, hg, h1, h2, h3, .inr ⟨he, .inl ⟨i, hi, by rw [← K.W]; rfl⟩⟩⟩) (.inr (.inl ⟨rfl, _, rfl, rfl, rfl⟩))
  · refine exc "Unsteady" ["position"] [.int p] (by decide) (fun g Hc Ψ hg => ⟨g, mine, theirs, z, k, Hc, Ψ, rfl, rfl, rfl, hg, h1, h2, h3, .inr ⟨he, .inr ⟨ha, hz, .inl ⟨p, hp, by rw [← K.U]; rfl⟩⟩⟩⟩) (.inr (.inr (.inl ⟨rfl, _, rfl, rfl, rfl⟩)))
  · refine exc "Unreachable" ["wanted", "lowest", "highest"] [.int k, .int (valO (rowOf mine theirs) z false), .int (valO (rowOf mine theirs) z true)] (by decide) (fun g Hc Ψ hg => ⟨g, mine, theirs, z, k, Hc, Ψ, rfl, rfl, rfl, hg, h1, h2, h3, .inr ⟨he, .inr ⟨ha, hz, .inr ⟨hs, .inl ⟨hn, by rw [← K.R]; rfl⟩⟩⟩⟩⟩) (.inr (.inr (.inr ⟨rfl, _, _, _, rfl, rfl, rfl⟩)))
  · refine vb_tryOk (i := 4) (cE := ca "ClimbrowError") (Wout := fun cls d _ H => E cls d H) (K := fun g Hc => AsN c.G c.O g Hc k z mine theirs) rfl rfl S68.nd rfl rfl ⟨rfl, by decide, .inl (F.g _ (by decide))⟩ takesF
      (fun pn xe => v_make ⟨rfl, rfl, rfl, rfl, rfl⟩ M.Mi hr (va_d (vn_list B (v_name 0 rfl)).ve (va_d (vn_list B (v_name 1 rfl)).ve (va_d (v_name 2 rfl) (va_d (v_name 3 rfl) va_nil)))) (fun l Hc hl => ⟨l, mine, theirs, z, k, Hc, _, rfl, rfl, rfl, hl, h1, h2, h3, .inr ⟨he, .inr ⟨ha, hz, .inr ⟨hs, .inr ⟨hy, rfl⟩⟩⟩⟩⟩)) ?_
    exact vb_ret (v_tup (ds := [.str "done"]) (va_d v_str va_nil)) hO
theorem fn68 {W : Wd} {c : Cs} {ca : Str → Addr} {f : Addr} {fd : FuncData} (B : Bl W.mg) (F : EF W ca) (K : CsOk c ca) (M : GM W c) (S60 : FnS W "_law_is_int" ["_law_x"] F60) (D : FunP W "_law_make" s68 [] f fd) (hm : W.mg "_law_make" = some (.ref f)) : Fn W "_law_make" 11 P68 [] F68 :=
  fn_mk D hm S68 (b68 B F K M S60) fun _ _ _ _ _ _ us hl => match us, hl with | [_, _, _, _], _ => rfl
end K43
namespace K43
open PySem PySem.Spec PyProof.Rows L2
/-! ### _law_refused -/
abbrev s77 : Stmt := top 77
abbrev P77 : List Str := ["_law_guide", "_law_left", "_law_count", "_law_letters"]
abbrev N77 : List Str := ["_law_guide", "_law_left", "_law_count", "_law_letters", "_law_my_gone", "_law_k", "_law_their_gone", "_law_index", "_law_due", "_law_m", "_law_t"]
def gone (l : List Nat) (n : Nat) : List Int := zI ((List.range n).filter fun i => !decide ((i : Int) ∈ zI l)) ++ [-1, (n : Int), 10 ^ (15 : Int).toNat]
theorem gone_out {l : List Nat} {n : Nat} (h : ∀ i ∈ l, i < n) (hn : n ≤ 1000) {x : Int} (hx : x ∈ gone l n) : x ∉ zI l := fun hm => by
  obtain ⟨m, h1, rfl⟩ := zI_mem.mp hm
  have h2 := h m h1
  unfold gone at hx
  rw [List.mem_append] at hx
  rcases hx with hx | hx
  · obtain ⟨q, h3, h4⟩ := zI_mem.mp hx
    have e : m = q := by omega
    subst e
    have h5 := (List.mem_filter.mp h3).2
    rw [Bool.not_eq_true', decide_eq_false_iff_not] at h5
    exact h5 hm
  · have e15 : (10 : Int) ^ (15 : Int).toNat = 1000000000000000 := by decide
    rw [e15] at hx
    simp only [List.mem_cons, List.not_mem_nil, or_false] at hx
    omega
theorem gone_len (l : List Nat) (n : Nat) : (gone l n).length ≤ n + 3 := by
  unfold gone zI
  rw [List.length_append, List.length_map]
  have := List.length_filter_le (fun i : Nat => !decide ((i : Int) ∈ zI l)) (List.range n)
  rw [List.length_range] at this
  simp only [List.length_cons, List.length_nil]
  unfold zI at this
  omega
def F77 (c : Cs) : FR := fun ss Φ o => ∃ (g hh : Addr) (k : Int) (z : List Nat) (mine theirs : List Int) (ml tl : List Nat), ss = [.v (.ref g), .d (dLeft ml tl), .d (.int mine.length), .d (.str ⟨z.toArray⟩)] ∧ HasG c g hh k z mine theirs ml tl Φ ∧ GOk z mine theirs ml tl ∧ z.length ≤ 1000 ∧ hh ≠ g ∧ o = .val (.bool true)
theorem S77 : FnScope N77 P77 (defScope s77) := ⟨rfl, rfl, rfl, by decide +kernel, rfl, by decide +kernel, by decide +kernel⟩
theorem eqv_card (s : Str) (i : Int) : PyData.eqv (.tuple [.str "BadCard", .str s, .int i]) (.tuple [.str "BadCard", .str s, .int i]) = true := by simp [PyData.eqv, PyData.eqvAll]
theorem eqv_out : PyData.eqv (.tuple [.str "OutOfTurn"]) (.tuple [.str "OutOfTurn"]) = true := by simp [PyData.eqv, PyData.eqvAll]
theorem shp_out : SeqAt.shaped (.tuple [.str "OutOfTurn"]) = true := (sh_tup (n := 1) fun d hd => by rw [List.mem_singleton.mp hd]; exact sh_str (by decide +kernel)).ok
theorem shp_card (o : Bool) (i : Int) : SeqAt.shaped (.tuple [.str "BadCard", .str (sideS o), .int i]) = true := (sh_tup (n := 1) fun d hd => by
  simp only [List.mem_cons, List.not_mem_nil, or_false] at hd
  rcases hd with rfl | rfl | rfl
  · exact sh_str (by decide +kernel)
  · exact sh_side 1 o
  · exact sh_int).ok
section
variable {W : Wd} {X : Cx} {Φ : As} {ρ : List Sl} {a b : Expr} {pos : Pos}
theorem vt_neOut (hu : X.A.units + 64 < cLine) (ha : VE X Φ ρ a (.tuple [.str "OutOfTurn"])) (hb : VE X Φ ρ b (.tuple [.str "OutOfTurn"])) : VT X Φ ρ (.Compare a [.NotEq] [b] pos) false := (vt_neD hu ha hb shp_out shp_out).is (by rw [eqv_out]; rfl)
theorem vt_neCard {o : Bool} {i : Int} (hu : X.A.units + 64 < cLine) (ha : VE X Φ ρ a (.tuple [.str "BadCard", .str (sideS o), .int i])) (hb : VE X Φ ρ b (.tuple [.str "BadCard", .str (sideS o), .int i])) : VT X Φ ρ (.Compare a [.NotEq] [b] pos) false := (vt_neD hu ha hb (shp_card o i) (shp_card o i)).is (by rw [eqv_card]; rfl)
end
theorem b77 {W : Wd} {c : Cs} (B : Bl W.mg) (C76 : Fn W "_law_try" 13 P75 [] (F76 c)) : Body W 13 N77 "_law_refused" s77 4 (F77 c) := by
  intro f cdv A outer s H G Q E ss Φ o hr hF hO
  obtain ⟨g, hh, k, z, mine, theirs, ml, tl, rfl, hp, ok, hz, hne, rfl⟩ := hF
  have hm := ok.ok.m
  have ht : ∀ i ∈ tl, i < mine.length := fun i hi => by rw [ok.ok.l2]; exact ok.ok.t i hi
  have hn := ok.ok.l1
  have hu : (A.deeper (envOfC "_law_refused" (defScope s77) s.heap.objs.size f cdv)).units + 64 < cLine := hr.units
  have l2 := ok.lz
  have l3 := ok.lt
  have p15 : VE (cxF W N77 "_law_refused" (defScope s77) f cdv A outer s H E) Φ [] (.Constant (.int 0) 0 ⟨0, 0, 0, 0⟩) (.int 0) := v_int
  refine vb_set 4 (d := dL (gone ml mine.length)) ((vn_cat (vn_lc (α := Nat) (xs := List.range mine.length) (enc := fun i => .int (i : Int)) (k := fun i => !decide ((i : Int) ∈ zI ml)) (f := fun i => .int (i : Int)) (is := [5]) (st := fun i ρ => ρ.set 5 (.d (.int (i : Int)))) [("_law_k", 5)] rfl S77.nd
      (vi_range B (v_name 2 rfl) (by omega)) (by rw [List.length_range]; omega) (fun i _ s H C cl fp => vg_name 5 S77.nd) (fun i _ s H C cl fp => vts_one (vt_nin (l := zI ml) (v_name 5 rfl) ((v_leftM (v_name 1 rfl)).is (by rw [dX_zI]; rfl)))) (fun i _ _ s H C cl fp => v_name 5 rfl)).ve
      (vn_lst (ds := [.int (-1), .int mine.length, .int (10 ^ (15 : Int).toNat)]) (va_d (v_neg v_int) (va_d (v_name 2 rfl) (va_d (v_pow v_int v_int (by unfold CPow; decide)) va_nil)))).ve ?_).ve.is ?_) S77.nd ?_
  · have := List.length_filter_le (fun i : Nat => !decide ((i : Int) ∈ zI ml)) (List.range mine.length)
    rw [List.length_map]
    rw [List.length_range] at this
    simp only [List.length_cons, List.length_nil]
    omega
  · unfold gone dL dI zI
    rw [List.map_append, List.map_map]
    rfl
  refine vb_set 6 (d := dL (gone tl mine.length)) ((vn_cat (vn_lc (α := Nat) (xs := List.range mine.length) (enc := fun i => .int (i : Int)) (k := fun i => !decide ((i : Int) ∈ zI tl)) (f := fun i => .int (i : Int)) (is := [5]) (st := fun i ρ => ρ.set 5 (.d (.int (i : Int)))) [("_law_k", 5)] rfl S77.nd
      (vi_range B (v_name 2 rfl) (by omega)) (by rw [List.length_range]; omega) (fun i _ s H C cl fp => vg_name 5 S77.nd) (fun i _ s H C cl fp => vts_one (vt_nin (l := zI tl) (v_name 5 rfl) ((v_leftT (v_name 1 rfl)).is (by rw [dX_zI]; rfl)))) (fun i _ _ s H C cl fp => v_name 5 rfl)).ve
      (vn_lst (ds := [.int (-1), .int mine.length, .int (10 ^ (15 : Int).toNat)]) (va_d (v_neg v_int) (va_d (v_name 2 rfl) (va_d (v_pow v_int v_int (by unfold CPow; decide)) va_nil)))).ve ?_).ve.is ?_) S77.nd ?_
  · have := List.length_filter_le (fun i : Nat => !decide ((i : Int) ∈ zI tl)) (List.range mine.length)
    rw [List.length_map]
    rw [List.length_range] at this
    simp only [List.length_cons, List.length_nil]
    omega
  · unfold gone dL dI zI
    rw [List.map_append, List.map_map]
    rfl
  refine vb_if1 (c := false) ?_ (fun h => by cases h) (fun _ => ?_)
  · by_cases h7 : z.take 1 = [77]
    · exact VW.vt (vw_and (c := false) (d := false) ((vt_neL [77] (v_head (v_name 3 rfl) hz)).is (by rw [decide_eq_true h7]; rfl)) (fun h => by cases h))
    · exact VW.vt (vw_and (c := true) (d := false) ((vt_neL [77] (v_head (v_name 3 rfl) hz)).is (by rw [decide_eq_false h7]; rfl)) (fun _ => vw_and1 (vt_neOut hu (v_call inW C76 hr (va_v (vv_name 0 rfl) (va_d v_str (va_d v_int (va_d v_int va_nil)))) ⟨g, "lay", 0, 0, ⟨c.T, none⟩, rfl, ⟨hh, k, z, mine, theirs, ml, tl, hp, ok.ok, hz, hne, .inl ⟨rfl, fun h => h7 (take1_m.mpr h), rfl⟩⟩, rfl⟩) (v_tup (ds := [.str "OutOfTurn"]) (va_d v_str va_nil)))))
  refine vb_for (ds := dI (gone tl mine.length)) (is := [7]) (f := fun d ρ => ρ.set 7 (.d d)) (fun _ => [.v (.ref g), .d (dLeft ml tl), .d (.int mine.length), .d (.str ⟨z.toArray⟩), .d (dL (gone ml mine.length)), .no, .d (dL (gone tl mine.length)), .no, .no, .no, .no]) (fun _ => Φ) ownF rfl (vi_list (v_name 6 rfl)) (fun d _ => vg_name 7 S77.nd)
    ⟨.inr rfl, .inr rfl, .inr rfl, .inr rfl, .inr rfl, .inl rfl, .inr rfl, .inl rfl, .inl rfl, .inl rfl, .inl rfl, True.intro⟩ (fun G H h => h) (fun Gm' _ i d hd => ?_) ?_
  · obtain ⟨x, hx, rfl⟩ := dI_at hd
    have hxo := gone_out ht hn (List.mem_of_getElem? hx)
    have nxt : ∀ {Gm2 : Hp} {d1 : PyData} {DD : Ends}, DD.nx = NX Gm' G H Φ [.v (.ref g), .d (dLeft ml tl), .d (.int mine.length), .d (.str ⟨z.toArray⟩), .d (dL (gone ml mine.length)), .no, .d (dL (gone tl mine.length)), .no, .no, .no, .no] → VB (cxF W N77 "_law_refused" (defScope s77) f cdv A outer s H E) Gm' G H [] Φ [.v (.ref g), .d (dLeft ml tl), .d (.int mine.length), .d (.str ⟨z.toArray⟩), .d (dL (gone ml mine.length)), .no, .d (dL (gone tl mine.length)), .d (.int x), .d d1, .no, .no] DD := fun h =>
      vb_nx h ⟨.inr rfl, .inr rfl, .inr rfl, .inr rfl, .inr rfl, .inl rfl, .inr rfl, .inl rfl, .inl rfl, .inl rfl, .inl rfl, True.intro⟩ fun G H h => h
    by_cases h8 : z.take 1 = [84]
    · refine vb_set 8 (d := .tuple [.str "BadCard", .str (sideS false), .int x]) (v_ixL (vn_lst (ds := [.tuple [.str "OutOfTurn"], .tuple [.str "BadCard", .str (sideS false), .int x]]) (va_d (v_tup (ds := [.str "OutOfTurn"]) (va_d v_str va_nil)) (va_d (v_tup (ds := [.str "BadCard", .str (sideS false), .int x]) (va_d v_str (va_d v_str (va_d (v_name 7 rfl) va_nil)))) va_nil))).ve (v_intB B ((v_eqS (v_head (v_name 3 rfl) hz) (v_strC (z := [84]))).is (d' := .bool true) (by rw [decide_eq_true (sL_iff.mpr h8)]))) rfl) S77.nd ?_
      refine vb_if1 (c := false) (vt_neCard (o := false) (i := x) hu (v_call inW C76 hr (va_v (vv_name 0 rfl) (va_d v_str (va_d (v_name 7 rfl) (va_d v_int va_nil)))) ⟨g, "answer", x, 0, xcard c.C false x, rfl, ⟨hh, k, z, mine, theirs, ml, tl, hp, ok.ok, hz, hne, .inr (.inr (.inl ⟨rfl, take1_t.mp h8, hxo, rfl⟩))⟩, rfl⟩) (v_name 8 rfl)) (fun h => by cases h) (fun _ => nxt (Gm2 := Gm') rfl)
    · refine vb_set 8 (d := .tuple [.str "OutOfTurn"]) (v_ixL (vn_lst (ds := [.tuple [.str "OutOfTurn"], .tuple [.str "BadCard", .str (sideS false), .int x]]) (va_d (v_tup (ds := [.str "OutOfTurn"]) (va_d v_str va_nil)) (va_d (v_tup (ds := [.str "BadCard", .str (sideS false), .int x]) (va_d v_str (va_d v_str (va_d (v_name 7 rfl) va_nil)))) va_nil))).ve (v_intB B ((v_eqS (v_head (v_name 3 rfl) hz) (v_strC (z := [84]))).is (d' := .bool false) (by rw [decide_eq_false fun h => h8 (sL_iff.mp h)]))) rfl) S77.nd ?_
      refine vb_if1 (c := false) (vt_neOut hu (v_call inW C76 hr (va_v (vv_name 0 rfl) (va_d v_str (va_d (v_name 7 rfl) (va_d v_int va_nil)))) ⟨g, "answer", x, 0, ⟨c.T, none⟩, rfl, ⟨hh, k, z, mine, theirs, ml, tl, hp, ok.ok, hz, hne, .inr (.inl ⟨rfl, fun h => h8 (take1_t.mpr h), rfl⟩)⟩, rfl⟩) (v_name 8 rfl)) (fun h => by cases h) (fun _ => nxt (Gm2 := Gm') rfl)
  refine vb_if1 (c := false) ?_ (fun h => by cases h) (fun _ => ?_)
  · by_cases h7 : z.take 1 = [77]
    · have h77 := take1_m.mp h7
      have hlt : 0 < tl.length := by
        cases z with
        | nil => cases h77
        | cons => simp at l2; omega
      have hnt : z.head? ≠ some 84 := by rw [h77]; decide
      exact VW.vt (vw_and (c := true) (d := false) ((vt_eqL [77] (v_head (v_name 3 rfl) hz)).is (by rw [decide_eq_true h7])) (fun _ => vw_and1 (vt_neOut hu (v_call inW C76 hr (va_v (vv_name 0 rfl) (va_d v_str (va_d (v_ixL (v_leftT (v_name 1 rfl)) v_int (atI_dX0 hlt)) (va_d v_int va_nil)))) ⟨g, "answer", _, 0, ⟨c.T, none⟩, rfl, ⟨hh, k, z, mine, theirs, ml, tl, hp, ok.ok, hz, hne, .inr (.inl ⟨rfl, hnt, rfl⟩)⟩, rfl⟩) (v_tup (ds := [.str "OutOfTurn"]) (va_d v_str va_nil)))))
    · exact VW.vt (vw_and (c := false) (d := false) ((vt_eqL [77] (v_head (v_name 3 rfl) hz)).is (by rw [decide_eq_false h7])) (fun h => by cases h))
  refine vb_for (ds := dI (gone ml mine.length)) (is := [9]) (f := fun d ρ => ρ.set 9 (.d d)) (fun _ => [.v (.ref g), .d (dLeft ml tl), .d (.int mine.length), .d (.str ⟨z.toArray⟩), .no, .no, .d (dL (gone tl mine.length)), .no, .no, .no, .no]) (fun _ => Φ) ownF rfl (vi_list (v_name 4 rfl)) (fun d _ => vg_name 9 S77.nd)
    ⟨.inr rfl, .inr rfl, .inr rfl, .inr rfl, .inl rfl, .inl rfl, .inr rfl, .inl rfl, .inl rfl, .inl rfl, .inl rfl, True.intro⟩ (fun G H h => h) (fun Gm' _ i d hd => ?_) ?_
  · obtain ⟨x, hx, rfl⟩ := dI_at hd
    have hxo := gone_out hm hn (List.mem_of_getElem? hx)
    have hat : ∃ y : Int, atI (dX tl ++ [.int (-1)]) 0 = some (.int y) := by
      cases tl with
      | nil => exact ⟨-1, rfl⟩
      | cons t tl => exact ⟨t, atI_nat (i := 0) rfl⟩
    obtain ⟨y, hy⟩ := hat
    have tlen : tl.length ≤ 1000 := ok.ok.t1
    refine vb_if1 (c := false) (vt_neCard (o := true) (i := x) hu (v_call inW C76 hr (va_v (vv_name 0 rfl) (va_d v_str (va_d (v_name 9 rfl) (va_d (v_ixL (d := .int y) (vn_cat (v_leftT (v_name 1 rfl)) (vn_lst (ds := [.int (-1)]) (va_d (v_neg v_int) va_nil)).ve (by rw [dX_len]; simp only [List.length_cons, List.length_nil]; omega)).ve v_int hy) va_nil)))) ⟨g, "saw", x, y, xcard c.C true x, rfl, ⟨hh, k, z, mine, theirs, ml, tl, hp, ok.ok, hz, hne, .inr (.inr (.inr (.inl ⟨rfl, hxo, rfl⟩)))⟩, rfl⟩) (v_tup (ds := [.str "BadCard", .str (sideS true), .int x]) (va_d v_str (va_d v_str (va_d (v_name 9 rfl) va_nil))))) (fun h => by cases h) (fun _ => ?_)
    refine vb_if1 (c := false) (vt_neCard (o := true) (i := x) hu (v_call inW C76 hr (va_v (vv_name 0 rfl) (va_d v_str (va_d (v_name 9 rfl) (va_d (v_neg v_int) va_nil)))) ⟨g, "saw", x, -1, xcard c.C true x, rfl, ⟨hh, k, z, mine, theirs, ml, tl, hp, ok.ok, hz, hne, .inr (.inr (.inr (.inl ⟨rfl, hxo, rfl⟩)))⟩, rfl⟩) (v_tup (ds := [.str "BadCard", .str (sideS true), .int x]) (va_d v_str (va_d v_str (va_d (v_name 9 rfl) va_nil))))) (fun h => by cases h) (fun _ => ?_)
    exact vb_nx rfl ⟨.inr rfl, .inr rfl, .inr rfl, .inr rfl, .inl rfl, .inl rfl, .inr rfl, .inl rfl, .inl rfl, .inl rfl, .inl rfl, True.intro⟩ fun G H h => h
  refine vb_for (ds := dI (gone tl mine.length)) (is := [10]) (f := fun d ρ => ρ.set 10 (.d d)) (fun _ => [.v (.ref g), .d (dLeft ml tl), .d (.int mine.length), .d (.str ⟨z.toArray⟩), .no, .no, .no, .no, .no, .no, .no]) (fun _ => Φ) ownF rfl (vi_list (v_name 6 rfl)) (fun d _ => vg_name 10 S77.nd)
    ⟨.inr rfl, .inr rfl, .inr rfl, .inr rfl, .inl rfl, .inl rfl, .inl rfl, .inl rfl, .inl rfl, .inl rfl, .inl rfl, True.intro⟩ (fun G H h => h) (fun Gm' _ i d hd => ?_) (vb_ret v_bool hO)
  obtain ⟨x, hx, rfl⟩ := dI_at hd
  have hxo := gone_out ht hn (List.mem_of_getElem? hx)
  refine vb_if1 (c := false) ?_ (fun h => by cases h) (fun _ => vb_nx rfl ⟨.inr rfl, .inr rfl, .inr rfl, .inr rfl, .inl rfl, .inl rfl, .inl rfl, .inl rfl, .inl rfl, .inl rfl, .inl rfl, True.intro⟩ fun G H h => h)
  by_cases h0 : 0 < z.length
  · have hml : 0 < ml.length := by omega
    have hin : ((ml.headD 0 : Nat) : Int) ∈ zI ml := zI_nat.mpr (headD_mem (List.length_pos_iff.mp hml))
    exact VW.vt (vw_and (c := true) (d := false) ((vt_gt (v_lenS B (v_name 3 rfl) (by omega)) v_int).is (decide_eq_true (by omega))) (fun _ => vw_and1 (vt_neCard (o := false) (i := x) hu (v_call inW C76 hr (va_v (vv_name 0 rfl) (va_d v_str (va_d (v_ixL (v_leftM (v_name 1 rfl)) v_int (atI_dX0 hml)) (va_d (v_name 10 rfl) va_nil)))) ⟨g, "saw", _, x, xcard c.C false x, rfl, ⟨hh, k, z, mine, theirs, ml, tl, hp, ok.ok, hz, hne, .inr (.inr (.inr (.inr ⟨rfl, hin, hxo, rfl⟩)))⟩, rfl⟩) (v_tup (ds := [.str "BadCard", .str (sideS false), .int x]) (va_d v_str (va_d v_str (va_d (v_name 10 rfl) va_nil)))))))
  · exact VW.vt (vw_and (c := false) (d := false) ((vt_gt (v_lenS B (v_name 3 rfl) (by omega)) v_int).is (decide_eq_false (by omega))) (fun h => by cases h))
theorem fn77 {W : Wd} {c : Cs} {f : Addr} {fd : FuncData} (B : Bl W.mg) (C76 : Fn W "_law_try" 13 P75 [] (F76 c)) (D : FunP W "_law_refused" s77 [] f fd) (hm : W.mg "_law_refused" = some (.ref f)) : Fn W "_law_refused" 14 P77 [] (F77 c) :=
  fn_mk D hm S77 (b77 B C76) fun _ _ _ _ _ _ us hl => match us, hl with | [_, _, _, _], _ => rfl
end K43
namespace K43
open PySem PySem.Spec PyProof.Rows L2
/-! ### letters as truth values -/
def toB (z : List Nat) : List Bool := z.map fun c => c == 77
theorem toB_len (z : List Nat) : (toB z).length = z.length := List.length_map ..
theorem toB_t : ∀ l : List Nat, (toB l).count true = l.count 77
  | [] => rfl
  | a :: l => by
    show ((a == 77) :: toB l).count true = _
    rw [List.count_cons, List.count_cons, toB_t l]
    by_cases h : a = 77 <;> simp [h]
theorem toB_f : ∀ {l : List Nat}, AllGd l → (toB l).count false = l.count 84
  | [], _ => rfl
  | a :: l, h => by
    show ((a == 77) :: toB l).count false = _
    rw [List.count_cons, List.count_cons, toB_f (gd_tl h)]
    rcases h 0 a rfl with rfl | rfl <;> simp
theorem toB_dl (z : List Nat) : (toB z).dropLast = toB z.dropLast := by
  unfold toB
  rw [List.map_dropLast]
theorem nM_z (z : List Nat) : nM (toB z) = zM z := by
  unfold nM
  rw [toB_dl, toB_t]
  rfl
theorem nT_z {z : List Nat} (h : AllGd z) : nT (toB z) = zT z := by
  unfold nT
  rw [toB_dl, toB_f (gd_drop h)]
  rfl
theorem stead_z : ∀ {e : List Nat}, AllGd e → StP2 e → stead (toB e)
  | [], _, _ => True.intro
  | a :: e, h, s => by
    refine ⟨?_, stead_z (gd_tl h) fun q hq => ?_⟩
    · have := s 0 (by simp)
      unfold sur at this
      rw [List.drop_zero] at this
      show (toB (a :: e)).count true ≤ (toB (a :: e)).count false
      rw [toB_t, toB_f h]
      omega
    · have := s (q + 1) (by simpa using hq)
      rw [sur_cons] at this
      exact this
theorem valO_B {mine theirs : List Int} {z : List Nat} (h : AllGd z) (o : Bool) : valO (rowOf mine theirs) z o = if o then highV (rowOf mine theirs) (nM (toB z)) (nT (toB z)) else lowV (rowOf mine theirs) (nM (toB z)) (nT (toB z)) := by
  unfold valO
  rw [nM_z, nT_z h]
theorem val_le {mine theirs : List Int} {z : List Nat} (hl : mine.length = theirs.length) (hz : z.length = mine.length) (h : AllGd z) (s : StP2 z.dropLast) : valO (rowOf mine theirs) z false ≤ valO (rowOf mine theirs) z true := by
  rw [valO_B h, valO_B h]
  exact low_high hl (by rw [toB_len]; exact hz) (by rw [toB_dl]; exact stead_z (gd_drop h) s)
/-! ### a bound for rows -/
theorem lv_low : ∀ (w : List Bool) (h z : Int), z ∈ lv h w → h - w.length ≤ z
  | [], _, _, hz => by cases hz
  | false :: w, h, z, hz => by
    rw [List.length_cons]
    rcases List.mem_cons.mp (show z ∈ h :: lv (h + 1) w from hz) with rfl | hz
    · omega
    · have := lv_low w _ _ hz
      omega
  | true :: w, h, z, hz => by
    rw [List.length_cons]
    have := lv_low w _ _ (show z ∈ lv (h - 1) w from hz)
    omega
theorem row_low {mine theirs : List Int} {z : Int} (hz : z ∈ rowOf mine theirs) : -((mine.length : Int) + theirs.length) ≤ z := by
  unfold rowOf at hz
  have h := lv_low _ _ _ ((srt_perm _).mem_iff.mp hz)
  have hl : (own (dk mine theirs)).length = (dk mine theirs).length := List.length_map ..
  rw [hl, dk_length] at h
  omega
theorem low_big {mine theirs : List Int} {z : List Nat} (h1 : mine.length ≤ 1000) (h2 : theirs.length ≤ 1000) : -(10 : Int) ^ 15 < valO (rowOf mine theirs) z false := by
  have e15 : (10 : Int) ^ 15 = 1000000000000000 := by decide
  unfold valO lowV
  rw [if_neg Bool.false_ne_true, e15]
  split
  · decide
  · by_cases h : zT z < (rowOf mine theirs).length
    · have hm : (rowOf mine theirs).getD (zT z) 0 ∈ rowOf mine theirs := by
        rw [List.getD_eq_getElem?_getD, List.getElem?_eq_getElem h]
        exact List.getElem_mem h
      have := row_low hm
      omega
    · rw [List.getD_eq_getElem?_getD, List.getElem?_eq_none (by omega)]
      show _ < _ + (0 : Int)
      omega
end K43
namespace K43
open PySem PySem.Spec PyProof.Rows L2
/-! ### _law_make's answers, compared -/
def rT (s : Str) (is : List Int) : PyData := .tuple (.str s :: is.map PyData.int)
theorem eqv_ints : ∀ is : List Int, PyData.eqvAll (is.map PyData.int) (is.map PyData.int) = true
  | [] => by simp [PyData.eqvAll]
  | i :: is => by simp [PyData.eqvAll, PyData.eqv, eqv_ints is]
theorem eqv_rT (s : Str) (is : List Int) : PyData.eqv (rT s is) (rT s is) = true := by
  unfold rT
  simp [PyData.eqv, PyData.eqvAll, eqv_ints is]
theorem shp_rT {s : Str} (is : List Int) (h : PyData.strOk s = true) : SeqAt.shaped (rT s is) = true := (sh_tup (n := 1) fun d hd => by
  rcases List.mem_cons.mp hd with rfl | hd
  · exact sh_str h
  · obtain ⟨i, _, rfl⟩ := List.mem_map.mp hd
    exact sh_int).ok
section
variable {X : Cx} {Φ : As} {ρ : List Sl} {a b : Expr} {pos : Pos}
theorem vt_neR {s : Str} (is : List Int) (hu : X.A.units + 64 < cLine) (ha : VE X Φ ρ a (rT s is)) (hb : VE X Φ ρ b (rT s is)) (h : PyData.strOk s = true := by decide +kernel) : VT X Φ ρ (.Compare a [.NotEq] [b] pos) false := (vt_neD hu ha hb (shp_rT is h) (shp_rT is h)).is (by rw [eqv_rT]; rfl)
theorem v_eqR {s : Str} (is : List Int) (hu : X.A.units + 64 < cLine) (ha : VE X Φ ρ a (rT s is)) (hb : VE X Φ ρ b (rT s is)) (h : PyData.strOk s = true := by decide +kernel) : VT X Φ ρ (.Compare a [.Eq] [b] pos) true := (vt_eqD hu ha hb (shp_rT is h) (shp_rT is h)).is (eqv_rT s is)
end
/-! ### the words that are tried -/
theorem gd_app {a b : List Nat} (h : AllGd a) (k : AllGd b) : AllGd (a ++ b) := fun i c hc => by
  by_cases hi : i < a.length
  · rw [List.getElem?_append_left hi] at hc
    exact h i c hc
  · rw [List.getElem?_append_right (by omega)] at hc
    exact k _ c hc
theorem gd_one {c : Nat} (h : gd c) : AllGd [c] := gd_cons h fun i c hc => by simp at hc
theorem gd_take {z : List Nat} (h : AllGd z) (n : Nat) : AllGd (z.take n) := fun i c hc => by
  rw [List.getElem?_take] at hc
  split at hc
  · exact h i c hc
  · cases hc
theorem bad_app {z : List Nat} {c : Nat} (h : AllGd z) (hc : ¬ gd c) (r : List Nat) : FirstBad (z ++ c :: r) z.length := ⟨⟨c, by simp, hc⟩, fun i x hi hx => by
  rw [List.getElem?_append_left hi] at hx
  exact h i x hx⟩
end K43
namespace K43
open PySem PySem.Spec PyProof.Rows L2
theorem rep_strs (n : Nat) (c : Nat) : (List.replicate n (#[c] : Array Nat)).foldl (· ++ ·) #[] = (List.replicate n c).toArray := by
  have h : ∀ (n : Nat) (acc : List Nat), (List.replicate n (#[c] : Array Nat)).foldl (· ++ ·) acc.toArray = (acc ++ List.replicate n c).toArray := fun n => by
    induction n with
    | zero => intro acc; simp
    | succ n ih =>
      intro acc
      rw [List.replicate_succ, List.foldl_cons, show acc.toArray ++ #[c] = (acc ++ [c]).toArray by simp, ih, List.replicate_succ]
      simp
  exact h n []
/-- a letter times an int -/
theorem op_mulS {X : Cx} (c : Nat) : OpR X (binaryOp .Mult) (fun x y H Q => ∃ n : Nat, x = .str ⟨[c].toArray⟩ ∧ y = .int n ∧ n ≤ 100000 ∧ Q (.str ⟨(List.replicate n c).toArray⟩) H) := by
  intro pins s σ H x y v u Q I rx ry h
  obtain ⟨n, rfl, rfl, hn, q⟩ := h
  obtain ⟨t, rfl⟩ := rx
  obtain ⟨t', rfl⟩ := ry
  refine PySem.P.mul_str ?_ ?_ ?_ ?_
  · rw [decide_eq_false (by omega), decide_eq_false (by omega)]
    rfl
  · intro h1 _ h2
    have e1 : ((⟨[c].toArray⟩ : Str).length : Int) = 1 := rfl
    rw [e1] at h2
    have : 1 ≤ (2 ^ 63 - 1 : Int) / n := Int.le_ediv_of_mul_le (by omega) (by omega)
    omega
  · intro h1 _
    show decide (1 * (n : Int).toNat > sizeLine) = false
    rw [Int.toNat_natCast, sizeLine_eq]
    exact decide_eq_false (by omega)
  · by_cases h1 : (n : Int) < 1
    · rw [if_pos h1]
      have e0 : n = 0 := by omega
      subst e0
      exact ⟨Nat.zero_le _, .str ⟨(List.replicate 0 c).toArray⟩, H, I.tok _, ⟨_, rfl⟩, q⟩
    · rw [if_neg h1]
      by_cases h2 : ((n : Int) == 1 || (⟨[c].toArray⟩ : Str).length == 0) = true
      · rw [if_pos h2]
        have e1 : n = 1 := by
          rw [Bool.or_eq_true, beq_iff_eq] at h2
          rcases h2 with h2 | h2
          · omega
          · cases h2
        subst e1
        exact ⟨.str ⟨(List.replicate 1 c).toArray⟩, H, I, ⟨_, rfl⟩, q⟩
      · rw [if_neg h2, Int.toNat_natCast]
        have e2 : (List.replicate n (⟨[c].toArray⟩ : Str).cps).foldl (· ++ ·) #[] = (List.replicate n c).toArray := rep_strs n c
        rw [e2]
        refine ⟨?_, .str ⟨(List.replicate n c).toArray⟩, H, I.tok _, ⟨_, rfl⟩, q⟩
        show (List.replicate n c).toArray.size ≤ sizeLine
        rw [List.size_toArray, List.length_replicate, sizeLine_eq]
        omega
section
variable {X : Cx} {Φ : As} {ρ : List Sl} {a b : Expr} {pos : Pos}
theorem v_mulS {c n : Nat} (ha : VE X Φ ρ a (.str ⟨[c].toArray⟩)) (hb : VE X Φ ρ b (.int n)) (hn : n ≤ 100000) : VE X Φ ρ (.BinOp a .Mult b pos) (.str ⟨(List.replicate n c).toArray⟩) :=
  v_op (op_mulS c) ha hb fun v w G H s rv rw Q q => by
    cases rv
    cases rw
    exact ⟨n, rfl, rfl, hn, q _ G H (Ext.refl s) (.str _)⟩
end
end K43
namespace K43
open PySem PySem.Spec PyProof.Rows L2
/-! ### _law_created -/
abbrev s69 : Stmt := top 69
abbrev P69 : List Str := ["_law_mine", "_law_theirs", "_law_word_here", "_law_free", "_law_ends"]
abbrev N69 : List Str := ["_law_mine", "_law_theirs", "_law_word_here", "_law_free", "_law_ends", "_law_count", "_law_wanted"]
def F69 : FR := fun ss _ o => ∃ (mine theirs : List Int) (z fr : List Nat), ss = [.d (dL mine), .d (dL theirs), .d (.str ⟨z.toArray⟩), .d (.str ⟨fr.toArray⟩), .d (.list [.int (valO (rowOf mine theirs) z false), .int (valO (rowOf mine theirs) z true)])] ∧ mine.length ≤ 900 ∧ mine.length = theirs.length ∧ z.length = mine.length ∧ AllGd z ∧ StP2 z.dropLast ∧ fr.length = mine.length ∧ AllGd fr ∧
  ((∃ p : Nat, UnP fr.dropLast p) ∨ StP2 fr.dropLast) ∧ o = .val (.bool true)
theorem S69 : FnScope N69 P69 (defScope s69) := ⟨rfl, rfl, rfl, by decide +kernel, rfl, by decide +kernel, by decide +kernel⟩
/-- a word with a wrong letter, or of a wrong length -/
theorem mk_bad {mine theirs : List Int} {z : List Nat} {k : Int} {i : Nat} (hl : mine.length = theirs.length) (h : WordBad z mine.length i) : Made68 mine theirs z k (rT "BadWord" [(i : Int)]) := .inr ⟨hl, .inl ⟨i, h, rfl⟩⟩
theorem mk_uns {mine theirs : List Int} {z : List Nat} {k : Int} {p : Nat} (hl : mine.length = theirs.length) (ha : AllGd z) (hz : z.length = mine.length) (h : UnP z.dropLast p) : Made68 mine theirs z k (rT "Unsteady" [(p : Int)]) := .inr ⟨hl, .inr ⟨ha, hz, .inl ⟨p, h, rfl⟩⟩⟩
theorem mk_far {mine theirs : List Int} {z : List Nat} {k : Int} (hl : mine.length = theirs.length) (ha : AllGd z) (hz : z.length = mine.length) (hs : StP2 z.dropLast) (h : ¬ (valO (rowOf mine theirs) z false ≤ k ∧ k ≤ valO (rowOf mine theirs) z true)) :
    Made68 mine theirs z k (rT "Unreachable" [k, valO (rowOf mine theirs) z false, valO (rowOf mine theirs) z true]) := .inr ⟨hl, .inr ⟨ha, hz, .inr ⟨hs, .inl ⟨h, rfl⟩⟩⟩⟩
theorem mk_done {mine theirs : List Int} {z : List Nat} {k : Int} (hl : mine.length = theirs.length) (ha : AllGd z) (hz : z.length = mine.length) (hs : StP2 z.dropLast) (h : valO (rowOf mine theirs) z false ≤ k ∧ k ≤ valO (rowOf mine theirs) z true) :
    Made68 mine theirs z k (rT "done" []) := .inr ⟨hl, .inr ⟨ha, hz, .inr ⟨hs, .inr ⟨h, rfl⟩⟩⟩⟩
theorem mk_len {mine theirs : List Int} {z : List Nat} {k : Int} (hl : mine.length ≠ theirs.length) : Made68 mine theirs z k (rT "BadHands" [(mine.length : Int), (theirs.length : Int)]) := .inl ⟨hl, rfl⟩
/-- my letter, then the last one: unsteady at my letter -/
theorem uns_at {a : List Nat} {x : Nat} : UnP (a ++ [77, x]).dropLast a.length := by
  have e : (a ++ [77, x]).dropLast = a ++ [77] := by
    rw [show a ++ [77, x] = (a ++ [77]) ++ [x] by simp, List.dropLast_concat]
  rw [e]
  refine ⟨by simp, ?_, fun q h1 h2 => ?_⟩
  · unfold sur
    rw [List.drop_left]
    decide
  · rw [List.length_append, List.length_singleton] at h2
    omega
end K43
namespace K43
open PySem PySem.Spec PyProof.Rows L2
theorem b69 {W : Wd} (B : Bl W.mg) (C68 : Fn W "_law_make" 11 P68 [] F68) (C67 : Fn W "_law_broken" 1 ["_law_word_here"] [] F48) : Body W 11 N69 "_law_created" s69 5 F69 := by
  intro f cdv A outer s H G Q E ss Φ o hr hF hO
  obtain ⟨mine, theirs, z, fr, rfl, hn, hl, hz, hg, hs, hf, hgf, hfr, rfl⟩ := hF
  have hu : (A.deeper (envOfC "_law_created" (defScope s69) s.heap.objs.size f cdv)).units + 64 < cLine := hr.units
  generalize hlo : valO (rowOf mine theirs) z false = lo at hO
  generalize hhi : valO (rowOf mine theirs) z true = hi at hO
  refine vb_set 5 (d := .int mine.length) ((v_lenL B (v_name 0 rfl)).is (by rw [dI_len])) S69.nd ?_
  refine vb_if1 (c := false) (vt_neR [((mine.length + 1 : Nat) : Int), (theirs.length : Int)] hu (v_call (d := rT "BadHands" [((mine ++ [0]).length : Int), (theirs.length : Int)]) inW C68 hr (va_d ((vn_cat (v_name 0 rfl) (vn_lst (ds := [.int 0]) (va_d v_int va_nil)).ve (by rw [dI_len]; simp only [List.length_cons, List.length_nil]; omega)).ve.is (d' := dL (mine ++ [0])) (by rw [dI_snoc]; rfl)) (va_d (v_name 1 rfl) (va_d (v_strC (z := [120])) (va_d v_int va_nil)))) ⟨mine ++ [0], theirs, [120], 0, _, rfl, by simp; omega, by omega, by decide, mk_len (by simp; omega), rfl⟩ |>.is (by simp)) ((v_tup (ds := [.str "BadHands", .int ((mine.length + 1 : Nat) : Int), .int theirs.length]) (va_d v_str (va_d ((v_add (v_name 5 rfl) v_int).is (by simp)) (va_d ((v_name 5 rfl).is (by rw [hl])) va_nil)))))) (fun h => by cases h) (fun _ => ?_)
  refine vb_if1 (c := false) (vt_neR [(mine.length : Int), ((mine.length + 2 : Nat) : Int)] hu (v_call (d := rT "BadHands" [(mine.length : Int), ((theirs ++ [0, 0]).length : Int)]) inW C68 hr (va_d (v_name 0 rfl) (va_d ((vn_cat (v_name 1 rfl) (vn_lst (ds := [.int 0, .int 0]) (va_d v_int (va_d v_int va_nil))).ve (by rw [dI_len]; simp only [List.length_cons, List.length_nil]; omega)).ve.is (d' := dL (theirs ++ [0, 0])) (by unfold dL dI; simp)) (va_d (v_name 2 rfl) (va_d (v_ixL (v_name 4 rfl) v_int rfl) va_nil)))) ⟨mine, theirs ++ [0, 0], z, lo, _, rfl, by omega, by simp; omega, by omega, mk_len (by simp; omega), rfl⟩ |>.is (by simp [hl])) ((v_tup (ds := [.str "BadHands", .int mine.length, .int ((mine.length + 2 : Nat) : Int)]) (va_d v_str (va_d (v_name 5 rfl) (va_d ((v_add (v_name 5 rfl) v_int).is (by simp)) va_nil)))))) (fun h => by cases h) (fun _ => ?_)
  have gM : ∀ n : Nat, AllGd (List.replicate n 77 ++ [77]) := fun n i c hc => by
    have := List.mem_of_getElem? hc
    rw [List.mem_append, List.mem_replicate, List.mem_singleton] at this
    exact .inl (this.elim (fun h => h.2) id)
  refine vb_if1 (c := false) (vt_neR [(mine.length : Int)] hu (v_call (d := rT "BadWord" [(mine.length : Int)]) inW C68 hr (va_d (v_name 0 rfl) (va_d (v_name 1 rfl) (va_d (v_addS (i := List.replicate mine.length 77) (j := [77]) (v_mulS (c := 77) v_strC (v_name 5 rfl) (by omega)) v_strC (by rw [List.length_replicate]; simp; omega)) (va_d (v_neg v_int) va_nil)))) ⟨mine, theirs, List.replicate mine.length 77 ++ [77], -1, _, rfl, by omega, by omega, by simp; omega, mk_bad hl (.inr ⟨gM _, .inl ⟨by simp, rfl⟩⟩), rfl⟩) (v_tup (ds := [.str "BadWord", .int mine.length]) (va_d v_str (va_d (v_name 5 rfl) va_nil)))) (fun h => by cases h) (fun _ => ?_)
  refine vb_if1 (c := false) (vt_neR [(mine.length : Int)] hu (v_call (d := rT "BadWord" [(mine.length : Int)]) inW C68 hr (va_d (v_name 0 rfl) (va_d (v_name 1 rfl) (va_d (v_addS (i := z) (j := [116]) (v_name 2 rfl) v_strC (by simp; omega)) (va_d (v_ixL (v_name 4 rfl) v_int rfl) va_nil)))) ⟨mine, theirs, z ++ [116], lo, _, rfl, by omega, by omega, by simp; omega, mk_bad hl (.inl (hz ▸ bad_app hg (by unfold gd; decide) [])), rfl⟩) (v_tup (ds := [.str "BadWord", .int mine.length]) (va_d v_str (va_d (v_name 5 rfl) va_nil)))) (fun h => by cases h) (fun _ => ?_)
  have bx : FirstBad (z ++ [77, 120]) (mine.length + 1) := by
    have h := bad_app (c := 120) (gd_app hg (gd_one (.inl rfl))) (by unfold gd; decide) []
    rw [List.append_assoc] at h
    have e : (z ++ [77]).length = mine.length + 1 := by simp [hz]
    rw [e] at h
    exact h
  refine vb_if1 (c := false) (vt_neR [((mine.length + 1 : Nat) : Int)] hu (v_call (d := rT "BadWord" [((mine.length + 1 : Nat) : Int)]) inW C68 hr (va_d (v_name 0 rfl) (va_d (v_name 1 rfl) (va_d (v_addS (i := z) (j := [77, 120]) (v_name 2 rfl) v_strC (by simp; omega)) (va_d (v_ixL (v_name 4 rfl) v_int rfl) va_nil)))) ⟨mine, theirs, z ++ [77, 120], lo, _, rfl, by omega, by omega, by simp; omega, mk_bad hl (.inl bx), rfl⟩) (v_tup (ds := [.str "BadWord", .int ((mine.length + 1 : Nat) : Int)]) (va_d v_str (va_d ((v_add (v_name 5 rfl) v_int).is (by simp)) va_nil)))) (fun h => by cases h) (fun _ => ?_)
  have hd2 : (z.drop 2).length ≤ 900 := by rw [List.length_drop]; omega
  have fb0 : FirstBad (120 :: z.drop 2) 0 := ⟨⟨120, rfl, by unfold gd; decide⟩, fun i c hi _ => absurd hi (Nat.not_lt_zero i)⟩
  refine vb_if1 (c := false) ?_ (fun h => by cases h) (fun _ => ?_)
  · by_cases h1 : 1 < mine.length
    · exact VW.vt (vw_and (c := true) (d := false) ((vt_gt (v_name 5 rfl) v_int).is (decide_eq_true (by omega))) (fun _ => vw_and1 (vt_neR [((0 : Nat) : Int)] hu (v_call (d := rT "BadWord" [((0 : Nat) : Int)]) inW C68 hr (va_d (v_name 0 rfl) (va_d (v_name 1 rfl) (va_d (v_addS (i := [120]) (j := z.drop 2) v_strC ((v_slS (v_name 2 rfl) (vo_some v_int) vo_none (by omega)).is (by rw [show ((2 : Int)) = ((2 : Nat) : Int) from rfl, cut_from])) (by simp; omega)) (va_d (v_ixL (v_name 4 rfl) v_int rfl) va_nil)))) ⟨mine, theirs, 120 :: z.drop 2, lo, _, rfl, by omega, by omega, by simp only [List.length_cons]; omega, mk_bad hl (.inl fb0), rfl⟩) (v_tup (ds := [.str "BadWord", .int ((0 : Nat) : Int)]) (va_d v_str (va_d v_int va_nil))))))
    · exact VW.vt (vw_and (c := false) (d := false) ((vt_gt (v_name 5 rfl) v_int).is (decide_eq_false (by omega))) (fun h => by cases h))
  have lt2 : (z.take (mine.length - 2)).length = mine.length - 2 := by rw [List.length_take]; omega
  refine vb_if1 (c := false) ?_ (fun h => by cases h) (fun _ => ?_)
  · by_cases h1 : 1 < mine.length
    · exact VW.vt (vw_and (c := true) (d := false) ((vt_gt (v_name 5 rfl) v_int).is (decide_eq_true (by omega))) (fun _ => vw_and1 (vt_neR [((mine.length - 2 : Nat) : Int)] hu (v_call (d := rT "BadWord" [((mine.length - 2 : Nat) : Int)]) inW C68 hr (va_d (v_name 0 rfl) (va_d (v_name 1 rfl) (va_d ((v_slS (v_name 2 rfl) vo_none (vo_some ((v_sub (v_name 5 rfl) v_int).is (d' := .int ((mine.length - 2 : Nat) : Int)) (by congr 1; omega))) (by omega)).is (by rw [cut_all])) (va_d (v_ixL (v_name 4 rfl) v_int rfl) va_nil)))) ⟨mine, theirs, z.take (mine.length - 2), lo, _, rfl, by omega, by omega, by omega, mk_bad hl (.inr ⟨gd_take hg _, .inr ⟨by omega, by omega⟩⟩), rfl⟩) (v_tup (ds := [.str "BadWord", .int ((mine.length - 2 : Nat) : Int)]) (va_d v_str (va_d ((v_sub (v_name 5 rfl) v_int).is (by congr 1; omega)) va_nil))))))
    · exact VW.vt (vw_and (c := false) (d := false) ((vt_gt (v_name 5 rfl) v_int).is (decide_eq_false (by omega))) (fun h => by cases h))
  have ld1 : (z.drop 1).length = mine.length - 1 := by rw [List.length_drop]; omega
  refine vb_if1 (c := false) ?_ (fun h => by cases h) (fun _ => ?_)
  · by_cases h1 : 0 < mine.length
    · exact VW.vt (vw_and (c := true) (d := false) ((vt_gt (v_name 5 rfl) v_int).is (decide_eq_true (by omega))) (fun _ => vw_and1 (vt_neR [((mine.length - 1 : Nat) : Int)] hu (v_call (d := rT "BadWord" [((mine.length - 1 : Nat) : Int)]) inW C68 hr (va_d (v_name 0 rfl) (va_d (v_name 1 rfl) (va_d (v_tail (v_name 2 rfl) (by omega)) (va_d (v_ixL (v_name 4 rfl) v_int rfl) va_nil)))) ⟨mine, theirs, z.drop 1, lo, _, rfl, by omega, by omega, by omega, mk_bad hl (.inr ⟨gd_tail hg, .inr ⟨by omega, by omega⟩⟩), rfl⟩) (v_tup (ds := [.str "BadWord", .int ((mine.length - 1 : Nat) : Int)]) (va_d v_str (va_d ((v_sub (v_name 5 rfl) v_int).is (by congr 1; omega)) va_nil))))))
    · exact VW.vt (vw_and (c := false) (d := false) ((vt_gt (v_name 5 rfl) v_int).is (decide_eq_false (by omega))) (fun h => by cases h))
  refine vb_if1 (c := false) ?_ (fun h => by cases h) (fun _ => ?_)
  · by_cases h1 : 1 < mine.length
    · have hlast : z[mine.length - 1]? = some z[mine.length - 1] := List.getElem?_eq_getElem (by omega)
      have gl : gd z[mine.length - 1] := hg _ _ hlast
      have lw : (z.take (mine.length - 2) ++ [77, z[mine.length - 1]]).length = mine.length := by rw [List.length_append, lt2]; simp only [List.length_cons, List.length_nil]; omega
      have uu : UnP (z.take (mine.length - 2) ++ [77, z[mine.length - 1]]).dropLast (mine.length - 2) := by
        have := uns_at (a := z.take (mine.length - 2)) (x := z[mine.length - 1])
        rw [lt2] at this
        exact this
      exact VW.vt (vw_and (c := true) (d := false) ((vt_gt (v_name 5 rfl) v_int).is (decide_eq_true (by omega))) (fun _ => vw_and1 (vt_neR [((mine.length - 2 : Nat) : Int)] hu (v_call (d := rT "Unsteady" [((mine.length - 2 : Nat) : Int)]) inW C68 hr (va_d (v_name 0 rfl) (va_d (v_name 1 rfl) (va_d ((v_addS (i := z.take (mine.length - 2) ++ [77]) (j := [z[mine.length - 1]]) (v_addS (i := z.take (mine.length - 2)) (j := [77]) ((v_slS (v_name 2 rfl) vo_none (vo_some ((v_sub (v_name 5 rfl) v_int).is (d' := .int ((mine.length - 2 : Nat) : Int)) (by congr 1; omega))) (by omega)).is (by rw [cut_all])) v_strC (by rw [lt2]; simp; omega)) (v_ixS (v_name 2 rfl) ((v_sub (v_name 5 rfl) v_int).is (d' := .int ((mine.length - 1 : Nat) : Int)) (by congr 1; omega)) (by omega) (atI_nat hlast)) (by rw [List.length_append, lt2]; simp; omega)).is (d' := .str ⟨(z.take (mine.length - 2) ++ [77, z[mine.length - 1]]).toArray⟩) (by rw [List.append_assoc]; rfl)) (va_d (v_neg v_int) va_nil)))) ⟨mine, theirs, z.take (mine.length - 2) ++ [77, z[mine.length - 1]], -7, _, rfl, by omega, by omega, by omega, mk_uns hl (gd_app (gd_take hg _) (gd_cons (.inl rfl) (gd_one gl))) lw uu, rfl⟩) (v_tup (ds := [.str "Unsteady", .int ((mine.length - 2 : Nat) : Int)]) (va_d v_str (va_d ((v_sub (v_name 5 rfl) v_int).is (by congr 1; omega)) va_nil))))))
    · exact VW.vt (vw_and (c := false) (d := false) ((vt_gt (v_name 5 rfl) v_int).is (decide_eq_false (by omega))) (fun h => by cases h))
  refine vb_if1 (c := false) ?_ (fun h => by cases h) (fun _ => ?_)
  · have hfl : fr.length ≤ 1000 := by omega
    rcases hfr with ⟨p, hp⟩ | hst
    · exact VW.vt (vw_and (c := true) (d := false) (vt_notN (v_call (d := .int (p : Int)) inW C67 hr (va_d (v_name 3 rfl) va_nil) ⟨fr, rfl, hfl, hgf, .inl ⟨p, hp, rfl⟩⟩)) (fun _ => vw_and1 (vt_neR [(p : Int)] hu (v_call (d := rT "Unsteady" [(p : Int)]) inW C68 hr (va_d (v_name 0 rfl) (va_d (v_name 1 rfl) (va_d (v_name 3 rfl) (va_d (v_ixL (d := .int hi) (v_name 4 rfl) v_int rfl) va_nil)))) ⟨mine, theirs, fr, hi, _, rfl, by omega, by omega, hfl, mk_uns hl hgf hf hp, rfl⟩) (v_tup (ds := [.str "Unsteady", .int (p : Int)]) (va_d v_str (va_d (v_call (d := .int (p : Int)) inW C67 hr (va_d (v_name 3 rfl) va_nil) ⟨fr, rfl, hfl, hgf, .inl ⟨p, hp, rfl⟩⟩) va_nil))))))
    · exact VW.vt (vw_and (c := false) (d := false) (vt_notN (v_call (d := .none) inW C67 hr (va_d (v_name 3 rfl) va_nil) ⟨fr, rfl, hfl, hgf, .inr ⟨hst, rfl⟩⟩)) (fun h => by cases h))
  have hlh : lo ≤ hi := by rw [← hlo, ← hhi]; exact val_le hl hz hg hs
  have hbig : -(10 : Int) ^ 15 < lo := by rw [← hlo]; exact low_big (by omega) (by omega)
  have e15 : (10 : Int) ^ (15 : Int).toNat = 10 ^ 15 := rfl
  have far : ∀ k : Int, ¬ (lo ≤ k ∧ k ≤ hi) → Made68 mine theirs z k (rT "Unreachable" [k, lo, hi]) := fun k h => by
    have := mk_far (mine := mine) (theirs := theirs) (z := z) (k := k) hl hg hz hs (by rw [hlo, hhi]; exact h)
    rw [hlo, hhi] at this
    exact this
  refine vb_for (ds := dI [lo - 1, hi + 1, hi + 5, -(10 ^ (15 : Int).toNat)]) (is := [6]) (f := fun d ρ => ρ.set 6 (.d d)) (fun _ => [.d (dL mine), .d (dL theirs), .d (.str ⟨z.toArray⟩), .d (.str ⟨fr.toArray⟩), .d (.list [.int lo, .int hi]), .d (.int mine.length), .no]) (fun _ => Φ) ownF rfl
    (vi_list (vn_lst (ds := [.int (lo - 1), .int (hi + 1), .int (hi + 5), .int (-(10 ^ (15 : Int).toNat))]) (va_d (v_sub (v_ixL (d := .int lo) (v_name 4 rfl) v_int rfl) v_int) (va_d (v_add (v_ixL (d := .int hi) (v_name 4 rfl) v_int rfl) v_int) (va_d (v_add (v_ixL (d := .int hi) (v_name 4 rfl) v_int rfl) v_int) (va_d (v_neg (v_pow v_int v_int (by unfold CPow; decide))) va_nil))))).ve)
    (fun d _ => vg_name 6 S69.nd) ⟨.inr rfl, .inr rfl, .inr rfl, .inr rfl, .inr rfl, .inr rfl, .inr rfl, True.intro⟩ (fun G H h => h) (fun Gm' _ i d hd => ?_) ?_
  · obtain ⟨x, hx, rfl⟩ := dI_at hd
    have hxf : ¬ (lo ≤ x ∧ x ≤ hi) := by
      rw [e15] at hx
      have hm := List.mem_of_getElem? hx
      simp only [List.mem_cons, List.not_mem_nil, or_false] at hm
      rcases hm with rfl | rfl | rfl | rfl <;> omega
    exact vb_if1 (c := false) (vt_neR [x, lo, hi] hu (v_call (d := rT "Unreachable" [x, lo, hi]) inW C68 hr (va_d (v_name 0 rfl) (va_d (v_name 1 rfl) (va_d (v_name 2 rfl) (va_d (v_name 6 rfl) va_nil)))) ⟨mine, theirs, z, x, _, rfl, by omega, by omega, by omega, far x hxf, rfl⟩) (v_tup (ds := [.str "Unreachable", .int x, .int lo, .int hi]) (va_d v_str (va_d (v_name 6 rfl) (va_d (v_ixL (d := .int lo) (v_name 4 rfl) v_int rfl) (va_d (v_ixL (d := .int hi) (v_name 4 rfl) v_int rfl) va_nil)))))) (fun h => by cases h) (fun _ => vb_nx rfl ⟨.inr rfl, .inr rfl, .inr rfl, .inr rfl, .inr rfl, .inr rfl, .inl rfl, True.intro⟩ (fun G H h => h))
  · have don : ∀ k : Int, lo ≤ k → k ≤ hi → Made68 mine theirs z k (rT "done" []) := fun k h1 h2 => mk_done hl hg hz hs (by rw [hlo, hhi]; exact ⟨h1, h2⟩)
    have shd : SeqAt.shaped (rT "done" []) = true := shp_rT [] (by decide +kernel)
    exact vb_ret ((v_and (c := true) (d := true) ((v_cmp (op_eqD hu) (v_call (d := rT "done" []) inW C68 hr (va_d (v_name 0 rfl) (va_d (v_name 1 rfl) (va_d (v_name 2 rfl) (va_d (v_ixL (d := .int lo) (v_name 4 rfl) v_int rfl) va_nil)))) ⟨mine, theirs, z, lo, _, rfl, by omega, by omega, by omega, don lo (Int.le_refl _) hlh, rfl⟩) (v_tup (ds := [.str "done"]) (va_d v_str va_nil)) (r_eqD shd shd) (nomark _)).is (congrArg PyData.bool (eqv_rT "done" []))) (fun _ => v_one ((v_cmp (op_eqD hu) (v_call (d := rT "done" []) inW C68 hr (va_d (v_name 0 rfl) (va_d (v_name 1 rfl) (va_d (v_name 2 rfl) (va_d (v_ixL (d := .int hi) (v_name 4 rfl) v_int rfl) va_nil)))) ⟨mine, theirs, z, hi, _, rfl, by omega, by omega, by omega, don hi hlh (Int.le_refl _), rfl⟩) (v_tup (ds := [.str "done"]) (va_d v_str va_nil)) (r_eqD shd shd) (nomark _)).is (congrArg PyData.bool (eqv_rT "done" [])))))) hO
theorem fn69 {W : Wd} {f : Addr} {fd : FuncData} (B : Bl W.mg) (C68 : Fn W "_law_make" 11 P68 [] F68) (C67 : Fn W "_law_broken" 1 ["_law_word_here"] [] F48) (D : FunP W "_law_created" s69 [] f fd) (hm : W.mg "_law_created" = some (.ref f)) : Fn W "_law_created" 12 P69 [] F69 :=
  fn_mk D hm S69 (b69 B C68 C67) fun _ _ _ _ _ _ us hl => match us, hl with | [_, _, _, _, _], _ => rfl
end K43
namespace K43
open PySem PySem.Spec PyProof.Rows L2
/-! ### a play, round by round -/
theorem ext2_pr {l : List Int} (h : l ≠ []) : ∃ p : Int × Int, Ext2 l p.1 p.2 := by
  obtain ⟨v, hv, h1⟩ := great l h
  obtain ⟨w, hw, h2⟩ := small l h
  exact ⟨(v, w), ⟨hv, h1⟩, hw, h2⟩
open Classical in
noncomputable def exOf (l : List Int) : Int × Int := if h : l ≠ [] then Classical.choose (ext2_pr h) else (0, 0)
theorem exOf_ok {l : List Int} (h : l ≠ []) : Ext2 l (exOf l).1 (exOf l).2 := by
  unfold exOf
  rw [dif_pos h]
  exact Classical.choose_spec (ext2_pr h)
/-- the places of a round's pair -/
noncomputable def foeAt (mine theirs : List Int) (z : List Nat) (k : Int) (a b : Nat) (ml tl : List Nat) : Nat :=
  if z.head? = some 77 then foeOf (pk ml mine) (pk tl theirs) (some (layOf (pk ml mine) (pk tl theirs) (zM z) (zT z) k)) a b (exOf (levT (pk ml mine) (pk tl theirs))).1 (exOf (levT (pk ml mine) (pk tl theirs))).2
  else foeOf (pk ml mine) (pk tl theirs) none a b (exOf (levT (pk ml mine) (pk tl theirs))).1 (exOf (levT (pk ml mine) (pk tl theirs))).2
noncomputable def mineAt (mine theirs : List Int) (z : List Nat) (k : Int) (a b : Nat) (ml tl : List Nat) : Nat :=
  if z.head? = some 77 then layOf (pk ml mine) (pk tl theirs) (zM z) (zT z) k
  else ansOf (pk ml mine) (pk tl theirs) (foeAt mine theirs z k a b ml tl) (zM (z.drop 1)) (zT (z.drop 1)) k
structure Ps where
  ml : List Nat
  tl : List Nat
  hits : Int
structure Gam where
  mine : List Int
  theirs : List Int
  w : List Nat
  k : Int
  a : Nat
  pl : List Int
  ast : Bool
section
variable (g : Gam)
noncomputable def Gam.fo (i : Nat) (s : Ps) : Nat := foeAt g.mine g.theirs (g.w.drop i) (g.k - s.hits) g.a (g.pl.getD i 0).toNat s.ml s.tl
noncomputable def Gam.own (i : Nat) (s : Ps) : Nat := mineAt g.mine g.theirs (g.w.drop i) (g.k - s.hits) g.a (g.pl.getD i 0).toNat s.ml s.tl
noncomputable def Gam.me (i : Nat) (s : Ps) : Nat := if g.ast then (g.pl.getD i 0).toNat / 205 % s.ml.length else g.own i s
noncomputable def Gam.m (i : Nat) (s : Ps) : Nat := s.ml.getD (g.me i s) 0
noncomputable def Gam.t (i : Nat) (s : Ps) : Nat := s.tl.getD (g.fo i s) 0
noncomputable def Gam.nx (i : Nat) (s : Ps) : Ps := ⟨s.ml.erase (g.m i s), s.tl.erase (g.t i s), s.hits + hit g.mine g.theirs (g.m i s) (g.t i s)⟩
noncomputable def Gam.at_ : Nat → Ps
  | 0 => ⟨List.range g.w.length, List.range g.w.length, 0⟩
  | i + 1 => g.nx i (Gam.at_ i)
/-- what is given -/
structure Gam.Ok : Prop where
  n : g.w.length ≤ 900
  m : g.mine.length = g.w.length
  t : g.theirs.length = g.w.length
  ha : AllGd g.w
  st : StP2 g.w.dropLast
  lo : valO (rowOf g.mine g.theirs) g.w false ≤ g.k
  hi : g.k ≤ valO (rowOf g.mine g.theirs) g.w true
structure Gam.Inv (i : Nat) (s : Ps) : Prop where
  lm : s.ml.length + i = g.w.length
  lt : s.tl.length + i = g.w.length
  nm : s.ml.Nodup
  nt : s.tl.Nodup
  rm : ∀ x ∈ s.ml, x < g.w.length
  rt : ∀ x ∈ s.tl, x < g.w.length
  bd : g.ast = false → valO (rowOf (pk s.ml g.mine) (pk s.tl g.theirs)) (g.w.drop i) false ≤ g.k - s.hits ∧ g.k - s.hits ≤ valO (rowOf (pk s.ml g.mine) (pk s.tl g.theirs)) (g.w.drop i) true
end
theorem pk_range (l : List Int) : pk (List.range l.length) l = l := by
  refine List.ext_getElem (by rw [pk_len, List.length_range]) fun i h1 h2 => ?_
  rw [List.getElem_map, List.getElem_range, List.getD_eq_getElem?_getD, List.getElem?_eq_getElem h2]
  rfl
theorem map_er {α β : Type} (f : α → β) : ∀ (l : List α) (i : Nat), (l.eraseIdx i).map f = (l.map f).eraseIdx i
  | [], _ => rfl
  | _ :: _, 0 => rfl
  | a :: l, i + 1 => by
    rw [List.eraseIdx_cons_succ, List.map_cons, List.map_cons, List.eraseIdx_cons_succ, map_er f l i]
theorem pk_erase {l : List Nat} {h : List Int} (hn : l.Nodup) {i : Nat} (hi : i < l.length) : pk (l.erase (l.getD i 0)) h = (pk l h).eraseIdx i := by
  rw [List.erase_eq_eraseIdx_of_idxOf (idx_getD hn hi)]
  exact map_er _ _ _
theorem pk_getD {l : List Nat} {h : List Int} {i : Nat} (hi : i < l.length) : (pk l h).getD i 0 = h.getD (l.getD i 0) 0 := by
  rw [List.getD_eq_getElem?_getD, List.getElem?_map, List.getD_eq_getElem?_getD (l := l), List.getElem?_eq_getElem hi]
  rfl
theorem hit_pk {mine theirs : List Int} {ml tl : List Nat} {i j : Nat} (hi : i < ml.length) (hj : j < tl.length) : hit (pk ml mine) (pk tl theirs) i j = hit mine theirs (ml.getD i 0) (tl.getD j 0) := by
  unfold hit
  rw [pk_getD hi, pk_getD hj]
theorem gd_dropN {z : List Nat} (h : AllGd z) (n : Nat) : AllGd (z.drop n) := fun i c hc => by
  rw [List.getElem?_drop] at hc
  exact h _ c hc
theorem dl_drop (z : List Nat) (n : Nat) : (z.drop n).dropLast = z.dropLast.drop n := by
  rw [List.dropLast_eq_take, List.dropLast_eq_take, List.drop_take, List.length_drop]
  congr 1
  omega
theorem st_drop {e : List Nat} (h : StP2 e) (n : Nat) : StP2 (e.drop n) := fun q hq => by
  rw [List.length_drop] at hq
  have := h (n + q) (by omega)
  unfold sur at this ⊢
  rw [List.drop_drop]
  exact this
theorem lev_ne {mine theirs : List Int} (h : 0 < theirs.length) : levT mine theirs ≠ [] := by
  intro e
  have := congrArg List.length e
  unfold levT at this
  rw [List.length_map, List.length_range, List.length_nil] at this
  omega
section
variable {g : Gam}
theorem Gam.inv0 (h : g.Ok) : g.Inv 0 (g.at_ 0) := by
  refine ⟨?_, ?_, List.nodup_range, List.nodup_range, fun x hx => List.mem_range.mp hx, fun x hx => List.mem_range.mp hx, fun _ => ?_⟩
  · show (List.range g.w.length).length + 0 = _
    rw [List.length_range]
    rfl
  · show (List.range g.w.length).length + 0 = _
    rw [List.length_range]
    rfl
  · show valO (rowOf (pk (List.range g.w.length) g.mine) (pk (List.range g.w.length) g.theirs)) (g.w.drop 0) false ≤ g.k - 0 ∧ g.k - 0 ≤ valO (rowOf (pk (List.range g.w.length) g.mine) (pk (List.range g.w.length) g.theirs)) (g.w.drop 0) true
    have e1 := pk_range g.mine
    have e2 := pk_range g.theirs
    rw [h.m] at e1
    rw [h.t] at e2
    rw [e1, e2, List.drop_zero, Int.sub_zero]
    exact ⟨h.lo, h.hi⟩
variable {i : Nat} {s : Ps}
theorem Gam.word (hi : i < g.w.length) : g.w.drop i = g.w[i] :: g.w.drop (i + 1) := List.drop_eq_getElem_cons hi
theorem Gam.drop1 : (g.w.drop i).drop 1 = g.w.drop (i + 1) := by
  rw [List.drop_drop]
theorem Gam.fo_lt (h : g.Ok) (v : g.Inv i s) (hi : i < g.w.length) : g.fo i s < s.tl.length := by
  have l4 := pk_len s.ml g.mine
  have l5 := pk_len s.tl g.theirs
  have := v.lm
  have := v.lt
  have he := exOf_ok (lev_ne (mine := pk s.ml g.mine) (theirs := pk s.tl g.theirs) (by omega))
  unfold Gam.fo foeAt
  split
  · have := foe_lt (mine := pk s.ml g.mine) (theirs := pk s.tl g.theirs) (laid := some (layOf (pk s.ml g.mine) (pk s.tl g.theirs) (zM (g.w.drop i)) (zT (g.w.drop i)) (g.k - s.hits))) (a := g.a) (b := (g.pl.getD i 0).toNat) (by omega) (by omega) (lay_mem (by omega)) he
    omega
  · have := foe_lt (mine := pk s.ml g.mine) (theirs := pk s.tl g.theirs) (laid := none) (a := g.a) (b := (g.pl.getD i 0).toNat) (by omega) (by omega) True.intro he
    omega
theorem Gam.own_lt (h : g.Ok) (v : g.Inv i s) (hi : i < g.w.length) : g.own i s < s.ml.length := by
  have l4 := pk_len s.ml g.mine
  have l5 := pk_len s.tl g.theirs
  have := v.lm
  have := v.lt
  have hf := Gam.fo_lt h v hi
  unfold Gam.own mineAt
  split
  · have := lay_mem (mine := pk s.ml g.mine) (theirs := pk s.tl g.theirs) (f := zM (g.w.drop i)) (t := zT (g.w.drop i)) (k := g.k - s.hits) (by omega)
    omega
  · have := ans_mem (mine := pk s.ml g.mine) (theirs := pk s.tl g.theirs) (l := foeAt g.mine g.theirs (g.w.drop i) (g.k - s.hits) g.a (g.pl.getD i 0).toNat s.ml s.tl) (f := zM ((g.w.drop i).drop 1)) (t := zT ((g.w.drop i).drop 1)) (k := g.k - s.hits) (by unfold Gam.fo at hf; omega) (by omega)
    omega
theorem Gam.me_lt (h : g.Ok) (v : g.Inv i s) (hi : i < g.w.length) : g.me i s < s.ml.length := by
  unfold Gam.me
  split
  · have := v.lm
    exact Nat.mod_lt _ (by omega)
  · exact Gam.own_lt h v hi
theorem Gam.step (h : g.Ok) (v : g.Inv i s) (hi : i < g.w.length) : g.Inv (i + 1) (g.nx i s) := by
  have l4 := pk_len s.ml g.mine
  have l5 := pk_len s.tl g.theirs
  have lm := v.lm
  have lt := v.lt
  have hf := Gam.fo_lt h v hi
  have hm := Gam.me_lt h v hi
  have mm : g.m i s ∈ s.ml := getD_mem hm
  have mt : g.t i s ∈ s.tl := getD_mem hf
  refine ⟨?_, ?_, v.nm.erase _, v.nt.erase _, fun x hx => v.rm x (List.mem_of_mem_erase hx), fun x hx => v.rt x (List.mem_of_mem_erase hx), fun ha => ?_⟩
  · show (s.ml.erase (g.m i s)).length + (i + 1) = _
    rw [List.length_erase_of_mem mm]
    omega
  · show (s.tl.erase (g.t i s)).length + (i + 1) = _
    rw [List.length_erase_of_mem mt]
    omega
  · have e1 : pk (s.ml.erase (g.m i s)) g.mine = (pk s.ml g.mine).eraseIdx (g.me i s) := pk_erase v.nm hm
    have e2 : pk (s.tl.erase (g.t i s)) g.theirs = (pk s.tl g.theirs).eraseIdx (g.fo i s) := pk_erase v.nt hf
    have e3 : hit (pk s.ml g.mine) (pk s.tl g.theirs) (g.me i s) (g.fo i s) = hit g.mine g.theirs (g.m i s) (g.t i s) := hit_pk hm hf
    show valO (rowOf (pk (s.ml.erase (g.m i s)) g.mine) (pk (s.tl.erase (g.t i s)) g.theirs)) (g.w.drop (i + 1)) false ≤ g.k - (s.hits + hit g.mine g.theirs (g.m i s) (g.t i s)) ∧ g.k - (s.hits + hit g.mine g.theirs (g.m i s) (g.t i s)) ≤ valO (rowOf (pk (s.ml.erase (g.m i s)) g.mine) (pk (s.tl.erase (g.t i s)) g.theirs)) (g.w.drop (i + 1)) true
    rw [e1, e2, ← e3]
    obtain ⟨b1, b2⟩ := v.bd ha
    have gz := gd_dropN h.ha i
    have gu := gd_dropN h.ha (i + 1)
    have hst : stead (toB (g.w.drop i)).dropLast := by
      rw [toB_dl]
      refine stead_z (gd_drop gz) ?_
      rw [dl_drop]
      exact st_drop h.st i
    have hu : (toB (g.w.drop (i + 1))).length + 1 = (pk s.ml g.mine).length := by
      rw [toB_len, List.length_drop]
      omega
    have hl : (pk s.ml g.mine).length = (pk s.tl g.theirs).length := by omega
    have hft : g.fo i s < (pk s.tl g.theirs).length := by omega
    have gw := h.ha i g.w[i] (List.getElem?_eq_getElem hi)
    have hw := Gam.word hi
    have eu1 := nM_z (g.w.drop (i + 1))
    have eu2 := nT_z gu
    rw [valO_B gz, if_neg Bool.false_ne_true] at b1
    rw [valO_B gz, if_pos rfl] at b2
    rw [valO_B gu, if_neg Bool.false_ne_true, valO_B gu, if_pos rfl]
    have em : g.me i s = g.own i s := by
      unfold Gam.me
      rw [if_neg (by rw [ha]; exact Bool.false_ne_true)]
    rcases gw with gw | gw
    · have hz : toB (g.w.drop i) = true :: toB (g.w.drop (i + 1)) := by
        rw [hw, gw]
        rfl
      have eo : g.own i s = layOf (pk s.ml g.mine) (pk s.tl g.theirs) (nM (true :: toB (g.w.drop (i + 1)))) (nT (true :: toB (g.w.drop (i + 1)))) (g.k - s.hits) := by
        unfold Gam.own mineAt
        rw [if_pos (by rw [hw, gw]; rfl), ← hz, nM_z, nT_z gz]
      rw [hz] at b1 b2 hst
      have := lay_keeps hl hu hst b1 b2 hft
      rw [← eo, ← em] at this
      constructor
      · have := this.1
        omega
      · have := this.2
        omega
    · have hz : toB (g.w.drop i) = false :: toB (g.w.drop (i + 1)) := by
        rw [hw, gw]
        rfl
      have eo : g.own i s = ansOf (pk s.ml g.mine) (pk s.tl g.theirs) (g.fo i s) (nM (toB (g.w.drop (i + 1)))) (nT (toB (g.w.drop (i + 1)))) (g.k - s.hits) := by
        unfold Gam.own mineAt
        rw [if_neg (by rw [hw, gw]; exact fun h => by cases h), Gam.drop1, eu1, eu2]
        rfl
      rw [hz] at b1 b2 hst
      have := answer_keeps hl hu hst b1 b2 hft
      rw [← eo, ← em] at this
      constructor
      · have := this.1
        omega
      · have := this.2
        omega
theorem Gam.inv (h : g.Ok) : ∀ i : Nat, i ≤ g.w.length → g.Inv i (g.at_ i)
  | 0, _ => Gam.inv0 h
  | i + 1, hi => Gam.step h (Gam.inv h i (by omega)) hi
/-- at the end the wanted result is won -/
theorem Gam.fin (h : g.Ok) (ha : g.ast = false) : (g.at_ g.w.length).hits = g.k := by
  have v := Gam.inv h g.w.length (Nat.le_refl _)
  obtain ⟨b1, b2⟩ := v.bd ha
  have l5 := pk_len (g.at_ g.w.length).tl g.theirs
  have lt := v.lt
  have hr : (rowOf (pk (g.at_ g.w.length).ml g.mine) (pk (g.at_ g.w.length).tl g.theirs)).length = 0 := by
    rw [row_len]
    omega
  unfold valO lowV at b1
  unfold valO highV at b2
  rw [if_neg Bool.false_ne_true, if_pos hr] at b1
  rw [if_pos rfl, if_pos hr] at b2
  omega
end
end K43
namespace K43
open PySem PySem.Spec PyProof.Rows L2
/-! ### lists of one's own, lent -/
/-- still what was still, and what is new since H as it is -/
def backG (G H G2 : Hp) : Hp := fun a => match H a with
  | none => G2 a
  | some _ => G a
theorem back_new {G H G2 : Hp} {a : Addr} (h : H a = none) : backG G H G2 a = G2 a := by
  unfold backG
  rw [h]
theorem back_old {G H G2 : Hp} {a : Addr} (h : H a ≠ none) : backG G H G2 a = G a := by
  unfold backG
  cases q : H a with
  | none => exact absurd q h
  | some o => rfl
theorem back_ext {G Gp H G2 H2 : Hp} (s : Same G H) (e : Ext Gp H G2 H2) : Ext G H (backG G H G2) H2 := by
  refine ⟨fun b u q => ?_, e.hh, fun b u q => ?_, fun a h g => ?_⟩
  · rw [back_old (by rw [s _ _ q]; simp)]
    exact q
  · cases z : H b with
    | none =>
      rw [back_new z] at q
      exact e.gh _ _ q
    | some o =>
      rw [back_old (by rw [z]; simp)] at q
      exact e.hh _ _ (s _ _ q)
  · rw [back_old h]
    exact g
theorem same_put {G H : Hp} {p : Addr} {o : HO} (s : Same G H) (h : H p = some o) : Same (upd G p o) H := fun b u q => by
  by_cases hb : b = p
  · rw [hb, upd_same] at q
    rw [hb, h]
    exact q
  · rw [upd_ne hb] at q
    exact s b u q
theorem SR.reset {G : Hp} {v : V} {d : PyData} (h : Rp G v d) : ∀ {ρ : List Sl} {σ : L2.St} {i : Nat}, SR G ρ σ → ρ[i]? = some (.v v) → SR G (ρ.set i (.d d)) σ
  | [], [], _, _, e => by simp at e
  | s :: ρ, o :: σ, 0, r, e => by
    have e' : s = .v v := Option.some.inj e
    subst e'
    have r1 : o = some v := r.1
    subst r1
    exact ⟨h, r.2⟩
  | s :: ρ, o :: σ, i + 1, r, e => ⟨r.1, SR.reset (i := i) h r.2 e⟩
  | [], _ :: _, _, r, _ => r.elim
  | _ :: _, [], _, r, _ => r.elim
/-- two lists of one's own in a list of one's own -/
def Given (l1 l2 l : Addr) (a b : List Int) : As := As.and (As.lst l1 (dI a)) (As.and (As.lst l2 (dI b)) (As.lsv l [.ref l1, .ref l2]))
theorem lend {G H : Hp} {l1 l2 l : Addr} {a b : List Int} (s : Same G H) (n12 : l1 ≠ l2) (n1 : l1 ≠ l) (n2 : l2 ≠ l) (h : (Given l1 l2 l a b).p G H) : ∃ Gp, Same G Gp ∧ Same Gp H ∧ Rp Gp (.ref l) (.list [dL a, dL b]) := by
  obtain ⟨⟨g1, xs1, hx1, k1⟩, ⟨g2, xs2, hx2, k2⟩, ⟨g3, hx3⟩⟩ := h
  have q2 : (upd G l1 (.lst xs1)) l2 = none := by rw [upd_ne (Ne.symm n12)]; exact g2
  have q3 : (upd (upd G l1 (.lst xs1)) l2 (.lst xs2)) l = none := by rw [upd_ne (Ne.symm n2), upd_ne (Ne.symm n1)]; exact g3
  have s1 : Same G (upd G l1 (.lst xs1)) := same_new g1
  have s2 : Same (upd G l1 (.lst xs1)) (upd (upd G l1 (.lst xs1)) l2 (.lst xs2)) := same_new q2
  have s3 : Same (upd (upd G l1 (.lst xs1)) l2 (.lst xs2)) (upd (upd (upd G l1 (.lst xs1)) l2 (.lst xs2)) l (.lst [.ref l1, .ref l2])) := same_new q3
  have s13 := (s1.trans s2).trans s3
  refine ⟨_, s13, same_put (same_put (same_put s hx1) hx2) hx3, .lst upd_same (.cons (.lst (xs := xs1) ?_ (k1.mono s13)) (.cons (.lst (xs := xs2) ?_ (k2.mono s13)) .nil))⟩
  · rw [upd_ne n1, upd_ne n12, upd_same]
  · rw [upd_ne n2, upd_same]
section
variable {W : Wd} {X : Cx} {Φ Φ' Ψ : As} {ρ : List Sl} {a b e o tg : Expr} {es : List Expr} {pos p apos : Pos} {E : XK} {Gm G0 H0 : Hp} {D : Ends} {rest A B : List Stmt} {l1 l2 l : Addr} {as bs : List Int}
theorem vt_lend {c : Bool} (i : Nat) (hr : ρ[i]? = some (.v (.ref l))) (n12 : l1 ≠ l2) (n1 : l1 ≠ l) (n2 : l2 ≠ l) (hp : ∀ G H, Φ.p G H → (Given l1 l2 l as bs).p G H) (h : VT X As.top (ρ.set i (.d (.list [dL as, dL bs]))) e c) : VT X Φ ρ e c := fun σ G H s r φ Q q => by
  obtain ⟨Gp, s1, s2, rp⟩ := lend s n12 n1 n2 (hp G H φ)
  exact h σ Gp H s2 ((r.mono s1).reset rp hr) True.intro Q fun G2 H2 e2 => q _ H2 (back_ext s e2)
theorem rp_back {G H G2 : Hp} {v : V} {xs : List Int} (h : Rp G2 v (dL xs)) (hb : ∀ b, v = .ref b → H b = none) : Rp (backG G H G2) v (dL xs) := by
  cases h with
  | lst h k =>
    have e := k.ints
    subst e
    exact .lst ((back_new (hb _ rfl)).trans h) (RpAll.of_ints _)
theorem fsO_back {G H G2 : Hp} {mine theirs : List Int} {ml tl : List Nat} {vs : List (Str × V)} (h : FsOk G2 (fsO mine theirs ml tl) vs) (q : Fr H vs) : FsOk (backG G H G2) (fsO mine theirs ml tl) vs := by
  match vs, h with
  | [(f1, v1), (f2, v2), (f3, v3), (f4, v4)], h =>
    obtain ⟨e1, k1, e2, k2, e3, k3, e4, k4, _⟩ := h
    have k3' : Rp G2 v3 (dL (zI ml)) := by
      have z : Rp G2 v3 (.list (dX ml)) := k3
      rw [dX_zI] at z
      exact z
    have k4' : Rp G2 v4 (dL (zI tl)) := by
      have z : Rp G2 v4 (.list (dX tl)) := k4
      rw [dX_zI] at z
      exact z
    have r3 := rp_back (G := G) k3' fun b e => q (f3, v3) (by simp) b e
    have r4 := rp_back (G := G) k4' fun b e => q (f4, v4) (by simp) b e
    refine ⟨e1, rp_back k1 fun b e => q (f1, v1) (by simp) b e, e2, rp_back k2 fun b e => q (f2, v2) (by simp) b e, e3, ?_, e4, ?_, True.intro⟩
    · show Rp _ v3 (.list (dX ml))
      rw [dX_zI]
      exact r3
    · show Rp _ v4 (.list (dX tl))
      rw [dX_zI]
      exact r4
  | [], h => exact h.elim
  | [_], h => exact h.2.2.elim
  | [_, _], h => exact h.2.2.2.2.elim
  | [_, _, _], h => exact h.2.2.2.2.2.2.elim
  | _ :: _ :: _ :: _ :: _ :: _, h => exact h.2.2.2.2.2.2.2.2.elim
theorem fsG_back {G H G2 : Hp} {k : Int} {z : List Nat} {hh : Addr} {vs : List (Str × V)} (h : FsOk G2 (fsG k z hh) vs) : FsOk (backG G H G2) (fsG k z hh) vs := by
  match vs, h with
  | [(f1, v1), (f2, v2), (f3, v3)], h =>
    obtain ⟨e1, k1, e2, k2, e3, k3, _⟩ := h
    have k1 : Rp G2 v1 (.int k) := k1
    have k2 : Rp G2 v2 (.str ⟨z.toArray⟩) := k2
    cases k1
    cases k2
    exact ⟨e1, Rp.int _, e2, Rp.str _, e3, k3, True.intro⟩
  | [], h => exact h.elim
  | [_], h => exact h.2.2.elim
  | [_, _], h => exact h.2.2.2.2.elim
  | _ :: _ :: _ :: _ :: _, h => exact h.2.2.2.2.2.2.elim
theorem asN_back {G H G2 H2 Hc : Hp} {cG cO g : Addr} {k : Int} {z : List Nat} {mine theirs : List Int} (hc : ∀ b, Hc b = none → H b = none) (hg : Hc g = none) (h : (AsN cG cO g Hc k z mine theirs).p G2 H2) : (AsN cG cO g Hc k z mine theirs).p (backG G H G2) H2 := by
  obtain ⟨hh, h1, h2, ⟨g0, dx, vs, hx, fs⟩, ⟨g1, dx1, vs1, hx1, fs1, fr⟩⟩ := h
  exact ⟨hh, h1, h2, ⟨(back_new (hc _ hg)).trans g0, dx, vs, hx, fsG_back fs⟩, ⟨(back_new (hc _ h1)).trans g1, dx1, vs1, hx1, fsO_back fs1 fun q hq b e => hc b (fr q hq b e), fr⟩⟩
theorem vm_lend {cG cO : Addr} {k : Int} {z : List Nat} {mine theirs : List Int} (i : Nat) (hr : ρ[i]? = some (.v (.ref l))) (n12 : l1 ≠ l2) (n1 : l1 ≠ l) (n2 : l2 ≠ l) (hp : ∀ G H, Φ.p G H → (Given l1 l2 l as bs).p G H) (h : VM X As.top (ρ.set i (.d (.list [dL as, dL bs]))) e (fun g Hc => AsN cG cO g Hc k z mine theirs)) :
    VM X Φ ρ e (fun g Hc => AsN cG cO g Hc k z mine theirs) := fun σ G H s r φ Q q => by
  obtain ⟨Gp, s1, s2, rp⟩ := lend s n12 n1 n2 (hp G H φ)
  exact h σ Gp H s2 ((r.mono s1).reset rp hr) True.intro Q fun g Hc G2 H2 hc e2 hg hk => q g Hc _ H2 hc (back_ext s e2) hg (asN_back hc hg hk)
/-- name = C(..), told what stood before -/
theorem vb_setMk {x : Str} {p : Pos} {K : Addr → Hp → As} (i : Nat) (L : List Addr) (he : VM X Φ ρ e K) (hL : ∀ G H, Φ.p G H → ∀ a ∈ L, H a ≠ none) (hN : X.N.Nodup) (k : ∀ l Hc, (∀ b, Hc b = none → H0 b = none) → (∀ a ∈ L, Hc a ≠ none) → Hc l = none → VB X Gm G0 H0 rest (As.and (K l Hc) Φ) (ρ.set i (.v (.ref l))) D) (hi : X.N[i]? = some x := by rfl) (hx : Loc X.env.scope x := by first | exact Or.inl rfl | exact Or.inr rfl)
    (hs : swapsWith e (some (.Name x p)) pos.line X.env = pure false := by rfl) (hf : X.fn x = true ∨ X.env.scope.names.lookup x = some .local := by first | exact .inl rfl | exact .inr rfl) : VB X Gm G0 H0 (.Assign [.Name x p] e pos :: rest) Φ ρ D := fun σ G H m z r f =>
  wb_cons (ws_of (ps_set hN hi hx we hs hf) (he σ G H z.gh r f _ fun l Hc G2 H2 hc e2 hl kx => k l Hc (fun b hb => z.hh.free (hc b hb)) (fun a ha q => hL G H f a ha (hc a q)) hl _ G2 H2 (m.trans e2.gg) (z.trans e2) (SR.set (s := .v (.ref l)) (o := some (.ref l)) rfl i (r.mono e2.gg)) ⟨kx, Φ.st z.gh e2 f⟩))
theorem vb_exN {cG cO g : Addr} {Hc : Hp} {k : Int} {z : List Nat} {mine theirs : List Int} {sts : List Stmt} (h : ∀ hh, Hc hh = none → hh ≠ g → VB X Gm G0 H0 sts (As.and (AsG cG cO g hh k z mine theirs (List.range mine.length) (List.range theirs.length)) Φ) ρ D) : VB X Gm G0 H0 sts (As.and (AsN cG cO g Hc k z mine theirs) Φ) ρ D := fun σ G H m z r f => by
  obtain ⟨⟨hh, h1, h2, h3⟩, f2⟩ := f
  exact h hh h1 h2 σ G H m z r ⟨⟨h3.1, obF_ob h3.2⟩, f2⟩
/-- l.insert(0, e), l of one's own -/
theorem vb_ins {l : Addr} {Ψ : As} {ds : List PyData} {d : PyData} {pos2 : Pos} (ho : VV X (As.and (As.lst l ds) Ψ) ρ o (.ref l)) (ha : VA X (As.and (As.lst l ds) Ψ) ρ [a, b] [.d (.int 0), .d d]) (h0 : H0 l = none) (hz : ds.length < 100000) (hp : StP l Ψ) (k : VB X Gm G0 H0 rest (As.and (As.lst l (d :: ds)) Ψ) ρ D)
    (hs : swapsWith (.Call (.Attribute o "insert" apos) [a, b] [] pos) none pos2.line X.env = pure false := by rfl) (hb : attributeBase o "insert" X.env (eval o X.env) = eval o X.env := by rfl)
    (hw : ((backTo pos (starEach [a, b] X.env)).all (fun x => !x.1) && (backToKw pos (keywordEach [] X.env)).all (fun x => x.1.isSome) && decide ([a, b].length + ([] : List Keyword).length + (if ([] : List Keyword).isEmpty then 0 else 1) < 30)) = true := by rfl)
    (hli : (apos.endLine == pos.line) = true := by rfl) (hst : starEach [a, b] X.env = (false, eval a X.env) :: starEach [b] X.env := by rfl) (hpl : (backTo pos (starEach [b] X.env)).any (·.1) = false := by rfl) : VB X Gm G0 H0 (.Expr (.Call (.Attribute o "insert" apos) [a, b] [] pos) pos2 :: rest) (As.and (As.lst l ds) Ψ) ρ D := fun σ G H m z r f =>
  wb_cons (ws_of (ps_expr (pe_bm PySem.F.plainAttrs_list PySem.F.slot_list_insert PySem.F.type_list_insert mt_insert we wa hb hw hli hst hpl) hs) (ho σ G H z.gh r f _ fun G1 H1 e1 => by
    have f1 := (As.and (As.lst l ds) Ψ).st z.gh e1 f
    obtain ⟨⟨g1, xs1, hx1, k1⟩, _⟩ := f1
    refine ⟨Or.inl ⟨rfl, _, SqL.of hx1⟩, ha σ G1 H1 e1.gh (r.mono e1.gg) ((As.and (As.lst l ds) Ψ).st z.gh e1 f) _ fun vs G2 H2 e2 kv => ?_⟩
    obtain ⟨v, w, rfl, rv, rw'⟩ := sls2 kv
    cases rv
    obtain ⟨⟨g2, xs2, hx2, k2⟩, p2⟩ := (As.and (As.lst l ds) Ψ).st z.gh (e1.trans e2) f
    have k3 : RpAll G2 (xs2.take (0 : Int).toNat ++ [w] ++ xs2.drop (0 : Int).toNat) (d :: ds) := .cons rw' k2
    have e12 := z.trans (e1.trans e2)
    exact ⟨l, xs2, 0, w, rfl, rfl, hx2, by rw [k2.len, sizeLine_eq]; omega, Int.le_refl _, by decide, k σ G2 _ (m.trans (e1.trans e2).gg) (e12.put h0 g2) (r.mono (e1.trans e2).gg) ⟨⟨g2, _, upd_same, k3⟩, hp G2 H2 _ g2 p2⟩⟩))
end
end K43
namespace K43
open PySem PySem.Spec PyProof.Rows L2
/-! ### law: one round -/
abbrev s81 : Stmt := top 81
abbrev N81 : List Str := ["_law_script", "_law_shape", "_law_count", "_law_hands_here", "_law_word_here", "_law_plays", "_law_k", "_law_row_here", "_law_low", "_law_high", "_law_wanted", "_law_given", "_law_guide", "_law_other", "_law_left", "_law_hits", "_law_astray", "_law_letters", "_law_asked", "_law_pair", "_law_x"]
theorem S81 : FnScope N81 ["_law_script"] (defScope s81) := ⟨rfl, rfl, rfl, by decide +kernel, rfl, by decide +kernel, by decide +kernel⟩
def body81 : List Stmt := match (defBody s81).getD 20 (.Pass ⟨0, 0, 0, 0⟩) with
  | .For _ _ b _ _ => b
  | _ => []
/-- the law's defs -/
structure Lw (W : Wd) (c : Cs) : Prop where
  B : Bl W.mg
  M : GM W c
  C55 : Fn W "_law_cell" 1 P55 [] (F55 W.K)
  C56 : Fn W "_law_draws" 1 P56 [] F56
  C58 : Fn W "_law_hands" 3 P58 [] (F58 W.K)
  C59 : Fn W "_law_word" 2 P59 [] F59
  C62 : Fn W "_law_row" 6 P61 [] F62
  C63 : Fn W "_law_value" 1 P63 [] F63
  C66 : Fn W "_law_steady" 2 P66 [] F66
  C69 : Fn W "_law_created" 12 P69 [] F69
  C74 : Fn W "_law_round" 12 P74 [] (F74 c)
  C77 : Fn W "_law_refused" 14 P77 [] (F77 c)
  C78 : Fn W "_law_shown" 2 P78 [] (F78 c)
  C79 : Fn W "_law_flat" 1 P79 [] F79
  C80 : Fn W "_law_all_answers" 12 P80 [] (F80 c)
abbrev sl81 (q : Gam) (shp : List Int) (lo : Int) (g g2 : Addr) (p : Ps) : List Sl := [.no, .d (dL shp), .d (.int q.w.length), .d (.tuple [dL q.mine, dL q.theirs]), .d (.str ⟨q.w.toArray⟩), .d (dL q.pl), .no, .no, .d (.int lo), .no, .d (.int q.k), .no, .v (.ref g), .v (.ref g2), .d (dLeft p.ml p.tl), .d (.int p.hits), .d (.bool q.ast), .no, .no, .no, .no]
def as1 (c : Cs) (q : Gam) (g hh : Addr) (j : Nat) (p : Ps) : As := AsG c.G c.O g hh (q.k - p.hits) (q.w.drop j) q.mine q.theirs p.ml p.tl
def as2 (c : Cs) (q : Gam) (lo : Int) (g hh : Addr) : As := AsG c.G c.O g hh lo q.w q.mine q.theirs (List.range q.mine.length) (List.range q.theirs.length)
abbrev as81 (c : Cs) (q : Gam) (lo : Int) (g hh g2 hh2 : Addr) (j : Nat) (p : Ps) : As := As.and (as1 c q g hh j p) (as2 c q lo g2 hh2)
theorem has1 {c : Cs} {q : Gam} {g hh : Addr} {j : Nat} {p : Ps} {Ψ : As} : HasG c g hh (q.k - p.hits) (q.w.drop j) q.mine q.theirs p.ml p.tl (As.and (as1 c q g hh j p) Ψ) := ⟨fun _ _ h => h.1.1, fun _ _ h => h.1.2⟩
theorem has0 {c : Cs} {q : Gam} {g hh : Addr} {j : Nat} {p : Ps} : HasG c g hh (q.k - p.hits) (q.w.drop j) q.mine q.theirs p.ml p.tl (as1 c q g hh j p) := ⟨fun _ _ h => h.1, fun _ _ h => h.2⟩
theorem has2 {c : Cs} {q : Gam} {lo : Int} {g hh : Addr} {Ψ : As} : HasG c g hh lo q.w q.mine q.theirs (List.range q.mine.length) (List.range q.theirs.length) (As.and Ψ (as2 c q lo g hh)) := ⟨fun _ _ h => h.2.1, fun _ _ h => h.2.2⟩
theorem gok {q : Gam} (h : q.Ok) {i : Nat} {p : Ps} (v : q.Inv i p) : GOk (q.w.drop i) q.mine q.theirs p.ml p.tl := by
  have h1 := h.n
  have h2 := h.m
  have h3 := h.t
  have h4 := v.lm
  have h5 := v.lt
  refine ⟨⟨by omega, by omega, fun x hx => ?_, fun x hx => ?_, by omega, by omega⟩, gd_dropN h.ha i, by rw [List.length_drop]; omega, by omega⟩
  · have := v.rm x hx
    omega
  · have := v.rt x hx
    omega
/-- what is known of the drawn numbers -/
structure Drw (q : Gam) (shp : List Int) : Prop where
  l : shp.length = 9
  a : (q.a : Int) = shp.getD 3 0
  pl : q.pl.length = q.w.length
  pp : ∀ i, i < q.w.length → 0 ≤ q.pl.getD i 0
theorem filt_erase {l : List Nat} (hn : l.Nodup) (m : Nat) : (l.filter fun x : Nat => !decide ((x : Int) = (m : Int))).map (fun x : Nat => PyData.int (x : Int)) = dX (l.erase m) := by
  rw [hn.erase_eq_filter]
  have e : (l.filter fun x : Nat => !decide ((x : Int) = (m : Int))) = l.filter fun x => x != m := List.filter_congr fun x _ => by
    by_cases hx : x = m
    · subst hx
      simp
    · have h2 : ¬ (x : Int) = (m : Int) := by omega
      rw [decide_eq_false h2]
      simp [hx]
  rw [e]
  rfl
theorem hit_int (mine theirs : List Int) (m t : Nat) : (if decide (theirs.getD t 0 ≤ mine.getD m 0) then (1 : Int) else 0) = hit mine theirs m t := by
  unfold hit
  by_cases h : theirs.getD t 0 ≤ mine.getD m 0
  · rw [decide_eq_true h, if_pos h]
    rfl
  · rw [decide_eq_false h, if_neg h]
    rfl
section
variable {W : Wd} {c : Cs} {f : Addr} {cdv : Value} {A : Around} {outer : List Env} {s : Shared} {H G : Hp} {E : XK}
theorem turn_end (L : Lw W c) {q : Gam} (h : q.Ok) {shp : List Int} (d : Drw q shp) {lo : Int} {g hh g2 hh2 : Addr} (ne : hh ≠ g) (a1 : H g = none) (a2 : H hh = none) (n1 : g2 ∉ [g, hh]) (n2 : hh2 ∉ [g, hh])
    (hr : Room 14 (A.deeper (envOfC "law" (defScope s81) s.heap.objs.size f cdv))) {Gm : Hp} {i : Nat} {p p' : Ps} {j : Nat} (v : q.Inv i p) (hi : i < q.w.length → p' = q.nx i p ∧ j = i + 1) (hi2 : ¬ i < q.w.length → p' = p ∧ j = i) {D : Ends} (hD : D.nx = NX Gm G H (as81 c q lo g hh g2 hh2 j p') (sl81 q shp lo g g2 p')) :
    VB (cxF W N81 "law" (defScope s81) f cdv A outer s H E) Gm G H (body81.drop 3) (as81 c q lo g hh g2 hh2 i p)
      [.no, .d (dL shp), .d (.int q.w.length), .d (.tuple [dL q.mine, dL q.theirs]), .d (.str ⟨q.w.toArray⟩), .d (dL q.pl), .d (.int (i : Int)), .no, .d (.int lo), .no, .d (.int q.k), .no, .v (.ref g), .v (.ref g2), .d (dLeft p.ml p.tl), .d (.int p.hits), .d (.bool q.ast), .d (.str ⟨(q.w.drop i).toArray⟩), .no, .no, .no] D := by
  have B : Bl (cxF W N81 "law" (defScope s81) f cdv A outer s H E).mg := L.B
  have h1 := h.n
  have h2 := h.m
  have h3 := h.t
  have h4 := v.lm
  have h5 := v.lt
  have l4 := pk_len p.ml q.mine
  have l5 := pk_len p.tl q.theirs
  have hs := d.l
  refine vb_if1 (vt_lt (v_name 6 rfl) (v_name 2 rfl)) (fun hc => ?_) (fun hc => ?_)
  · have hlt : i < q.w.length := by
      have := of_decide_eq_true hc
      omega
    obtain ⟨rfl, rfl⟩ := hi hlt
    have hpl := d.pl
    have hpp := d.pp i hlt
    have hf := Gam.fo_lt h v hlt
    have hown := Gam.own_lt h v hlt
    have hme := Gam.me_lt h v hlt
    have he := exOf_ok (lev_ne (mine := pk p.ml q.mine) (theirs := pk p.tl q.theirs) (by omega))
    have hz : (q.w.drop i).length ≤ 1000 := by rw [List.length_drop]; omega
    have hz0 : 0 < (q.w.drop i).length := by rw [List.length_drop]; omega
    have hw := Gam.word hlt
    refine vb_set 18 (d := .list [.bool (decide ((q.w.length : Int) < 13)), .bool (decide ((q.w.length : Int) < 10) && decide (shp.getD 4 0 = 0)), .int (q.k - p.hits)])
      (vn_lst (ds := [_, _, _]) (va_d (v_lt (v_name 2 rfl) v_int) (va_d (v_and (v_lt (v_name 2 rfl) v_int) (fun _ => v_one (v_eqI (v_ixL (v_name 1 rfl) v_int (atI_dI (i := 4) (by omega))) v_int))) (va_d (v_sub (v_name 10 rfl) (v_name 15 rfl)) va_nil)))).ve S81.nd ?_
    refine vb_set 19 (d := .tuple [.int (p.ml.getD (q.own i p) 0 : Nat), .int (q.t i p : Nat)])
      (v_call inW L.C74 hr (va_v (vv_name 12 rfl) (va_d (v_name 3 rfl) (va_d (v_name 14 rfl) (va_d (v_name 17 rfl) (va_d (vn_lst (ds := [.int (q.a : Int), .int ((q.pl.getD i 0).toNat : Int)]) (va_d ((v_ixL (v_name 1 rfl) v_int (atI_dI (i := 3) (by omega))).is (by rw [d.a])) (va_d ((v_ixL (v_name 5 rfl) (v_name 6 rfl) (atI_dI (by omega))).is (by rw [Int.toNat_of_nonneg hpp])) va_nil))).ve (va_d (v_name 18 rfl) va_nil))))))
        ⟨g, hh, q.k - p.hits, q.w.drop i, q.mine, q.theirs, p.ml, p.tl, q.a, (q.pl.getD i 0).toNat, _, _, (exOf (levT (pk p.ml q.mine) (pk p.tl q.theirs))).1, (exOf (levT (pk p.ml q.mine) (pk p.tl q.theirs))).2, rfl, has1, gok h v, v.nm, v.nt, hz0, hz, he, ?_⟩) S81.nd ?_
    · rcases h.ha i q.w[i] (List.getElem?_eq_getElem hlt) with gw | gw
      · have hh7 : (q.w.drop i).head? = some 77 := by rw [hw, gw]; rfl
        refine .inl ⟨hh7, ?_⟩
        unfold Gam.own Gam.t Gam.fo mineAt foeAt
        rw [if_pos hh7, if_pos hh7]
      · have hh8 : (q.w.drop i).head? = some 84 := by rw [hw, gw]; rfl
        have hh7 : ¬ (q.w.drop i).head? = some 77 := by rw [hh8]; decide
        refine .inr ⟨hh8, ?_⟩
        unfold Gam.own Gam.t Gam.fo mineAt foeAt
        rw [if_neg hh7, if_neg hh7]
    refine vb_if1 (c := false) (vt_isN (d := .tuple [.int (p.ml.getD (q.own i p) 0 : Nat), .int (q.t i p : Nat)]) (v_name 19 rfl)) (fun hc => by cases hc) (fun _ => ?_)
    have rest : VB (cxF W N81 "law" (defScope s81) f cdv A outer s H E) Gm G H ((match body81.getD 3 (.Pass ⟨0, 0, 0, 0⟩) with
        | .If _ b _ _ => b
        | _ => []).drop 4) (as81 c q lo g hh g2 hh2 i p)
        [.no, .d (dL shp), .d (.int q.w.length), .d (.tuple [dL q.mine, dL q.theirs]), .d (.str ⟨q.w.toArray⟩), .d (dL q.pl), .d (.int (i : Int)), .no, .d (.int lo), .no, .d (.int q.k), .no, .v (.ref g), .v (.ref g2), .d (dLeft p.ml p.tl), .d (.int p.hits), .d (.bool q.ast), .d (.str ⟨(q.w.drop i).toArray⟩), .no, .d (.tuple [.int (q.m i p : Nat), .int (q.t i p : Nat)]), .no] { D with nx := fun σ' H' => WB (cxF W N81 "law" (defScope s81) f cdv A outer s H E) [] D σ' H' } := by
      have mm : q.m i p ∈ p.ml := getD_mem hme
      have mt : q.t i p ∈ p.tl := getD_mem hf
      have bm := v.rm _ mm
      have bt := v.rt _ mt
      refine vb_ifM (S := [g, hh]) (c := false) (vtm_notN (d := .none) (v_methM (Φ := as1 c q g hh i p) (Ψ := as2 c q lo g2 hh2) (Φ' := as1 c q g hh (i + 1) (q.nx i p)) inW L.M.Ms hr L.M.LG.c (vv_name 12 rfl) (fun _ _ h => h.1) (fun G H h a ha => ?_) (sts_and (sts_ob n1) (sts_ob n2)) (va_d (v_ixT (v_name 19 rfl) v_int rfl) (va_d (v_ixT (v_name 19 rfl) v_int rfl) va_nil))
        ⟨g, hh, q.k - p.hits, q.w.drop i, q.mine, q.theirs, p.ml, p.tl, (q.m i p : Nat), (q.t i p : Nat), rfl, has0, (gok h v).ok, hz, ne, rfl, .inr (.inr ⟨q.m i p, q.t i p, rfl, rfl, mm, mt, ?_⟩)⟩)) (fun a ha => ?_) (fun hc => by cases hc) (fun _ => vb_fall ?_)
      · rcases List.mem_cons.mp ha with rfl | ha
        · exact h.1.1
        · rw [List.mem_singleton.mp ha]
          exact h.2.1
      · show MOut.val .none (AsG c.G c.O g hh (q.k - (p.hits + hit q.mine q.theirs (q.m i p) (q.t i p))) (q.w.drop (i + 1)) q.mine q.theirs (p.ml.erase (q.m i p)) (p.tl.erase (q.t i p))) = _
        rw [Gam.drop1]
        congr 2
        omega
      · rcases List.mem_cons.mp ha with rfl | ha
        · exact a1
        · rw [List.mem_singleton.mp ha]
          exact a2
      · refine vb_set 15 (d := .int (p.hits + hit q.mine q.theirs (q.m i p) (q.t i p))) ((v_add (v_name 15 rfl) (v_intB B (v_ge (v_ixL (v_ixT (v_name 3 rfl) v_int rfl) (v_ixT (v_name 19 rfl) v_int rfl) (atI_dI (by omega))) (v_ixL (v_ixT (v_name 3 rfl) v_int rfl) (v_ixT (v_name 19 rfl) v_int rfl) (atI_dI (by omega)))))).is (by rw [hit_int])) S81.nd ?_
        refine vb_set 14 (d := dLeft (p.ml.erase (q.m i p)) (p.tl.erase (q.t i p))) (vn_lst (ds := [.list (dX (p.ml.erase (q.m i p))), .list (dX (p.tl.erase (q.t i p)))]) (va_d ((vn_lc (α := Nat) (xs := p.ml) (enc := fun i => .int (i : Int)) (k := fun x : Nat => !decide ((x : Int) = (q.m i p : Nat))) (f := fun x => .int (x : Int)) (is := [20]) (st := fun x ρ => ρ.set 20 (.d (.int (x : Int)))) [("_law_x", 20)] rfl S81.nd
            (vi_list (v_leftM (v_name 14 rfl))) (by omega) (fun x _ s H C cl fp => vg_name 20 S81.nd) (fun x _ s H C cl fp => vts_one (vt_neI (v_name 20 rfl) (v_ixT (v_name 19 rfl) v_int rfl))) (fun x _ _ s H C cl fp => v_name 20 rfl)).ve.is (by rw [filt_erase v.nm]))
          (va_d ((vn_lc (α := Nat) (xs := p.tl) (enc := fun i => .int (i : Int)) (k := fun x : Nat => !decide ((x : Int) = (q.t i p : Nat))) (f := fun x => .int (x : Int)) (is := [20]) (st := fun x ρ => ρ.set 20 (.d (.int (x : Int)))) [("_law_x", 20)] rfl S81.nd
            (vi_list (v_leftT (v_name 14 rfl))) (by omega) (fun x _ s H C cl fp => vg_name 20 S81.nd) (fun x _ s H C cl fp => vts_one (vt_neI (v_name 20 rfl) (v_ixT (v_name 19 rfl) v_int rfl))) (fun x _ _ s H C cl fp => v_name 20 rfl)).ve.is (by rw [filt_erase v.nt])) va_nil))).ve S81.nd ?_
        exact vb_fall (vb_nx hD ⟨.inl rfl, .inr rfl, .inr rfl, .inr rfl, .inr rfl, .inr rfl, .inl rfl, .inl rfl, .inr rfl, .inl rfl, .inr rfl, .inl rfl, .inr rfl, .inr rfl, .inr rfl, .inr rfl, .inr rfl, .inl rfl, .inl rfl, .inl rfl, .inl rfl, True.intro⟩ fun G H h => h)
    refine vb_if1 (vt_val (v_name 16 rfl)) (fun hc => ?_) (fun hc => ?_)
    · refine vb_set 19 (d := .tuple [.int (q.m i p : Nat), .int (q.t i p : Nat)]) (v_tup (ds := [_, _]) (va_d ((v_ixL (d := .int (q.m i p : Nat)) (v_leftM (v_name 14 rfl)) ((v_mod (v_div (v_intI B (v_ixL (v_name 5 rfl) (v_name 6 rfl) (atI_dI (by omega)))) v_int (cdivw (by decide) (by decide))) (v_lenL B (v_leftM (v_name 14 rfl))) (by rw [dX_len]; omega)).is (d' := .int (q.me i p : Nat)) ?_) (atI_dX hme))) (va_d (v_ixT (v_name 19 rfl) v_int rfl) va_nil))) S81.nd (vb_fall (VB.weak rest ⟨.inr rfl, .inr rfl, .inr rfl, .inr rfl, .inr rfl, .inr rfl, .inr rfl, .inr rfl, .inr rfl, .inr rfl, .inr rfl, .inr rfl, .inr rfl, .inr rfl, .inr rfl, .inr rfl, .inr rfl, .inr rfl, .inl rfl, .inr rfl, .inr rfl, True.intro⟩ fun _ _ h => h))
      unfold Gam.me
      rw [if_pos hc, dX_len]
      congr 1
      rw [Int.natCast_emod, Int.natCast_ediv, Int.toNat_of_nonneg hpp]
      rfl
    · have em : p.ml.getD (q.own i p) 0 = q.m i p := by
        unfold Gam.m Gam.me
        rw [if_neg (by rw [hc]; exact Bool.false_ne_true)]
      rw [em]
      exact VB.weak rest ⟨.inr rfl, .inr rfl, .inr rfl, .inr rfl, .inr rfl, .inr rfl, .inr rfl, .inr rfl, .inr rfl, .inr rfl, .inr rfl, .inr rfl, .inr rfl, .inr rfl, .inr rfl, .inr rfl, .inr rfl, .inr rfl, .inl rfl, .inr rfl, .inr rfl, True.intro⟩ fun _ _ h => h
  · have hlt : ¬ i < q.w.length := by
      have := of_decide_eq_false hc
      omega
    obtain ⟨rfl, rfl⟩ := hi2 hlt
    exact vb_nx hD ⟨.inl rfl, .inr rfl, .inr rfl, .inr rfl, .inr rfl, .inr rfl, .inl rfl, .inl rfl, .inr rfl, .inl rfl, .inr rfl, .inl rfl, .inr rfl, .inr rfl, .inr rfl, .inr rfl, .inr rfl, .inl rfl, .inl rfl, .inl rfl, .inl rfl, True.intro⟩ fun G H h => h
end
end K43
namespace K43
open PySem PySem.Spec PyProof.Rows L2
section
variable {W : Wd} {c : Cs} {f : Addr} {cdv : Value} {A : Around} {outer : List Env} {s : Shared} {H G : Hp} {E : XK}
theorem turn_81 (L : Lw W c) {q : Gam} (h : q.Ok) {shp : List Int} (d : Drw q shp) {lo : Int} {g hh g2 hh2 : Addr} (ne : hh ≠ g) (a1 : H g = none) (a2 : H hh = none) (n1 : g2 ∉ [g, hh]) (n2 : hh2 ∉ [g, hh])
    (hr : Room 14 (A.deeper (envOfC "law" (defScope s81) s.heap.objs.size f cdv))) {Gm : Hp} {i : Nat} {p p' : Ps} {j : Nat} (v : q.Inv i p) (hi : i < q.w.length → p' = q.nx i p ∧ j = i + 1) (hi2 : ¬ i < q.w.length → p' = p ∧ j = i) {D : Ends} (hD : D.nx = NX Gm G H (as81 c q lo g hh g2 hh2 j p') (sl81 q shp lo g g2 p')) :
    VB (cxF W N81 "law" (defScope s81) f cdv A outer s H E) Gm G H body81 (as81 c q lo g hh g2 hh2 i p)
      [.no, .d (dL shp), .d (.int q.w.length), .d (.tuple [dL q.mine, dL q.theirs]), .d (.str ⟨q.w.toArray⟩), .d (dL q.pl), .d (.int (i : Int)), .no, .d (.int lo), .no, .d (.int q.k), .no, .v (.ref g), .v (.ref g2), .d (dLeft p.ml p.tl), .d (.int p.hits), .d (.bool q.ast), .no, .no, .no, .no] D := by
  have B : Bl (cxF W N81 "law" (defScope s81) f cdv A outer s H E).mg := L.B
  have h1 := h.n
  have h2 := h.m
  have h3 := h.t
  have h4 := v.lm
  have h5 := v.lt
  have hs := d.l
  have hz : (q.w.drop i).length ≤ 1000 := by rw [List.length_drop]; omega
  have fin := turn_end (f := f) (cdv := cdv) (A := A) (outer := outer) (s := s) (E := E) L h d ne a1 a2 n1 n2 hr v hi hi2 hD
  refine vb_set 17 (d := .str ⟨(q.w.drop i).toArray⟩) ((v_slS (v_name 4 rfl) (vo_some (v_name 6 rfl)) vo_none (by omega)).is (by rw [cut_from])) S81.nd ?_
  refine vb_if1 (c := false) (vt_not (c := true) (vt_val (v_call (d := .bool true) inW L.C78 hr (va_v (vv_name 12 rfl) (va_d (v_name 17 rfl) (va_d (v_sub (v_name 10 rfl) (v_name 15 rfl)) va_nil))) ⟨g, hh, q.k - p.hits, q.w.drop i, q.mine, q.theirs, p.ml, p.tl, rfl, has1, rfl⟩))) (fun hc => by cases hc) (fun _ => ?_)
  refine vb_if1 (VW.vt (vw_or (vt_eqI (v_name 6 rfl) (v_name 2 rfl)) (fun _ => vw_or1 (vt_eqI (v_name 6 rfl) (v_mod (v_intI B (v_ixL (v_name 1 rfl) v_int (atI_dI (i := 7) (by omega)))) (v_add (v_name 2 rfl) v_int) (by omega)))))) (fun _ => ?_) (fun _ => fin)
  refine vb_if1 (c := false) (VW.vt (vw_or (c := false) (d := false) (vt_not (c := true) (vt_val (v_call (d := .bool true) inW L.C77 hr (va_v (vv_name 12 rfl) (va_d (v_name 14 rfl) (va_d ((v_name 2 rfl).is (d' := .int (q.mine.length : Nat)) (by rw [h2])) (va_d (v_name 17 rfl) va_nil)))) ⟨g, hh, q.k - p.hits, q.w.drop i, q.mine, q.theirs, p.ml, p.tl, rfl, has1, gok h v, hz, ne, rfl⟩)))
    (fun _ => vw_or1 (vt_not (c := true) (vt_val (v_call (d := .bool true) inW L.C78 hr (va_v (vv_name 12 rfl) (va_d (v_name 17 rfl) (va_d (v_sub (v_name 10 rfl) (v_name 15 rfl)) va_nil))) ⟨g, hh, q.k - p.hits, q.w.drop i, q.mine, q.theirs, p.ml, p.tl, rfl, has1, rfl⟩)))))) (fun hc => by cases hc) (fun _ => ?_)
  exact vb_if1 (c := false) (vt_not (c := true) (vt_val (v_call (d := .bool true) inW L.C80 hr (va_v (vv_name 12 rfl) (va_d (v_name 3 rfl) (va_d (v_name 14 rfl) (va_d (v_name 17 rfl) (va_d (v_sub (v_name 10 rfl) (v_name 15 rfl)) (va_d (v_lt (v_name 2 rfl) v_int) va_nil)))))) ⟨g, hh, q.k - p.hits, q.w.drop i, q.mine, q.theirs, p.ml, p.tl, _, rfl, has1, gok h v, v.nm, v.nt, hz, rfl⟩))) (fun hc => by cases hc) (fun _ => vb_fall fin)
end
end K43
namespace K43
open PySem PySem.Spec PyProof.Rows L2
theorem eqv_dL (xs : List Int) : PyData.eqv (dL xs) (dL xs) = true := by
  unfold dL dI
  simp [PyData.eqv, eqv_ints xs]
theorem eqv_two (xs ys : List Int) : PyData.eqv (.list [dL xs, dL ys]) (.list [dL xs, dL ys]) = true := by
  simp [PyData.eqv, PyData.eqvAll, eqv_dL]
theorem sh_dL (n : Nat) (xs : List Int) : Sh (n + 1) (dL xs) := sh_list fun d hd => by
  obtain ⟨i, _, rfl⟩ := List.mem_map.mp hd
  exact sh_int
theorem sh_two (xs ys : List Int) : SeqAt.shaped (.list [dL xs, dL ys]) = true := (sh_list (n := 1) fun d hd => by
  rcases List.mem_cons.mp hd with rfl | hd
  · exact sh_dL 0 _
  · rw [List.mem_singleton.mp hd]
    exact sh_dL 0 _).ok
section
variable {W : Wd} {c : Cs} {f : Addr} {cdv : Value} {A : Around} {outer : List Env} {s : Shared} {H G : Hp} {E : XK} {Q : VK}
/-- from the loop on -/
theorem law_end (L : Lw W c) {q : Gam} (h : q.Ok) {shp : List Int} (d : Drw q shp) (hst : q.ast = (decide ((q.w.length : Int) < 10) && decide (shp.getD 5 0 = 0))) {lo : Int} {g hh g2 hh2 : Addr} (ne : hh ≠ g) (a1 : H g = none) (a2 : H hh = none) (n1 : g2 ∉ [g, hh]) (n2 : hh2 ∉ [g, hh])
    (hr : Room 14 (A.deeper (envOfC "law" (defScope s81) s.heap.objs.size f cdv))) {Gm : Hp} (hO : Rt G H Q (.bool true)) :
    VB (cxF W N81 "law" (defScope s81) f cdv A outer s H E) Gm G H ((defBody s81).drop 17) (as81 c q lo g hh g2 hh2 0 (q.at_ 0))
      [.no, .d (dL shp), .d (.int q.w.length), .d (.tuple [dL q.mine, dL q.theirs]), .d (.str ⟨q.w.toArray⟩), .d (dL q.pl), .no, .no, .d (.int lo), .no, .d (.int q.k), .no, .v (.ref g), .v (.ref g2), .no, .no, .no, .no, .no, .no, .no] { nx := fun _ H' => Q .non H', rt := Q } := by
  have B : Bl (cxF W N81 "law" (defScope s81) f cdv A outer s H E).mg := L.B
  have h1 := h.n
  have hs := d.l
  refine vb_set 14 (d := dLeft (List.range q.w.length) (List.range q.w.length)) (vn_lst (ds := [.list (dX (List.range q.w.length)), .list (dX (List.range q.w.length))]) (va_d ((vn_lc (α := Nat) (xs := List.range q.w.length) (enc := fun i => .int (i : Int)) (k := fun _ => true) (f := fun x => .int (x : Int)) (is := [6]) (st := fun x ρ => ρ.set 6 (.d (.int (x : Int)))) [("_law_k", 6)] rfl S81.nd
      (vi_range B (v_name 2 rfl) (by omega)) (by rw [List.length_range]; omega) (fun x _ s H C cl fp => vg_name 6 S81.nd) (fun x _ s H C cl fp => vts_nil) (fun x _ _ s H C cl fp => v_name 6 rfl)).ve.is (by rw [filt_true]; rfl))
    (va_d ((vn_lc (α := Nat) (xs := List.range q.w.length) (enc := fun i => .int (i : Int)) (k := fun _ => true) (f := fun x => .int (x : Int)) (is := [6]) (st := fun x ρ => ρ.set 6 (.d (.int (x : Int)))) [("_law_k", 6)] rfl S81.nd
      (vi_range B (v_name 2 rfl) (by omega)) (by rw [List.length_range]; omega) (fun x _ s H C cl fp => vg_name 6 S81.nd) (fun x _ s H C cl fp => vts_nil) (fun x _ _ s H C cl fp => v_name 6 rfl)).ve.is (by rw [filt_true]; rfl)) va_nil))).ve S81.nd ?_
  refine vb_set 15 v_int S81.nd ?_
  refine vb_set 16 (d := .bool q.ast) ((v_and (v_lt (v_name 2 rfl) v_int) (fun _ => v_one (v_eqI (v_ixL (v_name 1 rfl) v_int (atI_dI (i := 5) (by omega))) v_int))).is (by rw [hst])) S81.nd ?_
  refine vb_for (ds := rgD (q.w.length + 1)) (is := [6]) (f := fun d ρ => ρ.set 6 (.d d)) (fun i => sl81 q shp lo g g2 (q.at_ (min i q.w.length))) (fun i => as81 c q lo g hh g2 hh2 (min i q.w.length) (q.at_ (min i q.w.length))) ownF rfl
    (vi_range B ((v_add (v_name 2 rfl) v_int).is (d' := .int ((q.w.length + 1 : Nat) : Int)) rfl) (by omega)) (fun d _ => vg_name 6 S81.nd) ⟨.inl rfl, .inr rfl, .inr rfl, .inr rfl, .inr rfl, .inr rfl, .inr rfl, .inr rfl, .inr rfl, .inr rfl, .inr rfl, .inr rfl, .inr rfl, .inr rfl, .inr ?_, .inr ?_, .inr rfl, .inr rfl, .inr rfl, .inr rfl, .inr rfl, True.intro⟩ (fun G H h => ?_) (fun Gm' _ i d' hd => ?_) ?_
  · rw [Nat.zero_min]
    rfl
  · rw [Nat.zero_min]
    rfl
  · show (as81 c q lo g hh g2 hh2 (min 0 q.w.length) (q.at_ (min 0 q.w.length))).p G H
    rw [Nat.zero_min]
    exact h
  · obtain ⟨hi, rfl⟩ := rgD_at hd
    have e : min i q.w.length = i := by omega
    have z := turn_81 (f := f) (cdv := cdv) (A := A) (outer := outer) (s := s) (E := E) (G := G) L h d ne a1 a2 n1 n2 hr (Gam.inv h i (by omega)) (p' := q.at_ (min (i + 1) q.w.length)) (j := min (i + 1) q.w.length) (Gm := Gm') (lo := lo)
      (fun hlt => by
        have e2 : min (i + 1) q.w.length = i + 1 := by omega
        rw [e2]
        exact ⟨rfl, rfl⟩) (fun hlt => by
        have e2 : min (i + 1) q.w.length = i := by omega
        rw [e2]
        exact ⟨rfl, rfl⟩) (D := { nx := NX Gm' G H (as81 c q lo g hh g2 hh2 (min (i + 1) q.w.length) (q.at_ (min (i + 1) q.w.length))) (sl81 q shp lo g g2 (q.at_ (min (i + 1) q.w.length))), ct := NX Gm' G H (as81 c q lo g hh g2 hh2 (min (i + 1) q.w.length) (q.at_ (min (i + 1) q.w.length))) (sl81 q shp lo g g2 (q.at_ (min (i + 1) q.w.length))), bk := fun σ' H' => WB (cxF W N81 "law" (defScope s81) f cdv A outer s H E) ((defBody s81).drop 21) { nx := fun _ H' => Q .non H', rt := Q } σ' H', rt := Q }) rfl
    dsimp only
    rw [e]
    exact z
  · rw [rgD_len]
    have e : min (q.w.length + 1) q.w.length = q.w.length := by omega
    rw [e]
    refine vb_if1 (c := false) (vt_not (c := true) (vt_val (v_call (d := .bool true) inW L.C78 hr (va_v (vv_name 13 rfl) (va_d (v_name 4 rfl) (va_d (v_name 8 rfl) va_nil))) ⟨g2, hh2, lo, q.w, q.mine, q.theirs, _, _, rfl, has2, rfl⟩))) (fun hc => by cases hc) (fun _ => ?_)
    refine vb_ret ((v_or (v_name 16 rfl) (fun _ => v_one (v_eqI (v_name 15 rfl) (v_name 10 rfl)))).is ?_) hO
    cases ha : q.ast with
    | true => rfl
    | false =>
      rw [Gam.fin h ha, decide_eq_true rfl]
      rfl
end
end K43
namespace K43
open PySem PySem.Spec PyProof.Rows L2
section
variable {W : Wd} {c : Cs} {f : Addr} {cdv : Value} {A : Around} {outer : List Env} {s : Shared} {H G : Hp} {E : XK} {Q : VK}
/-- from the list of the given hands on -/
theorem law_mid (L : Lw W c) {q : Gam} (h : q.Ok) {shp : List Int} (d : Drw q shp) (hst : q.ast = (decide ((q.w.length : Int) < 10) && decide (shp.getD 5 0 = 0))) {lo : Int} (hlo : lo = valO (rowOf q.mine q.theirs) q.w false) (hlh : lo ≤ valO (rowOf q.mine q.theirs) q.w true)
    (hr : Room 14 (A.deeper (envOfC "law" (defScope s81) s.heap.objs.size f cdv))) {Gm : Hp} (hO : Rt G H Q (.bool true)) :
    VB (cxF W N81 "law" (defScope s81) f cdv A outer s H E) Gm G H ((defBody s81).drop 11) As.top
      [.no, .d (dL shp), .d (.int q.w.length), .d (.tuple [dL q.mine, dL q.theirs]), .d (.str ⟨q.w.toArray⟩), .d (dL q.pl), .no, .no, .d (.int lo), .no, .d (.int q.k), .no, .no, .no, .no, .no, .no, .no, .no, .no, .no] { nx := fun _ H' => Q .non H', rt := Q } := by
  have B : Bl (cxF W N81 "law" (defScope s81) f cdv A outer s H E).mg := L.B
  have hu : (A.deeper (envOfC "law" (defScope s81) s.heap.objs.size f cdv)).units + 64 < cLine := hr.units
  have h1 := h.n
  have h2 := h.m
  have h3 := h.t
  have hs := d.l
  refine vb_new2 11 (vn_list B (v_ixT (v_name 3 rfl) v_int rfl)) (vn_list B (v_ixT (v_name 3 rfl) v_int rfl)) S81.nd fun l1 l2 l b1 b2 b3 n12 n1 n2 => ?_
  refine vb_setMk 12 [l1, l2, l] (vm_lend (cG := c.G) (cO := c.O) (k := q.k) (z := q.w) (mine := q.mine) (theirs := q.theirs) (as := q.mine) (bs := q.theirs) 11 rfl n12 n1 n2 (fun G H h => ⟨h.1, h.2.1, h.2.2.1⟩) (v_make inW L.M.Mi hr (va_d (v_ixL (v_name 11 rfl) v_int rfl) (va_d (v_ixL (v_name 11 rfl) v_int rfl) (va_d (v_name 4 rfl) (va_d (v_name 10 rfl) va_nil)))) (fun g Hc hg => ⟨g, q.mine, q.theirs, q.w, q.k, Hc, _, rfl, rfl, rfl, hg, by omega, by omega, by omega, .inr ⟨by omega, .inr ⟨h.ha, by omega, .inr ⟨h.st, .inr ⟨⟨h.lo, h.hi⟩, rfl⟩⟩⟩⟩⟩)))
    (fun G H h a ha => ?_) S81.nd fun g Hc hc hne hg => vb_exN fun hh hhc hhg => ?_
  · obtain ⟨⟨_, xs1, x1, _⟩, ⟨_, xs2, x2, _⟩, ⟨_, x3⟩, _⟩ := h
    rcases List.mem_cons.mp ha with rfl | ha
    · rw [x1]; simp
    · rcases List.mem_cons.mp ha with rfl | ha
      · rw [x2]; simp
      · rw [List.mem_singleton.mp ha, x3]; simp
  refine vb_setMk 13 [l1, l2, l, g, hh] (vm_lend (cG := c.G) (cO := c.O) (k := lo) (z := q.w) (mine := q.mine) (theirs := q.theirs) (as := q.mine) (bs := q.theirs) 11 rfl n12 n1 n2 (fun G H h => ⟨h.2.1, h.2.2.1, h.2.2.2.1⟩) (v_make inW L.M.Mi hr (va_d (v_ixL (v_name 11 rfl) v_int rfl) (va_d (v_ixL (v_name 11 rfl) v_int rfl) (va_d (v_name 4 rfl) (va_d (v_name 8 rfl) va_nil)))) (fun g Hc hg => ⟨g, q.mine, q.theirs, q.w, lo, Hc, _, rfl, rfl, rfl, hg, by omega, by omega, by omega, .inr ⟨by omega, .inr ⟨h.ha, by omega, .inr ⟨h.st, .inr ⟨⟨by rw [hlo]; exact Int.le_refl _, hlh⟩, rfl⟩⟩⟩⟩⟩)))
    (fun G H h a ha => ?_) S81.nd fun g2 Hd hd hde hg2 => vb_exN fun hh2 hhd hhg2 => ?_
  · obtain ⟨⟨⟨_, dx, vs, x4, _⟩, ⟨_, dx5, vs5, x5, _⟩⟩, ⟨_, xs1, x1, _⟩, ⟨_, xs2, x2, _⟩, ⟨_, x3⟩, _⟩ := h
    rcases List.mem_cons.mp ha with rfl | ha
    · rw [x1]; simp
    · rcases List.mem_cons.mp ha with rfl | ha
      · rw [x2]; simp
      · rcases List.mem_cons.mp ha with rfl | ha
        · rw [x3]; simp
        · rcases List.mem_cons.mp ha with rfl | ha
          · rw [x4]; simp
          · rw [List.mem_singleton.mp ha, x5]; simp
  have ne : ∀ {a b : Addr} {K : Hp}, K a ≠ none → K b = none → b ≠ a := fun h k e => h (by rw [← e]; exact k)
  have g1 : g ≠ l1 := ne (hne l1 (by simp)) hg
  have g2' : g ≠ l2 := ne (hne l2 (by simp)) hg
  have e1 : hh ≠ l1 := ne (hne l1 (by simp)) hhc
  have e2 : hh ≠ l2 := ne (hne l2 (by simp)) hhc
  have f1 : g2 ≠ l1 := ne (hde l1 (by simp)) hg2
  have f2 : g2 ≠ l2 := ne (hde l2 (by simp)) hg2
  have f4 : g2 ≠ g := ne (hde g (by simp)) hg2
  have f5 : g2 ≠ hh := ne (hde hh (by simp)) hg2
  have i1 : hh2 ≠ l1 := ne (hde l1 (by simp)) hhd
  have i2 : hh2 ≠ l2 := ne (hde l2 (by simp)) hhd
  have i4 : hh2 ≠ g := ne (hde g (by simp)) hhd
  have i5 : hh2 ≠ hh := ne (hde hh (by simp)) hhd
  refine vb_if1 (c := false) (vt_lend (as := q.mine) (bs := q.theirs) 11 rfl n12 n1 n2 (fun G H h => ⟨h.2.2.1, h.2.2.2.1, h.2.2.2.2.1⟩) ((vt_neD hu (v_name 11 rfl) (vn_lst (ds := [dL q.mine, dL q.theirs]) (va_d (v_ixT (v_name 3 rfl) v_int rfl) (va_d (v_ixT (v_name 3 rfl) v_int rfl) va_nil))).ve (sh_two _ _) (sh_two _ _)).is (by rw [eqv_two]; rfl))) (fun hc => by cases hc) (fun _ => ?_)
  refine VB.weak (Φ' := As.and (As.lst l1 (dI q.mine)) (As.and (As.lst l2 (dI q.theirs)) (As.and (As.lsv l [.ref l1, .ref l2]) (as81 c q lo g hh g2 hh2 0 (q.at_ 0))))) ?_ (SLe.refl _) fun G H x => ⟨x.2.2.1, x.2.2.2.1, x.2.2.2.2.1, ?_, ?_⟩
  rotate_left
  · have y := x.2.1
    show (AsG c.G c.O g hh (q.k - 0) (q.w.drop 0) q.mine q.theirs (List.range q.w.length) (List.range q.w.length)).p G H
    rw [Int.sub_zero, List.drop_zero]
    rw [h2, h3] at y
    exact y
  · exact x.1
  have stp : ∀ m : Addr, g ≠ m → hh ≠ m → g2 ≠ m → hh2 ≠ m → StP m (as81 c q lo g hh g2 hh2 0 (q.at_ 0)) := fun m q1 q2 q3 q4 => stp_and (stp_and (stp_ob q1) (stp_ob q2)) (stp_and (stp_ob q3) (stp_ob q4))
  refine vb_ins (d := .int 5) (vv_ixO 11 rfl (fun G H h => h.2.2.1) v_int rfl) (va_d v_int (va_d v_int va_nil)) b1 (by rw [dI_len]; omega) (stp_and (stp_lst (Ne.symm n12)) (stp_and (stp_lsv (Ne.symm n1)) (stp l1 g1 e1 f1 i1))) ?_
  refine VB.weak (Φ' := As.and (As.lst l2 (dI q.theirs)) (As.and (As.lsv l [.ref l1, .ref l2]) (as81 c q lo g hh g2 hh2 0 (q.at_ 0)))) ?_ (SLe.refl _) fun G H x => x.2
  refine vb_ins (d := .int (-5)) (vv_ixO 11 rfl (fun G H h => h.2.1) v_int rfl) (va_d v_int (va_d (v_neg v_int) va_nil)) b2 (by rw [dI_len]; omega) (stp_and (stp_lsv (Ne.symm n2)) (stp l2 g2' e2 f2 i2)) ?_
  refine VB.weak (law_end L h d hst hhg ?_ ?_ ?_ ?_ hr hO) ⟨.inr rfl, .inr rfl, .inr rfl, .inr rfl, .inr rfl, .inr rfl, .inr rfl, .inr rfl, .inr rfl, .inr rfl, .inr rfl, .inl rfl, .inr rfl, .inr rfl, .inr rfl, .inr rfl, .inr rfl, .inr rfl, .inr rfl, .inr rfl, .inr rfl, True.intro⟩ fun G H x => x.2.2
  · exact hc _ hg
  · exact hc _ hhc
  · intro hm
    rcases List.mem_cons.mp hm with h | h
    · exact f4 h
    · exact f5 (List.mem_singleton.mp h)
  · intro hm
    rcases List.mem_cons.mp hm with h | h
    · exact i4 h
    · exact i5 (List.mem_singleton.mp h)
end
end K43
namespace K43
open PySem PySem.Spec PyProof.Rows L2
theorem un_or (e : List Nat) : ∀ n : Nat, n ≤ e.length → (∀ q, e.length - n ≤ q → q < e.length → sur e q ≤ 0) ∨ ∃ p, UnP e p
  | 0, _ => .inl fun q h1 h2 => by omega
  | n + 1, hn => by
    rcases un_or e n (by omega) with h | h
    · by_cases hp : sur e (e.length - (n + 1)) ≤ 0
      · refine .inl fun q h1 h2 => ?_
        by_cases hq : q = e.length - (n + 1)
        · rw [hq]
          exact hp
        · exact h q (by omega) h2
      · exact .inr ⟨e.length - (n + 1), by omega, by omega, fun q h1 h2 => h q (by omega) h2⟩
    · exact .inr h
theorem un_st (e : List Nat) : (∃ p, UnP e p) ∨ StP2 e := by
  rcases un_or e e.length (Nat.le_refl _) with h | h
  · exact .inr fun q hq => h q (by omega) hq
  · exact .inl h
abbrev Z81 : List Int := [8, 10, 21, 6, 3, 6, 41, 21, 9]
theorem sz81 : SzOk Z81 := ⟨by decide, by decide⟩
def F81 (K : PySem.W.Frag) : FR := fun ss Φ o => ∃ (a : Addr) (ns : List Int), ss = [.v (.ref a)] ∧ Scr K a ns Φ ∧ ns.length ≤ 1000 ∧ o = .val (.bool true)
theorem b81 {W : Wd} {c : Cs} (L : Lw W c) : Body W 14 N81 "law" s81 1 (F81 W.K) := by
  intro f cdv A outer s H G E' E ss Φ o hr hF hO
  obtain ⟨a, ns, rfl, hS, h1, rfl⟩ := hF
  have B : Bl (cxF W N81 "law" (defScope s81) f cdv A outer s H E).mg := L.B
  generalize hshp : drawsOf (cellOf ns 0) Z81 = shp
  have hsl : shp.length = 9 := by rw [← hshp]; exact draws_len ..
  have hbd : ∀ i, i < 9 → 0 ≤ shp.getD i 0 ∧ shp.getD i 0 < Z81.getD i 1 := fun i hi => by rw [← hshp]; exact draws_getD sz81 hi
  have rest : ∀ x : Int, 0 ≤ x → x ≤ 20 → VB (cxF W N81 "law" (defScope s81) f cdv A outer s H E) G G H ((defBody s81).drop 3) Φ [.v (.ref a), .d (dL shp), .d (.int x), .no, .no, .no, .no, .no, .no, .no, .no, .no, .no, .no, .no, .no, .no, .no, .no, .no, .no] { nx := fun _ H' => E' .non H', rt := E' } := fun x hx0 hx1 => by
    obtain ⟨n, rfl⟩ := Int.eq_ofNat_of_zero_le hx0
    have hn : n ≤ 20 := by omega
    generalize hfl : decide (shp.getD 8 0 = 4) = fl
    generalize hm : flatL fl (hMine ns 1 n) = mine
    generalize ht : flatL fl (hTh ns 1 n) = theirs
    generalize hw : steadyOf (cellOf ns 4) n = w
    generalize hp : drawsOf (cellOf ns 5) (rp n (205 * 41)) = pl
    have ml : mine.length = n := by rw [← hm, flat_len, hMine_len]
    have tl : theirs.length = n := by rw [← ht, flat_len, hTh_len]
    have wl : w.length = n := by rw [← hw]; exact steady_len ..
    have wk : StW w := by rw [← hw]; exact steady_ok ..
    have pl1 : pl.length = n := by rw [← hp, draws_len, rp_len]
    have rl : (rowOf mine theirs).length = n := by rw [row_len, tl]
    generalize hlo : valO (rowOf mine theirs) w false = lo
    generalize hhi : valO (rowOf mine theirs) w true = hi
    have hlh : lo ≤ hi := by rw [← hlo, ← hhi]; exact val_le (by omega) (by omega) wk.gd wk.st
    have hm1 := hMine_len ns 1 n
    have ht1 := hTh_len ns 1 n
    refine vb_set 3 (d := .tuple [dL mine, dL theirs]) (v_call inW L.C79 hr (va_d (v_call inW L.C58 hr (va_v (vv_name 0 rfl) (va_d ((v_int (i := 1)).is (d' := .int ((1 : Nat) : Int)) rfl) (va_d (v_name 2 rfl) va_nil))) ⟨a, ns, 1, n, rfl, hS, h1, by omega, by omega, rfl⟩) (va_d ((v_eqI (v_ixL (v_name 1 rfl) v_int (atI_dI (i := 8) (by omega))) v_int).is (d' := .bool fl) (by rw [← hfl])) va_nil)) ⟨hMine ns 1 n, hTh ns 1 n, fl, rfl, by omega, by omega, by rw [hm, ht]⟩) S81.nd ?_
    refine vb_set 4 (d := .str ⟨w.toArray⟩) (v_call inW L.C66 hr (va_d (v_call inW L.C55 hr (va_v (vv_name 0 rfl) (va_d ((v_int (i := 4)).is (d' := .int ((4 : Nat) : Int)) rfl) va_nil)) ⟨a, ns, 4, rfl, hS, h1, by omega, rfl⟩) (va_d (v_name 2 rfl) va_nil)) ⟨cellOf ns 4, n, rfl, by omega, by rw [hw]⟩) S81.nd ?_
    refine vb_set 5 (d := dL pl) (v_call inW L.C56 hr (va_d (v_call inW L.C55 hr (va_v (vv_name 0 rfl) (va_d ((v_int (i := 5)).is (d' := .int ((5 : Nat) : Int)) rfl) va_nil)) ⟨a, ns, 5, rfl, hS, h1, by omega, rfl⟩)
      (va_d ((vn_lc (α := Nat) (xs := List.range n) (enc := fun i => .int (i : Int)) (k := fun _ => true) (f := fun _ => .int (205 * 41)) (is := [6]) (st := fun x ρ => ρ.set 6 (.d (.int (x : Int)))) [("_law_k", 6)] rfl S81.nd
        (vi_range B (v_name 2 rfl) (by omega)) (by rw [List.length_range]; omega) (fun x _ s H C cl fp => vg_name 6 S81.nd) (fun x _ s H C cl fp => vts_nil) (fun x _ _ s H C cl fp => v_mul v_int v_int (cmul_small (by decide)))).ve.is (d' := dL (rp n (205 * 41))) (by rw [rp_dI]; rfl)) va_nil)) ⟨cellOf ns 5, rp n (205 * 41), rfl, rp_ok (by omega) (by decide) (by decide), by rw [hp]⟩) S81.nd ?_
    refine vb_set 7 (d := dL (rowOf mine theirs)) (v_call inW L.C62 hr (va_d (v_ixT (d := dL mine) (v_name 3 rfl) v_int rfl) (va_d (v_ixT (d := dL theirs) (v_name 3 rfl) v_int rfl) va_nil)) ⟨mine, theirs, rfl, by omega, by omega, rfl⟩) S81.nd ?_
    refine vb_set 8 (d := .int lo) (v_call inW L.C63 hr (va_d (v_name 7 rfl) (va_d (v_name 4 rfl) (va_d v_str va_nil))) ⟨rowOf mine theirs, w, false, rfl, by omega, by omega, wk.gd, by rw [hlo]⟩) S81.nd ?_
    refine vb_set 9 (d := .int hi) (v_call inW L.C63 hr (va_d (v_name 7 rfl) (va_d (v_name 4 rfl) (va_d v_str va_nil))) ⟨rowOf mine theirs, w, true, rfl, by omega, by omega, wk.gd, by rw [hhi]⟩) S81.nd ?_
    have cr : ∀ {Φ : As}, F69 [.d (dL mine), .d (dL theirs), .d (.str ⟨w.toArray⟩), .d (.str ⟨(wordOf (cellOf ns 6) n).toArray⟩), .d (.list [.int lo, .int hi])] Φ (.val (.bool true)) :=
      ⟨mine, theirs, w, wordOf (cellOf ns 6) n, by rw [hlo, hhi], by omega, by omega, by omega, wk.gd, wk.st, by rw [word_len, ml], word_gd _ _, un_st _, rfl⟩
    refine vb_if1 (c := false) (vt_not (c := true) (vt_val (v_call (d := .bool true) inW L.C69 hr (va_d (v_ixT (d := dL mine) (v_name 3 rfl) v_int rfl) (va_d (v_ixT (d := dL theirs) (v_name 3 rfl) v_int rfl) (va_d (v_name 4 rfl)
      (va_d (v_call (d := .str ⟨(wordOf (cellOf ns 6) n).toArray⟩) inW L.C59 hr (va_d (v_call inW L.C55 hr (va_v (vv_name 0 rfl) (va_d ((v_int (i := 6)).is (d' := .int ((6 : Nat) : Int)) rfl) va_nil)) ⟨a, ns, 6, rfl, hS, h1, by omega, rfl⟩) (va_d (v_name 2 rfl) va_nil)) ⟨cellOf ns 6, n, rfl, by omega, rfl⟩)
      (va_d (vn_lst (ds := [.int lo, .int hi]) (va_d (v_name 8 rfl) (va_d (v_name 9 rfl) va_nil))).ve va_nil))))) cr))) (fun hc => by cases hc) (fun _ => ?_)
    generalize hk : lo + shp.getD 6 0 % (if hi - lo + 1 > 1 then hi - lo + 1 else 1) = k
    have b6 := hbd 6 (by decide)
    have hk1 : lo ≤ k ∧ k ≤ hi := by
      rw [← hk]
      split
      · rename_i h
        have z1 := Int.emod_nonneg (shp.getD 6 0) (show hi - lo + 1 ≠ 0 by omega)
        have z2 := Int.emod_lt_of_pos (shp.getD 6 0) (show 0 < hi - lo + 1 by omega)
        omega
      · rw [Int.emod_one]
        omega
    refine vb_set 10 (d := .int k) ((v_add (v_name 8 rfl) (v_mod (v_intI B (v_ixL (v_name 1 rfl) v_int (atI_dI (i := 6) (by omega)))) (v_max2 B rfl v_int (v_add (v_sub (v_name 9 rfl) (v_name 8 rfl)) v_int)) (by split <;> omega))).is (by rw [← hk])) S81.nd ?_
    have q1 : (⟨mine, theirs, w, k, (shp.getD 3 0).toNat, pl, decide ((w.length : Int) < 10) && decide (shp.getD 5 0 = 0)⟩ : Gam).Ok := ⟨by show w.length ≤ 900; omega, by show mine.length = w.length; omega, by show theirs.length = w.length; omega, wk.gd, wk.st, by show valO (rowOf mine theirs) w false ≤ k; omega, by show k ≤ valO (rowOf mine theirs) w true; omega⟩
    have q2 : Drw (⟨mine, theirs, w, k, (shp.getD 3 0).toNat, pl, decide ((w.length : Int) < 10) && decide (shp.getD 5 0 = 0)⟩ : Gam) shp := ⟨hsl, Int.toNat_of_nonneg (hbd 3 (by decide)).1, by show pl.length = w.length; omega, fun i hi => by
      have hi : i < w.length := hi
      show 0 ≤ pl.getD i 0
      rw [← hp]
      exact (draws_getD (rp_ok (by omega) (by decide) (by decide)) (by rw [rp_len]; omega)).1⟩
    refine VB.weak (law_mid L q1 q2 rfl (lo := lo) (by show lo = valO (rowOf mine theirs) w false; omega) (by show lo ≤ valO (rowOf mine theirs) w true; omega) hr hO) ⟨.inl rfl, .inr rfl, .inr ?_, .inr rfl, .inr rfl, .inr rfl, .inr rfl, .inl rfl, .inr rfl, .inl rfl, .inr rfl, .inr rfl, .inr rfl, .inr rfl, .inr rfl, .inr rfl, .inr rfl, .inr rfl, .inr rfl, .inr rfl, .inr rfl, True.intro⟩ fun _ _ _ => True.intro
    show Sl.d (.int (w.length : Int)) = Sl.d (.int (n : Int))
    rw [wl]
  have hb1 := hbd 1 (by decide)
  have hb2 := hbd 2 (by decide)
  have ez1 : Z81.getD 1 1 = 10 := rfl
  have ez2 : Z81.getD 2 1 = 21 := rfl
  refine vb_set 1 (d := dL shp) (v_call inW L.C56 hr (va_d (v_call inW L.C55 hr (va_v (vv_name 0 rfl) (va_d ((v_int (i := 0)).is (d' := .int ((0 : Nat) : Int)) rfl) va_nil)) ⟨a, ns, 0, rfl, hS, h1, by omega, rfl⟩) (va_d (vn_lst (ds := [_, _, _, _, _, _, _, _, _]) (va_d v_int (va_d v_int (va_d v_int (va_d v_int (va_d v_int (va_d v_int (va_d v_int (va_d v_int (va_d v_int va_nil)))))))))).ve va_nil)) ⟨cellOf ns 0, Z81, rfl, sz81, by rw [hshp]⟩) S81.nd ?_
  refine vb_set 2 (v_ixL (v_name 1 rfl) v_int (atI_dI (i := 1) (by omega))) S81.nd ?_
  refine vb_if1 (vt_eqI (v_ixL (v_name 1 rfl) v_int (atI_dI (i := 0) (by omega))) v_int) (fun _ => ?_) (fun _ => rest _ hb1.1 (by omega))
  exact vb_set 2 (v_ixL (v_name 1 rfl) v_int (atI_dI (i := 2) (by omega))) S81.nd (vb_fall (rest _ hb2.1 (by omega)))
theorem fn81 {W : Wd} {c : Cs} {f : Addr} {fd : FuncData} (L : Lw W c) (D : FunP W "law" s81 [] f fd) (hm : W.mg "law" = some (.ref f)) : Fn W "law" 15 ["_law_script"] [] (F81 W.K) :=
  fn_mk D hm S81 (b81 L) fun _ _ _ _ _ _ us hl => match us, hl with | [_], _ => rfl
end K43
namespace K43
open PySem PySem.Spec PyProof.Rows L2
/-! ### from the facts to the promise of the law -/
theorem band {a b : Bool} (h : (a && b) = true) : a = true ∧ b = true := by
  cases a
  · cases h
  · exact ⟨rfl, h⟩
theorem objC_of {K : PySem.W.Frag} {C : Addr} {ns : List Str} (h : objB K C ns = true) : Sx.ObjC K C ns := by
  obtain ⟨h1, h⟩ := band h
  obtain ⟨h2, h⟩ := band h
  obtain ⟨h3, h⟩ := band h
  obtain ⟨h4, h⟩ := band h
  obtain ⟨h5, h6⟩ := band h
  refine ⟨h1, ?_, of_decide_eq_true h3, fun f hf => of_decide_eq_true (List.all_eq_true.mp h4 f hf), of_decide_eq_true h5, of_decide_eq_true h6⟩
  cases e : PySem.W.clsIn K C with
  | none =>
    rw [e] at h2
    cases h2
  | some cd =>
    rw [e] at h2
    obtain ⟨q1, q2⟩ := band (show (PySem.HandSPX.refsVE cd.mro && cd.hasDict) = true from h2)
    exact ⟨cd, rfl, q1, q2⟩
theorem fnT_of {K : PySem.W.Frag} {x : Str} {st : Stmt} {ns : List Str} {q : Str} (hq : x ++ ".__init__" = q) (e : fnQ K x = fnQV (x, st, ns)) (hc : (PySem.W.clsIn K (He.ga K x)).isSome = true) (h : fntB K (He.ga K x) (inA K x) (x ++ ".__init__") = true) :
    ∃ cc, Sx.FnT K PySem.Challenge.pw_climbrow_k43_whole_exact_guide (He.ga K x) cc (inA K x) q (defArgs st) (defBody st) (defScope st) := by
  unfold fntB at h
  unfold fnQ at e
  cases z : K.lookup (inA K x) with
  | none =>
    rw [z] at h
    cases h
  | some o =>
    obtain ⟨oc, od, dt, osl⟩ := o
    rw [z] at h e
    cases dt with
    | func fd =>
      obtain ⟨n1, n2, n3, n4, n5, n6, n7, n8, n9, n10, n11, n12, n13, n14, n15⟩ := fd
      have e2 : (some (n1, n2, n3, n4, n5, n6, n7.map (·.1), n15) : FnQ) = (some (("__init__" : Str), x ++ (".__init__" : Str), defArgs st, FuncBody.stmts (defBody st), defScope st, mainGlobals, [("__class__" : Str)], builtinsNs) : FnQ) := e
      simp only [Option.some.injEq, Prod.mk.injEq] at e2
      obtain ⟨r1, r2, r3, r4, r5, r6, r7, r8⟩ := e2
      rw [hq] at r2
      subst r1 r2 r3 r4 r5 r6 r8
      obtain ⟨k1, h⟩ := band (show (noneB n8 && (codeB K n13 (x ++ ".__init__") && cellB K n7 (He.ga K x))) = true from h)
      obtain ⟨k2, k3⟩ := band h
      have e8 : n8 = .none := by
        cases n8 with
        | none => rfl
        | _ => cases k1
      subst e8
      match n7, r7, k3 with
      | [(y, cc)], r7, k3 =>
        have ey : y = ("__class__" : Str) := by
          have r7 : [y] = [("__class__" : Str)] := r7
          exact List.head_eq_of_cons_eq r7
        subst ey
        have k3 : (match K.lookup cc with
          | some ⟨_, _, .cell (some (.ref E)), _⟩ => E == He.ga K x
          | _ => false) = true := k3
        rw [hq] at k2
        unfold codeB at k2
        cases n13 with
        | ref cda =>
          obtain ⟨k4, k5⟩ := band k2
          refine ⟨cc, ⟨⟨oc, od, n9, n10, n11, n12, cda, n14, osl, z, k4, ?_⟩, ?_, Option.isSome_iff_exists.mp hc⟩⟩
          · cases z2 : K.lookup cda with
            | none =>
              rw [z2] at k5
              cases k5
            | some o2 =>
              obtain ⟨oc2, od2, dt2, osl2⟩ := o2
              rw [z2] at k5
              cases dt2 with
              | fields vs =>
                have k5 : (match vs[2]? with
                  | some (Value.str file _) => (PySem.Challenge.pw_climbrow_k43_whole_exact_guide.main.file : Str) == file
                  | _ => false) = true := k5
                cases z3 : vs[2]? with
                | none =>
                  rw [z3] at k5
                  cases k5
                | some u =>
                  rw [z3] at k5
                  cases u with
                  | str file tf => exact ⟨oc2, od2, vs, osl2, file, tf, rfl, z3, k5⟩
                  | _ => cases k5
              | _ => cases k5
          · cases z2 : K.lookup cc with
            | none =>
              rw [z2] at k3
              cases k3
            | some o2 =>
              obtain ⟨oc2, od2, dt2, osl2⟩ := o2
              rw [z2] at k3
              cases dt2 with
              | cell v =>
                cases v with
                | none => cases k3
                | some u =>
                  cases u with
                  | ref E =>
                    have k3 : (E == He.ga K x) = true := k3
                    rw [beq_iff_eq.mp k3]
                    exact ⟨oc2, od2, osl2, rfl⟩
                  | _ => cases k3
              | _ => cases k3
        | _ => cases k2
    | _ => cases h
theorem clsX_of {W : Wd} (hP : W.P = PySem.Challenge.pw_climbrow_k43_whole_exact_guide) {x : Str} {st : Stmt} {ns : List Str} {q : Str} (hq : x ++ ".__init__" = q) (g : W.mg x = some (.ref (He.ga W.K x))) (e : fnQ W.K x = fnQV (x, st, ns)) (h : initB W.K (x, st, ns) = true) :
    ∃ cc, ClsX W x (He.ga W.K x) (inA W.K x) cc q st ns := by
  obtain ⟨h1, h⟩ := band h
  obtain ⟨h2, h⟩ := band h
  obtain ⟨h3, h⟩ := band h
  obtain ⟨h4, h⟩ := band h
  obtain ⟨h5, h⟩ := band h
  obtain ⟨h6, h⟩ := band h
  obtain ⟨h7, h⟩ := band h
  obtain ⟨h8, h9⟩ := band h
  have o := objC_of h4
  obtain ⟨cd, c1, _⟩ := o.cd
  obtain ⟨cc, T⟩ := fnT_of hq e (by show (PySem.W.clsIn W.K (He.ga W.K x)).isSome = true; rw [c1]; rfl) h8
  rw [← hP] at T
  exact ⟨cc, ⟨g, h1, of_decide_eq_true h2, of_decide_eq_true h3, o, of_decide_eq_true h5, of_decide_eq_true h6, h7, T, of_decide_eq_true h9⟩⟩
theorem sup_of {K : PySem.W.Frag} {x y : Str} {v : Value} (h : supB K x y v = true) : PySem.W.ks_superIn K (He.ga K x) (He.ga K y) "__init__" = some (some v) := of_decide_eq_true h
theorem excC_of {K : PySem.W.Frag} {D : Addr} (h : excB K D = true) : ExcC K D ∧ XfC K D := by
  obtain ⟨h1, h⟩ := band h
  obtain ⟨h2, h⟩ := band h
  obtain ⟨h3, h⟩ := band h
  obtain ⟨h4, h5⟩ := band h
  have x := xfB_ok h1
  exact ⟨⟨x.ga, x.gg, x.exC, x.hdC, of_decide_eq_true h2, of_decide_eq_true h3, of_decide_eq_true h4, of_decide_eq_true h5⟩, x⟩
theorem sd_of {W : Wd} (g : W.mg "SIDES" = some (.ref (He.ga W.K "SIDES"))) (h : He.tupB W.K "SIDES" [.str "theirs", .str "mine"] = true) : Sd W := by
  rcases He.tupB_ok h (fun _ => none) with z | ⟨o, its, n, h1, h2, h3, h4, h5⟩
  · rcases z with z | ⟨_, z⟩
    · cases z
    · cases z
  · exact ⟨_, o, its, n, g, h1, h2, h3, h4, h5⟩
section
variable {K : PySem.W.Frag} (s : SaysK K)
include s
theorem sayD : He.SaysD hdFa hdD K := congrArg (fun z : AlK => z.1) s
theorem sayB : exB K = true := congrArg (fun z : AlK => z.2.1) s
theorem sayX : hdX.map (fun q => fnQ K q.1) = hdX.map fnQV := congrArg (fun z : AlK => z.2.2) s
variable {h : Heap} {mg : Str → Option Value} (X : K.In h) (G : h.Ns mainGlobals mg)
include X G
theorem sayG {x : Str} (hx : x ∈ hdG) : mg x = some (.ref (He.ga K x)) := He.glo_ok X G ((sayD s).facts (f := .glo x) (List.mem_append_right _ (List.mem_append_left _ (List.mem_map_of_mem hx))))
theorem sayF {x : Str} (hx : x ∈ hdF) : mg x = none := He.free_ok X G ((sayD s).facts (f := .free x) (List.mem_append_right _ (List.mem_append_right _ (List.mem_map_of_mem hx))))
end
abbrev P0 : Program := PySem.Challenge.pw_climbrow_k43_whole_exact_guide
theorem facts {w : World} {K : PySem.W.Frag} {h : Heap} {mg : Str → Option Value} {fa : Addr} (X : K.In h) (G : h.Ns mainGlobals mg) (hfa : mg ("law" : Str) = some (.ref fa)) (s : SaysK K) :
    ∃ fd : FuncData, (∀ (s : Shared) (v : Value), BindsTo s fd ⟨[v], []⟩ [("_law_script", v)]) ∧ ∀ base : Heap, K.In base → base.Ns mainGlobals mg → FnOk P0 w K mg base (L2N.CX P0 w) 15 fa fd ["_law_script"] (spF 1 (F81 K)) := by
  have g : ∀ {x : Str}, x ∈ hdG → mg x = some (.ref (He.ga K x)) := fun hx => sayG s X G hx
  have n : ∀ {x : Str}, x ∈ hdF → mg x = none := fun hx => sayF s X G hx
  obtain ⟨f17, D17⟩ := (sayD s).def_ 0 (d := d17) rfl
  obtain ⟨f18, D18⟩ := (sayD s).def_ 1 (d := d18) rfl
  obtain ⟨f19, D19⟩ := (sayD s).def_ 2 (d := d19) rfl
  obtain ⟨f20, D20⟩ := (sayD s).def_ 3 (d := d20) rfl
  obtain ⟨f21, D21⟩ := (sayD s).def_ 4 (d := d21) rfl
  obtain ⟨f22, D22⟩ := (sayD s).def_ 5 (d := d22) rfl
  obtain ⟨f23, D23⟩ := (sayD s).def_ 6 (d := d23) rfl
  obtain ⟨f26, D26⟩ := (sayD s).def_ 7 (d := d26) rfl
  obtain ⟨f27, D27⟩ := (sayD s).def_ 8 (d := d27) rfl
  obtain ⟨f28, D28⟩ := (sayD s).def_ 9 (d := d28) rfl
  obtain ⟨f29, D29⟩ := (sayD s).def_ 10 (d := d29) rfl
  obtain ⟨f30, D30⟩ := (sayD s).def_ 11 (d := d30) rfl
  obtain ⟨f31, D31⟩ := (sayD s).def_ 12 (d := d31) rfl
  obtain ⟨f33, D33⟩ := (sayD s).def_ 13 (d := d33) rfl
  obtain ⟨f34, D34⟩ := (sayD s).def_ 14 (d := d34) rfl
  obtain ⟨f36, D36⟩ := (sayD s).def_ 15 (d := d36) rfl
  obtain ⟨f38, D38⟩ := (sayD s).def_ 16 (d := d38) rfl
  obtain ⟨f39, D39⟩ := (sayD s).def_ 17 (d := d39) rfl
  obtain ⟨f40, D40⟩ := (sayD s).def_ 18 (d := d40) rfl
  obtain ⟨f42, D42⟩ := (sayD s).def_ 19 (d := d42) rfl
  obtain ⟨f43, D43⟩ := (sayD s).def_ 20 (d := d43) rfl
  obtain ⟨f47, D47⟩ := (sayD s).def_ 21 (d := d47) rfl
  obtain ⟨f48, D48⟩ := (sayD s).def_ 22 (d := d48) rfl
  obtain ⟨f49, D49⟩ := (sayD s).def_ 23 (d := d49) rfl
  obtain ⟨f51, D51⟩ := (sayD s).def_ 24 (d := d51) rfl
  obtain ⟨f52, D52⟩ := (sayD s).def_ 25 (d := d52) rfl
  obtain ⟨f55, D55⟩ := (sayD s).def_ 26 (d := d55) rfl
  obtain ⟨f56, D56⟩ := (sayD s).def_ 27 (d := d56) rfl
  obtain ⟨f57, D57⟩ := (sayD s).def_ 28 (d := d57) rfl
  obtain ⟨f58, D58⟩ := (sayD s).def_ 29 (d := d58) rfl
  obtain ⟨f59, D59⟩ := (sayD s).def_ 30 (d := d59) rfl
  obtain ⟨f60, D60⟩ := (sayD s).def_ 31 (d := d60) rfl
  obtain ⟨f61, D61⟩ := (sayD s).def_ 32 (d := d61) rfl
  obtain ⟨f62, D62⟩ := (sayD s).def_ 33 (d := d62) rfl
  obtain ⟨f63, D63⟩ := (sayD s).def_ 34 (d := d63) rfl
  obtain ⟨f64, D64⟩ := (sayD s).def_ 35 (d := d64) rfl
  obtain ⟨f65, D65⟩ := (sayD s).def_ 36 (d := d65) rfl
  obtain ⟨f66, D66⟩ := (sayD s).def_ 37 (d := d66) rfl
  obtain ⟨f67, D67⟩ := (sayD s).def_ 38 (d := d67) rfl
  obtain ⟨f68, D68⟩ := (sayD s).def_ 39 (d := d68) rfl
  obtain ⟨f69, D69⟩ := (sayD s).def_ 40 (d := d69) rfl
  obtain ⟨f70, D70⟩ := (sayD s).def_ 41 (d := d70) rfl
  obtain ⟨f71, D71⟩ := (sayD s).def_ 42 (d := d71) rfl
  obtain ⟨f72, D72⟩ := (sayD s).def_ 43 (d := d72) rfl
  obtain ⟨f73, D73⟩ := (sayD s).def_ 44 (d := d73) rfl
  obtain ⟨f74, D74⟩ := (sayD s).def_ 45 (d := d74) rfl
  obtain ⟨f75, D75⟩ := (sayD s).def_ 46 (d := d75) rfl
  obtain ⟨f76, D76⟩ := (sayD s).def_ 47 (d := d76) rfl
  obtain ⟨f77, D77⟩ := (sayD s).def_ 48 (d := d77) rfl
  obtain ⟨f78, D78⟩ := (sayD s).def_ 49 (d := d78) rfl
  obtain ⟨f79, D79⟩ := (sayD s).def_ 50 (d := d79) rfl
  obtain ⟨f80, D80⟩ := (sayD s).def_ 51 (d := d80) rfl
  obtain ⟨f81, D81⟩ := (sayD s).def_ 52 (d := d81) rfl
  obtain ⟨f45x0, D45x0⟩ := (sayD s).def_ 53 (d := d45x0) rfl
  obtain ⟨f45x1, D45x1⟩ := (sayD s).def_ 54 (d := d45x1) rfl
  obtain ⟨f45x2, D45x2⟩ := (sayD s).def_ 55 (d := d45x2) rfl
  obtain ⟨f45x3, D45x3⟩ := (sayD s).def_ 56 (d := d45x3) rfl
  obtain ⟨f45x4, D45x4⟩ := (sayD s).def_ 57 (d := d45x4) rfl
  obtain ⟨f53x0, D53x0⟩ := (sayD s).def_ 58 (d := d53x0) rfl
  obtain ⟨f53x1, D53x1⟩ := (sayD s).def_ 59 (d := d53x1) rfl
  obtain ⟨f53x2, D53x2⟩ := (sayD s).def_ 60 (d := d53x2) rfl
  obtain ⟨f53x3, D53x3⟩ := (sayD s).def_ 61 (d := d53x3) rfl
  have e := hfa.symm.trans (g (x := "law") (by decide +kernel))
  cases e
  refine ⟨f81, fun s v => FunD.bindsA (ps := ["_law_script"]) D81 (fun _ _ _ _ _ _ us hl => match us, hl with | [_], _ => rfl) s [v] rfl, fun base hb1 hb2 => ?_⟩
  have Bz : exB K = true := sayB s
  obtain ⟨hX, Bz⟩ := band Bz
  obtain ⟨u1, Bz⟩ := band Bz
  obtain ⟨u2, Bz⟩ := band Bz
  obtain ⟨u3, Bz⟩ := band Bz
  obtain ⟨u4, Bz⟩ := band Bz
  obtain ⟨u5, Bz⟩ := band Bz
  obtain ⟨u6, Bz⟩ := band Bz
  obtain ⟨u7, Bz⟩ := band Bz
  obtain ⟨u8, Bz⟩ := band Bz
  obtain ⟨u9, Bz⟩ := band Bz
  obtain ⟨u10, Bz⟩ := band Bz
  obtain ⟨u11, Bz⟩ := band Bz
  obtain ⟨u12, u13⟩ := band Bz
  have hXi : ∀ q ∈ hdX, initB K q = true := List.all_eq_true.mp hX
  have hQ : ∀ (i : Nat) (q : Str × Stmt × List Str), hdX[i]? = some q → fnQ K q.1 = fnQV q := fun i q hi => by
    have z : (hdX.map (fun q : Str × Stmt × List Str => fnQ K q.1))[i]? = (hdX.map fnQV)[i]? := by rw [sayX s]
    rw [List.getElem?_map, List.getElem?_map, hi] at z
    exact Option.some.inj z
  let W : Wd := ⟨P0, w, K, mg, base⟩
  let ca : Str → Addr := He.ga K
  let c : Cs := ⟨ca "BadHands", ca "BadWord", ca "Unsteady", ca "BadCard", ca "Unreachable", ca "OutOfTurn", ca "OpenHands", ca "ExactGuide"⟩
  have B : Bl W.mg := ⟨n (by decide +kernel), n (by decide +kernel), n (by decide +kernel), n (by decide +kernel), n (by decide +kernel), n (by decide +kernel), n (by decide +kernel), n (by decide +kernel), n (by decide +kernel), n (by decide +kernel), n (by decide +kernel), n (by decide +kernel), n (by decide +kernel), n (by decide +kernel), n (by decide +kernel)⟩
  have T : TopX W := ⟨(by decide +kernel : (P0.main.scope.names.lookup ("super" : Str)).isSome = false), n (by decide +kernel)⟩
  have S : Sd W := sd_of (He.glo_ok X G ((sayD s).fact 0 (f := .glo "SIDES") rfl)) u13
  obtain ⟨c1, X1⟩ := clsX_of (W := W) rfl (x := "BadHands") (q := "BadHands.__init__") (by decide +kernel) (g (by decide +kernel)) (hQ 0 _ rfl) (hXi _ (List.mem_of_getElem? (i := 0) rfl))
  obtain ⟨c2, X2⟩ := clsX_of (W := W) rfl (x := "BadWord") (q := "BadWord.__init__") (by decide +kernel) (g (by decide +kernel)) (hQ 1 _ rfl) (hXi _ (List.mem_of_getElem? (i := 1) rfl))
  obtain ⟨c3, X3⟩ := clsX_of (W := W) rfl (x := "Unsteady") (q := "Unsteady.__init__") (by decide +kernel) (g (by decide +kernel)) (hQ 2 _ rfl) (hXi _ (List.mem_of_getElem? (i := 2) rfl))
  obtain ⟨c4, X4⟩ := clsX_of (W := W) rfl (x := "BadCard") (q := "BadCard.__init__") (by decide +kernel) (g (by decide +kernel)) (hQ 3 _ rfl) (hXi _ (List.mem_of_getElem? (i := 3) rfl))
  obtain ⟨c5, X5⟩ := clsX_of (W := W) rfl (x := "Unreachable") (q := "Unreachable.__init__") (by decide +kernel) (g (by decide +kernel)) (hQ 4 _ rfl) (hXi _ (List.mem_of_getElem? (i := 4) rfl))
  have XH : Xc W "BadHands" c.H ["mine_count", "theirs_count"] := xH T X1 (sup_of u1)
  have XW : Xc W "BadWord" c.W ["position"] := xW T X2 (sup_of u2)
  have XU : Xc W "Unsteady" c.U ["position"] := xU T X3 X2 (sup_of u5) (sup_of u6) (of_decide_eq_true u7)
  have XC : Xc W "BadCard" c.C ["side", "index"] := xC T X4 (sup_of u3)
  have XR : Xc W "Unreachable" c.R ["wanted", "lowest", "highest"] := xR T X5 (sup_of u4)
  obtain ⟨o1, o2, o3, o4⟩ := He.exc_ok ((sayD s).fact 21 (f := .exc "OutOfTurn") rfl)
  have XT : Xc0 W "OutOfTurn" c.T := xc0_mk o1 (g (by decide +kernel)) o2 o3 o4
  have F : EF W ca := ⟨fun x hx => g (by revert x; decide +kernel), fun x hx => (excC_of (List.all_eq_true.mp u8 x hx)).1, fun x hx => (excC_of (List.all_eq_true.mp u8 x hx)).2, fun x hx => of_decide_eq_true (List.all_eq_true.mp u9 x hx),
    fun x hx y hy => of_decide_eq_true (List.all_eq_true.mp (List.all_eq_true.mp u10 x hx) y hy), fun x hx => of_decide_eq_true (List.all_eq_true.mp u11 x hx), fun p hp => of_decide_eq_true (List.all_eq_true.mp u12 p hp)⟩
  have Q : CsOk c ca := ⟨rfl, rfl, rfl, rfl, rfl, rfl⟩
  have LO : Cl W c.O fO := by
    · refine ⟨He.cls_ok ((sayD s).fact 1 (f := .cls "OpenHands") rfl), fun f hf => ?_⟩
      rcases List.mem_cons.mp hf with rfl | hf
      · exact He.noat_ok ((sayD s).fact 5 (f := .noat "OpenHands" "mine") rfl)
      rcases List.mem_cons.mp hf with rfl | hf
      · exact He.noat_ok ((sayD s).fact 6 (f := .noat "OpenHands" "theirs") rfl)
      rcases List.mem_cons.mp hf with rfl | hf
      · exact He.noat_ok ((sayD s).fact 7 (f := .noat "OpenHands" "my_left") rfl)
      rw [List.mem_singleton.mp hf]
      exact He.noat_ok ((sayD s).fact 8 (f := .noat "OpenHands" "their_left") rfl)
  have LG : Cl W c.G fG := by
    · refine ⟨He.cls_ok ((sayD s).fact 2 (f := .cls "ExactGuide") rfl), fun f hf => ?_⟩
      rcases List.mem_cons.mp hf with rfl | hf
      · exact He.noat_ok ((sayD s).fact 9 (f := .noat "ExactGuide" "needed") rfl)
      rcases List.mem_cons.mp hf with rfl | hf
      · exact He.noat_ok ((sayD s).fact 10 (f := .noat "ExactGuide" "word") rfl)
      rw [List.mem_singleton.mp hf]
      exact He.noat_ok ((sayD s).fact 11 (f := .noat "ExactGuide" "hands") rfl)
  have C17 := fn17 (W := W) B XH D17 (g (x := "check_hands") (by decide +kernel))
  have C18 := fn18 (W := W) B D18 (g (x := "check_card") (by decide +kernel))
  have C19 := fn19 (W := W) B XW D19 (g (x := "check_letters") (by decide +kernel))
  have C20 := fn20 (W := W) B XW C19 D20 (g (x := "check_word") (by decide +kernel))
  have C21 := fn21 (W := W)  D21 (g (x := "chosen") (by decide +kernel))
  have C22 := fn22 (W := W)  D22 (g (x := "without") (by decide +kernel))
  have C23 := fn23 (W := W)  D23 (g (x := "lays_before_last") (by decide +kernel))
  have C26 := fn26 (W := W)  D26 (g (x := "wins") (by decide +kernel))
  have C27 := fn27 (W := W)  D27 (g (x := "hand_of") (by decide +kernel))
  have C28 := fn28 (W := W) B S D28 (g (x := "deck") (by decide +kernel))
  obtain ⟨C29, K29⟩ := fn29 (W := W) B C18 C27 C28 D29 (g (x := "around") (by decide +kernel))
  have C30 := fn30 (W := W) B C29 D30 (g (x := "next_up") (by decide +kernel))
  have C31 := fn31 (W := W) B K29 D31 (g (x := "next_down") (by decide +kernel))
  have C33 := fn33 (W := W) C17 C18 D33 (g (x := "check_pair") (by decide +kernel))
  have C34 := fn34 (W := W) C33 D34 (g (x := "taken_out") (by decide +kernel))
  have C36 := fn36 (W := W) C17 C28 D36 (g (x := "heights") (by decide +kernel))
  have C38 := fn38 (W := W) B C36 C28 D38 (g (x := "side_levels") (by decide +kernel))
  have C39 := fn39 (W := W) B C38 D39 (g (x := "row_of") (by decide +kernel))
  have C40 := fn40 (W := W) B C34 C26 C39 D40 (g (x := "row_after") (by decide +kernel))
  have C42 := fn42 (W := W)  D42 (g (x := "entry_value") (by decide +kernel))
  obtain ⟨C43, K43⟩ := fn43 (W := W) B C20 C23 C42 D43 (g (x := "value") (by decide +kernel))
  have C47 := fn47 (W := W) C43 K43 D47 (g (x := "exact_range") (by decide +kernel))
  have C48 := fn48 (W := W) B D48 (g (x := "unsteady_position") (by decide +kernel))
  have C49 := fn49 (W := W) XU C47 C48 D49 (g (x := "can_force") (by decide +kernel))
  have C51 := fn51 (W := W) B C28 C23 C38 C30 C31 C22 D51 (g (x := "exact_lay") (by decide +kernel))
  have C52 := fn52 (W := W) B C29 C47 C40 D52 (g (x := "exact_answer") (by decide +kernel))
  have M45 := fm45i (W := W) B LO D45x0 (g (x := "OpenHands") (by decide +kernel)) (He.mkr_ok ((sayD s).fact 3 (f := .mkr "OpenHands") rfl))
  have M45x1 := fm45n (W := W) LO C21 D45x1 (He.meth_ok ((sayD s).fact 13 (f := .meth "OpenHands" "numbers") rfl))
  have M45x3 := fm45x (W := W) B LO D45x3 (He.meth_ok ((sayD s).fact 15 (f := .meth "OpenHands" "indexes") rfl))
  have M45x2 := fm45s (W := W) LO XC M45x3 D45x2 (He.meth_ok ((sayD s).fact 14 (f := .meth "OpenHands" "spot") rfl))
  have M45x4 := fm45r (W := W) LO XC C22 C26 D45x4 (He.meth_ok ((sayD s).fact 16 (f := .meth "OpenHands" "remove_pair") rfl))
  have M53 := fm53i (W := W) (c := c) B LG XR C17 C39 C49 C47 M45 D53x0 (g (x := "ExactGuide") (by decide +kernel)) (He.mkr_ok ((sayD s).fact 4 (f := .mkr "ExactGuide") rfl))
  have M53x1 := fm53l (W := W) (c := c) LG LO XT M45x1 M45x3 C51 D53x1 (He.meth_ok ((sayD s).fact 18 (f := .meth "ExactGuide" "lay") rfl))
  have M53x2 := fm53a (W := W) (c := c) LG LO XT M45x1 M45x3 M45x2 C52 D53x2 (He.meth_ok ((sayD s).fact 19 (f := .meth "ExactGuide" "answer") rfl))
  have M53x3 := fm53s (W := W) (c := c) LG LO M45x4 D53x3 (He.meth_ok ((sayD s).fact 20 (f := .meth "ExactGuide" "saw") rfl))
  have M : GM W c := ⟨LG, LO, M53x1, M53x2, M53x3, M53⟩
  have C55 := fn55 (W := W) B D55 (g (x := "_law_cell") (by decide +kernel))
  have C56 := fn56 (W := W) B D56 (g (x := "_law_draws") (by decide +kernel))
  have C57 := fn57 (W := W) B C56 D57 (g (x := "_law_hand") (by decide +kernel))
  have C58 := fn58 (W := W) B C55 C56 C57 D58 (g (x := "_law_hands") (by decide +kernel))
  have C59 := fn59 (W := W) B C56 D59 (g (x := "_law_word") (by decide +kernel))
  have C60 := fn60 (W := W) B D60 (g (x := "_law_is_int") (by decide +kernel))
  have C61 := fn61 (W := W) B D61 (g (x := "_law_order") (by decide +kernel))
  have C62 := fn62 (W := W) B C61 D62 (g (x := "_law_row") (by decide +kernel))
  have C63 := fn63 (W := W) B D63 (g (x := "_law_value") (by decide +kernel))
  have C64 := fn64 (W := W) B C61 D64 (g (x := "_law_up") (by decide +kernel))
  have C65 := fn65 (W := W) B C61 D65 (g (x := "_law_levels") (by decide +kernel))
  have C66 := fn66 (W := W) B C56 D66 (g (x := "_law_steady") (by decide +kernel))
  have C67 := fn67 (W := W) B D67 (g (x := "_law_broken") (by decide +kernel))
  have S60 := fs60 (W := W) B D60 (g (x := "_law_is_int") (by decide +kernel))
  have C68 := fn68 (W := W) (c := c) (ca := ca) B F Q M S60 D68 (g (x := "_law_make") (by decide +kernel))
  have C69 := fn69 (W := W) B C68 C67 D69 (g (x := "_law_created") (by decide +kernel))
  have C70 := fn70 (W := W) B C61 C65 C64 D70 (g (x := "_law_foe") (by decide +kernel))
  have C71 := fn71 (W := W)  D71 (g (x := "_law_shorter") (by decide +kernel))
  have C72 := fn72 (W := W) B C61 C65 C62 C64 C71 D72 (g (x := "_law_due_lay") (by decide +kernel))
  have C73 := fn73 (W := W) B C64 C62 C63 D73 (g (x := "_law_due_answer") (by decide +kernel))
  have C74 := fn74 (W := W) (c := c) B M C60 C70 C72 C73 D74 (g (x := "_law_round") (by decide +kernel))
  have C75 := fn75 (W := W) (c := c) M D75 (g (x := "_law_call") (by decide +kernel))
  have C76 := fn76 (W := W) (c := c) (ca := ca) B F rfl rfl C75 S60 D76 (g (x := "_law_try") (by decide +kernel))
  have C77 := fn77 (W := W) (c := c) B C76 D77 (g (x := "_law_refused") (by decide +kernel))
  have C78 := fn78 (W := W) (c := c) B M C60 D78 (g (x := "_law_shown") (by decide +kernel))
  have C79 := fn79 (W := W)  D79 (g (x := "_law_flat") (by decide +kernel))
  have C80 := fn80 (W := W) (c := c) B M C60 C73 D80 (g (x := "_law_all_answers") (by decide +kernel))
  have L : Lw W c := ⟨B, M, C55, C56, C58, C59, C62, C63, C66, C69, C74, C77, C78, C79, C80⟩
  exact fn_of_body (W := W) (ps := ["_law_script"]) D81 S81 (b81 L)
end K43
namespace K43
open PySem PySem.Spec PySem.Calls PyProof.Rows L2
theorem walk_w {l : PySem.W.OpenLaw} {n k : Nat} {q : Program} {loose : List Str} {XP : (Str → Option Value) → Heap → Prop} {YP : World → Heap → Prop} {d : DefRec} {x : Str} (hn : l.most = some n) (hn2 : n ≤ sizeLine) (hdf : d.params.defaults = []) (hr : Room k callerA)
    (F : ∀ (w : World) (mg : Str → Option Value) (fa : Addr) (h : Heap), YP w h → h.Ns mainGlobals mg → mg d.name = some (.ref fa) → ∃ (K : PySem.W.Frag) (fd : FuncData) (sp : Sp), K.In h ∧ (∀ (s : Shared) (u : Value), BindsTo s fd ⟨[u], []⟩ [(x, u)]) ∧ (∀ (H : Hp) (a : Addr) (ns : List Int), ns.length ≤ n → Only H → SqL K H a (ns.map V.int) → sp [.ref a] H (fun v _ => v = .bl true) fun _ _ _ => False) ∧
      ∀ base : Heap, K.In base → base.Ns mainGlobals mg → FnOk l.prog w K mg base (L2N.CX l.prog w) k fa fd [x] sp) : PySem.W.WalkO q loose XP YP l.row.toRowW d [] (fun f vs => PySem.call f vs) :=
  Att.attach_call hn hdf fun w _ s1 mg _ f _ _ _ _ _ _ _ g1 y1 _ _ _ m1 o1 i1 l1 n1 => by
    obtain ⟨K, fd, sp, k1, b1, p1, r1⟩ := F w mg f _ y1 g1.T.g m1
    exact law_call k1 g1.T.g g1.T.b g1.T.builtins g1.T.nolimit n1 o1 i1 (Nat.le_trans l1 hn2) hr r1 b1 (fun H z1 z2 => p1 H _ _ l1 z1 z2) fun _ _ _ h => by
      obtain ⟨_, _, _, _, _, _, _, _, _, _, _, _, h⟩ := h
      exact h
theorem law_sp {K : PySem.W.Frag} {H : Hp} {a : Addr} {ns : List Int} (hl : ns.length ≤ 63) (hS : SqL K H a (ns.map V.int)) : spF 1 (F81 K) [.ref a] H (fun v _ => v = .bl true) fun _ _ _ => False :=
  ⟨fun _ => none, [.v (.ref a)], As.scr K a ns, .val (.bool true), rfl, (fun _ u h => nomatch (show (none : Option HO) = some u from h)), ⟨rfl, True.intro⟩, hS, ⟨a, ns, rfl, fun _ _ h => h, by omega, rfl⟩, fun v G2 H2 e k => by
    cases k
    rfl⟩
end K43
open PySem PySem.W PySem.Calls PyProof.Rows
theorem PySem.Challenge.cw_climbrow_k43_whole_exact_guide_holds : PySem.Challenge.rw_climbrow_k43_whole_exact_guide.Holds := by
  w_on; o_law
  refine HandSHeadRun.head_any (r := K43.R0) (q := view K43.R0.prog [81]) (H := K43.hk) (ob := K43.obT) (M := 60000) (loose := K43.hdL) (d := HandSHeadRun.topDef K43.R0.prog 81) (kwd := []) K43.obT_eq
    (by kernel_rfl) (fun s => by kernel_rfl) K43.run (by kernel_rfl) (by kernel_rfl) (by kernel_rfl) (by rfl) (by first | assumption | decide +kernel) (by decide +kernel) ⟨rfl, rfl, rfl, rfl, rfl, by decide +kernel⟩ ?hw ?hc
  case hw => w_witness2
  case hc =>
    refine K43.walk_w (l := PySem.Challenge.rw_climbrow_k43_whole_exact_guide) (n := 63) (k := 15) (x := "_law_script") rfl (by decide) (by kernel_rfl) ⟨rfl, by decide, by decide⟩ ?F
    intro w mg fa h Y G hm
    obtain ⟨K, KX, c⟩ := Y
    have hm2 : mg ("law" : PySem.Str) = some (.ref fa) := by
      have e : (HandSHeadRun.topDef K43.R0.prog 81).name = ("law" : PySem.Str) := by kernel_rfl
      rw [← e]
      exact hm
    obtain ⟨fd, hb, hF⟩ := K43.facts (w := w) KX G hm2 c
    exact ⟨K, fd, K43.spF 1 (K43.F81 K), KX, hb, fun H a ns hl _ hS => K43.law_sp hl hS, hF⟩
