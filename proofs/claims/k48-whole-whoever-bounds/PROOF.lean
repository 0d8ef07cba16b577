import PyProof.Rows.All
import Wide.All
import OpenK.AllK
import Wide.FinOn
import HandS.ForMost
import HandS.ForExc
import HandS.Deep
import HandS.Walk
import HandS.TupAny
import HandS.Style
import HandS.TupSets
import KE.KDictKeyed
import KE.KDictLaw
import KE.KIndexOf
import HandS.Conv
import KE.GoesZip
import KE.GoesEnum
import KE.GoesMore
import PyProof.TupleOfSeq
import HandS.IsInst
import PySem.Challenge.RW_threelays_k48_whole_whoever_bounds
import HandS.SortRule
import HandS.ExcInit
import HandS.ExcField
import HandS.ExcIs
import HandS.ExcOwn
import HandS.RaiseMore
import PyProof.ReprRoads
import PyProof.ReprText
import KE.KIsAll
import HandS.WordsExc
import HandS.Ends
set_option Elab.async false
set_option linter.all false
set_option maxRecDepth 100000
-- M1
section
set_option maxHeartbeats 200000
namespace Tl
abbrev Pt := Int × Int
def plt (a b : Pt) : Prop := a.1 < b.1 ∨ (a.1 = b.1 ∧ a.2 < b.2)
instance (a b : Pt) : Decidable (plt a b) := by unfold plt; infer_instance
def turn (a b c : Pt) : Int := (b.1 - a.1) * (c.2 - a.2) - (b.2 - a.2) * (c.1 - a.1)

theorem plt_irrefl (a : Pt) : ¬ plt a a := by unfold plt; omega
theorem plt_trans {a b c : Pt} (h : plt a b) (k : plt b c) : plt a c := by unfold plt at *; omega
theorem plt_asymm {a b : Pt} (h : plt a b) : ¬ plt b a := by unfold plt at *; omega
theorem plt_ne {a b : Pt} (h : plt a b) : a ≠ b := fun e => plt_irrefl b (e ▸ h)
theorem pt_ext {a b : Pt} (h1 : a.1 = b.1) (h2 : a.2 = b.2) : a = b := by
  obtain ⟨a1, a2⟩ := a; obtain ⟨b1, b2⟩ := b; simp only at h1 h2; subst h1; subst h2; rfl
theorem plt_total (a b : Pt) : plt a b ∨ a = b ∨ plt b a := by
  rcases Int.lt_trichotomy a.1 b.1 with h | h | h
  · exact .inl (.inl h)
  · rcases Int.lt_trichotomy a.2 b.2 with k | k | k
    · exact .inl (.inr ⟨h, k⟩)
    · exact .inr (.inl (pt_ext h k))
    · exact .inr (.inr (.inr ⟨h.symm, k⟩))
  · exact .inr (.inr (.inl h))

/-- vectors -/
def cr (u v : Pt) : Int := u.1 * v.2 - u.2 * v.1
def lp (u : Pt) : Prop := 0 < u.1 ∨ (u.1 = 0 ∧ 0 < u.2)
def sub (b a : Pt) : Pt := (b.1 - a.1, b.2 - a.2)
theorem lp_sub {a b : Pt} (h : plt a b) : lp (sub b a) := by unfold plt at h; unfold lp sub; simp only; omega

/-- slopes are ordered -/
theorem cr_le {u v w : Pt} (hu : lp u) (hv : lp v) (hw : lp w) (h1 : 0 ≤ cr u v) (h2 : 0 ≤ cr v w) : 0 ≤ cr u w := by
  have e1 : cr u w * v.1 = cr u v * w.1 + cr v w * u.1 := by unfold cr; grind
  have e2 : cr u w * v.2 = cr u v * w.2 + cr v w * u.2 := by unfold cr; grind
  have hw1 : 0 ≤ w.1 := by unfold lp at hw; omega
  have hu1 : 0 ≤ u.1 := by unfold lp at hu; omega
  have p1 : 0 ≤ cr u v * w.1 := Int.mul_nonneg h1 hw1
  have p2 : 0 ≤ cr v w * u.1 := Int.mul_nonneg h2 hu1
  rcases hv with hv | ⟨hv, hv2⟩
  · rcases Int.lt_or_le (cr u w) 0 with k | k
    · have := Int.mul_neg_of_neg_of_pos k hv
      omega
    · exact k
  · rw [hv, Int.mul_zero] at e1
    have q1 : cr u v * w.1 = 0 := by omega
    have q2 : cr v w * u.1 = 0 := by omega
    -- v is upright: cr u v = u.1 * v.2, so u.1 v.2 >= 0; cr v w = - v.2 * w.1 ≥ 0 so w.1 ≤ 0
    have c2 : cr v w = - (v.2 * w.1) := by unfold cr; rw [hv]; grind
    have w0 : w.1 = 0 := by
      rcases Int.lt_or_le 0 w.1 with k | k
      · have := Int.mul_pos hv2 k
        omega
      · omega
    have w2 : 0 < w.2 := by unfold lp at hw; omega
    have : cr u w = u.1 * w.2 := by unfold cr; rw [w0]; grind
    rw [this]
    exact Int.mul_nonneg hu1 (Int.le_of_lt w2)
theorem cr_lt {u v w : Pt} (hu : lp u) (hv : lp v) (hw : lp w) (h1 : 0 ≤ cr u v) (h2 : 0 ≤ cr v w) (h : 0 < cr u v ∨ 0 < cr v w) : 0 < cr u w := by
  have e1 : cr u w * v.1 = cr u v * w.1 + cr v w * u.1 := by unfold cr; grind
  have e2 : cr u w * v.2 = cr u v * w.2 + cr v w * u.2 := by unfold cr; grind
  have h0 := cr_le hu hv hw h1 h2
  rcases Int.lt_or_le 0 (cr u w) with k | k
  · exact k
  · exfalso
    have z : cr u w = 0 := by omega
    rw [z, Int.zero_mul] at e1 e2
    have hw1 : 0 ≤ w.1 := by unfold lp at hw; omega
    have hu1 : 0 ≤ u.1 := by unfold lp at hu; omega
    have p1 : 0 ≤ cr u v * w.1 := Int.mul_nonneg h1 hw1
    have p2 : 0 ≤ cr v w * u.1 := Int.mul_nonneg h2 hu1
    have q1 : cr u v * w.1 = 0 := by omega
    have q2 : cr v w * u.1 = 0 := by omega
    rcases h with h | h
    · have w0 : w.1 = 0 := by rcases Int.mul_eq_zero.mp q1 with k | k <;> omega
      have w2 : 0 < w.2 := by unfold lp at hw; omega
      have r : 0 < cr u v * w.2 := Int.mul_pos h w2
      -- then cr v w * u.2 < 0, so cr v w > 0, u.1 = 0, u.2 > 0
      have n : cr v w * u.2 < 0 := by omega
      rcases Int.lt_or_le 0 (cr v w) with c | c
      · have u0 : u.1 = 0 := by rcases Int.mul_eq_zero.mp q2 with k | k <;> omega
        have u2 : 0 < u.2 := by unfold lp at hu; omega
        have := Int.mul_pos c u2
        omega
      · have c0 : cr v w = 0 := by omega
        rw [c0] at n; omega
    · have u0 : u.1 = 0 := by rcases Int.mul_eq_zero.mp q2 with k | k <;> omega
      have u2 : 0 < u.2 := by unfold lp at hu; omega
      have r : 0 < cr v w * u.2 := Int.mul_pos h u2
      have n : cr u v * w.2 < 0 := by omega
      rcases Int.lt_or_le 0 (cr u v) with c | c
      · have w0 : w.1 = 0 := by rcases Int.mul_eq_zero.mp q1 with k | k <;> omega
        have w2 : 0 < w.2 := by unfold lp at hw; omega
        have := Int.mul_pos c w2
        omega
      · have c0 : cr u v = 0 := by omega
        rw [c0] at n; omega
theorem cr_swap (u v : Pt) : cr v u = - cr u v := by unfold cr; grind
/-- the contrary order -/
theorem cr_ge {u v w : Pt} (hu : lp u) (hv : lp v) (hw : lp w) (h1 : cr u v ≤ 0) (h2 : cr v w ≤ 0) : cr u w ≤ 0 := by
  have a := cr_swap u v; have b := cr_swap v w; have c := cr_swap u w
  have := cr_le hw hv hu (by omega) (by omega)
  omega
theorem cr_gt {u v w : Pt} (hu : lp u) (hv : lp v) (hw : lp w) (h1 : cr u v ≤ 0) (h2 : cr v w ≤ 0) (h : cr u v < 0 ∨ cr v w < 0) : cr u w < 0 := by
  have a := cr_swap u v; have b := cr_swap v w; have c := cr_swap u w
  have := cr_lt hw hv hu (by omega) (by omega) (by omega)
  omega

/-! four rising points: the turns, by three vectors -/
structure Four (a b c d : Pt) (x y z : Int) : Prop where
  abc : turn a b c = x
  bcd : turn b c d = y
  abd : turn a b d = x + z
  acd : turn a c d = z + y
theorem four (a b c d : Pt) : ∃ z, Four a b c d (turn a b c) (turn b c d) z ∧ z = cr (sub b a) (sub d c) := by
  refine ⟨cr (sub b a) (sub d c), ⟨rfl, rfl, ?_, ?_⟩, rfl⟩
  · unfold turn cr sub; grind
  · unfold turn cr sub; grind
theorem turn_cr (a b c : Pt) : turn a b c = cr (sub b a) (sub c b) := by unfold turn cr sub; grind
/-- the facts of four rising points, as omega reads them: x = abc, y = bcd, z = ab x cd -/
theorem four_facts {a b c d : Pt} (h1 : plt a b) (h2 : plt b c) (h3 : plt c d) : ∃ x y z : Int, turn a b c = x ∧ turn b c d = y ∧ turn a b d = x + z ∧ turn a c d = z + y ∧
    (0 ≤ x → 0 ≤ y → 0 ≤ z ∧ (0 < x ∨ 0 < y → 0 < z)) ∧ (x ≤ 0 → y ≤ 0 → z ≤ 0 ∧ (x < 0 ∨ y < 0 → z < 0)) := by
  obtain ⟨z, ⟨_, _, e3, e4⟩, ez⟩ := four a b c d
  have l1 := lp_sub h1; have l2 := lp_sub h2; have l3 := lp_sub h3
  refine ⟨_, _, z, rfl, rfl, e3, e4, fun p q => ?_, fun p q => ?_⟩
  · rw [turn_cr] at p q
    rw [ez]
    exact ⟨cr_le l1 l2 l3 p q, fun r => cr_lt l1 l2 l3 p q (by rw [turn_cr, turn_cr] at r; exact r)⟩
  · rw [turn_cr] at p q
    rw [ez]
    exact ⟨cr_ge l1 l2 l3 p q, fun r => cr_gt l1 l2 l3 p q (by rw [turn_cr, turn_cr] at r; exact r)⟩

/-! the closed triangle, by areas -/
def iabs (n : Int) : Int := if n < 0 then -n else n
def within (a b c p : Pt) : Prop := iabs (turn a b p) + iabs (turn b c p) + iabs (turn a c p) = iabs (turn a b c)
theorem parts (a b c p : Pt) : turn a b p + turn b c p - turn a c p = turn a b c := by unfold turn; grind
theorem turn_rot (a b c : Pt) : turn b c a = turn a b c := by unfold turn; grind
theorem turn_swap (a b c : Pt) : turn a c b = - turn a b c := by unfold turn; grind
theorem turn_swap' (a b c : Pt) : turn b a c = - turn a b c := by unfold turn; grind
theorem turn_aab (a b : Pt) : turn a a b = 0 := by unfold turn; grind
theorem turn_aba (a b : Pt) : turn a b a = 0 := by unfold turn; grind
theorem turn_abb (a b : Pt) : turn a b b = 0 := by unfold turn; grind
theorem within_neg {a b c p : Pt} (h1 : turn a b p ≤ 0) (h2 : turn b c p ≤ 0) (h3 : 0 ≤ turn a c p) : within a b c p := by
  have e := parts a b c p
  unfold within iabs
  (repeat' split) <;> omega
theorem within_pos {a b c p : Pt} (h1 : 0 ≤ turn a b p) (h2 : 0 ≤ turn b c p) (h3 : turn a c p ≤ 0) : within a b c p := by
  have e := parts a b c p
  unfold within iabs
  (repeat' split) <;> omega
theorem of_within {a b c p : Pt} (h : within a b c p) : (turn a b p ≤ 0 ∧ turn b c p ≤ 0 ∧ 0 ≤ turn a c p) ∨ (0 ≤ turn a b p ∧ 0 ≤ turn b c p ∧ turn a c p ≤ 0) := by
  have e := parts a b c p
  unfold within iabs at h
  (repeat' split at h) <;> omega
end Tl

end
-- M2
section
set_option maxHeartbeats 200000
namespace Tl
abbrev Rising (l : List Pt) : Prop := l.Pairwise plt
abbrev T3 := Pt × Pt × Pt
abbrev E2 := Pt × Pt
/-- neighbours -/
def prs : List Pt → List E2
  | a :: b :: r => (a, b) :: prs (b :: r)
  | _ => []
theorem prs_app (a : Pt) (r : List Pt) : ∀ p, prs (p ++ a :: r) = prs (p ++ [a]) ++ prs (a :: r)
  | [] => rfl
  | [x] => by simp [prs]
  | x :: y :: p => by
    have ih := prs_app a r (y :: p)
    simp only [List.cons_append, prs] at ih ⊢
    rw [ih]
theorem prs_put (p q : List Pt) (a c : Pt) : prs (p ++ a :: c :: q) = prs (p ++ [a]) ++ (a, c) :: prs (c :: q) := by rw [prs_app]; rfl
theorem prs_put3 (p q : List Pt) (a b c : Pt) : prs (p ++ a :: b :: c :: q) = prs (p ++ [a]) ++ (a, b) :: (b, c) :: prs (c :: q) := by rw [prs_app]; rfl
theorem prs_mem : ∀ {l : List Pt} {u v : Pt}, (u, v) ∈ prs l → u ∈ l ∧ v ∈ l
  | [], _, _, h => by simp [prs] at h
  | [x], _, _, h => by simp [prs] at h
  | x :: y :: r, u, v, h => by
    simp only [prs, List.mem_cons, Prod.mk.injEq] at h
    rcases h with ⟨rfl, rfl⟩ | h
    · simp
    · obtain ⟨h1, h2⟩ := prs_mem h
      exact ⟨List.mem_cons_of_mem _ h1, List.mem_cons_of_mem _ h2⟩
theorem prs_lt : ∀ {l : List Pt} {u v : Pt}, Rising l → (u, v) ∈ prs l → plt u v
  | [], _, _, _, h => by simp [prs] at h
  | [x], _, _, _, h => by simp [prs] at h
  | x :: y :: r, u, v, hr, h => by
    simp only [prs, List.mem_cons, Prod.mk.injEq] at h
    rcases h with ⟨rfl, rfl⟩ | h
    · exact (List.pairwise_cons.mp hr).1 _ (by simp)
    · exact prs_lt (List.pairwise_cons.mp hr).2 h
/-- none between neighbours -/
theorem prs_gap : ∀ {l : List Pt} {u v x : Pt}, Rising l → (u, v) ∈ prs l → x ∈ l → x = u ∨ plt x u ∨ x = v ∨ plt v x
  | [], _, _, _, _, h, _ => by simp [prs] at h
  | [y], _, _, _, _, h, _ => by simp [prs] at h
  | y :: z :: r, u, v, x, hr, h, hx => by
    have hr' := List.pairwise_cons.mp hr
    simp only [prs, List.mem_cons, Prod.mk.injEq] at h
    rcases h with ⟨rfl, rfl⟩ | h
    · rcases List.mem_cons.mp hx with rfl | hx
      · exact .inl rfl
      · rcases List.mem_cons.mp hx with rfl | hx
        · exact .inr (.inr (.inl rfl))
        · exact .inr (.inr (.inr ((List.pairwise_cons.mp hr'.2).1 _ hx)))
    · rcases List.mem_cons.mp hx with rfl | hx
      · exact .inr (.inl (hr'.1 _ (prs_mem h).1))
      · exact prs_gap hr'.2 h hx
theorem prs_apart {l : List Pt} {u v u' v' : Pt} (hr : Rising l) (h : (u, v) ∈ prs l) (h' : (u', v') ∈ prs l) : (u = u' ∧ v = v') ∨ (u' = v ∨ plt v u') ∨ (u = v' ∨ plt v' u) := by
  have l1 := prs_lt hr h
  have l2 := prs_lt hr h'
  rcases prs_gap hr h (prs_mem h').1 with e | e | e | e
  · subst e
    rcases prs_gap hr h (prs_mem h').2 with e | e | e | e
    · subst e; exact absurd l2 (plt_irrefl _)
    · exact absurd (plt_trans l2 e) (plt_irrefl _)
    · exact .inl ⟨rfl, e.symm⟩
    · rcases prs_gap hr h' (prs_mem h).2 with k | k | k | k
      · subst k; exact absurd l1 (plt_irrefl _)
      · exact absurd (plt_trans l1 k) (plt_irrefl _)
      · exact .inl ⟨rfl, k⟩
      · exact absurd (plt_trans e k) (plt_irrefl _)
  · rcases prs_gap hr h' (prs_mem h).1 with k | k | k | k
    · subst k; exact absurd e (plt_irrefl _)
    · exact absurd (plt_trans e k) (plt_irrefl _)
    · exact .inr (.inr (.inl k))
    · exact .inr (.inr (.inr k))
  · exact .inr (.inl (.inl e))
  · exact .inr (.inl (.inr e))
/-- a place strictly between is in one pair alone -/
theorem prs_one {l : List Pt} {u v u' v' x : Pt} (hr : Rising l) (h : (u, v) ∈ prs l) (h' : (u', v') ∈ prs l) (a : plt u x) (b : plt x v) (a' : plt u' x) (b' : plt x v') : u = u' ∧ v = v' := by
  rcases prs_apart hr h h' with e | (e | e) | (e | e)
  · exact e
  · subst e; exact absurd b (plt_asymm a')
  · exact absurd (plt_trans (plt_trans e a') b) (plt_irrefl _)
  · subst e; exact absurd b' (plt_asymm a)
  · exact absurd (plt_trans (plt_trans e a) b') (plt_irrefl _)
/-- a point of the reach that is none of the list's own lies between two of it -/
theorem prs_at : ∀ {l : List Pt} {x : Pt}, Rising l → (∃ a, l.head? = some a ∧ plt a x) → (∃ b, l.getLast? = some b ∧ plt x b) → x ∉ l → ∃ u v, (u, v) ∈ prs l ∧ plt u x ∧ plt x v
  | [], _, _, ⟨_, h, _⟩, _, _ => by simp at h
  | [y], x, _, ⟨a, h, h1⟩, ⟨b, k, k1⟩, _ => by
    simp at h k; subst h; subst k
    exact absurd h1 (plt_asymm k1)
  | y :: z :: r, x, hr, ⟨a, h, h1⟩, ⟨b, k, k1⟩, hn => by
    simp at h; subst h
    rcases plt_total x z with e | e | e
    · exact ⟨y, z, by simp [prs], h1, e⟩
    · subst e; simp at hn
    · obtain ⟨u, v, p, q⟩ := prs_at (l := z :: r) (List.pairwise_cons.mp hr).2 ⟨z, rfl, e⟩ ⟨b, by rw [List.getLast?_cons_cons] at k; exact k, k1⟩ (fun q => hn (List.mem_cons_of_mem _ q))
      exact ⟨u, v, by simp [prs, p], q⟩
theorem mem_prs : ∀ {l : List Pt} {x : Pt}, 2 ≤ l.length → x ∈ l → ∃ y, (x, y) ∈ prs l ∨ (y, x) ∈ prs l
  | [], _, h, _ => by simp at h
  | [y], _, h, _ => by simp at h
  | [y, z], x, _, hx => by
    simp at hx
    rcases hx with rfl | rfl
    · exact ⟨z, .inl (by simp [prs])⟩
    · exact ⟨y, .inr (by simp [prs])⟩
  | y :: z :: w :: r, x, _, hx => by
    rcases List.mem_cons.mp hx with rfl | hx
    · exact ⟨z, .inl (by simp [prs])⟩
    · obtain ⟨q, hq⟩ := mem_prs (l := z :: w :: r) (by simp) hx
      exact ⟨q, by
        rcases hq with hq | hq
        · exact .inl (by rw [prs]; exact List.mem_cons_of_mem _ hq)
        · exact .inr (by rw [prs]; exact List.mem_cons_of_mem _ hq)⟩
theorem rising_nodup {l : List Pt} (h : Rising l) : l.Nodup := List.Pairwise.imp (fun h => plt_ne h) h
theorem rising_ext : ∀ {l l' : List Pt}, Rising l → Rising l' → (∀ x, x ∈ l ↔ x ∈ l') → l = l'
  | [], [], _, _, _ => rfl
  | [], y :: r, _, _, h => by have := (h y).mpr (by simp); simp at this
  | y :: r, [], _, _, h => by have := (h y).mp (by simp); simp at this
  | y :: r, z :: t, h1, h2, h => by
    have a := List.pairwise_cons.mp h1
    have b := List.pairwise_cons.mp h2
    have e : y = z := by
      rcases List.mem_cons.mp ((h y).mp (by simp)) with e | e
      · exact e
      · rcases List.mem_cons.mp ((h z).mpr (by simp)) with k | k
        · exact k.symm
        · exact absurd (a.1 _ k) (plt_asymm (b.1 _ e))
    subst e
    congr 1
    refine rising_ext a.2 b.2 fun x => ⟨fun hx => ?_, fun hx => ?_⟩
    · rcases List.mem_cons.mp ((h x).mp (List.mem_cons_of_mem _ hx)) with e | e
      · subst e; exact absurd (a.1 _ hx) (plt_irrefl _)
      · exact e
    · rcases List.mem_cons.mp ((h x).mpr (List.mem_cons_of_mem _ hx)) with e | e
      · subst e; exact absurd (b.1 _ hx) (plt_irrefl _)
      · exact e
theorem rising_sub : ∀ {F l : List Pt}, Rising l → Rising F → (∀ x ∈ l, x ∈ F) → l.Sublist F
  | [], [], _, _, _ => List.Sublist.slnil
  | [], y :: r, _, _, h => by have := h y (by simp); simp at this
  | z :: F, [], _, _, _ => List.nil_sublist _
  | z :: F, y :: r, h1, h2, h => by
    have a := List.pairwise_cons.mp h1
    have b := List.pairwise_cons.mp h2
    rcases List.mem_cons.mp (h y (by simp)) with e | e
    · subst e
      refine List.Sublist.cons_cons _ (rising_sub a.2 b.2 fun x hx => ?_)
      rcases List.mem_cons.mp (h x (List.mem_cons_of_mem _ hx)) with e | e
      · subst e; exact absurd (a.1 _ hx) (plt_irrefl _)
      · exact e
    · refine List.Sublist.cons _ (rising_sub h1 b.2 fun x hx => ?_)
      rcases List.mem_cons.mp (h x hx) with k | k
      · subst k
        rcases List.mem_cons.mp hx with q | q
        · subst q; exact e
        · exact absurd (plt_trans (b.1 _ e) (a.1 _ q)) (plt_irrefl _)
      · exact k

/-! fields, ties, triangles, fronts, steps -/
def clear (F : List Pt) (a b : Pt) : Prop := ∀ p ∈ F, plt a p → plt p b → turn a b p ≠ 0
structure IsTie (F : List Pt) (a b : Pt) : Prop where
  ma : a ∈ F
  mb : b ∈ F
  lt : plt a b
  cl : clear F a b
structure Tri (F : List Pt) (t : T3) : Prop where
  ma : t.1 ∈ F
  mb : t.2.1 ∈ F
  mc : t.2.2 ∈ F
  ab : plt t.1 t.2.1
  bc : plt t.2.1 t.2.2
  ne : turn t.1 t.2.1 t.2.2 ≠ 0
  void : ∀ p ∈ F, p ≠ t.1 → p ≠ t.2.1 → p ≠ t.2.2 → ¬ within t.1 t.2.1 t.2.2 p
structure Field (F : List Pt) : Prop where
  ris : Rising F
  spr : ∃ a ∈ F, ∃ b ∈ F, ∃ c ∈ F, turn a b c ≠ 0
structure Front (F f : List Pt) : Prop where
  ris : Rising f
  mem : ∀ x ∈ f, x ∈ F
  hd : f.head? = F.head?
  la : f.getLast? = F.getLast?
  cl : ∀ e ∈ prs f, clear F e.1 e.2
def Step (M : List T3) (f : List Pt) (k : Nat) (g : Bool) (t : T3) (f' : List Pt) : Prop :=
  t ∈ M ∧ ∃ p q, p.length = k ∧
    ((g = true ∧ turn t.1 t.2.1 t.2.2 < 0 ∧ f = p ++ t.1 :: t.2.2 :: q ∧ f' = p ++ t.1 :: t.2.1 :: t.2.2 :: q) ∨
     (g = false ∧ 0 < turn t.1 t.2.1 t.2.2 ∧ f = p ++ t.1 :: t.2.1 :: t.2.2 :: q ∧ f' = p ++ t.1 :: t.2.2 :: q))
theorem Tri.sides {F : List Pt} {t : T3} (h : Tri F t) : clear F t.1 t.2.1 ∧ clear F t.2.1 t.2.2 ∧ clear F t.1 t.2.2 := by
  obtain ⟨a, b, c⟩ := t
  obtain ⟨ma, mb, mc, ab, bc, ne, void⟩ := h
  simp only at *
  refine ⟨fun p hp h1 h2 e => ?_, fun p hp h1 h2 e => ?_, fun p hp h1 h2 e => ?_⟩
  · have hpc := plt_trans h2 bc
    refine void p hp (plt_ne h1).symm (plt_ne h2) (plt_ne hpc) ?_
    obtain ⟨x, y, z, e1, e2, e3, e4, p1, p2⟩ := four_facts h1 h2 bc
    have s1 := turn_swap a p b; have s2 := turn_swap a p c; have s3 := turn_swap b p c; have s4 := turn_swap a b p
    have r1 := turn_rot b c p
    have r2 := turn_rot p b c
    rcases Int.lt_or_le (turn a b c) 0 with k | k
    · refine within_neg (by omega) (by rw [← turn_rot] at r2; omega) (by omega)
    · refine within_pos (by omega) (by rw [← turn_rot] at r2; omega) (by omega)
  · have hap := plt_trans ab h1
    refine void p hp (plt_ne hap).symm (plt_ne h1).symm (plt_ne h2) ?_
    obtain ⟨x, y, z, e1, e2, e3, e4, p1, p2⟩ := four_facts ab h1 h2
    have s1 := turn_swap a p c; have s2 := turn_swap b p c
    rcases Int.lt_or_le (turn a b c) 0 with k | k
    · refine within_neg (by omega) (by omega) (by omega)
    · refine within_pos (by omega) (by omega) (by omega)
  · have s0 := turn_swap a p c
    have par := parts a b c p
    rcases plt_total p b with q | q | q
    · refine void p hp (plt_ne h1).symm (plt_ne q) (plt_ne h2) ?_
      obtain ⟨x, y, z, e1, e2, e3, e4, p1, p2⟩ := four_facts h1 q bc
      have s1 := turn_swap a p b; have r2 := turn_rot p b c
      rcases Int.lt_or_le (turn a b c) 0 with k | k
      · refine within_neg (by omega) (by omega) (by omega)
      · refine within_pos (by omega) (by omega) (by omega)
    · subst q
      omega
    · refine void p hp (plt_ne h1).symm (plt_ne q).symm (plt_ne h2) ?_
      obtain ⟨x, y, z, e1, e2, e3, e4, p1, p2⟩ := four_facts ab q h2
      have s1 := turn_swap b p c
      rcases Int.lt_or_le (turn a b c) 0 with k | k
      · refine within_neg (by omega) (by omega) (by omega)
      · refine within_pos (by omega) (by omega) (by omega)
end Tl

end
-- M3
section
set_option maxHeartbeats 200000
namespace Tl
theorem rising_put {p q : List Pt} {a b c : Pt} (h : Rising (p ++ a :: c :: q)) (h1 : plt a b) (h2 : plt b c) : Rising (p ++ a :: b :: c :: q) := by
  obtain ⟨p1, p2, p3⟩ := List.pairwise_append.mp h
  have q1 := List.pairwise_cons.mp p2
  have q2 := List.pairwise_cons.mp q1.2
  refine List.pairwise_append.mpr ⟨p1, List.pairwise_cons.mpr ⟨fun x hx => ?_, List.pairwise_cons.mpr ⟨fun x hx => ?_, q1.2⟩⟩, fun x hx y hy => ?_⟩
  · rcases List.mem_cons.mp hx with rfl | hx
    · exact h1
    · exact q1.1 _ hx
  · rcases List.mem_cons.mp hx with rfl | hx
    · exact h2
    · exact plt_trans h2 (q2.1 _ hx)
  · have ha := p3 x hx a (by simp)
    rcases List.mem_cons.mp hy with rfl | hy
    · exact ha
    · rcases List.mem_cons.mp hy with rfl | hy
      · exact plt_trans ha h1
      · exact p3 x hx y (List.mem_cons_of_mem _ hy)
theorem rising_take {p q : List Pt} {a b c : Pt} (h : Rising (p ++ a :: b :: c :: q)) : Rising (p ++ a :: c :: q) :=
  List.Pairwise.sublist (List.Sublist.append (List.Sublist.refl p) (List.Sublist.cons_cons a (List.Sublist.cons b (List.Sublist.refl _)))) h
theorem head_put (p q : List Pt) (a b c : Pt) : (p ++ a :: b :: c :: q).head? = (p ++ a :: c :: q).head? := by cases p <;> simp
theorem last_put (p q : List Pt) (a b c : Pt) : (p ++ a :: b :: c :: q).getLast? = (p ++ a :: c :: q).getLast? := by
  simp [List.getLast?_append, List.getLast?_cons]
theorem Step.lens {M : List T3} {f f' : List Pt} {k : Nat} {g : Bool} {t : T3} (s : Step M f k g t f') : (g = true → f'.length = f.length + 1) ∧ (g = false → f'.length + 1 = f.length) := by
  obtain ⟨_, p, q, _, ⟨rfl, _, rfl, rfl⟩ | ⟨rfl, _, rfl, rfl⟩⟩ := s
  · refine ⟨fun _ => ?_, fun h => nomatch h⟩
    simp only [List.length_append, List.length_cons]; omega
  · refine ⟨(fun h => nomatch h), fun _ => ?_⟩
    simp only [List.length_append, List.length_cons]; omega
theorem Step.front {F : List Pt} {M : List T3} {f f' : List Pt} {k : Nat} {g : Bool} {t : T3} (hM : ∀ t ∈ M, Tri F t) (hf : Front F f) (s : Step M f k g t f') : Front F f' := by
  obtain ⟨ht, p, q, _, hh⟩ := s
  have T := hM t ht
  obtain ⟨c1, c2, c3⟩ := T.sides
  obtain ⟨a, b, c⟩ := t
  simp only at *
  rcases hh with ⟨_, _, rfl, rfl⟩ | ⟨_, _, rfl, rfl⟩
  · refine ⟨rising_put hf.ris T.ab T.bc, fun x hx => ?_, (head_put p q a b c).trans hf.hd, (last_put p q a b c).trans hf.la, fun e he => ?_⟩
    · have hm := hf.mem x
      simp only [List.mem_append, List.mem_cons] at hx hm
      rcases hx with h | h | h | h | h
      · exact hm (.inl h)
      · exact hm (.inr (.inl h))
      · subst h; exact T.mb
      · exact hm (.inr (.inr (.inl h)))
      · exact hm (.inr (.inr (.inr h)))
    · have hc := hf.cl e
      rw [prs_put3] at he
      rw [prs_put] at hc
      simp only [List.mem_append, List.mem_cons] at he hc
      rcases he with h | h | h | h
      · exact hc (.inl h)
      · subst h; exact c1
      · subst h; exact c2
      · exact hc (.inr (.inr h))
  · refine ⟨rising_take hf.ris, fun x hx => ?_, (head_put p q a b c).symm.trans hf.hd, (last_put p q a b c).symm.trans hf.la, fun e he => ?_⟩
    · have hm := hf.mem x
      simp only [List.mem_append, List.mem_cons] at hx hm
      rcases hx with h | h | h | h
      · exact hm (.inl h)
      · exact hm (.inr (.inl h))
      · exact hm (.inr (.inr (.inr (.inl h))))
      · exact hm (.inr (.inr (.inr (.inr h))))
    · have hc := hf.cl e
      rw [prs_put] at he
      rw [prs_put3] at hc
      simp only [List.mem_append, List.mem_cons] at he hc
      rcases he with h | h | h
      · exact hc (.inl h)
      · subst h; exact c3
      · exact hc (.inr (.inr (.inr h)))

/-! the rank -/
def above (f : List Pt) (p : Pt) : Bool := (prs f).any fun e => decide (plt e.1 p) && decide (plt p e.2) && decide (0 < turn e.1 e.2 p)
def Abv (l : List E2) (p : Pt) : Prop := ∃ u v, (u, v) ∈ l ∧ plt u p ∧ plt p v ∧ 0 < turn u v p
theorem above_iff {f : List Pt} {p : Pt} : above f p = true ↔ Abv (prs f) p := by
  unfold above Abv
  simp only [List.any_eq_true, Bool.and_eq_true, decide_eq_true_eq]
  constructor
  · rintro ⟨⟨u, v⟩, h, ⟨h1, h2⟩, h3⟩; exact ⟨u, v, h, h1, h2, h3⟩
  · rintro ⟨u, v, h, h1, h2, h3⟩; exact ⟨(u, v), h, ⟨h1, h2⟩, h3⟩
def rank (F f : List Pt) : Nat := 2 * (F.filter (above f)).length + f.length
theorem count_same {α : Type} {P P' : α → Bool} : ∀ {l : List α}, (∀ x ∈ l, P x = P' x) → (l.filter P).length = (l.filter P').length
  | [], _ => rfl
  | y :: r, h => by
    have ih := count_same (l := r) fun x hx => h x (List.mem_cons_of_mem _ hx)
    have e := h y (by simp)
    simp only [List.filter_cons]
    rw [e]
    split <;> simp [ih]
theorem count_less {α : Type} {P P' : α → Bool} {b : α} : ∀ {l : List α}, l.Nodup → b ∈ l → P b = true → P' b = false → (∀ x ∈ l, x ≠ b → P x = P' x) → (l.filter P).length = (l.filter P').length + 1
  | [], _, hb, _, _, _ => by simp at hb
  | y :: r, hn, hb, h1, h2, h => by
    have hn' := List.nodup_cons.mp hn
    simp only [List.filter_cons]
    by_cases e : y = b
    · subst e
      rw [h1, h2]
      have := count_same (P := P) (P' := P') (l := r) fun x hx => h x (List.mem_cons_of_mem _ hx) (fun z => hn'.1 (z ▸ hx))
      simp [this]
    · have hb' : b ∈ r := by
        rcases List.mem_cons.mp hb with k | k
        · exact absurd k.symm e
        · exact k
      have ih := count_less hn'.2 hb' h1 h2 fun x hx => h x (List.mem_cons_of_mem _ hx)
      rw [h y (by simp) e]
      split <;> simp [ih]
theorem above_split {F : List Pt} {a b c x : Pt} {L R : List E2} (h1 : plt a b) (h2 : plt b c) (hv : x ≠ a → x ≠ b → x ≠ c → ¬ within a b c x) (hxb : x ≠ b) :
    Abv (L ++ (a, b) :: (b, c) :: R) x ↔ Abv (L ++ (a, c) :: R) x := by
  have key : ((plt a x ∧ plt x b ∧ 0 < turn a b x) ∨ (plt b x ∧ plt x c ∧ 0 < turn b c x)) ↔ (plt a x ∧ plt x c ∧ 0 < turn a c x) := by
    have par := parts a b c x
    have sw := turn_swap a x c
    constructor
    · rintro (⟨k1, k2, k3⟩ | ⟨k1, k2, k3⟩)
      · refine ⟨k1, plt_trans k2 h2, ?_⟩
        have nv := hv (plt_ne k1).symm (plt_ne k2) (plt_ne (plt_trans k2 h2))
        obtain ⟨y1, y2, z, e1, e2, e3, e4, p1, p2⟩ := four_facts k1 k2 h2
        have s1 := turn_swap a x b; have r1 := turn_rot x b c
        rcases Int.lt_or_le 0 (turn a c x) with q | q
        · exact q
        · exfalso
          refine nv (within_pos (by omega) ?_ q)
          rcases Int.lt_or_le (turn b c x) 0 with w | w
          · have := p2 (by omega) (by omega)
            omega
          · exact w
      · refine ⟨plt_trans h1 k1, k2, ?_⟩
        have nv := hv (plt_ne (plt_trans h1 k1)).symm (plt_ne k1).symm (plt_ne k2)
        obtain ⟨y1, y2, z, e1, e2, e3, e4, p1, p2⟩ := four_facts h1 k1 k2
        have s1 := turn_swap b x c
        rcases Int.lt_or_le 0 (turn a c x) with q | q
        · exact q
        · exfalso
          refine nv (within_pos ?_ (by omega) q)
          rcases Int.lt_or_le (turn a b x) 0 with w | w
          · have := p2 (by omega) (by omega)
            omega
          · exact w
    · rintro ⟨k1, k2, k3⟩
      rcases plt_total x b with q | q | q
      · left
        refine ⟨k1, q, ?_⟩
        have nv := hv (plt_ne k1).symm (plt_ne q) (plt_ne k2)
        obtain ⟨y1, y2, z, e1, e2, e3, e4, p1, p2⟩ := four_facts k1 q h2
        have s1 := turn_swap a x b; have r1 := turn_rot x b c
        rcases Int.lt_or_le 0 (turn a b x) with w | w
        · exact w
        · exfalso
          refine nv (within_neg w ?_ (Int.le_of_lt k3))
          rcases Int.lt_or_le 0 (turn b c x) with v | v
          · have := p1 (by omega) (by omega)
            omega
          · exact v
      · exact absurd q hxb
      · right
        refine ⟨q, k2, ?_⟩
        have nv := hv (plt_ne k1).symm (plt_ne q).symm (plt_ne k2)
        obtain ⟨y1, y2, z, e1, e2, e3, e4, p1, p2⟩ := four_facts h1 q k2
        have s1 := turn_swap b x c
        rcases Int.lt_or_le 0 (turn b c x) with w | w
        · exact w
        · exfalso
          refine nv (within_neg ?_ w (Int.le_of_lt k3))
          rcases Int.lt_or_le 0 (turn a b x) with v | v
          · have := p1 (by omega) (by omega)
            omega
          · exact v
  unfold Abv
  constructor
  · rintro ⟨u, v, h, k1, k2, k3⟩
    simp only [List.mem_append, List.mem_cons, Prod.mk.injEq] at h
    rcases h with h | ⟨rfl, rfl⟩ | ⟨rfl, rfl⟩ | h
    · exact ⟨u, v, by simp [h], k1, k2, k3⟩
    · obtain ⟨j1, j2, j3⟩ := key.mp (.inl ⟨k1, k2, k3⟩)
      exact ⟨u, c, by simp, j1, j2, j3⟩
    · obtain ⟨j1, j2, j3⟩ := key.mp (.inr ⟨k1, k2, k3⟩)
      exact ⟨a, v, by simp, j1, j2, j3⟩
    · exact ⟨u, v, by simp [h], k1, k2, k3⟩
  · rintro ⟨u, v, h, k1, k2, k3⟩
    simp only [List.mem_append, List.mem_cons, Prod.mk.injEq] at h
    rcases h with h | ⟨rfl, rfl⟩ | h
    · exact ⟨u, v, by simp [h], k1, k2, k3⟩
    · rcases key.mpr ⟨k1, k2, k3⟩ with ⟨j1, j2, j3⟩ | ⟨j1, j2, j3⟩
      · exact ⟨u, b, by simp, j1, j2, j3⟩
      · exact ⟨b, v, by simp, j1, j2, j3⟩
    · exact ⟨u, v, by simp [h], k1, k2, k3⟩
/-- a point of the front is not above it -/
theorem not_above_own {f : List Pt} {x : Pt} (hr : Rising f) (hx : x ∈ f) : ¬ Abv (prs f) x := by
  rintro ⟨u, v, h, k1, k2, _⟩
  rcases prs_gap hr h hx with e | e | e | e
  · subst e; exact plt_irrefl _ k1
  · exact plt_asymm e k1
  · subst e; exact plt_irrefl _ k2
  · exact plt_asymm e k2
theorem bool_iff {a b : Bool} (h : a = true ↔ b = true) : a = b := by cases a <;> cases b <;> simp_all
/-- each step lowers the rank by one -/
theorem Step.rank {F : List Pt} {M : List T3} {f f' : List Pt} {k : Nat} {g : Bool} {t : T3} (hF : Rising F) (hM : ∀ t ∈ M, Tri F t) (hf : Front F f) (s : Step M f k g t f') : rank F f = rank F f' + 1 := by
  have hf' := s.front hM hf
  obtain ⟨ht, p, q, _, hh⟩ := s
  have T := hM t ht
  obtain ⟨a, b, c⟩ := t
  simp only at *
  have agree : ∀ x ∈ F, x ≠ b → above (p ++ a :: b :: c :: q) x = above (p ++ a :: c :: q) x := fun x hx hxb => by
    refine bool_iff ?_
    rw [above_iff, above_iff, prs_put3, prs_put]
    exact above_split (F := F) T.ab T.bc (T.void x hx) hxb
  unfold Tl.rank
  rcases hh with ⟨_, hn, rfl, rfl⟩ | ⟨_, hn, rfl, rfl⟩
  · have e1 : above (p ++ a :: c :: q) b = true := by
      rw [above_iff, prs_put]
      exact ⟨a, c, by simp, T.ab, T.bc, by have := turn_swap a c b; omega⟩
    have e2 : above (p ++ a :: b :: c :: q) b = false := by
      rw [Bool.eq_false_iff]
      intro h
      exact not_above_own hf'.ris (by simp) (above_iff.mp h)
    have := count_less (P := above (p ++ a :: c :: q)) (P' := above (p ++ a :: b :: c :: q)) (rising_nodup hF) T.mb e1 e2 fun x hx hb => (agree x hx hb).symm
    simp only [List.length_append, List.length_cons]
    omega
  · have e2 : above (p ++ a :: b :: c :: q) b = false := by
      rw [Bool.eq_false_iff]
      intro h
      exact not_above_own hf.ris (by simp) (above_iff.mp h)
    have e1 : above (p ++ a :: c :: q) b = false := by
      rw [Bool.eq_false_iff]
      intro h
      obtain ⟨u, v, h, k1, k2, k3⟩ := above_iff.mp h
      obtain ⟨rfl, rfl⟩ := prs_one hf'.ris h (u' := a) (v' := c) (by rw [prs_put]; simp) k1 k2 T.ab T.bc
      have := turn_swap u b v
      omega
    have := count_same (P := above (p ++ a :: b :: c :: q)) (P' := above (p ++ a :: c :: q)) (l := F) fun x hx => by
      by_cases e : x = b
      · subst e; rw [e1, e2]
      · exact agree x hx e
    simp only [List.length_append, List.length_cons]
    omega
end Tl

end
-- M4
section
set_option maxHeartbeats 200000
namespace Tl
/-! places between points, doubled -/
def dbl (p : Pt) : Pt := (2 * p.1, 2 * p.2)
def mid (e : E2) : Pt := (e.1.1 + e.2.1, e.1.2 + e.2.2)
theorem dbl_lt {a b : Pt} : plt (dbl a) (dbl b) ↔ plt a b := by unfold plt dbl; simp only; omega
theorem turn_dbl (a b c : Pt) : turn (dbl a) (dbl b) (dbl c) = 4 * turn a b c := by unfold turn dbl; grind
theorem mid_between {a b : Pt} (h : plt a b) : plt (dbl a) (mid (a, b)) ∧ plt (mid (a, b)) (dbl b) := by unfold plt dbl mid at *; simp only; omega
theorem turn_mid (u v a b : Pt) : turn (dbl u) (dbl v) (mid (a, b)) = 2 * turn u v a + 2 * turn u v b := by unfold turn dbl mid; grind
def ple (a b : Pt) : Prop := a = b ∨ plt a b
/-- the place m is not above the chain whose pairs are l -/
def Na (l : List E2) (m : Pt) : Prop := ∃ u v, (u, v) ∈ l ∧ ple (dbl u) m ∧ plt m (dbl v) ∧ turn (dbl u) (dbl v) m ≤ 0
theorem na_put {a b c m : Pt} {L R : List E2} (h1 : plt a b) (h2 : plt b c) (hn : turn a b c < 0) (h : Na (L ++ (a, c) :: R) m) : Na (L ++ (a, b) :: (b, c) :: R) m := by
  obtain ⟨u, v, h, k1, k2, k3⟩ := h
  simp only [List.mem_append, List.mem_cons, Prod.mk.injEq] at h
  rcases h with h | ⟨rfl, rfl⟩ | h
  · exact ⟨u, v, by simp [h], k1, k2, k3⟩
  · have H1 := dbl_lt.mpr h1
    have H2 := dbl_lt.mpr h2
    have Hn := turn_dbl u b v
    rcases k1 with k1 | k1
    · subst k1
      exact ⟨u, b, by simp, .inl rfl, H1, by rw [turn_aba]; exact Int.le_refl 0⟩
    · rcases plt_total m (dbl b) with q | q | q
      · refine ⟨u, b, by simp, .inr k1, q, ?_⟩
        obtain ⟨x, y, z, e1, e2, e3, e4, p1, p2⟩ := four_facts k1 q H2
        have s1 := turn_swap (dbl u) m (dbl b); have s2 := turn_swap (dbl u) m (dbl v)
        rcases Int.lt_or_le x 0 with w | w
        · exfalso
          rcases Int.lt_or_le 0 y with r | r
          · omega
          · have := (p2 (by omega) r).2 (by omega)
            omega
        · omega
      · subst q
        exact ⟨b, v, by simp, .inl rfl, H2, by rw [turn_aba]; exact Int.le_refl 0⟩
      · refine ⟨b, v, by simp, .inr q, k2, ?_⟩
        obtain ⟨x, y, z, e1, e2, e3, e4, p1, p2⟩ := four_facts H1 q k2
        have s1 := turn_swap (dbl b) m (dbl v); have s2 := turn_swap (dbl u) m (dbl v)
        rcases Int.lt_or_le y 0 with w | w
        · exfalso
          rcases Int.lt_or_le 0 x with r | r
          · have := turn_swap (dbl u) (dbl b) m
            omega
          · have := (p2 (by omega) (by omega)).1
            omega
        · omega
  · exact ⟨u, v, by simp [h], k1, k2, k3⟩
theorem na_take {a b c m : Pt} {L R : List E2} (h1 : plt a b) (h2 : plt b c) (hn : 0 < turn a b c) (h : Na (L ++ (a, b) :: (b, c) :: R) m) : Na (L ++ (a, c) :: R) m := by
  obtain ⟨u, v, h, k1, k2, k3⟩ := h
  have H1 := dbl_lt.mpr h1
  have H2 := dbl_lt.mpr h2
  have Hn := turn_dbl a b c
  simp only [List.mem_append, List.mem_cons, Prod.mk.injEq] at h
  rcases h with h | ⟨rfl, rfl⟩ | ⟨rfl, rfl⟩ | h
  · exact ⟨u, v, by simp [h], k1, k2, k3⟩
  · refine ⟨u, c, by simp, k1, plt_trans k2 H2, ?_⟩
    rcases k1 with k1 | k1
    · subst k1
      rw [turn_aba]; exact Int.le_refl 0
    · obtain ⟨x, y, z, e1, e2, e3, e4, p1, p2⟩ := four_facts k1 k2 H2
      have s1 := turn_swap (dbl u) m (dbl v); have s2 := turn_swap (dbl u) m (dbl c)
      rcases Int.lt_or_le z 0 with w | w
      · have := (p1 (by omega) (by omega)).1
        omega
      · omega
  · rcases k1 with k1 | k1
    · subst k1
      refine ⟨a, v, by simp, .inr H1, H2, ?_⟩
      have := turn_swap (dbl a) (dbl u) (dbl v)
      omega
    · refine ⟨a, v, by simp, .inr (plt_trans H1 k1), k2, ?_⟩
      obtain ⟨x, y, z, e1, e2, e3, e4, p1, p2⟩ := four_facts H1 k1 k2
      have s1 := turn_swap (dbl u) m (dbl v); have s2 := turn_swap (dbl a) m (dbl v)
      rcases Int.lt_or_le z 0 with w | w
      · have := (p1 (by omega) (by omega)).1
        omega
      · omega
  · exact ⟨u, v, by simp [h], k1, k2, k3⟩
theorem na_own {l : List Pt} {e : E2} (hr : Rising l) (h : e ∈ prs l) : Na (prs l) (mid e) := by
  obtain ⟨a, b⟩ := e
  have hb := mid_between (prs_lt hr h)
  refine ⟨a, b, h, .inr hb.1, hb.2, ?_⟩
  rw [turn_mid, turn_aba, turn_abb]
  exact Int.le_refl 0
/-- if a place is not above, its pair tells so -/
theorem na_at {l : List Pt} {u v m : Pt} (hr : Rising l) (h : (u, v) ∈ prs l) (h1 : plt (dbl u) m) (h2 : plt m (dbl v)) (hn : Na (prs l) m) : turn (dbl u) (dbl v) m ≤ 0 := by
  obtain ⟨u', v', h', k1, k2, k3⟩ := hn
  rcases prs_apart hr h h' with ⟨rfl, rfl⟩ | (e | e) | (e | e)
  · exact k3
  · subst e
    rcases k1 with k1 | k1
    · exact absurd (k1 ▸ h2) (plt_irrefl _)
    · exact absurd h2 (plt_asymm k1)
  · have := dbl_lt.mpr e
    rcases k1 with k1 | k1
    · exact absurd (plt_trans h2 (k1 ▸ this)) (plt_irrefl _)
    · exact absurd (plt_trans (plt_trans h2 this) k1) (plt_irrefl _)
  · subst e; exact absurd k2 (plt_asymm h1)
  · have := dbl_lt.mpr e
    exact absurd (plt_trans (plt_trans k2 this) h1) (plt_irrefl _)
/-- the ties that a step brings -/
def newt (t : T3) : List E2 := if 0 < turn t.1 t.2.1 t.2.2 then [(t.1, t.2.2)] else [(t.1, t.2.1), (t.2.1, t.2.2)]
def sidesOf (t : T3) : List E2 := [(t.1, t.2.1), (t.1, t.2.2), (t.2.1, t.2.2)]
theorem newt_sides {t : T3} {e : E2} (h : e ∈ newt t) : e ∈ sidesOf t := by
  unfold newt at h
  unfold sidesOf
  split at h
  · simp at h ⊢; exact .inr (.inl h)
  · simp at h ⊢
    rcases h with h | h
    · exact .inl h
    · exact .inr (.inr h)
/-- the lay's way: triangles from one front to another -/
inductive Way (M : List T3) (f0 : List Pt) : List T3 → List Pt → Prop
  | nil : Way M f0 [] f0
  | snoc {ts : List T3} {f f' : List Pt} {k : Nat} {g : Bool} {t : T3} : Way M f0 ts f → Step M f k g t f' → Way M f0 (ts ++ [t]) f'
structure Gone (F f0 : List Pt) (ts : List T3) (f : List Pt) : Prop where
  fr : Front F f
  nd : (prs f0 ++ ts.flatMap newt).Nodup
  na : ∀ e ∈ prs f0 ++ ts.flatMap newt, Na (prs f) (mid e)
  lo : ∀ e ∈ prs f0, e ∈ prs f ∨ ∃ t ∈ ts, e ∈ sidesOf t
  tri : ∀ t ∈ ts, Tri F t
theorem prs_nodup {l : List Pt} (hr : Rising l) : (prs l).Nodup := by
  induction l with
  | nil => simp [prs]
  | cons a r ih =>
    cases r with
    | nil => simp [prs]
    | cons b r =>
      have h := List.pairwise_cons.mp hr
      rw [prs]
      refine List.nodup_cons.mpr ⟨fun hm => ?_, ih h.2⟩
      exact plt_irrefl a (h.1 a (prs_mem hm).1)
theorem Way.gone {F f0 : List Pt} {M : List T3} {ts : List T3} {f : List Pt} (hM : ∀ t ∈ M, Tri F t) (h0 : Front F f0) (w : Way M f0 ts f) : Gone F f0 ts f := by
  induction w with
  | nil => exact ⟨h0, by simpa using prs_nodup h0.ris, fun e he => na_own h0.ris (by simpa using he), fun e he => .inl he, by simp⟩
  | @snoc ts f f' k g t _ s ih =>
    have hf' := s.front hM ih.fr
    obtain ⟨ht, p, q, _, hh⟩ := s
    have T := hM t ht
    have hfr := ih.fr
    obtain ⟨a, b, c⟩ := t
    simp only at *
    have Tab : plt a b := T.ab
    have Tbc : plt b c := T.bc
    rcases hh with ⟨_, hn, rfl, rfl⟩ | ⟨_, hn, rfl, rfl⟩
    · have hn : turn a b c < 0 := hn
      have en : newt (a, b, c) = [(a, b), (b, c)] := by unfold newt; rw [if_neg (by simp only; omega)]
      have na' : ∀ e ∈ prs f0 ++ ts.flatMap newt, Na (prs (p ++ a :: b :: c :: q)) (mid e) := fun e he => by
        have := ih.na e he
        rw [prs_put3]; rw [prs_put] at this
        exact na_put Tab Tbc hn this
      have hac : (a, c) ∈ prs (p ++ a :: c :: q) := by rw [prs_put]; simp
      have hab : (a, b) ∈ prs (p ++ a :: b :: c :: q) := by rw [prs_put3]; simp
      have hbc : (b, c) ∈ prs (p ++ a :: b :: c :: q) := by rw [prs_put3]; simp
      have sw := turn_swap a b c
      refine ⟨hf', ?_, fun e he => ?_, fun e he => ?_, fun t ht => ?_⟩
      · rw [List.flatMap_append, ← List.append_assoc]
        refine List.nodup_append.mpr ⟨ih.nd, ?_, fun e he e' he' => ?_⟩
        · simp only [List.flatMap_cons, List.flatMap_nil, en, List.append_nil]
          refine List.nodup_cons.mpr ⟨?_, by simp⟩
          simp only [List.mem_singleton, Prod.mk.injEq]
          intro z; exact plt_ne Tab z.1
        · rintro rfl
          have hna := ih.na e he
          simp only [List.flatMap_cons, List.flatMap_nil, en, List.append_nil, List.mem_cons, List.not_mem_nil, or_false] at he'
          rcases he' with rfl | rfl
          · have b1 := mid_between Tab
            have := na_at hfr.ris hac b1.1 (plt_trans b1.2 (dbl_lt.mpr Tbc)) hna
            rw [turn_mid, turn_aba] at this
            omega
          · have b1 := mid_between Tbc
            have := na_at hfr.ris hac (plt_trans (dbl_lt.mpr Tab) b1.1) b1.2 hna
            rw [turn_mid, turn_abb] at this
            omega
      · rw [List.flatMap_append, ← List.append_assoc] at he
        rcases List.mem_append.mp he with he | he
        · exact na' e he
        · simp only [List.flatMap_cons, List.flatMap_nil, en, List.append_nil, List.mem_cons, List.not_mem_nil, or_false] at he
          rcases he with rfl | rfl
          · exact na_own hf'.ris hab
          · exact na_own hf'.ris hbc
      · rcases ih.lo e he with h | ⟨t, ht, h⟩
        · rw [prs_put] at h
          rw [prs_put3]
          simp only [List.mem_append, List.mem_cons] at h ⊢
          rcases h with h | h | h
          · exact .inl (.inl h)
          · exact .inr ⟨(a, b, c), by simp, by rw [h]; simp [sidesOf]⟩
          · exact .inl (.inr (.inr (.inr h)))
        · exact .inr ⟨t, by simp [ht], h⟩
      · rcases List.mem_append.mp ht with h | h
        · exact ih.tri t h
        · simp at h; subst h; exact T
    · have hn : 0 < turn a b c := hn
      have en : newt (a, b, c) = [(a, c)] := by unfold newt; rw [if_pos hn]
      have na' : ∀ e ∈ prs f0 ++ ts.flatMap newt, Na (prs (p ++ a :: c :: q)) (mid e) := fun e he => by
        have := ih.na e he
        rw [prs_put]; rw [prs_put3] at this
        exact na_take Tab Tbc hn this
      have hac : (a, c) ∈ prs (p ++ a :: c :: q) := by rw [prs_put]; simp
      have hab : (a, b) ∈ prs (p ++ a :: b :: c :: q) := by rw [prs_put3]; simp
      have hbc : (b, c) ∈ prs (p ++ a :: b :: c :: q) := by rw [prs_put3]; simp
      refine ⟨hf', ?_, fun e he => ?_, fun e he => ?_, fun t ht => ?_⟩
      · rw [List.flatMap_append, ← List.append_assoc]
        refine List.nodup_append.mpr ⟨ih.nd, ?_, fun e he e' he' => ?_⟩
        · simp [en]
        · rintro rfl
          have hna := ih.na e he
          simp only [List.flatMap_cons, List.flatMap_nil, en, List.append_nil, List.mem_cons, List.not_mem_nil, or_false] at he'
          subst he'
          have b1 := mid_between (plt_trans Tab Tbc)
          rcases plt_total (mid (a, c)) (dbl b) with z | z | z
          · have := na_at hfr.ris hab b1.1 z hna
            rw [turn_mid, turn_aba] at this
            omega
          · have b2 := mid_between Tbc
            have := na_at hfr.ris hab b1.1 (m := mid (a, c))
            obtain ⟨u, v, h1, k1, k2, k3⟩ := hna
            rw [z] at k1 k2 k3
            rcases prs_apart hfr.ris hbc h1 with ⟨rfl, rfl⟩ | (e | e) | (e | e)
            · have e2 : turn (dbl b) (dbl c) (mid (a, c)) = 2 * turn b c a + 2 * turn b c c := turn_mid b c a c
              rw [z, turn_aba, turn_abb] at e2
              have := turn_rot a b c
              omega
            · subst e
              rcases k1 with k1 | k1
              · exact plt_ne (dbl_lt.mpr Tbc) k1.symm
              · exact plt_asymm k1 (dbl_lt.mpr Tbc)
            · have q1 := dbl_lt.mpr e
              have q2 := plt_trans (dbl_lt.mpr Tbc) q1
              rcases k1 with k1 | k1
              · exact plt_ne q2 k1.symm
              · exact plt_asymm k1 q2
            · subst e; exact plt_irrefl _ k2
            · exact plt_asymm k2 (dbl_lt.mpr e)
          · have := na_at hfr.ris hbc z b1.2 hna
            rw [turn_mid, turn_abb] at this
            have := turn_rot a b c
            omega
      · rw [List.flatMap_append, ← List.append_assoc] at he
        rcases List.mem_append.mp he with he | he
        · exact na' e he
        · simp only [List.flatMap_cons, List.flatMap_nil, en, List.append_nil, List.mem_cons, List.not_mem_nil, or_false] at he
          subst he
          exact na_own hf'.ris hac
      · rcases ih.lo e he with h | ⟨t, ht, h⟩
        · rw [prs_put3] at h
          rw [prs_put]
          simp only [List.mem_append, List.mem_cons] at h ⊢
          rcases h with h | h | h | h
          · exact .inl (.inl h)
          · exact .inr ⟨(a, b, c), by simp, by rw [h]; simp [sidesOf]⟩
          · exact .inr ⟨(a, b, c), by simp, by rw [h]; simp [sidesOf]⟩
          · exact .inl (.inr (.inr h))
        · exact .inr ⟨t, by simp [ht], h⟩
      · rcases List.mem_append.mp ht with h | h
        · exact ih.tri t h
        · simp at h; subst h; exact T
end Tl

end
-- M5
section
set_option maxHeartbeats 200000
namespace Tl
/-! the hull's lower chain, as a stack (top first) -/
def popw : List Pt → Pt → List Pt
  | y :: x :: s, p => if turn x y p < 0 then popw (x :: s) p else y :: x :: s
  | s, _ => s
def push (s : List Pt) (p : Pt) : List Pt := p :: popw s p
def chain (F : List Pt) : List Pt := (F.foldl push []).reverse
def prd : List Pt → List E2
  | y :: x :: s => (x, y) :: prd (x :: s)
  | _ => []
theorem prd_mem {e : E2} : ∀ {s : List Pt}, e ∈ prd s ↔ e ∈ prs s.reverse
  | [] => by simp [prd, prs]
  | [a] => by simp [prd, prs]
  | y :: x :: s => by
    have ih := prd_mem (e := e) (s := x :: s)
    have e1 : (y :: x :: s).reverse = s.reverse ++ x :: [y] := by simp
    have e2 : (x :: s).reverse = s.reverse ++ [x] := by simp
    rw [e1, prs_app, ← e2, prd, List.mem_cons, ih, List.mem_append]
    simp only [prs, List.mem_cons, List.not_mem_nil, or_false]
    exact ⟨fun h => h.symm, fun h => h.symm⟩
abbrev Falling (l : List Pt) : Prop := l.Pairwise fun a b => plt b a
theorem falling_rev {l : List Pt} : Falling l ↔ Rising l.reverse := by unfold Falling Rising; rw [List.pairwise_reverse]
theorem prd_suf : ∀ {t t' : List Pt}, t' <:+ t → ∀ e ∈ prd t', e ∈ prd t
  | [], t', h, e, he => by
    have : t' = [] := List.suffix_nil.mp h
    subst this; exact he
  | y :: t, t', h, e, he => by
    rcases List.suffix_cons_iff.mp h with h | h
    · subst h; exact he
    · have := prd_suf h e he
      cases t with
      | nil => simp [prd] at this
      | cons x s => rw [prd]; exact List.mem_cons_of_mem _ this
def Cov (P t : List Pt) (l : List E2) : Prop := ∀ r ∈ P, r ∉ t → ∃ u v, (u, v) ∈ l ∧ plt u r ∧ plt r v ∧ 0 < turn u v r
theorem popw_ok {P : List Pt} {p : Pt} : ∀ {t : List Pt}, t ≠ [] → Falling t → (∀ x ∈ t, plt x p) → Cov P t (prd (p :: t)) →
    popw t p ≠ [] ∧ popw t p <:+ t ∧ Cov P (popw t p) (prd (p :: popw t p)) ∧ ∀ y x r, popw t p = y :: x :: r → 0 ≤ turn x y p
  | [], h, _, _, _ => absurd rfl h
  | [y], _, _, _, c => ⟨by simp [popw], by simp [popw], by simpa [popw] using c, by simp [popw]⟩
  | y :: x :: s, _, hf, hp, c => by
    have hf' := List.pairwise_cons.mp hf
    by_cases ht : turn x y p < 0
    · have e : popw (y :: x :: s) p = popw (x :: s) p := by rw [popw, if_pos ht]
      rw [e]
      have hxy : plt x y := hf'.1 x (by simp)
      have hyp : plt y p := hp y (by simp)
      have sw := turn_swap x y p
      obtain ⟨i1, i2, i3, i4⟩ := popw_ok (P := P) (p := p) (t := x :: s) (by simp) hf'.2 (fun z hz => hp z (List.mem_cons_of_mem _ hz)) (fun r hr hn => by
        by_cases hry : r = y
        · subst hry
          exact ⟨x, p, by simp [prd], hxy, hyp, by omega⟩
        · obtain ⟨u, v, h1, h2, h3, h4⟩ := c r hr (by
            intro z
            rcases List.mem_cons.mp z with z | z
            · exact hry z
            · exact hn z)
          rw [prd, prd] at h1
          simp only [List.mem_cons, Prod.mk.injEq] at h1
          rcases h1 with ⟨rfl, rfl⟩ | ⟨rfl, rfl⟩ | h1
          · refine ⟨x, v, by simp [prd], plt_trans hxy h2, h3, ?_⟩
            obtain ⟨a, b, z, e1, e2, e3, e4, p1, p2⟩ := four_facts hxy h2 h3
            have s1 := turn_swap u r v; have s2 := turn_swap x r v
            rcases Int.lt_or_le z 0 with w | w
            · omega
            · have := (p2 (by
                rcases Int.lt_or_le 0 a with q | q
                · omega
                · exact q) (by omega)).2 (by omega)
              omega
          · refine ⟨u, p, by simp [prd], h2, plt_trans h3 hyp, ?_⟩
            obtain ⟨a, b, z, e1, e2, e3, e4, p1, p2⟩ := four_facts h2 h3 hyp
            have s1 := turn_swap u r v; have s2 := turn_swap u r p
            rcases Int.lt_or_le z 0 with w | w
            · omega
            · have := (p2 (by omega) (by omega)).2 (by omega)
              omega
          · refine ⟨u, v, ?_, h2, h3, h4⟩
            rw [prd]
            exact List.mem_cons_of_mem _ h1)
      exact ⟨i1, List.IsSuffix.trans i2 (List.suffix_cons _ _), i3, i4⟩
    · have e : popw (y :: x :: s) p = y :: x :: s := by rw [popw, if_neg ht]
      rw [e]
      refine ⟨by simp, List.suffix_refl _, c, fun y' x' r h => ?_⟩
      simp only [List.cons.injEq] at h
      obtain ⟨rfl, rfl, _⟩ := h
      omega
structure Stk (P s : List Pt) : Prop where
  ne : s ≠ []
  fal : Falling s
  mem : ∀ x ∈ s, x ∈ P
  top : s.head? = P.getLast?
  bot : s.getLast? = P.head?
  sup : ∀ u v, (u, v) ∈ prd s → ∀ r ∈ P, 0 ≤ turn u v r
  cov : Cov P s (prd s)
theorem head_le {P : List Pt} {a r : Pt} (h : Rising P) (ha : P.head? = some a) (hr : r ∈ P) : r = a ∨ plt a r := by
  cases P with
  | nil => simp at ha
  | cons b P =>
    simp at ha; subst ha
    rcases List.mem_cons.mp hr with e | e
    · exact .inl e
    · exact .inr ((List.pairwise_cons.mp h).1 _ e)
theorem Stk.push {P s : List Pt} {p : Pt} (hP : Rising P) (hp : ∀ x ∈ P, plt x p) (S : Stk P s) : Stk (P ++ [p]) (push s p) := by
  have hps : ∀ x ∈ s, plt x p := fun x hx => hp x (S.mem x hx)
  obtain ⟨i1, i2, i3, i4⟩ := popw_ok (P := P) (p := p) S.ne S.fal hps (fun r hr hn => by
    obtain ⟨u, v, h, k⟩ := S.cov r hr hn
    refine ⟨u, v, prd_suf (List.suffix_cons p s) _ h, k⟩)
  unfold Tl.push
  revert i1 i2 i3 i4
  generalize popw s p = t
  intro i1 i2 i3 i4
  have hft : Falling t := List.Pairwise.sublist i2.sublist S.fal
  have hmt : ∀ x ∈ t, x ∈ P := fun x hx => S.mem x (i2.subset hx)
  have hpt : ∀ x ∈ t, plt x p := fun x hx => hp x (hmt x hx)
  obtain ⟨y, r, rfl⟩ : ∃ y r, t = y :: r := by
    cases t with
    | nil => exact absurd rfl i1
    | cons y r => exact ⟨y, r, rfl⟩
  have hyP : y ∈ P := hmt y (by simp)
  have hyp : plt y p := hp y hyP
  have old : ∀ u v, (u, v) ∈ prd (y :: r) → ∀ q ∈ P, 0 ≤ turn u v q := fun u v h q hq => S.sup u v (prd_suf i2 _ h) q hq
  have hle : ∀ z ∈ y :: r, z = y ∨ plt z y := fun z hz => by
    rcases List.mem_cons.mp hz with e | e
    · exact .inl e
    · exact .inr ((List.pairwise_cons.mp hft).1 _ e)
  have mems : ∀ {u v : Pt}, (u, v) ∈ prd (y :: r) → u ∈ y :: r ∧ v ∈ y :: r ∧ plt u v := fun {u v} h => by
    have h' := prd_mem.mp h
    have m := prs_mem h'
    exact ⟨List.mem_reverse.mp m.1, List.mem_reverse.mp m.2, prs_lt (falling_rev.mp hft) h'⟩
  refine ⟨by simp, List.pairwise_cons.mpr ⟨hpt, hft⟩, fun x hx => ?_, by simp, ?_, fun u v h q hq => ?_, fun q hq hn => ?_⟩
  · rcases List.mem_cons.mp hx with rfl | hx
    · simp
    · exact List.mem_append_left _ (hmt x hx)
  · have e1 : (p :: y :: r).getLast? = (y :: r).getLast? := by simp [List.getLast?_cons]
    have e2 : (y :: r).getLast? = s.getLast? := by
      obtain ⟨pre, e⟩ := i2
      rw [← e, List.getLast?_append]; simp [List.getLast?_cons]
    rw [e1, e2, S.bot]
    cases P with
    | nil => simp at hyP
    | cons a P => simp
  · rw [prd, List.mem_cons, Prod.mk.injEq] at h
    rcases h with ⟨rfl, rfl⟩ | h
    · rcases List.mem_append.mp hq with hq | hq
      · rcases plt_total q u with c | c | c
        · -- q below the top
          cases r with
          | nil =>
            exfalso
            have hb : P.head? = some u := by
              obtain ⟨pre, e⟩ := i2
              have := S.bot
              rw [← e] at this
              simpa using this.symm
            rcases head_le hP hb hq with k | k
            · exact plt_ne c k
            · exact plt_asymm c k
          | cons x r =>
            have hx := i4 u x r rfl
            have hxu : plt x u := (List.pairwise_cons.mp hft).1 x (by simp)
            have hs := old x u (by simp [prd]) q hq
            have rot := turn_rot q u v
            rcases plt_total q x with d | d | d
            · obtain ⟨a, b, z, e1, e2, e3, e4, p1, p2⟩ := four_facts d hxu hyp
              have r2 := turn_rot q x u
              have := (p1 (by omega) (by omega)).1
              omega
            · subst d; omega
            · obtain ⟨a, b, z, e1, e2, e3, e4, p1, p2⟩ := four_facts d c hyp
              have s1 := turn_swap x q u
              rcases Int.lt_or_le b 0 with w | w
              · have := (p2 (by omega) (by omega)).2 (by omega)
                omega
              · omega
        · subst c; rw [turn_aba]; exact Int.le_refl 0
        · obtain ⟨u', v', h1, h2, h3, h4⟩ := i3 q hq (fun z => by
            rcases hle q z with e | e
            · exact plt_ne c e.symm
            · exact plt_asymm c e)
          rw [prd, List.mem_cons, Prod.mk.injEq] at h1
          rcases h1 with ⟨rfl, rfl⟩ | h1
          · omega
          · exfalso
            rcases hle v' (mems h1).2.1 with e | e
            · subst e; exact plt_asymm c h3
            · exact plt_asymm (plt_trans h3 e) c
      · simp at hq; subst hq; rw [turn_abb]; exact Int.le_refl 0
    · rcases List.mem_append.mp hq with hq | hq
      · exact old u v h q hq
      · simp at hq; subst hq
        cases r with
        | nil => simp [prd] at h
        | cons x r =>
          have hx := i4 y x r rfl
          have hxy : plt x y := (List.pairwise_cons.mp hft).1 x (by simp)
          have hxP : x ∈ P := hmt x (by simp)
          have m := mems h
          rw [prd, List.mem_cons, Prod.mk.injEq] at h
          rcases h with ⟨rfl, rfl⟩ | h
          · exact hx
          · have hv : v = x ∨ plt v x := by
              have h' := prd_mem.mp h
              have hv := (prs_mem h').2
              simp only [List.mem_reverse] at hv
              rcases List.mem_cons.mp hv with e | e
              · exact .inl e
              · exact .inr ((List.pairwise_cons.mp (List.pairwise_cons.mp hft).2).1 _ e)
            have huv := m.2.2
            have o1 := old u v (by rw [prd]; exact List.mem_cons_of_mem _ h) x hxP
            have o2 := old u v (by rw [prd]; exact List.mem_cons_of_mem _ h) y hyP
            rcases hv with rfl | hv
            · obtain ⟨a, b, z, e1, e2, e3, e4, p1, p2⟩ := four_facts huv hxy hyp
              have := (p1 (by omega) (by omega)).1
              omega
            · have hux := plt_trans huv hv
              have o3 := old x y (by simp [prd]) u (hmt u m.1)
              have rt := turn_rot u x y
              obtain ⟨a, b, z, e1, e2, e3, e4, p1, p2⟩ := four_facts hux hxy hyp
              have k1 := (p1 (by omega) (by omega)).1
              obtain ⟨a', b', z', e1', e2', e3', e4', p1', p2'⟩ := four_facts huv hv (plt_trans hxy hyp)
              rcases Int.lt_or_le z' 0 with w | w
              · have := (p1' (by omega) (by omega)).1
                omega
              · omega
  · rcases List.mem_append.mp hq with hq | hq
    · exact i3 q hq (fun z => hn (List.mem_cons_of_mem _ z))
    · simp at hq; subst hq; simp at hn
theorem stk_fold : ∀ (Q P s : List Pt), Rising (P ++ Q) → Stk P s → Stk (P ++ Q) (Q.foldl push s)
  | [], P, s, _, S => by simpa using S
  | p :: Q, P, s, h, S => by
    have e : P ++ p :: Q = (P ++ [p]) ++ Q := by simp
    rw [e] at h ⊢
    have h1 := (List.pairwise_append.mp h).1
    have h2 := List.pairwise_append.mp h1
    exact stk_fold Q (P ++ [p]) (push s p) h (S.push h2.1 fun x hx => h2.2.2 x hx p (by simp))
theorem stk_all {F : List Pt} (h : Rising F) (hne : F ≠ []) : Stk F (F.foldl push []) := by
  cases F with
  | nil => exact absurd rfl hne
  | cons a F =>
    have := stk_fold F [a] [a] h ⟨by simp, by simp, by simp, by simp, by simp, by simp [prd], fun r hr hn => by simp at hr hn; exact absurd hr hn⟩
    simpa [push, popw] using this
/-- a hull's chain: hand 1 the lower one, -1 the upper one -/
structure Hullish (s : Int) (F c : List Pt) : Prop where
  ris : Rising c
  mem : ∀ x ∈ c, x ∈ F
  hd : c.head? = F.head?
  la : c.getLast? = F.getLast?
  sup : ∀ u v, (u, v) ∈ prs c → ∀ r ∈ F, 0 ≤ s * turn u v r
  cov : ∀ r ∈ F, r ∉ c → ∃ u v, (u, v) ∈ prs c ∧ plt u r ∧ plt r v ∧ 0 < s * turn u v r
theorem chain_low {F : List Pt} (h : Rising F) (hne : F ≠ []) : Hullish 1 F (chain F) := by
  have S := stk_all h hne
  unfold chain
  refine ⟨falling_rev.mp S.fal, fun x hx => S.mem x (by simpa using hx), by rw [List.head?_reverse]; exact S.bot, by rw [List.getLast?_reverse]; exact S.top, fun u v h r hr => ?_, fun r hr hn => ?_⟩
  · have := S.sup u v (prd_mem.mpr h) r hr
    omega
  · obtain ⟨u, v, h1, h2, h3, h4⟩ := S.cov r hr (by simpa using hn)
    exact ⟨u, v, prd_mem.mp h1, h2, h3, by omega⟩
/-! the upper one, by turning all round -/
def ng (p : Pt) : Pt := (-p.1, -p.2)
theorem ng_ng (p : Pt) : ng (ng p) = p := by unfold ng; simp
theorem ng_lt {a b : Pt} : plt (ng a) (ng b) ↔ plt b a := by unfold plt ng; simp only; omega
theorem turn_ng (a b c : Pt) : turn (ng a) (ng b) (ng c) = turn a b c := by unfold turn ng; grind
theorem popw_ng (p : Pt) : ∀ s : List Pt, popw (s.map ng) (ng p) = (popw s p).map ng
  | [] => rfl
  | [_] => rfl
  | y :: x :: s => by
    have ih := popw_ng p (x :: s)
    simp only [List.map_cons] at ih ⊢
    rw [popw, popw, turn_ng]
    split
    · exact ih
    · rfl
theorem fold_ng : ∀ (F s : List Pt), (F.map ng).foldl push (s.map ng) = (F.foldl push s).map ng
  | [], _ => rfl
  | p :: F, s => by
    have ih := fold_ng F (push s p)
    simp only [List.map_cons, List.foldl_cons]
    rw [← ih]
    congr 1
    unfold push
    rw [popw_ng]; rfl
theorem chain_ng (F : List Pt) : chain (F.map ng) = (chain F).map ng := by
  unfold chain
  have := fold_ng F []
  rw [List.map_nil] at this
  rw [this, List.map_reverse]
theorem map_ng_ng (l : List Pt) : (l.map ng).map ng = l := by
  rw [List.map_map]
  have : ng ∘ ng = id := funext ng_ng
  rw [this, List.map_id]
theorem prs_rev_ng {u v : Pt} {l : List Pt} : (u, v) ∈ prs (l.map ng).reverse ↔ (ng v, ng u) ∈ prs l := by
  rw [← prd_mem]
  induction l with
  | nil => simp [prd, prs]
  | cons a r ih =>
    cases r with
    | nil => simp [prd, prs]
    | cons b r =>
      simp only [List.map_cons, prd, prs, List.mem_cons, Prod.mk.injEq] at ih ⊢
      rw [ih]
      constructor
      · rintro (⟨rfl, rfl⟩ | h)
        · exact .inl ⟨ng_ng _, ng_ng _⟩
        · exact .inr h
      · rintro (⟨rfl, rfl⟩ | h)
        · exact .inl ⟨(ng_ng _).symm, (ng_ng _).symm⟩
        · exact .inr h
theorem mem_map_ng {l : List Pt} {x : Pt} : x ∈ l.map ng ↔ ng x ∈ l := by
  rw [List.mem_map]
  exact ⟨fun ⟨y, h, e⟩ => by rw [← e, ng_ng]; exact h, fun h => ⟨ng x, h, ng_ng x⟩⟩
theorem chain_up {F : List Pt} (h : Rising F) (hne : F ≠ []) : Hullish (-1) F (chain F.reverse).reverse := by
  have hG : Rising (F.map ng).reverse := by
    rw [Rising, List.pairwise_reverse, List.pairwise_map]
    exact List.Pairwise.imp (fun h => ng_lt.mpr h) h
  have H := chain_low hG (by simp [hne])
  have e : (chain F.reverse).reverse = ((chain (F.map ng).reverse).map ng).reverse := by
    rw [← chain_ng, ← List.map_reverse, map_ng_ng]
  rw [e]
  revert H
  generalize chain (F.map ng).reverse = c
  intro H
  refine ⟨?_, fun x hx => ?_, ?_, ?_, fun u v h r hr => ?_, fun r hr hn => ?_⟩
  · rw [Rising, List.pairwise_reverse, List.pairwise_map]
    exact List.Pairwise.imp (fun h => ng_lt.mpr h) H.ris
  · rw [List.mem_reverse, mem_map_ng] at hx
    have := H.mem _ hx
    rw [List.mem_reverse, mem_map_ng, ng_ng] at this
    exact this
  · have := H.la
    rw [List.getLast?_reverse, List.head?_map] at this
    rw [List.head?_reverse, List.getLast?_map, this, Option.map_map]
    have : ng ∘ ng = id := funext ng_ng
    rw [this, Option.map_id]; rfl
  · have := H.hd
    rw [List.head?_reverse, List.getLast?_map] at this
    rw [List.getLast?_reverse, List.head?_map, this, Option.map_map]
    have : ng ∘ ng = id := funext ng_ng
    rw [this, Option.map_id]; rfl
  · have := H.sup _ _ (prs_rev_ng.mp h) (ng r) (by rw [List.mem_reverse, mem_map_ng, ng_ng]; exact hr)
    rw [turn_ng, turn_swap'] at this
    omega
  · obtain ⟨u, v, h1, h2, h3, h4⟩ := H.cov (ng r) (by rw [List.mem_reverse, mem_map_ng, ng_ng]; exact hr) (fun z => hn (by rw [List.mem_reverse, mem_map_ng]; exact z))
    refine ⟨ng v, ng u, prs_rev_ng.mpr (by rw [ng_ng, ng_ng]; exact h1), ?_, ?_, ?_⟩
    · exact ng_lt.mp (by rw [ng_ng]; exact h3)
    · exact ng_lt.mp (by rw [ng_ng]; exact h2)
    · have e := turn_ng v u (ng r)
      rw [ng_ng] at e
      have := turn_swap' u v (ng r)
      omega
end Tl

end
-- M6
section
set_option maxHeartbeats 200000
namespace Tl
theorem head_last_two {F c : List Pt} (hF : Rising F) (h2 : 2 ≤ F.length) (h : c.head? = F.head?) (k : c.getLast? = F.getLast?) : 2 ≤ c.length := by
  rcases c with _ | ⟨a, _ | ⟨b, r⟩⟩
  · cases F with
    | nil => simp at h2
    | cons a F => simp at h
  · exfalso
    rcases F with _ | ⟨x, F⟩
    · simp at h2
    · simp at h; subst h
      rcases F with _ | ⟨y, F⟩
      · simp at h2
      · rw [List.getLast?_cons_cons] at k
        have hm : a ∈ y :: F := List.mem_of_getLast? (by simpa using k.symm)
        exact plt_irrefl a ((List.pairwise_cons.mp hF).1 a hm)
  · simp
/-- a pair with no point on the bad hand -/
def inEnds (s : Int) (F : List Pt) (p : Pt) : Prop := ∃ a b, a ∈ F ∧ b ∈ F ∧ plt a b ∧ (∀ r ∈ F, ¬ s * turn a b r < 0) ∧ (p = a ∨ p = b)
theorem edge_mem {s : Int} {F c : List Pt} (hs : s = 1 ∨ s = -1) (hF : Rising F) (h2 : 2 ≤ F.length) (H : Hullish s F c) {p : Pt} (hp : p ∈ F) : inEnds s F p ↔ p ∈ c := by
  constructor
  · rintro ⟨a, b, ha, hb, hab, hall, hpe⟩
    rcases Classical.em (p ∈ c) with k | k
    · exact k
    · exfalso
      obtain ⟨u, v, h1, h3, h4, h5⟩ := H.cov p hp k
      have m := prs_mem h1
      have hu := hall u (H.mem u m.1)
      have hv := hall v (H.mem v m.2)
      have sw := turn_swap u p v
      rcases hpe with rfl | rfl
      · have r1 := turn_swap' u p b
        have r3 := turn_rot u p b
        have r4 := turn_swap p b u
        rcases plt_total v b with e | e | e
        · obtain ⟨x, y, z, e1, e2, e3, e4, p1, p2⟩ := four_facts h3 h4 e
          have q1 := turn_rot u p b
          have q2 := turn_swap p v b
          have w1 : turn p b u = turn u p b := turn_rot u p b
          rcases hs with rfl | rfl
          · have := (p2 (by omega) (by omega)).2 (by omega)
            omega
          · have := (p1 (by omega) (by omega)).2 (by omega)
            omega
        · subst e
          have w1 : turn p v u = turn u p v := turn_rot u p v
          rcases hs with rfl | rfl <;> omega
        · obtain ⟨x, y, z, e1, e2, e3, e4, p1, p2⟩ := four_facts h3 hab e
          have w1 : turn p b u = turn u p b := turn_rot u p b
          rcases hs with rfl | rfl
          · have := (p1 (by omega) (by omega)).1
            omega
          · have := (p2 (by omega) (by omega)).1
            omega
      · have w1 : turn a p u = - turn a u p := turn_swap a u p
        rcases plt_total a u with e | e | e
        · obtain ⟨x, y, z, e1, e2, e3, e4, p1, p2⟩ := four_facts e h3 h4
          rcases hs with rfl | rfl
          · have := (p2 (by omega) (by omega)).2 (by omega)
            omega
          · have := (p1 (by omega) (by omega)).2 (by omega)
            omega
        · subst e
          rcases hs with rfl | rfl <;> omega
        · obtain ⟨x, y, z, e1, e2, e3, e4, p1, p2⟩ := four_facts e hab h4
          have w2 : turn a p u = turn u a p := turn_rot u a p
          rcases hs with rfl | rfl
          · have := (p1 (by omega) (by omega)).1
            omega
          · have := (p2 (by omega) (by omega)).1
            omega
  · intro hc
    obtain ⟨q, hq⟩ := mem_prs (head_last_two hF h2 H.hd H.la) hc
    rcases hq with hq | hq
    · exact ⟨p, q, H.mem _ (prs_mem hq).1, H.mem _ (prs_mem hq).2, prs_lt H.ris hq, fun r hr => by have := H.sup _ _ hq r hr; omega, .inl rfl⟩
    · exact ⟨q, p, H.mem _ (prs_mem hq).1, H.mem _ (prs_mem hq).2, prs_lt H.ris hq, fun r hr => by have := H.sup _ _ hq r hr; omega, .inr rfl⟩
theorem edge_eq {s : Int} {F c : List Pt} (hs : s = 1 ∨ s = -1) (hF : Rising F) (h2 : 2 ≤ F.length) (H : Hullish s F c) (P : Pt → Bool) (hP : ∀ p ∈ F, P p = true ↔ inEnds s F p) : F.filter P = c := by
  refine rising_ext (List.Pairwise.sublist List.filter_sublist hF) H.ris fun x => ?_
  rw [List.mem_filter]
  constructor
  · rintro ⟨hx, hp⟩
    exact (edge_mem hs hF h2 H hx).mp ((hP x hx).mp hp)
  · intro hx
    exact ⟨H.mem x hx, (hP x (H.mem x hx)).mpr ((edge_mem hs hF h2 H (H.mem x hx)).mpr hx)⟩
theorem Hullish.front {s : Int} {F c : List Pt} (hs : s = 1 ∨ s = -1) (H : Hullish s F c) : Front F c := by
  refine ⟨H.ris, H.mem, H.hd, H.la, fun e he p hp h1 h2 h3 => ?_⟩
  obtain ⟨u, v⟩ := e
  rcases Classical.em (p ∈ c) with k | k
  · rcases prs_gap H.ris he k with e | e | e | e
    · subst e; exact plt_irrefl _ h1
    · exact plt_asymm e h1
    · subst e; exact plt_irrefl _ h2
    · exact plt_asymm e h2
  · obtain ⟨u', v', q1, q2, q3, q4⟩ := H.cov p hp k
    obtain ⟨rfl, rfl⟩ := prs_one H.ris he q1 h1 h2 q2 q3
    simp only at h3
    rw [h3] at q4
    rcases hs with rfl | rfl <;> omega
/-- the upper front goes nowhere -/
theorem no_step {F c : List Pt} (H : Hullish (-1) F c) {M : List T3} (hM : ∀ t ∈ M, Tri F t) {k : Nat} {g : Bool} {t : T3} {f' : List Pt} : ¬ Step M c k g t f' := by
  rintro ⟨ht, p, q, _, hh⟩
  have T := hM t ht
  obtain ⟨a, b, c'⟩ := t
  have mb : b ∈ F := T.mb
  have mc : c' ∈ F := T.mc
  simp only at hh
  rcases hh with ⟨_, hn, rfl, rfl⟩ | ⟨_, hn, rfl, rfl⟩
  · have := H.sup a c' (by rw [prs_put]; simp) b mb
    have s1 := turn_swap a b c'
    omega
  · have := H.sup a b (by rw [prs_put3]; simp) c' mc
    omega
/-- what lies on one line -/
def Col (S : List Pt) : Prop := ∀ a ∈ S, ∀ b ∈ S, ∀ c ∈ S, turn a b c = 0
theorem line_col {p q a b c : Pt} (hne : p ≠ q) (ha : turn p q a = 0) (hb : turn p q b = 0) (hc : turn p q c = 0) : turn a b c = 0 := by
  have e1 : turn a b c * (q.1 - p.1) = (turn p q c - turn p q a) * (b.1 - a.1) - (turn p q b - turn p q a) * (c.1 - a.1) := by unfold turn; grind
  have e2 : turn a b c * (q.2 - p.2) = (turn p q c - turn p q a) * (b.2 - a.2) - (turn p q b - turn p q a) * (c.2 - a.2) := by unfold turn; grind
  rw [ha, hb, hc] at e1 e2
  simp only [Int.sub_self, Int.zero_mul] at e1 e2
  rcases Int.mul_eq_zero.mp e1 with k | k
  · exact k
  · rcases Int.mul_eq_zero.mp e2 with j | j
    · exact j
    · exact absurd (pt_ext (by omega) (by omega)) hne
theorem Field.notcol {F : List Pt} (h : Field F) : ¬ Col F := by
  obtain ⟨_, a, ha, b, hb, c, hc, hn⟩ := h
  exact fun k => hn (k a ha b hb c hc)
/-- no tie is on both edges -/
theorem not_both {F c d : List Pt} (hF : Field F) (H : Hullish 1 F c) (H' : Hullish (-1) F d) {e : E2} (h : e ∈ prs c) : e ∉ prs d := by
  intro h'
  obtain ⟨u, v⟩ := e
  have ne := plt_ne (prs_lt H.ris h)
  have z : ∀ r ∈ F, turn u v r = 0 := fun r hr => by
    have := H.sup u v h r hr
    have := H'.sup u v h' r hr
    omega
  exact hF.notcol fun a ha b hb c hc => line_col ne (z a ha) (z b hb) (z c hc)
/-! a void triangle is there -/
def flat3 : List Pt → Prop
  | a :: b :: c :: r => turn a b c = 0 ∧ flat3 (b :: c :: r)
  | _ => True
theorem flat_line : ∀ {r : List Pt} {a b : Pt}, Rising (a :: b :: r) → flat3 (a :: b :: r) → ∀ x ∈ r, turn a b x = 0
  | [], _, _, _, _, x, hx => by simp at hx
  | c :: r, a, b, h, hf, x, hx => by
    have h' := List.pairwise_cons.mp h
    have h2 := List.pairwise_cons.mp h'.2
    have h3 := List.pairwise_cons.mp h2.2
    obtain ⟨f1, f2⟩ := hf
    rcases List.mem_cons.mp hx with rfl | hx
    · exact f1
    · have := flat_line h'.2 f2 x hx
      obtain ⟨X, Y, z, e1, e2, e3, e4, p1, p2⟩ := four_facts (h'.1 b (by simp)) (h2.1 c (by simp)) (h3.1 x hx)
      have q1 := (p1 (by omega) (by omega)).1
      have q2 := (p2 (by omega) (by omega)).1
      omega
theorem not_flat : ∀ {F : List Pt}, ¬ flat3 F → ∃ p a b c q, F = p ++ a :: b :: c :: q ∧ turn a b c ≠ 0
  | [], h => by simp [flat3] at h
  | [_], h => by simp [flat3] at h
  | [_, _], h => by simp [flat3] at h
  | a :: b :: c :: r, h => by
    by_cases e : turn a b c = 0
    · have h' : ¬ flat3 (b :: c :: r) := fun k => h ⟨e, k⟩
      obtain ⟨p, a', b', c', q, e1, e2⟩ := not_flat h'
      exact ⟨a :: p, a', b', c', q, by rw [e1]; rfl, e2⟩
    · exact ⟨[], a, b, c, r, rfl, e⟩
theorem within_range {a b c x : Pt} (h1 : plt a b) (h2 : plt b c) (hn : turn a b c ≠ 0) (hw : within a b c x) : ¬ plt x a ∧ ¬ plt c x := by
  have par := parts a b c x
  have r1 : turn a b x = turn x a b := turn_rot x a b
  have r2 : turn a c x = turn x a c := turn_rot x a c
  constructor
  · intro h
    obtain ⟨X, Y, z, e1, e2, e3, e4, p1, p2⟩ := four_facts h h1 h2
    rcases of_within hw with ⟨k1, k2, k3⟩ | ⟨k1, k2, k3⟩
    · have := (p2 (by omega) (by omega)).2 (by omega)
      omega
    · have := (p1 (by omega) (by omega)).2 (by omega)
      omega
  · intro h
    obtain ⟨X, Y, z, e1, e2, e3, e4, p1, p2⟩ := four_facts h1 h2 h
    rcases of_within hw with ⟨k1, k2, k3⟩ | ⟨k1, k2, k3⟩
    · have := (p2 (by omega) (by omega)).2 (by omega)
      omega
    · have := (p1 (by omega) (by omega)).2 (by omega)
      omega
theorem Field.tri {F : List Pt} (h : Field F) : ∃ t, Tri F t := by
  have hnf : ¬ flat3 F := by
    intro hf
    refine h.notcol ?_
    have hr := h.ris
    rcases F with _ | ⟨a, _ | ⟨b, r⟩⟩
    · intro a ha; simp at ha
    · intro x hx y hy z hz
      simp at hx hy hz; subst hx hy hz
      exact turn_aab _ _
    · have ne := plt_ne ((List.pairwise_cons.mp hr).1 b (by simp))
      have on : ∀ x ∈ a :: b :: r, turn a b x = 0 := fun x hx => by
        rcases List.mem_cons.mp hx with rfl | hx
        · exact turn_aba _ _
        · rcases List.mem_cons.mp hx with rfl | hx
          · exact turn_abb _ _
          · exact flat_line hr hf x hx
      exact fun x hx y hy z hz => line_col ne (on x hx) (on y hy) (on z hz)
  obtain ⟨p, a, b, c, q, rfl, hn⟩ := not_flat hnf
  obtain ⟨r1, r2, r3⟩ := List.pairwise_append.mp h.ris
  have q1 := List.pairwise_cons.mp r2
  have q2 := List.pairwise_cons.mp q1.2
  have q3 := List.pairwise_cons.mp q2.2
  have hab := q1.1 b (by simp)
  have hbc := q2.1 c (by simp)
  refine ⟨(a, b, c), by simp, by simp, by simp, hab, hbc, hn, fun x hx ha hb hc hw => ?_⟩
  have w := within_range hab hbc hn hw
  simp only [List.mem_append, List.mem_cons] at hx
  rcases hx with hx | hx | hx | hx | hx
  · exact w.1 (r3 x hx a (by simp))
  · exact ha hx
  · exact hb hx
  · exact hc hx
  · exact w.2 (q3.1 x hx)
/-! the points are made to be a field -/
def spreadB (S : List Pt) : Bool := match S with
  | a :: b :: c :: r => (a :: b :: c :: r).any fun x => decide (turn a b x ≠ 0)
  | _ => false
theorem spread_field {S : List Pt} (hr : Rising S) (h : spreadB S = true) : Field S := by
  refine ⟨hr, ?_⟩
  unfold spreadB at h
  split at h
  · rename_i a b c r
    obtain ⟨x, hx, e⟩ := List.any_eq_true.mp h
    exact ⟨a, by simp, b, by simp, x, hx, by simpa using e⟩
  · cases h
theorem not_spread_col {S : List Pt} (hr : Rising S) (h : spreadB S = false) : Col S := by
  unfold spreadB at h
  split at h
  · rename_i a b c r
    have ne := plt_ne ((List.pairwise_cons.mp hr).1 b (by simp))
    have on : ∀ x ∈ a :: b :: c :: r, turn a b x = 0 := fun x hx => by
      have := List.any_eq_false.mp h x hx
      simpa using this
    exact fun x hx y hy z hz => line_col ne (on x hx) (on y hy) (on z hz)
  · rename_i hS
    rcases S with _ | ⟨a, _ | ⟨b, _ | ⟨c, r⟩⟩⟩
    · intro a ha; simp at ha
    · intro x hx y hy z hz
      simp at hx hy hz; subst hx hy hz
      exact turn_aab _ _
    · intro x hx y hy z hz
      simp at hx hy hz
      rcases hx with rfl | rfl <;> rcases hy with rfl | rfl <;> rcases hz with rfl | rfl <;> first | exact turn_aab _ _ | exact turn_aba _ _ | exact turn_abb _ _
    · exact absurd rfl (hS a b c r)
/-- S' has the first eight of S, and e -/
structure More (S S' : List Pt) (e : Pt) : Prop where
  ris : Rising S'
  mem : ∀ x, x ∈ S' ↔ x ∈ S.take 8 ∨ x = e
theorem More.len {S S' : List Pt} {e : Pt} (m : More S S' e) : S'.length ≤ 9 := by
  have hs : ∀ x ∈ S', x ∈ S.take 8 ++ [e] := fun x hx => by
    rcases (m.mem x).mp hx with h | h
    · exact List.mem_append_left _ h
    · simp [h]
  have := List.Nodup.length_le_of_subset (rising_nodup m.ris) hs
  simp at this
  omega
theorem two_of {S : List Pt} (hr : Rising S) (h : 2 ≤ S.length) : ∃ p q, p ∈ S.take 8 ∧ q ∈ S.take 8 ∧ p ≠ q := by
  rcases S with _ | ⟨a, _ | ⟨b, r⟩⟩
  · simp at h
  · simp at h
  · exact ⟨a, b, by simp, by simp, plt_ne ((List.pairwise_cons.mp hr).1 b (by simp))⟩
theorem turn_10 {p q : Pt} (hp : p.1 = 0) (hq : q.1 = 0) (hne : p ≠ q) : turn p q (1, 0) ≠ 0 := by
  have e : turn p q (1, 0) = p.2 - q.2 := by unfold turn; rw [hp, hq]; grind
  rw [e]
  intro h
  exact hne (pt_ext (by omega) (by omega))
/-- two points of a line that has (0, 0) and (0, 1): it stands upright -/
theorem upright {p q : Pt} (hne : p ≠ q) (h0 : turn p q (0, 0) = 0) (h1 : turn p q (0, 1) = 0) : p.1 = 0 ∧ q.1 = 0 := by
  have e : turn p q (0, 1) - turn p q (0, 0) = q.1 - p.1 := by unfold turn; grind
  have e1 : q.1 = p.1 := by omega
  have e2 : turn p q (0, 0) = (q.2 - p.2) * p.1 := by unfold turn; rw [e1]; grind
  rw [e2] at h0
  rcases Int.mul_eq_zero.mp h0 with k | k
  · exact absurd (pt_ext (by omega) (by omega)) hne
  · omega
theorem three_extras {S0 S1 S2 S3 : List Pt} (r0 : Rising S0) (h1 : if spreadB S0 = true then S1 = S0 else More S0 S1 (0, 0)) (h2 : if spreadB S1 = true then S2 = S1 else More S1 S2 (0, 1))
    (h3 : if spreadB S2 = true then S3 = S2 else More S2 S3 (1, 0)) : Field S3 := by
  by_cases b0 : spreadB S0 = true
  · rw [if_pos b0] at h1; subst h1
    rw [if_pos b0] at h2; subst h2
    rw [if_pos b0] at h3; subst h3
    exact spread_field r0 b0
  · rw [if_neg b0] at h1
    by_cases b1 : spreadB S1 = true
    · rw [if_pos b1] at h2; subst h2
      rw [if_pos b1] at h3; subst h3
      exact spread_field h1.ris b1
    · rw [if_neg b1] at h2
      by_cases b2 : spreadB S2 = true
      · rw [if_pos b2] at h3; subst h3
        exact spread_field h2.ris b2
      · rw [if_neg b2] at h3
        refine ⟨h3.ris, ?_⟩
        have c1 := not_spread_col h1.ris (by simpa using b1)
        have c2 := not_spread_col h2.ris (by simpa using b2)
        have m0 : ((0, 0) : Pt) ∈ S1 := (h1.mem _).mpr (.inr rfl)
        have m1 : ((0, 1) : Pt) ∈ S2 := (h2.mem _).mpr (.inr rfl)
        have two : ∃ p q, p ∈ S2.take 8 ∧ q ∈ S2.take 8 ∧ p ≠ q ∧ p.1 = 0 ∧ q.1 = 0 := by
          by_cases l1 : S1.length ≤ 8
          · have e1 : S1.take 8 = S1 := List.take_of_length_le l1
            have m0' : ((0, 0) : Pt) ∈ S2 := (h2.mem _).mpr (.inl (by rw [e1]; exact m0))
            have l2 : 2 ≤ S2.length := by
              have := List.Nodup.length_le_of_subset (l₁ := [((0, 0) : Pt), (0, 1)]) (l₂ := S2) (by decide) (by
                intro x hx; simp at hx
                rcases hx with rfl | rfl
                · exact m0'
                · exact m1)
              simpa using this
            obtain ⟨p, q, hp, hq, hne⟩ := two_of h2.ris l2
            have up := upright hne (c2 p (List.mem_of_mem_take hp) q (List.mem_of_mem_take hq) _ m0') (c2 p (List.mem_of_mem_take hp) q (List.mem_of_mem_take hq) _ m1)
            exact ⟨p, q, hp, hq, hne, up.1, up.2⟩
          · obtain ⟨p, q, hp, hq, hne⟩ := two_of h1.ris (by omega)
            have hp2 : p ∈ S2 := (h2.mem _).mpr (.inl hp)
            have hq2 : q ∈ S2 := (h2.mem _).mpr (.inl hq)
            have up := upright hne (c1 p (List.mem_of_mem_take hp) q (List.mem_of_mem_take hq) _ m0) (c2 p hp2 q hq2 _ m1)
            have l2 : 2 ≤ S2.length := by
              have := List.Nodup.length_le_of_subset (l₁ := [p, q]) (l₂ := S2) (by simp [hne]) (by
                intro x hx; simp at hx
                rcases hx with rfl | rfl
                · exact hp2
                · exact hq2)
              simpa using this
            obtain ⟨p', q', hp', hq', hne'⟩ := two_of h2.ris l2
            have z : ∀ x ∈ S2, x.1 = 0 := fun x hx => by
              have e := c2 p hp2 q hq2 x hx
              have e2 : turn p q x = - ((q.2 - p.2) * x.1) := by unfold turn; rw [up.1, up.2]; grind
              rw [e2] at e
              have e3 : (q.2 - p.2) * x.1 = 0 := by omega
              rcases Int.mul_eq_zero.mp e3 with k | k
              · exact absurd (pt_ext (by omega) (by omega)) hne
              · exact k
            exact ⟨p', q', hp', hq', hne', z _ (List.mem_of_mem_take hp'), z _ (List.mem_of_mem_take hq')⟩
        obtain ⟨p, q, hp, hq, hne, zp, zq⟩ := two
        exact ⟨p, (h3.mem _).mpr (.inl hp), q, (h3.mem _).mpr (.inl hq), (1, 0), (h3.mem _).mpr (.inr rfl), turn_10 zp zq hne⟩
end Tl

end
-- M7
section
set_option maxHeartbeats 200000
namespace Tl
/-! how many fronts there are -/
def subs {α : Type} : List α → List (List α)
  | [] => [[]]
  | a :: l => subs l ++ (subs l).map (a :: ·)
theorem subs_len {α : Type} : ∀ l : List α, (subs l).length = 2 ^ l.length
  | [] => rfl
  | a :: l => by
    have ih := subs_len l
    simp only [subs, List.length_append, List.length_map, ih, List.length_cons, Nat.pow_succ]
    omega
theorem mem_subs {α : Type} : ∀ {l s : List α}, s.Sublist l → s ∈ subs l
  | [], s, h => by simp [subs, List.eq_nil_of_sublist_nil h]
  | a :: l, s, h => by
    simp only [subs, List.mem_append, List.mem_map]
    cases h with
    | cons _ h => exact .inl (mem_subs h)
    | cons_cons _ h => exact .inr ⟨_, mem_subs h, rfl⟩
theorem fronts_len {F : List Pt} {R : List (List Pt)} (hF : Rising F) (h9 : F.length ≤ 9) (hn : R.Nodup) (hR : ∀ f ∈ R, Front F f) : R.length ≤ 512 := by
  have := List.Nodup.length_le_of_subset hn (l₂ := subs F) fun f hf => mem_subs (rising_sub (hR f hf).ris hF (hR f hf).mem)
  rw [subs_len] at this
  have h2 : 2 ^ F.length ≤ 2 ^ 9 := Nat.pow_le_pow_right (by omega) h9
  omega
theorem front_len {F f : List Pt} (hF : Rising F) (h : Front F f) : f.length ≤ F.length := (rising_sub h.ris hF h.mem).length_le

/-! the walk over all fronts, in the order in which they come: at is the one that is looked at -/
structure Bfs (F : List Pt) (M : List T3) (low : List Pt) (R : List (List Pt)) (at' : Nat) : Prop where
  fr : ∀ f ∈ R, Front F f
  nd : R.Nodup
  lo : low ∈ R
  hi : at' ≤ R.length
  mono : R.Pairwise fun f f' => rank F f' ≤ rank F f
  near : ∀ g ∈ R[at']?, ∀ f ∈ R, rank F g ≤ rank F f + 1
  clo : ∀ f ∈ R.take at', ∀ k g t f', Step M f k g t f' → f' ∈ R
/-- while the steps of the front at `at'` are gone through: all that were seen are there -/
structure Bfs1 (F : List Pt) (M : List T3) (low : List Pt) (R : List (List Pt)) (at' : Nat) (f0 : List Pt) (seen : List Pt → Prop) : Prop where
  fr : ∀ f ∈ R, Front F f
  nd : R.Nodup
  lo : low ∈ R
  here : R[at']? = some f0
  mono : R.Pairwise fun f f' => rank F f' ≤ rank F f
  near : ∀ f ∈ R, rank F f0 ≤ rank F f + 1
  clo : ∀ f ∈ R.take at', ∀ k g t f', Step M f k g t f' → f' ∈ R
  got : ∀ f, seen f → f ∈ R
theorem Bfs.start {F low : List Pt} {M : List T3} (h : Front F low) : Bfs F M low [low] 0 :=
  ⟨by simp [h], by simp, by simp, by simp, by simp, by simp, by simp⟩
theorem Bfs.enter {F low f0 : List Pt} {M : List T3} {R : List (List Pt)} {a : Nat} (B : Bfs F M low R a) (h : R[a]? = some f0) : Bfs1 F M low R a f0 (fun _ => False) :=
  ⟨B.fr, B.nd, B.lo, h, B.mono, fun f hf => B.near f0 h f hf, B.clo, fun _ h => h.elim⟩
theorem Bfs1.weak {F low f0 : List Pt} {M : List T3} {R : List (List Pt)} {a : Nat} {S S' : List Pt → Prop} (B : Bfs1 F M low R a f0 S) (h : ∀ f, S' f → S f ∨ f ∈ R) : Bfs1 F M low R a f0 S' :=
  { B with got := fun f hf => (h f hf).elim (B.got f) id }
theorem Bfs1.more {F low f0 f1 : List Pt} {M : List T3} {R : List (List Pt)} {a : Nat} {S : List Pt → Prop} (hF : Rising F) (hM : ∀ t ∈ M, Tri F t) (B : Bfs1 F M low R a f0 S) {k : Nat} {g : Bool} {t : T3} (s : Step M f0 k g t f1) (hn : f1 ∉ R) :
    Bfs1 F M low (R ++ [f1]) a f0 (fun f => S f ∨ f = f1) := by
  have h0 : f0 ∈ R := List.mem_of_getElem? B.here
  have hr := s.rank hF hM (B.fr f0 h0)
  have ha : a < R.length := (List.getElem?_eq_some_iff.mp B.here).1
  refine ⟨fun f hf => ?_, ?_, List.mem_append_left _ B.lo, by rw [List.getElem?_append_left ha]; exact B.here, ?_, fun f hf => ?_, fun f hf k g t f' st => ?_, fun f hf => ?_⟩
  · rcases List.mem_append.mp hf with h | h
    · exact B.fr f h
    · simp at h; subst h; exact s.front hM (B.fr f0 h0)
  · refine List.nodup_append.mpr ⟨B.nd, by simp, fun x hx y hy => ?_⟩
    simp at hy; subst hy
    rintro rfl; exact hn hx
  · refine List.pairwise_append.mpr ⟨B.mono, by simp, fun x hx y hy => ?_⟩
    simp at hy; subst hy
    have := B.near x hx
    omega
  · rcases List.mem_append.mp hf with h | h
    · exact B.near f h
    · simp at h; subst h; omega
  · rw [List.take_append_of_le_length (by omega)] at hf
    exact List.mem_append_left _ (B.clo f hf k g t f' st)
  · rcases hf with h | h
    · exact List.mem_append_left _ (B.got f h)
    · simp [h]
theorem Bfs1.leave {F low f0 : List Pt} {M : List T3} {R : List (List Pt)} {a : Nat} {S : List Pt → Prop} (B : Bfs1 F M low R a f0 S) (hS : ∀ k g t f', Step M f0 k g t f' → S f') : Bfs F M low R (a + 1) := by
  have ha : a < R.length := (List.getElem?_eq_some_iff.mp B.here).1
  refine ⟨B.fr, B.nd, B.lo, ha, B.mono, fun g hg f hf => ?_, fun f hf k g t f' st => ?_⟩
  · have h1 : R[a] = f0 := (List.getElem?_eq_some_iff.mp B.here).2
    obtain ⟨h2, h3⟩ := List.getElem?_eq_some_iff.mp hg
    have := List.pairwise_iff_getElem.mp B.mono a (a + 1) ha h2 (by omega)
    rw [h1, h3] at this
    have := B.near f hf
    omega
  · rw [List.take_succ, B.here] at hf
    rcases List.mem_append.mp hf with h | h
    · exact B.clo f h k g t f' st
    · simp at h; subst h; exact B.got _ (hS k g t f' st)
/-- at the end: all steps lead on, to later ones -/
theorem Bfs.later {F low : List Pt} {M : List T3} {R : List (List Pt)} (hF : Rising F) (hM : ∀ t ∈ M, Tri F t) (B : Bfs F M low R R.length) {i : Nat} {f f' : List Pt} (hi : R[i]? = some f) {k : Nat} {g : Bool} {t : T3} (s : Step M f k g t f') :
    ∃ j, i < j ∧ R[j]? = some f' := by
  have hf : f ∈ R := List.mem_of_getElem? hi
  have h' : f' ∈ R := B.clo f (by rw [List.take_length]; exact hf) k g t f' s
  obtain ⟨j, hj⟩ := List.mem_iff_getElem?.mp h'
  refine ⟨j, ?_, hj⟩
  have hr := s.rank hF hM (B.fr f hf)
  rcases Nat.lt_or_ge i j with q | q
  · exact q
  · exfalso
    obtain ⟨h1, e1⟩ := List.getElem?_eq_some_iff.mp hi
    obtain ⟨h2, e2⟩ := List.getElem?_eq_some_iff.mp hj
    rcases Nat.lt_or_ge j i with w | w
    · have := List.pairwise_iff_getElem.mp B.mono j i h2 h1 w
      rw [e1, e2] at this
      omega
    · have e : i = j := by omega
      subst e
      rw [e1] at e2
      subst e2
      omega
theorem Bfs.clo_all {F low : List Pt} {M : List T3} {R : List (List Pt)} (B : Bfs F M low R R.length) {f f' : List Pt} (hf : f ∈ R) {k : Nat} {g : Bool} {t : T3} (s : Step M f k g t f') : f' ∈ R :=
  B.clo f (by rw [List.take_length]; exact hf) k g t f' s

/-! weights -/
def tot (wt : E2 → Int) (l : List E2) : Int := (l.map wt).sum
theorem sum_perm {l l' : List Int} (h : l.Perm l') : l.sum = l'.sum := by
  induction h with
  | nil => rfl
  | cons x _ ih => simp only [List.sum_cons, ih]
  | swap x y l => simp only [List.sum_cons]; omega
  | trans _ _ h1 h2 => exact h1.trans h2
theorem tot_perm {wt : E2 → Int} {l l' : List E2} (h : l.Perm l') : tot wt l = tot wt l' := sum_perm (h.map wt)
theorem tot_app (wt : E2 → Int) (l l' : List E2) : tot wt (l ++ l') = tot wt l + tot wt l' := by unfold tot; rw [List.map_append, List.sum_append]
theorem tot_nn {wt : E2 → Int} : ∀ {l : List E2}, (∀ e ∈ l, 0 ≤ wt e) → 0 ≤ tot wt l
  | [], _ => by simp [tot]
  | e :: l, h => by
    have := tot_nn (wt := wt) (l := l) fun x hx => h x (List.mem_cons_of_mem _ hx)
    have := h e (by simp)
    unfold tot at *
    simp only [List.map_cons, List.sum_cons]
    omega
theorem tot_sub {wt : E2 → Int} : ∀ {l l' : List E2}, l.Nodup → (∀ e ∈ l, e ∈ l') → (∀ e ∈ l', 0 ≤ wt e) → tot wt l ≤ tot wt l'
  | [], l', _, _, h => tot_nn h
  | e :: l, l', hn, hs, h => by
    have hn' := List.nodup_cons.mp hn
    have hp := List.perm_cons_erase (hs e (by simp))
    have ih := tot_sub (wt := wt) (l := l) (l' := l'.erase e) hn'.2 (fun x hx => by
      have hne : x ≠ e := fun z => hn'.1 (z ▸ hx)
      exact (List.mem_erase_of_ne hne).mpr (hs x (List.mem_cons_of_mem _ hx))) (fun x hx => h x (List.mem_of_mem_erase hx))
    rw [tot_perm hp]
    unfold tot at *
    simp only [List.map_cons, List.sum_cons]
    omega
def freshW (wt : E2 → Int) (t : T3) : Int := tot wt (newt t)
theorem tot_flat (wt : E2 → Int) : ∀ ts : List T3, tot wt (ts.flatMap newt) = (ts.map (freshW wt)).sum
  | [] => rfl
  | t :: ts => by
    rw [List.flatMap_cons, tot_app, tot_flat wt ts, List.map_cons, List.sum_cons]; rfl
/-- the lay weighs no less than the lower front and what comes new on the way -/
theorem lay_weighs {F low up : List Pt} {M : List T3} {ts : List T3} {wt : E2 → Int} {T : List E2} (hF : Field F) (hM : ∀ t ∈ M, Tri F t) (Hl : Hullish 1 F low) (Hu : Hullish (-1) F up) (w : Way M low ts up)
    (hT : ∀ e, e ∈ T ↔ IsTie F e.1 e.2) (own : E2 → Bool) (hown : ∀ e, e ∈ T → (own e = true ↔ ∃ t ∈ ts, e ∈ sidesOf t)) (hw : ∀ e ∈ T, 0 ≤ wt e) :
    tot wt (prs low) + (ts.map (freshW wt)).sum ≤ tot wt (T.filter own) := by
  have G := w.gone hM (Hl.front (.inl rfl))
  rw [← tot_flat, ← tot_app]
  refine tot_sub G.nd (fun e he => ?_) fun e he => hw e (List.mem_filter.mp he).1
  have lowtie : ∀ e ∈ prs low, e ∈ T ∧ ∃ t ∈ ts, e ∈ sidesOf t := fun e h => by
    have hfr := Hl.front (.inl rfl)
    have m := prs_mem (u := e.1) (v := e.2) h
    refine ⟨(hT e).mpr ⟨Hl.mem _ m.1, Hl.mem _ m.2, prs_lt Hl.ris h, hfr.cl e h⟩, ?_⟩
    rcases G.lo e h with k | k
    · exact absurd k (not_both hF Hl Hu h)
    · exact k
  rw [List.mem_filter]
  rcases List.mem_append.mp he with h | h
  · have k := lowtie e h
    exact ⟨k.1, (hown e k.1).mpr k.2⟩
  · obtain ⟨t, ht, h⟩ := List.mem_flatMap.mp h
    have hs := newt_sides h
    have Tt := G.tri t ht
    obtain ⟨c1, c2, c3⟩ := Tt.sides
    have hm : e ∈ T := by
      rw [hT]
      simp only [sidesOf, List.mem_cons, List.not_mem_nil, or_false] at hs
      rcases hs with rfl | rfl | rfl
      · exact ⟨Tt.ma, Tt.mb, Tt.ab, c1⟩
      · exact ⟨Tt.ma, Tt.mc, plt_trans Tt.ab Tt.bc, c3⟩
      · exact ⟨Tt.mb, Tt.mc, Tt.bc, c2⟩
    exact ⟨hm, (hown e hm).mpr ⟨t, ht, hs⟩⟩
/-- the numbers of a paper that is let by -/
def Lets (M : List T3) (wt : E2 → Int) (R : List (List Pt)) (N : List Pt → Int) : Prop := ∀ f ∈ R, ∀ k g t f', Step M f k g t f' → N f ≤ N f' + freshW wt t
theorem way_numbers {F low f : List Pt} {M : List T3} {ts : List T3} {wt : E2 → Int} {R : List (List Pt)} {N : List Pt → Int} (B : Bfs F M low R R.length) (hN : Lets M wt R N) (w : Way M low ts f) : f ∈ R ∧ N low ≤ N f + (ts.map (freshW wt)).sum := by
  induction w with
  | nil => exact ⟨B.lo, by simp⟩
  | snoc _ s ih =>
    have := hN _ ih.1 _ _ _ _ s
    refine ⟨B.clo_all ih.1 s, ?_⟩
    rw [List.map_append, List.sum_append]
    simp
    omega
theorem bound_le {F low up : List Pt} {M : List T3} {ts : List T3} {wt : E2 → Int} {T : List E2} {R : List (List Pt)} {N : List Pt → Int} (hF : Field F) (hM : ∀ t ∈ M, Tri F t) (Hl : Hullish 1 F low) (Hu : Hullish (-1) F up) (w : Way M low ts up)
    (hT : ∀ e, e ∈ T ↔ IsTie F e.1 e.2) (own : E2 → Bool) (hown : ∀ e, e ∈ T → (own e = true ↔ ∃ t ∈ ts, e ∈ sidesOf t)) (hw : ∀ e ∈ T, 0 ≤ wt e) (B : Bfs F M low R R.length) (hN : Lets M wt R N) (h0 : N up = 0) :
    tot wt (prs low) + N low ≤ tot wt (T.filter own) := by
  have a := lay_weighs hF hM Hl Hu w hT own hown hw
  have b := (way_numbers B hN w).2
  omega
end Tl

end
-- W1
section
set_option maxHeartbeats 200000
/-! data of tuples and numbers, as they lie in the abstract heap -/
namespace Tl
open PySem PySem.Spec PyProof.Rows L2

/-- a plain tuple stands at a, for good -/
def PlT (H : Hp) (a : Addr) (xs : List V) : Prop := ∃ o : Obj, H a = some (.frz o (.tup xs)) ∧ o.dict = none
theorem PlT.sq {K : PySem.W.Frag} {H : Hp} {a : Addr} {xs : List V} (h : PlT H a xs) : SqT K H a xs := let ⟨o, h, _⟩ := h; .inl (.inr ⟨o, h⟩)
mutual
inductive Tp (K : PySem.W.Frag) (H : Hp) : V → NestedKey → Prop
  | int (i : Int) : Tp K H (.int i) (.num i)
  | tup {a : Addr} {xs : List V} {ks : List NestedKey} (h : PlT H a xs) (r : TpAll K H xs ks) : Tp K H (.ref a) (.tup ks)
inductive TpAll (K : PySem.W.Frag) (H : Hp) : List V → List NestedKey → Prop
  | nil : TpAll K H [] []
  | cons {v : V} {vs : List V} {k : NestedKey} {ks : List NestedKey} (h : Tp K H v k) (r : TpAll K H vs ks) : TpAll K H (v :: vs) (k :: ks)
end
/-- tuples and what is frozen stand -/
structure Tx (H H' : Hp) : Prop where
  tups : ∀ b xs, H b = some (.tup xs) → H' b = some (.tup xs)
  frzs : ∀ b o u, H b = some (.frz o u) → H' b = some (.frz o u)
theorem Tx.refl (H : Hp) : Tx H H := ⟨fun _ _ h => h, fun _ _ _ h => h⟩
theorem Tx.trans {H H1 H2 : Hp} (a : Tx H H1) (b : Tx H1 H2) : Tx H H2 := ⟨fun c xs h => b.tups c xs (a.tups c xs h), fun c o u h => b.frzs c o u (a.frzs c o u h)⟩
theorem Tx.same {H H' : Hp} (s : Same H H') : Tx H H' := ⟨fun b xs h => s b _ h, fun b o u h => s b _ h⟩
/-- what may change without a tuple's loss -/
def Soft : Option HO → Prop
  | none => True
  | some (.lst _) => True
  | some (.dK _) => True
  | some (.dT _) => True
  | some (.ext _) => True
  | _ => False
theorem Tx.upd {H : Hp} {p : Addr} {o : HO} (h : Soft (H p)) : Tx H (upd H p o) :=
  ⟨fun b xs e => by rw [upd_ne (fun z => by subst z; rw [e] at h; exact h)]; exact e, fun b ob u e => by rw [upd_ne (fun z => by subst z; rw [e] at h; exact h)]; exact e⟩
theorem Tx.new {H : Hp} {p : Addr} {o : HO} (h : H p = none) : Tx H (L2.upd H p o) := Tx.upd (by rw [h]; trivial)
theorem Tx.lst {H : Hp} {p : Addr} {o : HO} {xs : List V} (h : H p = some (.lst xs)) : Tx H (L2.upd H p o) := Tx.upd (by rw [h]; trivial)
theorem Tx.ext {H : Hp} {p : Addr} {o : HO} {φ : Heap → Prop} (h : H p = some (.ext φ)) : Tx H (L2.upd H p o) := Tx.upd (by rw [h]; trivial)
theorem Tx.sqT {K : PySem.W.Frag} {H H' : Hp} (t : Tx H H') {a : Addr} {xs : List V} (h : SqT K H a xs) : SqT K H' a xs := by
  rcases h with (h | ⟨o, h⟩) | h
  · exact .inl (.inl (t.tups _ _ h))
  · exact .inl (.inr ⟨o, t.frzs _ _ _ h⟩)
  · exact .inr h
theorem PlT.up {H H' : Hp} {a : Addr} {xs : List V} (h : PlT H a xs) (t : Tx H H') : PlT H' a xs := let ⟨o, h, d⟩ := h; ⟨o, t.frzs _ _ _ h, d⟩
mutual
theorem Tp.mono {K : PySem.W.Frag} {H H' : Hp} (t : Tx H H') : ∀ (k : NestedKey) (v : V), Tp K H v k → Tp K H' v k
  | .none, _, h => by cases h
  | .num i, _, h => by cases h; exact .int i
  | .text _, _, h => by cases h
  | .tup ks, _, h => by cases h with | tup h r => exact .tup (h.up t) (TpAll.mono t ks _ r)
theorem TpAll.mono {K : PySem.W.Frag} {H H' : Hp} (t : Tx H H') : ∀ (ks : List NestedKey) (vs : List V), TpAll K H vs ks → TpAll K H' vs ks
  | [], _, h => by cases h; exact .nil
  | k :: ks, _, h => by cases h with | cons h r => exact .cons (Tp.mono t k _ h) (TpAll.mono t ks _ r)
end
theorem Tp.up {K : PySem.W.Frag} {H H' : Hp} {k : NestedKey} {v : V} (h : Tp K H v k) (t : Tx H H') : Tp K H' v k := Tp.mono t k v h
theorem TpAll.up {K : PySem.W.Frag} {H H' : Hp} {ks : List NestedKey} {vs : List V} (h : TpAll K H vs ks) (t : Tx H H') : TpAll K H' vs ks := TpAll.mono t ks vs h
section
variable {K : PySem.W.Frag} {H : Hp}
theorem TpAll.length : ∀ {vs : List V} {ks : List NestedKey}, TpAll K H vs ks → vs.length = ks.length
  | _, _, .nil => rfl
  | _, _, .cons _ r => by simp [TpAll.length r]
theorem TpAll.get : ∀ {vs : List V} {ks : List NestedKey} {i : Nat} {v : V}, TpAll K H vs ks → vs[i]? = some v → ∃ k, ks[i]? = some k ∧ Tp K H v k
  | _, _, _, _, .nil, h => by simp at h
  | _, _, 0, _, .cons h r, e => by simp at e; subst e; exact ⟨_, rfl, h⟩
  | _, _, i + 1, _, .cons h r, e => by
    simp at e
    obtain ⟨k, h1, h2⟩ := TpAll.get r e
    exact ⟨k, by simpa using h1, h2⟩
theorem TpAll.at : ∀ {vs : List V} {ks : List NestedKey} {i : Nat} {k : NestedKey}, TpAll K H vs ks → ks[i]? = some k → ∃ v, vs[i]? = some v ∧ Tp K H v k
  | _, _, _, _, .nil, h => by simp at h
  | _, _, 0, _, .cons h r, e => by simp at e; subst e; exact ⟨_, rfl, h⟩
  | _, _, i + 1, _, .cons h r, e => by
    simp at e
    obtain ⟨k, h1, h2⟩ := TpAll.at r e
    exact ⟨k, by simpa using h1, h2⟩
theorem TpAll.append : ∀ {vs : List V} {ks : List NestedKey} {ws : List V} {ls : List NestedKey}, TpAll K H vs ks → TpAll K H ws ls → TpAll K H (vs ++ ws) (ks ++ ls)
  | _, _, _, _, .nil, s => s
  | _, _, _, _, .cons h r, s => .cons h (TpAll.append r s)
theorem TpAll.take : ∀ {vs : List V} {ks : List NestedKey} (n : Nat), TpAll K H vs ks → TpAll K H (vs.take n) (ks.take n)
  | _, _, 0, _ => by simp only [List.take_zero]; exact .nil
  | _, _, _ + 1, .nil => by simp only [List.take_nil]; exact .nil
  | _, _, n + 1, .cons h r => .cons h (TpAll.take n r)
theorem TpAll.drop : ∀ {vs : List V} {ks : List NestedKey} (n : Nat), TpAll K H vs ks → TpAll K H (vs.drop n) (ks.drop n)
  | _, _, 0, h => h
  | _, _, _ + 1, .nil => by simp only [List.drop_nil]; exact .nil
  | _, _, n + 1, .cons h r => TpAll.drop n r
theorem TpAll.snoc {vs : List V} {ks : List NestedKey} {v : V} {k : NestedKey} (h : TpAll K H vs ks) (q : Tp K H v k) : TpAll K H (vs ++ [v]) (ks ++ [k]) := h.append (.cons q .nil)
theorem TpAll.rev : ∀ {vs : List V} {ks : List NestedKey}, TpAll K H vs ks → TpAll K H vs.reverse ks.reverse
  | _, _, .nil => .nil
  | _, _, .cons h r => by
    rw [List.reverse_cons, List.reverse_cons]
    exact (TpAll.rev r).snoc h
/-- the slice xs[lo:hi] -/
def cutN {α : Type} (xs : List α) (lo hi : Option Int) : List α := (xs.drop (HT.sIx xs.length 0 lo)).take (HT.sIx xs.length xs.length hi - HT.sIx xs.length 0 lo)
theorem TpAll.cut {vs : List V} {ks : List NestedKey} (lo hi : Option Int) (h : TpAll K H vs ks) : TpAll K H (cutV vs lo hi) (cutN ks lo hi) := by
  unfold cutV cutN
  rw [h.length]
  exact TpAll.take _ (TpAll.drop _ h)
theorem Tp.inv {v : V} {ks : List NestedKey} (h : Tp K H v (.tup ks)) : ∃ a xs, v = .ref a ∧ SqT K H a xs ∧ TpAll K H xs ks := by
  cases h with
  | tup h r => exact ⟨_, _, rfl, h.sq, r⟩
theorem Tp.invP {v : V} {ks : List NestedKey} (h : Tp K H v (.tup ks)) : ∃ a xs, v = .ref a ∧ PlT H a xs ∧ TpAll K H xs ks := by
  cases h with
  | tup h r => exact ⟨_, _, rfl, h, r⟩
theorem Tp.num {v : V} {i : Int} (h : Tp K H v (.num i)) : v = .int i := by cases h; rfl
mutual
theorem Tp.dp : ∀ (k : NestedKey) (v : V), Tp K H v k → Dp K H v k.data ∧ k.data.canLay0 = true
  | .none, _, h => by cases h
  | .num i, _, h => by cases h; exact ⟨.int i, by simp [NestedKey.data, PyData.canLay0]⟩
  | .text _, _, h => by cases h
  | .tup ks, _, h => by
    cases h with
    | tup h r =>
      have q := TpAll.dp ks _ r
      exact ⟨.tup h.sq q.1, by simpa [NestedKey.data, PyData.canLay0] using q.2⟩
theorem TpAll.dp : ∀ (ks : List NestedKey) (vs : List V), TpAll K H vs ks → DpAll K H vs (NestedKey.datas ks) ∧ PyData.canLayAll0 (NestedKey.datas ks) = true
  | [], _, h => by cases h; exact ⟨.nil, by simp [NestedKey.datas, PyData.canLayAll0]⟩
  | k :: ks, _, h => by
    cases h with
    | cons h r =>
      have q1 := Tp.dp k _ h
      have q2 := TpAll.dp ks _ r
      exact ⟨.cons q1.1 q2.1, by simp [NestedKey.datas, PyData.canLayAll0, q1.2, q2.2]⟩
end
end
mutual
theorem depth_data : ∀ k : NestedKey, k.data.depth ≤ k.depth
  | .none => by simp [NestedKey.data, PyData.depth]
  | .num _ => by simp [NestedKey.data, PyData.depth]
  | .text _ => by simp [NestedKey.data, PyData.depth]
  | .tup ks => by
    have := depth_datas ks
    simp only [NestedKey.data, PyData.depth, NestedKey.depth]
    omega
theorem depth_datas : ∀ ks : List NestedKey, PyData.depthAll (NestedKey.datas ks) ≤ NestedKey.depthAll ks
  | [] => by simp [NestedKey.datas, PyData.depthAll]
  | k :: ks => by
    have h1 := depth_data k
    have h2 := depth_datas ks
    simp only [NestedKey.datas, PyData.depthAll, NestedKey.depthAll]
    omega
end
mutual
theorem eqv_data : ∀ k l : NestedKey, PyData.eqv k.data l.data = NestedKey.beq k l
  | .none, .none => by simp [NestedKey.data, PyData.eqv, NestedKey.beq]
  | .none, .num _ => by simp [NestedKey.data, PyData.eqv, NestedKey.beq]
  | .none, .text _ => by simp [NestedKey.data, PyData.eqv, NestedKey.beq]
  | .none, .tup _ => by simp [NestedKey.data, PyData.eqv, NestedKey.beq]
  | .num _, .none => by simp [NestedKey.data, PyData.eqv, NestedKey.beq]
  | .num i, .num j => by
    simp only [NestedKey.data, PyData.eqv, NestedKey.beq]
    by_cases h : i = j <;> simp [h]
  | .num _, .text _ => by simp [NestedKey.data, PyData.eqv, NestedKey.beq]
  | .num _, .tup _ => by simp [NestedKey.data, PyData.eqv, NestedKey.beq]
  | .text _, .none => by simp [NestedKey.data, PyData.eqv, NestedKey.beq]
  | .text _, .num _ => by simp [NestedKey.data, PyData.eqv, NestedKey.beq]
  | .text x, .text y => by
    simp only [NestedKey.data, PyData.eqv, NestedKey.beq]
    by_cases h : x = y
    · subst h; simp
    · rw [decide_eq_false h]; exact beq_eq_false_iff_ne.mpr h
  | .text _, .tup _ => by simp [NestedKey.data, PyData.eqv, NestedKey.beq]
  | .tup _, .none => by simp [NestedKey.data, PyData.eqv, NestedKey.beq]
  | .tup _, .num _ => by simp [NestedKey.data, PyData.eqv, NestedKey.beq]
  | .tup _, .text _ => by simp [NestedKey.data, PyData.eqv, NestedKey.beq]
  | .tup ks, .tup ls => by simp only [NestedKey.data, PyData.eqv, NestedKey.beq]; exact eqv_datas ks ls
theorem eqv_datas : ∀ ks ls : List NestedKey, PyData.eqvAll (NestedKey.datas ks) (NestedKey.datas ls) = NestedKey.beqAll ks ls
  | [], [] => by simp [NestedKey.datas, PyData.eqvAll, NestedKey.beqAll]
  | [], _ :: _ => by simp [NestedKey.datas, PyData.eqvAll, NestedKey.beqAll]
  | _ :: _, [] => by simp [NestedKey.datas, PyData.eqvAll, NestedKey.beqAll]
  | k :: ks, l :: ls => by simp only [NestedKey.datas, PyData.eqvAll, NestedKey.beqAll, eqv_data k l, eqv_datas ks ls]
end
theorem eqv_dec (k l : NestedKey) : PyData.eqv k.data l.data = decide (k = l) := by rw [eqv_data, NestedKey.decide_eq]
theorem datas_map : ∀ ks : List NestedKey, NestedKey.datas ks = ks.map NestedKey.data
  | [] => rfl
  | k :: ks => by simp [NestedKey.datas, datas_map ks]
theorem any_eqv (k : NestedKey) (ks : List NestedKey) : ((NestedKey.datas ks).any fun z => PyData.eqv z k.data) = decide (k ∈ ks) := by
  rw [datas_map, List.any_map]
  induction ks with
  | nil => simp
  | cons l ls ih =>
    rw [List.any_cons, ih]
    simp only [Function.comp, eqv_dec, List.mem_cons]
    by_cases h : k = l
    · subst h; simp
    · have h' : ¬ l = k := fun e => h e.symm
      simp [h, h']
theorem depthAll_le {n : Nat} : ∀ {ks : List NestedKey}, (∀ k ∈ ks, k.depth ≤ n) → NestedKey.depthAll ks ≤ n
  | [], _ => by simp [NestedKey.depthAll]
  | k :: ks, h => by
    have h1 := h k (by simp)
    have h2 := depthAll_le (n := n) (ks := ks) fun x hx => h x (List.mem_cons_of_mem _ hx)
    simp only [NestedKey.depthAll]
    omega
theorem depth_tup {n : Nat} {ks : List NestedKey} (h : ∀ k ∈ ks, k.depth ≤ n) : (NestedKey.tup ks).depth ≤ n + 1 := by
  have := depthAll_le h
  simp only [NestedKey.depth]
  omega
theorem Tp.shaped {K : PySem.W.Frag} {H : Hp} {v : V} {k : NestedKey} (h : Tp K H v k) (hd : k.depth ≤ 8) : SeqAt.shaped k.data = true := by
  have := depth_data k
  unfold SeqAt.shaped
  rw [(Tp.dp k v h).2]
  simp
  omega
section
variable {X : Cx}
/-- == and != -/
def rEqN (K : PySem.W.Frag) (neg : Bool) : R2 := fun x y H Q => ∃ k l, Tp K H x k ∧ Tp K H y l ∧ k.depth ≤ 8 ∧ l.depth ≤ 8 ∧ Q (.bl (if neg then !decide (k = l) else decide (k = l))) H
theorem op_eqN (hu : X.A.units + 64 < cLine) : OpR X (compareOp .Eq) (rEqN X.K false) := by
  intro pins s σ H x y v u Q I rx ry h
  obtain ⟨k, l, hk, hl, dk, dl, q⟩ := h
  refine op_eqD hu pins s σ H x y v u Q I rx ry ⟨_, _, (Tp.dp k x hk).1, (Tp.dp l y hl).1, hk.shaped dk, hl.shaped dl, ?_⟩
  rw [eqv_dec]; exact q
theorem op_neN (hu : X.A.units + 64 < cLine) : OpR X (compareOp .NotEq) (rEqN X.K true) := by
  intro pins s σ H x y v u Q I rx ry h
  obtain ⟨k, l, hk, hl, dk, dl, q⟩ := h
  refine op_neD hu pins s σ H x y v u Q I rx ry ⟨_, _, (Tp.dp k x hk).1, (Tp.dp l y hl).1, hk.shaped dk, hl.shaped dl, ?_⟩
  rw [eqv_dec]; exact q
theorem shaped_list {K : PySem.W.Frag} {H : Hp} {vs : List V} {ks : List NestedKey} (h : TpAll K H vs ks) (hd : ∀ k ∈ ks, k.depth ≤ 8) : SeqAt.shaped (.list (NestedKey.datas ks)) = true := by
  have h1 := depth_datas ks
  have h2 := depthAll_le hd
  unfold SeqAt.shaped
  have e : PyData.canLay0 (.list (NestedKey.datas ks)) = true := by simpa [PyData.canLay0] using (TpAll.dp ks vs h).2
  rw [e]
  simp only [PyData.depth, Bool.true_and]
  exact decide_eq_true (by omega)
/-- x in list, x not in list, x in tuple, x not in tuple -/
def rInN (K : PySem.W.Frag) (neg : Bool) : R2 := fun x y H Q => ∃ a k vs ks, y = .ref a ∧ Tp K H x k ∧ (SqL K H a vs ∨ SqT K H a vs) ∧ TpAll K H vs ks ∧ k.depth ≤ 8 ∧ (∀ l ∈ ks, l.depth ≤ 8) ∧ Q (.bl (if neg then !decide (k ∈ ks) else decide (k ∈ ks))) H
theorem in_room {k : NestedKey} {ks : List NestedKey} {u : Nat} (hd : k.depth ≤ 8) (hu : u + 65 < cLine) : u + 1 + min (PyData.depthAll (NestedKey.datas ks)) k.data.depth < cLine := by
  have h1 := depth_data k
  have h2 : min (PyData.depthAll (NestedKey.datas ks)) k.data.depth ≤ k.data.depth := Nat.min_le_right _ _
  omega
theorem op_inN (hu : X.A.units + 65 < cLine) : OpR X (compareOp .In) (rInN X.K false) := by
  intro pins s σ H x y v u Q I rx ry h
  obtain ⟨a, k, vs, ks, rfl, hk, hs, hv, dk, dl, q⟩ := h
  rcases hs with hs | hs
  · refine L2.op_inD hu pins s σ H x _ v u Q I rx ry ⟨_, _, (Tp.dp k x hk).1, .lst hs (TpAll.dp ks vs hv).1, hk.shaped dk, shaped_list hv dl, ?_⟩
    rw [any_eqv]; exact q
  · obtain ⟨as, r1⟩ := Dp.reads I _ x v (Tp.dp k x hk).1 rx
    obtain ⟨bs, r2⟩ := Dp.reads I (.tuple (NestedKey.datas ks)) _ u (.tup hs (TpAll.dp ks vs hv).1) ry
    refine SeqAt.in_tuple_reads r2 r1 (TpAll.dp ks vs hv).2 (Tp.dp k x hk).2 (in_room dk hu) ⟨.bl _, H, I, rfl, ?_⟩
    rw [any_eqv]; exact q
theorem op_notInN (hu : X.A.units + 65 < cLine) : OpR X (compareOp .NotIn) (rInN X.K true) := by
  intro pins s σ H x y v u Q I rx ry h
  obtain ⟨a, k, vs, ks, rfl, hk, hs, hv, dk, dl, q⟩ := h
  rcases hs with hs | hs
  · refine L2.op_notInD hu pins s σ H x _ v u Q I rx ry ⟨_, _, (Tp.dp k x hk).1, .lst hs (TpAll.dp ks vs hv).1, hk.shaped dk, shaped_list hv dl, ?_⟩
    rw [any_eqv]; exact q
  · obtain ⟨as, r1⟩ := Dp.reads I _ x v (Tp.dp k x hk).1 rx
    obtain ⟨bs, r2⟩ := Dp.reads I (.tuple (NestedKey.datas ks)) _ u (.tup hs (TpAll.dp ks vs hv).1) ry
    refine SeqAt.notIn_tuple_reads r2 r1 (TpAll.dp ks vs hv).2 (Tp.dp k x hk).2 (in_room dk hu) ⟨.bl _, H, I, rfl, ?_⟩
    rw [any_eqv]; exact q
/-! keys of dicts -/
mutual
theorem Tp.nested {pins : List (Addr × Obj)} {σ : L2.St} {H : Hp} {s : Shared} (I : Inv X pins σ H s) : ∀ (k : NestedKey) (v : V) (u : Value), Tp X.K H v k → RelV v u → NestedIs s.heap k u
  | .none, _, _, h, _ => by cases h
  | .num i, _, _, h, r => by
    cases h
    obtain ⟨t, rfl⟩ := r
    exact .int i t
  | .text _, _, _, h, _ => by cases h
  | .tup ks, _, _, h, r => by
    cases h with
    | tup hs hr =>
      cases r
      obtain ⟨its, rv, ⟨o, ho, hc, n, hd⟩, _⟩ := I.tuple hs.sq
      exact .tup ho hc hd (by simpa using TpAll.nested I ks _ its hr rv)
theorem TpAll.nested {pins : List (Addr × Obj)} {σ : L2.St} {H : Hp} {s : Shared} (I : Inv X pins σ H s) : ∀ (ks : List NestedKey) (vs : List V) (us : List Value), TpAll X.K H vs ks → Vals vs us → NestedAll s.heap ks us
  | [], _, _, h, r => by cases h; cases r; exact .nil
  | k :: ks, _, _, h, r => by
    cases h with
    | cons h1 h2 =>
      cases r with
      | cons r1 r2 => exact .cons (Tp.nested I k _ _ h1 r1) (TpAll.nested I ks _ _ h2 r2)
end
/-- t.index(x), x in t -/
def rIdxN (K : PySem.W.Frag) : V → List V → Hp → VK → Prop := fun x xs H Q => ∃ a y vs k ks, x = .ref a ∧ xs = [y] ∧ SqT K H a vs ∧ TpAll K H vs ks ∧ Tp K H y k ∧ k.depth ≤ 8 ∧ k ∈ ks ∧ Q (.int (ks.idxOf k : Nat)) H
theorem mt_idxN (hu : X.A.units + 65 < cLine) : MtR X "tuple.index" (rIdxN X.K) := by
  intro pins s σ H x xs v us Q I rx rxs h
  obtain ⟨a, y, vs, k, ks, rfl, rfl, hs, hv, hy, hd, hk, q⟩ := h
  cases rx
  cases rxs with
  | cons ry rt =>
    rename_i uy ut
    cases rt
    obtain ⟨its, rv, ht, hz⟩ := I.tuple hs
    refine SeqAt.call_tuple_index (show s.heap.IsTuple a its.toArray from ht) (SeqAt.ItemsEq.nested (TpAll.nested I ks vs its hv rv) (Tp.nested I k y uy hy ry) (by show X.A.units + 1 + k.depth < cLine; omega)) hk ?_
    exact ⟨.int _, H, I.tok _, ⟨_, rfl⟩, q⟩
end
end Tl

end
-- W2
section
set_option maxHeartbeats 200000
/-! dicts whose keys are tuples of tuples -/
namespace Tl
open PySem PySem.Spec PyProof.Rows L2

abbrev EV := NestedKey × Addr × V
abbrev EU := NestedKey × Addr × Value
abbrev ER : List EV → List EU → Prop := Paired fun p q => p.1 = q.1 ∧ p.2.1 = q.2.1 ∧ RelV p.2.2 q.2.2
def kvOf (xs : List EV) : List (NestedKey × V) := xs.map fun x => (x.1, x.2.2)
theorem ER.val {xs : List EV} {ys : List EU} (r : ER xs ys) (k : NestedKey) : RelO (valV (kvOf xs) k) ((atKey ys k).map (·.2)) := by
  unfold kvOf
  induction r with
  | nil => exact True.intro
  | @cons p q ps qs h t ih =>
    obtain ⟨h1, _, h2⟩ := h
    rw [List.map_cons]
    by_cases e : p.1 = k
    · have e' : q.1 = k := h1.symm.trans e
      rw [valV_pos e, show atKey (q :: qs) k = some q.2 by simp [atKey, List.find?_cons, e']]
      exact h2
    · have e' : ¬ q.1 = k := fun z => e (h1.trans z)
      rw [valV_neg e, show atKey (q :: qs) k = atKey qs k by simp [atKey, List.find?_cons, e']]
      exact ih
/-- the entries behind d[k] = v, k's tuple at a -/
def putE (xs : List EV) (k : NestedKey) (a : Addr) (v : V) : List EV :=
  if (valV (kvOf xs) k).isSome then xs.map fun x => if x.1 = k then (x.1, x.2.1, v) else x else xs ++ [(k, a, v)]
theorem kv_putE (xs : List EV) (k : NestedKey) (a : Addr) (v : V) : kvOf (putE xs k a v) = putK (kvOf xs) k v := by
  unfold putE putK
  rw [valV_any]
  split
  · unfold kvOf
    rw [List.map_map, List.map_map]
    refine List.map_congr_left fun x _ => ?_
    by_cases h : x.1 = k <;> simp [h]
  · simp [kvOf]
theorem ER.put {xs : List EV} {ys : List EU} (r : ER xs ys) (k : NestedKey) (a : Addr) {v : V} {u : Value} (rv : RelV v u) : ER (putE xs k a v) (storedH ys k a u) := by
  have e : (valV (kvOf xs) k).isSome = (atKey ys k).isSome := by rw [(r.val k).isSome_eq, Option.isSome_map]
  unfold putE storedH
  rw [e]
  split
  · clear e
    induction r with
    | nil => exact .nil
    | @cons p q ps qs h t ih =>
      rw [List.map_cons, List.map_cons]
      rename_i hs
      refine .cons ?_ ?_
      · obtain ⟨h1, h2, h3⟩ := h
        unfold putAt
        by_cases e : p.1 = k
        · rw [if_pos e, if_pos (h1.symm.trans e)]; exact ⟨h1, h2, rv⟩
        · rw [if_neg e, if_neg (fun z => e (h1.trans z))]; exact ⟨h1, h2, h3⟩
      · clear ih hs h
        induction t with
        | nil => exact .nil
        | @cons p q ps qs h t ih =>
          rw [List.map_cons, List.map_cons]
          refine .cons ?_ ih
          obtain ⟨h1, h2, h3⟩ := h
          unfold putAt
          by_cases e : p.1 = k
          · rw [if_pos e, if_pos (h1.symm.trans e)]; exact ⟨h1, h2, rv⟩
          · rw [if_neg e, if_neg (fun z => e (h1.trans z))]; exact ⟨h1, h2, h3⟩
  · exact Paired.snoc r ⟨rfl, rfl, rv⟩
theorem mem_putE {xs : List EV} {k : NestedKey} {a : Addr} {v : V} {x : EV} (h : x ∈ putE xs k a v) : (∃ y ∈ xs, x.1 = y.1 ∧ x.2.1 = y.2.1) ∨ (x.1 = k ∧ x.2.1 = a) := by
  unfold putE at h
  split at h
  · obtain ⟨y, hy, e⟩ := List.mem_map.mp h
    refine .inl ⟨y, hy, ?_⟩
    rw [← e]
    split <;> exact ⟨rfl, rfl⟩
  · rcases List.mem_append.mp h with h | h
    · exact .inl ⟨x, h, rfl, rfl⟩
    · simp at h; subst h; exact .inr ⟨rfl, rfl⟩
theorem putE_len (xs : List EV) (k : NestedKey) (a : Addr) (v : V) : (putE xs k a v).length ≤ xs.length + 1 := by
  unfold putE
  split <;> simp

section
variable (P : Program) (w : World)
/-- such a dict at d, its entries by the addresses of their keys -/
def EK (d : Addr) (xs : List EV) : HO := .ext fun h => ∃ ys : List EU, ER xs ys ∧ ∃ o es ep, h.get? d = some o ∧ o.ExactDict ∧ o.data = .dict es ep ∧ es.toList = ys.map (entryOfKey (nestedKind P w)) ∧ (ys.map (·.1)).Nodup
/-- at d a dict with the keys and values kvs, in order -/
def ND (K : PySem.W.Frag) (H : Hp) (d : Addr) (kvs : List (NestedKey × V)) : Prop :=
  ∃ xs : List EV, H d = some (EK P w d xs) ∧ xs.length ≤ sizeLine ∧ (d == sysModules) = false ∧ (∀ x ∈ xs, Tp K H (.ref x.2.1) x.1 ∧ x.1.depth ≤ 8) ∧ kvOf xs = kvs
end
section
variable {P : Program} {w : World} {K : PySem.W.Frag} {H H' : Hp} {d : Addr} {kvs : List (NestedKey × V)}
theorem ND.soft (h : ND P w K H d kvs) : Soft (H d) := by
  obtain ⟨xs, h, _⟩ := h
  rw [h]; trivial
theorem ND.there (h : ND P w K H d kvs) : ∃ φ, H d = some (.ext φ) := let ⟨_, h, _⟩ := h; ⟨_, h⟩
theorem ND.up (h : ND P w K H d kvs) (t : Tx H H') (e : H' d = H d) : ND P w K H' d kvs := by
  obtain ⟨xs, h1, h2, h3, h4, h5⟩ := h
  exact ⟨xs, e.trans h1, h2, h3, fun x hx => ⟨(h4 x hx).1.up t, (h4 x hx).2⟩, h5⟩
theorem ND.same (h : ND P w K H d kvs) (s : Same H H') : ND P w K H' d kvs := by
  obtain ⟨φ, e⟩ := h.there
  exact h.up (Tx.same s) ((s d _ e).trans e.symm)
theorem ND.len (h : ND P w K H d kvs) : kvs.length ≤ sizeLine := by
  obtain ⟨xs, h1, h2, h3, h4, h5⟩ := h
  rw [← h5]
  simpa [kvOf] using h2
theorem EK_ok {h : Heap} {xs : List EV} {ys : List EU} (r : ER xs ys) {o : Obj} {es : Array DictEntry} {ep : Nat} (ho : h.get? d = some o) (hx : o.ExactDict) (hd : o.data = .dict es ep)
    (he : es.toList = ys.map (entryOfKey (nestedKind P w))) (hn : (ys.map (·.1)).Nodup) : ObjOk P w H h d (EK P w d xs) := by
  refine ⟨⟨ys, r, o, es, ep, ho, hx, hd, he, hn⟩, ⟨o, ho⟩, fun h1 h2 q k => ?_⟩
  obtain ⟨ys', r', o', es', ep', ho', rest⟩ := q
  exact ⟨ys', r', o', es', ep', k _ ho', rest⟩
end
section
variable {X : Cx} {pins : List (Addr × Obj)} {σ : L2.St} {H : Hp} {s : Shared} {d : Addr} {kvs : List (NestedKey × V)}
/-- as the library tells it -/
theorem ND.at (I : Inv X pins σ H s) (h : ND X.prog X.w X.K H d kvs) : ∃ (xs : List EV) (ys : List EU), H d = some (EK X.prog X.w d xs) ∧ xs.length ≤ sizeLine ∧ (d == sysModules) = false ∧ (∀ x ∈ xs, Tp X.K H (.ref x.2.1) x.1 ∧ x.1.depth ≤ 8) ∧ kvOf xs = kvs ∧
    ER xs ys ∧ s.heap.DictOfH (nestedKind X.prog X.w) d ys := by
  obtain ⟨xs, h1, h2, h3, h4, h5⟩ := h
  obtain ⟨⟨ys, r, o, es, ep, ho, hx, hd, he, hn⟩, _, _⟩ := (show ObjOk X.prog X.w H s.heap d (EK X.prog X.w d xs) from I.hok d _ h1)
  refine ⟨xs, ys, h1, h2, h3, h4, h5, r, o, es, ep, ho, hx, hd, he, fun y hy => ?_, hn⟩
  have key : ∀ {xs : List EV} {ys : List EU}, ER xs ys → (∀ x ∈ xs, Tp X.K H (.ref x.2.1) x.1 ∧ x.1.depth ≤ 8) → ∀ y ∈ ys, Tp X.K H (.ref y.2.1) y.1 ∧ y.1.depth ≤ 8 := by
    intro xs ys r
    induction r with
    | nil => intro _ y hy; cases hy
    | @cons p q ps qs h t ih =>
      intro hall y hy
      rcases List.mem_cons.mp hy with rfl | hy
      · have := hall p List.mem_cons_self
        rw [h.1, h.2.1] at this
        exact this
      · exact ih (fun x hx => hall x (List.mem_cons_of_mem _ hx)) y hy
  obtain ⟨q1, q2⟩ := key r h4 y hy
  exact ⟨Tp.nested I y.1 _ _ q1 rfl, q2⟩
/-- what the key's value must be -/
theorem Tp.key (I : Inv X pins σ H s) {v : V} {u : Value} {ks : List NestedKey} (h : Tp X.K H v (.tup ks)) (r : RelV v u) (hd : (NestedKey.tup ks).depth ≤ 8) : ∃ a, v = .ref a ∧ u = .ref a ∧ (nestedKind X.prog X.w).is s.heap (.tup ks) a := by
  obtain ⟨a, xs, rfl, _, _⟩ := h.inv
  obtain rfl : u = .ref a := r
  exact ⟨a, rfl, rfl, Tp.nested I _ _ _ h rfl, hd⟩
theorem room8 {A : Around} (hu : A.units + 65 < cLine) : A.in1.units + 8 < cLine := by show A.units + 1 + 8 < cLine; omega
/-- d[k] -/
def tNGet (P : Program) (w : World) (K : PySem.W.Frag) (td ty : TE) : TE := fun σ H Q => td σ H fun x H1 => ty σ H1 fun y H2 => ∃ d kvs ks v, x = .ref d ∧ ND P w K H2 d kvs ∧ Tp K H2 y (.tup ks) ∧ (NestedKey.tup ks).depth ≤ 8 ∧ valV kvs (.tup ks) = some v ∧ Q v H2
theorem pe_nget {o i : Expr} {pos : Pos} {td ty : TE} (hu : X.A.units + 65 < cLine) (ho : PE X o td) (hi : PE X i ty) (hs : NoSl i) : PE X (.Subscript o i pos) (tNGet X.prog X.w X.K td ty) := by
  refine ⟨fun pins s σ H Q I h => ?_⟩
  refine subD_of PySem.F.slot_dict_getitem.lookup hs (thn (ho.run pins s σ H _ I h) fun u s1 ⟨x, H1, I1, rx, q1⟩ => thn (hi.run pins s1 σ H1 _ I1 q1) fun iv s2 ⟨y, H2, I2, ry, d, kvs, ks, v, ex, hN, hk, hd, hv, q2⟩ => ?_)
  subst ex
  obtain rfl : u = Value.ref d := rx
  obtain ⟨xs, ys, e1, e2, e3, e4, e5, r, dd⟩ := hN.at I2
  obtain ⟨a, rfl, rfl, hkey⟩ := hk.key I2 ry hd
  obtain ⟨w', hw, rw'⟩ := RelO.some_of (v := v) (o := (atKey ys (.tup ks)).map (·.2)) (by rw [← hv, ← e5]; exact r.val _)
  obtain ⟨p, hp, hp2⟩ := Option.map_eq_some_iff.mp hw
  refine ⟨dd.typeIs, wpAny_getItem_heap (room8 hu) hkey dd hp ?_⟩
  rw [hp2]
  exact ⟨v, H2, I2.tok _, rw', q2⟩
/-- k in d -/
def rNIn (P : Program) (w : World) (K : PySem.W.Frag) (neg : Bool) : R2 := fun x y H Q => ∃ d kvs ks, y = .ref d ∧ ND P w K H d kvs ∧ Tp K H x (.tup ks) ∧ (NestedKey.tup ks).depth ≤ 8 ∧ Q (.bl (if neg then !(valV kvs (.tup ks)).isSome else (valV kvs (.tup ks)).isSome)) H
theorem op_nin (hu : X.A.units + 65 < cLine) : OpR X (compareOp .In) (rNIn X.prog X.w X.K false) := by
  intro pins s σ H x y v u Q I rx ry h
  obtain ⟨d, kvs, ks, rfl, hN, hk, hd, q⟩ := h
  obtain rfl : u = Value.ref d := ry
  obtain ⟨xs, ys, e1, e2, e3, e4, e5, r, dd⟩ := hN.at I
  obtain ⟨a, rfl, rfl, hkey⟩ := hk.key I rx hd
  refine wpAny_in_heap (room8 hu) hkey e3 dd ?_
  have z := (r.val (.tup ks)).isSome_eq
  rw [Option.isSome_map, e5] at z
  rw [← z]
  exact ⟨.bl _, H, I.tok _, rfl, q⟩
theorem op_nnotin (hu : X.A.units + 65 < cLine) : OpR X (compareOp .NotIn) (rNIn X.prog X.w X.K true) := by
  intro pins s σ H x y v u Q I rx ry h
  obtain ⟨d, kvs, ks, rfl, hN, hk, hd, q⟩ := h
  obtain rfl : u = Value.ref d := ry
  obtain ⟨xs, ys, e1, e2, e3, e4, e5, r, dd⟩ := hN.at I
  obtain ⟨a, rfl, rfl, hkey⟩ := hk.key I rx hd
  refine wpAny_notIn_heap (room8 hu) hkey e3 dd ?_
  have z := (r.val (.tup ks)).isSome_eq
  rw [Option.isSome_map, e5] at z
  rw [← z]
  exact ⟨.bl _, H, I.tok _, rfl, q⟩
/-- d.get(k, x) -/
def tNGet2 (P : Program) (w : World) (K : PySem.W.Frag) (td ty tx : TE) : TE := fun σ H Q => td σ H fun x H1 => ∃ d, x = .ref d ∧ (∃ kvs, ND P w K H1 d kvs) ∧ ty σ H1 fun y H2 => tx σ H2 fun z H3 => ∃ kvs ks, ND P w K H3 d kvs ∧ Tp K H3 y (.tup ks) ∧ (NestedKey.tup ks).depth ≤ 8 ∧ Q ((valV kvs (.tup ks)).getD z) H3
theorem pe_nget2 {o e f : Expr} {apos cpos : Pos} {td ty tx : TE} (hu : X.A.units + 65 < cLine) (ho : PE X o td) (he : PE X e ty) (hf : PE X f tx) (m : M2 X o "get" apos e f cpos) : PE X (.Call (.Attribute o "get" apos) [e, f] [] cpos) (tNGet2 X.prog X.w X.K td ty tx) := by
  refine ⟨fun pins s σ H Q I h => ?_⟩
  refine wpAny_Call_method m.base m.few m.line PySem.F.plainAttrs_dict PySem.F.slot_dict_get PySem.F.type_dict_get (thn (ho.run pins s σ H _ I h) fun u s1 ⟨x, H1, I1, rx, d, ex, ⟨kvs0, hN0⟩, q1⟩ => ?_)
  subst ex
  obtain rfl : u = Value.ref d := rx
  obtain ⟨xs0, ys0, _, _, _, _, _, r0, dd0⟩ := hN0.at I1
  obtain ⟨ob, es, ep, ho1, hx1, hd1, _⟩ := id dd0
  refine ⟨dd0.typeIs, fun b q => by cases q; exact ⟨ob, ho1, hx1.2.1⟩, ?_⟩
  rw [m.trees]
  refine Calls.callWith_builtin rfl (Calls.evalArgs_plain (Calls.spliced_cons (thn (he.run pins s1 σ H1 _ I1 q1) fun iv s2 ⟨y, H2, I2, ry, q2⟩ =>
    Calls.spliced_cons (thn (hf.run pins s2 σ H2 _ I2 q2) fun fv s3 ⟨z, H3, I3, rz, kvs, ks, hN, hk, hd, q3⟩ => Calls.spliced_nil ?_))))
  obtain ⟨xs, ys, e1, e2, e3, e4, e5, r, dd⟩ := hN.at I3
  obtain ⟨a, rfl, rfl, hkey⟩ := hk.key I3 ry hd
  refine getOr_keyed (knd := nestedKind X.prog X.w) (kvs := pairsH ys) (room8 hu) hkey e3 ⟨ys, dd, rfl⟩ ?_
  rw [valueAt_pairsH]
  have z2 := r.val (.tup ks)
  rw [e5] at z2
  exact ⟨_, H3, I3.tok _, z2.getD rz, q3⟩
/-- d[k] = v -/
def sNPut (P : Program) (w : World) (K : PySem.W.Frag) (td ty tv : TE) : TS := fun D σ H => tv σ H fun v H1 => td σ H1 fun x H2 => ty σ H2 fun y H3 => ∃ d kvs ks, x = .ref d ∧ ND P w K H3 d kvs ∧ Tp K H3 y (.tup ks) ∧ (NestedKey.tup ks).depth ≤ 8 ∧ kvs.length < sizeLine ∧
  ∀ H4, ND P w K H4 d (putK kvs (.tup ks) v) → (∃ o, H4 = upd H3 d o) → D.nx σ H4
theorem ps_nput {o i value : Expr} {pos pos' : Pos} {td ty tv : TE} (hu : X.A.units + 65 < cLine) (ho : PE X o td) (hi : PE X i ty) (hv : PE X value tv) (hs : swapsWith value (some (.Subscript o i pos')) pos.line X.env = pure false) :
    PS X (.Assign [.Subscript o i pos'] value pos) (sNPut X.prog X.w X.K td ty tv) := by
  refine ⟨fun pins s σ H D I h => ?_⟩
  refine wpAny_Assign_Subscript (thn (hv.run pins s σ H _ I h) fun r s1 ⟨v, H1, I1, rv, q1⟩ => thn (ho.run pins s1 σ H1 _ I1 q1) fun u s2 ⟨x, H2, I2, rx, q2⟩ => thn (hi.run pins s2 σ H2 _ I2 q2) fun iv s3 ⟨y, H3, I3, ry, d, kvs, ks, ex, hN, hk, hd, hl, q3⟩ => ?_) hs
  subst ex
  obtain rfl : u = Value.ref d := rx
  obtain ⟨xs, ys, e1, e2, e3, e4, e5, rr, dd⟩ := hN.at I3
  obtain ⟨a, rfl, rfl, hkey⟩ := hk.key I3 ry hd
  have hy : ys.length ≤ sizeLine := by rw [← Paired.length rr]; exact e2
  have hxl : xs.length < sizeLine := by rw [← e5] at hl; simpa [kvOf] using hl
  refine wpAny_setItem_heap (hsz := hy) (room8 hu) hkey dd fun h' dd' hsb => ?_
  obtain ⟨ob, es, ep, hq, h2, h3, h4, _, h5⟩ := dd'
  have soft : Soft (H3 d) := hN.soft
  have J : Inv X pins σ (upd H3 d (EK X.prog X.w d (putE xs (.tup ks) a v))) { s3 with heap := h', toks := s3.toks + (nestedKind X.prog X.w).draws (.tup ks) } :=
    d_write I3 (by rw [e1]; exact True.intro) hsb ⟨ob, hq⟩ (EK_ok (rr.put (.tup ks) a rv) hq h2 h3 h4 h5)
  have tx : Tx H3 (upd H3 d (EK X.prog X.w d (putE xs (.tup ks) a v))) := Tx.upd soft
  refine ⟨σ, _, J, q3 _ ⟨putE xs (.tup ks) a v, upd_same, ?_, e3, fun z hz => ?_, by rw [kv_putE, e5]⟩ ⟨_, rfl⟩⟩
  · have := putE_len xs (.tup ks) a v
    omega
  · rcases mem_putE hz with ⟨y, hy, q1, q2⟩ | ⟨q1, q2⟩
    · rw [q1, q2]
      exact ⟨(e4 y hy).1.up tx, (e4 y hy).2⟩
    · rw [q1, q2]
      exact ⟨hk.up tx, hd⟩
/-- {} -/
def tNNew (P : Program) (w : World) : TE := fun _ H Q => ∀ d, H d = none → (d == sysModules) = false → Q (.ref d) (upd H d (EK P w d []))
theorem pe_nnew {pos : Pos} : PE X (.Dict [] [] pos) (tNNew X.prog X.w) := ⟨fun pins s σ H Q I h => by
  have hb : (s.heap.objs.size == sysModules) = false := beq_eq_false_iff_ne.mpr (Ne.symm (Nat.ne_of_lt I.big))
  exact wpAny_Dict_empty ⟨.ref s.heap.objs.size, _, I.laid (a := s.heap.objs.size) (o := EK X.prog X.w s.heap.objs.size []) (t' := s.toks) (fun _ _ q => Heap.get?_push_of_some _ q) (Nat.le_refl _)
    (EK_ok (ys := []) .nil (Heap.get?_push_size _ rfl) ⟨rfl, rfl, rfl⟩ rfl rfl List.nodup_nil), rfl, h _ (I.hok.fresh (Nat.le_refl _)) hb⟩⟩
theorem ND.new {P : Program} {w : World} {K : PySem.W.Frag} {H : Hp} {d : Addr} (hd : (d == sysModules) = false) : ND P w K (upd H d (EK P w d [])) d [] :=
  ⟨[], upd_same, Nat.zero_le _, hd, (fun _ h => nomatch h), rfl⟩
/-- list(d): the keys -/
def rNList (P : Program) (w : World) (K : PySem.W.Frag) : List V → Hp → VK → Prop := fun xs H Q => ∃ d kvs, xs = [V.ref d] ∧ ND P w K H d kvs ∧ ∀ p vs, H p = none → TpAll K H vs (kvs.map (·.1)) → Q (.ref p) (upd H p (.lst vs))
theorem call_list_nd (hc : X.calm = true) : CallR X (.type "list") (rNList X.prog X.w X.K) := by
  intro pins s σ H xs us Q I r h
  obtain ⟨d, kvs, rfl, hN, q⟩ := h
  obtain ⟨u, rfl, rx⟩ := r.one
  cases rx
  obtain ⟨es0, ys, e1, e2, e3, e4, e5, rr, dd⟩ := hN.at I
  obtain ⟨o, es, ep, ho, hx, hdt, he, _, hn⟩ := id dd
  have l1 : es.size = ys.length := size_of_entries he
  have l2 : es0.length = ys.length := Paired.length rr
  refine PySem.W.kdl_call (kdl_raw e3 hx hdt) (I.ok.hd hc) ho (by omega) fun h' tk acc' c' kp e it => ?_
  have ea : acc'.toList = es0.map fun x => Value.ref x.2.1 := by
    have hl : acc'.toList.length = ys.length := by rw [Array.length_toList, it.1]; exact l1
    apply List.ext_getElem?
    intro j
    rw [List.getElem?_map]
    cases hj : acc'.toList[j]? with
    | none =>
      have h1 := List.getElem?_eq_none_iff.mp hj
      rw [List.getElem?_eq_none (by omega)]
      rfl
    | some v =>
      obtain ⟨en, hen, hv⟩ := it.2 j v (by rw [← Array.getElem?_toList]; exact hj)
      have qe := entry_at he j
      rw [hen] at qe
      cases hb : ys[j]? with
      | none => rw [hb] at qe; cases qe
      | some b =>
        rw [hb] at qe
        have e2 : en = entryOfKey (nestedKind X.prog X.w) b := Option.some.inj qe
        have hbl := (List.getElem?_eq_some_iff.mp hb).1
        have hal : j < es0.length := by omega
        obtain ⟨b', hb', rb⟩ := paired_get rr (List.getElem?_eq_getElem hal)
        rw [hb] at hb'; cases hb'
        rw [List.getElem?_eq_getElem hal, hv, e2]
        show some (Value.ref b.2.1) = _
        rw [Option.map_some, rb.2.1]
  have eb : acc'.toList = (es0.map fun x => x.2.1).map Value.ref := by rw [ea, List.map_map]; rfl
  have rv : Vals ((es0.map fun x => x.2.1).map V.ref) acc'.toList := by rw [eb]; exact vals_refs _
  have hz : ((es0.map fun x => x.2.1).map V.ref).length ≤ sizeLine := by rw [List.length_map, List.length_map]; omega
  have all : ∀ l : List EV, (∀ x ∈ l, Tp X.K H (.ref x.2.1) x.1 ∧ x.1.depth ≤ 8) → TpAll X.K H ((l.map fun x => x.2.1).map V.ref) ((kvOf l).map (·.1)) := by
    intro l
    induction l with
    | nil => intro _; exact .nil
    | cons y l ih => intro hl; exact .cons (hl y List.mem_cons_self).1 (ih fun x hx => hl x (List.mem_cons_of_mem _ hx))
  refine ⟨.ref s.heap.objs.size, _, I.laid (t' := tk) (o := .lst ((es0.map fun x => x.2.1).map V.ref)) kp (Nat.le_refl _) ?_, rfl, q _ _ (I.hok.fresh (Nat.le_refl _)) (by rw [← e5]; exact all es0 e4)⟩
  exact ⟨hz, acc'.toList, c', rv, by rw [Array.toArray_toList]; exact e⟩
/-- len(d) -/
def rNLen (P : Program) (w : World) (K : PySem.W.Frag) : List V → Hp → VK → Prop := fun xs H Q => ∃ d kvs, xs = [V.ref d] ∧ ND P w K H d kvs ∧ Q (.int ((kvs.length : Nat) : Int)) H
theorem call_len_nd : CallR X (.builtin "len") (rNLen X.prog X.w X.K) := by
  intro pins s σ H xs us Q I r h
  obtain ⟨d, kvs, rfl, hN, q⟩ := h
  obtain ⟨u, rfl, rx⟩ := r.one
  obtain rfl : u = .ref d := rx
  obtain ⟨es0, ys, e1, e2, e3, e4, e5, rr, dd⟩ := hN.at I
  have hl : kvs.length = ys.length := by rw [← e5, ← Paired.length rr]; simp [kvOf]
  obtain ⟨o, es, ep, ho, hx, hdt, he, _, hn⟩ := id dd
  have l1 : es.size = ys.length := size_of_entries he
  refine PyProof.Rows.call_len_slot (n := kvs.length) dd.typeIs PySem.F.slot_dict_len (fun Q' hq => len_keyed (knd := nestedKind X.prog X.w) (kvs := pairsH ys) e3 ⟨ys, dd, rfl⟩ (by rw [pairsH_length, ← hl]; exact hq)) (by omega) (by have := hN.len; rw [sizeLine_eq] at this; omega) ?_
  exact ⟨.int ((kvs.length : Nat) : Int), H, I.tok _, ⟨_, rfl⟩, q⟩
end
end Tl

end
-- W3
section
set_option maxHeartbeats 200000
/-! dict(zip(a, b)) over lists and tuples; dict of a tuple of pairs; enumerate of a tuple -/
namespace Tl
open PySem PySem.Spec PyProof.Rows L2
section
variable {prog : Program} {w : World} {A : Around} {E : Value → Shared → Prop} {s : Shared} {z TI TO T i1 i2 : Addr} {fp1 fp2 : List Addr} {n1 n2 i : Nat} {P1 P2 : Nat → Value → Prop} {St1 St2 : Nat → Heap → Prop} {f : Bool} {oT : Obj}

/-- next of a zip whose tuple is still held, over what draws -/
theorem zipH_item {Q : Value → Shared → Prop} (S : ZipSep2 z TI TO i1 i2 fp1 fp2) (D1 : Draws prog w A i1 fp1 n1 P1 St1) (D2 : Draws prog w A i2 fp2 n2 P2 St2)
    (hz : IsZipHeld s.heap z TI TO T f) (hT : s.heap.get? T = some oT) (hTI : IsTupOf2 s.heap TI (.ref i1) (.ref i2)) (st1 : St1 i s.heap) (st2 : St2 i s.heap) (hlt1 : i < n1) (hlt2 : i < n2)
    (hQ : ∀ x1 x2 h' tk, P1 i x1 → P2 i x2 → IsZipHeld h' z TI TO T true → St1 (i + 1) h' → St2 (i + 1) h' → IsTupOf2 h' s.heap.objs.size x1 x2 → h'.objs.size = s.heap.objs.size + 1 →
      (∀ c o, c ≠ z → c ≠ i1 → c ≠ i2 → s.heap.get? c = some o → h'.get? c = some o) → Q (.ref s.heap.objs.size) { s with heap := h', toks := tk }) :
    wpAny (model prog w) A (Builtin.«zip.__next__» ⟨[.ref z], []⟩) (fun fin s' => ∃ v, fin = .done (.ret v) ∧ Q v s') E s := by
  obtain ⟨hp, g, d, tk0, os⟩ := s
  show wpAny _ _ (field (.ref z) 2 >>= _) _ _ _
  refine wpAny_bind (wpAny_field hz rfl (x := .bool false) rfl ?_)
  show wpAny _ _ (field (.ref z) 3 >>= _) _ _ _
  refine wpAny_bind (wpAny_field hz rfl (x := .ref TI) rfl ?_)
  refine wpAny_bind (wpAny_seqItems hTI rfl ?_)
  show wpAny _ _ (Builtin.SmallTypes.ownedTupleIsFree (.ref z) >>= _) _ _ _
  refine wpAny_bind (wpAny_tupleHeld_zip hz hT fun g0 hz0 hs0 => ?_)
  replace hs0 : Heap.SameBut z hp g0 := hs0
  simp only [Bool.false_eq_true, if_false]
  refine wpAny_bind ?_
  rw [← Array.forIn_toList]
  simp only [List.forIn_cons, List.forIn_nil]
  refine wpAny_bind (wpAny_bind (wpAny_holding ?_))
  show wpAny _ _ (Builtin.SmallTypes.nextOf (.ref i1) >>= _) _ _ ⟨g0, g, d, tk0, os⟩
  refine wpAny_bind (D1.item i _ _ _ hlt1 (D1.over st1 hs0 S.zf1) fun x1 p1 tk1 hx1 sn1 hp1 => wpAny_pure ?_)
  replace hp1 : Heap.SameBut i1 g0 p1 := hp1
  refine wpAny_pure ?_
  refine wpAny_bind (wpAny_bind (wpAny_holding ?_))
  show wpAny _ _ (Builtin.SmallTypes.nextOf (.ref i2) >>= _) _ _ ⟨p1, g, d, tk1, os⟩
  refine wpAny_bind (D2.item i _ _ _ hlt2 (D2.over (D2.over st2 hs0 S.zf2) hp1 S.sep1_2) fun x2 p2 tk2 hx2 sn2 hp2 => wpAny_pure ?_)
  replace hp2 : Heap.SameBut i2 p1 p2 := hp2
  refine wpAny_pure (wpAny_pure ?_)
  show wpAny _ _ (newTuple [x1, x2] >>= _) _ _ _
  refine wpAny_bind (wpAny_newTuple ?_)
  have hsz : p2.objs.size = hp.objs.size := by rw [hp2.1, hp1.1, hs0.1]
  have hz2 : IsZipHeld p2 z TI TO T true := hp2.extBut _ _ S.zi2 (hp1.extBut _ _ S.zi1 hz0)
  have hk : ∀ c o, c ≠ z → c ≠ i1 → c ≠ i2 → hp.get? c = some o → p2.get? c = some o := fun c o c1 c2 c3 e => hp2.extBut _ _ c3 (hp1.extBut _ _ c2 (hs0.extBut _ _ c1 e))
  have j1 : St1 (i + 1) p2 := D1.over sn1 hp2 S.sep2_1
  refine wpAny_pure ⟨_, rfl, ?_⟩
  show Q (.ref p2.objs.size) _
  have hpp : IsTupOf2 (p2.push { cls := .type "tuple", data := .seq #[x1, x2] }) p2.objs.size x1 x2 := Heap.get?_push_size _ rfl
  have hz4 : (p2.push { cls := .type "tuple", data := .seq #[x1, x2] }).objs.size = p2.objs.size + 1 := Heap.size_push ..
  rw [hsz] at hpp hz4 ⊢
  exact hQ x1 x2 _ tk2 hx1 hx2 (Heap.get?_push_of_some _ hz2) (D1.frame _ _ _ j1 fun b _ o e => Heap.get?_push_of_some _ e) (D2.frame _ _ _ sn2 fun b _ o e => Heap.get?_push_of_some _ e) hpp hz4
    fun c o c1 c2 c3 e => Heap.get?_push_of_some _ (hk c o c1 c2 c3 e)
theorem zipH_end {Q : Fin → Shared → Prop} (S : ZipSep2 z TI TO i1 i2 fp1 fp2) (D1 : Draws prog w A i1 fp1 n1 P1 St1) (D2 : Draws prog w A i2 fp2 n2 P2 St2)
    (hz : IsZipHeld s.heap z TI TO T f) (hT : s.heap.get? T = some oT) (hTI : IsTupOf2 s.heap TI (.ref i1) (.ref i2)) (st1 : St1 i s.heap) (st2 : St2 i s.heap) (hle1 : i ≤ n1) (hle2 : i ≤ n2) (hend : i = n1 ∨ i = n2)
    (hE : ∀ h' tk e, (∀ c o, c ≠ z → c ≠ i1 → c ≠ i2 → s.heap.get? c = some o → h'.get? c = some o) → (∃ o, h'.get? e = some o ∧ o.cls = .type "StopIteration") → E (.ref e) { s with heap := h', toks := tk }) :
    wpAny (model prog w) A (Builtin.«zip.__next__» ⟨[.ref z], []⟩) Q E s := by
  obtain ⟨hp, g, d, tk0, os⟩ := s
  show wpAny _ _ (field (.ref z) 2 >>= _) _ _ _
  refine wpAny_bind (wpAny_field hz rfl (x := .bool false) rfl ?_)
  show wpAny _ _ (field (.ref z) 3 >>= _) _ _ _
  refine wpAny_bind (wpAny_field hz rfl (x := .ref TI) rfl ?_)
  refine wpAny_bind (wpAny_seqItems hTI rfl ?_)
  show wpAny _ _ (Builtin.SmallTypes.ownedTupleIsFree (.ref z) >>= _) _ _ _
  refine wpAny_bind (wpAny_tupleHeld_zip hz hT fun g0 hz0 hs0 => ?_)
  replace hs0 : Heap.SameBut z hp g0 := hs0
  simp only [Bool.false_eq_true, if_false]
  refine wpAny_bind ?_
  rw [← Array.forIn_toList]
  simp only [List.forIn_cons, List.forIn_nil]
  refine wpAny_bind (wpAny_bind (wpAny_holding ?_))
  show wpAny _ _ (Builtin.SmallTypes.nextOf (.ref i1) >>= _) _ _ ⟨g0, g, d, tk0, os⟩
  by_cases hlt1 : i < n1
  · refine wpAny_bind (D1.item i _ _ _ hlt1 (D1.over st1 hs0 S.zf1) fun x1 p1 tk1 hx1 sn1 hp1 => wpAny_pure ?_)
    replace hp1 : Heap.SameBut i1 g0 p1 := hp1
    refine wpAny_pure ?_
    have hi2 : i = n2 := by omega
    refine wpAny_bind (wpAny_bind (wpAny_holding ?_))
    show wpAny _ _ (Builtin.SmallTypes.nextOf (.ref i2) >>= _) _ _ ⟨p1, g, d, tk1, os⟩
    refine wpAny_bind (D2.done ⟨p1, g, d, tk1, os⟩ _ _ (by rw [← hi2]; exact D2.over (D2.over st2 hs0 S.zf2) hp1 S.sep1_2) fun q e hq he => ?_)
    exact hE q tk1 e (fun c o c1 c2 c3 x => hq _ _ c3 (hp1.extBut _ _ c2 (hs0.extBut _ _ c1 x))) he
  · have hi1 : i = n1 := by omega
    refine wpAny_bind (D1.done ⟨g0, g, d, tk0, os⟩ _ _ (by rw [← hi1]; exact D1.over st1 hs0 S.zf1) fun q e hq he => ?_)
    exact hE q tk0 e (fun c o c1 c2 _ x => hq _ _ c2 (hs0.extBut _ _ c1 x)) he
theorem pyNext_zipH_item {Q : Option Value → Shared → Prop} (S : ZipSep2 z TI TO i1 i2 fp1 fp2) (D1 : Draws prog w A.in1 i1 fp1 n1 P1 St1) (D2 : Draws prog w A.in1 i2 fp2 n2 P2 St2)
    (hz : IsZipHeld s.heap z TI TO T f) (hT : s.heap.get? T = some oT) (hTI : IsTupOf2 s.heap TI (.ref i1) (.ref i2)) (st1 : St1 i s.heap) (st2 : St2 i s.heap) (hlt1 : i < n1) (hlt2 : i < n2)
    (hQ : ∀ x1 x2 h' tk, P1 i x1 → P2 i x2 → IsZipHeld h' z TI TO T true → St1 (i + 1) h' → St2 (i + 1) h' → IsTupOf2 h' s.heap.objs.size x1 x2 → h'.objs.size = s.heap.objs.size + 1 →
      (∀ c o, c ≠ z → c ≠ i1 → c ≠ i2 → s.heap.get? c = some o → h'.get? c = some o) → Q (some (.ref s.heap.objs.size)) { s with heap := h', toks := tk }) :
    wpAny (model prog w) A (pyNext (.ref z)) Q E s := by
  have hTy : s.TypeIs (.ref z) "zip" := ⟨_, hz, rfl⟩
  unfold pyNext
  exact wpAny_bind (wpAny_attempt (wpAny_callSpecial?_slot (name := Str.ofString "__next__") hTy PySem.F.slot_zip_next
    (wpAny_call_entry PySem.F.slot_zip_next hTy PySem.F.entry_zip_next
      (zipH_item S D1 D2 hz hT hTI st1 st2 hlt1 hlt2 fun x1 x2 h' tk y1 y2 a1 a3 a4 a5 a6 a7 => wpAny_pure (hQ x1 x2 h' tk y1 y2 a1 a3 a4 a5 a6 a7)) (PySem.F.args_zip_next_1 _))))
theorem pyNext_zipH_end {Q : Option Value → Shared → Prop} (S : ZipSep2 z TI TO i1 i2 fp1 fp2) (D1 : Draws prog w A.in1 i1 fp1 n1 P1 St1) (D2 : Draws prog w A.in1 i2 fp2 n2 P2 St2)
    (hz : IsZipHeld s.heap z TI TO T f) (hT : s.heap.get? T = some oT) (hTI : IsTupOf2 s.heap TI (.ref i1) (.ref i2)) (st1 : St1 i s.heap) (st2 : St2 i s.heap) (hle1 : i ≤ n1) (hle2 : i ≤ n2) (hend : i = n1 ∨ i = n2)
    (hQ : ∀ h' tk, (∀ c o, c ≠ z → c ≠ i1 → c ≠ i2 → s.heap.get? c = some o → h'.get? c = some o) → Q none { s with heap := h', toks := tk }) : wpAny (model prog w) A (pyNext (.ref z)) Q E s := by
  have hTy : s.TypeIs (.ref z) "zip" := ⟨_, hz, rfl⟩
  unfold pyNext
  refine wpAny_bind (wpAny_attempt (wpAny_callSpecial?_slot (name := Str.ofString "__next__") hTy PySem.F.slot_zip_next
    (wpAny_call_entry PySem.F.slot_zip_next hTy PySem.F.entry_zip_next (zipH_end S D1 D2 hz hT hTI st1 st2 hle1 hle2 hend fun h' tk e hk he => ?_) (PySem.F.args_zip_next_1 _))))
  obtain ⟨o, ho, hc⟩ := he
  refine wpAny_bind (wpAny_isInstance (T := "StopIteration") (b := true) ⟨o, ho, hc⟩ isSubtype_stop ?_)
  exact wpAny_pure (hQ _ _ hk)
end
/-- zip over what draws, as the argument of dict() -/
theorem zipArg {prog : Program} {w : World} {z TI TO i1 i2 : Addr} {fp1 fp2 : List Addr} {n1 n2 : Nat} {P1 P2 : Nat → Value → Prop} {St1 St2 : Nat → Heap → Prop}
    (S : ZipSep2 z TI TO i1 i2 fp1 fp2) (D1 : ∀ A : Around, A.handled = none → Draws prog w A i1 fp1 n1 P1 St1) (D2 : ∀ A : Around, A.handled = none → Draws prog w A i2 fp2 n2 P2 St2)
    (fr1 : ∀ i h h', St1 i h → (∀ b ∈ fp1, ∀ o, h.get? b = some o → h'.get? b = some o) → St1 i h') (fr2 : ∀ i h h', St2 i h → (∀ b ∈ fp2, ∀ o, h.get? b = some o → h'.get? b = some o) → St2 i h')
    (live1 : ∀ i h, St1 i h → ∀ b ∈ fp1, ∃ o, h.get? b = some o) (live2 : ∀ i h, St2 i h → ∀ b ∈ fp2, ∃ o, h.get? b = some o) :
    PairArg prog w "zip" z (z :: TI :: TO :: (fp1 ++ fp2)) [z, TO, i1, i2] (min n1 n2) (fun i k v => P1 i k ∧ P2 i v)
      (fun h => IsZip h z TI TO .none ∧ IsTupOf2 h TI (.ref i1) (.ref i2) ∧ (∃ a b, IsTupOf2 h TO a b) ∧ St1 0 h ∧ St2 0 h) where
  type := fun s ok => ⟨_, ok.1, rfl⟩
  notDict := by decide
  keep := fun h h' ok hk => by
    obtain ⟨hz, hTI, ⟨a, b, hTO⟩, h1, h2⟩ := ok
    exact ⟨hk _ _ hz, hk _ _ hTI, ⟨a, b, hk _ _ hTO⟩, fr1 _ _ _ h1 fun b _ o e => hk b o e, fr2 _ _ _ h2 fun b _ o e => hk b o e⟩
  there := fun h ok b hb => by
    obtain ⟨hz, hTI, ⟨a, c, hTO⟩, h1, h2⟩ := ok
    simp only [List.mem_cons, List.mem_append] at hb
    rcases hb with rfl | rfl | rfl | hb | hb
    · exact ⟨_, hz⟩
    · exact ⟨_, hTI⟩
    · exact ⟨_, hTO⟩
    · exact live1 _ _ h1 b hb
    · exact live2 _ _ h2 b hb
  sub := fun b hb => by
    simp only [List.mem_cons, List.not_mem_nil, or_false] at hb
    simp only [List.mem_cons, List.mem_append]
    rcases hb with rfl | rfl | rfl | rfl
    · exact .inl rfl
    · exact .inr (.inr (.inl rfl))
    · exact .inr (.inr (.inr (.inl S.mem1)))
    · exact .inr (.inr (.inr (.inr S.mem2)))
  noKeys := fun A s Q E hA ok h => getAttrOr_miss_zip ok.1 rfl rfl rfl zip_no_keys (by decide +kernel) hA h
  iter := fun A s d Q E hA ok hd hdf h => by
    obtain ⟨hz, hTI, ⟨a, b, hTO⟩, h1, h2⟩ := ok
    simp only [List.mem_cons, List.mem_append, not_or] at hdf
    obtain ⟨dz, dTI, dTO, d1, d2⟩ := hdf
    have di1 : d ≠ i1 := fun e => d1 (e ▸ S.mem1)
    have di2 : d ≠ i2 := fun e => d2 (e ▸ S.mem2)
    have DD1 := D1 A.in1 hA
    have DD2 := D2 A.in1 hA
    refine wpAny_pyIter_zip hz (h z [z, TO, i1, i2] (fun i h => IsTupOf2 h TI (.ref i1) (.ref i2) ∧ St1 i h ∧ St2 i h ∧
      ((IsZip h z TI TO .none ∧ ∃ a b, IsTupOf2 h TO a b) ∨ ∃ T f oT, IsZipHeld h z TI TO T f ∧ h.get? T = some oT ∧ T ≠ z ∧ T ≠ i1 ∧ T ≠ i2 ∧ T ≠ d)) s.heap s.toks ?_
      ⟨hTI, h1, h2, .inl ⟨hz, a, b, hTO⟩⟩ (fun _ _ e => e) fun b hb => .inl hb)
    exact {
      off := fun hm => by
        simp only [List.mem_cons, List.not_mem_nil, or_false] at hm
        rcases hm with e | e | e | e
        · exact dz e
        · exact dTO e
        · exact di1 e
        · exact di2 e
      frame := fun i g₁ g₂ st hk => by
        obtain ⟨hTI, h1, h2, hz⟩ := st
        refine ⟨hk _ _ (Ne.symm dTI) hTI, DD1.frame _ _ _ h1 fun b hb o e => hk b o (fun q => d1 (q ▸ hb)) e, DD2.frame _ _ _ h2 fun b hb o e => hk b o (fun q => d2 (q ▸ hb)) e, ?_⟩
        rcases hz with ⟨hz, a, b, hTO⟩ | ⟨T, f, oT, hz, hT, r1, r2, r3, r4⟩
        · exact .inl ⟨hk _ _ (Ne.symm dz) hz, a, b, hk _ _ (Ne.symm dTO) hTO⟩
        · exact .inr ⟨T, f, oT, hk _ _ (Ne.symm dz) hz, hk _ _ r4 hT, r1, r2, r3, r4⟩
      item := fun i s₁ Q₁ E₁ hi st hds hQ => by
        obtain ⟨hTI, h1, h2, hz⟩ := st
        have hi1 : i < n1 := Nat.lt_of_lt_of_le hi (Nat.min_le_left ..)
        have hi2 : i < n2 := Nat.lt_of_lt_of_le hi (Nat.min_le_right ..)
        have lt : ∀ {c o}, s₁.heap.get? c = some o → s₁.heap.objs.size ≠ c := fun e => Nat.ne_of_gt (Heap.lt_size e)
        have l1 : s₁.heap.objs.size ≠ i1 := by obtain ⟨_, e⟩ := DD1.live _ _ h1; exact lt e
        have l2 : s₁.heap.objs.size ≠ i2 := by obtain ⟨_, e⟩ := DD2.live _ _ h2; exact lt e
        rcases hz with ⟨hz, a, b, hTO⟩ | ⟨T, f, oT, hz, hT, r1, r2, r3, r4⟩
        · refine wpAny_pyNext_zipD2_item S DD1 DD2 hz hTI hTO h1 h2 hi1 hi2 fun x1 x2 h' tk y1 y2 b1 b2 e1 e2 b5 b6 hk => ?_
          exact hQ s₁.heap.objs.size x1 x2 h' tk ⟨y1, y2⟩ (.inl ⟨_, b5, rfl, _, rfl⟩)
            ⟨hk _ _ S.TIz S.TITO S.TIi1 S.TIi2 hTI, e1, e2, .inr ⟨s₁.heap.objs.size, false, _, b1, b5, lt hz, l1, l2, Nat.ne_of_gt hds⟩⟩
            fun c o hc e => hk c o (fun x => hc (by simp [x])) (fun x => hc (by simp [x])) (fun x => hc (by simp [x])) (fun x => hc (by simp [x])) e
        · refine pyNext_zipH_item S DD1 DD2 hz hT hTI h1 h2 hi1 hi2 fun x1 x2 h' tk y1 y2 b1 e1 e2 b5 b6 hk => ?_
          exact hQ s₁.heap.objs.size x1 x2 h' tk ⟨y1, y2⟩ (.inl ⟨_, b5, rfl, _, rfl⟩)
            ⟨hk _ _ S.TIz S.TIi1 S.TIi2 hTI, e1, e2, .inr ⟨T, true, oT, b1, hk _ _ r1 r2 r3 hT, r1, r2, r3, r4⟩⟩
            fun c o hc e => hk c o (fun x => hc (by simp [x])) (fun x => hc (by simp [x])) (fun x => hc (by simp [x])) e
      done := fun s₁ Q₁ E₁ st hQ => by
        obtain ⟨hTI, h1, h2, hz⟩ := st
        rcases hz with ⟨hz, a, b, hTO⟩ | ⟨T, f, oT, hz, hT, r1, r2, r3, r4⟩
        · exact wpAny_pyNext_zipD2_end S DD1 DD2 hz hTI hTO h1 h2 (Nat.min_le_left ..) (Nat.min_le_right ..) (by omega) fun h' tk hk => hQ h' tk fun c o hc e =>
            hk c o (fun x => hc (by simp [x])) (fun x => hc (by simp [x])) (fun x => hc (by simp [x])) (fun x => hc (by simp [x])) e
        · exact pyNext_zipH_end S DD1 DD2 hz hT hTI h1 h2 (Nat.min_le_left ..) (Nat.min_le_right ..) (by omega) fun h' tk hk => hQ h' tk fun c o hc e =>
            hk c o (fun x => hc (by simp [x])) (fun x => hc (by simp [x])) (fun x => hc (by simp [x])) e }
end Tl

end
-- W4
section
set_option maxHeartbeats 200000
namespace Tl
open PySem PySem.Spec PyProof.Rows L2

theorem old_ne {c N : Nat} (h : c < N) (k : Nat) : c ≠ N + k := by omega
theorem old_ne0 {c N : Nat} (h : c < N) : c ≠ N := by omega
theorem old_not {c N : Nat} (h : c < N) : c ∉ [N + 4, N + 3, N, N + 1] := by
  simp only [List.mem_cons, List.not_mem_nil, or_false]
  omega
/-- a list or a tuple that is drawn from -/
structure Src (prog : Program) (w : World) (a : Addr) (items : Array Value) (o : Obj) (G : Heap → Prop) (St : Addr → Nat → Heap → Prop) : Prop where
  beg : Begins (.ref a) o G
  drw : ∀ (it : Addr), a ≠ it → ∀ A : Around, A.handled = none → Draws prog w A it [it, a] items.size (fun i v => items[i]? = some v) (St it)
  frm : ∀ (it : Addr) i h h', St it i h → (∀ b ∈ [it, a], ∀ o, h.get? b = some o → h'.get? b = some o) → St it i h'
  liv : ∀ (it : Addr) i h, St it i h → ∀ b ∈ [it, a], ∃ o, h.get? b = some o
  ini : ∀ (it : Addr) h, h.get? it = some o → G h → St it 0 h
theorem Src.list (prog : Program) (w : World) (a : Addr) (items : Array Value) : ∃ o, Src prog w a items o (fun h => h.IsList a items) (fun it i h => h.IsListIter it a i ∧ h.IsList a items) := by
  refine ⟨_, begins_list a items, fun it hne A hA => Draws.list hA it a hne items, fun it i h h' st k => ⟨st.1.at fun o e => k it (by simp) o e, st.2.at fun o e => k a (by simp) o e⟩, fun it i h st b hb => ?_, fun it h e g => ⟨⟨_, e, rfl, rfl⟩, g⟩⟩
  simp only [List.mem_cons, List.not_mem_nil, or_false] at hb
  rcases hb with rfl | rfl
  · obtain ⟨o, ho, _⟩ := st.1; exact ⟨o, ho⟩
  · obtain ⟨o, ho, _⟩ := st.2; exact ⟨o, ho⟩
theorem Src.tuple (prog : Program) (w : World) (a : Addr) (items : Array Value) : ∃ o, Src prog w a items o (fun h => h.IsTuple a items) (fun it i h => h.IsTupleIter it a i ∧ h.IsTuple a items) := by
  refine ⟨_, begins_tuple a items, fun it hne A hA => Draws.tuple hA it a hne items, fun it i h h' st k => ⟨st.1.at fun o e => k it (by simp) o e, st.2.at fun o e => k a (by simp) o e⟩, fun it i h st b hb => ?_, fun it h e g => ⟨⟨_, e, rfl, rfl⟩, g⟩⟩
  simp only [List.mem_cons, List.not_mem_nil, or_false] at hb
  rcases hb with rfl | rfl
  · obtain ⟨o, ho, _⟩ := st.1; exact ⟨o, ho⟩
  · obtain ⟨o, ho, _⟩ := st.2; exact ⟨o, ho⟩
section
variable {X : Cx} {pins : List (Addr × Obj)} {σ : L2.St} {H : Hp} {s : Shared}
/-- what is read of a list or tuple at a -/
theorem src_of (I : Inv X pins σ H s) {a : Addr} {vs : List V} (h : SqL X.K H a vs ∨ SqT X.K H a vs) : ∃ (its : List Value) (o : Obj) (G : Heap → Prop) (St : Addr → Nat → Heap → Prop), Vals vs its ∧ Src X.prog X.w a its.toArray o G St ∧ G s.heap ∧ a < s.heap.objs.size ∧ vs.length ≤ sizeLine := by
  rcases h with h | h
  · obtain ⟨its, rv, p, hz⟩ := I.list h
    obtain ⟨o, S⟩ := Src.list X.prog X.w a its.toArray
    exact ⟨its, o, _, _, rv, S, p.isList, p.lt, hz⟩
  · obtain ⟨its, rv, p, hz⟩ := I.tuple h
    obtain ⟨o, S⟩ := Src.tuple X.prog X.w a its.toArray
    exact ⟨its, o, _, _, rv, S, p, p.lt, hz⟩
end
theorem er_zip : ∀ (ks : List NestedKey) (as : List Addr) {vs : List V} {us : List Value}, Vals vs us → ER (ks.zip (as.zip vs)) (ks.zip (as.zip us))
  | [], _, _, _, _ => by simp only [List.zip_nil_left]; exact .nil
  | k :: ks, [], _, _, _ => by simp only [List.zip_nil_left, List.zip_nil_right]; exact .nil
  | k :: ks, a :: as, _, _, .nil => by simp only [List.zip_nil_right]; exact .nil
  | k :: ks, a :: as, _, _, .cons r t => by
    simp only [List.zip_cons_cons]
    exact .cons ⟨rfl, rfl, r⟩ (er_zip ks as t)
theorem kv_zip : ∀ (ks : List NestedKey) (as : List Addr) (vs : List V), ks.length = as.length → kvOf (ks.zip (as.zip vs)) = ks.zip vs
  | [], _, _, _ => rfl
  | k :: ks, [], _, h => by simp at h
  | k :: ks, a :: as, [], _ => by simp [kvOf]
  | k :: ks, a :: as, v :: vs, h => by
    have ih := kv_zip ks as vs (by simpa using h)
    simp only [List.zip_cons_cons, kvOf, List.map_cons] at ih ⊢
    rw [ih]
theorem keys_zip : ∀ (ks : List NestedKey) (as : List Addr) (us : List Value), ks.length = as.length → ks.length = us.length → (ks.zip (as.zip us)).map (·.1) = ks
  | [], _, _, _, _ => rfl
  | k :: ks, [], _, h, _ => by simp at h
  | k :: ks, a :: as, [], _, h => by simp at h
  | k :: ks, a :: as, v :: vs, h, h' => by
    have ih := keys_zip ks as vs (by simpa using h) (by simpa using h')
    simp only [List.zip_cons_cons, List.map_cons, ih]
theorem zip3_get : ∀ {ks : List NestedKey} {as : List Addr} {us : List Value} {i : Nat} {a : Addr} {u : Value}, ks.length = as.length → as[i]? = some a → us[i]? = some u → ∃ k, (ks.zip (as.zip us))[i]? = some (k, a, u) ∧ ks[i]? = some k := by
  intro ks as us i a u hl ha hu
  have hi := (List.getElem?_eq_some_iff.mp ha).1
  have hk : i < ks.length := by omega
  refine ⟨ks[i], ?_, List.getElem?_eq_getElem hk⟩
  rw [List.getElem?_zip_eq_some, List.getElem?_zip_eq_some]
  exact ⟨List.getElem?_eq_getElem hk, ha, hu⟩
theorem tp_addrs {K : PySem.W.Frag} {H : Hp} : ∀ {vs : List V} {ks : List NestedKey}, TpAll K H vs ks → (∀ k ∈ ks, ∃ ls, k = .tup ls) → ∃ as : List Addr, vs = as.map V.ref
  | _, _, .nil, _ => ⟨[], rfl⟩
  | _, _, .cons (k := k) h r, hk => by
    obtain ⟨ls, rfl⟩ := hk k List.mem_cons_self
    obtain ⟨a, _, rfl, _, _⟩ := h.inv
    obtain ⟨as, rfl⟩ := tp_addrs r fun x hx => hk x (List.mem_cons_of_mem _ hx)
    exact ⟨a :: as, rfl⟩
theorem refs_vals : ∀ {as : List Addr} {us : List Value}, Vals (as.map V.ref) us → us = as.map Value.ref
  | [], _, h => by cases h; rfl
  | a :: as, _, h => by
    cases h with
    | cons h r =>
      rw [refs_vals r]
      cases h
      rfl
section
variable {X : Cx}
/-- dict(zip(a, b)): a a list or tuple of unlike tuples, b of as many values -/
def tDictZip (P : Program) (w : World) (K : PySem.W.Frag) (ta : TA) : TE := fun σ H Q => ta σ H fun xs H1 => ∃ a b vs1 ks vs2, xs = [.ref a, .ref b] ∧ (SqL K H1 a vs1 ∨ SqT K H1 a vs1) ∧ (SqL K H1 b vs2 ∨ SqT K H1 b vs2) ∧ TpAll K H1 vs1 ks ∧
  (∀ k ∈ ks, (∃ ls, k = .tup ls) ∧ k.depth ≤ 8) ∧ ks.Nodup ∧ ks.length = vs2.length ∧ ∀ d o, H1 d = none → ND P w K (upd H1 d o) d (ks.zip vs2) → Q (.ref d) (upd H1 d o)
theorem pe_dictzip {e1 e2 : Expr} {ta : TA} {p1 p2 q1 q2 : Pos} (hc : X.calm = true) (hu : X.A.units + 65 < cLine) (hg : Gl X "dict") (hm : X.mg "dict" = none) (hgz : Gl X "zip") (hmz : X.mg "zip" = none) (ha : PA X [e1, e2] ta)
    (hs : starEach [e1, e2] X.env = (false, eval e1 X.env) :: starEach [e2] X.env := by rfl) (hpl : (backTo q2 (starEach [e2] X.env)).any (·.1) = false := by rfl)
    (hs1 : starEach [.Call (.Name "zip" p2) [e1, e2] [] q2] X.env = (false, eval (.Call (.Name "zip" p2) [e1, e2] [] q2) X.env) :: starEach [] X.env := by rfl) (hpl1 : (backTo q1 (starEach [] X.env)).any (·.1) = false := by rfl) :
    PE X (.Call (.Name "dict" p1) [.Call (.Name "zip" p2) [e1, e2] [] q2] [] q1) (tDictZip X.prog X.w X.K ta) := by
  refine ⟨fun pins s σ H Q I h => ?_⟩
  refine wpAny_Call_Name_kw (ld_blt (u := .type "dict") I hg hm (by decide +kernel) ?_)
  refine PyProof.Rows.callWith_type1 ?_ hs1 hpl1
  rw [hs1]
  refine Calls.spliced_cons (Call_ (ld_blt I hgz hmz PyProof.Rows.boot_zip (PyProof.Rows.callWith_type1 (thn (ha.run q2 pins s σ H _ I h) fun us s1 hh => ?_) hs hpl)))
  obtain ⟨xs, H1, I1, r1, a, b, vs1, ks, vs2, rfl, hq1, hq2, tp, hk, hn, hl, q⟩ := hh
  obtain ⟨u1, u2, rfl, ra, rb⟩ := Vals.two r1
  obtain rfl : u1 = Value.ref a := ra
  obtain rfl : u2 = Value.ref b := rb
  obtain ⟨its1, o1, G1, St1, rv1, S1, g1, la, hz1⟩ := src_of I1 hq1
  obtain ⟨its2, o2, G2, St2, rv2, S2, g2, lb, hz2⟩ := src_of I1 hq2
  obtain ⟨as, rfl⟩ := tp_addrs tp fun k hk' => (hk k hk').1
  obtain rfl := refs_vals rv1
  obtain ⟨N, hNn⟩ : ∃ N : Nat, s1.heap.objs.size = N := ⟨_, rfl⟩
  rw [hNn] at la lb
  have hla : ks.length = as.length := by have := tp.length; simpa using this.symm
  have hlu : vs2.length = its2.length := rv2.length
  refine zip_begins2 S1.beg S2.beg g1 g2 fun h' hz hTI hTO e1 e2 hsz hk' => ?_
  rw [hNn] at hz hTI hTO e1 e2 hsz
  rw [hNn]
  refine Calls.spliced_nil ?_
  have nea : a ≠ N := Nat.ne_of_lt la
  have neb : b ≠ N + 1 := Nat.ne_of_lt (Nat.lt_succ_of_lt lb)
  have Z : ZipSep2 (N + 4) (N + 2) (N + 3) N (N + 1) [N, a] [N + 1, b] := zip_sep2 (fp1 := [a]) (fp2 := [b]) (by simpa using la) (by simpa using lb)
  have Arg := zipArg (prog := X.prog) (w := X.w) Z (S1.drw N nea) (S2.drw (N + 1) neb) (S1.frm N) (S2.frm (N + 1)) (S1.liv N) (S2.liv (N + 1))
  have J := I1.kept (h' := h') (t' := s1.toks) hk'
  have hps : (ks.zip (as.zip its2)).length = min (as.map Value.ref).toArray.size its2.toArray.size := by
    simp only [List.length_zip, List.size_toArray, List.length_map]
    omega
  have tpk : ∀ h2 : Heap, (∀ c o, c ≠ N + 5 → c ∉ [N + 4, N + 3, N, N + 1] → h'.get? c = some o → h2.get? c = some o) → ∀ x ∈ ks.zip (as.zip its2), (nestedKind X.prog X.w).is h2 x.1 x.2.1 := by
    intro h2 k2 x hx
    obtain ⟨i, hi⟩ := List.mem_iff_getElem?.mp hx
    rw [List.getElem?_zip_eq_some, List.getElem?_zip_eq_some] at hi
    obtain ⟨i1, i2, i3⟩ := hi
    obtain ⟨v, hv, tv⟩ := tp.at i1
    rw [List.getElem?_map, i2] at hv
    cases hv
    have n0 := Tp.nested I1 x.1 _ _ tv (show RelV (V.ref x.2.1) (Value.ref x.2.1) from rfl)
    refine ⟨NestedIs.at (fun c o vs n e _ => ?_) _ _ n0, (hk x.1 (List.mem_of_getElem? i1)).2⟩
    have hlt : @LT.lt Nat _ c N := by rw [← hNn]; exact Heap.lt_size e
    exact k2 c o (old_ne hlt 5) (old_not hlt) (hk' c o e)
  refine call_dict_pairsH (s := { s1 with heap := h' }) (knd := nestedKind X.prog X.w) (ps := ks.zip (as.zip its2)) Arg (I1.ok.hd hc) (by show X.A.units + 1 + 1 + 8 < cLine; omega)
    ⟨hz, hTI, ⟨_, _, hTO⟩, S1.ini N h' e1 (S1.beg.keeps _ _ g1 hk'), S2.ini (N + 1) h' e2 (S2.beg.keeps _ _ g2 hk')⟩ ⟨hps, fun i key v hr => ?_⟩ (by rw [show ({ s1 with heap := h' } : Shared).heap.objs.size = N + 5 from hsz]; exact tpk) ?_ fun h2 tk dd k2 => ?_
  · obtain ⟨r1', r2'⟩ := hr
    simp only [List.getElem?_toArray, List.getElem?_map] at r1' r2'
    cases ea : as[i]? with
    | none => rw [ea] at r1'; cases r1'
    | some c =>
      rw [ea] at r1'
      cases r1'
      obtain ⟨k, hk1, _⟩ := zip3_get (ks := ks) hla ea r2'
      exact ⟨k, c, hk1, rfl⟩
  · rw [← hps]
    simp only [List.length_zip]
    omega
  · have hsz' : ({ s1 with heap := h' } : Shared).heap.objs.size = N + 5 := hsz
    rw [hsz'] at dd ⊢
    rw [storedAllH_nil_of_nodup _ (by rw [keys_zip ks as its2 hla (by omega)]; exact hn)] at dd
    obtain ⟨o, es, ep, ho, hx, hd, he, his, hnd⟩ := dd
    have old : ∀ c o, s1.heap.get? c = some o → h2.get? c = some o := fun c o e => by
      have hlt : @LT.lt Nat _ c N := by rw [← hNn]; exact Heap.lt_size e
      exact k2 c o (old_not hlt) (hk' c o e)
    have hfree : H1 (N + 5) = none := I1.hok.fresh (by rw [hNn]; exact Nat.le_add_right N 5)
    have JJ : Inv X pins σ (upd H1 (N + 5) (EK X.prog X.w (N + 5) (ks.zip (as.zip vs2)))) { s1 with heap := h2, toks := tk } :=
      I1.laid old (by rw [hNn]; exact Nat.le_add_right N 5) (EK_ok (er_zip ks as rv2) ho hx hd he hnd)
    refine ⟨.ref (N + 5), _, JJ, rfl, q (N + 5) _ hfree ⟨_, upd_same, ?_, ?_, fun x hx' => ?_, kv_zip ks as vs2 hla⟩⟩
    · simp only [List.length_zip]
      omega
    · refine beq_eq_false_iff_ne.mpr (Ne.symm (Nat.ne_of_lt ?_))
      have := I1.big
      rw [hNn] at this
      exact Nat.lt_of_lt_of_le this (Nat.le_add_right N 5)
    · obtain ⟨i, hi⟩ := List.mem_iff_getElem?.mp hx'
      rw [List.getElem?_zip_eq_some, List.getElem?_zip_eq_some] at hi
      obtain ⟨i1, i2, i3⟩ := hi
      obtain ⟨v, hv, tv⟩ := tp.at i1
      rw [List.getElem?_map, i2] at hv
      cases hv
      exact ⟨tv.up (Tx.new hfree), (hk x.1 (List.mem_of_getElem? i1)).2⟩
end
end Tl

end
-- W5
section
set_option maxHeartbeats 200000
namespace Tl
open PySem PySem.Spec PyProof.Rows L2

section
variable {X : Cx}
def rTupP (K : PySem.W.Frag) : List V → Hp → VK → Prop := fun xs H Q => ∃ p ys, xs = [.ref p] ∧ SqL K H p ys ∧ ∀ l o, H l = none → PlT (upd H l o) l ys → Q (.ref l) (upd H l o)
theorem call_tuple_plain : CallR X (.type "tuple") (rTupP X.K) := by
  intro pins s σ H xs us Q I r h
  obtain ⟨p, ys, rfl, hq, q⟩ := h
  obtain ⟨u, rfl, rx⟩ := vals1 r
  cases rx
  obtain ⟨its, r', pl, hz⟩ := I.list hq
  have hlen := r'.length
  refine call_tuple_list pl.isList (fun h' kp => ?_) (by simp only [List.size_toArray] <;> omega)
  have I1 : Inv X pins σ H { s with heap := h' } := I.kept (t' := s.toks) kp
  have hf := I1.hok.fresh (Nat.le_refl h'.objs.size)
  have I2 : Inv X pins σ (upd H h'.objs.size (.frz { cls := .type "tuple", data := .seq its.toArray } (.tup ys))) { s with heap := h'.push { cls := .type "tuple", data := .seq its.toArray } } :=
    I1.laid (t' := s.toks) (fun b o e => Heap.get?_push_of_some _ e) (Nat.le_refl _) ⟨Heap.get?_push_size _ rfl, hz, its, r', IsTup.new _ _⟩
  exact ⟨.ref h'.objs.size, _, I2, rfl, q _ _ hf ⟨_, upd_same, rfl⟩⟩
theorem rows_of {pins : List (Addr × Obj)} {σ : L2.St} {H : Hp} {s : Shared} (I : Inv X pins σ H s) : ∀ {kvs : List (NestedKey × Int)} {vs : List V}, TpAll X.K H vs (kvs.map fun kv => .tup [kv.1, .num kv.2]) → (∀ kv ∈ kvs, ∃ ls, kv.1 = .tup ls) →
    ∃ (as bs : List Addr) (us : List Value), vs = as.map V.ref ∧ as.length = kvs.length ∧ bs.length = kvs.length ∧ Vals (kvs.map fun kv => V.int kv.2) us ∧ TpAll X.K H (bs.map V.ref) (kvs.map (·.1)) ∧
      ∀ (j : Nat) (a b : Addr) (u : Value), as[j]? = some a → bs[j]? = some b → us[j]? = some u → PairAt s.heap a (.ref b) u
  | [], vs, h, _ => by
    cases h
    exact ⟨[], [], [], rfl, rfl, rfl, .nil, .nil, fun j a b u h => by simp at h⟩
  | (k, n) :: kvs, vs, h, hk => by
    cases h with
    | cons h r =>
      obtain ⟨as, bs, us, e1, e2, e3, e4, e5, e6⟩ := rows_of I r fun x hx => hk x (List.mem_cons_of_mem _ hx)
      obtain ⟨a, xs, rfl, hs, hr⟩ := h.inv
      cases hr with
      | cons h1 r1 =>
        cases r1 with
        | cons h2 r2 =>
          cases r2
          obtain ⟨ls, hls⟩ := hk (k, n) List.mem_cons_self
          simp only at hls
          subst hls
          obtain ⟨b, _, rfl, _, _⟩ := h1.inv
          have en := h2.num
          subst en
          obtain ⟨its, rv, ht, _⟩ := I.tuple hs
          obtain ⟨u1, u2, rfl, rb, ru⟩ := Vals.two rv
          obtain rfl : u1 = Value.ref b := rb
          refine ⟨a :: as, b :: bs, u2 :: us, by rw [e1]; rfl, by simp [e2], by simp [e3], .cons ru e4, .cons h1 e5, fun j a' b' u' ha hb hu => ?_⟩
          cases j with
          | zero =>
            simp at ha hb hu
            subst ha hb hu
            exact .inl ht
          | succ j =>
            simp at ha hb hu
            exact e6 j a' b' u' ha hb hu
/-- dict(a tuple of rows (key, number)) -/
def rDictP (P : Program) (w : World) (K : PySem.W.Frag) : List V → Hp → VK → Prop := fun xs H Q => ∃ a vs, ∃ kvs : List (NestedKey × Int), xs = [.ref a] ∧ PlT H a vs ∧ TpAll K H vs (kvs.map fun kv => .tup [kv.1, .num kv.2]) ∧ (∀ kv ∈ kvs, (∃ ls, kv.1 = .tup ls) ∧ kv.1.depth ≤ 8) ∧
  (kvs.map (·.1)).Nodup ∧ ∀ d o, H d = none → ND P w K (upd H d o) d (kvs.map fun kv => (kv.1, V.int kv.2)) → Q (.ref d) (upd H d o)
theorem call_dict_plain (hc : X.calm = true) (hu : X.A.units + 65 < cLine) : CallR X (.type "dict") (rDictP X.prog X.w X.K) := by
  intro pins s σ H xs us Q I r h
  obtain ⟨a, vs, kvs, rfl, hP, tp, hk, hn, q⟩ := h
  obtain ⟨u, rfl, rx⟩ := vals1 r
  cases rx
  obtain ⟨o, ho, hod⟩ := id hP
  obtain ⟨hget, hz, its0, rv0, ht0⟩ := (show ObjOk X.prog X.w H s.heap a (.frz o (.tup vs)) from I.hok a _ ho)
  obtain ⟨o', ho', hoc, n, hd⟩ := ht0
  rw [hget] at ho'; cases ho'
  obtain ⟨as, bs, us, rfl, l1, l2, ru, tb, hp⟩ := rows_of I tp fun kv h => (hk kv h).1
  obtain rfl := refs_vals rv0
  have l3 : us.length = kvs.length := by have := ru.length; simpa using this.symm
  have hz' : kvs.length ≤ sizeLine := by simpa [l1] using hz
  have PA := PairArg.tuple (prog := X.prog) (w := X.w) a (as.map Value.ref).toArray (fun j => as.getD j 0) ((bs.map Value.ref).zip us)
  have lz : ((bs.map Value.ref).zip us).length = kvs.length := by simp [l2, l3]
  have bk : (kvs.map (·.1)).length = bs.length := by simp [l2]
  have bu : (kvs.map (·.1)).length = us.length := by simp [l3]
  have tpk : ∀ h2 : Heap, (∀ b o, b ≠ s.heap.objs.size → b ∉ ([] : List Addr) → s.heap.get? b = some o → h2.get? b = some o) → ∀ x ∈ (kvs.map (·.1)).zip (bs.zip us), (nestedKind X.prog X.w).is h2 x.1 x.2.1 := by
    intro h2 k2 x hx
    obtain ⟨i, hi⟩ := List.mem_iff_getElem?.mp hx
    rw [List.getElem?_zip_eq_some, List.getElem?_zip_eq_some] at hi
    obtain ⟨i1, i2, i3⟩ := hi
    obtain ⟨v, hv, tv⟩ := tb.at i1
    rw [List.getElem?_map, i2] at hv
    cases hv
    have n0 := Tp.nested I x.1 _ _ tv (show RelV (V.ref x.2.1) (Value.ref x.2.1) from rfl)
    obtain ⟨kv, hkv, ekv⟩ := List.mem_map.mp (List.mem_of_getElem? i1)
    refine ⟨NestedIs.at (fun c o vs n e _ => k2 c o (Nat.ne_of_lt (Heap.lt_size e)) (fun z => nomatch z) e) _ _ n0, ?_⟩
    rw [← ekv]
    exact (hk kv hkv).2
  refine call_dict_pairsH (knd := nestedKind X.prog X.w) (ps := ((kvs.map (fun kv : NestedKey × Int => kv.1)).zip (bs.zip us) : List (NestedKey × Addr × Value))) PA (I.ok.hd hc) (by show X.A.units + 1 + 1 + 8 < cLine; omega)
    ⟨⟨o, n, hget, hoc, hod, hd⟩, by simp [l1, l2, l3], fun j k v hj => ?_⟩ ⟨by simp [l2, l3], fun i key v hr => ?_⟩ tpk (by rw [lz]; exact hz') fun h2 tk dd k2 => ?_
  · rw [List.getElem?_zip_eq_some, List.getElem?_map] at hj
    obtain ⟨j1, j2⟩ := hj
    obtain ⟨b, hb, rfl⟩ := Option.map_eq_some_iff.mp j1
    have hj' : j < as.length := by have := (List.getElem?_eq_some_iff.mp hb).1; omega
    have ha : as[j]? = some as[j] := List.getElem?_eq_getElem hj'
    have eg : as.getD j 0 = as[j] := by simp [List.getD, ha]
    show (as.map Value.ref).toArray[j]? = some (Value.ref (as.getD j 0)) ∧ PairAt s.heap (as.getD j 0) (Value.ref b) v
    rw [eg]
    refine ⟨by simp [ha], hp j _ b v ha hb j2⟩
  · rw [PairRel, List.getElem?_zip_eq_some, List.getElem?_map] at hr
    obtain ⟨j1, j2⟩ := hr
    obtain ⟨b, hb, rfl⟩ := Option.map_eq_some_iff.mp j1
    obtain ⟨k, hk1, _⟩ := zip3_get (ks := kvs.map (·.1)) bk hb j2
    exact ⟨k, b, hk1, rfl⟩
  · rw [storedAllH_nil_of_nodup _ (by rw [keys_zip _ bs us bk bu]; exact hn)] at dd
    obtain ⟨o2, es, ep, ho2, hx2, hd2, he2, his, hnd⟩ := dd
    have hfree := I.hok.fresh (Nat.le_refl s.heap.objs.size)
    have JJ : Inv X pins σ (upd H s.heap.objs.size (EK X.prog X.w s.heap.objs.size ((kvs.map (·.1)).zip (bs.zip (kvs.map fun kv => V.int kv.2))))) { s with heap := h2, toks := tk } :=
      I.laid (fun b o e => k2 b o (fun z => nomatch z) e) (Nat.le_refl _) (EK_ok (er_zip _ bs ru) ho2 hx2 hd2 he2 hnd)
    refine ⟨.ref s.heap.objs.size, _, JJ, rfl, q _ _ hfree ⟨_, upd_same, ?_, ?_, fun x hx' => ?_, ?_⟩⟩
    · simp [l2]; exact hz'
    · exact beq_eq_false_iff_ne.mpr (Ne.symm (Nat.ne_of_lt I.big))
    · obtain ⟨i, hi⟩ := List.mem_iff_getElem?.mp hx'
      rw [List.getElem?_zip_eq_some, List.getElem?_zip_eq_some] at hi
      obtain ⟨i1, i2, i3⟩ := hi
      obtain ⟨v, hv, tv⟩ := tb.at i1
      rw [List.getElem?_map, i2] at hv
      cases hv
      obtain ⟨kv, hkv, ekv⟩ := List.mem_map.mp (List.mem_of_getElem? i1)
      exact ⟨tv.up (Tx.new hfree), by rw [← ekv]; exact (hk kv hkv).2⟩
    · rw [kv_zip _ bs _ bk]
      exact List.zip_map'
end
end Tl

end
-- W6
section
set_option maxHeartbeats 200000
namespace Tl
open PySem PySem.Spec PyProof.Rows L2

set_option maxHeartbeats 1000000 in
theorem meets_enum1 {v : Value} {o : Obj} {G : Heap → Prop} (B : Begins v o G) :
    Meets (Builtin.«enumerate.__new__» ⟨[.type "enumerate", v], []⟩) (fun _ R s => G s.heap ∧
      R (.ok (.ret (.ref (s.heap.push o).objs.size))) { s with heap := (s.heap.push o).push { cls := .type "enumerate", data := .fields #[.none, .bool false, .ref s.heap.objs.size, rawInt 0, .none, .none] } }) :=
  .of_wp fun prog w A R s h => by
    obtain ⟨hp, g, d, tk, os⟩ := s
    obtain ⟨h1, h⟩ := h
    have hsub := sub_enumerate
    have q1 : ∀ {A' : Around} {E : Value → Shared → Prop} {Q : Value → Shared → Prop}, Q (.ref hp.objs.size) ⟨hp.push o, g, d, tk, os⟩ → wpAny (model prog w) A' (pyIter v) Q E ⟨hp, g, d, tk, os⟩ :=
      fun q => B.iter prog w _ _ ⟨hp, g, d, tk, os⟩ _ h1 q
    wp_walk using q1
    refine wpAny_stack_any fun st => wpAny_pure ?_
    split
    · rename_i c _ _ _ _ _
      cases (c == Value.type "enumerate")
      · wp_walk using q1
        exact ⟨_, rfl, h⟩
      · wp_walk using q1
        exact ⟨_, rfl, h⟩
    · wp_walk using q1
      exact ⟨_, rfl, h⟩
section
variable {prog : Program} {w : World} {A : Around} {E : Value → Shared → Prop} {s : Shared}
theorem enum_begins1 {v : Value} {o : Obj} {G : Heap → Prop} {Q : Value → Shared → Prop} (B : Begins v o G) (h1 : G s.heap)
    (h : ∀ h', IsEnum h' (s.heap.objs.size + 1) s.heap.objs.size 0 .none → h'.get? s.heap.objs.size = some o → h'.objs.size = s.heap.objs.size + 2 →
      (∀ b o, s.heap.get? b = some o → h'.get? b = some o) → Q (.ref (s.heap.objs.size + 1)) { s with heap := h' }) :
    wpAny (model prog w) A (call (.type "enumerate") [v]) Q E s := by
  refine callType_new PySem.F.called_enumerate (by decide) (PySem.F.typeCall_enumerate_1 _) (PySem.F.newCall_enumerate_1 _) (fun obj => PySem.F.args_object_init_2 obj _) PySem.F.entry_enumerate_new
    (meets_enum1 B) ⟨h1, ?_⟩
  have hz : (s.heap.push o).objs.size = s.heap.objs.size + 1 := Heap.size_push ..
  show _ ∧ _
  rw [hz]
  have he : IsEnum ((s.heap.push o).push { cls := .type "enumerate", data := .fields #[.none, .bool false, .ref s.heap.objs.size, rawInt 0, .none, .none] }) (s.heap.objs.size + 1) s.heap.objs.size 0 .none := by
    have := Heap.get?_push_size (s.heap.push o) (o := { cls := .type "enumerate", data := .fields #[.none, .bool false, .ref s.heap.objs.size, rawInt 0, .none, .none] }) rfl
    rw [hz] at this; exact this
  exact ⟨⟨_, he, rfl⟩, h _ he (Heap.get?_push_of_some _ (Heap.get?_push_size _ B.free)) (by rw [Heap.size_push, hz]) fun b o x => Heap.get?_push_of_some _ (Heap.get?_push_of_some _ x)⟩
end
/-- the tuple at a, each item in a new pair with its place -/
def Itet (K : PySem.W.Frag) (a : Addr) : It :=
  ⟨fun i H => ∃ (xs : List V) (x : V), SqT K H a xs ∧ xs[i]? = some x, fun i H v H' => ∃ T x, v = .ref T ∧ H T = none ∧ H' = upd H T (.tup [.int (i : Nat), x]) ∧ ∀ xs, SqT K H a xs → xs[i]? = some x, fun i H => ∃ xs : List V, SqT K H a xs ∧ xs.length = i⟩
theorem turn_enumT {P : Program} {w : World} {K : PySem.W.Frag} {elts : List Expr} {kk : Nat} {tpos : Pos} (a e it : Addr) :
    Turn P w K (.Tuple elts kk tpos) (Itet K a) [e, it] e (fun i h => (∃ old, IsEnum h e it ((i : Nat) : Int) old) ∧ h.IsTupleIter it a i ∧ e ≠ it) where
  mem := by simp
  obj := fun i h st b hb => by
    obtain ⟨⟨old, he⟩, ⟨o, ho, hc, hd⟩, _⟩ := st
    have e' : b = e ∨ b = it := by simpa using hb
    rcases e' with z | z
    · rw [z]; exact ⟨_, he, fun v q => nomatch q⟩
    · rw [z]; exact ⟨o, ho, fun v q => by rw [hd] at q; cases q⟩
  keep := fun i h h' st k => let ⟨⟨old, he⟩, hi, hne⟩ := st; ⟨⟨old, k e (by simp) _ he⟩, hi.at fun o q => k it (by simp) o q, hne⟩
  item := by
    intro X hP hw hK hc i pins s σ H E I hf st hg
    subst hP hw hK
    obtain ⟨⟨old, he⟩, hit, hne⟩ := st
    obtain ⟨xs, x, hq, hx⟩ := hg
    obtain ⟨its, rv, p, hz⟩ := I.tuple hq
    obtain ⟨u, hu, ru⟩ := rv.get hx
    have pt : s.heap.IsTuple a its.toArray := p
    have hel : e < s.heap.objs.size := Heap.lt_size he
    have hil : it < s.heap.objs.size := by obtain ⟨_, q, _⟩ := hit; exact Heap.lt_size q
    have hai : a ≠ it := fun z => by
      subst z
      obtain ⟨o1, h1, c1, _⟩ := pt
      obtain ⟨o2, h2, c2, _⟩ := hit
      rw [h1] at h2; cases h2
      rw [c1] at c2
      injection c2 with c3
      exact absurd c3 (by decide)
    have hea : e ∉ [it, a] := fun hm => by
      have e' : e = it ∨ e = a := by simpa using hm
      rcases e' with z | z
      · exact hne z
      · subst z
        obtain ⟨o1, h1, c1, _⟩ := pt
        rw [he] at h1; cases h1
        have c1' : Value.type "enumerate" = Value.type "tuple" := c1
        injection c1' with c3
        exact absurd c3 (by decide)
    refine wpAny_pyNext_enum_itemD (n := its.toArray.size) (Draws.tuple (by exact I.ok.hd hc) it a hai its.toArray) he (⟨hit, pt⟩ : s.heap.IsTupleIter it a i ∧ s.heap.IsTuple a its.toArray) (by
      have := (List.getElem?_eq_some_iff.mp hu).1
      simpa using this) hne hea fun x' h' tk hx' ho hs' hT hsz hk => ?_
    have eu : x' = u := by
      have : its[i]? = some x' := by simpa using hx'
      rw [hu] at this
      exact (Option.some.inj this).symm
    subst eu
    refine ⟨_, rfl, wpAny_letOwnedTupleGo_enum (s := { s with heap := h', toks := tk + 1 }) ho fun h'' he' sb => ?_⟩
    have hT2 : h''.get? s.heap.objs.size = some { cls := .type "tuple", data := .seq #[.int i tk, x'] } := (sb.2 _ (Nat.ne_of_gt hel)).trans hT
    have new : ObjOk X.prog X.w (upd H s.heap.objs.size (.tup [.int (i : Nat), x])) h'' s.heap.objs.size (.tup [.int (i : Nat), x]) :=
      ⟨by show 2 ≤ sizeLine; decide, [.int i tk, x'], .cons ⟨_, rfl⟩ (.cons ru .nil), ⟨_, hT2, rfl, _, rfl⟩⟩
    have I1 : Inv X pins σ (upd H s.heap.objs.size (.tup [.int (i : Nat), x])) { s with heap := h'', toks := tk + 1 } :=
      I.turnedNew (ch := [e, it]) (fun b ob hb q => (sb.2 b (fun z => hb (by simp [z]))).trans (hk b ob (fun z => hb (by simp [z])) (fun z => hb (by simp [z])) q)) hf (Nat.le_refl _) new
    refine ⟨.ref s.heap.objs.size, _, I1, rfl, ⟨_, x, rfl, I.hok.fresh (Nat.le_refl _), rfl, fun ys hy => by rw [I.tuple_inj hy hq]; exact hx⟩, ⟨⟨x', ?_⟩, hs'.1.at fun o q => (sb.2 it (Ne.symm hne)).trans q, hne⟩, fun b hb => ?_⟩
    · have e1 : ((i + 1 : Nat) : Int) = (i : Int) + 1 := by omega
      rw [e1]; exact he'
    · have hb' : b < s.heap.objs.size := by
        have e' : b = e ∨ b = it := by simpa using hb
        rcases e' with z | z
        · rw [z]; exact hel
        · rw [z]; exact hil
      rw [upd_ne (Nat.ne_of_lt hb')]
      exact (hf b hb).1
  done := by
    intro X hP hw hK hc i pins s σ H E I hf st hg
    subst hP hw hK
    obtain ⟨⟨old, he⟩, hit, hne⟩ := st
    obtain ⟨xs, hq, hx⟩ := hg
    obtain ⟨its, rv, p, hz⟩ := I.tuple hq
    have pt : s.heap.IsTuple a its.toArray := p
    obtain ⟨f0, f1, f2, f3, f4, f5⟩ := hf it (by simp)
    have hl := rv.length
    have hai : a ≠ it := fun z => by
      subst z
      obtain ⟨o1, h1, c1, _⟩ := pt
      obtain ⟨o2, h2, c2, _⟩ := hit
      rw [h1] at h2; cases h2
      rw [c1] at c2
      injection c2 with c3
      exact absurd c3 (by decide)
    have D0 := Draws.tuple (prog := X.prog) (w := X.w) (A := X.A.in1) (by exact I.ok.hd hc) it a hai its.toArray
    have ei : i = its.toArray.size := by simp; omega
    subst ei
    exact wpAny_pyNext_enum_endD D0 he (⟨hit, pt⟩ : s.heap.IsTupleIter it a its.toArray.size ∧ s.heap.IsTuple a its.toArray) fun h' eb => ⟨rfl, I.turned (t' := s.toks) (fun b o hb q => eb b o hb q) f0 f1 f3 f4 f5⟩
  self := fun A i s Q E st h => let ⟨⟨_, he⟩, _⟩ := st; wpAny_pyIter_enum he h
def iEnumT (K : PySem.W.Frag) (ta : TA) : TI := fun σ H R => ta σ H fun vs H1 => ∃ a xs, vs = [.ref a] ∧ SqT K H1 a xs ∧ R (Itet K a) H1
theorem pi_enumT {X : Cx} {e : Expr} {ta : TA} {p pos tpos : Pos} {elts : List Expr} {kk : Nat} (hg : Gl X "enumerate") (hm : X.mg "enumerate" = none) (ha : PA X [e] ta) (hs : starEach [e] X.env = [(false, eval e X.env)] := by rfl) :
    PI X (.Tuple elts kk tpos) (.Call (.Name "enumerate" p) [e] [] pos) (iEnumT X.K ta) := by
  refine ⟨fun pins s σ H R I h => ?_⟩
  refine Call_ (ld_blt I hg hm PyProof.Rows.boot_enumerate (PyProof.Rows.callWith_type1 (thn (ha.run pos pins s σ H _ I h) fun us s1 hh => ?_) hs rfl))
  obtain ⟨vs, H1, I1, r1, a, xs, rfl, hq, q⟩ := hh
  obtain ⟨u, rfl, rx⟩ := r1.one
  obtain rfl : u = Value.ref a := rx
  obtain ⟨its, rv, p', hz⟩ := I1.tuple hq
  refine enum_begins1 (begins_tuple a its.toArray) (show s1.heap.IsTuple a its.toArray from p') fun h' he hit hsz hk => wpAny_pyIter_enum he ?_
  have I2 : Inv X pins σ H1 { s1 with heap := h' } := I1.kept (t' := s1.toks) hk
  refine ⟨s1.heap.objs.size + 1, [s1.heap.objs.size + 1, s1.heap.objs.size], _, _, H1, rfl, I2, turn_enumT a (s1.heap.objs.size + 1) s1.heap.objs.size, ⟨⟨.none, he⟩, ⟨_, hit, rfl, rfl⟩, Nat.succ_ne_self _⟩, fun b hb => ?_, q⟩
  have e' : b = s1.heap.objs.size + 1 ∨ b = s1.heap.objs.size := by simpa using hb
  have hle : s1.heap.objs.size ≤ b := by
    rcases e' with z | z
    · rw [z]; exact Nat.le_add_right _ _
    · rw [z]; exact Nat.le_refl _
  exact I1.fpOk hle (I1.hok.fresh hle)
theorem walk_enumT {K : PySem.W.Frag} {a : Addr} {xs : List V} : Walk (Itet K a) xs.length (fun H => SqT K H a xs) (YPair (fun i => some (.int (i : Nat))) (fun i => xs[i]?)) := by
  refine ⟨fun i _ hi q => ⟨xs, xs[i], q, by simp [hi]⟩, fun _ q => ⟨xs, q, rfl⟩, fun i H v H' _ q y => ?_⟩
  obtain ⟨T, x, h1, h2, h3, h4⟩ := y
  exact ⟨T, .int (i : Nat), x, h1, h2, h3, rfl, h4 xs q⟩
end Tl

end
-- W7
section
set_option maxHeartbeats 200000
/-! rules for nested data: every tuple plain, for good -/
namespace Tl
open PySem PySem.Spec PyProof.Rows L2

theorem Same.upd {H : Hp} {p : Addr} {o : HO} (h : H p = none) : Same H (L2.upd H p o) := fun b x e => by
  rw [upd_ne (ne_of_none e h)]; exact e
theorem Tp.same {K : PySem.W.Frag} {H H' : Hp} {k : NestedKey} {v : V} (h : Tp K H v k) (s : Same H H') : Tp K H' v k := h.up (Tx.same s)
theorem TpAll.same {K : PySem.W.Frag} {H H' : Hp} {ks : List NestedKey} {vs : List V} (h : TpAll K H vs ks) (s : Same H H') : TpAll K H' vs ks := h.up (Tx.same s)
/-- a new tuple of the data ks, or an old one: what follows -/
def Nw (K : PySem.W.Frag) (H : Hp) (Q : VK) (k : NestedKey) : Prop := ∀ v H', Same H H' → Tp K H' v k → Q v H'
section
variable {X : Cx}
theorem Nw.lay {H : Hp} {Q : VK} {ks : List NestedKey} {xs : List V} {pins : List (Addr × Obj)} {σ : L2.St} {s : Shared} {its : List Value} (I : Inv X pins σ H s) (hk : TpAll X.K H xs ks) (r : Vals xs its) (hz : xs.length ≤ sizeLine) (q : Nw X.K H Q (.tup ks)) :
    EP X pins σ Q (.ref s.heap.objs.size) { s with heap := s.heap.push { cls := .type "tuple", data := .seq its.toArray } } := by
  have hf := I.hok.fresh (Nat.le_refl s.heap.objs.size)
  have I2 : Inv X pins σ (L2.upd H s.heap.objs.size (.frz { cls := .type "tuple", data := .seq its.toArray } (.tup xs))) { s with heap := s.heap.push { cls := .type "tuple", data := .seq its.toArray } } :=
    I.laid (t' := s.toks) (fun b o e => Heap.get?_push_of_some _ e) (Nat.le_refl _) ⟨Heap.get?_push_size _ rfl, hz, its, r, IsTup.new _ _⟩
  have sm : Same H (L2.upd H s.heap.objs.size (.frz { cls := .type "tuple", data := .seq its.toArray } (.tup xs))) := Same.upd hf
  exact ⟨.ref s.heap.objs.size, _, I2, rfl, q _ _ sm (.tup ⟨_, upd_same, rfl⟩ (hk.same sm))⟩
/-- (a, b, ..) -/
def tTupN (K : PySem.W.Frag) (t : TA) : TE := fun σ H Q => t σ H fun xs H1 => xs.length ≤ 1000 ∧ ∃ ks, TpAll K H1 xs ks ∧ Nw K H1 Q (.tup ks)
theorem thousand {n : Nat} (h : n ≤ 1000) : n ≤ sizeLine := Nat.le_trans h (by decide)
theorem pe_tupN {es : List Expr} {t : TA} {x1 : Nat} {pos : Pos} (h : PA X es t) : PE X (.Tuple es x1 pos) (tTupN X.K t) := by
  refine ⟨fun pins s σ H Q I hq => ?_⟩
  refine wpAny_Tuple_spliced (thn (h.run pos pins s σ H _ I hq) fun us s1 ⟨xs, H1, I1, r, z, ks, hk, q⟩ => ⟨by rw [← r.length]; exact thousand z, ?_⟩)
  exact Nw.lay I1 hk r (thousand z) q
/-- t + u -/
def rCatN (K : PySem.W.Frag) : R2 := fun x y H Q => ∃ ks ls, Tp K H x (.tup ks) ∧ Tp K H y (.tup ls) ∧ ks.length + ls.length ≤ 1000 ∧ Nw K H Q (.tup (ks ++ ls))
theorem op_catN : OpR X (binaryOp .Add) (rCatN X.K) := by
  intro pins s σ H x y v u Q I rx ry h
  obtain ⟨ks, ls, hx, hy, hz, q⟩ := h
  obtain ⟨a, xs, rfl, ha, hk⟩ := hx.inv
  obtain ⟨b, ys, rfl, hb, hl⟩ := hy.inv
  cases rx
  cases ry
  obtain ⟨its, r1, p1, _⟩ := I.tuple ha
  obtain ⟨its2, r2, p2, _⟩ := I.tuple hb
  have e1 := r1.length
  have e2 := r2.length
  have e3 := hk.length
  have e4 := hl.length
  by_cases h0 : its = []
  · subst h0
    have e5 : ks = [] := List.eq_nil_of_length_eq_zero (by rw [← e3, e1]; rfl)
    subst e5
    exact cat_tup0 p1 p2 ⟨.ref b, H, I, rfl, q _ _ (fun _ _ e => e) hy⟩
  · refine HT.cat_tup p1 p2 h0 (fun h2 => ?_) (fun _ => Nw.lay I (hk.append hl) (r1.append r2) (thousand (by rw [List.length_append]; omega)) q) (thousand (by omega))
    have e5 : ls = [] := List.eq_nil_of_length_eq_zero (by rw [← e4, e2, h2]; rfl)
    subst e5
    rw [List.append_nil] at q
    exact ⟨.ref a, H, I, rfl, q _ _ (fun _ _ e => e) hx⟩
/-- t[lo:hi] -/
def rSlN (K : PySem.W.Frag) : V → Option Int → Option Int → Hp → VK → Prop := fun x lo hi H Q => ∃ ks, Tp K H x (.tup ks) ∧ Nw K H Q (.tup (cutN ks lo hi))
theorem cut_whole {α : Type} {xs : List α} {lo hi : Option Int} (h : HT.sIx xs.length 0 lo = 0 ∧ HT.sIx xs.length xs.length hi = xs.length) : cutN xs lo hi = xs := by
  unfold cutN; rw [h.1, h.2]; simp
theorem sl_tupN : SlR X (rSlN X.K) := by
  intro pins s σ H x v vl vu lo hi sl Q I rx hs pl pu h
  obtain ⟨ks, hx, q⟩ := h
  obtain ⟨a, xs, rfl, ha, hk⟩ := hx.inv
  cases rx
  obtain ⟨its, r, ht, hz⟩ := I.tuple ha
  have hlen : its.toArray.size = xs.length := by rw [List.size_toArray]; exact r.length.symm
  refine ⟨"tuple", _, PyProof.Rows.slot_tuple_getitem.lookup, ht.typeIs, ?_⟩
  by_cases hw : HT.sIx xs.length 0 lo = 0 ∧ HT.sIx xs.length xs.length hi = xs.length
  · rw [cut_whole (by rw [← hk.length]; exact hw)] at q
    exact getItem_tuple_whole ht hs pl pu (by rw [hlen]; exact hw) ⟨.ref a, H, I, rfl, q _ _ (fun _ _ e => e) hx⟩
  · refine HT.getItem_tuple_cut ht hs pl pu (by rw [hlen]; exact hw) ?_ (by rw [hlen]; exact hz)
    rw [hlen]
    refine Nw.lay (xs := cutV xs lo hi) I (hk.cut lo hi) ((r.drop (HT.sIx xs.length 0 lo)).take (HT.sIx xs.length xs.length hi - HT.sIx xs.length 0 lo)) (Nat.le_trans (cutV_length xs lo hi) hz) q
/-- tuple(list) -/
def rTupN (K : PySem.W.Frag) : List V → Hp → VK → Prop := fun xs H Q => ∃ p ys ks, xs = [.ref p] ∧ SqL K H p ys ∧ TpAll K H ys ks ∧ Nw K H Q (.tup ks)
theorem call_tupN : CallR X (.type "tuple") (rTupN X.K) := by
  intro pins s σ H xs us Q I r h
  obtain ⟨p, ys, ks, rfl, hq, hk, q⟩ := h
  obtain ⟨u, rfl, rx⟩ := vals1 r
  cases rx
  obtain ⟨its, r', pl, hz⟩ := I.list hq
  have hlen := r'.length
  refine call_tuple_list pl.isList (fun h' kp => ?_) (by simp only [List.size_toArray] <;> omega)
  have I1 : Inv X pins σ H { s with heap := h' } := I.kept (t' := s.toks) kp
  exact Nw.lay I1 hk r' hz q
/-- t[i] -/
def rIxN (K : PySem.W.Frag) : R2 := fun x y H Q => ∃ ks i k, Tp K H x (.tup ks) ∧ y = .int i ∧ atI ks i = some k ∧ ∀ v, Tp K H v k → Q v H
theorem atI_tp {K : PySem.W.Frag} {H : Hp} {vs : List V} {ks : List NestedKey} {i : Int} {k : NestedKey} (h : TpAll K H vs ks) (e : atI ks i = some k) : ∃ v, atI vs i = some v ∧ Tp K H v k := by
  unfold atI at e ⊢
  rw [h.length]
  cases q : ixN ks.length i with
  | none => rw [q] at e; cases e
  | some j => rw [q] at e; exact h.at e
theorem ix_tupN : IxR X (rIxN X.K) := by
  intro value slice pins s σ H x y v u Q I rx ry h hs
  obtain ⟨ks, i, k, hx, rfl, he, q⟩ := h
  obtain ⟨a, xs, rfl, ha, hk⟩ := hx.inv
  obtain ⟨z, ez, hz⟩ := atI_tp hk he
  exact ix_tup value slice pins s σ H _ _ v u Q I rx ry ⟨a, xs, i, z, rfl, rfl, ha, ez, q z hz⟩ hs
/-- l[i] -/
def rIxLN (K : PySem.W.Frag) : R2 := fun x y H Q => ∃ p vs ks i k, x = .ref p ∧ SqL K H p vs ∧ TpAll K H vs ks ∧ y = .int i ∧ atI ks i = some k ∧ ∀ v, Tp K H v k → Q v H
theorem ix_listN : IxR X (rIxLN X.K) := by
  intro value slice pins s σ H x y v u Q I rx ry h hs
  obtain ⟨p, vs, ks, i, k, rfl, hp, hk, rfl, he, q⟩ := h
  obtain ⟨z, ez, hz⟩ := atI_tp hk he
  exact ix_list value slice pins s σ H _ _ v u Q I rx ry ⟨p, vs, i, z, rfl, rfl, hp, ez, q z hz⟩ hs
/-! points -/
def kPt (p : Pt) : NestedKey := .tup [.num p.1, .num p.2]
def kE (e : E2) : NestedKey := .tup [kPt e.1, kPt e.2]
def kT (t : T3) : NestedKey := .tup [kPt t.1, kPt t.2.1, kPt t.2.2]
def kF (f : List Pt) : NestedKey := .tup (f.map kPt)
def kM (M : List T3) : NestedKey := .tup (M.map kT)
theorem kPt_inj {a b : Pt} (h : kPt a = kPt b) : a = b := by
  unfold kPt at h; injection h with h; injection h with h1 h; injection h with h2 h; injection h1 with h1; injection h2 with h2
  exact pt_ext h1 h2
theorem map_inj {α β : Type} {f : α → β} (hf : ∀ a b, f a = f b → a = b) : ∀ {l m : List α}, l.map f = m.map f → l = m
  | [], [], _ => rfl
  | [], _ :: _, h => by simp at h
  | _ :: _, [], h => by simp at h
  | a :: l, b :: m, h => by
    rw [List.map_cons, List.map_cons] at h
    injection h with h1 h2
    rw [hf _ _ h1, map_inj hf h2]
theorem kF_inj {f g : List Pt} (h : kF f = kF g) : f = g := by
  unfold kF at h; injection h with h; exact map_inj (fun _ _ => kPt_inj) h
theorem kE_inj {a b : E2} (h : kE a = kE b) : a = b := by
  unfold kE at h; injection h with h; injection h with h1 h; injection h with h2 h
  exact Prod.ext (kPt_inj h1) (kPt_inj h2)
theorem kT_inj {a b : T3} (h : kT a = kT b) : a = b := by
  unfold kT at h; injection h with h; injection h with h1 h; injection h with h2 h; injection h with h3 h
  exact Prod.ext (kPt_inj h1) (Prod.ext (kPt_inj h2) (kPt_inj h3))
theorem kPt_d (p : Pt) : (kPt p).depth ≤ 3 := depth_tup (n := 2) (fun k hk => by
  simp only [List.mem_cons, List.not_mem_nil, or_false] at hk
  rcases hk with rfl | rfl <;> (rw [NestedKey.depth]; decide))
theorem kF_d (f : List Pt) : (kF f).depth ≤ 4 := depth_tup (n := 3) (fun k hk => by
  obtain ⟨p, _, rfl⟩ := List.mem_map.mp hk; exact kPt_d p)
theorem kE_d (e : E2) : (kE e).depth ≤ 4 := depth_tup (n := 3) (fun k hk => by
  simp only [List.mem_cons, List.not_mem_nil, or_false] at hk
  rcases hk with rfl | rfl <;> exact kPt_d _)
theorem kT_d (t : T3) : (kT t).depth ≤ 4 := depth_tup (n := 3) (fun k hk => by
  simp only [List.mem_cons, List.not_mem_nil, or_false] at hk
  rcases hk with rfl | rfl | rfl <;> exact kPt_d _)
theorem kM_d (M : List T3) : (kM M).depth ≤ 5 := depth_tup (n := 4) (fun k hk => by
  obtain ⟨p, _, rfl⟩ := List.mem_map.mp hk; exact kT_d p)
/-- a < b of points -/
def rLtP (K : PySem.W.Frag) : R2 := fun x y H Q => ∃ a b, Tp K H x (kPt a) ∧ Tp K H y (kPt b) ∧ Q (.bl (decide (plt a b))) H
theorem pt_inv {K : PySem.W.Frag} {H : Hp} {v : V} {p : Pt} (h : Tp K H v (kPt p)) : ∃ a, v = .ref a ∧ SqT K H a ([p.1, p.2].map V.int) := by
  obtain ⟨a, xs, rfl, ha, hk⟩ := h.inv
  cases hk with | cons h1 hk => cases hk with | cons h2 hk => cases hk with | nil =>
  cases h1; cases h2
  exact ⟨a, rfl, ha⟩
theorem op_ltP (hu : X.A.units < cLine) : OpR X (compareOp .Lt) (rLtP X.K) := by
  intro pins s σ H x y v u Q I rx ry h
  obtain ⟨p, q, hx, hy, k⟩ := h
  obtain ⟨a, rfl, ha⟩ := pt_inv hx
  obtain ⟨b, rfl, hb⟩ := pt_inv hy
  refine op_ltT hu pins s σ H _ _ v u Q I rx ry ⟨a, b, _, _, rfl, rfl, ha, hb, ?_⟩
  have e : HT.lexLt [p.1, p.2] [q.1, q.2] = decide (plt p q) := by
    unfold HT.lexLt HT.lexLt HT.lexLt plt
    by_cases h1 : p.1 = q.1
    · by_cases h2 : p.2 = q.2
      · simp [h1, h2]
      · simp [h1, h2]
    · simp [h1]
  rw [e]; exact k
/-- == and != of two lists -/
def rEqL (K : PySem.W.Frag) (neg : Bool) : R2 := fun x y H Q => ∃ a b vs ws ks ls, x = .ref a ∧ y = .ref b ∧ SqL K H a vs ∧ SqL K H b ws ∧ TpAll K H vs ks ∧ TpAll K H ws ls ∧ (∀ k ∈ ks, k.depth ≤ 8) ∧ (∀ k ∈ ls, k.depth ≤ 8) ∧ Q (.bl (if neg then !decide (ks = ls) else decide (ks = ls))) H
theorem beq_list (ks ls : List NestedKey) : PyData.eqv (.list (NestedKey.datas ks)) (.list (NestedKey.datas ls)) = decide (ks = ls) := by
  have h : PyData.eqv (.list (NestedKey.datas ks)) (.list (NestedKey.datas ls)) = PyData.eqvAll (NestedKey.datas ks) (NestedKey.datas ls) := by simp [PyData.eqv]
  have h2 := eqv_dec (.tup ks) (.tup ls)
  have h3 : PyData.eqv (NestedKey.tup ks).data (NestedKey.tup ls).data = PyData.eqvAll (NestedKey.datas ks) (NestedKey.datas ls) := by simp [NestedKey.data, PyData.eqv]
  rw [h, ← h3, h2]
  simp
theorem op_eqL (hu : X.A.units + 64 < cLine) : OpR X (compareOp .Eq) (rEqL X.K false) := by
  intro pins s σ H x y v u Q I rx ry h
  obtain ⟨a, b, vs, ws, ks, ls, rfl, rfl, ha, hb, hk, hl, dk, dl, q⟩ := h
  refine op_eqD hu pins s σ H _ _ v u Q I rx ry ⟨_, _, .lst ha (TpAll.dp ks vs hk).1, .lst hb (TpAll.dp ls ws hl).1, shaped_list hk dk, shaped_list hl dl, ?_⟩
  rw [beq_list]; exact q
theorem op_neL (hu : X.A.units + 64 < cLine) : OpR X (compareOp .NotEq) (rEqL X.K true) := by
  intro pins s σ H x y v u Q I rx ry h
  obtain ⟨a, b, vs, ws, ks, ls, rfl, rfl, ha, hb, hk, hl, dk, dl, q⟩ := h
  refine op_neD hu pins s σ H _ _ v u Q I rx ry ⟨_, _, .lst ha (TpAll.dp ks vs hk).1, .lst hb (TpAll.dp ls ws hl).1, shaped_list hk dk, shaped_list hl dl, ?_⟩
  rw [beq_list]; exact q
/-- t.index(x) -/
def tIdx (K : PySem.W.Frag) (to : TE) (t : TA) : TE := fun σ H Q => to σ H fun x H1 => ∃ ks, Tp K H1 x (.tup ks) ∧ t σ H1 fun vs H2 => ∃ y k, vs = [y] ∧ Tp K H2 x (.tup ks) ∧ Tp K H2 y k ∧ k.depth ≤ 8 ∧ k ∈ ks ∧ Q (.int (ks.idxOf k : Nat)) H2
end
end Tl

end
-- W8
section
set_option maxHeartbeats 200000
/-! a tuple backwards; tuple.index; calls of the text's own defs by one fact each -/
namespace Tl
open PySem PySem.Spec PyProof.Rows L2
section
variable {prog : Program} {w : World} {A : Around} {E : Value → Shared → Prop} {s : Shared}
theorem adjust_rev (n : Nat) : Builtin.Slice.sliceAdjust none none (-1) (n : Int) = ((n : Int) - 1, -1) := rfl
theorem places_rev (n : Nat) : Builtin.Slice.slicePlaces ((n : Int) - 1) (-1) (-1) = n := by
  unfold Builtin.Slice.slicePlaces
  have h1 : ¬ ((-1 : Int) > 0) := by omega
  rw [if_neg h1, show (- -1 : Int) = 1 by decide, Int.ediv_one]
  split <;> omega
theorem sliceApplied_rev {sl : Addr} {vl vu vs : Value} {n : Nat} {Q : Int × Int × Nat → Shared → Prop} (hs : s.heap.IsSliceOf sl vl vu vs) (pl : IsPart vl none) (pu : IsPart vu none) (ps : IsPart vs (some (-1)))
    (h : Q ((n : Int) - 1, -1, n) s) : wpAny (model prog w) A (Builtin.Slice.sliceApplied (.ref sl) (pure (n : Int))) Q E s := by
  obtain ⟨os, hos, hcs, hds⟩ := id hs
  unfold Builtin.Slice.sliceApplied Builtin.Slice.sliceFields
  refine wpAny_bind (wpAny_bind (wpAny_field hos hds (x := vl) rfl (wpAny_bind (wpAny_field hos hds (x := vu) rfl (wpAny_bind (wpAny_field hos hds (x := vs) rfl (wpAny_pure ?_)))))))
  refine wpAny_bind (HT.slicePart_ ps ?_)
  show wpAny _ _ (if ((-1 : Int) == 0) = true then _ else _) _ _ s
  rw [if_neg (by decide)]
  refine wpAny_bind (HT.slicePart_ pl (wpAny_bind (HT.slicePart_ pu (wpAny_bind (wpAny_pure ?_)))))
  show wpAny _ _ (match Builtin.Slice.sliceAdjust none none (-1) (n : Int) with | (lo, hi) => pure (lo, (-1 : Int), Builtin.Slice.slicePlaces lo hi (-1))) _ _ s
  rw [adjust_rev]
  show wpAny _ _ (pure ((n : Int) - 1, (-1 : Int), Builtin.Slice.slicePlaces ((n : Int) - 1) (-1) (-1))) _ _ s
  rw [places_rev]
  exact wpAny_pure h
theorem pick_rev (xs : Array Value) : ((List.range xs.size).filterMap fun (m : Nat) => xs[(((xs.size : Nat) : Int) - 1 + (m : Int) * (-1)).toNat]?).toArray = xs.toList.reverse.toArray := by
  rw [← PySem.W.krv_pick]
  unfold slicePick
  rw [PySem.W.krv_bounds, PySem.W.krv_sliceRange, List.filterMap_map]
  congr 2
  funext m
  have : (((xs.size : Nat) : Int) - 1 + (m : Int) * (-1)).toNat = xs.size - 1 - m := by omega
  rw [this]; rfl
theorem getItem_tuple_rev {t sl : Addr} {items : Array Value} {vl vu vs : Value} {Q : Value → Shared → Prop} (ht : IsTup s.heap t items) (hs : s.heap.IsSliceOf sl vl vu vs) (pl : IsPart vl none) (pu : IsPart vu none) (ps : IsPart vs (some (-1)))
    (h : Q (.ref s.heap.objs.size) { s with heap := s.heap.push { cls := .type "tuple", data := .seq items.toList.reverse.toArray } })
    (hsz : items.size ≤ sizeLine) : wpAny (model prog w) A (getItem (.ref t) (.ref sl)) Q E s := by
  have htake : sizeOk (.seq items.toList.reverse.toArray) := by
    show items.toList.reverse.toArray.size ≤ sizeLine
    rw [List.size_toArray, List.length_reverse, Array.length_toList]
    exact hsz
  obtain ⟨os, hos, hcs, hds⟩ := id hs
  have hTs : s.TypeIs (.ref sl) "slice" := ⟨os, hos, hcs⟩
  unfold getItem
  try with_reducible refine wpAny_holding ?_
  first | refine wpAny_bind (wpAny_pure ?_) | skip
  refine wpAny_bind (wpAny_sequenceKey ht.typeIs (by decide) ?_)
  refine wpAny_bind (wpAny_callSpecial?_slot (name := Str.ofString "__getitem__") ht.typeIs PyProof.Rows.slot_tuple_getitem
    (wpAny_call_entry PyProof.Rows.slot_tuple_getitem ht.typeIs entry_tuple_getitem ?_ (args_tuple_getitem _ _)))
  show wpAny _ _ (Builtin.Tuple.tupleItemsOf (.ref t) >>= _) _ _ s
  refine wpAny_bind (tupleItemsOf_ ht ?_)
  refine wpAny_bind (wpAny_typeOf hTs ?_)
  rw [if_pos (by decide)]
  refine wpAny_bind (sliceApplied_rev hs pl pu ps ?_)
  have hno : ¬ (((((items.size : Nat) : Int) - 1) == 0 && (-1 : Int) == 1 && items.size == items.size) = true) := by
    intro q
    rw [Bool.and_eq_true, Bool.and_eq_true] at q
    exact absurd q.1.2 (by decide)
  show wpAny _ _ (if ((((items.size : Nat) : Int) - 1) == 0 && (-1 : Int) == 1 && items.size == items.size) = true then _ else _) _ _ s
  rw [if_neg hno, pick_rev]
  first
    | exact wpAny_bind (m := Builtin.Tuple.tupleExact _) (wpAny_newObj_type (wpAny_pure ⟨_, rfl, wpAny_pure h⟩) htake)
    | exact wpAny_bind (m := Builtin.Tuple.tupleExact _) (wpAny_newObj_type (wpAny_bind (wpAny_pure (wpAny_pure ⟨_, rfl, wpAny_pure h⟩))) htake)
    | exact wpAny_bind (wpAny_bind (m := Builtin.Tuple.tupleExact _) (wpAny_newObj_type (wpAny_pure (wpAny_pure ⟨_, rfl, wpAny_pure h⟩)) htake))
    | exact wpAny_bind (wpAny_bind (m := Builtin.Tuple.tupleExact _) (wpAny_newObj_type (wpAny_pure ⟨_, rfl, wpAny_pure h⟩) htake))
end
section
variable {X : Cx}
/-- t[::-1] -/
def tRevN (K : PySem.W.Frag) (te : TE) : TE := fun σ H Q => te σ H fun x H1 => ∃ ks, Tp K H1 x (.tup ks) ∧ Nw K H1 Q (.tup ks.reverse)
theorem pe_revN {e : Expr} {te : TE} {k : Nat} {p1 p2 p3 pos : Pos} (he : PE X e te) : PE X (.Subscript e (.Slice none none (some (.UnaryOp .USub (.Constant (.int 1) k p1) p2)) p3) pos) (tRevN X.K te) := by
  refine ⟨fun pins s σ H Q I h => ?_⟩
  refine Subscript_ (thn (he.run pins s σ H _ I h) fun v s1 ⟨x, H1, I1, r1, q1⟩ => ?_)
  obtain ⟨ks, hk, q⟩ := q1
  obtain ⟨a, xs, ex, hx, hxs⟩ := hk.inv
  subst ex
  cases r1
  have hst : PO X (some (.UnaryOp .USub (.Constant (.int 1) k p1) p2)) (tPart (tUn (rU fun i => .int (-i)) (tC (.int 1)))) := po_some (pe_un un_neg pe_int)
  refine wpAny_Slice (thn (po_none.run pins s1 σ H1 (fun o H2 => o = none ∧ H2 = H1) I1 ⟨rfl, rfl⟩) fun vl s2 ⟨l, H2, I2, pl, el, e2⟩ => ?_)
  subst el e2
  refine thn (po_none.run pins s2 σ H2 (fun o H3 => o = none ∧ H3 = H2) I2 ⟨rfl, rfl⟩) fun vu s3 ⟨u, H3, I3, pu, eu, e3⟩ => ?_
  subst eu e3
  refine thn (hst.run pins s3 σ H3 (fun o H4 => o = some (-1) ∧ H4 = H3) I3 ⟨1, rfl, -1, rfl, rfl, rfl⟩) fun vs s4 ⟨o, H4, I4, ps, eo, e4⟩ => ?_
  subst eo e4
  have I5 : Inv X pins σ H4 { s4 with heap := s4.heap.push { cls := .type "slice", data := .fields #[vl, vu, vs] } } := I4.kept (t' := s4.toks) fun b ob q => Heap.get?_push_of_some _ q
  obtain ⟨its, r, ht, hz⟩ := I5.tuple hx
  have hlen := r.length
  show wpAny (model X.prog X.w) X.A (subscriptTail e (.Slice none none (some (.UnaryOp .USub (.Constant (.int 1) k p1) p2)) p3) (.ref a) (.ref s4.heap.objs.size)) (EP X pins σ Q) X.xe { s4 with heap := s4.heap.push { cls := .type "slice", data := .fields #[vl, vu, vs] } }
  refine tail_any (ops := [.ref a, .ref s4.heap.objs.size]) ht.typeIs (PyProof.Rows.slot_tuple_getitem.lookup) ?_ (by with_unfolding_all rfl)
  refine getItem_tuple_rev ht (Heap.IsSliceOf.new _ vl vu vs) pl pu ps ?_ (by rw [List.size_toArray]; omega)
  exact Nw.lay (s := { s4 with heap := s4.heap.push { cls := .type "slice", data := .fields #[vl, vu, vs] } }) I5 hxs.rev r.reverse (by rw [List.length_reverse]; exact hz) q
/-- t.index(x) -/
theorem pe_idx {o e : Expr} {to : TE} {t : TA} {apos cpos : Pos} (hu : X.A.units + 65 < cLine) (ho : PE X o to) (ha : PA X [e] t)
    (hbase : attributeBase o "index" X.env (eval o X.env) = eval o X.env := by rfl)
    (hfew : ((backTo cpos (starEach [e] X.env)).all (fun x => !x.1) && (backToKw cpos (keywordEach [] X.env)).all (fun x => x.1.isSome)
      && decide ([e].length + ([] : List Keyword).length + (if ([] : List Keyword).isEmpty then 0 else 1) < 30)) = true := by rfl)
    (hline : (apos.endLine == cpos.line) = true := by rfl) (hs : starEach [e] X.env = (false, eval e X.env) :: starEach [] X.env := by rfl) (hplain : (backTo cpos (starEach [] X.env)).any (·.1) = false := by rfl) :
    PE X (.Call (.Attribute o "index" apos) [e] [] cpos) (tIdx X.K to t) := by
  refine ⟨fun pins s σ H Q I h => ?_⟩
  refine wpAny_Call_method_late hbase hfew hline rfl (thn (ho.run pins s σ H _ I h) fun v s1 ⟨x, H1, I1, r1, ks, hk, q1⟩ => ?_)
  obtain ⟨a, xs, rfl, hp, hxs⟩ := hk.invP
  cases r1
  obtain ⟨ob, hob, hd⟩ := id hp
  obtain ⟨its, r', ht, hz⟩ := I1.tuple (hp.sq (K := X.K))
  refine ⟨"tuple", "tuple.index", PySem.F.plainAttrs_tuple, PySem.F.slot_tuple_index, PySem.F.type_tuple_index, ht.typeIs, ?_, ?_⟩
  · intro c hc
    cases hc
    have x : ObjOk X.prog X.w H1 s1.heap a (.frz ob (.tup xs)) := I1.hok a _ hob
    exact ⟨ob, x.1, hd⟩
  · have hA := ha.run cpos pins s1 σ H1 _ I1 q1
    rw [hs] at hA ⊢
    refine Calls.callWith_builtin (by show (false || (backTo cpos (starEach [] X.env)).any (·.1)) = false; rw [hplain] <;> rfl) (Calls.evalArgs_plain ?_)
    refine thn hA fun us s2 ⟨vs, H2, I2, r2, y, k, ey, hk2, hy, hdp, hm, q2⟩ => ?_
    subst ey
    obtain ⟨b, ys, eb, hb, hys⟩ := hk2.inv
    cases eb
    exact mt_idxN hu pins s2 σ H2 (.ref a) [y] (.ref a) us Q I2 rfl r2 ⟨a, y, ys, k, ks, rfl, rfl, hb, hys, hy, hdp, hm, q2⟩
end
end Tl

end
-- W9
section
set_option maxHeartbeats 200000
/-! defs by one fact each; built-ins by one fact; the feed of the draws -/
namespace Tl
open PySem PySem.Spec PyProof.Rows L2

structure Cal (P : Program) (w : World) (K : PySem.W.Frag) (mg : Str → Option Value) (base : Heap) (CX : CXT) (x : Str) (k : Nat) (ps : List Str) (sp : Sp) : Prop where
  ex : ∃ f fd, FnOk P w K mg base CX k f fd ps sp ∧ mg x = some (.ref f) ∧ PySem.W.keepIn K (.ref f) = true ∧ Binds K fd ps []
structure Df (K : PySem.W.Frag) (mg : Str → Option Value) (x : Str) (st : Stmt) (ps : List Str) : Prop where
  ex : ∃ f fd, Fun K x x st f fd ∧ mg x = some (.ref f) ∧ Binds K fd ps []
structure Bi (mg : Str → Option Value) : Prop where
  len : mg "len" = none
  range : mg "range" = none
  sum : mg "sum" = none
  any : mg "any" = none
  all : mg "all" = none
  min : mg "min" = none
  abs : mg "abs" = none
  int : mg "int" = none
  bool : mg "bool" = none
  tuple : mg "tuple" = none
  list : mg "list" = none
  dict : mg "dict" = none
  zip : mg "zip" = none
  set : mg "set" = none
  sorted : mg "sorted" = none
  enumerate : mg "enumerate" = none
  isinstance : mg "isinstance" = none
  repr : mg "repr" = none
section
variable {P : Program} {w : World} {K : PySem.W.Frag} {mg : Str → Option Value} {base : Heap}
theorem Df.ok {x : Str} {st : Stmt} {N ps : List Str} {sp : Sp} (k : Nat) (D : Df K mg x st ps) (S : FnScope N ps (defScope st)) (len : ∀ vs H Q E, sp vs H Q E → vs.length = ps.length)
    (hbody : ∀ (f : Addr) (cdv : Value) (A : Around) (outer : List Env) (s : Shared) (H : Hp) (vs : List V) (Q : VK) (E : XK), Room k (A.deeper (envOfC x (defScope st) s.heap.objs.size f cdv)) → sp vs H Q E →
      ∃ t, PSs (cxOf CX0 P w K mg base N x (defScope st) f cdv A outer s H E).nox (defBody st) t ∧ t { nx := fun _ H' => Q .non H', rt := Q } (start N vs) H) : Cal P w K mg base CX0 x (k + 1) ps sp := by
  obtain ⟨f, fd, F, hm, hb⟩ := D.ex
  exact ⟨f, fd, F.ok S len (hbody f), hm, F.kp, hb⟩
end
section
variable {X : Cx} {CX : CXT} {k : Nat} {ps : List Str} {sp : Sp} {E : XK} {x : Str} {p pos : Pos} {e : Expr} {es : List Expr} {t : TA}
theorem pe_go (C : Cal X.prog X.w X.K X.mg X.base CX0 x k ps sp) (hr : Room k X.A) (ha : PA X (e :: es) t) (hg : Gl X x := by rfl) (hdb : (x == ("__debug__" : Str)) = false := by decide) (he : starEach (e :: es) X.env = (false, eval e X.env) :: starEach es X.env := by rfl)
    (hpl : (backTo pos (starEach es X.env)).any (·.1) = false := by rfl) : PE X (.Call (.Name x p) (e :: es) [] pos) (tCall sp [] E0 t) := by
  obtain ⟨f, fd, F, hm, hk, hb⟩ := C.ex
  exact pe_call F hr hg hm hk hb .nil pass0 ha hdb he hpl
/-! built-ins -/
def rLenT (K : PySem.W.Frag) : List V → Hp → VK → Prop := fun xs H Q => ∃ v ks, xs = [v] ∧ Tp K H v (.tup ks) ∧ Q (.int (ks.length : Nat)) H
def rLenL (K : PySem.W.Frag) : List V → Hp → VK → Prop := fun xs H Q => ∃ a vs, xs = [.ref a] ∧ SqL K H a vs ∧ Q (.int (vs.length : Nat)) H
theorem call_lenT : CallR X (.builtin "len") (rLenT X.K) := by
  intro pins s σ H xs us Q I r h
  obtain ⟨v, ks, rfl, hk, q⟩ := h
  obtain ⟨a, ys, rfl, ha, hy⟩ := hk.inv
  exact call_len_seq pins s σ H _ us Q I r ⟨a, ys, rfl, .inr ha, by rw [hy.length]; exact q⟩
theorem call_lenL : CallR X (.builtin "len") (rLenL X.K) := by
  intro pins s σ H xs us Q I r h
  obtain ⟨a, vs, rfl, hk, q⟩ := h
  exact call_len_seq pins s σ H _ us Q I r ⟨a, vs, rfl, .inl hk, q⟩
theorem boot_sum : bootBuiltins "sum" = some (.builtin "sum") := by decide +kernel
theorem boot_any : bootBuiltins "any" = some (.builtin "any") := by decide +kernel
theorem boot_all : bootBuiltins "all" = some (.builtin "all") := by decide +kernel
theorem boot_min : bootBuiltins "min" = some (.builtin "min") := by decide +kernel
theorem boot_abs : bootBuiltins "abs" = some (.builtin "abs") := by decide +kernel
theorem boot_int : bootBuiltins "int" = some (.type "int") := by decide +kernel
theorem boot_bool : bootBuiltins "bool" = some (.type "bool") := by decide +kernel
theorem boot_tuple : bootBuiltins "tuple" = some (.type "tuple") := by decide +kernel
theorem boot_list : bootBuiltins "list" = some (.type "list") := by decide +kernel
theorem boot_dict : bootBuiltins "dict" = some (.type "dict") := by decide +kernel
theorem boot_set : bootBuiltins "set" = some (.type "set") := by decide +kernel
theorem boot_sorted : bootBuiltins "sorted" = some (.builtin "sorted") := by decide +kernel
theorem boot_isi : bootBuiltins "isinstance" = some (.builtin "isinstance") := by decide +kernel
theorem boot_repr : bootBuiltins "repr" = some (.builtin "repr") := by decide +kernel
section
theorem pe_lenT (B : Bi X.mg) (ha : PA X (e :: es) t) (hg : Gl X "len" := by rfl) (he : starEach (e :: es) X.env = (false, eval e X.env) :: starEach es X.env := by rfl) (hpl : (backTo pos (starEach es X.env)).any (·.1) = false := by rfl) : PE X (.Call (.Name "len" p) (e :: es) [] pos) (tCB (rLenT X.K) t) := pe_callB call_lenT hg B.len PySem.boot_len ha (he := he) (hpl := hpl)
theorem pe_lenL (B : Bi X.mg) (ha : PA X (e :: es) t) (hg : Gl X "len" := by rfl) (he : starEach (e :: es) X.env = (false, eval e X.env) :: starEach es X.env := by rfl) (hpl : (backTo pos (starEach es X.env)).any (·.1) = false := by rfl) : PE X (.Call (.Name "len" p) (e :: es) [] pos) (tCB (rLenL X.K) t) := pe_callB call_lenL hg B.len PySem.boot_len ha (he := he) (hpl := hpl)
theorem pe_lenN (B : Bi X.mg) (ha : PA X (e :: es) t) (hg : Gl X "len" := by rfl) (he : starEach (e :: es) X.env = (false, eval e X.env) :: starEach es X.env := by rfl) (hpl : (backTo pos (starEach es X.env)).any (·.1) = false := by rfl) : PE X (.Call (.Name "len" p) (e :: es) [] pos) (tCB (rNLen X.prog X.w X.K) t) := pe_callB call_len_nd hg B.len PySem.boot_len ha (he := he) (hpl := hpl)
theorem pe_sum (B : Bi X.mg) (ha : PA X (e :: es) t) (hc : X.calm = true := by rfl) (hg : Gl X "sum" := by rfl) (he : starEach (e :: es) X.env = (false, eval e X.env) :: starEach es X.env := by rfl) (hpl : (backTo pos (starEach es X.env)).any (·.1) = false := by rfl) : PE X (.Call (.Name "sum" p) (e :: es) [] pos) (tCB (rSum X.K) t) := pe_callB (cr_sum hc) hg B.sum boot_sum ha (he := he) (hpl := hpl)
theorem pe_any (B : Bi X.mg) (ha : PA X (e :: es) t) (hc : X.calm = true := by rfl) (hg : Gl X "any" := by rfl) (he : starEach (e :: es) X.env = (false, eval e X.env) :: starEach es X.env := by rfl) (hpl : (backTo pos (starEach es X.env)).any (·.1) = false := by rfl) : PE X (.Call (.Name "any" p) (e :: es) [] pos) (tCB (rAny X.K) t) := pe_callB (cr_any hc) hg B.any boot_any ha (he := he) (hpl := hpl)
theorem pe_all (B : Bi X.mg) (ha : PA X (e :: es) t) (hc : X.calm = true := by rfl) (hg : Gl X "all" := by rfl) (he : starEach (e :: es) X.env = (false, eval e X.env) :: starEach es X.env := by rfl) (hpl : (backTo pos (starEach es X.env)).any (·.1) = false := by rfl) : PE X (.Call (.Name "all" p) (e :: es) [] pos) (tCB (rAll X.K) t) := pe_callB (cr_all hc) hg B.all boot_all ha (he := he) (hpl := hpl)
theorem pe_minL (B : Bi X.mg) (ha : PA X (e :: es) t) (hc : X.calm = true := by rfl) (hg : Gl X "min" := by rfl) (he : starEach (e :: es) X.env = (false, eval e X.env) :: starEach es X.env := by rfl) (hpl : (backTo pos (starEach es X.env)).any (·.1) = false := by rfl) : PE X (.Call (.Name "min" p) (e :: es) [] pos) (tCB (rMin X.K) t) := pe_callB (cr_min hc) hg B.min boot_min ha (he := he) (hpl := hpl)
theorem pe_min2 (B : Bi X.mg) (ha : PA X (e :: es) t) (hc : X.calm = true := by rfl) (hg : Gl X "min" := by rfl) (he : starEach (e :: es) X.env = (false, eval e X.env) :: starEach es X.env := by rfl) (hpl : (backTo pos (starEach es X.env)).any (·.1) = false := by rfl) : PE X (.Call (.Name "min" p) (e :: es) [] pos) (tCB (fun xs H Q => ∃ i j, xs = [.int i, .int j] ∧ Q (.int (if j < i then j else i)) H) t) := pe_callB (call_min2 hc) hg B.min boot_min ha (he := he) (hpl := hpl)
theorem pe_abs (B : Bi X.mg) (ha : PA X (e :: es) t) (hg : Gl X "abs" := by rfl) (he : starEach (e :: es) X.env = (false, eval e X.env) :: starEach es X.env := by rfl) (hpl : (backTo pos (starEach es X.env)).any (·.1) = false := by rfl) : PE X (.Call (.Name "abs" p) (e :: es) [] pos) (tCB (fun xs H Q => ∃ i, xs = [.int i] ∧ Q (.int (if i < 0 then -i else i)) H) t) := pe_callB call_abs hg B.abs boot_abs ha (he := he) (hpl := hpl)
theorem pe_intC (B : Bi X.mg) (ha : PA X (e :: es) t) (hg : Gl X "int" := by rfl) (he : starEach (e :: es) X.env = (false, eval e X.env) :: starEach es X.env := by rfl) (hpl : (backTo pos (starEach es X.env)).any (·.1) = false := by rfl) : PE X (.Call (.Name "int" p) (e :: es) [] pos) (tCB (fun xs H Q => (∃ i, xs = [.int i] ∧ Q (.int i) H) ∨ ∃ k, xs = [.bl k] ∧ Q (.int (if k then 1 else 0)) H) t) := pe_callTy call_int1 hg B.int boot_int ha (he := he) (hpl := hpl)
theorem pe_tupleC (B : Bi X.mg) (ha : PA X (e :: es) t) (hg : Gl X "tuple" := by rfl) (he : starEach (e :: es) X.env = (false, eval e X.env) :: starEach es X.env := by rfl) (hpl : (backTo pos (starEach es X.env)).any (·.1) = false := by rfl) : PE X (.Call (.Name "tuple" p) (e :: es) [] pos) (tCB (rTupN X.K) t) := pe_callTy call_tupN hg B.tuple boot_tuple ha (he := he) (hpl := hpl)
theorem pe_listN (B : Bi X.mg) (ha : PA X (e :: es) t) (hc : X.calm = true := by rfl) (hg : Gl X "list" := by rfl) (he : starEach (e :: es) X.env = (false, eval e X.env) :: starEach es X.env := by rfl) (hpl : (backTo pos (starEach es X.env)).any (·.1) = false := by rfl) : PE X (.Call (.Name "list" p) (e :: es) [] pos) (tCB (rNList X.prog X.w X.K) t) := pe_callTy (call_list_nd hc) hg B.list boot_list ha (he := he) (hpl := hpl)
theorem pe_dictP (B : Bi X.mg) (ha : PA X (e :: es) t) (hu : X.A.units + 65 < cLine) (hc : X.calm = true := by rfl) (hg : Gl X "dict" := by rfl) (he : starEach (e :: es) X.env = (false, eval e X.env) :: starEach es X.env := by rfl) (hpl : (backTo pos (starEach es X.env)).any (·.1) = false := by rfl) : PE X (.Call (.Name "dict" p) (e :: es) [] pos) (tCB (rDictP X.prog X.w X.K) t) := pe_callTy (call_dict_plain hc hu) hg B.dict boot_dict ha (he := he) (hpl := hpl)
def rListL (K : PySem.W.Frag) : List V → Hp → VK → Prop := fun xs H Q => ∃ p ys, xs = [.ref p] ∧ SqL K H p ys ∧ ∀ l, H l = none → Q (.ref l) (upd H l (.lst ys))
theorem call_listL : CallR X (.type "list") (rListL X.K) := by
  intro pins s σ H xs us Q I r h
  obtain ⟨p, ys, rfl, hk, q⟩ := h
  exact call_list_of pins s σ H _ us Q I r ⟨p, ys, rfl, .inl hk, q⟩
theorem pe_listL (B : Bi X.mg) (ha : PA X (e :: es) t) (hg : Gl X "list" := by rfl) (he : starEach (e :: es) X.env = (false, eval e X.env) :: starEach es X.env := by rfl) (hpl : (backTo pos (starEach es X.env)).any (·.1) = false := by rfl) : PE X (.Call (.Name "list" p) (e :: es) [] pos) (tCB (rListL X.K) t) := pe_callTy call_listL hg B.list boot_list ha (he := he) (hpl := hpl)
/-- isinstance(x, T) of a plain tuple or an int -/
def rIsN (K : PySem.W.Frag) : List V → Hp → VK → Prop := fun xs H Q => (∃ v ks T b, xs = [v, .ty T] ∧ Tp K H v (.tup ks) ∧ kitB "tuple" T = some b ∧ Q (.bl b) H) ∨ (∃ i T b, xs = [.int i, .ty T] ∧ kitB "int" T = some b ∧ Q (.bl b) H)
theorem call_isN : CallR X (.builtin "isinstance") (rIsN X.K) := by
  intro pins s σ H xs us Q I r h
  rcases h with ⟨v, ks, T, b, rfl, hk, e, q⟩ | ⟨i, T, b, rfl, e, q⟩
  · obtain ⟨a, ys, rfl, ⟨o, ho, _⟩, hy⟩ := hk.invP
    exact call_isi pins s σ H _ us Q I r ⟨_, _, _, _, b, rfl, .ty T, .fTuple ho, kit_ty e, q⟩
  · exact call_isi pins s σ H _ us Q I r ⟨_, _, _, _, b, rfl, .ty T, .base (.int i), kit_ty e, q⟩
theorem pe_isN (B : Bi X.mg) (ha : PA X (e :: es) t) (hg : Gl X "isinstance" := by rfl) (he : starEach (e :: es) X.env = (false, eval e X.env) :: starEach es X.env := by rfl) (hpl : (backTo pos (starEach es X.env)).any (·.1) = false := by rfl) : PE X (.Call (.Name "isinstance" p) (e :: es) [] pos) (tCB (rIsN X.K) t) := pe_callB call_isN hg B.isinstance boot_isi ha (he := he) (hpl := hpl)
end
theorem pe_ty {T : String} {y : Str} (hv : bootBuiltins y = some (.type T)) (hm : X.mg y = none) (hg : Gl X y := by rfl) (hn : y ≠ "__name__" := by decide) (hd : (y == ("__debug__" : Str)) = false := by decide) : PE X (.Name y pos) (tC (.ty T)) := pe_bltn hg hm hv rfl hn hd
theorem kit_tt : kitB "tuple" "tuple" = some true := by decide +kernel
theorem kit_ii : kitB "int" "int" = some true := by decide +kernel
theorem kit_ib : kitB "int" "bool" = some false := by decide +kernel
end
/-! ### heaps: all but f stand -/
def Keep (f : Addr) (H H' : Hp) : Prop := ∀ b o, b ≠ f → H b = some o → H' b = some o
theorem Keep.refl (f : Addr) (H : Hp) : Keep f H H := fun _ _ _ e => e
theorem Keep.trans {f : Addr} {H H1 H2 : Hp} (a : Keep f H H1) (b : Keep f H1 H2) : Keep f H H2 := fun c o n e => b c o n (a c o n e)
theorem Keep.same {f : Addr} {H H' : Hp} (s : Same H H') : Keep f H H' := fun c o _ e => s c o e
theorem Keep.upd {f : Addr} {H : Hp} {o : HO} : Keep f H (L2.upd H f o) := fun c u n e => by rw [upd_ne n]; exact e
theorem Keep.new {f p : Addr} {H : Hp} {o : HO} (h : H p = none) : Keep f H (L2.upd H p o) := Keep.same (Same.upd h)
/-- a change of what is new since H0 -/
theorem Keep.own {f p : Addr} {H0 H : Hp} {o : HO} (k : Keep f H0 H) (h : H0 p = none) : Keep f H0 (L2.upd H p o) := fun c u n e => by
  rw [upd_ne (ne_of_none e h)]; exact k c u n e
theorem Keep.tx {f : Addr} {H H' : Hp} {kvs : List (Key × V)} (k : Keep f H H') (h : H f = some (.dK kvs)) : Tx H H' :=
  ⟨fun b xs e => k b _ (fun z => by rw [z, h] at e; cases e) e, fun b o u e => k b _ (fun z => by rw [z, h] at e; cases e) e⟩
theorem Same.own {p : Addr} {H0 H : Hp} {o : HO} (k : Same H0 H) (h : H0 p = none) : Same H0 (L2.upd H p o) := fun c u e => by
  rw [upd_ne (ne_of_none e h)]; exact k c u e
theorem Same.rfl' {H : Hp} : Same H H := fun _ _ e => e
/-! ### the feed -/
def fdk (row : Addr) (n r d : Int) : List (Key × V) := [(Sum.inr "row", .ref row), (Sum.inr "next", .int n), (Sum.inr "rest", .int r), (Sum.inr "draws", .int d)]
theorem skey {a b : Str} (h : a ≠ b) : ¬ ((Sum.inr a : Key) = Sum.inr b) := fun e => h (Sum.inr.inj e)
theorem fd_row (row : Addr) (n r d : Int) : valV (fdk row n r d) (Sum.inr "row") = some (.ref row) := valV_pos rfl
theorem fd_next (row : Addr) (n r d : Int) : valV (fdk row n r d) (Sum.inr "next") = some (.int n) := by
  rw [fdk, valV_neg (skey (a := ("row" : Str)) (b := ("next" : Str)) (by decide +kernel))]; exact valV_pos rfl
theorem fd_rest (row : Addr) (n r d : Int) : valV (fdk row n r d) (Sum.inr "rest") = some (.int r) := by
  rw [fdk, valV_neg (skey (a := ("row" : Str)) (b := ("rest" : Str)) (by decide +kernel)), valV_neg (skey (a := ("next" : Str)) (b := ("rest" : Str)) (by decide +kernel))]; exact valV_pos rfl
theorem fd_draws (row : Addr) (n r d : Int) : valV (fdk row n r d) (Sum.inr "draws") = some (.int d) := by
  rw [fdk, valV_neg (skey (a := ("row" : Str)) (b := ("draws" : Str)) (by decide +kernel)), valV_neg (skey (a := ("next" : Str)) (b := ("draws" : Str)) (by decide +kernel)), valV_neg (skey (a := ("rest" : Str)) (b := ("draws" : Str)) (by decide +kernel))]; exact valV_pos rfl
theorem fp_next (row : Addr) (n r d m : Int) : putK (fdk row n r d) (Sum.inr "next") (.int m) = fdk row m r d := by
  have h1 := skey (a := ("row" : Str)) (b := ("next" : Str)) (by decide +kernel)
  have h2 := skey (a := ("rest" : Str)) (b := ("next" : Str)) (by decide +kernel)
  have h3 := skey (a := ("draws" : Str)) (b := ("next" : Str)) (by decide +kernel)
  simp [putK, fdk, h1, h2, h3]
theorem fp_rest (row : Addr) (n r d m : Int) : putK (fdk row n r d) (Sum.inr "rest") (.int m) = fdk row n m d := by
  have h1 := skey (a := ("row" : Str)) (b := ("rest" : Str)) (by decide +kernel)
  have h2 := skey (a := ("next" : Str)) (b := ("rest" : Str)) (by decide +kernel)
  have h3 := skey (a := ("draws" : Str)) (b := ("rest" : Str)) (by decide +kernel)
  simp [putK, fdk, h1, h2, h3]
theorem fp_draws (row : Addr) (n r d m : Int) : putK (fdk row n r d) (Sum.inr "draws") (.int m) = fdk row n r m := by
  have h1 := skey (a := ("row" : Str)) (b := ("draws" : Str)) (by decide +kernel)
  have h2 := skey (a := ("next" : Str)) (b := ("draws" : Str)) (by decide +kernel)
  have h3 := skey (a := ("rest" : Str)) (b := ("draws" : Str)) (by decide +kernel)
  simp [putK, fdk, h1, h2, h3]
/-- at f stands a feed, its cells at row, of which at most m draws were made -/
def FeedAt (H : Hp) (f row : Addr) (m : Nat) : Prop := ∃ (cells : List Int) (n r d : Int), H f = some (.dK (fdk row n r d)) ∧ H row = some (.lst (cells.map V.int)) ∧ 0 ≤ n ∧ n ≤ m ∧ 0 ≤ r ∧ 0 ≤ d ∧ d ≤ m ∧ cells.length ≤ 63
theorem FeedAt.dk {H : Hp} {f row : Addr} {m : Nat} (h : FeedAt H f row m) : ∃ kvs, H f = some (.dK kvs) := let ⟨_, _, _, _, e, _⟩ := h; ⟨_, e⟩
theorem FeedAt.tx {H H' : Hp} {f row : Addr} {m : Nat} (h : FeedAt H f row m) (k : Keep f H H') : Tx H H' := let ⟨_, e⟩ := h.dk; k.tx e
theorem FeedAt.same {H H' : Hp} {f row : Addr} {m : Nat} (h : FeedAt H f row m) (s : Same H H') : FeedAt H' f row m := by
  obtain ⟨cells, n, r, d, h1, h2, h3⟩ := h
  exact ⟨cells, n, r, d, s _ _ h1, s _ _ h2, h3⟩
theorem FeedAt.le {H : Hp} {f row : Addr} {m m' : Nat} (h : FeedAt H f row m) (l : m ≤ m') : FeedAt H f row m' := by
  obtain ⟨cells, n, r, d, h1, h2, h3, h4, h5, h6, h7, h8⟩ := h
  exact ⟨cells, n, r, d, h1, h2, h3, by omega, h5, h6, by omega, h8⟩
/-- the heap H1 behind H: all but the feed stands, the feed goes on -/
structure Go (f row : Addr) (H H1 : Hp) (m0 m : Nat) : Prop where
  keep : Keep f H H1
  feed0 : FeedAt H f row m0
  feed : FeedAt H1 f row m
theorem Go.start {f row : Addr} {H : Hp} {m : Nat} (h : FeedAt H f row m) : Go f row H H m m := ⟨Keep.refl _ _, h, h⟩
theorem Go.same {f row : Addr} {H H1 H2 : Hp} {m0 m : Nat} (g : Go f row H H1 m0 m) (s : Same H1 H2) : Go f row H H2 m0 m := ⟨g.keep.trans (Keep.same s), g.feed0, g.feed.same s⟩
theorem Go.draw {f row : Addr} {H H1 H2 : Hp} {m0 m m' : Nat} (g : Go f row H H1 m0 m) (k : Keep f H1 H2) (F : FeedAt H2 f row m') : Go f row H H2 m0 m' := ⟨g.keep.trans k, g.feed0, F⟩
theorem Go.le {f row : Addr} {H H1 : Hp} {m0 m m' : Nat} (g : Go f row H H1 m0 m) (l : m ≤ m') : Go f row H H1 m0 m' := ⟨g.keep, g.feed0, g.feed.le l⟩
theorem Go.own {f row p : Addr} {H H1 : Hp} {m0 m : Nat} {o : HO} (g : Go f row H H1 m0 m) (h : H p = none) : Go f row H (L2.upd H1 p o) m0 m := by
  refine ⟨g.keep.own h, g.feed0, ?_⟩
  obtain ⟨_, _, _, _, a1, a2, _⟩ := g.feed0
  obtain ⟨cells, n, r, d, h1, h2, h3⟩ := g.feed
  exact ⟨cells, n, r, d, by rw [upd_ne (ne_of_none a1 h)]; exact h1, by rw [upd_ne (ne_of_none a2 h)]; exact h2, h3⟩
theorem Go.tx {f row : Addr} {H H1 : Hp} {m0 m : Nat} (g : Go f row H H1 m0 m) : Tx H H1 := g.feed0.tx g.keep
/-- what is tracked and no dict of texts stands through draws -/
theorem Go.stays {f row : Addr} {H H1 : Hp} {m0 m : Nat} (g : Go f row H H1 m0 m) {b : Addr} {o : HO} (h : H b = some o) (hn : ∀ kvs, o ≠ .dK kvs) : H1 b = some o := by
  obtain ⟨kvs, e⟩ := g.feed0.dk
  exact g.keep b o (fun z => by subst z; rw [e] at h; exact hn kvs (Option.some.inj h).symm) h
theorem Keep.stays {f row : Addr} {H H1 : Hp} {m : Nat} (k : Keep f H H1) (F : FeedAt H f row m) {b : Addr} {o : HO} (h : H b = some o) (hn : ∀ kvs, o ≠ .dK kvs) : H1 b = some o := by
  obtain ⟨kvs, e⟩ := F.dk
  exact k b o (fun z => by subst z; rw [e] at h; exact hn kvs (Option.some.inj h).symm) h
theorem dg_row {H : Hp} {f row : Addr} {n r d : Int} (h : H f = some (.dK (fdk row n r d))) : DGet H f (.str "row") (some (.ref row)) := by
  have := DGet.k (k := Sum.inr "row") h; rw [fd_row] at this; exact this
theorem dg_next {H : Hp} {f row : Addr} {n r d : Int} (h : H f = some (.dK (fdk row n r d))) : DGet H f (.str "next") (some (.int n)) := by
  have := DGet.k (k := Sum.inr "next") h; rw [fd_next] at this; exact this
theorem dg_rest {H : Hp} {f row : Addr} {n r d : Int} (h : H f = some (.dK (fdk row n r d))) : DGet H f (.str "rest") (some (.int r)) := by
  have := DGet.k (k := Sum.inr "rest") h; rw [fd_rest] at this; exact this
theorem dg_draws {H : Hp} {f row : Addr} {n r d : Int} (h : H f = some (.dK (fdk row n r d))) : DGet H f (.str "draws") (some (.int d)) := by
  have := DGet.k (k := Sum.inr "draws") h; rw [fd_draws] at this; exact this
theorem four_small : 4 < sizeLine := by decide
theorem dp_next {H : Hp} {f row : Addr} {n r d m : Int} (h : H f = some (.dK (fdk row n r d))) : DPut H f (.str "next") (.int m) (L2.upd H f (.dK (fdk row m r d))) := by
  have := DPut.k (k := Sum.inr "next") (v := .int m) h four_small; rw [fp_next] at this; exact this
theorem dp_rest {H : Hp} {f row : Addr} {n r d m : Int} (h : H f = some (.dK (fdk row n r d))) : DPut H f (.str "rest") (.int m) (L2.upd H f (.dK (fdk row n m d))) := by
  have := DPut.k (k := Sum.inr "rest") (v := .int m) h four_small; rw [fp_rest] at this; exact this
theorem dp_draws {H : Hp} {f row : Addr} {n r d m : Int} (h : H f = some (.dK (fdk row n r d))) : DPut H f (.str "draws") (.int m) (L2.upd H f (.dK (fdk row n r m))) := by
  have := DPut.k (k := Sum.inr "draws") (v := .int m) h four_small; rw [fp_draws] at this; exact this
end Tl

end
-- W10
section
set_option maxHeartbeats 200000
/-! loops and comprehensions over nested data -/
namespace Tl
open PySem PySem.Spec PyProof.Rows L2
theorem Same.tr {H H1 H2 : Hp} (a : Same H H1) (b : Same H1 H2) : Same H H2 := fun c o e => b c o (a c o e)
theorem small {n : Nat} (h : n ≤ 100000) : n < sizeLine := Nat.lt_of_le_of_lt h (by decide)
section
variable {K : PySem.W.Frag} {J : It} {n : Nat} {G : Hp → Prop} {Y : Nat → Hp → V → Hp → Prop}
/-- a comprehension whose steps leave what was: the list's data by the turn -/
theorem lc_pure (w : Walk J n G Y) {g : TG} {tt : TT} {te : TE} {vs : List Nat} {σ : L2.St} {H1 : Hp} {D : Addr} {Qd : Hp → Prop} (hD : H1 D = none) (out : Nat → List NestedKey) (o0 : out 0 = [])
    (hl : ∀ i, i < n → (out i).length ≤ 100000) (hG : ∀ H, Same H1 H → G H) (hy : ∀ i H x H', Y i H x H' → Same H H')
    (hs : ∀ i x H H', i < n → Same H1 H' → Y i H x H' → ∀ (T : V → Hp → Prop) (F : Hp → Prop), (∀ y H4 k, Same H' H4 → Tp K H4 y k → out (i + 1) = out i ++ [k] → T y H4) → (∀ H3, Same H' H3 → out (i + 1) = out i → F H3) →
      g x (wipe σ vs) H' fun σ2 H2 => wipe σ2 vs = wipe σ vs ∧ tt σ2 H2 fun b H3 => if b = true then te σ2 H3 T else F H3)
    (hd : ∀ H ws, Same H1 H → H D = some (.lst ws) → TpAll K H ws (out n) → Qd H) :
    ∃ W : Nat → Nat → Hp → Prop, (∃ m, W 0 m (upd H1 D (.lst []))) ∧ ∀ i m H, W i m H →
      (J.stop i H ∧ Qd H) ∨ (J.go i H ∧ ∃ Nx : Hp → Prop, (∀ H', Nx H' → ∃ m', m' < m ∧ W (i + 1) m' H') ∧ ∀ x H', J.yld i H x H' → g x (wipe σ vs) H' fun σ2 H2 => wipe σ2 vs = wipe σ vs ∧ tt σ2 H2 fun b H3 =>
        if b = true then te σ2 H3 fun y H4 => ∃ acc, H4 D = some (.lst acc) ∧ acc.length < sizeLine ∧ Nx (upd H4 D (.lst (acc ++ [y]))) else Nx H3) := by
  refine lc_it w (fun i H => Same H1 H ∧ ∃ ws, H D = some (.lst ws) ∧ TpAll K H ws (out i)) ⟨Same.upd hD, [], upd_same, by rw [o0]; exact .nil⟩ (fun i H _ p => hG H p.1) ?_ ?_
  · rintro i x H H' hi ⟨s, ws, hw, hk⟩ y
    have sy := hy _ _ _ _ y
    refine hs i x H H' hi (Same.tr s sy) y _ _ (fun y H4 k s4 hy ho => ?_) (fun H3 s3 ho => ?_)
    · have h4 : H4 D = some (.lst ws) := s4 _ _ (sy _ _ hw)
      refine ⟨ws, h4, small (by rw [hk.length]; exact hl i hi), Same.own (Same.tr s (Same.tr sy s4)) hD, _, upd_same, ?_⟩
      rw [ho]
      exact ((hk.same (Same.tr sy s4)).snoc hy).up (Tx.lst h4)
    · refine ⟨Same.tr s (Same.tr sy s3), ws, s3 _ _ (sy _ _ hw), ?_⟩
      rw [ho]
      exact hk.same (Same.tr sy s3)
  · rintro H ⟨s, ws, hw, hk⟩
    exact hd H ws s hw hk
/-- the same of plain values -/
theorem lc_vals (w : Walk J n G Y) {g : TG} {tt : TT} {te : TE} {vs : List Nat} {σ : L2.St} {H1 : Hp} {D : Addr} {Qd : Hp → Prop} (hD : H1 D = none) (out : Nat → List V) (o0 : out 0 = [])
    (hl : ∀ i, i < n → (out i).length ≤ 100000) (hG : ∀ H, Same H1 H → G H) (hy : ∀ i H x H', Y i H x H' → Same H H')
    (hs : ∀ i x H H', i < n → Same H1 H' → Y i H x H' → ∀ (T : V → Hp → Prop) (F : Hp → Prop), (∀ y H4, Same H' H4 → out (i + 1) = out i ++ [y] → T y H4) → (∀ H3, Same H' H3 → out (i + 1) = out i → F H3) →
      g x (wipe σ vs) H' fun σ2 H2 => wipe σ2 vs = wipe σ vs ∧ tt σ2 H2 fun b H3 => if b = true then te σ2 H3 T else F H3)
    (hd : ∀ H, Same H1 H → H D = some (.lst (out n)) → Qd H) :
    ∃ W : Nat → Nat → Hp → Prop, (∃ m, W 0 m (upd H1 D (.lst []))) ∧ ∀ i m H, W i m H →
      (J.stop i H ∧ Qd H) ∨ (J.go i H ∧ ∃ Nx : Hp → Prop, (∀ H', Nx H' → ∃ m', m' < m ∧ W (i + 1) m' H') ∧ ∀ x H', J.yld i H x H' → g x (wipe σ vs) H' fun σ2 H2 => wipe σ2 vs = wipe σ vs ∧ tt σ2 H2 fun b H3 =>
        if b = true then te σ2 H3 fun y H4 => ∃ acc, H4 D = some (.lst acc) ∧ acc.length < sizeLine ∧ Nx (upd H4 D (.lst (acc ++ [y]))) else Nx H3) := by
  refine lc_it w (fun i H => Same H1 H ∧ H D = some (.lst (out i))) ⟨Same.upd hD, by rw [o0]; exact upd_same⟩ (fun i H _ p => hG H p.1) ?_ ?_
  · rintro i x H H' hi ⟨s, hw⟩ y
    have sy := hy _ _ _ _ y
    refine hs i x H H' hi (Same.tr s sy) y _ _ (fun y H4 s4 ho => ?_) (fun H3 s3 ho => ?_)
    · have h4 : H4 D = some (.lst (out i)) := s4 _ _ (sy _ _ hw)
      exact ⟨_, h4, small (hl i hi), Same.own (Same.tr s (Same.tr sy s4)) hD, by rw [ho]; exact upd_same⟩
    · exact ⟨Same.tr s (Same.tr sy s3), by rw [ho]; exact s3 _ _ (sy _ _ hw)⟩
  · rintro H ⟨s, hw⟩
    exact hd H s hw
end
/-! walks over nested data -/
def YTp (K : PySem.W.Frag) (ks : List NestedKey) : Nat → Hp → V → Hp → Prop := fun i H x H' => H' = H ∧ ∃ k, ks[i]? = some k ∧ Tp K H x k
theorem walk_tp {K : PySem.W.Frag} {a : Addr} {xs : List V} {ks : List NestedKey} {H0 : Hp} (ha : PlT H0 a xs) (hk : TpAll K H0 xs ks) : Walk (Itt K a) ks.length (fun H => Tx H0 H) (YTp K ks) := by
  rw [← hk.length]
  refine walk_tup.mono (fun H t => (ha.up t).sq) fun i H x H' hi t y => ?_
  obtain ⟨e, hx⟩ := y
  obtain ⟨k, e2, h2⟩ := (hk.up t).get hx
  exact ⟨e, k, e2, h2⟩
/-- over a list that stands -/
theorem walk_ls {K : PySem.W.Frag} {a : Addr} {xs : List V} {ks : List NestedKey} {H0 : Hp} (hk : TpAll K H0 xs ks) : Walk (Itl K a) ks.length (fun H => SqL K H a xs ∧ Tx H0 H) (YTp K ks) := by
  rw [← hk.length]
  refine walk_list.mono (fun H t => t.1) fun i H x H' hi t y => ?_
  obtain ⟨e, hx⟩ := y
  obtain ⟨k, e2, h2⟩ := (hk.up t.2).get hx
  exact ⟨e, k, e2, h2⟩
theorem YTp.same {K : PySem.W.Frag} {ks : List NestedKey} : ∀ (i : Nat) (H : Hp) (x : V) (H' : Hp), YTp K ks i H x H' → Same H H' := fun _ _ _ _ y => by rw [y.1]; exact Same.rfl'
theorem YFn.same {f : Nat → V} : ∀ (i : Nat) (H : Hp) (x : V) (H' : Hp), YFn f i H x H' → Same H H' := fun _ _ _ _ y => by rw [y.1]; exact Same.rfl'
theorem TpAll.nums {K : PySem.W.Frag} {H : Hp} : ∀ {ns : List Int} {vs : List V}, TpAll K H vs (ns.map NestedKey.num) → vs = ns.map V.int
  | [], _, h => by cases h; rfl
  | n :: ns, _, h => by
    rw [List.map_cons] at h
    cases h with | cons h1 h2 => rw [h1.num, h2.nums]; rfl
theorem TpAll.ofNums {K : PySem.W.Frag} {H : Hp} : ∀ (ns : List Int), TpAll K H (ns.map V.int) (ns.map NestedKey.num)
  | [] => .nil
  | n :: ns => .cons (.int n) (TpAll.ofNums ns)
/-- a list of data at a -/
theorem seqL {K : PySem.W.Frag} {H H' : Hp} {a : Addr} {vs : List V} (h : SqL K H a vs) (s : Same H H') : SqL K H' a vs := s.seq h
theorem ofL {K : PySem.W.Frag} {H : Hp} {a : Addr} {vs : List V} (h : H a = some (.lst vs)) : SqL K H a vs := .inl (.inl h)
end Tl

end
-- W11
section
set_option maxHeartbeats 200000
/-! the text by places; room; points -/
namespace Tl
open PySem PySem.Spec PyProof.Rows L2
def top (i : Nat) : Stmt := PySem.Challenge.pw_threelays_k48_whole_whoever_bounds.main.body.getD i (.Pass ⟨0, 0, 0, 0⟩)
theorem u0 {A : Around} {k : Nat} (hr : Room k A) : A.units < cLine := by have := hr.un; omega
theorem u1 {A : Around} {k : Nat} (hr : Room k A) : A.units + 1 < cLine := by have := hr.un; omega
theorem u64 {A : Around} {k : Nat} (hr : Room k A) : A.units + 64 < cLine := by have := hr.un; omega
theorem u65 {A : Around} {k : Nat} (hr : Room k A) : A.units + 65 < cLine := by have := hr.un; omega
theorem ifB {b : Bool} {A B : Prop} (h1 : b = true → A) (h0 : b = false → B) : if b = true then A else B := by
  cases b with
  | true => exact iteT (h1 rfl)
  | false => exact iteF (h0 rfl)
theorem dF {p : Prop} [Decidable p] (h : ¬ p) : V.bl (decide p) = V.bl false := by rw [decide_eq_false h]
theorem dT {p : Prop} [Decidable p] (h : p) : V.bl (decide p) = V.bl true := by rw [decide_eq_true h]
theorem get_map {α β : Type} {l : List α} {f : α → β} {i : Nat} {k : β} (h : (l.map f)[i]? = some k) : ∃ x, l[i]? = some x ∧ k = f x := by
  rw [List.getElem?_map] at h
  cases e : l[i]? with
  | none => rw [e] at h; cases h
  | some x => rw [e] at h; exact ⟨x, rfl, (Option.some.inj h).symm⟩
theorem take_next {α : Type} {l : List α} {i : Nat} {x : α} (h : l[i]? = some x) : l.take (i + 1) = l.take i ++ [x] := by
  rw [List.take_succ, h]; rfl
theorem mem_at {α : Type} {l : List α} {i : Nat} {x : α} (h : l[i]? = some x) : x ∈ l := List.mem_of_getElem? h
section
variable {X : Cx}
def rP0 (K : PySem.W.Frag) : R2 := fun x y H Q => ∃ p, Tp K H x (kPt p) ∧ y = .int 0 ∧ Q (.int p.1) H
def rP1 (K : PySem.W.Frag) : R2 := fun x y H Q => ∃ p, Tp K H x (kPt p) ∧ y = .int 1 ∧ Q (.int p.2) H
theorem ix_p0 : IxR X (rP0 X.K) := by
  intro value slice pins s σ H x y v u Q I rx ry h hs
  obtain ⟨p, hx, rfl, q⟩ := h
  exact ix_tupN value slice pins s σ H _ _ v u Q I rx ry ⟨_, 0, .num p.1, hx, rfl, rfl, fun v hv => by cases hv; exact q⟩ hs
theorem ix_p1 : IxR X (rP1 X.K) := by
  intro value slice pins s σ H x y v u Q I rx ry h hs
  obtain ⟨p, hx, rfl, q⟩ := h
  exact ix_tupN value slice pins s σ H _ _ v u Q I rx ry ⟨_, 1, .num p.2, hx, rfl, rfl, fun v hv => by cases hv; exact q⟩ hs
end
/-- near points -/
def Bd (p : Pt) : Prop := -4096 ≤ p.1 ∧ p.1 ≤ 4096 ∧ -4096 ≤ p.2 ∧ p.2 ≤ 4096
theorem mul_le {a b A B : Int} (h1 : -A ≤ a) (h2 : a ≤ A) (h3 : -B ≤ b) (h4 : b ≤ B) : -(A * B) ≤ a * b ∧ a * b ≤ A * B := by
  have hA : 0 ≤ A := by omega
  have e1 : 0 ≤ (A - a) * (B - b) := Int.mul_nonneg (by omega) (by omega)
  have e2 : 0 ≤ (A + a) * (B + b) := Int.mul_nonneg (by omega) (by omega)
  have e3 : 0 ≤ (A - a) * (B + b) := Int.mul_nonneg (by omega) (by omega)
  have e4 : 0 ≤ (A + a) * (B - b) := Int.mul_nonneg (by omega) (by omega)
  have f1 : (A - a) * (B - b) = A * B - A * b - a * B + a * b := by grind
  have f2 : (A + a) * (B + b) = A * B + A * b + a * B + a * b := by grind
  have f3 : (A - a) * (B + b) = A * B + A * b - a * B - a * b := by grind
  have f4 : (A + a) * (B - b) = A * B - A * b + a * B - a * b := by grind
  constructor <;> omega
theorem turn_bd {a b c : Pt} (ha : Bd a) (hb : Bd b) (hc : Bd c) : -(2 ^ 40) ≤ turn a b c ∧ turn a b c ≤ 2 ^ 40 := by
  obtain ⟨a1, a2, a3, a4⟩ := ha
  obtain ⟨b1, b2, b3, b4⟩ := hb
  obtain ⟨c1, c2, c3, c4⟩ := hc
  have h1 := mul_le (a := b.1 - a.1) (b := c.2 - a.2) (A := 8192) (B := 8192) (by omega) (by omega) (by omega) (by omega)
  have h2 := mul_le (a := b.2 - a.2) (b := c.1 - a.1) (A := 8192) (B := 8192) (by omega) (by omega) (by omega) (by omega)
  unfold turn
  constructor <;> omega
/-- side -/
def sd (a b c : Pt) : Int := (if 0 < turn a b c then 1 else 0) - (if turn a b c < 0 then 1 else 0)
theorem sd_pos {a b c : Pt} : sd a b c = 1 ↔ 0 < turn a b c := by
  unfold sd; constructor <;> intro h <;> (repeat' split at *) <;> omega
theorem sd_neg {a b c : Pt} : sd a b c < 0 ↔ turn a b c < 0 := by
  unfold sd; constructor <;> intro h <;> (repeat' split at *) <;> omega
theorem sd_zero {a b c : Pt} : sd a b c = 0 ↔ turn a b c = 0 := by
  unfold sd; constructor <;> intro h <;> (repeat' split at *) <;> omega
end Tl

end
-- W12
section
set_option maxHeartbeats 200000
/-! small facts about lists, cuts, places -/
namespace Tl
open PySem PySem.Spec PyProof.Rows L2
theorem six_nat {n d j : Nat} {z : Int} (e : z = (j : Nat)) : HT.sIx n d (some z) = min j n := by
  subst e; exact HT.sIx_nat n d j
theorem cut_from {α : Type} {xs : List α} {z : Int} {j : Nat} (e : z = (j : Nat)) : cutN xs (some z) none = xs.drop j := by
  unfold cutN
  rw [six_nat e, HT.sIx_none]
  by_cases h : j ≤ xs.length
  · rw [Nat.min_eq_left h, List.take_of_length_le (by rw [List.length_drop]; omega)]
  · rw [Nat.min_eq_right (by omega), List.drop_of_length_le (Nat.le_refl _), List.drop_of_length_le (by omega), List.take_nil]
theorem cut_to {α : Type} {xs : List α} {z : Int} {j : Nat} (e : z = (j : Nat)) : cutN xs none (some z) = xs.take j := by
  unfold cutN
  rw [six_nat e, HT.sIx_none, List.drop_zero, Nat.sub_zero, List.take_eq_take_iff]
  omega
theorem cut_mid {α : Type} {xs : List α} {z y : Int} {i j : Nat} (e : z = (i : Nat)) (e2 : y = (j : Nat)) (h : i ≤ xs.length) : cutN xs (some z) (some y) = (xs.drop i).take (j - i) := by
  unfold cutN
  rw [six_nat e, six_nat e2, Nat.min_eq_left h, List.take_eq_take_iff, List.length_drop]
  omega
theorem atI_of {α : Type} {ks : List α} {z : Int} {j : Nat} {k : α} (e : z = (j : Nat)) (h : ks[j]? = some k) : atI ks z = some k := by
  subst e; exact atI_nat h
theorem map_at {α β : Type} {l : List α} {f : α → β} {i : Nat} {x : α} (h : l[i]? = some x) : (l.map f)[i]? = some (f x) := by
  rw [List.getElem?_map, h]; rfl
theorem at_lt {α : Type} {l : List α} {i : Nat} (h : i < l.length) : ∃ x, l[i]? = some x := ⟨l[i], List.getElem?_eq_getElem h⟩
theorem lt_at {α : Type} {l : List α} {i : Nat} {x : α} (h : l[i]? = some x) : i < l.length := (List.getElem?_eq_some_iff.mp h).1
theorem drop_at {α : Type} {l : List α} {i : Nat} {x : α} (h : l[i]? = some x) : l.drop i = x :: l.drop (i + 1) := by
  have hi := lt_at h
  rw [List.drop_eq_getElem_cons hi]
  congr 1
  rw [List.getElem?_eq_getElem hi] at h
  exact Option.some.inj h
theorem idx_map {α β : Type} [BEq α] [LawfulBEq α] [BEq β] [LawfulBEq β] {f : α → β} (hf : ∀ a b, f a = f b → a = b) (a : α) : ∀ l : List α, (l.map f).idxOf (f a) = l.idxOf a
  | [] => rfl
  | x :: l => by
    rw [List.map_cons, List.idxOf_cons, List.idxOf_cons, idx_map hf a l]
    have e : (f x == f a) = (x == a) := by
      rw [Bool.eq_iff_iff, beq_iff_eq, beq_iff_eq]
      exact ⟨hf x a, fun h => by rw [h]⟩
    rw [e]
theorem mem_kPt {p : Pt} {l : List Pt} : kPt p ∈ l.map kPt ↔ p ∈ l := by
  rw [List.mem_map]
  exact ⟨fun ⟨q, hq, e⟩ => kPt_inj e ▸ hq, fun h => ⟨p, h, rfl⟩⟩
theorem pt_dep {l : List Pt} : ∀ k ∈ l.map kPt, k.depth ≤ 8 := fun k hk => by
  obtain ⟨p, _, rfl⟩ := List.mem_map.mp hk; have := kPt_d p; omega
/-! parts of small tuples -/
section
variable {K : PySem.W.Frag} {H : Hp}
theorem inv2 {v : V} {k1 k2 : NestedKey} (h : Tp K H v (.tup [k1, k2])) : ∃ a u1 u2, v = .ref a ∧ SqT K H a [u1, u2] ∧ Tp K H u1 k1 ∧ Tp K H u2 k2 := by
  obtain ⟨a, xs, rfl, ha, hk⟩ := h.inv
  cases hk with | cons h1 hk => cases hk with | cons h2 hk => cases hk with | nil => exact ⟨a, _, _, rfl, ha, h1, h2⟩
theorem inv3 {v : V} {k1 k2 k3 : NestedKey} (h : Tp K H v (.tup [k1, k2, k3])) : ∃ a u1 u2 u3, v = .ref a ∧ SqT K H a [u1, u2, u3] ∧ Tp K H u1 k1 ∧ Tp K H u2 k2 ∧ Tp K H u3 k3 := by
  obtain ⟨a, xs, rfl, ha, hk⟩ := h.inv
  cases hk with | cons h1 hk => cases hk with | cons h2 hk => cases hk with | cons h3 hk => cases hk with | nil => exact ⟨a, _, _, _, rfl, ha, h1, h2, h3⟩
theorem tri_inv {v : V} {t : T3} (h : Tp K H v (kT t)) : ∃ a u1 u2 u3, v = .ref a ∧ SqT K H a [u1, u2, u3] ∧ Tp K H u1 (kPt t.1) ∧ Tp K H u2 (kPt t.2.1) ∧ Tp K H u3 (kPt t.2.2) := inv3 h
theorem tps2 {u v : V} {k l : NestedKey} (h : Tp K H u k) (g : Tp K H v l) : TpAll K H [u, v] [k, l] := .cons h (.cons g .nil)
theorem tps3 {u v x : V} {k l m : NestedKey} (h : Tp K H u k) (g : Tp K H v l) (f : Tp K H x m) : TpAll K H [u, v, x] [k, l, m] := .cons h (tps2 g f)
/-- a list of the data ks stands: what follows -/
def Nl (K : PySem.W.Frag) (H : Hp) (Q : VK) (ks : List NestedKey) : Prop := ∀ H' p vs, Same H H' → H p = none → H' p = some (.lst vs) → TpAll K H' vs ks → Q (.ref p) H'
theorem Nl.now {Q : VK} {ks : List NestedKey} {p : Addr} {vs : List V} {H0 : Hp} (q : Nl K H0 Q ks) (s : Same H0 H) (h0 : H0 p = none) (hp : H p = some (.lst vs)) (hk : TpAll K H vs ks) : Q (.ref p) H := q H p vs s h0 hp hk
end
/-! neighbours by their places -/
theorem prs_len : ∀ f : List Pt, (prs f).length = f.length - 1
  | [] => rfl
  | [_] => rfl
  | a :: b :: r => by
    show (prs (b :: r)).length + 1 = r.length + 1 + 1 - 1
    rw [prs_len (b :: r)]; simp
theorem prs_get : ∀ {f : List Pt} {i : Nat} {a b : Pt}, f[i]? = some a → f[i + 1]? = some b → (prs f)[i]? = some (a, b)
  | [], _, _, _, h, _ => by simp at h
  | [_], 0, _, _, _, h => by simp at h
  | [_], i + 1, _, _, h, _ => by simp at h
  | x :: y :: r, 0, a, b, h, h2 => by
    have e1 : x = a := Option.some.inj h
    have e2 : y = b := Option.some.inj h2
    subst e1 e2; rfl
  | x :: y :: r, i + 1, a, b, h, h2 => prs_get (f := y :: r) (i := i) h h2
theorem head_at {α : Type} {l : List α} {a : α} (h : l.head? = some a) : l[0]? = some a := by
  cases l with
  | nil => cases h
  | cons x r => exact h
theorem last_atI {α : Type} {l : List α} {a : α} (h : l.getLast? = some a) : atI l (-1) = some a := by
  obtain ⟨r, rfl⟩ := List.getLast?_eq_some_iff.mp h
  exact atI_last r a
def btw (a b p : Pt) : Bool := decide (plt a p) && decide (plt p b) && decide (turn a b p = 0)
def clearB (F : List Pt) (a b : Pt) : Bool := !(F.any (btw a b))
theorem clearB_iff {F : List Pt} {a b : Pt} : clearB F a b = true ↔ clear F a b := by
  unfold clearB clear btw
  constructor
  · intro h p hp h1 h2 h3
    have : F.any (fun p => decide (plt a p) && decide (plt p b) && decide (turn a b p = 0)) = true := List.any_eq_true.mpr ⟨p, hp, by simp [h1, h2, h3]⟩
    rw [this] at h
    exact absurd h (by decide)
  · intro h
    rw [Bool.not_eq_true', List.any_eq_false]
    intro p hp
    simp only [Bool.and_eq_true, decide_eq_true_eq, not_and]
    intro h12
    exact h p hp h12.1 h12.2
/-- the ties, by what is left -/
def tiesOf (F : List Pt) : List Pt → List E2
  | [] => []
  | a :: r => (r.filter (clearB F a)).map (fun o => (a, o)) ++ tiesOf F r
theorem tiesOf_len (F : List Pt) : ∀ r : List Pt, (tiesOf F r).length ≤ r.length * r.length
  | [] => Nat.le_refl _
  | a :: r => by
    have h1 := tiesOf_len F r
    have h2 : (r.filter (clearB F a)).length ≤ r.length := List.length_filter_le _ _
    have e : (a :: r).length * (a :: r).length = r.length * r.length + 2 * r.length + 1 := by
      rw [List.length_cons]; grind
    rw [e]
    show ((r.filter (clearB F a)).map (fun o => (a, o)) ++ tiesOf F r).length ≤ _
    rw [List.length_append, List.length_map]
    omega
/-- where a triangle leads a front -/
def gone (f : List Pt) (t : T3) : Option (Nat × List Pt) :=
  if t.1 ∈ f then
    if 0 < turn t.1 t.2.1 t.2.2 then
      if (f.drop (f.idxOf t.1)).take 3 = [t.1, t.2.1, t.2.2] then some (f.idxOf t.1, f.take (f.idxOf t.1 + 1) ++ f.drop (f.idxOf t.1 + 2)) else none
    else if (f.drop (f.idxOf t.1)).take 2 = [t.1, t.2.2] then some (f.idxOf t.1, f.take (f.idxOf t.1 + 1) ++ t.2.1 :: f.drop (f.idxOf t.1 + 1)) else none
  else none
end Tl

end
-- W13
section
set_option maxHeartbeats 1000000
/-! sorting of points (of a set) and of triangles -/
namespace Tl
open PySem PySem.Spec PyProof.Rows L2
section
variable {prog : Program} {w : World} {A : Around} {E : Value → Shared → Prop} {s : Shared}
def KT (h h' : Heap) : Prop := ∀ b o, h.get? b = some o → o.cls = .type "tuple" → h'.get? b = some o
def TriIs (h : Heap) (v : Value) (t : T3) : Prop := ∃ a o n u1 u2 u3, v = .ref a ∧ h.get? a = some o ∧ o.cls = .type "tuple" ∧ o.data = .seq #[u1, u2, u3] n ∧ Srt.IsPair h u1 t.1.1 t.1.2 ∧ Srt.IsPair h u2 t.2.1.1 t.2.1.2 ∧ Srt.IsPair h u3 t.2.2.1 t.2.2.2
theorem TriIs.keeps {h h' : Heap} {v : Value} {t : T3} (x : TriIs h v t) (k : KT h h') : TriIs h' v t := by
  obtain ⟨a, o, n, u1, u2, u3, e, ho, hc, hd, h1, h2, h3⟩ := x
  exact ⟨a, o, n, u1, u2, u3, e, k _ _ ho hc, hc, hd, h1.keeps k, h2.keeps k, h3.keeps k⟩
theorem pair_key {h : Heap} {u : Value} {p : Pt} (x : Srt.IsPair h u p.1 p.2) : NestedIs h (kPt p) u := by
  obtain ⟨a, o, t, v, n, rfl, ho, hc, hd⟩ := x
  exact .tup ho hc hd (.cons (.int _ _) (.cons (.int _ _) .nil))
theorem pair_lt {u v : Value} {p q : Pt} (x : Srt.IsPair s.heap u p.1 p.2) (y : Srt.IsPair s.heap v q.1 q.2) (hu : A.units < cLine) : ∃ b : Bool, ∀ Q : Bool → Shared → Prop, Q b s → wpAny (model prog w) A (compareOp .Lt u v) (PySem.W.BoolBack Q) E s := by
  obtain ⟨a, o, t1, t2, n, rfl, ho, hc, hd⟩ := x
  obtain ⟨a', o', t1', t2', n', rfl, ho', hc', hd'⟩ := y
  refine ⟨HT.lexLt [p.1, p.2] [q.1, q.2], fun Q hq => ?_⟩
  exact HT.lt_tupInts (items := #[.int p.1 t1, .int p.2 t2]) (items2 := #[.int q.1 t1', .int q.2 t2']) ⟨o, ho, hc, n, hd⟩ ⟨o', ho', hc', n', hd'⟩ (.cons _ _ (.cons _ _ .nil)) (.cons _ _ (.cons _ _ .nil)) hu hq
theorem pair_eq {u v : Value} {p q : Pt} (x : Srt.IsPair s.heap u p.1 p.2) (y : Srt.IsPair s.heap v q.1 q.2) (hu : A.units + 8 < cLine) : ∃ b : Bool, SeqAt.EqAt A s u v b :=
  ⟨_, eqAt_key (kPt p) (kPt q) A s u v (pair_key x) (pair_key y) (by have := kPt_d p; have := kPt_d q; omega)⟩
theorem tri_tot {vs : List Value} (hu : A.units + 8 < cLine) (hp : ∀ v ∈ vs, ∃ t, TriIs s.heap v t) : Srt.Tot prog w A s (PyProof.Rows.tuples' false) (fun p => p.1 ∈ vs) := by
  intro p q hm hm'
  obtain ⟨t, a, o, n, u1, u2, u3, e, ho, hc, hd, h1, h2, h3⟩ := hp _ hm
  obtain ⟨t', a', o', n', v1, v2, v3, e', ho', hc', hd', g1, g2, g3⟩ := hp _ hm'
  rw [e, e']
  obtain ⟨e1, x1⟩ := pair_eq h1 g1 hu
  obtain ⟨e2, x2⟩ := pair_eq h2 g2 hu
  obtain ⟨e3, x3⟩ := pair_eq h3 g3 hu
  obtain ⟨l1, y1⟩ := pair_lt (prog := prog) (w := w) (E := fun _ _ => False) h1 g1 (show A.units < cLine by omega)
  obtain ⟨l2, y2⟩ := pair_lt (prog := prog) (w := w) (E := fun _ _ => False) h2 g2 (show A.units < cLine by omega)
  obtain ⟨l3, y3⟩ := pair_lt (prog := prog) (w := w) (E := fun _ _ => False) h3 g3 (show A.units < cLine by omega)
  refine ⟨if e1 = true then (if e2 = true then (if e3 = true then false else l3) else l2) else l1, ?_⟩
  refine PySem.W.kat_lt ho hd ho' hd' ?_
  show PySem.W.KatLex prog w A false (decide (3 < 3)) _ [(u1, v1), (u2, v2), (u3, v3)] 0 s
  refine PySem.W.kat_cons (x1 prog w _ _ ?_)
  cases e1 with
  | false => exact PySem.W.kat_no (PySem.W.kat_one _ _ (y1 _ ⟨rfl, by simp⟩))
  | true =>
    refine PySem.W.kat_yes (PySem.W.kat_cons (x2 prog w _ _ ?_))
    cases e2 with
    | false => exact PySem.W.kat_no (PySem.W.kat_one _ _ (y2 _ ⟨rfl, by simp⟩))
    | true =>
      refine PySem.W.kat_yes (PySem.W.kat_cons (x3 prog w _ _ ?_))
      cases e3 with
      | false => exact PySem.W.kat_no (PySem.W.kat_one _ _ (y3 _ ⟨rfl, by simp⟩))
      | true => exact PySem.W.kat_yes (PySem.W.kat_nil ⟨rfl, rfl⟩)
theorem tri_firsts {h : Heap} : ∀ {vs : List Value}, (∀ v ∈ vs, ∃ t, TriIs h v t) → ∃ fs : List Value, PySem.W.KatTups h vs fs ∧ fs.length = vs.length ∧ ∀ f ∈ fs, ∃ b o, f = .ref b ∧ h.get? b = some o ∧ o.cls = .type "tuple"
  | [], _ => ⟨[], PySem.W.KatTups.nil, rfl, fun _ hm => by simp at hm⟩
  | v :: vs, hp => by
    obtain ⟨fs, h1, h2, h3⟩ := tri_firsts (vs := vs) fun v' hm => hp v' (List.mem_cons_of_mem _ hm)
    obtain ⟨t, a, o, n, u1, u2, u3, rfl, ho, hc, hd, g1, g2, g3⟩ := hp v (List.mem_cons_self ..)
    refine ⟨u1 :: fs, PySem.W.KatTups.cons ho hc hd rfl h1, by rw [List.length_cons, List.length_cons, h2], fun f hm => ?_⟩
    rcases List.mem_cons.mp hm with rfl | hm
    · obtain ⟨b, ob, _, _, _, rfl, hb, hbc, _⟩ := g1
      exact ⟨b, ob, rfl, hb, hbc⟩
    · exact h3 f hm
theorem tris_sortable {a : Addr} {vs : List Value} (hu : A.units + 8 < cLine) (h0 : 0 < vs.length) (hp : ∀ v ∈ vs, ∃ t, TriIs s.heap v t) (ha : ∀ o, s.heap.get? a = some o → o.cls ≠ .type "tuple") : Srt.Sortable prog w A s a vs := by
  intro h' keep
  have hp' : ∀ v ∈ vs, ∃ t, TriIs h' v t := fun v hm => by
    obtain ⟨t, p⟩ := hp v hm
    exact ⟨t, p.keeps fun b o e c => keep b o (fun z => by subst z; exact ha o e c) e⟩
  obtain ⟨fs, h1, h2, h3⟩ := tri_firsts hp'
  refine ⟨PyProof.Rows.tuples' false, fun Q E hq => ?_, tri_tot (s := { s with heap := h' }) hu hp'⟩
  refine PySem.W.kat_kind (T := .type "tuple") h1 (by omega) (fun f hm => ?_) (by rfl) ?_
  · obtain ⟨b, o, rfl, hb, hbc⟩ := h3 f hm
    exact fun A Q E s k q => wpAny_typeOf (T := "tuple") ⟨o, k _ _ hb, hbc⟩ q
  · have e : (Value.type "tuple" != Value.type "tuple") = false := by decide
    rw [e]
    exact hq
end
section
variable {X : Cx} {pins : List (Addr × Obj)} {σ : L2.St} {H : Hp} {s : Shared}
theorem pt_is (I : Inv X pins σ H s) {v : V} {u : Value} {p : Pt} (h : Tp X.K H v (kPt p)) (r : RelV v u) : Srt.IsPair s.heap u p.1 p.2 := by
  obtain ⟨a, v1, v2, rfl, ha, h1, h2⟩ := inv2 h
  cases h1; cases h2
  cases r
  obtain ⟨its, rv, ⟨o, ho, hc, n, hd⟩, _⟩ := I.tuple ha
  obtain ⟨u1, u2, rfl, ⟨t1, rfl⟩, ⟨t2, rfl⟩⟩ := vals2 rv
  exact ⟨a, o, t1, t2, n, rfl, ho, hc, hd⟩
theorem tri_is (I : Inv X pins σ H s) {v : V} {u : Value} {t : T3} (h : Tp X.K H v (kT t)) (r : RelV v u) : TriIs s.heap u t := by
  obtain ⟨a, v1, v2, v3, rfl, ha, h1, h2, h3⟩ := tri_inv h
  cases r
  obtain ⟨its, rv, ⟨o, ho, hc, n, hd⟩, _⟩ := I.tuple ha
  cases rv with | @cons _ u1 _ _ r1 rv => cases rv with | @cons _ u2 _ _ r2 rv => cases rv with | @cons _ u3 _ _ r3 rv => cases rv with | nil =>
  exact ⟨a, o, n, u1, u2, u3, rfl, ho, hc, hd, pt_is I h1 r1, pt_is I h2 r2, pt_is I h3 r3⟩
end
theorem tp_perm {K : PySem.W.Frag} {H : Hp} {ws ws' : List V} {ts : List T3} (h : TpAll K H ws (ts.map kT)) (p : ws'.Perm ws) : ∃ ts' : List T3, ts'.Perm ts ∧ TpAll K H ws' (ts'.map kT) := by
  induction p generalizing ts with
  | nil => exact ⟨ts, List.Perm.refl _, h⟩
  | cons x p ih =>
    cases ts with
    | nil => cases h
    | cons t ts =>
      cases h with | cons h1 h2 =>
      obtain ⟨ts', p', h'⟩ := ih h2
      exact ⟨t :: ts', p'.cons t, .cons h1 h'⟩
  | swap x y l =>
    match ts, h with
    | [_], h => cases h with | cons _ h => cases h
    | t :: t2 :: ts, .cons h1 (.cons h2 h3) => exact ⟨t2 :: t :: ts, List.Perm.swap _ _ _, .cons h2 (.cons h1 h3)⟩
  | trans p1 p2 ih1 ih2 =>
    obtain ⟨t1, q1, g1⟩ := ih2 h
    obtain ⟨t2, q2, g2⟩ := ih1 g1
    exact ⟨t2, q2.trans q1, g2⟩
section
variable {X : Cx}
/-- sorted(triangles) -/
def rSortTri (K : PySem.W.Frag) : List V → Hp → VK → Prop := fun vs H Q => ∃ (a : Addr) (ws : List V) (ts : List T3), vs = [.ref a] ∧ SqL K H a ws ∧ TpAll K H ws (ts.map kT) ∧ ∀ (ts' : List T3) (ws' : List V) (p : Addr), ts'.Perm ts → H p = none → TpAll K H ws' (ts'.map kT) → Q (.ref p) (L2.upd H p (.lst ws'))
theorem call_sortTri (hu : X.A.units + 65 < cLine) : CallR X (.builtin "sorted") (rSortTri X.K) := by
  intro pins s σ H vs us Q I r h
  obtain ⟨a, ws, ts, rfl, hs, hw, q⟩ := h
  obtain ⟨its, rv, hl, hz⟩ := I.list hs
  obtain ⟨u, rfl, ru⟩ := vals1 r
  obtain rfl : u = Value.ref a := ru
  have hrefs : ∀ x ∈ ws, ∃ t, x = V.ref t := fun x hx => by
    obtain ⟨i, hi⟩ := List.getElem?_of_mem hx
    obtain ⟨k, e, hk⟩ := hw.get hi
    obtain ⟨t, _, rfl⟩ := get_map e
    obtain ⟨a, _, _, _, e2, _⟩ := tri_inv hk
    exact ⟨a, e2⟩
  obtain ⟨e1, e2⟩ := refs_back rv hrefs
  have hti : ∀ v ∈ its, ∃ t, TriIs s.heap v t := fun v hv => by
    obtain ⟨i, hi⟩ := List.getElem?_of_mem hv
    have hwi : ws[i]? = some (backV v) := by rw [e1, List.getElem?_map, hi]; rfl
    obtain ⟨k, e, hk⟩ := hw.get hwi
    obtain ⟨t, _, rfl⟩ := get_map e
    obtain ⟨b, rfl⟩ := e2 v hv
    exact ⟨t, tri_is I hk rfl⟩
  refine Srt.sorted_any hl.isList (by rw [← rv.length]; exact hz) (fun h2 h₁ a ha k => ?_) fun out ho => ?_
  · refine tris_sortable (s := { s with heap := h₁ }) (by show X.A.units + 1 + 1 + 8 < cLine; omega) (by omega) (fun v hm => ?_) fun o e => ?_
    · obtain ⟨t, p⟩ := hti v hm
      exact ⟨t, p.keeps fun b o e _ => (k b o e).2⟩
    · have e' : some o = some (seqObj "list" its.toArray 0) := e.symm.trans ha
      cases e'
      intro c
      exact absurd (Value.type.inj c) (by decide)
  · have h3 : ∀ u ∈ out, ∃ a, u = Value.ref a := fun u hu => e2 u (ho.mem_iff.mp hu)
    obtain ⟨n, hn⟩ := sortedAll_at s.heap its out.toArray
    have hp : (out.map backV).Perm ws := by rw [e1]; exact ho.map backV
    obtain ⟨ts', pt, hw'⟩ := tp_perm hw hp
    refine ⟨.ref _, L2.upd H (s.heap.objs.size + 1) (.lst (out.map backV)), I.laid (t' := s.toks) (fun b o e => sortedAll_old e) (Nat.le_succ _) ⟨?_, out, n, vals_back h3, hn⟩, rfl, q ts' _ _ pt (I.hok.fresh (Nat.le_succ _)) hw'⟩
    rw [List.length_map, ho.length_eq, ← rv.length]; exact hz
/-- set(points) -/
def rSetP (P : Program) (w : World) (K : PySem.W.Frag) : List V → Hp → VK → Prop := fun vs H Q => ∃ (l : Addr) (ws : List V) (S : List Pt), vs = [.ref l] ∧ SqL K H l ws ∧ TpAll K H ws (S.map kPt) ∧ S.length < 64 ∧
  ∀ (a : Addr) (L : List (Addr × List Int)), H a = none → (∀ p ∈ L, ∃ q ∈ S, p.2 = [q.1, q.2] ∧ Tp K H (.ref p.1) (kPt q)) → (∀ q ∈ S, [q.1, q.2] ∈ L.map (·.2)) → Q (.ref a) (L2.upd H a (SetTO P w a L))
theorem pts_pairs {K : PySem.W.Frag} {H : Hp} : ∀ {ws : List V} {S : List Pt}, TpAll K H ws (S.map kPt) → ∃ ks : List (Addr × List Int), ws = ks.map (fun p => V.ref p.1) ∧ ks.map (·.2) = S.map (fun q => [q.1, q.2]) ∧ (∀ p ∈ ks, ∃ q ∈ S, p.2 = [q.1, q.2] ∧ Tp K H (.ref p.1) (kPt q))
  | [], [], _ => ⟨[], rfl, rfl, fun _ h => by cases h⟩
  | _, q :: S, .cons h r => by
    obtain ⟨ks, e1, e2, e3⟩ := pts_pairs r
    obtain ⟨a, _, _, rfl, _⟩ := inv2 h
    refine ⟨(a, [q.1, q.2]) :: ks, by rw [e1]; rfl, by rw [List.map_cons, e2]; rfl, fun p hp => ?_⟩
    rcases List.mem_cons.mp hp with rfl | hp
    · exact ⟨q, by simp, rfl, h⟩
    · obtain ⟨q', h1, h2⟩ := e3 p hp
      exact ⟨q', List.mem_cons_of_mem _ h1, h2⟩
theorem call_setP (hc : X.calm = true) (hu : X.A.units + 64 < cLine) : CallR X (.type "set") (rSetP X.prog X.w X.K) := by
  intro pins s σ H vs us Q I r h
  obtain ⟨l, ws, S, rfl, hl, hw, h64, q⟩ := h
  obtain ⟨ks, rfl, e2, e3⟩ := pts_pairs hw
  have hlen : ks.length = S.length := by have := congrArg List.length e2; simpa using this
  refine cr_setOfT hc hu pins s σ H _ us Q I r ⟨l, ks, rfl, hl, fun p hp => ?_, by omega, fun a L ha h1 h2 => q a L ha (fun p hp => e3 p (h1 p hp)) fun q hq => ?_⟩
  · obtain ⟨q, hq, e, ht⟩ := e3 p hp
    obtain ⟨a, ea, hs⟩ := pt_inv ht
    cases ea
    rw [e]; exact hs
  · have : [q.1, q.2] ∈ ks.map (·.2) := by rw [e2]; exact List.mem_map.mpr ⟨q, hq, rfl⟩
    obtain ⟨p, hp, e⟩ := List.mem_map.mp this
    rw [← e]; exact h2 p hp
/-- sorted(set of points) -/
def rSortSP (P : Program) (w : World) (K : PySem.W.Frag) : List V → Hp → VK → Prop := fun vs H Q => ∃ (a : Addr) (L : List (Addr × List Int)), vs = [.ref a] ∧ H a = some (SetTO P w a L) ∧ (∀ p ∈ L, ∃ q : Pt, p.2 = [q.1, q.2] ∧ Tp K H (.ref p.1) (kPt q)) ∧
  ∀ (S' : List Pt) (ws' : List V) (p : Addr), H p = none → Rising S' → (∀ q : Pt, q ∈ S' ↔ [q.1, q.2] ∈ L.map (·.2)) → TpAll K H ws' (S'.map kPt) → Q (.ref p) (L2.upd H p (.lst ws'))
def kOf (h : Heap) (v : Value) : Int × Int := match TS.intsOf h v with
  | [x, y] => (x, y)
  | _ => (0, 0)
theorem kOf_pair {h : Heap} {v : Value} {p : Pt} (x : Srt.IsPair h v p.1 p.2) : kOf h v = p := by
  obtain ⟨a, o, t1, t2, n, rfl, ho, hc, hd⟩ := x
  have : TS.intsOf h (.ref a) = [p.1, p.2] := TS.TupInts.ints (v := .ref a) ⟨a, #[.int p.1 t1, .int p.2 t2], rfl, ⟨o, ho, hc, n, hd⟩, .cons _ _ (.cons _ _ .nil)⟩
  unfold kOf; rw [this]
theorem call_sortSP (hc : X.calm = true) (hu : X.A.units + 65 < cLine) : CallR X (.builtin "sorted") (rSortSP X.prog X.w X.K) := by
  intro pins s σ H vs us Q I r h
  obtain ⟨a, L, rfl, ha, hL, q⟩ := h
  have R0 : SetT0 X.prog X.w s.heap a L := (I.hok a _ ha).1
  have hsq : ∀ p ∈ L, SqT X.K H p.1 (p.2.map V.int) := fun p hp => by
    obtain ⟨z, e, ht⟩ := hL p hp
    obtain ⟨b, eb, hs⟩ := pt_inv ht
    cases eb
    rw [e]; exact hs
  obtain ⟨es, ep, t, R⟩ := R0.full fun p hp => I.isT (hsq p hp)
  rw [Vals.ref1 r]
  obtain ⟨o, ho, hex, hd⟩ := R.ob
  have hsz := R.size
  have hfew := R.few
  have hpair : ∀ p ∈ L, ∃ z : Pt, p.2 = [z.1, z.2] ∧ Srt.IsPair s.heap (.ref p.1) z.1 z.2 ∧ Tp X.K H (.ref p.1) (kPt z) := fun p hp => by
    obtain ⟨z, e, ht⟩ := hL p hp
    exact ⟨z, e, pt_is I ht rfl, ht⟩
  have hes : es.toList.map (·.2) = L.map fun q => Value.ref q.1 := by
    rw [R.rows]
    unfold rowsOf
    rw [List.map_map] <;> rfl
  refine Calls.call_function_entry kind_sorted plain_sorted entry_sorted (args_sorted1 _) ?_
  unfold Builtin.«sorted»
  refine wpAny_bind (m := checkCount "sorted" 1 1 _) (wpAny_pure ?_)
  refine wpAny_bind (collect_set (A := X.A.in1) (I.ok.hd hc) ⟨o, ho, hex.1, hd⟩ R.fits (by unfold scanBound; omega) R.tab.ris R.led fun s1 vs k1 hz g1 o1 pm => ?_)
  rw [hes] at pm
  have hvl : vs.length < 64 := by rw [pm.length_eq, List.length_map]; exact hfew
  have hvz : vs.length ≤ sizeLine := Nat.le_of_lt (small (by omega))
  refine wpAny_bind (wpAny_newList ?_ hvz)
  have hoL : (s1.heap.push (seqObj "list" vs.toArray 0)).get? s1.heap.objs.size = some (seqObj "list" vs.toArray 0) := Heap.get?_push_size _ rfl
  have kt : KT s.heap (s1.heap.push (seqObj "list" vs.toArray 0)) := fun b u e _ => Heap.get?_push_of_some _ (k1 b u e)
  have hv : ∀ v ∈ vs, ∃ p ∈ L, v = Value.ref p.1 ∧ ∃ z : Pt, p.2 = [z.1, z.2] ∧ Srt.IsPair (s1.heap.push (seqObj "list" vs.toArray 0)) v z.1 z.2 ∧ Tp X.K H (.ref p.1) (kPt z) := fun v hv => by
    obtain ⟨p, hp, e⟩ := List.mem_map.mp (pm.mem_iff.mp hv)
    obtain ⟨z, e1, e2, e3⟩ := hpair p hp
    subst e
    exact ⟨p, hp, rfl, z, e1, e2.keeps kt, e3⟩
  have hk : ∀ v ∈ vs, Srt.IsPair (s1.heap.push (seqObj "list" vs.toArray 0)) v (kOf (s1.heap.push (seqObj "list" vs.toArray 0)) v).1 (kOf (s1.heap.push (seqObj "list" vs.toArray 0)) v).2 := fun v h => by
    obtain ⟨p, hp, e, z, e1, e2, e3⟩ := hv v h
    rw [kOf_pair e2]; exact e2
  refine wpAny_bind (wpAny_holding (wpAny_call_entry slot_list_sort ⟨_, hoL, rfl⟩ entry_list_sort
    (SrtO.list_sort_ord (s := { s1 with heap := s1.heap.push (seqObj "list" vs.toArray 0) }) (SrtO.swo_lex (kOf (s1.heap.push (seqObj "list" vs.toArray 0)))) hoL hvz (fun h2 => SrtO.pairs_sortableO (by omega) hk fun o e => ?_) fun out hs hb => ⟨_, rfl, ?_⟩) (args_list_sort _)))
  · have e' : some o = some (seqObj "list" vs.toArray 0) := e.symm.trans hoL
    cases e'
    intro c
    exact absurd (Value.type.inj c) (by decide)
  obtain ⟨c, hcL⟩ := sortedHeap_at (vs := vs) (out := out.toArray) hoL
  have hp : out.Perm (L.map fun q => Value.ref q.1) := hb.perm.trans pm
  have h3 : ∀ u ∈ out, ∃ b, u = Value.ref b := fun u hu => by
    obtain ⟨p, _, e⟩ := List.mem_map.mp (hp.mem_iff.mp hu)
    exact ⟨p.1, e.symm⟩
  have hp0 : ∀ p ∈ L, Value.ref p.1 ∈ out := fun p hpL => hp.mem_iff.mpr (List.mem_map.mpr ⟨p, hpL, rfl⟩)
  have kp : ∀ b u, s.heap.get? b = some u → (sortedHeap (s1.heap.push (seqObj "list" vs.toArray 0)) s1.heap.objs.size vs out.toArray).get? b = some u := fun b u e => by
    have q1 := k1 b u e
    have hlt := Heap.lt_size q1
    rw [sortedHeap_old (Nat.ne_of_lt hlt) (by rw [size_push']; exact Nat.lt_succ_of_lt hlt)]
    exact Heap.get?_push_of_some _ q1
  have hn : H s1.heap.objs.size = none := I.hok.fresh hz
  have hov : ∀ v ∈ out, v ∈ vs := fun v h => hb.perm.mem_iff.mp h
  -- the points in their order
  obtain ⟨hsh, ehs⟩ : ∃ hh, hh = s1.heap.push (seqObj "list" vs.toArray 0) := ⟨_, rfl⟩
  rw [← ehs] at hs hv
  have pts : ∀ l : List Value, (∀ v ∈ l, v ∈ vs) → TpAll X.K H (l.map backV) ((l.map (kOf hsh)).map kPt) := by
    intro l
    induction l with
    | nil => intro _; exact .nil
    | cons v l ih =>
      intro hl
      obtain ⟨p, hp, e, z, e1, e2, e3⟩ := hv v (hl v (by simp))
      refine .cons ?_ (ih fun u hu => hl u (List.mem_cons_of_mem _ hu))
      rw [kOf_pair e2, e]; exact e3
  have one : ∀ v ∈ vs, ∀ u ∈ vs, kOf hsh v = kOf hsh u → v = u := fun v h u h' e => by
    obtain ⟨p, hp, ev, z, e1, e2, e3⟩ := hv v h
    obtain ⟨p', hp', ev', z', e1', e2', e3'⟩ := hv u h'
    rw [kOf_pair e2, kOf_pair e2'] at e
    have e4 : p.2 = p'.2 := by rw [e1, e1', e]
    have nd := R.nd
    obtain ⟨i, hi, ei⟩ := List.getElem_of_mem hp
    obtain ⟨j, hj, ej⟩ := List.getElem_of_mem hp'
    have : i = j := by
      have h1 : (L.map (·.2))[i]'(by rw [List.length_map]; exact hi) = (L.map (·.2))[j]'(by rw [List.length_map]; exact hj) := by
        rw [List.getElem_map, List.getElem_map, ei, ej]; exact e4
      exact (List.getElem_inj nd).mp h1
    subst this
    rw [ev, ev', ← ei, ← ej]
  have nv : vs.Nodup := by
    refine pm.nodup_iff.mpr ?_
    refine List.pairwise_map.mpr ?_
    have nd := R.nd
    refine List.Pairwise.imp_of_mem (fun {q r} hq hr hne e => ?_) (List.pairwise_map.mp nd)
    injection e with e
    have a1 := R.tup q hq
    have a2 := R.tup r hr
    rw [e] at a1
    exact hne (a1.inj a2)
  have ris : Rising (out.map (kOf hsh)) := by
    refine List.pairwise_map.mpr ?_
    have no : out.Nodup := hb.perm.nodup_iff.mpr nv
    have := List.Pairwise.and hs no
    refine List.Pairwise.imp_of_mem (fun {v u} hv' hu' h => ?_) this
    have h1 := SrtO.lexB_no.mp h.1
    rcases plt_total (kOf hsh v) (kOf hsh u) with z | z | z
    · exact z
    · exact absurd (one v (hov v hv') u (hov u hu') z) h.2
    · exact absurd z h1
  have mem : ∀ z : Pt, z ∈ out.map (kOf hsh) ↔ [z.1, z.2] ∈ L.map (·.2) := fun z => by
    rw [List.mem_map, List.mem_map]
    constructor
    · rintro ⟨v, hv', rfl⟩
      obtain ⟨p, hp, e, z, e1, e2, e3⟩ := hv v (hov v hv')
      exact ⟨p, hp, by rw [kOf_pair e2]; exact e1⟩
    · rintro ⟨p, hp, e⟩
      have : Value.ref p.1 ∈ out := hp0 p hp
      obtain ⟨p', hp', e', z', e1, e2, e3⟩ := hv _ (hov _ this)
      refine ⟨_, this, ?_⟩
      obtain ⟨z2, f1, f2, f3⟩ := hpair p hp
      have g2 : Srt.IsPair hsh (.ref p.1) z2.1 z2.2 := by rw [ehs]; exact f2.keeps kt
      rw [kOf_pair g2]
      rw [f1] at e
      injection e with a1 e
      injection e with a2 _
      exact pt_ext a1 a2
  have hlen : (out.map backV).length ≤ sizeLine := by rw [List.length_map, hb.perm.length_eq]; exact hvz
  have J : Inv X pins σ (L2.upd H s1.heap.objs.size (.lst (out.map backV))) { s with heap := sortedHeap (s1.heap.push (seqObj "list" vs.toArray 0)) s1.heap.objs.size vs out.toArray, gens := s1.gens, drawn := s1.drawn, toks := s1.toks } :=
    I.call (ch := []) (Un.laid kp hz hn) (I.hok.laid kp hz ⟨hlen, out, c, vals_back h3, hcL⟩) (by rw [g1]; exact I.bare) (fun _ z => nomatch z)
  refine wpAny_pure ⟨_, rfl, .ref s1.heap.objs.size, _, ?_, rfl, q _ _ _ hn ris mem (pts out hov)⟩
  have e : ({ s1 with heap := sortedHeap (s1.heap.push (seqObj "list" vs.toArray 0)) s1.heap.objs.size vs out.toArray } : Shared) = { s with heap := sortedHeap (s1.heap.push (seqObj "list" vs.toArray 0)) s1.heap.objs.size vs out.toArray, gens := s1.gens, drawn := s1.drawn, toks := s1.toks } := by
    cases s1
    cases s
    cases o1
    rfl
  rw [e]
  exact J
end
end Tl

end
-- W14
section
set_option maxHeartbeats 200000
namespace Tl
open PySem PySem.Spec PyProof.Rows L2
section
variable {X : Cx} {p pos : Pos} {e : Expr} {es : List Expr} {t : TA}
theorem pe_setC (B : Bi X.mg) (ha : PA X (e :: es) t) (hu : X.A.units + 64 < cLine) (hc : X.calm = true := by rfl) (hg : Gl X "set" := by rfl) (he : starEach (e :: es) X.env = (false, eval e X.env) :: starEach es X.env := by rfl) (hpl : (backTo pos (starEach es X.env)).any (·.1) = false := by rfl) : PE X (.Call (.Name "set" p) (e :: es) [] pos) (tCB (rSetP X.prog X.w X.K) t) := pe_callTy (call_setP hc hu) hg B.set boot_set ha (he := he) (hpl := hpl)
theorem pe_sortSP (B : Bi X.mg) (ha : PA X (e :: es) t) (hu : X.A.units + 65 < cLine) (hc : X.calm = true := by rfl) (hg : Gl X "sorted" := by rfl) (he : starEach (e :: es) X.env = (false, eval e X.env) :: starEach es X.env := by rfl) (hpl : (backTo pos (starEach es X.env)).any (·.1) = false := by rfl) : PE X (.Call (.Name "sorted" p) (e :: es) [] pos) (tCB (rSortSP X.prog X.w X.K) t) := pe_callB (call_sortSP hc hu) hg B.sorted boot_sorted ha (he := he) (hpl := hpl)
theorem pe_sortTri (B : Bi X.mg) (ha : PA X (e :: es) t) (hu : X.A.units + 65 < cLine) (hg : Gl X "sorted" := by rfl) (he : starEach (e :: es) X.env = (false, eval e X.env) :: starEach es X.env := by rfl) (hpl : (backTo pos (starEach es X.env)).any (·.1) = false := by rfl) : PE X (.Call (.Name "sorted" p) (e :: es) [] pos) (tCB (rSortTri X.K) t) := pe_callB (call_sortTri hu) hg B.sorted boot_sorted ha (he := he) (hpl := hpl)
end
theorem Go.free {f row l : Addr} {H H1 : Hp} {m0 m : Nat} (g : Go f row H H1 m0 m) (h : H1 l = none) : H l = none := by
  cases e : H l with
  | none => rfl
  | some o =>
    obtain ⟨_, _, _, _, a1, _⟩ := g.feed
    have n : l ≠ f := fun z => by subst z; rw [a1] at h; cases h
    rw [g.keep l o n e] at h; cases h
theorem Go.new {f row p : Addr} {H H1 : Hp} {m0 m : Nat} {o : HO} (g : Go f row H H1 m0 m) (h : H1 p = none) : Go f row H (L2.upd H1 p o) m0 m := g.same (Same.upd h)
theorem lst_nk {xs : List V} : ∀ kvs, HO.lst xs ≠ .dK kvs := fun _ z => by cases z
/-- the pushed extras -/
def ext3 : Nat → Pt
  | 0 => (0, 0)
  | 1 => (0, 1)
  | _ => (1, 0)
def ExS (S0 : List Pt) : Nat → List Pt → Prop
  | 0, S => S = S0
  | n + 1, S => ∃ S', ExS S0 n S' ∧ (if spreadB S' = true then S = S' else More S' S (ext3 n))
theorem exs_field {S0 S : List Pt} (r : Rising S0) (h : ExS S0 3 S) : Field S := by
  obtain ⟨S2, ⟨S1, ⟨S0', h0, h1⟩, h2⟩, h3⟩ := h
  cases h0
  exact three_extras r h1 h2 h3
end Tl

end
-- D1
section
set_option maxHeartbeats 200000
namespace Tl
open PySem PySem.Spec PyProof.Rows L2
section
variable {P : Program} {w : World} {K : PySem.W.Frag} {mg : Str → Option Value} {base : Heap}
/-! points -/
def sp_is_number (K : PySem.W.Frag) : Sp := fun vs H Q _ => ∃ i : Int, vs = [.int i] ∧ Q (.bl true) H
abbrev s_is_number : Stmt := top 4
theorem sc_is_number : FnScope ["thing"] ["thing"] (defScope s_is_number) := ⟨rfl, rfl, rfl, by decide +kernel, rfl, by decide +kernel, by decide +kernel⟩
theorem ok_is_number (B : Bi mg)  (D : Df K mg "is_number" s_is_number ["thing"]) : Cal P w K mg base CX0 "is_number" 1 ["thing"] (sp_is_number K) := by
  refine D.ok 0 sc_is_number (fun vs H Q E h => ?_) (fun f cdv A outer s H vs Q E hr h => ?_)
  · obtain ⟨i, rfl, _⟩ := h; rfl
  · obtain ⟨i, rfl, k⟩ := h
    refine ⟨_, pss_one (ps_ret (pe_and (pe_isN B (pa_cons (pv 0) (pa_cons (pe_ty boot_int B.int) pa_nil)) : PE _ _ (tCB (rIsN K) _)) (pe_one (pe_not (pe_isN B (pa_cons (pv 0) (pa_cons (pe_ty boot_bool B.bool) pa_nil)) : PE _ _ (tCB (rIsN K) _)))))), ?_⟩
    exact ⟨_, rfl, .inr ⟨_, _, _, rfl, kit_ii, true, rfl, (iteT ⟨_, rfl, .inr ⟨_, _, _, rfl, kit_ib, false, rfl, k⟩⟩ : if true = true then _ else _)⟩⟩
def sp_is_point (K : PySem.W.Frag) : Sp := fun vs H Q _ => ∃ v p, vs = [v] ∧ Tp K H v (kPt p) ∧ Q (.bl true) H
abbrev s_is_point : Stmt := top 6
theorem sc_is_point : FnScope ["thing"] ["thing"] (defScope s_is_point) := ⟨rfl, rfl, rfl, by decide +kernel, rfl, by decide +kernel, by decide +kernel⟩
theorem ok_is_point (B : Bi mg) (C_is_number : Cal P w K mg base CX0 "is_number" 1 ["thing"] (sp_is_number K)) (D : Df K mg "is_point" s_is_point ["thing"]) : Cal P w K mg base CX0 "is_point" 2 ["thing"] (sp_is_point K) := by
  refine D.ok 1 sc_is_point (fun vs H Q E h => ?_) (fun f cdv A outer s H vs Q E hr h => ?_)
  · obtain ⟨v, p, rfl, _⟩ := h; rfl
  · obtain ⟨v, p, rfl, hv, k⟩ := h
    refine ⟨_, pss_one (ps_ret (pe_and (pe_isN B (pa_cons (pv 0) (pa_cons (pe_ty boot_tuple B.tuple) pa_nil)) : PE _ _ (tCB (rIsN K) _)) (pe_and (pe_cmpR op_eq (pe_lenT B (pa_cons (pv 0) pa_nil) : PE _ _ (tCB (rLenT K) _)) pe_int (nomark _)) (pe_and (pe_go C_is_number (hr.mono (by decide)) (pa_cons (pe_ix (ix_p0 : IxR _ (rP0 K)) (pv 0) pe_int (fun _ _ => rfl)) pa_nil)) (pe_one (pe_go C_is_number (hr.mono (by decide)) (pa_cons (pe_ix (ix_p1 : IxR _ (rP1 K)) (pv 0) pe_int (fun _ _ => rfl)) pa_nil))))))), ?_⟩
    refine ⟨_, rfl, .inl ⟨_, _, _, _, rfl, hv, kit_tt, true, rfl, iteT ?_⟩⟩
    refine ⟨_, rfl, _, _, rfl, hv, rfl, true, rfl, iteT ?_⟩
    refine ⟨_, rfl, _, hv, rfl, _, rfl, true, rfl, iteT ?_⟩
    exact ⟨_, rfl, _, hv, rfl, _, rfl, k⟩
def sp_turning (K : PySem.W.Frag) : Sp := fun vs H Q _ => ∃ u v x a b c, vs = [u, v, x] ∧ Tp K H u (kPt a) ∧ Tp K H v (kPt b) ∧ Tp K H x (kPt c) ∧ Bd a ∧ Bd b ∧ Bd c ∧ Q (.int (turn a b c)) H
abbrev s_turning : Stmt := top 7
theorem sc_turning : FnScope ["a", "b", "c"] ["a", "b", "c"] (defScope s_turning) := ⟨rfl, rfl, rfl, by decide +kernel, rfl, by decide +kernel, by decide +kernel⟩
theorem ok_turning (B : Bi mg)  (D : Df K mg "turning" s_turning ["a", "b", "c"]) : Cal P w K mg base CX0 "turning" 1 ["a", "b", "c"] (sp_turning K) := by
  refine D.ok 0 sc_turning (fun vs H Q E h => ?_) (fun f cdv A outer s H vs Q E hr h => ?_)
  · obtain ⟨u, v, x, a, b, c, rfl, _⟩ := h; rfl
  · obtain ⟨u, v, x, a, b, c, rfl, ha, hb, hc, ba, bb, bc, k⟩ := h
    refine ⟨_, pss_one (ps_ret (pe_op op_sub (pe_op op_mul (pe_op op_sub (pe_ix (ix_p0 : IxR _ (rP0 K)) (pv 1) pe_int (fun _ _ => rfl)) (pe_ix (ix_p0 : IxR _ (rP0 K)) (pv 0) pe_int (fun _ _ => rfl))) (pe_op op_sub (pe_ix (ix_p1 : IxR _ (rP1 K)) (pv 2) pe_int (fun _ _ => rfl)) (pe_ix (ix_p1 : IxR _ (rP1 K)) (pv 0) pe_int (fun _ _ => rfl)))) (pe_op op_mul (pe_op op_sub (pe_ix (ix_p1 : IxR _ (rP1 K)) (pv 1) pe_int (fun _ _ => rfl)) (pe_ix (ix_p1 : IxR _ (rP1 K)) (pv 0) pe_int (fun _ _ => rfl))) (pe_op op_sub (pe_ix (ix_p0 : IxR _ (rP0 K)) (pv 2) pe_int (fun _ _ => rfl)) (pe_ix (ix_p0 : IxR _ (rP0 K)) (pv 0) pe_int (fun _ _ => rfl)))))), ?_⟩
    unfold Bd at ba bb bc
    refine ⟨_, rfl, _, hb, rfl, _, rfl, _, ha, rfl, _, _, rfl, rfl, _, rfl, _, hc, rfl, _, rfl, _, ha, rfl, _, _, rfl, rfl, _, _, rfl, rfl, .inl ⟨by omega, by omega⟩, ?_⟩
    exact ⟨_, rfl, _, hb, rfl, _, rfl, _, ha, rfl, _, _, rfl, rfl, _, rfl, _, hc, rfl, _, rfl, _, ha, rfl, _, _, rfl, rfl, _, _, rfl, rfl, .inl ⟨by omega, by omega⟩, _, _, rfl, rfl, k⟩
def sp_side (K : PySem.W.Frag) : Sp := fun vs H Q _ => ∃ u v x a b c, vs = [u, v, x] ∧ Tp K H u (kPt a) ∧ Tp K H v (kPt b) ∧ Tp K H x (kPt c) ∧ Bd a ∧ Bd b ∧ Bd c ∧ Q (.int (sd a b c)) H
abbrev s_side : Stmt := top 8
theorem sc_side : FnScope ["a", "b", "c", "found"] ["a", "b", "c"] (defScope s_side) := ⟨rfl, rfl, rfl, by decide +kernel, rfl, by decide +kernel, by decide +kernel⟩
theorem ok_side (B : Bi mg) (C_turning : Cal P w K mg base CX0 "turning" 1 ["a", "b", "c"] (sp_turning K)) (D : Df K mg "side" s_side ["a", "b", "c"]) : Cal P w K mg base CX0 "side" 2 ["a", "b", "c"] (sp_side K) := by
  refine D.ok 1 sc_side (fun vs H Q E h => ?_) (fun f cdv A outer s H vs Q E hr h => ?_)
  · obtain ⟨u, v, x, a, b, c, rfl, _⟩ := h; rfl
  · obtain ⟨u, v, x, a, b, c, rfl, ha, hb, hc, ba, bb, bc, k⟩ := h
    refine ⟨_, pss_cons (ps_set (i := 3) sc_side.nd rfl (Or.inl rfl) (pe_go C_turning (hr.mono (by decide)) (pa_cons (pv 0) (pa_cons (pv 1) (pa_cons (pv 2) pa_nil)))))
      (pss_one (ps_ret (pe_op op_sub (pe_intC B (pa_cons (pe_cmpR op_gt (pv 3) pe_int (nomark _)) pa_nil)) (pe_intC B (pa_cons (pe_cmpR op_lt (pv 3) pe_int (nomark _)) pa_nil))))), ?_⟩
    refine ⟨_, rfl, _, rfl, _, rfl, u, v, x, a, b, c, rfl, ha, hb, hc, ba, bb, bc, ?_⟩
    refine ⟨_, rfl, _, _, rfl, rfl, .inr ⟨_, rfl, ?_⟩⟩
    refine ⟨_, rfl, _, _, rfl, rfl, .inr ⟨_, rfl, ?_⟩⟩
    refine ⟨_, _, rfl, rfl, ?_⟩
    have e : ((if decide (0 < turn a b c) = true then 1 else 0) - (if decide (turn a b c < 0) = true then 1 else 0) : Int) = sd a b c := by
      unfold sd; simp only [decide_eq_true_eq]
    show Q (.int ((if decide (0 < turn a b c) = true then 1 else 0) - (if decide (turn a b c < 0) = true then 1 else 0))) H
    rw [e]; exact k
def sp_is_between (K : PySem.W.Frag) : Sp := fun vs H Q _ => ∃ u v x a b c, vs = [u, v, x] ∧ Tp K H u (kPt a) ∧ Tp K H v (kPt b) ∧ Tp K H x (kPt c) ∧ Bd a ∧ Bd b ∧ Bd c ∧ Q (.bl (btw a b c)) H
abbrev s_is_between : Stmt := top 14
theorem sc_is_between : FnScope ["a", "b", "point"] ["a", "b", "point"] (defScope s_is_between) := ⟨rfl, rfl, rfl, by decide +kernel, rfl, by decide +kernel, by decide +kernel⟩
theorem ok_is_between (B : Bi mg) (C_side : Cal P w K mg base CX0 "side" 2 ["a", "b", "c"] (sp_side K)) (D : Df K mg "is_between" s_is_between ["a", "b", "point"]) : Cal P w K mg base CX0 "is_between" 3 ["a", "b", "point"] (sp_is_between K) := by
  refine D.ok 2 sc_is_between (fun vs H Q E h => ?_) (fun f cdv A outer s H vs Q E hr h => ?_)
  · obtain ⟨u, v, x, a, b, c, rfl, _⟩ := h; rfl
  · obtain ⟨u, v, x, a, b, c, rfl, ha, hb, hc, ba, bb, bc, k⟩ := h
    refine ⟨_, pss_one (ps_ret (pe_and (pe_chain (op_ltP (u0 hr) : OpR _ _ (rLtP K)) (op_ltP (u0 hr) : OpR _ _ (rLtP K)) (pv 0) (pv 2) (pv 1)) (pe_one (pe_cmpR op_eq (pe_go C_side (hr.mono (by decide)) (pa_cons (pv 0) (pa_cons (pv 1) (pa_cons (pv 2) pa_nil)))) pe_int (nomark _))))), ?_⟩
    refine ⟨_, rfl, _, rfl, _, _, ha, hc, _, rfl, ?_⟩
    refine ifB (fun h1 => ?_) (fun h1 => ?_)
    · refine ⟨_, rfl, _, _, hc, hb, _, rfl, ?_⟩
      refine ifB (fun h2 => ?_) (fun h2 => ?_)
      · refine ⟨_, rfl, _, rfl, _, rfl, u, v, x, a, b, c, rfl, ha, hb, hc, ba, bb, bc, rfl, ?_⟩
        have e : decide (V.int (sd a b c) = V.int 0) = btw a b c := by
          unfold btw; rw [h1, h2]; rw [Bool.eq_iff_iff]; simp [sd_zero]
        show Q (.bl (decide (V.int (sd a b c) = V.int 0))) H
        rw [e]; exact k
      · have e : btw a b c = false := by unfold btw; rw [h2]; simp
        rw [e] at k; exact k
    · refine ⟨_, rfl, iteF ?_⟩
      have e : btw a b c = false := by unfold btw; rw [h1]; simp
      rw [e] at k; exact k
def sp_is_clear (K : PySem.W.Frag) : Sp := fun vs H Q _ => ∃ u v x F a b, vs = [x, u, v] ∧ Tp K H x (kF F) ∧ Tp K H u (kPt a) ∧ Tp K H v (kPt b) ∧ (∀ p ∈ F, Bd p) ∧ F.length ≤ 9 ∧ Bd a ∧ Bd b ∧ (∀ H', Same H H' → Q (.bl (clearB F a b)) H')
abbrev s_is_clear : Stmt := top 15
theorem sc_is_clear : FnScope ["field", "a", "b", "point"] ["field", "a", "b"] (defScope s_is_clear) := ⟨rfl, rfl, rfl, by decide +kernel, rfl, by decide +kernel, by decide +kernel⟩
theorem ok_is_clear (B : Bi mg) (C_is_between : Cal P w K mg base CX0 "is_between" 3 ["a", "b", "point"] (sp_is_between K)) (D : Df K mg "is_clear" s_is_clear ["field", "a", "b"]) : Cal P w K mg base CX0 "is_clear" 4 ["field", "a", "b"] (sp_is_clear K) := by
  refine D.ok 3 sc_is_clear (fun vs H Q E h => ?_) (fun f cdv A outer s H vs Q E hr h => ?_)
  · obtain ⟨u, v, x, F, a, b, rfl, _⟩ := h; rfl
  · obtain ⟨u, v, x, F, a, b, rfl, hx, hu, hv, bF, h9, ba, bb, k⟩ := h
    refine ⟨_, pss_one (ps_ret (pe_not (pe_any B (pa_cons (pe_lc (own := [("point", 3)]) (g := gName 3) (tt := tYes) rfl sc_is_clear.nd (pi_tup (pv 0)) (blkOk_by (N := ["field", "a", "b", "point"]) (sc := defScope s_is_clear) (by decide +kernel)) (fun _ _ _ _ _ => pg_name (i := 3) sc_is_clear.nd rfl (Or.inl rfl)) (fun _ _ _ _ _ => pts_nil) (fun _ _ _ _ _ => pe_go C_is_between (hr.mono (by decide)) (pa_cons (pv 1) (pa_cons (pv 2) (pa_cons (pv 3) pa_nil))))) pa_nil) : PE _ _ (tCB (rAny K) _)))), ?_⟩
    obtain ⟨fa, xs, rfl, hp, hxs⟩ := hx.invP
    refine ⟨_, rfl, fa, rfl, ⟨xs, hp.sq⟩, fun D hD => ?_⟩
    refine lc_vals (walk_tp hp hxs) hD (fun i => ((F.take i).map (btw a b)).map V.bl) rfl (fun i hi => ?_) (fun H' s => Tx.same s) YTp.same ?_ ?_
    · simp only [List.length_map, List.length_take]; omega
    · rintro i y H1 H2 hi s ⟨rfl, q, hq, hy⟩ T F' hT _
      obtain ⟨p, hp2, rfl⟩ := get_map hq
      refine ⟨rfl, (iteT (?_ : tCall (sp_is_between K) [] E0 (tCons (tVar 1) (tCons (tVar 2) (tCons (tVar 3) tNil))) _ H2 T) : if true = true then _ else F' H2)⟩
      refine ⟨_, rfl, _, rfl, _, rfl, u, v, y, a, b, p, rfl, hu.same s, hv.same s, hy, ba, bb, bF p (mem_at hp2), ?_⟩
      exact hT _ _ Same.rfl' (by rw [take_next hp2, List.map_append, List.map_append]; rfl)
    · intro H2 s2 hD2
      refine ⟨D, _, rfl, ofL hD2, _, rfl, ?_⟩
      have e : (!((List.map (btw a b) (List.take (List.map kPt F).length F)).any id)) = clearB F a b := by
        unfold clearB; rw [List.length_map, List.take_length, List.any_map]; rfl
      show Q (.bl (!((List.map (btw a b) (List.take (List.map kPt F).length F)).any id))) H2
      rw [e]; exact k H2 s2
def sp_is_tie (K : PySem.W.Frag) : Sp := fun vs H Q _ => ∃ x t F a b, vs = [x, t] ∧ Tp K H x (kF F) ∧ Tp K H t (kE (a, b)) ∧ (∀ p ∈ F, Bd p) ∧ F.length ≤ 9 ∧ a ∈ F ∧ b ∈ F ∧ plt a b ∧ clear F a b ∧ (∀ H', Same H H' → Q (.bl true) H')
abbrev s_is_tie : Stmt := top 16
theorem sc_is_tie : FnScope ["field", "thing", "one"] ["field", "thing"] (defScope s_is_tie) := ⟨rfl, rfl, rfl, by decide +kernel, rfl, by decide +kernel, by decide +kernel⟩
theorem ok_is_tie (B : Bi mg) (C_is_clear : Cal P w K mg base CX0 "is_clear" 4 ["field", "a", "b"] (sp_is_clear K)) (C_is_point : Cal P w K mg base CX0 "is_point" 2 ["thing"] (sp_is_point K)) (D : Df K mg "is_tie" s_is_tie ["field", "thing"]) : Cal P w K mg base CX0 "is_tie" 5 ["field", "thing"] (sp_is_tie K) := by
  refine D.ok 4 sc_is_tie (fun vs H Q E h => ?_) (fun f cdv A outer s H vs Q E hr h => ?_)
  · obtain ⟨x, t, F, a, b, rfl, _⟩ := h; rfl
  · obtain ⟨x, t, F, a, b, rfl, hx, ht, bF, h9, ia, ib, hab, hcl, k⟩ := h
    refine ⟨_, pss_cons (ps_if (PW.pt (pw_or (pt_not (pt_val (pe_isN B (pa_cons (pv 1) (pa_cons (pe_ty boot_tuple B.tuple) pa_nil)) : PE _ _ (tCB (rIsN K) _)))) (pw_or (pt_cmpR op_ne (pe_lenT B (pa_cons (pv 1) pa_nil) : PE _ _ (tCB (rLenT K) _)) pe_int (nomark _)) (pw_or1 (pt_not (pt_val (pe_all B (pa_cons (pe_lc (own := [("one", 2)]) (g := gName 2) (tt := tYes) rfl sc_is_tie.nd (pi_tup (pv 1)) (blkOk_by (N := ["field", "thing", "one"]) (sc := defScope s_is_tie) (by decide +kernel)) (fun _ _ _ _ _ => pg_name (i := 2) sc_is_tie.nd rfl (Or.inl rfl)) (fun _ _ _ _ _ => pts_nil) (fun _ _ _ _ _ => pe_and (pe_go C_is_point (hr.mono (by decide)) (pa_cons (pv 2) pa_nil)) (pe_one (pe_cmpR (op_inN (u65 hr) : OpR _ _ (rInN K false)) (pv 2) (pv 0) rfl)))) pa_nil) : PE _ _ (tCB (rAll K) _))))))))
      (pss_one (ps_ret pe_bl))
      pss_nil)
      (pss_one (ps_ret (pe_and (pe_cmpR (op_ltP (u0 hr) : OpR _ _ (rLtP K)) (pe_ix (ix_tupN : IxR _ (rIxN K)) (pv 1) pe_int (fun _ _ => rfl)) (pe_ix (ix_tupN : IxR _ (rIxN K)) (pv 1) pe_int (fun _ _ => rfl)) (nomark _)) (pe_one (pe_go C_is_clear (hr.mono (by decide)) (pa_cons (pv 0) (pa_cons (pe_ix (ix_tupN : IxR _ (rIxN K)) (pv 1) pe_int (fun _ _ => rfl)) (pa_cons (pe_ix (ix_tupN : IxR _ (rIxN K)) (pv 1) pe_int (fun _ _ => rfl)) pa_nil)))))))), ?_⟩
    obtain ⟨ta, ts, rfl, tp, tks⟩ := ht.invP
    refine ⟨_, rfl, .inl ⟨_, _, _, true, rfl, ht, kit_tt, true, rfl, ?_⟩⟩
    refine ⟨_, rfl, _, _, rfl, ht, rfl, false, rfl, ?_⟩
    refine ⟨_, rfl, ta, rfl, ⟨ts, tp.sq⟩, fun D hD => ?_⟩
    refine lc_vals (walk_tp tp tks) hD (fun i => ([true, true].take i).map V.bl) rfl (fun i hi => ?_) (fun H' s => Tx.same s) YTp.same ?_ ?_
    · have h2 : i < 2 := hi
      simp only [List.length_map, List.length_take]; omega
    · rintro i y H1 H2 hi s ⟨rfl, q, hq, hy⟩ T F' hT _
      have hz : ∃ p, q = kPt p ∧ p ∈ F ∧ ([true, true].take (i + 1)).map V.bl = ([true, true].take i).map V.bl ++ [V.bl true] := by
        match i, hq with
        | 0, hq => exact ⟨a, (Option.some.inj hq).symm, ia, rfl⟩
        | 1, hq => exact ⟨b, (Option.some.inj hq).symm, ib, rfl⟩
        | i + 2, hq => simp at hq
      obtain ⟨p, rfl, ip, hz⟩ := hz
      obtain ⟨fa, fs, rfl, fp, fks⟩ := (hx.same s).invP
      refine ⟨rfl, ?_⟩
      refine ⟨_, rfl, y, p, rfl, hy, true, rfl, ?_⟩
      refine ⟨_, rfl, _, rfl, fa, kPt p, fs, F.map kPt, rfl, hy, .inr fp.sq, fks, ?_, ?_, ?_⟩
      · have := kPt_d p; omega
      · intro l hl; obtain ⟨r, _, rfl⟩ := List.mem_map.mp hl; have := kPt_d r; omega
      · have e : decide (kPt p ∈ F.map kPt) = true := decide_eq_true (List.mem_map.mpr ⟨p, ip, rfl⟩)
        show T (V.bl (decide (kPt p ∈ F.map kPt))) H2
        rw [e]
        exact hT _ _ Same.rfl' hz
    · intro H2 s2 hD2
      refine ⟨D, _, rfl, ofL hD2, true, rfl, ?_⟩
      refine ⟨_, rfl, _, _, _, ht.same s2, rfl, rfl, fun va hva => ?_⟩
      refine ⟨_, rfl, _, _, _, ht.same s2, rfl, rfl, fun vb hvb => ?_⟩
      refine ⟨_, _, hva, hvb, true, by rw [decide_eq_true hab], ?_⟩
      refine ⟨_, rfl, _, rfl, _, _, _, ht.same s2, rfl, rfl, fun va' hva' => ?_⟩
      refine ⟨_, rfl, _, _, _, ht.same s2, rfl, rfl, fun vb' hvb' => ?_⟩
      refine ⟨va', vb', x, F, a, b, rfl, hx.same s2, hva', hvb', bF, h9, bF a ia, bF b ib, fun H3 s3 => ?_⟩
      rw [clearB_iff.mpr hcl]
      exact k H3 (Same.tr s2 s3)
end
end Tl

end
-- D2
section
set_option maxHeartbeats 200000
namespace Tl
open PySem PySem.Spec PyProof.Rows L2
section
variable {P : Program} {w : World} {K : PySem.W.Frag} {mg : Str → Option Value} {base : Heap}
def sp_ties (K : PySem.W.Frag) : Sp := fun vs H Q _ => ∃ x F, vs = [x] ∧ Tp K H x (kF F) ∧ (∀ p ∈ F, Bd p) ∧ F.length ≤ 9 ∧ Nw K H Q (.tup ((tiesOf F F).map kE))
abbrev s_ties : Stmt := top 17
theorem sc_ties : FnScope ["field", "found", "k", "other"] ["field"] (defScope s_ties) := ⟨rfl, rfl, rfl, by decide +kernel, rfl, by decide +kernel, by decide +kernel⟩
theorem ok_ties (B : Bi mg) (C_is_clear : Cal P w K mg base CX0 "is_clear" 4 ["field", "a", "b"] (sp_is_clear K)) (D : Df K mg "ties" s_ties ["field"]) : Cal P w K mg base CX0 "ties" 5 ["field"] (sp_ties K) := by
  refine D.ok 4 sc_ties (fun vs H Q E h => ?_) (fun f cdv A outer s H vs Q E hr h => ?_)
  · obtain ⟨x, F, rfl, _⟩ := h; rfl
  · obtain ⟨x, F, rfl, hx, bF, h9, k⟩ := h
    refine ⟨_, pss_cons (ps_set (i := 1) sc_ties.nd rfl (Or.inl rfl) (pe_lst pa_nil))
      (pss_cons (ps_for PassesOwn.never rfl (pi_range1 (by rfl) B.range (pa_cons (pe_lenT B (pa_cons (pv 0) pa_nil) : PE _ _ (tCB (rLenT K) _)) pa_nil)) (pg_name (i := 2) sc_ties.nd rfl (Or.inr rfl))
      (pss_one (ps_expr (pe_bm PySem.F.plainAttrs_list PySem.F.slot_list_extend PySem.F.type_list_extend mt_extend (pv 1) (pa_cons (pe_lc (own := [("other", 3)]) (g := gName 3) rfl sc_ties.nd (pi_tup (pe_slice (sl_tupN : SlR _ (rSlN K)) (pv 0) (po_some (pe_op op_add (pv 2) pe_int)) po_none)) (blkOk_by (N := ["field", "found", "k", "other"]) (sc := defScope s_ties) (by decide +kernel)) (fun _ _ _ _ _ => pg_name (i := 3) sc_ties.nd rfl (Or.inl rfl)) (fun _ _ _ _ _ => pts_one (pt_val (pe_go C_is_clear (hr.mono (by decide)) (pa_cons (pv 0) (pa_cons (pe_ix (ix_tupN : IxR _ (rIxN K)) (pv 0) (pv 2) (fun _ _ => rfl)) (pa_cons (pv 3) pa_nil)))))) (fun _ _ _ _ _ => (pe_tupN (pa_cons (pe_ix (ix_tupN : IxR _ (rIxN K)) (pv 0) (pv 2) (fun _ _ => rfl)) (pa_cons (pv 3) pa_nil)) : PE _ _ (tTupN K _)))) pa_nil)))))
      (pss_one (ps_ret (pe_tupleC B (pa_cons (pv 1) pa_nil) : PE _ _ (tCB (rTupN K) _))))), ?_⟩
    refine ⟨Nat.zero_le _, fun l hl => ?_⟩
    have s0 : Same H (upd H l (.lst [])) := Same.upd hl
    refine ⟨_, rfl, _, _, rfl, hx.same s0, _, rfl, ?_⟩
    rw [List.length_map]
    refine ⟨by omega, by omega, ?_⟩
    have hn : (((F.length : Nat) : Int)).toNat = F.length := by omega
    rw [hn]
    have tl := tiesOf_len F F
    have tl2 : F.length * F.length ≤ 9 * 9 := Nat.mul_le_mul h9 h9
    refine for_it walk_range (fun i σ H1 => ∃ y2 y3 es ws, σ = [some x, some (.ref l), y2, y3] ∧ Same H H1 ∧ H1 l = some (.lst ws) ∧ TpAll K H1 ws (es.map kE) ∧ es ++ tiesOf F (F.drop i) = tiesOf F F) ⟨none, none, [], [], rfl, s0, upd_same, .nil, rfl⟩ (fun _ _ _ _ _ => trivial) ?_ ?_
    · rintro i y σ H1 H1' hi ⟨y2, y3, es, ws, rfl, s1, hl1, hw, eq⟩ ⟨rfl, rfl⟩
      obtain ⟨a, ha⟩ := at_lt hi
      have hd := drop_at ha
      have hx1 := hx.same s1
      refine ⟨_, rfl, .inl ⟨rfl, _, ofL hl1⟩, ?_⟩
      refine ⟨_, rfl, _, rfl, _, _, rfl, rfl, _, rfl, ?_⟩
      refine ⟨_, hx1, ?_⟩
      rw [cut_from (j := i + 1) (by omega), ← List.map_drop]
      intro v H2 s2 hv
      obtain ⟨t, ts, rfl, tp, tks⟩ := hv.invP
      refine ⟨t, rfl, ⟨ts, tp.sq⟩, fun D hD => ?_⟩
      refine lc_pure (K := K) (walk_tp tp tks) hD (fun j => (((F.drop (i + 1)).take j).filter (clearB F a)).map fun o => kE (a, o)) rfl (fun j hj => ?_) (fun H' s => Tx.same s) YTp.same ?_ ?_
      · have h2 : j < ((F.drop (i + 1)).map kPt).length := hj
        rw [List.length_map, List.length_drop] at h2
        have h3 := List.length_filter_le (clearB F a) ((F.drop (i + 1)).take j)
        rw [List.length_take, List.length_drop] at h3
        show ((((F.drop (i + 1)).take j).filter (clearB F a)).map fun o => kE (a, o)).length ≤ 100000
        rw [List.length_map]
        omega
      · rintro j y H3 H3' hj s3 ⟨rfl, q, hq, hy⟩ T F' hT hF
        obtain ⟨o, ho, rfl⟩ := get_map hq
        have hoF : o ∈ F := List.mem_of_mem_drop (mem_at ho)
        have hx3 := (hx1.same s2).same s3
        refine ⟨rfl, ?_⟩
        refine ⟨_, rfl, _, rfl, _, rfl, _, _, _, hx3, rfl, atI_of (j := i) (by omega) (map_at ha), fun va hva => ?_⟩
        refine ⟨_, rfl, _, _, _, F, a, o, rfl, hx3, hva, hy, bF, h9, bF a (mem_at ha), bF o hoF, fun H4 s4 => ?_⟩
        refine ⟨_, rfl, ?_⟩
        refine ifB (fun e => ?_) (fun e => ?_)
        · refine ⟨_, rfl, _, rfl, _, _, _, hx3.same s4, rfl, atI_of (j := i) (by omega) (map_at ha), fun va hva => ?_⟩
          refine ⟨_, rfl, ?_, _, tps2 hva (hy.same s4), fun vt H5 s5 hvt => ?_⟩
          · show 2 ≤ 1000; decide
          refine hT _ _ (kE (a, o)) (Same.tr s4 s5) hvt ?_
          rw [take_next ho, List.filter_append, List.map_append]
          simp [e]
        · refine hF _ s4 ?_
          rw [take_next ho, List.filter_append, List.map_append]
          simp [e]
      · intro H3 zs s3 hz hzs
        have sA := Same.tr s2 s3
        have hl3 := sA _ _ hl1
        have hall : ((((F.drop (i + 1)).take ((F.drop (i + 1)).map kPt).length).filter (clearB F a)).map fun o => kE (a, o)) = (((F.drop (i + 1)).filter (clearB F a)).map fun o => (a, o)).map kE := by
          rw [List.length_map, List.take_length, List.map_map]; rfl
        rw [hall] at hzs
        have len1 := hw.length
        have len2 := hzs.length
        have e2 : (es ++ (((F.drop (i + 1)).filter (clearB F a)).map fun o => (a, o))) ++ tiesOf F (F.drop (i + 1)) = tiesOf F F := by
          rw [← eq, hd, List.append_assoc]; rfl
        have e3 := congrArg List.length e2
        rw [List.length_append, List.length_append] at e3
        rw [List.length_map] at len1 len2
        refine ⟨l, D, ws, zs, rfl, rfl, hl3, hz, thousand (by omega), ?_⟩
        refine ⟨_, _, _, _, rfl, Same.own (Same.tr s1 sA) hl, upd_same, ?_, e2⟩
        rw [List.map_append]
        exact ((hw.same sA).append hzs).up (Tx.lst hl3)
    · rintro σ H1 ⟨y2, y3, es, ws, rfl, s1, hl1, hw, eq⟩
      rw [List.drop_length] at eq
      have e0 : es = tiesOf F F := by rw [← eq]; exact (List.append_nil es).symm
      subst e0
      exact ⟨_, rfl, l, ws, _, rfl, ofL hl1, hw, fun v H2 s2 hv => k v H2 (Same.tr s1 s2) hv⟩
end
end Tl

end
-- D3
section
set_option maxHeartbeats 200000
namespace Tl
open PySem PySem.Spec PyProof.Rows L2
section
variable {P : Program} {w : World} {K : PySem.W.Frag} {mg : Str → Option Value} {base : Heap}
def sp_is_front (K : PySem.W.Frag) : Sp := fun vs H Q _ => ∃ x t F g, vs = [x, t] ∧ Tp K H x (kF F) ∧ Tp K H t (kF g) ∧ (∀ p ∈ F, Bd p) ∧ F.length ≤ 9 ∧ 2 ≤ g.length ∧ g.length ≤ 9 ∧ Front F g ∧ (∀ H', Same H H' → Q (.bl true) H')
abbrev s_is_front : Stmt := top 19
theorem sc_is_front : FnScope ["field", "thing", "k"] ["field", "thing"] (defScope s_is_front) := ⟨rfl, rfl, rfl, by decide +kernel, rfl, by decide +kernel, by decide +kernel⟩
theorem ok_is_front (B : Bi mg) (C_is_tie : Cal P w K mg base CX0 "is_tie" 5 ["field", "thing"] (sp_is_tie K)) (D : Df K mg "is_front" s_is_front ["field", "thing"]) : Cal P w K mg base CX0 "is_front" 6 ["field", "thing"] (sp_is_front K) := by
  refine D.ok 5 sc_is_front (fun vs H Q E h => ?_) (fun f cdv A outer s H vs Q E hr h => ?_)
  · obtain ⟨x, t, F, g, rfl, _⟩ := h; rfl
  · obtain ⟨x, t, F, g, rfl, hx, ht, bF, h9, g2, g9, fr, k⟩ := h
    refine ⟨_, pss_cons (ps_if (PW.pt (pw_or (pt_not (pt_val (pe_isN B (pa_cons (pv 1) (pa_cons (pe_ty boot_tuple B.tuple) pa_nil)) : PE _ _ (tCB (rIsN K) _)))) (pw_or (pt_cmpR op_lt (pe_lenT B (pa_cons (pv 1) pa_nil) : PE _ _ (tCB (rLenT K) _)) pe_int (nomark _)) (pw_or (pt_cmpR (op_neN (u64 hr) : OpR _ _ (rEqN K true)) (pe_ix (ix_tupN : IxR _ (rIxN K)) (pv 1) pe_int (fun _ _ => rfl)) (pe_ix (ix_tupN : IxR _ (rIxN K)) (pv 0) pe_int (fun _ _ => rfl)) (nomark _)) (pw_or1 (pt_cmpR (op_neN (u64 hr) : OpR _ _ (rEqN K true)) (pe_ix (ix_tupN : IxR _ (rIxN K)) (pv 1) (pe_un un_neg pe_int) (fun _ _ => rfl)) (pe_ix (ix_tupN : IxR _ (rIxN K)) (pv 0) (pe_un un_neg pe_int) (fun _ _ => rfl)) (nomark _)))))))
      (pss_one (ps_ret pe_bl))
      pss_nil)
      (pss_one (ps_ret (pe_all B (pa_cons (pe_lc (own := [("k", 2)]) (g := gName 2) (tt := tYes) rfl sc_is_front.nd (pi_range2 (by rfl) B.range (pa_cons pe_int (pa_cons (pe_lenT B (pa_cons (pv 1) pa_nil) : PE _ _ (tCB (rLenT K) _)) pa_nil))) (blkOk_by (N := ["field", "thing", "k"]) (sc := defScope s_is_front) (by decide +kernel)) (fun _ _ _ _ _ => pg_name (i := 2) sc_is_front.nd rfl (Or.inl rfl)) (fun _ _ _ _ _ => pts_nil) (fun _ _ _ _ _ => pe_go C_is_tie (hr.mono (by decide)) (pa_cons (pv 0) (pa_cons (pe_tupN (pa_cons (pe_ix (ix_tupN : IxR _ (rIxN K)) (pv 1) (pe_op op_sub (pv 2) pe_int) (fun _ _ => rfl)) (pa_cons (pe_ix (ix_tupN : IxR _ (rIxN K)) (pv 1) (pv 2) (fun _ _ => rfl)) pa_nil)) : PE _ _ (tTupN K _)) pa_nil)))) pa_nil) : PE _ _ (tCB (rAll K) _)))), ?_⟩
    have he : g.head? = F.head? := fr.hd
    have hl : g.getLast? = F.getLast? := fr.la
    obtain ⟨p0, hp0⟩ := at_lt (l := g) (i := 0) (by omega)
    have hh : g.head? = some p0 := by cases g with | nil => simp at hp0 | cons x r => exact hp0
    have hF0 : F[0]? = some p0 := head_at (by rw [← he]; exact hh)
    obtain ⟨pl, hpl⟩ : ∃ pl, g.getLast? = some pl := by
      cases e : g.getLast? with
      | none => rw [List.getLast?_eq_none_iff] at e; subst e; simp at g2
      | some p => exact ⟨p, rfl⟩
    have hg1 : atI (g.map kPt) (-1) = some (kPt pl) := last_atI (by rw [List.getLast?_map, hpl]; rfl)
    have hF1 : atI (F.map kPt) (-1) = some (kPt pl) := last_atI (by rw [List.getLast?_map, ← hl, hpl]; rfl)
    have dp := kPt_d p0
    have dl := kPt_d pl
    refine ⟨_, rfl, .inl ⟨_, _, _, true, rfl, ht, kit_tt, true, rfl, ?_⟩⟩
    refine ⟨_, rfl, _, _, rfl, ht, _, _, rfl, rfl, false, dF (by rw [List.length_map]; omega), ?_⟩
    refine ⟨_, rfl, _, _, _, ht, rfl, atI_of (j := 0) rfl (map_at hp0), fun v1 hv1 => ?_⟩
    refine ⟨_, rfl, _, _, _, hx, rfl, atI_of (j := 0) rfl (map_at hF0), fun v2 hv2 => ?_⟩
    refine ⟨_, _, hv1, hv2, by omega, by omega, false, by simp, ?_⟩
    refine ⟨_, rfl, 1, rfl, _, _, _, ht, rfl, hg1, fun v3 hv3 => ?_⟩
    refine ⟨_, rfl, 1, rfl, _, _, _, hx, rfl, hF1, fun v4 hv4 => ?_⟩
    refine ⟨_, _, hv3, hv4, by omega, by omega, false, by simp, ?_⟩
    refine ⟨_, rfl, _, _, rfl, ht, 1, _, rfl, ?_⟩
    rw [List.length_map]
    refine ⟨by omega, fun D hD => ?_⟩
    have hn : (((g.length : Nat) : Int) - 1).toNat = g.length - 1 := by omega
    rw [hn]
    refine lc_vals walk_range hD (fun i => (List.replicate i true).map V.bl) rfl (fun i hi => ?_) (fun _ _ => trivial) YFn.same ?_ ?_
    · rw [List.length_map, List.length_replicate]; omega
    · rintro i y H1 H2 hi s ⟨rfl, rfl⟩ T F' hT _
      obtain ⟨a, ha⟩ := at_lt (l := g) (i := i) (by omega)
      obtain ⟨b, hb⟩ := at_lt (l := g) (i := i + 1) (by omega)
      have hm : (a, b) ∈ prs g := mem_at (prs_get ha hb)
      have ht2 := ht.same s
      refine ⟨rfl, ?_⟩
      refine ⟨_, rfl, _, rfl, _, rfl, _, _, rfl, rfl, _, _, _, ht2, rfl, atI_of (j := i) (by omega) (map_at ha), fun va hva => ?_⟩
      refine ⟨_, rfl, _, rfl, _, _, _, ht2, rfl, atI_of (j := i + 1) (by omega) (map_at hb), fun vb hvb => ?_⟩
      refine ⟨by show 2 ≤ 1000; decide, _, tps2 hva hvb, fun vt H3 s3 hvt => ?_⟩
      refine ⟨x, vt, F, a, b, rfl, (hx.same s).same s3, hvt, bF, h9, fr.mem a (mem_at ha), fr.mem b (mem_at hb), prs_lt fr.ris hm, fr.cl _ hm, fun H4 s4 => ?_⟩
      refine hT _ _ (Same.tr s3 s4) ?_
      show (List.replicate (i + 1) true).map V.bl = (List.replicate i true).map V.bl ++ [V.bl true]
      rw [List.replicate_succ', List.map_append]; rfl
    · intro H2 s2 hD2
      refine ⟨D, _, rfl, ofL hD2, ?_⟩
      have e : (List.replicate (g.length - 1) true).all id = true := by simp
      rw [e]; exact k H2 s2
theorem idx_at {α : Type} [BEq α] [LawfulBEq α] {a : α} : ∀ {l : List α}, a ∈ l → l[l.idxOf a]? = some a
  | [], h => by cases h
  | x :: l, h => by
    rw [List.idxOf_cons]
    cases e : (x == a) with
    | true => rw [eq_of_beq e]; rfl
    | false =>
      have h2 : a ∈ l := by
        rcases List.mem_cons.mp h with q | q
        · subst q; simp at e
        · exact q
      exact idx_at h2
def sp_gone_over (K : PySem.W.Frag) : Sp := fun vs H Q _ => ∃ x t g r, vs = [x, .int 0, t] ∧ Tp K H x (kF g) ∧ Tp K H t (kT r) ∧ Bd r.1 ∧ Bd r.2.1 ∧ Bd r.2.2 ∧ g.length ≤ 9 ∧
  (gone g r = none → ∀ H', Same H H' → Q .non H') ∧ (∀ j g', gone g r = some (j, g') → Nw K H Q (.tup [.num (j : Nat), kF g']))
abbrev s_gone_over : Stmt := top 20
theorem sc_gone_over : FnScope ["front", "mark", "triangle", "a", "b", "c", "place"] ["front", "mark", "triangle"] (defScope s_gone_over) := ⟨rfl, rfl, rfl, by decide +kernel, rfl, by decide +kernel, by decide +kernel⟩
theorem ok_gone_over (B : Bi mg) (C_side : Cal P w K mg base CX0 "side" 2 ["a", "b", "c"] (sp_side K)) (D : Df K mg "gone_over" s_gone_over ["front", "mark", "triangle"]) : Cal P w K mg base CX0 "gone_over" 3 ["front", "mark", "triangle"] (sp_gone_over K) := by
  refine D.ok 2 sc_gone_over (fun vs H Q E h => ?_) (fun f cdv A outer s H vs Q E hr h => ?_)
  · obtain ⟨x, t, g, r, rfl, _⟩ := h; rfl
  · obtain ⟨x, t, g, r, rfl, hx, ht, b1, b2, b3, g9, kn, ks⟩ := h
    refine ⟨_, pss_cons (ps_asg (pv 2) (pg_tup rfl (pgs_cons (pg_name (i := 3) sc_gone_over.nd rfl (Or.inl rfl)) (pgs_cons (pg_name (i := 4) sc_gone_over.nd rfl (Or.inl rfl)) (pgs_cons (pg_name (i := 5) sc_gone_over.nd rfl (Or.inl rfl)) pgs_nil)))))
      (pss_cons (ps_if (pt_cmpR (op_notInN (u65 hr) : OpR _ _ (rInN K true)) (pv 3) (pv 0) rfl)
      (pss_one (ps_ret pe_non))
      pss_nil)
      (pss_cons (ps_set (i := 6) sc_gone_over.nd rfl (Or.inl rfl) (pe_idx (u65 hr) (pv 0) (pa_cons (pv 3) pa_nil) : PE _ _ (tIdx K _ _)))
      (pss_cons (ps_if (pt_cmpR op_eq (pe_go C_side (hr.mono (by decide)) (pa_cons (pv 3) (pa_cons (pv 4) (pa_cons (pv 5) pa_nil)))) pe_int (nomark _))
      (pss_one (ps_if (PW.pt (pw_and (pt_cmpR (op_eqN (u64 hr) : OpR _ _ (rEqN K false)) (pe_slice (sl_tupN : SlR _ (rSlN K)) (pv 0) (po_some (pv 6)) (po_some (pe_op op_add (pv 6) pe_int))) (pv 2) (nomark _)) (pw_and1 (pt_cmpR op_ge (pv 6) (pe_op op_sub (pv 1) pe_int) (nomark _)))))
      (pss_one (ps_ret (pe_tupN (pa_cons (pv 6) (pa_cons (pe_op (op_catN : OpR _ _ (rCatN K)) (pe_slice (sl_tupN : SlR _ (rSlN K)) (pv 0) po_none (po_some (pe_op op_add (pv 6) pe_int))) (pe_slice (sl_tupN : SlR _ (rSlN K)) (pv 0) (po_some (pe_op op_add (pv 6) pe_int)) po_none)) pa_nil)) : PE _ _ (tTupN K _))))
      pss_nil))
      (pss_one (ps_if (PW.pt (pw_and (pt_cmpR (op_eqN (u64 hr) : OpR _ _ (rEqN K false)) (pe_slice (sl_tupN : SlR _ (rSlN K)) (pv 0) (po_some (pv 6)) (po_some (pe_op op_add (pv 6) pe_int))) (pe_tupN (pa_cons (pv 3) (pa_cons (pv 5) pa_nil)) : PE _ _ (tTupN K _)) (nomark _)) (pw_and1 (pt_cmpR op_ge (pv 6) (pv 1) (nomark _)))))
      (pss_one (ps_ret (pe_tupN (pa_cons (pv 6) (pa_cons (pe_op (op_catN : OpR _ _ (rCatN K)) (pe_op (op_catN : OpR _ _ (rCatN K)) (pe_slice (sl_tupN : SlR _ (rSlN K)) (pv 0) po_none (po_some (pe_op op_add (pv 6) pe_int))) (pe_tupN (pa_cons (pv 4) pa_nil) : PE _ _ (tTupN K _))) (pe_slice (sl_tupN : SlR _ (rSlN K)) (pv 0) (po_some (pe_op op_add (pv 6) pe_int)) po_none)) pa_nil)) : PE _ _ (tTupN K _))))
      pss_nil)))
      (pss_one (ps_ret pe_non))))), ?_⟩
    obtain ⟨ta, u1, u2, u3, rfl, ts, h1, h2, h3⟩ := tri_inv ht
    obtain ⟨fa, fs, rfl, fp, fks⟩ := hx.invP
    refine ⟨_, rfl, _, _, rfl, ts, rfl, _, _, rfl, _, _, rfl, _, _, rfl, rfl, ?_⟩
    refine ⟨_, rfl, _, rfl, fa, _, fs, _, rfl, h1, .inr fp.sq, fks, ?_, pt_dep, ?_⟩
    · have := kPt_d r.1; omega
    by_cases hm : r.1 ∈ g
    · have hmk : kPt r.1 ∈ g.map kPt := mem_kPt.mpr hm
      refine ⟨false, by rw [decide_eq_true hmk]; rfl, ?_⟩
      refine ⟨_, rfl, _, hx, _, rfl, _, _, rfl, hx, h1, by have := kPt_d r.1; omega, hmk, ?_⟩
      rw [idx_map (fun _ _ => kPt_inj)]
      have hat := idx_at hm
      have hlt := lt_at hat
      obtain ⟨j, hj⟩ : ∃ j, j = g.idxOf r.1 := ⟨_, rfl⟩
      rw [← hj] at hat hlt ⊢
      refine ⟨_, rfl, _, rfl, _, rfl, _, _, _, r.1, r.2.1, r.2.2, rfl, h1, h2, h3, b1, b2, b3, rfl, _, rfl, ?_⟩
      have hsd : decide (V.int (sd r.1 r.2.1 r.2.2) = V.int 1) = decide (0 < turn r.1 r.2.1 r.2.2) := by
        rw [Bool.eq_iff_iff]; simp [sd_pos]
      rw [hsd]
      refine ifB (fun e => ?_) (fun e => ?_)
      · have e : 0 < turn r.1 r.2.1 r.2.2 := of_decide_eq_true e
        refine ⟨_, rfl, _, rfl, _, rfl, _, rfl, _, _, rfl, rfl, _, rfl, _, hx, ?_⟩
        rw [cut_mid (i := j) (j := j + 3) rfl (by omega) (by rw [List.length_map]; omega), ← List.map_drop, ← List.map_take]
        intro v H1 s1 hv
        have e3 : j + 3 - j = 3 := by omega
        rw [e3] at hv
        refine ⟨_, rfl, _, _, hv, ht.same s1, ?_, ?_, ?_⟩
        · have := kF_d ((g.drop j).take 3); unfold kF at this; omega
        · have := kT_d r; omega
        have he : decide (NestedKey.tup (((g.drop j).take 3).map kPt) = kT r) = decide ((g.drop j).take 3 = [r.1, r.2.1, r.2.2]) := by
          rw [Bool.eq_iff_iff, decide_eq_true_iff, decide_eq_true_iff]
          constructor
          · intro z
            have z2 : kF ((g.drop j).take 3) = kF [r.1, r.2.1, r.2.2] := z
            exact kF_inj z2
          · intro z; rw [z]; rfl
        refine ⟨_, rfl, ?_⟩
        show if decide (NestedKey.tup (((g.drop j).take 3).map kPt) = kT r) = true then _ else _
        rw [he]
        refine ifB (fun q => ?_) (fun q => ?_)
        · have q := of_decide_eq_true q
          refine ⟨_, rfl, _, rfl, _, _, rfl, rfl, _, _, rfl, rfl, true, dT (by omega), ?_⟩
          have eg : gone g r = some (j, g.take (j + 1) ++ g.drop (j + 2)) := by
            unfold gone; rw [if_pos hm, ← hj, if_pos e, if_pos q]
          refine ⟨_, rfl, _, rfl, _, rfl, _, _, rfl, rfl, _, rfl, _, hx.same s1, ?_⟩
          rw [cut_to (j := j + 1) (by omega), ← List.map_take]
          intro w1 H2 s2 hw1
          refine ⟨_, rfl, _, rfl, _, _, rfl, rfl, _, rfl, _, (hx.same s1).same s2, ?_⟩
          rw [cut_from (j := j + 2) (by omega), ← List.map_drop]
          intro w2 H3 s3 hw2
          refine ⟨_, _, hw1.same s3, hw2, ?_, ?_⟩
          · rw [List.length_map, List.length_map, List.length_take, List.length_drop]; omega
          rw [← List.map_append]
          intro w3 H4 s4 hw3
          refine ⟨by show 2 ≤ 1000; decide, _, tps2 (.int _) hw3, fun w5 H5 s5 hw5 => ?_⟩
          exact ks _ _ eg w5 H5 (Same.tr s1 (Same.tr s2 (Same.tr s3 (Same.tr s4 s5)))) hw5
        · have q := of_decide_eq_false q
          have eg : gone g r = none := by unfold gone; rw [if_pos hm, ← hj, if_pos e, if_neg q]
          exact kn eg H1 s1
      · have e : ¬ 0 < turn r.1 r.2.1 r.2.2 := of_decide_eq_false e
        refine ⟨_, rfl, _, rfl, _, rfl, _, rfl, _, _, rfl, rfl, _, rfl, _, hx, ?_⟩
        rw [cut_mid (i := j) (j := j + 2) rfl (by omega) (by rw [List.length_map]; omega), ← List.map_drop, ← List.map_take]
        intro v H1 s1 hv
        have e3 : j + 2 - j = 2 := by omega
        rw [e3] at hv
        refine ⟨_, rfl, _, rfl, by show 2 ≤ 1000; decide, _, tps2 (h1.same s1) (h3.same s1), fun v2 H2 s2 hv2 => ?_⟩
        refine ⟨_, _, hv.same s2, hv2, ?_, ?_, ?_⟩
        · have := kF_d ((g.drop j).take 2); unfold kF at this; omega
        · exact Nat.le_trans (kE_d (r.1, r.2.2)) (by decide)
        have he : decide (NestedKey.tup (((g.drop j).take 2).map kPt) = NestedKey.tup [kPt r.1, kPt r.2.2]) = decide ((g.drop j).take 2 = [r.1, r.2.2]) := by
          rw [Bool.eq_iff_iff, decide_eq_true_iff, decide_eq_true_iff]
          constructor
          · intro z
            have z2 : kF ((g.drop j).take 2) = kF [r.1, r.2.2] := z
            exact kF_inj z2
          · intro z; rw [z]; rfl
        refine ⟨_, rfl, ?_⟩
        show if decide (NestedKey.tup (((g.drop j).take 2).map kPt) = NestedKey.tup [kPt r.1, kPt r.2.2]) = true then _ else _
        rw [he]
        refine ifB (fun q => ?_) (fun q => ?_)
        · have q := of_decide_eq_true q
          refine ⟨_, rfl, _, rfl, _, _, rfl, rfl, true, dT (by omega), ?_⟩
          have eg : gone g r = some (j, g.take (j + 1) ++ r.2.1 :: g.drop (j + 1)) := by
            unfold gone; rw [if_pos hm, ← hj, if_neg e, if_pos q]
          have hx2 := (hx.same s1).same s2
          refine ⟨_, rfl, _, rfl, _, rfl, _, _, rfl, rfl, _, rfl, _, hx2, ?_⟩
          rw [cut_to (j := j + 1) (by omega), ← List.map_take]
          intro w1 H3 s3 hw1
          refine ⟨_, rfl, by show 1 ≤ 1000; decide, _, .cons (((h2.same s1).same s2).same s3) .nil, fun w2 H4 s4 hw2 => ?_⟩
          refine ⟨_, _, hw1.same s4, hw2, ?_, fun w3 H5 s5 hw3 => ?_⟩
          · rw [List.length_map, List.length_take]; show _ + 1 ≤ 1000; omega
          refine ⟨_, rfl, _, rfl, _, _, rfl, rfl, _, rfl, _, ((hx2.same s3).same s4).same s5, ?_⟩
          rw [cut_from (j := j + 1) (by omega), ← List.map_drop]
          intro w4 H6 s6 hw4
          refine ⟨_, _, hw3.same s6, hw4, ?_, ?_⟩
          · rw [List.length_append, List.length_map, List.length_map, List.length_take, List.length_drop]; show _ + 1 + _ ≤ 1000; omega
          have el : (g.take (j + 1)).map kPt ++ [kPt r.2.1] ++ (g.drop (j + 1)).map kPt = (g.take (j + 1) ++ r.2.1 :: g.drop (j + 1)).map kPt := by
            rw [List.map_append, List.append_assoc]; rfl
          rw [el]
          intro w5 H7 s7 hw5
          refine ⟨by show 2 ≤ 1000; decide, _, tps2 (.int _) hw5, fun w6 H8 s8 hw6 => ?_⟩
          exact ks _ _ eg w6 H8 (Same.tr s1 (Same.tr s2 (Same.tr s3 (Same.tr s4 (Same.tr s5 (Same.tr s6 (Same.tr s7 s8))))))) hw6
        · have q := of_decide_eq_false q
          have eg : gone g r = none := by unfold gone; rw [if_pos hm, ← hj, if_neg e, if_neg q]
          exact kn eg H2 (Same.tr s1 s2)
    · have hmk : ¬ kPt r.1 ∈ g.map kPt := fun z => hm (mem_kPt.mp z)
      refine ⟨true, by rw [decide_eq_false hmk]; rfl, ?_⟩
      have eg : gone g r = none := by unfold gone; rw [if_neg hm]
      exact kn eg H Same.rfl'
end
end Tl

end
-- D4
section
set_option maxHeartbeats 200000
namespace Tl
open PySem PySem.Spec PyProof.Rows L2
def TBd (t : T3) : Prop := Bd t.1 ∧ Bd t.2.1 ∧ Bd t.2.2
def adv (g : List Pt) (t : T3) : Option NestedKey := (gone g t).map fun jf => .tup [.num (jf.1 : Nat), kT t, kF jf.2]
def advs (M : List T3) (g : List Pt) : List NestedKey := M.filterMap (adv g)
theorem last2 {α : Type} (xs : List α) (u v : α) : atI (xs ++ [u, v]) (-2) = some u := by
  have hl : (xs ++ [u, v]).length = xs.length + 2 := by simp
  have e : ixN (xs ++ [u, v]).length (-2) = some xs.length := by
    unfold ixN
    rw [hl, if_neg (by omega), if_pos (by omega)]
    congr 1; omega
  unfold atI; rw [e]
  simp
section
variable {P : Program} {w : World} {K : PySem.W.Frag} {mg : Str → Option Value} {base : Heap}
def sp_advances (K : PySem.W.Frag) : Sp := fun vs H Q _ => ∃ x m g M v, vs = [x, m, v, .int 0] ∧ Tp K H m (kM M) ∧ Tp K H v (kF g) ∧ (∀ t ∈ M, TBd t) ∧ M.length ≤ 1000 ∧ g.length ≤ 9 ∧ Nl K H Q (advs M g)
abbrev s_advances : Stmt := top 21
theorem sc_advances : FnScope ["field", "menu", "front", "mark", "found", "triangle", "step"] ["field", "menu", "front", "mark"] (defScope s_advances) := ⟨rfl, rfl, rfl, by decide +kernel, rfl, by decide +kernel, by decide +kernel⟩
theorem ok_advances (B : Bi mg) (C_gone_over : Cal P w K mg base CX0 "gone_over" 3 ["front", "mark", "triangle"] (sp_gone_over K)) (D : Df K mg "advances" s_advances ["field", "menu", "front", "mark"]) : Cal P w K mg base CX0 "advances" 4 ["field", "menu", "front", "mark"] (sp_advances K) := by
  refine D.ok 3 sc_advances (fun vs H Q E h => ?_) (fun f cdv A outer s H vs Q E hr h => ?_)
  · obtain ⟨x, m, g, M, v, rfl, _⟩ := h; rfl
  · obtain ⟨x, m, g, M, v, rfl, hm, hv, bM, hM, g9, k⟩ := h
    refine ⟨_, pss_cons (ps_set (i := 4) sc_advances.nd rfl (Or.inl rfl) (pe_lst pa_nil))
      (pss_cons (ps_for PassesOwn.never rfl (pi_tup (pv 1)) (pg_name (i := 5) sc_advances.nd rfl (Or.inl rfl))
      (pss_cons (ps_set (i := 6) sc_advances.nd rfl (Or.inl rfl) (pe_go C_gone_over (hr.mono (by decide)) (pa_cons (pv 2) (pa_cons (pv 3) (pa_cons (pv 5) pa_nil)))))
      (pss_one (ps_if (pt_cmpR op_notN (pv 6) pe_non (nomark _))
      (pss_one (ps_expr (pe_bm PySem.F.plainAttrs_list PySem.F.slot_list_append PySem.F.type_list_append mt_append (pv 4) (pa_cons (pe_tupN (pa_cons (pe_ix (ix_tupN : IxR _ (rIxN K)) (pv 6) pe_int (fun _ _ => rfl)) (pa_cons (pv 5) (pa_cons (pe_ix (ix_tupN : IxR _ (rIxN K)) (pv 6) pe_int (fun _ _ => rfl)) pa_nil))) : PE _ _ (tTupN K _)) pa_nil))))
      pss_nil))))
      (pss_one (ps_ret (pv 4)))), ?_⟩
    refine ⟨Nat.zero_le _, fun l hl => ?_⟩
    have s0 : Same H (upd H l (.lst [])) := Same.upd hl
    obtain ⟨ma, ms, rfl, mp, mks⟩ := (hm.same s0).invP
    refine ⟨_, rfl, ma, rfl, ⟨ms, mp.sq⟩, ?_⟩
    refine for_it (walk_tp mp mks) (fun i σ H1 => ∃ y5 y6 ws, σ = [some x, some (.ref ma), some v, some (.int 0), some (.ref l), y5, y6] ∧ Same H H1 ∧ Tx (upd H l (.lst [])) H1 ∧ H1 l = some (.lst ws) ∧ TpAll K H1 ws ((M.take i).filterMap (adv g))) ⟨none, none, [], rfl, s0, Tx.refl _, upd_same, .nil⟩ (fun i σ H1 _ ⟨_, _, _, _, _, t, _⟩ => t) ?_ ?_
    · rintro i y σ H1 H1' hi ⟨y5, y6, ws, rfl, s1, t1, hl1, hw⟩ ⟨rfl, q, hq, hy⟩
      obtain ⟨t, ht, rfl⟩ := get_map hq
      have hi2 := lt_at ht
      have bt := bM t (mem_at ht)
      refine ⟨_, rfl, _, rfl, _, rfl, v, y, g, t, rfl, hv.same s1, hy, bt.1, bt.2.1, bt.2.2, g9, fun eg H2 s2 => ?_, fun j g' eg u H2 s2 hu => ?_⟩
      · refine ⟨_, rfl, rfl, false, rfl, ?_⟩
        refine ⟨_, _, ws, rfl, Same.tr s1 s2, t1.trans (Tx.same s2), s2 _ _ hl1, ?_⟩
        rw [take_next ht, List.filterMap_append]
        simp [adv, eg]
        exact hw.same s2
      · obtain ⟨ua, u1, u2, rfl, us, h1, h2⟩ := inv2 hu
        refine ⟨_, rfl, rfl, true, rfl, ?_⟩
        have hl2 := s2 _ _ hl1
        refine ⟨_, rfl, .inl ⟨rfl, _, ofL hl2⟩, ?_⟩
        refine ⟨_, rfl, _, _, _, hu, rfl, rfl, fun v1 hv1 => ?_⟩
        refine ⟨_, rfl, _, rfl, _, _, _, hu, rfl, rfl, fun v2 hv2 => ?_⟩
        refine ⟨by show 3 ≤ 1000; decide, _, tps3 hv1 (hy.same s2) hv2, fun vt H3 s3 hvt => ?_⟩
        have hl3 := s3 _ _ hl2
        have lw := hw.length
        have lf := List.length_filterMap_le (adv g) (M.take i)
        rw [List.length_take] at lf
        refine ⟨l, ws, vt, rfl, rfl, hl3, small (by omega), ?_⟩
        refine ⟨_, _, _, rfl, Same.own (Same.tr s1 (Same.tr s2 s3)) hl, (t1.trans (Tx.same (Same.tr s2 s3))).trans (Tx.lst hl3), upd_same, ?_⟩
        rw [take_next ht, List.filterMap_append]
        have e : List.filterMap (adv g) [t] = [.tup [.num (j : Nat), kT t, kF g']] := by simp [adv, eg]
        rw [e]
        exact ((hw.same (Same.tr s2 s3)).snoc hvt).up (Tx.lst hl3)
    · rintro σ H1 ⟨y5, y6, ws, rfl, s1, t1, hl1, hw⟩
      rw [List.length_map, List.take_length] at hw
      exact ⟨_, rfl, k H1 l ws s1 hl hl1 hw⟩
def sp_new_ties (K : PySem.W.Frag) : Sp := fun vs H Q _ => ∃ x t, vs = [x] ∧ Tp K H x (kT t) ∧ TBd t ∧ Nl K H Q ((newt t).map kE)
abbrev s_new_ties : Stmt := top 23
theorem sc_new_ties : FnScope ["triangle", "a", "b", "c"] ["triangle"] (defScope s_new_ties) := ⟨rfl, rfl, rfl, by decide +kernel, rfl, by decide +kernel, by decide +kernel⟩
theorem ok_new_ties (B : Bi mg) (C_side : Cal P w K mg base CX0 "side" 2 ["a", "b", "c"] (sp_side K)) (D : Df K mg "new_ties" s_new_ties ["triangle"]) : Cal P w K mg base CX0 "new_ties" 3 ["triangle"] (sp_new_ties K) := by
  refine D.ok 2 sc_new_ties (fun vs H Q E h => ?_) (fun f cdv A outer s H vs Q E hr h => ?_)
  · obtain ⟨x, t, rfl, _⟩ := h; rfl
  · obtain ⟨x, t, rfl, hx, bt, k⟩ := h
    refine ⟨_, pss_cons (ps_asg (pv 0) (pg_tup rfl (pgs_cons (pg_name (i := 1) sc_new_ties.nd rfl (Or.inl rfl)) (pgs_cons (pg_name (i := 2) sc_new_ties.nd rfl (Or.inl rfl)) (pgs_cons (pg_name (i := 3) sc_new_ties.nd rfl (Or.inl rfl)) pgs_nil)))))
      (pss_one (ps_ret (pe_ifExp (pt_cmpR op_eq (pe_go C_side (hr.mono (by decide)) (pa_cons (pv 1) (pa_cons (pv 2) (pa_cons (pv 3) pa_nil)))) pe_int (nomark _)) (pe_lst (pa_cons (pe_tupN (pa_cons (pv 1) (pa_cons (pv 3) pa_nil)) : PE _ _ (tTupN K _)) pa_nil)) (pe_lst (pa_cons (pe_tupN (pa_cons (pv 1) (pa_cons (pv 2) pa_nil)) : PE _ _ (tTupN K _)) (pa_cons (pe_tupN (pa_cons (pv 2) (pa_cons (pv 3) pa_nil)) : PE _ _ (tTupN K _)) pa_nil)))))), ?_⟩
    obtain ⟨ta, u1, u2, u3, rfl, ts, h1, h2, h3⟩ := tri_inv hx
    refine ⟨_, rfl, _, _, rfl, ts, rfl, _, _, rfl, _, _, rfl, _, _, rfl, rfl, ?_⟩
    refine ⟨_, rfl, _, rfl, _, rfl, _, _, _, t.1, t.2.1, t.2.2, rfl, h1, h2, h3, bt.1, bt.2.1, bt.2.2, rfl, _, rfl, ?_⟩
    have hsd : decide (V.int (sd t.1 t.2.1 t.2.2) = V.int 1) = decide (0 < turn t.1 t.2.1 t.2.2) := by
      rw [Bool.eq_iff_iff]; simp [sd_pos]
    rw [hsd]
    unfold newt at k
    refine ifB (fun e => ?_) (fun e => ?_)
    · rw [if_pos (of_decide_eq_true e)] at k
      refine ⟨_, rfl, _, rfl, by show 2 ≤ 1000; decide, _, tps2 h1 h3, fun v1 H1 s1 hv1 => ?_⟩
      refine ⟨by show 1 ≤ sizeLine; decide, fun l hl => ?_⟩
      exact k _ l _ (Same.own s1 (s1.free hl)) (s1.free hl) upd_same (.cons (hv1.up (Tx.new hl)) .nil)
    · rw [if_neg (of_decide_eq_false e)] at k
      refine ⟨_, rfl, _, rfl, by show 2 ≤ 1000; decide, _, tps2 h1 h2, fun v1 H1 s1 hv1 => ?_⟩
      refine ⟨_, rfl, _, rfl, by show 2 ≤ 1000; decide, _, tps2 (h2.same s1) (h3.same s1), fun v2 H2 s2 hv2 => ?_⟩
      refine ⟨by show 2 ≤ sizeLine; decide, fun l hl => ?_⟩
      have s12 := Same.tr s1 s2
      exact k _ l _ (Same.own s12 (s12.free hl)) (s12.free hl) upd_same (tps2 ((hv1.same s2).up (Tx.new hl)) (hv2.up (Tx.new hl)))
def sp_pairs_of (K : PySem.W.Frag) : Sp := fun vs H Q _ => ∃ x g, vs = [x] ∧ Tp K H x (kF g) ∧ g.length ≤ 9 ∧ Nl K H Q ((prs g).map kE)
abbrev s_pairs_of : Stmt := top 24
theorem sc_pairs_of : FnScope ["front", "k"] ["front"] (defScope s_pairs_of) := ⟨rfl, rfl, rfl, by decide +kernel, rfl, by decide +kernel, by decide +kernel⟩
theorem ok_pairs_of (B : Bi mg)  (D : Df K mg "pairs_of" s_pairs_of ["front"]) : Cal P w K mg base CX0 "pairs_of" 1 ["front"] (sp_pairs_of K) := by
  refine D.ok 0 sc_pairs_of (fun vs H Q E h => ?_) (fun f cdv A outer s H vs Q E hr h => ?_)
  · obtain ⟨x, g, rfl, _⟩ := h; rfl
  · obtain ⟨x, g, rfl, hx, g9, k⟩ := h
    refine ⟨_, pss_one (ps_ret (pe_lc (own := [("k", 1)]) (g := gName 1) (tt := tYes) rfl sc_pairs_of.nd (pi_range2 (by rfl) B.range (pa_cons pe_int (pa_cons (pe_lenT B (pa_cons (pv 0) pa_nil) : PE _ _ (tCB (rLenT K) _)) pa_nil))) (blkOk_by (N := ["front", "k"]) (sc := defScope s_pairs_of) (by decide +kernel)) (fun _ _ _ _ _ => pg_name (i := 1) sc_pairs_of.nd rfl (Or.inl rfl)) (fun _ _ _ _ _ => pts_nil) (fun _ _ _ _ _ => (pe_tupN (pa_cons (pe_ix (ix_tupN : IxR _ (rIxN K)) (pv 0) (pe_op op_sub (pv 1) pe_int) (fun _ _ => rfl)) (pa_cons (pe_ix (ix_tupN : IxR _ (rIxN K)) (pv 0) (pv 1) (fun _ _ => rfl)) pa_nil)) : PE _ _ (tTupN K _))))), ?_⟩
    refine ⟨_, rfl, _, _, rfl, hx, 1, _, rfl, ?_⟩
    rw [List.length_map]
    refine ⟨by omega, fun D hD => ?_⟩
    have hn : (((g.length : Nat) : Int) - 1).toNat = g.length - 1 := by omega
    rw [hn]
    have pl := prs_len g
    refine lc_pure (K := K) walk_range hD (fun i => ((prs g).take i).map kE) rfl (fun i hi => ?_) (fun _ _ => trivial) YFn.same ?_ ?_
    · show (((prs g).take i).map kE).length ≤ 100000
      rw [List.length_map, List.length_take]; omega
    · rintro i y H1 H2 hi s ⟨rfl, rfl⟩ T F' hT _
      obtain ⟨a, ha⟩ := at_lt (l := g) (i := i) (by omega)
      obtain ⟨b, hb⟩ := at_lt (l := g) (i := i + 1) (by omega)
      have hx2 := hx.same s
      refine ⟨rfl, ?_⟩
      refine ⟨_, rfl, _, rfl, _, _, rfl, rfl, _, _, _, hx2, rfl, atI_of (j := i) (by omega) (map_at ha), fun va hva => ?_⟩
      refine ⟨_, rfl, _, rfl, _, _, _, hx2, rfl, atI_of (j := i + 1) (by omega) (map_at hb), fun vb hvb => ?_⟩
      refine ⟨by show 2 ≤ 1000; decide, _, tps2 hva hvb, fun vt H3 s3 hvt => ?_⟩
      refine hT _ _ (kE (a, b)) s3 hvt ?_
      show ((prs g).take (i + 1)).map kE = ((prs g).take i).map kE ++ [kE (a, b)]
      rw [take_next (prs_get ha hb), List.map_append]; rfl
    · intro H2 ws s2 hD2 hw
      rw [show g.length - 1 = (prs g).length from pl.symm, List.take_length] at hw
      exact k H2 D ws s2 hD hD2 hw
def sp_chain (K : PySem.W.Frag) : Sp := fun vs H Q _ => ∃ x F, vs = [x] ∧ Tp K H x (kF F) ∧ (∀ p ∈ F, Bd p) ∧ F.length ≤ 1000 ∧ Nl K H Q ((chain F).map kPt)
theorem popw_len (p : Pt) : ∀ s : List Pt, (popw s p).length ≤ s.length
  | [] => Nat.le_refl _
  | [_] => Nat.le_refl _
  | y :: x :: s => by
    unfold popw
    split
    · have := popw_len p (x :: s); simp only [List.length_cons] at this ⊢; omega
    · exact Nat.le_refl _
theorem popw_mem (p q : Pt) : ∀ s : List Pt, q ∈ popw s p → q ∈ s
  | [], h => h
  | [_], h => h
  | y :: x :: s, h => by
    unfold popw at h
    split at h
    · exact List.mem_cons_of_mem _ (popw_mem p q (x :: s) h)
    · exact h
/-- the inner loop -/
def ChW (K : PySem.W.Frag) (H H0 : Hp) (l fa : Addr) (y : V) (p : Pt) (st : List Pt) (i : Nat) : Nat → L2.St → Hp → Prop := fun m σ H2 => ∃ ws s, σ = [some (.ref fa), some (.ref l), some y] ∧ m = s.length ∧ Same H H2 ∧ Tx H0 H2 ∧ H2 l = some (.lst ws) ∧ TpAll K H2 ws (s.reverse.map kPt) ∧ popw s p = popw st p ∧ s.length ≤ i ∧ (∀ q ∈ s, Bd q) ∧ Tp K H2 y (kPt p)
theorem chain_end {K : PySem.W.Frag} {H H0 H2 : Hp} {l fa : Addr} {y : V} {p : Pt} {st sk F : List Pt} {us : List V} {i : Nat} (hl : H l = none) (hF : F.length ≤ 1000) (hp : F[i]? = some p) (hp2 : popw sk p = sk) (epop : popw sk p = popw st p) (es : st = (F.take i).foldl push [])
    (lk : sk.length ≤ i) (ls : st.length ≤ i) (bk : ∀ q ∈ sk, Bd q) (bp : Bd p) (s2 : Same H H2) (t2 : Tx H0 H2) (hl2 : H2 l = some (.lst us)) (hu : TpAll K H2 us (sk.reverse.map kPt)) (hy2 : Tp K H2 y (kPt p)) :
    ∃ y2 ws s, [some (V.ref fa), some (.ref l), some y] = [some (V.ref fa), some (.ref l), y2] ∧ Same H (upd H2 l (.lst (us ++ [y]))) ∧ Tx H0 (upd H2 l (.lst (us ++ [y]))) ∧ (upd H2 l (.lst (us ++ [y]))) l = some (.lst ws) ∧ TpAll K (upd H2 l (.lst (us ++ [y]))) ws (s.reverse.map kPt) ∧ s = (F.take (i + 1)).foldl push [] ∧ s.length ≤ i + 1 ∧ ∀ p ∈ s, Bd p := by
  refine ⟨_, _, p :: sk, rfl, Same.own s2 hl, t2.trans (Tx.lst hl2), upd_same, ?_, ?_, ?_, ?_⟩
  · rw [List.reverse_cons, List.map_append]
    exact (hu.snoc hy2).up (Tx.lst hl2)
  · rw [take_next hp, List.foldl_append, ← es]
    show p :: sk = p :: popw st p
    rw [← epop, hp2]
  · simp only [List.length_cons]; omega
  · intro q hq
    rcases List.mem_cons.mp hq with h | h
    · subst h; exact bp
    · exact bk q h
abbrev s_chain : Stmt := top 10
theorem sc_chain : FnScope ["some", "found", "one"] ["some"] (defScope s_chain) := ⟨rfl, rfl, rfl, by decide +kernel, rfl, by decide +kernel, by decide +kernel⟩
theorem ok_chain (B : Bi mg) (C_side : Cal P w K mg base CX0 "side" 2 ["a", "b", "c"] (sp_side K)) (D : Df K mg "chain" s_chain ["some"]) : Cal P w K mg base CX0 "chain" 3 ["some"] (sp_chain K) := by
  refine D.ok 2 sc_chain (fun vs H Q E h => ?_) (fun f cdv A outer s H vs Q E hr h => ?_)
  · obtain ⟨x, F, rfl, _⟩ := h; rfl
  · obtain ⟨x, F, rfl, hx, bF, hF, k⟩ := h
    refine ⟨_, pss_cons (ps_set (i := 1) sc_chain.nd rfl (Or.inl rfl) (pe_lst pa_nil))
      (pss_cons (ps_for PassesOwn.never rfl (pi_tup (pv 0)) (pg_name (i := 2) sc_chain.nd rfl (Or.inl rfl))
      (pss_cons (ps_while PassesOwn.never (PW.pt (pw_and (pt_cmpR op_gt (pe_lenL B (pa_cons (pv 1) pa_nil) : PE _ _ (tCB (rLenL K) _)) pe_int (nomark _)) (pw_and1 (pt_cmpR op_lt (pe_go C_side (hr.mono (by decide)) (pa_cons (pe_ix (ix_listN : IxR _ (rIxLN K)) (pv 1) (pe_un un_neg pe_int) (fun _ _ => rfl)) (pa_cons (pe_ix (ix_listN : IxR _ (rIxLN K)) (pv 1) (pe_un un_neg pe_int) (fun _ _ => rfl)) (pa_cons (pv 2) pa_nil)))) pe_int (nomark _)))))
      (pss_one (ps_expr (pe_bm0 PySem.F.plainAttrs_list PySem.F.slot_list_pop PySem.F.type_list_pop mt_pop (pv 1)))))
      (pss_one (ps_expr (pe_bm PySem.F.plainAttrs_list PySem.F.slot_list_append PySem.F.type_list_append mt_append (pv 1) (pa_cons (pv 2) pa_nil))))))
      (pss_one (ps_ret (pv 1)))), ?_⟩
    refine ⟨Nat.zero_le _, fun l hl => ?_⟩
    have s0 : Same H (upd H l (.lst [])) := Same.upd hl
    obtain ⟨fa, fs, rfl, fp, fks⟩ := (hx.same s0).invP
    refine ⟨_, rfl, fa, rfl, ⟨fs, fp.sq⟩, ?_⟩
    refine for_it (walk_tp fp fks) (fun i σ H1 => ∃ y2 ws s, σ = [some (.ref fa), some (.ref l), y2] ∧ Same H H1 ∧ Tx (upd H l (.lst [])) H1 ∧ H1 l = some (.lst ws) ∧ TpAll K H1 ws (s.reverse.map kPt) ∧ s = (F.take i).foldl push [] ∧ s.length ≤ i ∧ ∀ p ∈ s, Bd p) ⟨none, [], [], rfl, s0, Tx.refl _, upd_same, .nil, rfl, Nat.le_refl _, fun _ h => by cases h⟩ (fun i σ H1 _ ⟨_, _, _, _, _, t, _⟩ => t) ?_ ?_
    · rintro i y σ H1 H1' hi ⟨y2, ws, st, rfl, s1, t1, hl1, hw, es, ls, bs⟩ ⟨rfl, q, hq, hy⟩
      obtain ⟨p, hp, rfl⟩ := get_map hq
      have hi2 := lt_at hp
      refine ⟨ChW K H (upd H l (.lst [])) l fa y p st i, ⟨st.length, ws, st, rfl, rfl, s1, t1, hl1, hw, rfl, ls, bs, hy⟩, ?_⟩
      rintro m σ H2 ⟨us, sk, rfl, rfl, s2, t2, hl2, hu, epop, lk, bk, hy2⟩
      have lu := hu.length
      rw [List.length_map, List.length_reverse] at lu
      have hz : (∃ b a r, sk = b :: a :: r ∧ turn a b p < 0) ∨ ((∃ b a r, sk = b :: a :: r ∧ ¬ turn a b p < 0) ∨ sk.length ≤ 1) := by
        match sk with
        | [] => exact .inr (.inr (by simp))
        | [_] => exact .inr (.inr (by simp))
        | b :: a :: r =>
          by_cases h : turn a b p < 0
          · exact .inl ⟨b, a, r, rfl, h⟩
          · exact .inr (.inl ⟨b, a, r, rfl, h⟩)
      have ix2 : ∀ b a r, sk = b :: a :: r → atI (sk.reverse.map kPt) (-2) = some (kPt a) ∧ atI (sk.reverse.map kPt) (-1) = some (kPt b) := by
        rintro b a r rfl
        constructor
        · rw [List.reverse_cons, List.reverse_cons, List.append_assoc, List.map_append]; exact last2 _ _ _
        · rw [List.reverse_cons, List.map_append]; exact atI_last _ _
      rcases hz with ⟨b, a, r, rfl, ht⟩ | hz
      · obtain ⟨i2, i1⟩ := ix2 b a r rfl
        refine ⟨_, rfl, _, _, rfl, ofL hl2, _, _, rfl, rfl, true, dT (by rw [lu]; simp only [List.length_cons]; omega), ?_⟩
        refine ⟨_, rfl, 2, rfl, l, us, _, _, _, rfl, ofL hl2, hu, rfl, i2, fun va hva => ?_⟩
        refine ⟨_, rfl, 1, rfl, l, us, _, _, _, rfl, ofL hl2, hu, rfl, i1, fun vb hvb => ?_⟩
        refine ⟨_, rfl, va, vb, y, a, b, p, rfl, hva, hvb, hy2, bk a (by simp), bk b (by simp), bF p (mem_at hp), ?_⟩
        refine ⟨_, _, rfl, rfl, true, dT (sd_neg.mpr ht), ?_⟩
        refine ⟨ChW K H (upd H l (.lst [])) l fa y p st i (a :: r).length, fun σ' H' q => ⟨_, by simp, q⟩, ?_⟩
        obtain ⟨z, hz⟩ := at_lt (l := us) (i := us.length - 1) (by rw [lu]; simp)
        refine ⟨_, rfl, .inl ⟨rfl, _, ofL hl2⟩, l, us, z, rfl, rfl, hl2, hz, ?_⟩
        refine ⟨us.dropLast, a :: r, rfl, rfl, Same.own s2 hl, t2.trans (Tx.lst hl2), upd_same, ?_, ?_, ?_, fun q hq => bk q (List.mem_cons_of_mem _ hq), hy2.up (Tx.lst hl2)⟩
        · have := (hu.take (us.length - 1)).up (Tx.lst (o := .lst us.dropLast) hl2)
          rw [List.dropLast_eq_take]
          rw [← List.map_take] at this
          have e : (b :: a :: r).reverse.take (us.length - 1) = (a :: r).reverse := by
            rw [lu, List.reverse_cons, List.take_append_of_le_length (by simp)]
            exact List.take_of_length_le (by simp)
          rw [e, List.dropLast_eq_take] at this; exact this
        · rw [← epop, popw, if_pos ht]
        · simp only [List.length_cons] at lk ⊢; omega
      · have hp2 : popw sk p = sk := by
          rcases hz with ⟨b, a, r, rfl, ht⟩ | h1
          · rw [popw, if_neg ht]
          · match sk with
            | [] => rfl
            | [_] => rfl
            | b :: a :: r => simp at h1
        rcases hz with ⟨b, a, r, rfl, ht⟩ | h1
        · obtain ⟨i2, i1⟩ := ix2 b a r rfl
          refine ⟨_, rfl, _, _, rfl, ofL hl2, _, _, rfl, rfl, true, dT (by rw [lu]; simp only [List.length_cons]; omega), ?_⟩
          refine ⟨_, rfl, 2, rfl, l, us, _, _, _, rfl, ofL hl2, hu, rfl, i2, fun va hva => ?_⟩
          refine ⟨_, rfl, 1, rfl, l, us, _, _, _, rfl, ofL hl2, hu, rfl, i1, fun vb hvb => ?_⟩
          refine ⟨_, rfl, va, vb, y, a, b, p, rfl, hva, hvb, hy2, bk a (by simp), bk b (by simp), bF p (mem_at hp), ?_⟩
          refine ⟨_, _, rfl, rfl, false, dF (fun h => ht (sd_neg.mp h)), ?_⟩
          refine ⟨_, rfl, .inl ⟨rfl, _, ofL hl2⟩, _, rfl, l, us, y, rfl, rfl, hl2, small (by omega), ?_⟩
          refine chain_end hl hF hp hp2 epop es lk ls ?_ ?_ s2 t2 hl2 hu hy2
          · exact fun q hq => bk q hq
          · exact bF p (mem_at hp)
        · refine ⟨_, rfl, _, _, rfl, ofL hl2, _, _, rfl, rfl, false, dF (by omega), ?_⟩
          refine ⟨_, rfl, .inl ⟨rfl, _, ofL hl2⟩, _, rfl, l, us, y, rfl, rfl, hl2, small (by omega), ?_⟩
          refine chain_end hl hF hp hp2 epop es lk ls ?_ ?_ s2 t2 hl2 hu hy2
          · exact fun q hq => bk q hq
          · exact bF p (mem_at hp)
    · rintro σ H1 ⟨y2, ws, s, rfl, s1, t1, hl1, hw, es, ls, bs⟩
      refine ⟨_, rfl, ?_⟩
      rw [List.length_map, List.take_length] at es
      subst es
      exact k H1 l ws s1 hl hl1 hw
end
end Tl

end
-- D5
section
set_option maxHeartbeats 200000
namespace Tl
open PySem PySem.Spec PyProof.Rows L2
/-- the weight of a tie -/
def wtOf (T : List E2) (W : List Int) (e : E2) : Int := ((T.zip W).lookup e).getD 0
/-- at d the weights of the ties T -/
def Heavy (P : Program) (w : World) (K : PySem.W.Frag) (H : Hp) (d : Addr) (T : List E2) (wt : E2 → Int) : Prop := ∃ kvs, ND P w K H d kvs ∧ ∀ e ∈ T, valV kvs (kE e) = some (.int (wt e))
theorem Heavy.same {P : Program} {w : World} {K : PySem.W.Frag} {H H' : Hp} {d : Addr} {T : List E2} {wt : E2 → Int} (h : Heavy P w K H d T wt) (s : Same H H') : Heavy P w K H' d T wt := let ⟨kvs, h1, h2⟩ := h; ⟨kvs, h1.same s, h2⟩
theorem heavy_val : ∀ (T : List E2) (W : List Int) (e : E2), T.length = W.length → e ∈ T → valV ((T.map kE).zip (W.map V.int)) (kE e) = some (.int (wtOf T W e))
  | [], _, _, _, h => by cases h
  | t :: T, [], _, h, _ => by simp at h
  | t :: T, x :: W, e, hl, h => by
    show valV ((kE t, V.int x) :: (T.map kE).zip (W.map V.int)) (kE e) = _
    by_cases q : t = e
    · subst q
      rw [valV_pos rfl]
      unfold wtOf
      rw [List.zip_cons_cons, List.lookup_cons, beq_self_eq_true]; rfl
    · rw [valV_neg (fun z => q (kE_inj z)), heavy_val T W e (by simpa using hl) (by rcases List.mem_cons.mp h with z | z; exact absurd z.symm q; exact z)]
      unfold wtOf
      rw [List.zip_cons_cons, List.lookup_cons]
      have : (e == t) = false := by rw [beq_eq_false_iff_ne]; exact fun z => q z.symm
      rw [this]
theorem mem_ties {F : List Pt} {a b : Pt} : ∀ {r : List Pt}, Rising r → ((a, b) ∈ tiesOf F r ↔ a ∈ r ∧ b ∈ r ∧ plt a b ∧ clear F a b)
  | [], _ => by simp [tiesOf]
  | x :: r, h => by
    have h2 := List.pairwise_cons.mp h
    unfold tiesOf
    rw [List.mem_append, mem_ties h2.2, List.mem_map]
    constructor
    · rintro (⟨o, ho, e⟩ | ⟨h3, h4, h5⟩)
      · rw [List.mem_filter] at ho
        cases e
        exact ⟨by simp, List.mem_cons_of_mem _ ho.1, h2.1 _ ho.1, clearB_iff.mp ho.2⟩
      · exact ⟨List.mem_cons_of_mem _ h3, List.mem_cons_of_mem _ h4, h5⟩
    · rintro ⟨h3, h4, h5, h6⟩
      rcases List.mem_cons.mp h3 with q | q
      · subst q
        rcases List.mem_cons.mp h4 with z | z
        · subst z; exact absurd h5 (plt_irrefl _)
        · exact .inl ⟨b, List.mem_filter.mpr ⟨z, clearB_iff.mpr h6⟩, rfl⟩
      · rcases List.mem_cons.mp h4 with z | z
        · subst z; exact absurd (plt_trans h5 (h2.1 _ q)) (plt_irrefl _)
        · exact .inr ⟨q, z, h5, h6⟩
theorem nodup_map {α β : Type} {f : α → β} (hf : ∀ a b, f a = f b → a = b) {l : List α} (h : l.Nodup) : (l.map f).Nodup := List.pairwise_map.mpr (List.Pairwise.imp (fun n e => n (hf _ _ e)) h)
theorem nodup_ties {F : List Pt} : ∀ {r : List Pt}, Rising r → (tiesOf F r).Nodup
  | [], _ => List.nodup_nil
  | x :: r, h => by
    have h2 := List.pairwise_cons.mp h
    unfold tiesOf
    rw [List.nodup_append]
    refine ⟨?_, nodup_ties h2.2, ?_⟩
    · exact nodup_map (fun _ _ e => (Prod.ext_iff.mp e).2) (List.Pairwise.filter _ (rising_nodup h2.2)) 
    · rintro e he g hg rfl
      obtain ⟨o, ho, rfl⟩ := List.mem_map.mp he
      have := (mem_ties h2.2).mp hg
      exact absurd (h2.1 _ this.1) (plt_irrefl _)
theorem nodup_kE {l : List E2} (h : l.Nodup) : (l.map kE).Nodup := nodup_map (fun _ _ e => kE_inj e) h
theorem tie_keys {l : List E2} : ∀ k ∈ l.map kE, (∃ ls, k = NestedKey.tup ls) ∧ k.depth ≤ 8 := fun k hk => by
  obtain ⟨e, _, rfl⟩ := List.mem_map.mp hk
  exact ⟨⟨_, rfl⟩, Nat.le_trans (kE_d e) (by decide)⟩
theorem front_ties {F g : List Pt} (hF : Rising F) (h : Front F g) : ∀ e ∈ prs g, e ∈ tiesOf F F := fun e he =>
  (mem_ties hF).mpr ⟨h.mem _ (prs_mem he).1, h.mem _ (prs_mem he).2, prs_lt h.ris he, h.cl e he⟩
section
variable {P : Program} {w : World} {K : PySem.W.Frag} {mg : Str → Option Value} {base : Heap}
def sp_lower (K : PySem.W.Frag) : Sp := fun vs H Q _ => ∃ x F, vs = [x] ∧ Tp K H x (kF F) ∧ (∀ p ∈ F, Bd p) ∧ F.length ≤ 1000 ∧ Nw K H Q (kF (chain F))
abbrev s_lower : Stmt := top 11
theorem sc_lower : FnScope ["field"] ["field"] (defScope s_lower) := ⟨rfl, rfl, rfl, by decide +kernel, rfl, by decide +kernel, by decide +kernel⟩
theorem ok_lower (B : Bi mg) (C_chain : Cal P w K mg base CX0 "chain" 3 ["some"] (sp_chain K)) (D : Df K mg "lower" s_lower ["field"]) : Cal P w K mg base CX0 "lower" 4 ["field"] (sp_lower K) := by
  refine D.ok 3 sc_lower (fun vs H Q E h => ?_) (fun f cdv A outer s H vs Q E hr h => ?_)
  · obtain ⟨x, F, rfl, _⟩ := h; rfl
  · obtain ⟨x, F, rfl, hx, bF, h9, k⟩ := h
    refine ⟨_, pss_one (ps_ret (pe_tupleC B (pa_cons (pe_go C_chain (hr.mono (by decide)) (pa_cons (pv 0) pa_nil)) pa_nil) : PE _ _ (tCB (rTupN K) _))), ?_⟩
    refine ⟨_, rfl, x, F, rfl, hx, bF, h9, fun H1 p ws s1 hp h1 hw => ?_⟩
    exact ⟨p, ws, _, rfl, ofL h1, hw, fun v H2 s2 hv => k v H2 (Same.tr s1 s2) hv⟩
def sp_upper (K : PySem.W.Frag) : Sp := fun vs H Q _ => ∃ x F, vs = [x] ∧ Tp K H x (kF F) ∧ (∀ p ∈ F, Bd p) ∧ F.length ≤ 1000 ∧ Nw K H Q (kF (chain F.reverse).reverse)
abbrev s_upper : Stmt := top 12
theorem sc_upper : FnScope ["field"] ["field"] (defScope s_upper) := ⟨rfl, rfl, rfl, by decide +kernel, rfl, by decide +kernel, by decide +kernel⟩
theorem ok_upper (B : Bi mg) (C_chain : Cal P w K mg base CX0 "chain" 3 ["some"] (sp_chain K)) (D : Df K mg "upper" s_upper ["field"]) : Cal P w K mg base CX0 "upper" 4 ["field"] (sp_upper K) := by
  refine D.ok 3 sc_upper (fun vs H Q E h => ?_) (fun f cdv A outer s H vs Q E hr h => ?_)
  · obtain ⟨x, F, rfl, _⟩ := h; rfl
  · obtain ⟨x, F, rfl, hx, bF, h9, k⟩ := h
    refine ⟨_, pss_one (ps_ret (pe_tupleC B (pa_cons (pe_revL (pe_go C_chain (hr.mono (by decide)) (pa_cons (pe_revN (pv 0) : PE _ _ (tRevN K _)) pa_nil)) : PE _ _ (tRevL K _)) pa_nil) : PE _ _ (tCB (rTupN K) _))), ?_⟩
    refine ⟨_, rfl, _, hx, ?_⟩
    rw [← List.map_reverse]
    intro v H1 s1 hv
    refine ⟨v, F.reverse, rfl, hv, fun p hp => bF p (List.mem_reverse.mp hp), by rw [List.length_reverse]; exact h9, fun H2 p ws s2 hp h2 hw => ?_⟩
    refine ⟨p, ws, rfl, ofL h2, fun q hq => ?_⟩
    have hr := hw.rev.up (Tx.new (o := .lst ws.reverse) hq)
    rw [← List.map_reverse] at hr
    refine ⟨q, _, _, rfl, ofL upd_same, hr, fun u H3 s3 hu => ?_⟩
    exact k u H3 (Same.tr s1 (Same.tr s2 (Same.tr (Same.upd hq) s3))) hu
def kW (W : List Int) : NestedKey := .tup (W.map NestedKey.num)
def sp_weight_below (K : PySem.W.Frag) : Sp := fun vs H Q _ => ∃ x y F W, vs = [x, y] ∧ Tp K H x (kF F) ∧ Tp K H y (kW W) ∧ (∀ p ∈ F, Bd p) ∧ F.length ≤ 9 ∧ Rising F ∧ (chain F).length ≤ 9 ∧ W.length = (tiesOf F F).length ∧ (∀ e ∈ prs (chain F), e ∈ tiesOf F F) ∧
  ∀ H', Same H H' → Q (.int (tot (wtOf (tiesOf F F) W) (prs (chain F)))) H'
abbrev s_weight_below : Stmt := top 25
theorem sc_weight_below : FnScope ["field", "weights", "heavy", "tie"] ["field", "weights"] (defScope s_weight_below) := ⟨rfl, rfl, rfl, by decide +kernel, rfl, by decide +kernel, by decide +kernel⟩
theorem ok_weight_below (B : Bi mg) (C_pairs_of : Cal P w K mg base CX0 "pairs_of" 1 ["front"] (sp_pairs_of K)) (C_lower : Cal P w K mg base CX0 "lower" 4 ["field"] (sp_lower K)) (C_ties : Cal P w K mg base CX0 "ties" 5 ["field"] (sp_ties K)) (D : Df K mg "weight_below" s_weight_below ["field", "weights"]) : Cal P w K mg base CX0 "weight_below" 6 ["field", "weights"] (sp_weight_below K) := by
  refine D.ok 5 sc_weight_below (fun vs H Q E h => ?_) (fun f cdv A outer s H vs Q E hr h => ?_)
  · obtain ⟨x, y, F, W, rfl, _⟩ := h; rfl
  · obtain ⟨x, y, F, W, rfl, hx, hy, bF, h9, hri, c9, hW, hsub, k⟩ := h
    refine ⟨_, pss_cons (ps_set (i := 2) sc_weight_below.nd rfl (Or.inr rfl) (pe_dictzip rfl (u65 hr) (by rfl) B.dict (by rfl) B.zip (pa_cons (pe_go C_ties (hr.mono (by decide)) (pa_cons (pv 0) pa_nil)) (pa_cons (pv 1) pa_nil))))
      (pss_one (ps_ret (pe_sum B (pa_cons (pe_lc (own := [("tie", 3)]) (g := gName 3) (tt := tYes) rfl sc_weight_below.nd (pi_list (pe_go C_pairs_of (hr.mono (by decide)) (pa_cons (pe_go C_lower (hr.mono (by decide)) (pa_cons (pv 0) pa_nil)) pa_nil))) (blkOk_by (N := ["field", "weights", "heavy", "tie"]) (sc := defScope s_weight_below) (by decide +kernel)) (fun _ _ _ _ _ => pg_name (i := 3) sc_weight_below.nd rfl (Or.inl rfl)) (fun _ _ _ _ _ => pts_nil) (fun _ _ _ _ _ => (pe_nget (u65 hr) (pv 2) (pv 3) (fun _ _ => rfl) : PE _ _ (tNGet P w K _ _)))) pa_nil) : PE _ _ (tCB (rSum K) _)))), ?_⟩
    refine ⟨_, rfl, x, F, rfl, hx, bF, h9, fun v H1 s1 hv => ?_⟩
    obtain ⟨ta, ts, rfl, tsq, tks⟩ := hv.inv
    obtain ⟨ya, ys, rfl, ysq, yks⟩ := (hy.same s1).inv
    have ey := yks.nums
    subst ey
    refine ⟨_, rfl, ta, ya, ts, _, _, rfl, .inr tsq, .inr ysq, tks, tie_keys, nodup_kE (nodup_ties hri), by rw [List.length_map, List.length_map]; exact hW.symm, fun d o hd nd => ?_⟩
    have s2 : Same H1 (upd H1 d o) := Same.upd hd
    refine ⟨_, rfl, x, F, rfl, (hx.same s1).same s2, bF, by omega, fun u H3 s3 hu => ?_⟩
    refine ⟨u, chain F, rfl, hu, c9, fun H4 p ws s4 hp h4 hw => ?_⟩
    refine ⟨p, rfl, ⟨ws, ofL h4⟩, fun D hD => ?_⟩
    have s14 := Same.tr s3 s4
    have nd4 := nd.same s14
    refine lc_vals (walk_ls (a := p) hw) hD (fun i => ((prs (chain F)).take i).map fun e => V.int (wtOf (tiesOf F F) W e)) rfl (fun i hi => ?_) (fun H' s => ⟨seqL (ofL h4) s, Tx.same s⟩) YTp.same ?_ ?_
    · have h2 : i < ((prs (chain F)).map kE).length := hi
      rw [List.length_map, prs_len] at h2
      show (((prs (chain F)).take i).map fun e => V.int (wtOf (tiesOf F F) W e)).length ≤ 100000
      rw [List.length_map, List.length_take]; omega
    · rintro i z H5 H6 hi s ⟨rfl, q, hq, hz⟩ T F' hT _
      obtain ⟨e, he, rfl⟩ := get_map hq
      refine ⟨rfl, ?_⟩
      refine ⟨_, rfl, _, rfl, d, _, _, _, rfl, nd4.same s, hz, Nat.le_trans (kE_d e) (by decide), heavy_val _ W e hW.symm (hsub e (mem_at he)), ?_⟩
      refine hT _ _ Same.rfl' ?_
      show (((prs (chain F)).take (i + 1)).map fun e => V.int (wtOf (tiesOf F F) W e)) = _
      rw [take_next he, List.map_append]; rfl
    · intro H5 s5 hD5
      rw [List.length_map, List.take_length] at hD5
      refine ⟨D, (prs (chain F)).map (wtOf (tiesOf F F) W), rfl, ofL ?_, ?_⟩
      · rw [hD5, List.map_map]; rfl
      · exact k H5 (Same.tr s1 (Same.tr s2 (Same.tr s14 s5)))
def sp_is_bound_row (K : PySem.W.Frag) : Sp := fun vs H Q _ => ∃ x t F g n, vs = [x, t] ∧ Tp K H x (kF F) ∧ Tp K H t (.tup [kF g, .num n]) ∧ (∀ p ∈ F, Bd p) ∧ F.length ≤ 9 ∧ 2 ≤ g.length ∧ g.length ≤ 9 ∧ Front F g ∧ (∀ H', Same H H' → Q (.bl true) H')
abbrev s_is_bound_row : Stmt := top 27
theorem sc_is_bound_row : FnScope ["field", "row"] ["field", "row"] (defScope s_is_bound_row) := ⟨rfl, rfl, rfl, by decide +kernel, rfl, by decide +kernel, by decide +kernel⟩
theorem ok_is_bound_row (B : Bi mg) (C_is_number : Cal P w K mg base CX0 "is_number" 1 ["thing"] (sp_is_number K)) (C_is_front : Cal P w K mg base CX0 "is_front" 6 ["field", "thing"] (sp_is_front K)) (D : Df K mg "is_bound_row" s_is_bound_row ["field", "row"]) : Cal P w K mg base CX0 "is_bound_row" 7 ["field", "row"] (sp_is_bound_row K) := by
  refine D.ok 6 sc_is_bound_row (fun vs H Q E h => ?_) (fun f cdv A outer s H vs Q E hr h => ?_)
  · obtain ⟨x, t, F, g, n, rfl, _⟩ := h; rfl
  · obtain ⟨x, t, F, g, n, rfl, hx, ht, bF, h9, g2, g9, fr, k⟩ := h
    refine ⟨_, pss_one (ps_ret (pe_and (pe_isN B (pa_cons (pv 1) (pa_cons (pe_ty boot_tuple B.tuple) pa_nil)) : PE _ _ (tCB (rIsN K) _)) (pe_and (pe_cmpR op_eq (pe_lenT B (pa_cons (pv 1) pa_nil) : PE _ _ (tCB (rLenT K) _)) pe_int (nomark _)) (pe_and (pe_go C_is_front (hr.mono (by decide)) (pa_cons (pv 0) (pa_cons (pe_ix (ix_tupN : IxR _ (rIxN K)) (pv 1) pe_int (fun _ _ => rfl)) pa_nil))) (pe_one (pe_go C_is_number (hr.mono (by decide)) (pa_cons (pe_ix (ix_tupN : IxR _ (rIxN K)) (pv 1) pe_int (fun _ _ => rfl)) pa_nil))))))), ?_⟩
    refine ⟨_, rfl, .inl ⟨_, _, _, true, rfl, ht, kit_tt, true, rfl, ?_⟩⟩
    refine ⟨_, rfl, _, _, rfl, ht, rfl, true, rfl, ?_⟩
    refine ⟨_, rfl, _, rfl, _, _, _, ht, rfl, rfl, fun v hv => ?_⟩
    refine ⟨x, v, F, g, rfl, hx, hv, bF, h9, g2, g9, fr, fun H1 s1 => ⟨true, rfl, ?_⟩⟩
    refine ⟨_, rfl, _, _, _, ht.same s1, rfl, rfl, fun u hu => ?_⟩
    cases hu
    exact ⟨n, rfl, k H1 s1⟩
end
end Tl

end
-- D6
section
set_option maxHeartbeats 200000
namespace Tl
open PySem PySem.Spec PyProof.Rows L2
section
variable {P : Program} {w : World} {K : PySem.W.Frag} {mg : Str → Option Value} {base : Heap}
def sp_l_feed (K : PySem.W.Frag) : Sp := fun vs H Q _ => ∃ (a : Addr) (ns : List Int), vs = [.ref a] ∧ SqL K H a (ns.map V.int) ∧ ns.length ≤ 63 ∧ ∀ H' f row, Same H H' → H f = none → H row = none → FeedAt H' f row 0 → Q (.ref f) H'
theorem merge4 (row : Addr) : mergeK [] (fdk row 0 0 0) = fdk row 0 0 0 := by
  have h1 := skey (a := ("row" : Str)) (b := ("next" : Str)) (by decide +kernel)
  have h2 := skey (a := ("row" : Str)) (b := ("rest" : Str)) (by decide +kernel)
  have h3 := skey (a := ("row" : Str)) (b := ("draws" : Str)) (by decide +kernel)
  have h4 := skey (a := ("next" : Str)) (b := ("rest" : Str)) (by decide +kernel)
  have h5 := skey (a := ("next" : Str)) (b := ("draws" : Str)) (by decide +kernel)
  have h6 := skey (a := ("rest" : Str)) (b := ("draws" : Str)) (by decide +kernel)
  simp [mergeK, putK, fdk, h1, h2, h3, h4, h5, h6]
abbrev s_l_feed : Stmt := top 31
theorem sc_l_feed : FnScope ["_law_script"] ["_law_script"] (defScope s_l_feed) := ⟨rfl, rfl, rfl, by decide +kernel, rfl, by decide +kernel, by decide +kernel⟩
theorem ok_l_feed (B : Bi mg)  (D : Df K mg "_law_feed" s_l_feed ["_law_script"]) : Cal P w K mg base CX0 "_law_feed" 1 ["_law_script"] (sp_l_feed K) := by
  refine D.ok 0 sc_l_feed (fun vs H Q E h => ?_) (fun f cdv A outer s H vs Q E hr h => ?_)
  · obtain ⟨a, ns, rfl, _⟩ := h; rfl
  · obtain ⟨a, ns, rfl, ha, hn, k⟩ := h
    refine ⟨_, pss_one (ps_ret (pe_disp (pps_cons pe_str (pe_listL B (pa_cons (pe_slice (sl_list : SlR _ (rSlL K)) (pv 0) po_none (po_some pe_int)) pa_nil) : PE _ _ (tCB (rListL K) _)) (pps_cons pe_str pe_int (pps_cons pe_str pe_int (pps_cons pe_str pe_int pps_nil)))) (by rfl) (by rfl) (fun z => by cases z) (by decide))), ?_⟩
    intro p hp
    have s0 : Same H (upd H p (.dK [])) := Same.upd hp
    refine ⟨_, rfl, 63, rfl, a, _, rfl, s0.seq ha, fun q hq => ?_⟩
    have sq : Same (upd H p (.dK [])) (upd (upd H p (.dK [])) q (.lst (cutV (ns.map V.int) none (some 63)))) := Same.upd hq
    refine ⟨q, _, rfl, ofL upd_same, fun l hl => ?_⟩
    have sl := Same.upd (o := .lst (cutV (ns.map V.int) none (some 63))) hl
    have hpl : p ≠ l := fun z => by subst z; rw [sq _ _ upd_same] at hl; cases hl
    have hp2 := sl _ _ (sq _ _ upd_same)
    refine ⟨hp2, fdk l 0 0 0, rfl, by show 4 ≤ 15; decide, ?_⟩
    rw [merge4]
    have sA := Same.tr s0 (Same.tr sq sl)
    refine k _ p l (Same.own sA hp) hp ((Same.tr s0 sq).free hl) ⟨ns.take 63, 0, 0, 0, upd_same, ?_, by omega, by omega, by omega, by omega, by omega, by rw [List.length_take]; omega⟩
    rw [upd_ne hpl.symm, upd_same, List.map_take]
    have e : cutV (ns.map V.int) none (some 63) = (ns.map V.int).take 63 := cut_to (j := 63) rfl
    rw [e]
def sp_l_draw (K : PySem.W.Frag) : Sp := fun vs H Q _ => ∃ (f : Addr) (many : Int) (m : Nat) (row : Addr), vs = [.ref f, .int many] ∧ FeedAt H f row m ∧ m ≤ 100000 ∧ 0 < many ∧ many < 1073741824 ∧ ∀ r H', Keep f H H' → FeedAt H' f row (m + 1) → 0 ≤ r → r < many → Q (.int r) H'
theorem mod_in {a b : Int} (h : 0 < b) : 0 ≤ a % b ∧ a % b < b := ⟨Int.emod_nonneg _ (by omega), Int.emod_lt_of_pos _ h⟩
theorem num_dep : ∀ (ns : List Int), ∀ k ∈ ns.map NestedKey.num, k.depth ≤ 8 := fun ns k hk => by
  obtain ⟨n, _, rfl⟩ := List.mem_map.mp hk; rw [NestedKey.depth]; decide
abbrev s_l_draw : Stmt := top 32
theorem sc_l_draw : FnScope ["_law_feed_here", "_law_many", "_law_at", "_law_cell", "_law_mixed", "_law_found"] ["_law_feed_here", "_law_many"] (defScope s_l_draw) := ⟨rfl, rfl, rfl, by decide +kernel, rfl, by decide +kernel, by decide +kernel⟩
theorem ok_l_draw (B : Bi mg)  (D : Df K mg "_law_draw" s_l_draw ["_law_feed_here", "_law_many"]) : Cal P w K mg base CX0 "_law_draw" 1 ["_law_feed_here", "_law_many"] (sp_l_draw K) := by
  refine D.ok 0 sc_l_draw (fun vs H Q E h => ?_) (fun f cdv A outer s H vs Q E hr h => ?_)
  · obtain ⟨f, many, m, row, rfl, _⟩ := h; rfl
  · obtain ⟨f, many, m, row, rfl, hF, hm, h0, h1, k⟩ := h
    refine ⟨_, pss_cons (ps_if (pt_cmpR (op_eqL (u64 hr) : OpR _ _ (rEqL K false)) (pe_dget (u1 hr) (pv 0) pe_str (fun _ _ => rfl)) (pe_lst pa_nil) (nomark _))
      (pss_one (ps_ret pe_int))
      pss_nil)
      (pss_cons (ps_dput (u1 hr) (pv 0) pe_str (pe_op op_add (pe_dget (u1 hr) (pv 0) pe_str (fun _ _ => rfl)) pe_int) rfl)
      (pss_cons (ps_if (pt_cmpR op_gt (pe_dget (u1 hr) (pv 0) pe_str (fun _ _ => rfl)) pe_int (nomark _))
      (pss_cons (ps_set (i := 5) sc_l_draw.nd rfl (Or.inl rfl) (pe_op op_mod (pe_dget (u1 hr) (pv 0) pe_str (fun _ _ => rfl)) (pv 1)))
      (pss_cons (ps_dput (u1 hr) (pv 0) pe_str (pe_op op_fdiv (pe_dget (u1 hr) (pv 0) pe_str (fun _ _ => rfl)) (pv 1)) rfl)
      (pss_one (ps_ret (pv 5)))))
      pss_nil)
      (pss_cons (ps_set (i := 2) sc_l_draw.nd rfl (Or.inl rfl) (pe_dget (u1 hr) (pv 0) pe_str (fun _ _ => rfl)))
      (pss_cons (ps_dput (u1 hr) (pv 0) pe_str (pe_op op_add (pv 2) pe_int) rfl)
      (pss_cons (ps_set (i := 3) sc_l_draw.nd rfl (Or.inl rfl) (pe_ix (ix_listN : IxR _ (rIxLN K)) (pe_dget (u1 hr) (pv 0) pe_str (fun _ _ => rfl)) (pe_op op_mod (pv 2) (pe_lenL B (pa_cons (pe_dget (u1 hr) (pv 0) pe_str (fun _ _ => rfl)) pa_nil) : PE _ _ (tCB (rLenL K) _))) (fun _ _ => rfl)))
      (pss_cons (ps_if (PW.pt (pw_and (pt_cmpR op_ge (pv 3) (pe_op op_pow pe_int pe_int) (nomark _)) (pw_and1 (pt_cmpR op_lt (pv 2) (pe_lenL B (pa_cons (pe_dget (u1 hr) (pv 0) pe_str (fun _ _ => rfl)) pa_nil) : PE _ _ (tCB (rLenL K) _)) (nomark _)))))
      (pss_cons (ps_dput (u1 hr) (pv 0) pe_str (pe_op op_fdiv (pv 3) (pv 1)) rfl)
      (pss_one (ps_ret (pe_op op_mod (pv 3) (pv 1)))))
      pss_nil)
      (pss_cons (ps_set (i := 4) sc_l_draw.nd rfl (Or.inl rfl) (pe_op op_mod (pe_op op_pow (pe_op op_add (pe_op op_mod (pv 3) pe_int) (pe_op op_mul pe_int (pe_dget (u1 hr) (pv 0) pe_str (fun _ _ => rfl)))) pe_int) pe_int))
      (pss_cons (ps_set (i := 4) sc_l_draw.nd rfl (Or.inl rfl) (pe_op op_mod (pe_op op_mul (pe_op op_add (pv 4) (pe_op op_mul (pe_op op_mul pe_int (pe_dget (u1 hr) (pv 0) pe_str (fun _ _ => rfl))) (pe_dget (u1 hr) (pv 0) pe_str (fun _ _ => rfl)))) pe_int) pe_int))
      (pss_one (ps_ret (pe_op op_mod (pe_op op_fdiv (pv 4) pe_int) (pv 1)))))))))))), ?_⟩
    obtain ⟨cells, n, r, d, hf, hrow, n0, nm, r0, d0, dm, hc⟩ := id hF
    have nfr : row ≠ f := ne_of hrow hf (by intro z; cases z)
    refine ⟨_, rfl, f, _, rfl, dg_row hf, Nat.zero_le _, fun l hl => ?_⟩
    have s1 := Same.upd (o := .lst []) hl
    have hf1 := s1 _ _ hf
    have hrow1 := s1 _ _ hrow
    refine ⟨row, l, _, [], _, [], rfl, rfl, ofL hrow1, ofL upd_same, TpAll.ofNums _, .nil, num_dep _, by simp, _, rfl, ?_⟩
    refine ifB (fun e => ?_) (fun e => ?_)
    · exact k 0 _ (Keep.same s1) ((hF.same s1).le (by omega)) (by omega) (by omega)
    have hne : cells ≠ [] := fun z => by subst z; simp at e
    have hlen : 0 < cells.length := List.length_pos_iff.mpr hne
    obtain ⟨H1, eH1⟩ : ∃ H1, H1 = upd H l (.lst []) := ⟨_, rfl⟩
    rw [← eH1] at s1 hf1 hrow1 ⊢
    refine ⟨_, rfl, f, _, rfl, dg_draws hf1, d, 1, rfl, rfl, _, rfl, f, _, rfl, dp_draws hf1, ?_⟩
    obtain ⟨H2, eH2⟩ : ∃ H2, H2 = upd H1 f (.dK (fdk row n r (d + 1))) := ⟨_, rfl⟩
    rw [← eH2]
    have hf2 : H2 f = some (.dK (fdk row n r (d + 1))) := by rw [eH2]; exact upd_same
    have hrow2 : H2 row = some (.lst (cells.map V.int)) := by rw [eH2, upd_ne nfr]; exact hrow1
    have k2 : Keep f H H2 := by rw [eH2]; exact (Keep.same s1).trans Keep.upd
    refine ⟨_, rfl, f, _, rfl, dg_rest hf2, r, 0, rfl, rfl, _, rfl, ?_⟩
    refine ifB (fun e2 => ?_) (fun e2 => ?_)
    · refine ⟨_, rfl, f, _, rfl, dg_rest hf2, _, rfl, r, many, rfl, rfl, h0, ?_⟩
      refine ⟨_, rfl, f, _, rfl, dg_rest hf2, _, rfl, r, many, rfl, rfl, ⟨h0, h1⟩, _, rfl, f, _, rfl, dp_rest hf2, ?_⟩
      have mi := mod_in (a := r) h0
      refine ⟨_, rfl, k _ _ (k2.trans Keep.upd) ⟨cells, n, r / many, d + 1, upd_same, by rw [upd_ne nfr]; exact hrow2, n0, by omega, Int.ediv_nonneg r0 (by omega), by omega, by omega, hc⟩ mi.1 mi.2⟩
    refine ⟨_, rfl, f, _, rfl, dg_next hf2, ?_⟩
    refine ⟨_, rfl, n, 1, rfl, rfl, _, rfl, f, _, rfl, dp_next hf2, ?_⟩
    obtain ⟨H3, eH3⟩ : ∃ H3, H3 = upd H2 f (.dK (fdk row (n + 1) r (d + 1))) := ⟨_, rfl⟩
    rw [← eH3]
    have hf3 : H3 f = some (.dK (fdk row (n + 1) r (d + 1))) := by rw [eH3]; exact upd_same
    have hrow3 : H3 row = some (.lst (cells.map V.int)) := by rw [eH3, upd_ne nfr]; exact hrow2
    have k3 : Keep f H H3 := by rw [eH3]; exact k2.trans Keep.upd
    have hL : (0 : Int) < (((cells.map V.int).length : Nat) : Int) := by rw [List.length_map]; omega
    have mi := mod_in (a := n) hL
    obtain ⟨j, hj⟩ := Int.eq_ofNat_of_zero_le mi.1
    obtain ⟨c, hcj⟩ := at_lt (l := cells) (i := j) (by have := mi.2; rw [hj, List.length_map] at this; omega)
    refine ⟨_, rfl, f, _, rfl, dg_row hf3, _, rfl, _, rfl, f, _, rfl, dg_row hf3, row, _, rfl, ofL hrow3, n, _, rfl, rfl, hL, ?_⟩
    refine ⟨row, _, _, _, _, rfl, ofL hrow3, TpAll.ofNums _, rfl, atI_of (j := j) hj (map_at hcj), fun v hv => ?_⟩
    cases hv
    have e3 : H3 = H3 := rfl
    refine ⟨_, rfl, 10, 18, rfl, rfl, ⟨by decide, by decide, by decide⟩, c, _, rfl, rfl, _, rfl, ?_⟩
    have fa : FeedAt H3 f row (m + 1) := ⟨cells, n + 1, r, d + 1, hf3, hrow3, by omega, by omega, r0, by omega, by omega, hc⟩
    have hb1 := mod_in (a := c) (b := 2147483647) (by decide)
    have hb2 : 0 ≤ 7368787 * (d + 1) ∧ 7368787 * (d + 1) ≤ 7368787 * 100001 := by omega
    by_cases e4 : (10 : Int) ^ 18 ≤ c
    · refine ifB (fun _ => ?_) (fun e => absurd e4 (of_decide_eq_false e))
      refine ⟨_, rfl, _, rfl, f, _, rfl, dg_row hf3, row, _, rfl, ofL hrow3, n, _, rfl, rfl, _, rfl, ?_⟩
      refine ifB (fun e5 => ?_) (fun e5 => ?_)
      · refine ⟨_, rfl, _, rfl, c, many, rfl, rfl, ⟨h0, h1⟩, _, rfl, f, _, rfl, dp_rest hf3, ?_⟩
        refine ⟨_, rfl, _, rfl, c, many, rfl, rfl, h0, ?_⟩
        have c0 : 0 ≤ c := Int.le_trans (by decide) e4
        exact k _ _ (k3.trans Keep.upd) ⟨cells, n + 1, c / many, d + 1, upd_same, by rw [upd_ne nfr]; exact hrow3, by omega, by omega, Int.ediv_nonneg c0 (by omega), by omega, by omega, hc⟩ (mod_in h0).1 (mod_in h0).2
      · refine ⟨_, rfl, c, 2147483647, rfl, rfl, (by show (0 : Int) < 2147483647; decide), _, rfl, f, _, rfl, dg_draws hf3, 7368787, d + 1, rfl, rfl, .inl ⟨by omega, by omega⟩, _, _, rfl, rfl, _, 5, rfl, rfl, ⟨by decide, by decide, ?_⟩, _, _, rfl, rfl, (by show (0 : Int) < 2147483647; decide), ?_⟩
        · show (c % 2147483647 + 7368787 * (d + 1)).natAbs < 2 ^ 64; omega
        refine ⟨_, rfl, _, rfl, f, _, rfl, dg_draws hf3, 104729, d + 1, rfl, rfl, .inl ⟨by omega, by omega⟩, _, rfl, f, _, rfl, dg_draws hf3, _, d + 1, rfl, rfl, .inl ⟨by omega, by omega⟩, _, _, rfl, rfl, _, 48271, rfl, rfl, .inr ⟨by omega, by omega⟩, _, _, rfl, rfl, (by show (0 : Int) < 2147483629; decide), ?_⟩
        refine ⟨_, rfl, _, 16, rfl, rfl, ⟨by decide, by decide⟩, _, rfl, _, many, rfl, rfl, h0, ?_⟩
        exact k _ _ k3 fa (mod_in h0).1 (mod_in h0).2
    · refine ifB (fun e => absurd (of_decide_eq_true e) e4) (fun _ => ?_)
      refine ⟨_, rfl, c, 2147483647, rfl, rfl, (by show (0 : Int) < 2147483647; decide), _, rfl, f, _, rfl, dg_draws hf3, 7368787, d + 1, rfl, rfl, .inl ⟨by omega, by omega⟩, _, _, rfl, rfl, _, 5, rfl, rfl, ⟨by decide, by decide, ?_⟩, _, _, rfl, rfl, (by show (0 : Int) < 2147483647; decide), ?_⟩
      · show (c % 2147483647 + 7368787 * (d + 1)).natAbs < 2 ^ 64; omega
      refine ⟨_, rfl, _, rfl, f, _, rfl, dg_draws hf3, 104729, d + 1, rfl, rfl, .inl ⟨by omega, by omega⟩, _, rfl, f, _, rfl, dg_draws hf3, _, d + 1, rfl, rfl, .inl ⟨by omega, by omega⟩, _, _, rfl, rfl, _, 48271, rfl, rfl, .inr ⟨by omega, by omega⟩, _, _, rfl, rfl, (by show (0 : Int) < 2147483629; decide), ?_⟩
      refine ⟨_, rfl, _, 16, rfl, rfl, ⟨by decide, by decide⟩, _, rfl, _, many, rfl, rfl, h0, ?_⟩
      exact k _ _ k3 fa (mod_in h0).1 (mod_in h0).2
end
end Tl

end
-- D7
section
set_option maxHeartbeats 200000
namespace Tl
open PySem PySem.Spec PyProof.Rows L2
section
variable {P : Program} {w : World} {K : PySem.W.Frag} {mg : Str → Option Value} {base : Heap}
def sp_l_turn (K : PySem.W.Frag) : Sp := sp_turning K
abbrev s_l_turn : Stmt := top 33
theorem sc_l_turn : FnScope ["_law_a", "_law_b", "_law_c"] ["_law_a", "_law_b", "_law_c"] (defScope s_l_turn) := ⟨rfl, rfl, rfl, by decide +kernel, rfl, by decide +kernel, by decide +kernel⟩
theorem ok_l_turn (B : Bi mg)  (D : Df K mg "_law_turn" s_l_turn ["_law_a", "_law_b", "_law_c"]) : Cal P w K mg base CX0 "_law_turn" 1 ["_law_a", "_law_b", "_law_c"] (sp_l_turn K) := by
  refine D.ok 0 sc_l_turn (fun vs H Q E h => ?_) (fun f cdv A outer s H vs Q E hr h => ?_)
  · obtain ⟨u, v, x, a, b, c, rfl, _⟩ := h; rfl
  · obtain ⟨u, v, x, a, b, c, rfl, ha, hb, hc, ba, bb, bc, k⟩ := h
    refine ⟨_, pss_one (ps_ret (pe_op op_sub (pe_op op_mul (pe_op op_sub (pe_ix (ix_p0 : IxR _ (rP0 K)) (pv 1) pe_int (fun _ _ => rfl)) (pe_ix (ix_p0 : IxR _ (rP0 K)) (pv 0) pe_int (fun _ _ => rfl))) (pe_op op_sub (pe_ix (ix_p1 : IxR _ (rP1 K)) (pv 2) pe_int (fun _ _ => rfl)) (pe_ix (ix_p1 : IxR _ (rP1 K)) (pv 0) pe_int (fun _ _ => rfl)))) (pe_op op_mul (pe_op op_sub (pe_ix (ix_p1 : IxR _ (rP1 K)) (pv 1) pe_int (fun _ _ => rfl)) (pe_ix (ix_p1 : IxR _ (rP1 K)) (pv 0) pe_int (fun _ _ => rfl))) (pe_op op_sub (pe_ix (ix_p0 : IxR _ (rP0 K)) (pv 2) pe_int (fun _ _ => rfl)) (pe_ix (ix_p0 : IxR _ (rP0 K)) (pv 0) pe_int (fun _ _ => rfl)))))), ?_⟩
    unfold Bd at ba bb bc
    refine ⟨_, rfl, _, hb, rfl, _, rfl, _, ha, rfl, _, _, rfl, rfl, _, rfl, _, hc, rfl, _, rfl, _, ha, rfl, _, _, rfl, rfl, _, _, rfl, rfl, .inl ⟨by omega, by omega⟩, ?_⟩
    exact ⟨_, rfl, _, hb, rfl, _, rfl, _, ha, rfl, _, _, rfl, rfl, _, rfl, _, hc, rfl, _, rfl, _, ha, rfl, _, _, rfl, rfl, _, _, rfl, rfl, .inl ⟨by omega, by omega⟩, _, _, rfl, rfl, k⟩
def sp_l_spread (K : PySem.W.Frag) : Sp := fun vs H Q _ => ∃ (l : Addr) (ws : List V) (S : List Pt), vs = [.ref l] ∧ H l = some (.lst ws) ∧ TpAll K H ws (S.map kPt) ∧ (∀ p ∈ S, Bd p) ∧ S.length ≤ 100 ∧ ∀ H', Same H H' → Q (.bl (spreadB S)) H'
abbrev s_l_spread : Stmt := top 34
theorem sc_l_spread : FnScope ["_law_some", "_law_one"] ["_law_some"] (defScope s_l_spread) := ⟨rfl, rfl, rfl, by decide +kernel, rfl, by decide +kernel, by decide +kernel⟩
theorem ok_l_spread (B : Bi mg) (C_l_turn : Cal P w K mg base CX0 "_law_turn" 1 ["_law_a", "_law_b", "_law_c"] (sp_l_turn K)) (D : Df K mg "_law_spread" s_l_spread ["_law_some"]) : Cal P w K mg base CX0 "_law_spread" 2 ["_law_some"] (sp_l_spread K) := by
  refine D.ok 1 sc_l_spread (fun vs H Q E h => ?_) (fun f cdv A outer s H vs Q E hr h => ?_)
  · obtain ⟨l, ws, S, rfl, _⟩ := h; rfl
  · obtain ⟨l, ws, S, rfl, hl, hw, bS, h100, k⟩ := h
    refine ⟨_, pss_one (ps_ret (pe_and (pe_cmpR op_gt (pe_lenL B (pa_cons (pv 0) pa_nil) : PE _ _ (tCB (rLenL K) _)) pe_int (nomark _)) (pe_one (pe_cmpR (op_neL (u64 hr) : OpR _ _ (rEqL K true)) (pe_lc (own := [("_law_one", 1)]) (g := gName 1) rfl sc_l_spread.nd (pi_list (pv 0) : PI _ _ _ (iList K _)) (blkOk_by (N := ["_law_some", "_law_one"]) (sc := defScope s_l_spread) (by decide +kernel)) (fun _ _ _ _ _ => pg_name (i := 1) sc_l_spread.nd rfl (Or.inl rfl)) (fun _ _ _ _ _ => pts_one (pt_cmpR op_ne (pe_go C_l_turn (hr.mono (by decide)) (pa_cons (pe_ix (ix_listN : IxR _ (rIxLN K)) (pv 0) pe_int (fun _ _ => rfl)) (pa_cons (pe_ix (ix_listN : IxR _ (rIxLN K)) (pv 0) pe_int (fun _ _ => rfl)) (pa_cons (pv 1) pa_nil)))) pe_int (nomark _))) (fun _ _ _ _ _ => pv 1)) (pe_lst pa_nil) (nomark _))))), ?_⟩
    have lw := hw.length
    rw [List.length_map] at lw
    refine ⟨_, rfl, l, ws, rfl, ofL hl, _, _, rfl, rfl, _, rfl, ?_⟩
    refine ifB (fun e => ?_) (fun e => ?_)
    · have e : 2 < ((ws.length : Nat) : Int) := of_decide_eq_true e
      match S, lw, hw, bS, h100, k with
      | a :: b :: c :: r, lw, hw, bS, h100, k =>
        refine ⟨_, rfl, l, rfl, ⟨ws, ofL hl⟩, fun D hD => ?_⟩
        refine lc_pure (K := K) (walk_ls (a := l) hw) hD (fun i => (((a :: b :: c :: r).take i).filter fun x => decide (turn a b x ≠ 0)).map kPt) rfl (fun i hi => ?_) (fun H' s => ⟨seqL (ofL hl) s, Tx.same s⟩) YTp.same ?_ ?_
        · have h3 := List.length_filter_le (fun x => decide (turn a b x ≠ 0)) ((a :: b :: c :: r).take i)
          rw [List.length_take] at h3
          show ((((a :: b :: c :: r).take i).filter fun x => decide (turn a b x ≠ 0)).map kPt).length ≤ 100000
          rw [List.length_map]; omega
        · rintro i y H1 H2 hi s ⟨rfl, q, hq, hy⟩ T F' hT hF
          obtain ⟨p, hp, rfl⟩ := get_map hq
          have hl2 := s _ _ hl
          have hw2 := hw.same s
          refine ⟨rfl, ?_⟩
          refine ⟨_, rfl, l, ws, _, _, _, rfl, ofL hl2, hw2, rfl, atI_of (j := 0) rfl (map_at (x := a) rfl), fun va hva => ?_⟩
          refine ⟨_, rfl, l, ws, _, _, _, rfl, ofL hl2, hw2, rfl, atI_of (j := 1) rfl (map_at (x := b) rfl), fun vb hvb => ?_⟩
          refine ⟨_, rfl, va, vb, y, a, b, p, rfl, hva, hvb, hy, bS a (by simp), bS b (by simp), bS p (mem_at hp), rfl, _, rfl, ?_⟩
          have en : (!decide (V.int (turn a b p) = V.int 0)) = decide (turn a b p ≠ 0) := by rw [Bool.eq_iff_iff]; simp
          rw [en]
          refine ifB (fun e2 => ?_) (fun e2 => ?_)
          · refine ⟨_, rfl, hT _ _ (kPt p) Same.rfl' hy ?_⟩
            show (((a :: b :: c :: r).take (i + 1)).filter fun x => decide (turn a b x ≠ 0)).map kPt = _
            rw [take_next hp, List.filter_append, List.map_append, List.filter_cons, if_pos e2]; rfl
          · refine hF _ Same.rfl' ?_
            show (((a :: b :: c :: r).take (i + 1)).filter fun x => decide (turn a b x ≠ 0)).map kPt = _
            rw [take_next hp, List.filter_append, List.map_append, List.filter_cons, if_neg (by rw [e2]; decide)]
            exact List.append_nil _
        · intro H2 zs s2 hz hzs
          rw [List.length_map, List.take_length] at hzs
          refine ⟨Nat.zero_le _, fun n hn => ?_⟩
          have s3 := Same.upd (o := .lst []) hn
          refine ⟨D, n, zs, [], _, [], rfl, rfl, ofL (s3 _ _ hz), ofL upd_same, hzs.same s3, .nil, pt_dep, by simp, ?_⟩
          have en : (!decide ((((a :: b :: c :: r).filter fun x => decide (turn a b x ≠ 0)).map kPt) = [])) = spreadB (a :: b :: c :: r) := by
            unfold spreadB
            rw [Bool.eq_iff_iff]
            simp only [Bool.not_eq_true', decide_eq_false_iff_not, List.map_eq_nil_iff, List.filter_eq_nil_iff, List.any_eq_true]
            constructor
            · intro h
              by_cases q : ∃ x, x ∈ a :: b :: c :: r ∧ decide (turn a b x ≠ 0) = true
              · exact q
              · exact absurd (fun x hx z => q ⟨x, hx, z⟩) h
            · rintro ⟨x, hx, z⟩ h
              exact h x hx z
          show Q (.bl (!decide ((((a :: b :: c :: r).filter fun x => decide (turn a b x ≠ 0)).map kPt) = []))) _
          rw [en]
          exact k _ (Same.tr s2 s3)
      | [], lw, _, _, _, _ => have l2 : ws.length = 0 := lw; omega
      | [_], lw, _, _, _, _ => simp at lw; omega
      | [_, _], lw, _, _, _, _ => simp at lw; omega
    · have e : ¬ 2 < ((ws.length : Nat) : Int) := of_decide_eq_false e
      have en : spreadB S = false := by
        match S, lw with
        | [], _ => rfl
        | [_], _ => rfl
        | [_, _], _ => rfl
        | a :: b :: c :: r, lw => simp at lw; omega
      rw [en] at k
      exact k H Same.rfl'
def sp_l_wide (K : PySem.W.Frag) : Sp := fun vs H Q _ => ∃ (f : Addr) (m : Nat) (row : Addr), vs = [.ref f] ∧ FeedAt H f row m ∧ m ≤ 50000 ∧ ∀ r H', Keep f H H' → FeedAt H' f row (m + 3) → -1000 ≤ r → r ≤ 1000 → Q (.int r) H'
abbrev s_l_wide : Stmt := top 35
theorem sc_l_wide : FnScope ["_law_feed_here", "_law_found"] ["_law_feed_here"] (defScope s_l_wide) := ⟨rfl, rfl, rfl, by decide +kernel, rfl, by decide +kernel, by decide +kernel⟩
theorem ok_l_wide (B : Bi mg) (C_l_draw : Cal P w K mg base CX0 "_law_draw" 1 ["_law_feed_here", "_law_many"] (sp_l_draw K)) (D : Df K mg "_law_wide" s_l_wide ["_law_feed_here"]) : Cal P w K mg base CX0 "_law_wide" 2 ["_law_feed_here"] (sp_l_wide K) := by
  refine D.ok 1 sc_l_wide (fun vs H Q E h => ?_) (fun f cdv A outer s H vs Q E hr h => ?_)
  · obtain ⟨f, m, row, rfl, _⟩ := h; rfl
  · obtain ⟨f, m, row, rfl, hF, hm, k⟩ := h
    refine ⟨_, pss_cons (ps_set (i := 1) sc_l_wide.nd rfl (Or.inl rfl) (pe_go C_l_draw (hr.mono (by decide)) (pa_cons (pv 0) (pa_cons pe_int pa_nil))))
      (pss_cons (ps_if (pt_cmpR op_eq (pe_go C_l_draw (hr.mono (by decide)) (pa_cons (pv 0) (pa_cons pe_int pa_nil))) pe_int (nomark _))
      (pss_one (ps_set (i := 1) sc_l_wide.nd rfl (Or.inl rfl) pe_int))
      pss_nil)
      (pss_one (ps_ret (pe_ifExp (pt_cmpR op_eq (pe_go C_l_draw (hr.mono (by decide)) (pa_cons (pv 0) (pa_cons pe_int pa_nil))) pe_int (nomark _)) (pv 1) (pe_op op_sub pe_int (pv 1)))))), ?_⟩
    refine ⟨_, rfl, f, 1001, m, row, rfl, hF, by omega, by decide, by decide, fun r1 H1 k1 F1 a0 a1 => ?_⟩
    refine ⟨_, rfl, f, 8, m + 1, row, rfl, F1, by omega, by decide, by decide, fun r2 H2 k2 F2 b0 b1 => ?_⟩
    refine ⟨rfl, _, rfl, ?_⟩
    refine ifB (fun e => ?_) (fun e => ?_)
    · refine ⟨_, rfl, f, 2, m + 2, row, rfl, F2, by omega, by decide, by decide, fun r3 H3 k3 F3 c0 c1 => ?_⟩
      refine ⟨rfl, _, rfl, ?_⟩
      refine ifB (fun e2 => ?_) (fun e2 => ?_)
      · exact ⟨_, rfl, k 1000 H3 ((k1.trans k2).trans k3) F3 (by omega) (by omega)⟩
      · exact ⟨_, rfl, _, _, rfl, rfl, k _ H3 ((k1.trans k2).trans k3) F3 (by omega) (by omega)⟩
    · refine ⟨_, rfl, f, 2, m + 2, row, rfl, F2, by omega, by decide, by decide, fun r3 H3 k3 F3 c0 c1 => ?_⟩
      refine ⟨rfl, _, rfl, ?_⟩
      refine ifB (fun e2 => ?_) (fun e2 => ?_)
      · exact ⟨_, rfl, k r1 H3 ((k1.trans k2).trans k3) F3 (by omega) (by omega)⟩
      · exact ⟨_, rfl, _, _, rfl, rfl, k _ H3 ((k1.trans k2).trans k3) F3 (by omega) (by omega)⟩
def SBd (p : Pt) : Prop := -1000 ≤ p.1 ∧ p.1 ≤ 1000 ∧ -1000 ≤ p.2 ∧ p.2 ≤ 1000
theorem kp (x y : Int) : NestedKey.tup [.num x, .num y] = kPt (x, y) := rfl
def sp_l_point (K : PySem.W.Frag) : Sp := fun vs H Q _ => ∃ (f : Addr) (m : Nat) (row : Addr) (way kk sl : Int), vs = [.ref f, .int way, .int kk, .int sl] ∧ FeedAt H f row m ∧ m ≤ 40000 ∧ 0 ≤ kk ∧ kk ≤ 100 ∧ 0 ≤ sl ∧ sl ≤ 2 ∧
  ∀ p v H', Keep f H H' → FeedAt H' f row (m + 6) → SBd p → Tp K H' v (kPt p) → Q v H'
abbrev s_l_point : Stmt := top 36
theorem sc_l_point : FnScope ["_law_feed_here", "_law_way", "_law_k", "_law_slope", "_law_j", "_law_at", "_law_x", "_law_y", "_law_off", "_law_high"] ["_law_feed_here", "_law_way", "_law_k", "_law_slope"] (defScope s_l_point) := ⟨rfl, rfl, rfl, by decide +kernel, rfl, by decide +kernel, by decide +kernel⟩
theorem ok_l_point (B : Bi mg) (C_l_draw : Cal P w K mg base CX0 "_law_draw" 1 ["_law_feed_here", "_law_many"] (sp_l_draw K)) (C_l_wide : Cal P w K mg base CX0 "_law_wide" 2 ["_law_feed_here"] (sp_l_wide K)) (D : Df K mg "_law_point" s_l_point ["_law_feed_here", "_law_way", "_law_k", "_law_slope"]) : Cal P w K mg base CX0 "_law_point" 3 ["_law_feed_here", "_law_way", "_law_k", "_law_slope"] (sp_l_point K) := by
  refine D.ok 2 sc_l_point (fun vs H Q E h => ?_) (fun f cdv A outer s H vs Q E hr h => ?_)
  · obtain ⟨f, m, row, way, kk, sl, rfl, _⟩ := h; rfl
  · obtain ⟨f, m, row, way, kk, sl, rfl, hF, hm, k0, k1, sl0, sl1, k⟩ := h
    refine ⟨_, pss_cons (ps_if (pt_cmpR op_eq (pv 1) pe_int (nomark _))
      (pss_one (ps_ret (pe_tupN (pa_cons (pe_go C_l_draw (hr.mono (by decide)) (pa_cons (pv 0) (pa_cons pe_int pa_nil))) (pa_cons (pe_go C_l_draw (hr.mono (by decide)) (pa_cons (pv 0) (pa_cons pe_int pa_nil))) pa_nil)) : PE _ _ (tTupN K _))))
      pss_nil)
      (pss_cons (ps_if (pt_cmpR op_eq (pv 1) pe_int (nomark _))
      (pss_one (ps_ret (pe_tupN (pa_cons (pe_go C_l_draw (hr.mono (by decide)) (pa_cons (pv 0) (pa_cons pe_int pa_nil))) (pa_cons (pe_go C_l_draw (hr.mono (by decide)) (pa_cons (pv 0) (pa_cons pe_int pa_nil))) pa_nil)) : PE _ _ (tTupN K _))))
      pss_nil)
      (pss_cons (ps_if (pt_cmpR op_eq (pv 1) pe_int (nomark _))
      (pss_one (ps_ret (pe_tupN (pa_cons (pe_go C_l_wide (hr.mono (by decide)) (pa_cons (pv 0) pa_nil)) (pa_cons (pe_go C_l_wide (hr.mono (by decide)) (pa_cons (pv 0) pa_nil)) pa_nil)) : PE _ _ (tTupN K _))))
      pss_nil)
      (pss_cons (ps_if (pt_cmpR op_eq (pv 1) pe_int (nomark _))
      (pss_cons (ps_set (i := 4) sc_l_point.nd rfl (Or.inl rfl) (pe_go C_l_draw (hr.mono (by decide)) (pa_cons (pv 0) (pa_cons pe_int pa_nil))))
      (pss_one (ps_ret (pe_tupN (pa_cons (pv 4) (pa_cons (pe_op op_mul (pv 4) (pv 4)) pa_nil)) : PE _ _ (tTupN K _)))))
      pss_nil)
      (pss_cons (ps_if (pt_cmpR op_eq (pv 1) pe_int (nomark _))
      (pss_cons (ps_set (i := 5) sc_l_point.nd rfl (Or.inl rfl) (pe_go C_l_draw (hr.mono (by decide)) (pa_cons (pv 0) (pa_cons pe_int pa_nil))))
      (pss_cons (ps_if (pt_cmpR op_gt (pv 5) pe_int (nomark _))
      (pss_one (ps_ret (pe_tupN (pa_cons (pe_op op_sub (pe_go C_l_draw (hr.mono (by decide)) (pa_cons (pv 0) (pa_cons pe_int pa_nil))) pe_int) (pa_cons (pe_op op_sub (pe_go C_l_draw (hr.mono (by decide)) (pa_cons (pv 0) (pa_cons pe_int pa_nil))) pe_int) pa_nil)) : PE _ _ (tTupN K _))))
      pss_nil)
      (pss_cons (ps_asg (pe_ix (ix_listN : IxR _ (rIxLN K)) (pe_lst (pa_cons (pe_tupN (pa_cons pe_int (pa_cons pe_int pa_nil)) : PE _ _ (tTupN K _)) (pa_cons (pe_tupN (pa_cons pe_int (pa_cons pe_int pa_nil)) : PE _ _ (tTupN K _)) (pa_cons (pe_tupN (pa_cons pe_int (pa_cons pe_int pa_nil)) : PE _ _ (tTupN K _)) pa_nil)))) (pe_op op_mod (pv 5) pe_int) (fun _ _ => rfl)) (pg_tup rfl (pgs_cons (pg_name (i := 6) sc_l_point.nd rfl (Or.inl rfl)) (pgs_cons (pg_name (i := 7) sc_l_point.nd rfl (Or.inl rfl)) pgs_nil))))
      (pss_one (ps_ret (pe_ix (ix_listN : IxR _ (rIxLN K)) (pe_lst (pa_cons (pe_tupN (pa_cons (pv 6) (pa_cons (pv 7) pa_nil)) : PE _ _ (tTupN K _)) (pa_cons (pe_tupN (pa_cons (pv 7) (pa_cons (pe_op op_sub pe_int (pv 6)) pa_nil)) : PE _ _ (tTupN K _)) (pa_cons (pe_tupN (pa_cons (pe_op op_sub pe_int (pv 6)) (pa_cons (pe_op op_sub pe_int (pv 7)) pa_nil)) : PE _ _ (tTupN K _)) (pa_cons (pe_tupN (pa_cons (pe_op op_sub pe_int (pv 7)) (pa_cons (pv 6) pa_nil)) : PE _ _ (tTupN K _)) pa_nil))))) (pe_op op_fdiv (pv 5) pe_int) (fun _ _ => rfl)))))))
      pss_nil)
      (pss_cons (ps_if (pt_cmpR op_eq (pv 1) pe_int (nomark _))
      (pss_cons (ps_set (i := 4) sc_l_point.nd rfl (Or.inl rfl) (pe_go C_l_draw (hr.mono (by decide)) (pa_cons (pv 0) (pa_cons pe_int pa_nil))))
      (pss_cons (ps_set (i := 8) sc_l_point.nd rfl (Or.inl rfl) (pe_ifExp (pt_cmpR op_gt (pe_go C_l_draw (hr.mono (by decide)) (pa_cons (pv 0) (pa_cons pe_int pa_nil))) pe_int (nomark _)) pe_int (pe_op op_add pe_int (pe_go C_l_draw (hr.mono (by decide)) (pa_cons (pv 0) (pa_cons pe_int pa_nil))))))
      (pss_one (ps_ret (pe_tupN (pa_cons (pv 4) (pa_cons (pe_op op_add (pe_op op_mul (pv 3) (pv 4)) (pv 8)) pa_nil)) : PE _ _ (tTupN K _))))))
      pss_nil)
      (pss_cons (ps_if (pt_cmpR op_eq (pv 1) pe_int (nomark _))
      (pss_cons (ps_set (i := 4) sc_l_point.nd rfl (Or.inl rfl) (pe_go C_l_draw (hr.mono (by decide)) (pa_cons (pv 0) (pa_cons pe_int pa_nil))))
      (pss_cons (ps_set (i := 9) sc_l_point.nd rfl (Or.inl rfl) (pe_op op_add pe_int (pe_op op_mul (pe_op op_sub (pv 4) pe_int) (pe_op op_sub (pv 4) pe_int))))
      (pss_one (ps_ret (pe_ifExp (pt_cmpR op_eq (pe_go C_l_draw (hr.mono (by decide)) (pa_cons (pv 0) (pa_cons pe_int pa_nil))) pe_int (nomark _)) (pe_tupN (pa_cons (pv 4) (pa_cons (pv 9) pa_nil)) : PE _ _ (tTupN K _)) (pe_tupN (pa_cons (pv 4) (pa_cons (pe_op op_sub pe_int (pv 9)) pa_nil)) : PE _ _ (tTupN K _)))))))
      pss_nil)
      (pss_one (ps_ret (pe_tupN (pa_cons (pe_op op_mod (pv 2) pe_int) (pa_cons (pe_op op_fdiv (pv 2) pe_int) pa_nil)) : PE _ _ (tTupN K _)))))))))), ?_⟩
    have two : 2 ≤ 1000 := by decide
    have fin : ∀ (x y : Int) (H1 : Hp) (n : Nat), Keep f H H1 → FeedAt H1 f row n → n ≤ m + 6 → -1000 ≤ x → x ≤ 1000 → -1000 ≤ y → y ≤ 1000 → Nw K H1 Q (.tup [.num x, .num y]) := fun x y H1 n kp1 F1 hn x0 x1 y0 y1 v H2 s2 hv =>
      k (x, y) v H2 (kp1.trans (Keep.same s2)) ((F1.same s2).le hn) ⟨x0, x1, y0, y1⟩ hv
    refine ⟨_, rfl, rfl, _, rfl, ifB (fun _ => ?_) (fun _ => ?_)⟩
    · refine ⟨_, rfl, f, 4, m, row, rfl, hF, by omega, by decide, by decide, fun r1 H1 q1 F1 a0 a1 => ?_⟩
      refine ⟨_, rfl, f, 4, m + 1, row, rfl, F1, by omega, by decide, by decide, fun r2 H2 q2 F2 b0 b1 => ?_⟩
      exact ⟨two, _, tps2 (.int _) (.int _), fin _ _ H2 _ (q1.trans q2) F2 (by omega) (by omega) (by omega) (by omega) (by omega)⟩
    refine ⟨_, rfl, rfl, _, rfl, ifB (fun _ => ?_) (fun _ => ?_)⟩
    · refine ⟨_, rfl, f, 41, m, row, rfl, hF, by omega, by decide, by decide, fun r1 H1 q1 F1 a0 a1 => ?_⟩
      refine ⟨_, rfl, f, 41, m + 1, row, rfl, F1, by omega, by decide, by decide, fun r2 H2 q2 F2 b0 b1 => ?_⟩
      exact ⟨two, _, tps2 (.int _) (.int _), fin _ _ H2 _ (q1.trans q2) F2 (by omega) (by omega) (by omega) (by omega) (by omega)⟩
    refine ⟨_, rfl, rfl, _, rfl, ifB (fun _ => ?_) (fun _ => ?_)⟩
    · refine ⟨_, rfl, f, m, row, rfl, hF, by omega, fun r1 H1 q1 F1 a0 a1 => ?_⟩
      refine ⟨_, rfl, f, m + 3, row, rfl, F1, by omega, fun r2 H2 q2 F2 b0 b1 => ?_⟩
      exact ⟨two, _, tps2 (.int _) (.int _), fin _ _ H2 _ (q1.trans q2) F2 (by omega) (by omega) (by omega) (by omega) (by omega)⟩
    refine ⟨_, rfl, rfl, _, rfl, ifB (fun _ => ?_) (fun _ => ?_)⟩
    · refine ⟨_, rfl, f, 31, m, row, rfl, hF, by omega, by decide, by decide, fun r1 H1 q1 F1 a0 a1 => ?_⟩
      have b := mul_le (a := r1) (b := r1) (A := 30) (B := 30) (by omega) (by omega) (by omega) (by omega)
      refine ⟨_, rfl, _, rfl, _, rfl, _, _, rfl, rfl, .inl ⟨by omega, by omega⟩, ?_⟩
      exact ⟨two, _, tps2 (.int _) (.int _), fin _ _ H1 _ q1 F1 (by omega) (by omega) (by omega) (by omega) (by omega)⟩
    refine ⟨_, rfl, rfl, _, rfl, ifB (fun _ => ?_) (fun _ => ?_)⟩
    · refine ⟨_, rfl, f, 15, m, row, rfl, hF, by omega, by decide, by decide, fun r1 H1 q1 F1 a0 a1 => ?_⟩
      refine ⟨_, rfl, _, _, rfl, rfl, _, rfl, ifB (fun e => ?_) (fun e => ?_)⟩
      · refine ⟨_, rfl, f, 13, m + 1, row, rfl, F1, by omega, by decide, by decide, fun r2 H2 q2 F2 b0 b1 => ?_⟩
        refine ⟨_, _, rfl, rfl, _, rfl, f, 13, m + 2, row, rfl, F2, by omega, by decide, by decide, fun r3 H3 q3 F3 c0 c1 => ?_⟩
        exact ⟨_, _, rfl, rfl, two, _, tps2 (.int _) (.int _), fin _ _ H3 _ ((q1.trans q2).trans q3) F3 (by omega) (by omega) (by omega) (by omega) (by omega)⟩
      have e : ¬ 11 < r1 := of_decide_eq_false e
      refine ⟨two, _, tps2 (.int _) (.int _), fun v1 H2 s2 hv1 => ?_⟩
      refine ⟨two, _, tps2 (.int _) (.int _), fun v2 H3 s3 hv2 => ?_⟩
      refine ⟨two, _, tps2 (.int _) (.int _), fun v3 H4 s4 hv3 => ?_⟩
      refine ⟨by show 3 ≤ sizeLine; decide, fun l hl => ?_⟩
      have sl5 := Same.upd (o := .lst [v1, v2, v3]) hl
      have hk : TpAll K (upd H4 l (.lst [v1, v2, v3])) [v1, v2, v3] ([(3, 4), (4, 3), (5, 0)].map kPt) := tps3 (((hv1.same s3).same s4).same sl5) ((hv2.same s4).same sl5) (hv3.same sl5)
      have mi := mod_in (a := r1) (b := 3) (by decide)
      obtain ⟨j, hj⟩ := Int.eq_ofNat_of_zero_le mi.1
      obtain ⟨p, hp⟩ := at_lt (l := ([(3, 4), (4, 3), (5, 0)] : List Pt)) (i := j) (by simp; omega)
      have bp : 0 ≤ p.1 ∧ p.1 ≤ 5 ∧ 0 ≤ p.2 ∧ p.2 ≤ 5 := by
        have := mem_at hp
        simp only [List.mem_cons, List.not_mem_nil, or_false] at this
        rcases this with rfl | rfl | rfl <;> decide
      refine ⟨_, rfl, r1, 3, rfl, rfl, (by show (0 : Int) < 3; decide), l, _, _, _, _, rfl, ofL upd_same, hk, rfl, atI_of (j := j) hj (map_at hp), fun v hv => ?_⟩
      obtain ⟨pa, u1, u2, rfl, ps, h1, h2⟩ := inv2 hv
      cases h1; cases h2
      refine ⟨_, _, rfl, ps, rfl, _, _, rfl, _, _, rfl, rfl, ?_⟩
      refine ⟨_, rfl, _, rfl, two, _, tps2 (.int _) (.int _), fun w1 H6 s6 hw1 => ?_⟩
      refine ⟨_, rfl, _, rfl, _, _, rfl, rfl, two, _, tps2 (.int _) (.int _), fun w2 H7 s7 hw2 => ?_⟩
      refine ⟨_, rfl, _, _, rfl, rfl, _, rfl, _, _, rfl, rfl, two, _, tps2 (.int _) (.int _), fun w3 H8 s8 hw3 => ?_⟩
      refine ⟨_, rfl, _, _, rfl, rfl, _, rfl, two, _, tps2 (.int _) (.int _), fun w4 H9 s9 hw4 => ?_⟩
      refine ⟨by show 4 ≤ sizeLine; decide, fun l2 hl2 => ?_⟩
      have sl10 := Same.upd (o := .lst [w1, w2, w3, w4]) hl2
      have s810 := Same.tr s9 sl10
      have hk2 : TpAll K (upd H9 l2 (.lst [w1, w2, w3, w4])) [w1, w2, w3, w4] ([(p.1, p.2), (p.2, 0 - p.1), (0 - p.1, 0 - p.2), (0 - p.2, p.1)].map kPt) :=
        .cons (hw1.same (Same.tr s7 (Same.tr s8 s810))) (tps3 (hw2.same (Same.tr s8 s810)) (hw3.same s810) (hw4.same sl10))
      have di : 0 ≤ r1 / 3 ∧ r1 / 3 ≤ 3 := by omega
      obtain ⟨j2, hj2⟩ := Int.eq_ofNat_of_zero_le di.1
      obtain ⟨z, hz⟩ := at_lt (l := ([(p.1, p.2), (p.2, 0 - p.1), (0 - p.1, 0 - p.2), (0 - p.2, p.1)] : List Pt)) (i := j2) (by simp; omega)
      have bz : SBd z := by
        have := mem_at hz
        simp only [List.mem_cons, List.not_mem_nil, or_false] at this
        unfold SBd
        rcases this with rfl | rfl | rfl | rfl <;> (refine ⟨?_, ?_, ?_, ?_⟩ <;> simp only <;> omega)
      refine ⟨_, rfl, r1, 3, rfl, rfl, ⟨by decide, by decide⟩, l2, _, _, _, _, rfl, ofL upd_same, hk2, rfl, atI_of (j := j2) hj2 (map_at hz), fun v hv => ?_⟩
      have sall := Same.tr s2 (Same.tr s3 (Same.tr s4 (Same.tr sl5 (Same.tr s6 (Same.tr s7 (Same.tr s8 s810))))))
      exact k z v _ (q1.trans (Keep.same sall)) ((F1.same sall).le (by omega)) bz hv
    refine ⟨_, rfl, rfl, _, rfl, ifB (fun _ => ?_) (fun _ => ?_)⟩
    · refine ⟨_, rfl, f, 9, m, row, rfl, hF, by omega, by decide, by decide, fun r1 H1 q1 F1 a0 a1 => ?_⟩
      refine ⟨_, rfl, f, 4, m + 1, row, rfl, F1, by omega, by decide, by decide, fun r2 H2 q2 F2 b0 b1 => ?_⟩
      have b := mul_le (a := sl) (b := r1) (A := 2) (B := 8) (by omega) (by omega) (by omega) (by omega)
      refine ⟨_, _, rfl, rfl, _, rfl, ifB (fun e => ?_) (fun e => ?_)⟩
      · refine ⟨_, rfl, _, rfl, _, rfl, _, _, rfl, rfl, .inl ⟨by omega, by omega⟩, _, rfl, _, _, rfl, rfl, ?_⟩
        exact ⟨two, _, tps2 (.int _) (.int _), fin _ _ H2 _ (q1.trans q2) F2 (by omega) (by omega) (by omega) (by omega) (by omega)⟩
      · refine ⟨_, rfl, f, 5, m + 2, row, rfl, F2, by omega, by decide, by decide, fun r3 H3 q3 F3 c0 c1 => ?_⟩
        refine ⟨_, _, rfl, rfl, _, rfl, _, rfl, _, rfl, _, _, rfl, rfl, .inl ⟨by omega, by omega⟩, _, rfl, _, _, rfl, rfl, ?_⟩
        exact ⟨two, _, tps2 (.int _) (.int _), fin _ _ H3 _ ((q1.trans q2).trans q3) F3 (by omega) (by omega) (by omega) (by omega) (by omega)⟩
    refine ⟨_, rfl, rfl, _, rfl, ifB (fun _ => ?_) (fun _ => ?_)⟩
    · refine ⟨_, rfl, f, 9, m, row, rfl, hF, by omega, by decide, by decide, fun r1 H1 q1 F1 a0 a1 => ?_⟩
      have b := mul_le (a := r1 - 4) (b := r1 - 4) (A := 4) (B := 4) (by omega) (by omega) (by omega) (by omega)
      refine ⟨_, rfl, _, _, rfl, rfl, _, rfl, _, _, rfl, rfl, _, _, rfl, rfl, .inl ⟨by omega, by omega⟩, _, _, rfl, rfl, ?_⟩
      refine ⟨_, rfl, f, 2, m + 1, row, rfl, F1, by omega, by decide, by decide, fun r2 H2 q2 F2 b0 b1 => ?_⟩
      refine ⟨rfl, _, rfl, ifB (fun e => ?_) (fun e => ?_)⟩
      · exact ⟨_, rfl, _, rfl, two, _, tps2 (.int _) (.int _), fin _ _ H2 _ (q1.trans q2) F2 (by omega) (by omega) (by omega) (by omega) (by omega)⟩
      · exact ⟨_, rfl, _, rfl, _, _, rfl, rfl, two, _, tps2 (.int _) (.int _), fin _ _ H2 _ (q1.trans q2) F2 (by omega) (by omega) (by omega) (by omega) (by omega)⟩
    refine ⟨_, rfl, kk, 3, rfl, rfl, (by show (0 : Int) < 3; decide), _, rfl, kk, 3, rfl, rfl, ⟨by decide, by decide⟩, ?_⟩
    exact ⟨two, _, tps2 (.int _) (.int _), fin _ _ H _ (Keep.refl _ _) hF (by omega) (by omega) (by omega) (by omega) (by omega)⟩
end
end Tl

end
-- D8
section
set_option maxHeartbeats 200000
namespace Tl
open PySem PySem.Spec PyProof.Rows L2
instance (a b c p : Pt) : Decidable (within a b c p) := by unfold within; infer_instance
def voidB (F : List Pt) (a b c : Pt) : Bool := decide (turn a b c ≠ 0) && F.all fun p => decide (p ≠ a → p ≠ b → p ≠ c → ¬ within a b c p)
def wh2 (F : List Pt) (a : Pt) : List Pt → List T3
  | [] => []
  | b :: r => (r.filter (voidB F a b)).map (fun c => (a, b, c)) ++ wh2 F a r
def wh1 (F : List Pt) : List Pt → List T3
  | [] => []
  | a :: r => wh2 F a r ++ wh1 F r
theorem wh2_len (F : List Pt) (a : Pt) : ∀ r : List Pt, (wh2 F a r).length ≤ r.length * r.length
  | [] => Nat.le_refl _
  | b :: r => by
    have h1 := wh2_len F a r
    have h2 : (r.filter (voidB F a b)).length ≤ r.length := List.length_filter_le _ _
    have e : (b :: r).length * (b :: r).length = r.length * r.length + 2 * r.length + 1 := by rw [List.length_cons]; grind
    rw [e]
    show ((r.filter (voidB F a b)).map (fun c => (a, b, c)) ++ wh2 F a r).length ≤ _
    rw [List.length_append, List.length_map]; omega
theorem wh1_len (F : List Pt) : ∀ r : List Pt, (wh1 F r).length ≤ r.length * (r.length * r.length)
  | [] => Nat.le_refl _
  | a :: r => by
    have h1 := wh1_len F r
    have h2 := wh2_len F a r
    have e : (a :: r).length * ((a :: r).length * (a :: r).length) = r.length * (r.length * r.length) + 3 * (r.length * r.length) + 3 * r.length + 1 := by rw [List.length_cons]; grind
    rw [e]
    show (wh2 F a r ++ wh1 F r).length ≤ _
    rw [List.length_append]; omega
theorem voidB_iff {F : List Pt} {a b c : Pt} : voidB F a b c = true ↔ turn a b c ≠ 0 ∧ ∀ p ∈ F, p ≠ a → p ≠ b → p ≠ c → ¬ within a b c p := by
  unfold voidB
  rw [Bool.and_eq_true, decide_eq_true_iff, List.all_eq_true]
  simp only [decide_eq_true_iff]
theorem mem_wh2 {F : List Pt} {a : Pt} {t : T3} : ∀ {r : List Pt}, Rising r → (t ∈ wh2 F a r ↔ t.1 = a ∧ t.2.1 ∈ r ∧ t.2.2 ∈ r ∧ plt t.2.1 t.2.2 ∧ voidB F t.1 t.2.1 t.2.2 = true)
  | [], _ => by simp [wh2]
  | b :: r, h => by
    have h2 := List.pairwise_cons.mp h
    unfold wh2
    rw [List.mem_append, mem_wh2 h2.2, List.mem_map]
    constructor
    · rintro (⟨c, hc, rfl⟩ | ⟨h3, h4, h5, h6⟩)
      · rw [List.mem_filter] at hc
        exact ⟨rfl, by simp, List.mem_cons_of_mem _ hc.1, h2.1 _ hc.1, hc.2⟩
      · exact ⟨h3, List.mem_cons_of_mem _ h4, List.mem_cons_of_mem _ h5, h6⟩
    · rintro ⟨h3, h4, h5, h6, h7⟩
      rcases List.mem_cons.mp h4 with q | q
      · rcases List.mem_cons.mp h5 with z | z
        · rw [q, z] at h6; exact absurd h6 (plt_irrefl _)
        · rw [h3, q] at h7
          exact .inl ⟨t.2.2, List.mem_filter.mpr ⟨z, h7⟩, by rw [← h3, ← q]⟩
      · rcases List.mem_cons.mp h5 with z | z
        · rw [z] at h6; exact absurd (plt_trans h6 (h2.1 _ q)) (plt_irrefl _)
        · exact .inr ⟨h3, q, z, h6, h7⟩
theorem mem_wh1 {F : List Pt} {t : T3} : ∀ {r : List Pt}, Rising r → (t ∈ wh1 F r ↔ t.1 ∈ r ∧ t.2.1 ∈ r ∧ t.2.2 ∈ r ∧ plt t.1 t.2.1 ∧ plt t.2.1 t.2.2 ∧ voidB F t.1 t.2.1 t.2.2 = true)
  | [], _ => by simp [wh1]
  | a :: r, h => by
    have h2 := List.pairwise_cons.mp h
    unfold wh1
    rw [List.mem_append, mem_wh1 h2.2, mem_wh2 h2.2]
    constructor
    · rintro (⟨h3, h4, h5, h6⟩ | ⟨h3, h4, h5, h6⟩)
      · exact ⟨by rw [h3]; simp, List.mem_cons_of_mem _ h4, List.mem_cons_of_mem _ h5, by rw [h3]; exact h2.1 _ h4, h6⟩
      · exact ⟨List.mem_cons_of_mem _ h3, List.mem_cons_of_mem _ h4, List.mem_cons_of_mem _ h5, h6⟩
    · rintro ⟨h3, h4, h5, h6, h7, h8⟩
      have g4 : t.2.1 ∈ r := by
        rcases List.mem_cons.mp h4 with q | q
        · rw [q] at h6
          rcases List.mem_cons.mp h3 with z | z
          · rw [z] at h6; exact absurd h6 (plt_irrefl _)
          · exact absurd (plt_trans h6 (h2.1 _ z)) (plt_irrefl _)
        · exact q
      have g5 : t.2.2 ∈ r := by
        rcases List.mem_cons.mp h5 with q | q
        · rw [q] at h7; exact absurd (plt_trans h7 (h2.1 _ g4)) (plt_irrefl _)
        · exact q
      rcases List.mem_cons.mp h3 with q | q
      · exact .inl ⟨q, g4, g5, h7, h8⟩
      · exact .inr ⟨q, g4, g5, h6, h7, h8⟩
theorem whole_tri {F : List Pt} (hF : Rising F) {t : T3} : t ∈ wh1 F F ↔ Tri F t := by
  rw [mem_wh1 hF, voidB_iff]
  exact ⟨fun ⟨a, b, c, d, e, f, g⟩ => ⟨a, b, c, d, e, f, g⟩, fun ⟨a, b, c, d, e, f, g⟩ => ⟨a, b, c, d, e, f, g⟩⟩
section
variable {P : Program} {w : World} {K : PySem.W.Frag} {mg : Str → Option Value} {base : Heap}
def sp_l_is_void (K : PySem.W.Frag) : Sp := fun vs H Q _ => ∃ x u v z F a b c, vs = [x, u, v, z] ∧ Tp K H x (kF F) ∧ Tp K H u (kPt a) ∧ Tp K H v (kPt b) ∧ Tp K H z (kPt c) ∧ (∀ p ∈ F, Bd p) ∧ Bd a ∧ Bd b ∧ Bd c ∧ Q (.bl (voidB F a b c)) H
abbrev s_l_is_void : Stmt := top 39
theorem sc_l_is_void : FnScope ["_law_field_here", "_law_a", "_law_b", "_law_c", "_law_whole_here", "_law_one", "_law_parts"] ["_law_field_here", "_law_a", "_law_b", "_law_c"] (defScope s_l_is_void) := ⟨rfl, rfl, rfl, by decide +kernel, rfl, by decide +kernel, by decide +kernel⟩
theorem ok_l_is_void (B : Bi mg) (C_l_turn : Cal P w K mg base CX0 "_law_turn" 1 ["_law_a", "_law_b", "_law_c"] (sp_l_turn K)) (D : Df K mg "_law_is_void" s_l_is_void ["_law_field_here", "_law_a", "_law_b", "_law_c"]) : Cal P w K mg base CX0 "_law_is_void" 2 ["_law_field_here", "_law_a", "_law_b", "_law_c"] (sp_l_is_void K) := by
  refine D.ok 1 sc_l_is_void (fun vs H Q E h => ?_) (fun f cdv A outer s H vs Q E hr h => ?_)
  · obtain ⟨x, u, v, z, F, a, b, c, rfl, _⟩ := h; rfl
  · obtain ⟨x, u, v, z, F, a, b, c, rfl, hx, hu, hv, hz, bF, ba, bb, bc, k⟩ := h
    refine ⟨_, pss_cons (ps_set (i := 4) sc_l_is_void.nd rfl (Or.inl rfl) (pe_abs B (pa_cons (pe_go C_l_turn (hr.mono (by decide)) (pa_cons (pv 1) (pa_cons (pv 2) (pa_cons (pv 3) pa_nil)))) pa_nil)))
      (pss_cons (ps_if (pt_cmpR op_eq (pv 4) pe_int (nomark _))
      (pss_one (ps_ret pe_bl))
      pss_nil)
      (pss_cons (ps_for PassesOwn.never rfl (pi_tup (pv 0)) (pg_name (i := 5) sc_l_is_void.nd rfl (Or.inl rfl))
      (pss_one (ps_if (PW.pt (pw_and (pt_cmpR (op_neN (u64 hr) : OpR _ _ (rEqN K true)) (pv 5) (pv 1) (nomark _)) (pw_and (pt_cmpR (op_neN (u64 hr) : OpR _ _ (rEqN K true)) (pv 5) (pv 2) (nomark _)) (pw_and1 (pt_cmpR (op_neN (u64 hr) : OpR _ _ (rEqN K true)) (pv 5) (pv 3) (nomark _))))))
      (pss_cons (ps_set (i := 6) sc_l_is_void.nd rfl (Or.inl rfl) (pe_op op_add (pe_op op_add (pe_abs B (pa_cons (pe_go C_l_turn (hr.mono (by decide)) (pa_cons (pv 1) (pa_cons (pv 2) (pa_cons (pv 5) pa_nil)))) pa_nil)) (pe_abs B (pa_cons (pe_go C_l_turn (hr.mono (by decide)) (pa_cons (pv 2) (pa_cons (pv 3) (pa_cons (pv 5) pa_nil)))) pa_nil))) (pe_abs B (pa_cons (pe_go C_l_turn (hr.mono (by decide)) (pa_cons (pv 1) (pa_cons (pv 3) (pa_cons (pv 5) pa_nil)))) pa_nil))))
      (pss_one (ps_if (pt_cmpR op_eq (pv 6) (pv 4) (nomark _))
      (pss_one (ps_ret pe_bl))
      pss_nil)))
      pss_nil)))
      (pss_one (ps_ret pe_bl)))), ?_⟩
    refine ⟨_, rfl, _, rfl, _, rfl, u, v, z, a, b, c, rfl, hu, hv, hz, ba, bb, bc, _, rfl, ?_⟩
    refine ⟨_, rfl, rfl, _, rfl, ifB (fun e => ?_) (fun e => ?_)⟩
    · have e0 : iabs (turn a b c) = 0 := V.int.inj (of_decide_eq_true e)
      have e1 : voidB F a b c = false := by
        cases q : voidB F a b c with
        | false => rfl
        | true =>
          have := (voidB_iff.mp q).1
          unfold iabs at e0; split at e0 <;> omega
      rw [e1] at k; exact k
    have e0 : turn a b c ≠ 0 := fun q => of_decide_eq_false e (by rw [q]; rfl)
    obtain ⟨fa, fs, rfl, fp, fks⟩ := hx.invP
    refine ⟨_, rfl, fa, rfl, ⟨fs, fp.sq⟩, ?_⟩
    refine for_it (walk_tp fp fks) (fun i σ H1 => ∃ y5 y6, σ = [some (.ref fa), some u, some v, some z, some (.int (iabs (turn a b c))), y5, y6] ∧ H1 = H ∧ ∀ p ∈ F.take i, p ≠ a → p ≠ b → p ≠ c → ¬ within a b c p) ⟨none, none, rfl, rfl, fun _ h => by simp at h⟩ (fun i σ H1 _ ⟨_, _, _, e, _⟩ => by rw [e]; exact Tx.refl _) ?_ ?_
    · rintro i y σ H1 H1' hi ⟨y5, y6, rfl, rfl, old⟩ ⟨rfl, q, hq, hy⟩
      obtain ⟨p, hp, rfl⟩ := get_map hq
      have bp := bF p (mem_at hp)
      have dd : ∀ r : Pt, (kPt r).depth ≤ 8 := fun r => by have := kPt_d r; omega
      have stay : (p = a ∨ p = b ∨ p = c ∨ ¬ within a b c p) → ∀ r ∈ F.take (i + 1), r ≠ a → r ≠ b → r ≠ c → ¬ within a b c r := fun hh r hr na nb nc => by
        rw [take_next hp] at hr
        rcases List.mem_append.mp hr with h1 | h1
        · exact old r h1 na nb nc
        · rw [List.mem_singleton] at h1
          subst h1
          rcases hh with h | h | h | h
          · exact absurd h na
          · exact absurd h nb
          · exact absurd h nc
          · exact h
      have ee : ∀ r : Pt, (!decide (kPt p = kPt r)) = decide (p ≠ r) := fun r => by
        rw [Bool.eq_iff_iff]; simp
        exact ⟨fun h e => h (by rw [e]), fun h e => h (kPt_inj e)⟩
      refine ⟨_, rfl, _, rfl, _, _, hy, hu, dd _, dd _, _, rfl, ?_⟩
      show if (!decide (kPt p = kPt a)) = true then _ else _
      rw [ee]
      refine ifB (fun na => ?_) (fun na => ⟨_, _, rfl, rfl, stay (.inl (Decidable.not_not.mp (of_decide_eq_false na)))⟩)
      refine ⟨_, rfl, _, rfl, _, _, hy, hv, dd _, dd _, _, rfl, ?_⟩
      show if (!decide (kPt p = kPt b)) = true then _ else _
      rw [ee]
      refine ifB (fun nb => ?_) (fun nb => ⟨_, _, rfl, rfl, stay (.inr (.inl (Decidable.not_not.mp (of_decide_eq_false nb))))⟩)
      refine ⟨_, rfl, _, rfl, _, _, hy, hz, dd _, dd _, _, rfl, ?_⟩
      show if (!decide (kPt p = kPt c)) = true then _ else _
      rw [ee]
      refine ifB (fun nc => ?_) (fun nc => ⟨_, _, rfl, rfl, stay (.inr (.inr (.inl (Decidable.not_not.mp (of_decide_eq_false nc)))))⟩)
      refine ⟨_, rfl, _, rfl, _, rfl, u, v, y, a, b, p, rfl, hu, hv, hy, ba, bb, bp, _, rfl, ?_⟩
      refine ⟨_, rfl, _, rfl, _, rfl, v, z, y, b, c, p, rfl, hv, hz, hy, bb, bc, bp, _, rfl, _, _, rfl, rfl, ?_⟩
      refine ⟨_, rfl, _, rfl, _, rfl, u, z, y, a, c, p, rfl, hu, hz, hy, ba, bc, bp, _, rfl, _, _, rfl, rfl, ?_⟩
      refine ⟨_, rfl, _, rfl, rfl, _, rfl, ?_⟩
      have ew : decide (V.int (iabs (turn a b p) + iabs (turn b c p) + iabs (turn a c p)) = V.int (iabs (turn a b c))) = decide (within a b c p) := by
        rw [Bool.eq_iff_iff, decide_eq_true_iff, decide_eq_true_iff]; exact ⟨fun h => V.int.inj h, fun h => congrArg V.int h⟩
      show if decide (V.int (iabs (turn a b p) + iabs (turn b c p) + iabs (turn a c p)) = V.int (iabs (turn a b c))) = true then _ else _
      rw [ew]
      refine ifB (fun hw => ?_) (fun hw => ⟨_, _, rfl, rfl, stay (.inr (.inr (.inr (of_decide_eq_false hw))))⟩)
      have e1 : voidB F a b c = false := by
        cases q : voidB F a b c with
        | false => rfl
        | true => exact absurd (of_decide_eq_true hw) ((voidB_iff.mp q).2 p (mem_at hp) (of_decide_eq_true na) (of_decide_eq_true nb) (of_decide_eq_true nc))
      rw [e1] at k; exact k
    · rintro σ H1 ⟨y5, y6, rfl, rfl, old⟩
      rw [List.length_map, List.take_length] at old
      have e1 : voidB F a b c = true := voidB_iff.mpr ⟨e0, old⟩
      rw [e1] at k; exact k
end
end Tl

end
-- D9
section
set_option maxHeartbeats 200000
namespace Tl
open PySem PySem.Spec PyProof.Rows L2
section
variable {P : Program} {w : World} {K : PySem.W.Frag} {mg : Str → Option Value} {base : Heap}
/-- the lists in one place: at l a list of the data of es, nothing else is other than at H -/
structure Acc (K : PySem.W.Frag) (H H1 : Hp) (l : Addr) (ks : List NestedKey) : Prop where
  same : Same H H1
  ex : ∃ ws, H1 l = some (.lst ws) ∧ TpAll K H1 ws ks
theorem Acc.up {H H1 H2 : Hp} {l : Addr} {ks : List NestedKey} (a : Acc K H H1 l ks) (s : Same H1 H2) : Acc K H H2 l ks := by
  obtain ⟨s0, ws, h1, h2⟩ := a
  exact ⟨Same.tr s0 s, ws, s _ _ h1, h2.same s⟩
theorem Acc.snoc {H H1 : Hp} {l : Addr} {ks : List NestedKey} {ws : List V} {v : V} {k : NestedKey} (a : Acc K H H1 l ks) (h0 : H l = none) (h1 : H1 l = some (.lst ws)) (hv : Tp K H1 v k) : Acc K H (upd H1 l (.lst (ws ++ [v]))) l (ks ++ [k]) := by
  obtain ⟨s0, ws', h1', h2⟩ := a
  rw [h1] at h1'
  injection h1' with e; injection e with e; subst e
  exact ⟨Same.own s0 h0, _, upd_same, (h2.snoc hv).up (Tx.lst h1)⟩
theorem Acc.start {H : Hp} {l : Addr} (h : H l = none) : Acc K H (upd H l (.lst [])) l [] := ⟨Same.upd h, [], upd_same, .nil⟩
def sp_l_whole (K : PySem.W.Frag) : Sp := fun vs H Q _ => ∃ x F, vs = [x] ∧ Tp K H x (kF F) ∧ (∀ p ∈ F, Bd p) ∧ F.length ≤ 9 ∧ Nw K H Q (kM (wh1 F F))
abbrev s_l_whole : Stmt := top 40
theorem sc_l_whole : FnScope ["_law_field_here", "_law_found", "_law_i", "_law_j", "_law_k"] ["_law_field_here"] (defScope s_l_whole) := ⟨rfl, rfl, rfl, by decide +kernel, rfl, by decide +kernel, by decide +kernel⟩
theorem ok_l_whole (B : Bi mg) (C_l_is_void : Cal P w K mg base CX0 "_law_is_void" 2 ["_law_field_here", "_law_a", "_law_b", "_law_c"] (sp_l_is_void K)) (D : Df K mg "_law_whole" s_l_whole ["_law_field_here"]) : Cal P w K mg base CX0 "_law_whole" 3 ["_law_field_here"] (sp_l_whole K) := by
  refine D.ok 2 sc_l_whole (fun vs H Q E h => ?_) (fun f cdv A outer s H vs Q E hr h => ?_)
  · obtain ⟨x, F, rfl, _⟩ := h; rfl
  · obtain ⟨x, F, rfl, hx, bF, h9, k⟩ := h
    refine ⟨_, pss_cons (ps_set (i := 1) sc_l_whole.nd rfl (Or.inl rfl) (pe_lst pa_nil))
      (pss_cons (ps_for PassesOwn.never rfl (pi_range1 (by rfl) B.range (pa_cons (pe_lenT B (pa_cons (pv 0) pa_nil) : PE _ _ (tCB (rLenT K) _)) pa_nil)) (pg_name (i := 2) sc_l_whole.nd rfl (Or.inl rfl))
      (pss_one (ps_for PassesOwn.never rfl (pi_range2 (by rfl) B.range (pa_cons (pe_op op_add (pv 2) pe_int) (pa_cons (pe_lenT B (pa_cons (pv 0) pa_nil) : PE _ _ (tCB (rLenT K) _)) pa_nil))) (pg_name (i := 3) sc_l_whole.nd rfl (Or.inl rfl))
      (pss_one (ps_for PassesOwn.never rfl (pi_range2 (by rfl) B.range (pa_cons (pe_op op_add (pv 3) pe_int) (pa_cons (pe_lenT B (pa_cons (pv 0) pa_nil) : PE _ _ (tCB (rLenT K) _)) pa_nil))) (pg_name (i := 4) sc_l_whole.nd rfl (Or.inl rfl))
      (pss_one (ps_if (pt_val (pe_go C_l_is_void (hr.mono (by decide)) (pa_cons (pv 0) (pa_cons (pe_ix (ix_tupN : IxR _ (rIxN K)) (pv 0) (pv 2) (fun _ _ => rfl)) (pa_cons (pe_ix (ix_tupN : IxR _ (rIxN K)) (pv 0) (pv 3) (fun _ _ => rfl)) (pa_cons (pe_ix (ix_tupN : IxR _ (rIxN K)) (pv 0) (pv 4) (fun _ _ => rfl)) pa_nil))))))
      (pss_one (ps_expr (pe_bm PySem.F.plainAttrs_list PySem.F.slot_list_append PySem.F.type_list_append mt_append (pv 1) (pa_cons (pe_tupN (pa_cons (pe_ix (ix_tupN : IxR _ (rIxN K)) (pv 0) (pv 2) (fun _ _ => rfl)) (pa_cons (pe_ix (ix_tupN : IxR _ (rIxN K)) (pv 0) (pv 3) (fun _ _ => rfl)) (pa_cons (pe_ix (ix_tupN : IxR _ (rIxN K)) (pv 0) (pv 4) (fun _ _ => rfl)) pa_nil))) : PE _ _ (tTupN K _)) pa_nil))))
      pss_nil)))))))
      (pss_one (ps_ret (pe_tupleC B (pa_cons (pv 1) pa_nil) : PE _ _ (tCB (rTupN K) _))))), ?_⟩
    have wl := wh1_len F F
    have wl2 : F.length * (F.length * F.length) ≤ 9 * (9 * 9) := Nat.mul_le_mul h9 (Nat.mul_le_mul h9 h9)
    refine ⟨Nat.zero_le _, fun l hl => ?_⟩
    have a0 := Acc.start (K := K) hl
    refine ⟨_, rfl, _, _, rfl, hx.same a0.same, _, rfl, ?_⟩
    rw [List.length_map]
    refine ⟨by omega, by omega, ?_⟩
    have hn : (((F.length : Nat) : Int)).toNat = F.length := by omega
    rw [hn]
    refine for_it walk_range (fun i σ H1 => ∃ y2 y3 y4 es, σ = [some x, some (.ref l), y2, y3, y4] ∧ Acc K H H1 l (es.map kT) ∧ es ++ wh1 F (F.drop i) = wh1 F F) ⟨none, none, none, [], rfl, a0, rfl⟩ (fun _ _ _ _ _ => trivial) ?_ ?_
    · rintro i y σ H1 H1' hi ⟨y2, y3, y4, es, rfl, a1, eq⟩ ⟨rfl, rfl⟩
      obtain ⟨a, ha⟩ := at_lt hi
      rw [drop_at ha] at eq
      refine ⟨_, rfl, _, _, rfl, rfl, _, rfl, _, _, rfl, hx.same a1.same, _, _, rfl, ?_⟩
      rw [List.length_map]
      refine ⟨by omega, ?_⟩
      have hn2 : (((F.length : Nat) : Int) - (0 + (i : Int) + 1)).toNat = F.length - (i + 1) := by omega
      rw [hn2]
      refine for_it walk_range (fun j σ H2 => ∃ y3 y4 es, σ = [some x, some (.ref l), some (.int (0 + (i : Int))), y3, y4] ∧ Acc K H H2 l (es.map kT) ∧ es ++ (wh2 F a (F.drop (i + 1 + j)) ++ wh1 F (F.drop (i + 1))) = wh1 F F) ⟨y3, y4, es, rfl, a1, eq⟩ (fun _ _ _ _ _ => trivial) ?_ ?_
      · rintro j y σ H2 H2' hj ⟨y3, y4, es2, rfl, a2, eq2⟩ ⟨rfl, rfl⟩
        obtain ⟨b, hb⟩ := at_lt (l := F) (i := i + 1 + j) (by omega)
        rw [drop_at hb] at eq2
        refine ⟨_, rfl, _, _, rfl, rfl, _, rfl, _, _, rfl, hx.same a2.same, _, _, rfl, ?_⟩
        rw [List.length_map]
        refine ⟨by omega, ?_⟩
        have hn3 : (((F.length : Nat) : Int) - (0 + (i : Int) + 1 + (j : Int) + 1)).toNat = F.length - (i + 1 + j + 1) := by omega
        rw [hn3]
        refine for_it walk_range (fun kk σ H3 => ∃ y4 es, σ = [some x, some (.ref l), some (.int (0 + (i : Int))), some (.int (0 + (i : Int) + 1 + (j : Int))), y4] ∧ Acc K H H3 l (es.map kT) ∧ es ++ (((F.drop (i + 1 + j + 1 + kk)).filter (voidB F a b)).map (fun c => (a, b, c)) ++ (wh2 F a (F.drop (i + 1 + j + 1)) ++ wh1 F (F.drop (i + 1)))) = wh1 F F) ⟨y4, es2, rfl, a2, by rw [← eq2]; show _ = es2 ++ ((_ ++ _) ++ _); rw [List.append_assoc]⟩ (fun _ _ _ _ _ => trivial) ?_ ?_
        · rintro kk y σ H3 H3' hkk ⟨y4, es3, rfl, a3, eq3⟩ ⟨rfl, rfl⟩
          obtain ⟨c, hc⟩ := at_lt (l := F) (i := i + 1 + j + 1 + kk) (by omega)
          have hx3 := hx.same a3.same
          rw [drop_at hc] at eq3
          refine ⟨_, rfl, _, rfl, _, rfl, _, _, _, hx3, rfl, atI_of (j := i) (by omega) (map_at ha), fun va hva => ?_⟩
          refine ⟨_, rfl, _, rfl, _, _, _, hx3, rfl, atI_of (j := i + 1 + j) (by omega) (map_at hb), fun vb hvb => ?_⟩
          refine ⟨_, rfl, _, rfl, _, _, _, hx3, rfl, atI_of (j := i + 1 + j + 1 + kk) (by omega) (map_at hc), fun vc hvc => ?_⟩
          refine ⟨x, va, vb, vc, F, a, b, c, rfl, hx3, hva, hvb, hvc, bF, bF a (mem_at ha), bF b (mem_at hb), bF c (mem_at hc), _, rfl, ?_⟩
          refine ifB (fun e => ?_) (fun e => ?_)
          · obtain ⟨ws, hws, hk⟩ := a3.ex
            refine ⟨_, rfl, .inl ⟨rfl, _, ofL hws⟩, ?_⟩
            refine ⟨_, rfl, _, rfl, _, _, _, hx3, rfl, atI_of (j := i) (by omega) (map_at ha), fun va hva => ?_⟩
            refine ⟨_, rfl, _, rfl, _, _, _, hx3, rfl, atI_of (j := i + 1 + j) (by omega) (map_at hb), fun vb hvb => ?_⟩
            refine ⟨_, rfl, _, rfl, _, _, _, hx3, rfl, atI_of (j := i + 1 + j + 1 + kk) (by omega) (map_at hc), fun vc hvc => ?_⟩
            refine ⟨by show 3 ≤ 1000; decide, _, tps3 hva hvb hvc, fun vt H4 s4 hvt => ?_⟩
            have e1 := congrArg List.length eq3
            rw [List.length_append] at e1
            have e2 := hk.length
            rw [List.length_map] at e2
            refine ⟨l, ws, vt, rfl, rfl, s4 _ _ hws, small (by omega), ?_⟩
            refine ⟨_, es3 ++ [(a, b, c)], rfl, ?_, ?_⟩
            · rw [List.map_append]
              exact (a3.up s4).snoc hl (s4 _ _ hws) hvt
            · rw [← eq3, List.filter_cons, if_pos e, List.append_assoc]; rfl
          · refine ⟨_, es3, rfl, a3, ?_⟩
            rw [← eq3, List.filter_cons, if_neg (by rw [e]; decide)]; rfl
        · rintro σ H3 ⟨y4, es3, rfl, a3, eq3⟩
          refine ⟨_, _, es3, rfl, a3, ?_⟩
          rw [List.drop_of_length_le (by omega)] at eq3
          exact eq3
      · rintro σ H2 ⟨y3, y4, es2, rfl, a2, eq2⟩
        refine ⟨_, _, _, es2, rfl, a2, ?_⟩
        rw [List.drop_of_length_le (by omega)] at eq2
        exact eq2
    · rintro σ H1 ⟨y2, y3, y4, es, rfl, a1, eq⟩
      rw [List.drop_length] at eq
      have e0 : es = wh1 F F := by rw [← eq]; exact (List.append_nil es).symm
      subst e0
      obtain ⟨ws, hws, hk⟩ := a1.ex
      exact ⟨_, rfl, l, ws, _, rfl, ofL hws, hk, fun v H2 s2 hv => k v H2 (Same.tr a1.same s2) hv⟩
def sp_l_ties (K : PySem.W.Frag) : Sp := fun vs H Q _ => ∃ x F, vs = [x] ∧ Tp K H x (kF F) ∧ (∀ p ∈ F, Bd p) ∧ F.length ≤ 9 ∧ Nl K H Q ((tiesOf F F).map kE)
abbrev s_l_ties : Stmt := top 49
theorem sc_l_ties : FnScope ["_law_field_here", "_law_found", "_law_i", "_law_j", "_law_a", "_law_b", "_law_one"] ["_law_field_here"] (defScope s_l_ties) := ⟨rfl, rfl, rfl, by decide +kernel, rfl, by decide +kernel, by decide +kernel⟩
theorem ok_l_ties (B : Bi mg) (C_l_turn : Cal P w K mg base CX0 "_law_turn" 1 ["_law_a", "_law_b", "_law_c"] (sp_l_turn K)) (D : Df K mg "_law_ties" s_l_ties ["_law_field_here"]) : Cal P w K mg base CX0 "_law_ties" 2 ["_law_field_here"] (sp_l_ties K) := by
  refine D.ok 1 sc_l_ties (fun vs H Q E h => ?_) (fun f cdv A outer s H vs Q E hr h => ?_)
  · obtain ⟨x, F, rfl, _⟩ := h; rfl
  · obtain ⟨x, F, rfl, hx, bF, h9, k⟩ := h
    refine ⟨_, pss_cons (ps_set (i := 1) sc_l_ties.nd rfl (Or.inl rfl) (pe_lst pa_nil))
      (pss_cons (ps_for PassesOwn.never rfl (pi_range1 (by rfl) B.range (pa_cons (pe_lenT B (pa_cons (pv 0) pa_nil) : PE _ _ (tCB (rLenT K) _)) pa_nil)) (pg_name (i := 2) sc_l_ties.nd rfl (Or.inl rfl))
      (pss_one (ps_for PassesOwn.never rfl (pi_range2 (by rfl) B.range (pa_cons (pe_op op_add (pv 2) pe_int) (pa_cons (pe_lenT B (pa_cons (pv 0) pa_nil) : PE _ _ (tCB (rLenT K) _)) pa_nil))) (pg_name (i := 3) sc_l_ties.nd rfl (Or.inl rfl))
      (pss_cons (ps_asg (pe_tupN (pa_cons (pe_ix (ix_tupN : IxR _ (rIxN K)) (pv 0) (pv 2) (fun _ _ => rfl)) (pa_cons (pe_ix (ix_tupN : IxR _ (rIxN K)) (pv 0) (pv 3) (fun _ _ => rfl)) pa_nil)) : PE _ _ (tTupN K _)) (pg_tup rfl (pgs_cons (pg_name (i := 4) sc_l_ties.nd rfl (Or.inr rfl)) (pgs_cons (pg_name (i := 5) sc_l_ties.nd rfl (Or.inr rfl)) pgs_nil))))
      (pss_one (ps_if (pt_cmpR (op_eqL (u64 hr) : OpR _ _ (rEqL K false)) (pe_lc (own := [("_law_one", 6)]) (g := gName 6) rfl sc_l_ties.nd (pi_tup (pv 0)) (blkOk_by (N := ["_law_field_here", "_law_found", "_law_i", "_law_j", "_law_a", "_law_b", "_law_one"]) (sc := defScope s_l_ties) (by decide +kernel)) (fun _ _ _ _ _ => pg_name (i := 6) sc_l_ties.nd rfl (Or.inl rfl)) (fun _ _ _ _ _ => pts_one (PW.pt (pw_and (pt_chain (op_ltP (u0 hr) : OpR _ _ (rLtP K)) (op_ltP (u0 hr) : OpR _ _ (rLtP K)) (pv 4) (pv 6) (pv 5)) (pw_and1 (pt_cmpR op_eq (pe_go C_l_turn (hr.mono (by decide)) (pa_cons (pv 4) (pa_cons (pv 5) (pa_cons (pv 6) pa_nil)))) pe_int (nomark _)))))) (fun _ _ _ _ _ => pv 6)) (pe_lst pa_nil) (nomark _))
      (pss_one (ps_expr (pe_bm PySem.F.plainAttrs_list PySem.F.slot_list_append PySem.F.type_list_append mt_append (pv 1) (pa_cons (pe_tupN (pa_cons (pv 4) (pa_cons (pv 5) pa_nil)) : PE _ _ (tTupN K _)) pa_nil))))
      pss_nil))))))
      (pss_one (ps_ret (pv 1)))), ?_⟩
    have tl := tiesOf_len F F
    have tl2 : F.length * F.length ≤ 9 * 9 := Nat.mul_le_mul h9 h9
    refine ⟨Nat.zero_le _, fun l hl => ?_⟩
    have a0 := Acc.start (K := K) hl
    refine ⟨_, rfl, _, _, rfl, hx.same a0.same, _, rfl, ?_⟩
    rw [List.length_map]
    refine ⟨by omega, by omega, ?_⟩
    have hn : (((F.length : Nat) : Int)).toNat = F.length := by omega
    rw [hn]
    refine for_it walk_range (fun i σ H1 => ∃ y2 y3 y4 y5 y6 es, σ = [some x, some (.ref l), y2, y3, y4, y5, y6] ∧ Acc K H H1 l (es.map kE) ∧ es ++ tiesOf F (F.drop i) = tiesOf F F) ⟨none, none, none, none, none, [], rfl, a0, rfl⟩ (fun _ _ _ _ _ => trivial) ?_ ?_
    · rintro i y σ H1 H1' hi ⟨y2, y3, y4, y5, y6, es, rfl, a1, eq⟩ ⟨rfl, rfl⟩
      obtain ⟨a, ha⟩ := at_lt hi
      rw [drop_at ha] at eq
      refine ⟨_, rfl, _, _, rfl, rfl, _, rfl, _, _, rfl, hx.same a1.same, _, _, rfl, ?_⟩
      rw [List.length_map]
      refine ⟨by omega, ?_⟩
      have hn2 : (((F.length : Nat) : Int) - (0 + (i : Int) + 1)).toNat = F.length - (i + 1) := by omega
      rw [hn2]
      refine for_it walk_range (fun j σ H2 => ∃ y3 y4 y5 y6 es, σ = [some x, some (.ref l), some (.int (0 + (i : Int))), y3, y4, y5, y6] ∧ Acc K H H2 l (es.map kE) ∧ es ++ (((F.drop (i + 1 + j)).filter (clearB F a)).map (fun o => (a, o)) ++ tiesOf F (F.drop (i + 1))) = tiesOf F F) ⟨y3, y4, y5, y6, es, rfl, a1, eq⟩ (fun _ _ _ _ _ => trivial) ?_ ?_
      · rintro j y σ H2 H2' hj ⟨y3, y4, y5, y6, es2, rfl, a2, eq2⟩ ⟨rfl, rfl⟩
        obtain ⟨b, hb⟩ := at_lt (l := F) (i := i + 1 + j) (by omega)
        rw [drop_at hb] at eq2
        have hx2 := hx.same a2.same
        refine ⟨_, rfl, _, rfl, _, _, _, hx2, rfl, atI_of (j := i) (by omega) (map_at ha), fun va hva => ?_⟩
        refine ⟨_, rfl, _, rfl, _, _, _, hx2, rfl, atI_of (j := i + 1 + j) (by omega) (map_at hb), fun vb hvb => ?_⟩
        refine ⟨by show 2 ≤ 1000; decide, _, tps2 hva hvb, fun vt H3 s3 hvt => ?_⟩
        obtain ⟨ta, u1, u2, rfl, ts, h1, h2⟩ := inv2 hvt
        refine ⟨_, _, rfl, ts, rfl, _, _, rfl, _, _, rfl, rfl, ?_⟩
        obtain ⟨fa, fs, rfl, fp, fks⟩ := (hx2.same s3).invP
        refine ⟨_, rfl, fa, rfl, ⟨fs, fp.sq⟩, fun D hD => ?_⟩
        refine lc_pure (K := K) (walk_tp fp fks) hD (fun m => ((F.take m).filter (btw a b)).map kPt) rfl (fun m hm => ?_) (fun H' s => Tx.same s) YTp.same ?_ ?_
        · have h3 := List.length_filter_le (btw a b) (F.take m)
          rw [List.length_take] at h3
          show (((F.take m).filter (btw a b)).map kPt).length ≤ 100000
          rw [List.length_map]; omega
        · rintro m y H4 H4' hm s4 ⟨rfl, q, hq, hy⟩ T F' hT hF
          obtain ⟨p, hp, rfl⟩ := get_map hq
          have g1 := h1.same s4
          have g2 := h2.same s4
          have yes : btw a b p = true → T y H4' := fun e => by
            refine hT _ _ (kPt p) Same.rfl' hy ?_
            show ((F.take (m + 1)).filter (btw a b)).map kPt = _
            rw [take_next hp, List.filter_append, List.map_append, List.filter_cons, if_pos e]; rfl
          have no : btw a b p = false → F' H4' := fun e => by
            refine hF _ Same.rfl' ?_
            show ((F.take (m + 1)).filter (btw a b)).map kPt = _
            rw [take_next hp, List.filter_append, List.map_append, List.filter_cons, if_neg (by rw [e]; decide)]
            exact List.append_nil _
          refine ⟨rfl, ?_⟩
          refine ⟨_, rfl, _, rfl, a, p, g1, hy, _, rfl, ?_⟩
          refine ifB (fun e1 => ?_) (fun e1 => ⟨_, rfl, no (by unfold btw; rw [e1]; rfl)⟩)
          refine ⟨_, rfl, p, b, hy, g2, _, rfl, ?_⟩
          refine ifB (fun e2 => ?_) (fun e2 => no (by unfold btw; rw [e1, e2]; rfl))
          refine ⟨_, rfl, _, rfl, _, rfl, _, _, y, a, b, p, rfl, g1, g2, hy, bF a (mem_at ha), bF b (mem_at hb), bF p (mem_at hp), rfl, _, rfl, ?_⟩
          have e3 : decide (V.int (turn a b p) = V.int 0) = btw a b p := by
            unfold btw; rw [e1, e2, Bool.eq_iff_iff]; simp
          rw [e3]
          exact ifB (fun e => ⟨_, rfl, yes e⟩) no
        · intro H4 zs s4 hz hzs
          rw [List.length_map, List.take_length] at hzs
          refine ⟨Nat.zero_le _, fun n hn4 => ?_⟩
          have s5 := Same.upd (o := .lst []) hn4
          have sA := Same.tr s3 (Same.tr s4 s5)
          refine ⟨D, n, zs, [], _, [], rfl, rfl, ofL (s5 _ _ hz), ofL upd_same, hzs.same s5, .nil, pt_dep, by simp, _, rfl, ?_⟩
          have en : decide (((F.filter (btw a b)).map kPt) = []) = clearB F a b := by
            unfold clearB
            rw [Bool.eq_iff_iff, decide_eq_true_iff, Bool.not_eq_true', List.map_eq_nil_iff, List.filter_eq_nil_iff, List.any_eq_false]
          show if decide (((F.filter (btw a b)).map kPt) = []) = true then _ else _
          rw [en]
          refine ifB (fun e => ?_) (fun e => ?_)
          · have a5 := a2.up sA
            obtain ⟨ws, hws, hk⟩ := a5.ex
            refine ⟨_, rfl, .inl ⟨rfl, _, ofL hws⟩, ?_⟩
            refine ⟨_, rfl, _, rfl, by show 2 ≤ 1000; decide, _, tps2 ((h1.same s4).same s5) ((h2.same s4).same s5), fun v6 H6 s6 hv6 => ?_⟩
            have e1 := congrArg List.length eq2
            rw [List.length_append] at e1
            have e2 := hk.length
            rw [List.length_map] at e2
            refine ⟨l, ws, v6, rfl, rfl, s6 _ _ hws, small (by omega), ?_⟩
            refine ⟨_, _, _, _, es2 ++ [(a, b)], rfl, ?_, ?_⟩
            · rw [List.map_append]
              exact (a5.up s6).snoc hl (s6 _ _ hws) hv6
            · rw [← eq2, List.filter_cons, if_pos e, List.append_assoc]; rfl
          · refine ⟨_, _, _, _, es2, rfl, a2.up sA, ?_⟩
            rw [← eq2, List.filter_cons, if_neg (by rw [e]; decide)]; rfl
      · rintro σ H2 ⟨y3, y4, y5, y6, es2, rfl, a2, eq2⟩
        refine ⟨_, _, _, _, _, es2, rfl, a2, ?_⟩
        rw [List.drop_of_length_le (by omega)] at eq2
        exact eq2
    · rintro σ H1 ⟨y2, y3, y4, y5, y6, es, rfl, a1, eq⟩
      rw [List.drop_length] at eq
      have e0 : es = tiesOf F F := by rw [← eq]; exact (List.append_nil es).symm
      subst e0
      obtain ⟨ws, hws, hk⟩ := a1.ex
      exact ⟨_, rfl, k H1 l ws a1.same hl hws hk⟩
end
end Tl

end
-- D10
section
set_option maxHeartbeats 200000
namespace Tl
open PySem PySem.Spec PyProof.Rows L2
structure EdgeI (F : List Pt) (hand : Int) (i J : Nat) (kvs : List (NestedKey × V)) : Prop where
  sound : ∀ p, (valV kvs (kPt p)).isSome = true → inEnds hand F p
  comp : ∀ i' j' a b, i' < j' → (i' < i ∨ (i' = i ∧ j' < J)) → F[i']? = some a → F[j']? = some b → (∀ r ∈ F, ¬ hand * turn a b r < 0) → (valV kvs (kPt a)).isSome = true ∧ (valV kvs (kPt b)).isSome = true
theorem EdgeI.skip {F : List Pt} {hand : Int} {i J : Nat} {kvs : List (NestedKey × V)} {a b : Pt} (E : EdgeI F hand i J kvs) (ha : F[i]? = some a) (hb : F[J]? = some b) (hn : ¬ ∀ r ∈ F, ¬ hand * turn a b r < 0) : EdgeI F hand i (J + 1) kvs :=
  ⟨E.sound, fun i' j' a' b' hlt hc h1 h2 hall => by
    rcases hc with hc | ⟨rfl, hc⟩
    · exact E.comp i' j' a' b' hlt (.inl hc) h1 h2 hall
    · by_cases q : j' = J
      · subst q
        rw [ha] at h1; rw [hb] at h2
        cases h1; cases h2
        exact absurd hall hn
      · exact E.comp i' j' a' b' hlt (.inr ⟨rfl, by omega⟩) h1 h2 hall⟩
theorem put_len (c : List (NestedKey × V)) (k : NestedKey) (v : V) : (putK c k v).length ≤ c.length + 1 := by
  unfold putK; split <;> simp
theorem some_put {kvs : List (NestedKey × V)} {k j : NestedKey} {v : V} (h : (valV kvs j).isSome = true) : (valV (putK kvs k v) j).isSome = true := by
  rw [valV_put]; split
  · rfl
  · exact h
theorem EdgeI.put {F : List Pt} {hand : Int} {i J : Nat} {kvs : List (NestedKey × V)} {a b : Pt} {v v' : V} (E : EdgeI F hand i J kvs) (hlt : i < J) (hr : Rising F) (ha : F[i]? = some a) (hb : F[J]? = some b) (hy : ∀ r ∈ F, ¬ hand * turn a b r < 0) : EdgeI F hand i (J + 1) (putK (putK kvs (kPt a) v) (kPt b) v') := by
  have hab : plt a b := by
    have h1 := lt_at ha
    have h2 := lt_at hb
    rw [List.getElem?_eq_getElem h1] at ha
    rw [List.getElem?_eq_getElem h2] at hb
    cases ha; cases hb
    exact List.pairwise_iff_getElem.mp hr i J h1 h2 hlt
  refine ⟨fun p hp => ?_, fun i' j' a' b' hl hc h1 h2 hall => ?_⟩
  · rw [valV_put] at hp
    split at hp
    · rename_i e
      exact ⟨a, b, mem_at ha, mem_at hb, hab, hy, .inr (kPt_inj e)⟩
    · rw [valV_put] at hp
      split at hp
      · rename_i e
        exact ⟨a, b, mem_at ha, mem_at hb, hab, hy, .inl (kPt_inj e)⟩
      · exact E.sound p hp
  · have old : ∀ {i' j' a' b'}, i' < j' → (i' < i ∨ (i' = i ∧ j' < J)) → F[i']? = some a' → F[j']? = some b' → (∀ r ∈ F, ¬ hand * turn a' b' r < 0) → _ := fun {i' j' a' b'} g1 g2 g3 g4 g5 => (E.comp i' j' a' b' g1 g2 g3 g4 g5)
    rcases hc with hc | ⟨rfl, hc⟩
    · have := old hl (.inl hc) h1 h2 hall
      exact ⟨some_put (some_put this.1), some_put (some_put this.2)⟩
    · by_cases q : j' = J
      · subst q
        rw [ha] at h1; rw [hb] at h2
        cases h1; cases h2
        refine ⟨some_put ?_, ?_⟩
        · rw [valV_put, if_pos rfl]; rfl
        · rw [valV_put, if_pos rfl]; rfl
      · have := old hl (.inr ⟨rfl, by omega⟩) h1 h2 hall
        exact ⟨some_put (some_put this.1), some_put (some_put this.2)⟩
theorem EdgeI.next {F : List Pt} {hand : Int} {i J : Nat} {kvs : List (NestedKey × V)} (E : EdgeI F hand i J kvs) (h : F.length ≤ J) : EdgeI F hand (i + 1) (i + 2) kvs :=
  ⟨E.sound, fun i' j' a' b' hl hc h1 h2 hall => E.comp i' j' a' b' hl (by have := lt_at h2; omega) h1 h2 hall⟩
theorem EdgeI.all {F : List Pt} {hand : Int} {i J : Nat} {kvs : List (NestedKey × V)} (E : EdgeI F hand i J kvs) (hr : Rising F) (h : F.length ≤ i) {p : Pt} : (valV kvs (kPt p)).isSome = true ↔ inEnds hand F p := by
  refine ⟨E.sound p, fun ⟨a, b, ha, hb, hab, hy, hp⟩ => ?_⟩
  obtain ⟨i', hi', e1⟩ := List.getElem_of_mem ha
  obtain ⟨j', hj', e2⟩ := List.getElem_of_mem hb
  have hlt : i' < j' := by
    rcases Nat.lt_trichotomy i' j' with q | q | q
    · exact q
    · subst q; rw [e1] at e2; rw [e2] at hab; exact absurd hab (plt_irrefl _)
    · have := List.pairwise_iff_getElem.mp hr j' i' hj' hi' q
      rw [e1, e2] at this
      exact absurd this (plt_asymm hab)
  have := E.comp i' j' a b hlt (.inl (by omega)) (by rw [List.getElem?_eq_getElem hi', e1]) (by rw [List.getElem?_eq_getElem hj', e2]) hy
  rcases hp with rfl | rfl
  · exact this.1
  · exact this.2
section
variable {P : Program} {w : World} {K : PySem.W.Frag} {mg : Str → Option Value} {base : Heap}
def sp_l_edge (K : PySem.W.Frag) : Sp := fun vs H Q _ => ∃ (x : V) (hand : Int) (F c : List Pt), vs = [x, .int hand] ∧ Tp K H x (kF F) ∧ (∀ p ∈ F, Bd p) ∧ F.length ≤ 9 ∧ 2 ≤ F.length ∧ Rising F ∧ (hand = 1 ∨ hand = -1) ∧ Hullish hand F c ∧ Nw K H Q (kF c)
abbrev s_l_edge : Stmt := top 41
theorem sc_l_edge : FnScope ["_law_field_here", "_law_hand", "_law_ends", "_law_i", "_law_j", "_law_a", "_law_b", "_law_one"] ["_law_field_here", "_law_hand"] (defScope s_l_edge) := ⟨rfl, rfl, rfl, by decide +kernel, rfl, by decide +kernel, by decide +kernel⟩
theorem ok_l_edge (B : Bi mg) (C_l_turn : Cal P w K mg base CX0 "_law_turn" 1 ["_law_a", "_law_b", "_law_c"] (sp_l_turn K)) (D : Df K mg "_law_edge" s_l_edge ["_law_field_here", "_law_hand"]) : Cal P w K mg base CX0 "_law_edge" 2 ["_law_field_here", "_law_hand"] (sp_l_edge K) := by
  refine D.ok 1 sc_l_edge (fun vs H Q E h => ?_) (fun f cdv A outer s H vs Q E hr h => ?_)
  · obtain ⟨x, hand, F, c, rfl, _⟩ := h; rfl
  · obtain ⟨x, hand, F, c, rfl, hx, bF, h9, h2, hri, hh, Hu, k⟩ := h
    refine ⟨_, pss_cons (ps_set (i := 2) sc_l_edge.nd rfl (Or.inr rfl) pe_nnew)
      (pss_cons (ps_for PassesOwn.never rfl (pi_range1 (by rfl) B.range (pa_cons (pe_lenT B (pa_cons (pv 0) pa_nil) : PE _ _ (tCB (rLenT K) _)) pa_nil)) (pg_name (i := 3) sc_l_edge.nd rfl (Or.inl rfl))
      (pss_one (ps_for PassesOwn.never rfl (pi_range2 (by rfl) B.range (pa_cons (pe_op op_add (pv 3) pe_int) (pa_cons (pe_lenT B (pa_cons (pv 0) pa_nil) : PE _ _ (tCB (rLenT K) _)) pa_nil))) (pg_name (i := 4) sc_l_edge.nd rfl (Or.inl rfl))
      (pss_cons (ps_asg (pe_tupN (pa_cons (pe_ix (ix_tupN : IxR _ (rIxN K)) (pv 0) (pv 3) (fun _ _ => rfl)) (pa_cons (pe_ix (ix_tupN : IxR _ (rIxN K)) (pv 0) (pv 4) (fun _ _ => rfl)) pa_nil)) : PE _ _ (tTupN K _)) (pg_tup rfl (pgs_cons (pg_name (i := 5) sc_l_edge.nd rfl (Or.inr rfl)) (pgs_cons (pg_name (i := 6) sc_l_edge.nd rfl (Or.inr rfl)) pgs_nil))))
      (pss_one (ps_if (pt_cmpR (op_eqL (u64 hr) : OpR _ _ (rEqL K false)) (pe_lc (own := [("_law_one", 7)]) (g := gName 7) rfl sc_l_edge.nd (pi_tup (pv 0)) (blkOk_by (N := ["_law_field_here", "_law_hand", "_law_ends", "_law_i", "_law_j", "_law_a", "_law_b", "_law_one"]) (sc := defScope s_l_edge) (by decide +kernel)) (fun _ _ _ _ _ => pg_name (i := 7) sc_l_edge.nd rfl (Or.inl rfl)) (fun _ _ _ _ _ => pts_one (pt_cmpR op_lt (pe_op op_mul (pv 1) (pe_go C_l_turn (hr.mono (by decide)) (pa_cons (pv 5) (pa_cons (pv 6) (pa_cons (pv 7) pa_nil))))) pe_int (nomark _))) (fun _ _ _ _ _ => pv 7)) (pe_lst pa_nil) (nomark _))
      (pss_cons (ps_nput (u65 hr) (pv 2) (pv 5) pe_bl rfl)
      (pss_one (ps_nput (u65 hr) (pv 2) (pv 6) pe_bl rfl)))
      pss_nil))))))
      (pss_one (ps_ret (pe_tupleC B (pa_cons (pe_lc (own := [("_law_one", 7)]) (g := gName 7) rfl sc_l_edge.nd (pi_tup (pv 0)) (blkOk_by (N := ["_law_field_here", "_law_hand", "_law_ends", "_law_i", "_law_j", "_law_a", "_law_b", "_law_one"]) (sc := defScope s_l_edge) (by decide +kernel)) (fun _ _ _ _ _ => pg_name (i := 7) sc_l_edge.nd rfl (Or.inl rfl)) (fun _ _ _ _ _ => pts_one (pt_cmpR (op_nin (u65 hr) : OpR _ _ (rNIn P w K false)) (pv 7) (pv 2) rfl)) (fun _ _ _ _ _ => pv 7)) pa_nil) : PE _ _ (tCB (rTupN K) _))))), ?_⟩
    intro d hd hs
    have nd0 : ND P w K (upd H d (EK P w d [])) d [] := ND.new hs
    have s0 : Same H (upd H d (EK P w d [])) := Same.upd hd
    refine ⟨_, rfl, _, _, rfl, hx.same s0, _, rfl, ?_⟩
    rw [List.length_map]
    refine ⟨by omega, by omega, ?_⟩
    have hn : (((F.length : Nat) : Int)).toNat = F.length := by omega
    rw [hn]
    refine for_it walk_range (fun i σ H1 => ∃ y3 y4 y5 y6 y7 kvs, σ = [some x, some (.int hand), some (.ref d), y3, y4, y5, y6, y7] ∧ Same H H1 ∧ ND P w K H1 d kvs ∧ kvs.length ≤ 18 * i ∧ EdgeI F hand i (i + 1) kvs) ⟨none, none, none, none, none, [], rfl, s0, nd0, Nat.zero_le _, ⟨fun p hp => (by cases hp), fun i' j' _ _ h1 h2 => by omega⟩⟩ (fun _ _ _ _ _ => trivial) ?_ ?_
    · rintro i y σ H1 H1' hi ⟨y3, y4, y5, y6, y7, kvs, rfl, s1, nd1, kl, Ei⟩ ⟨rfl, rfl⟩
      obtain ⟨a, ha⟩ := at_lt hi
      refine ⟨_, rfl, _, _, rfl, rfl, _, rfl, _, _, rfl, hx.same s1, _, _, rfl, ?_⟩
      rw [List.length_map]
      refine ⟨by omega, ?_⟩
      have hn2 : (((F.length : Nat) : Int) - (0 + (i : Int) + 1)).toNat = F.length - (i + 1) := by omega
      rw [hn2]
      refine for_it walk_range (fun j σ H2 => ∃ y4 y5 y6 y7 kvs, σ = [some x, some (.int hand), some (.ref d), some (.int (0 + (i : Int))), y4, y5, y6, y7] ∧ Same H H2 ∧ ND P w K H2 d kvs ∧ kvs.length ≤ 18 * i + 2 * j ∧ EdgeI F hand i (i + 1 + j) kvs) ⟨y4, y5, y6, y7, kvs, rfl, s1, nd1, kl, Ei⟩ (fun _ _ _ _ _ => trivial) ?_ ?_
      · rintro j y σ H2 H2' hj ⟨y4, y5, y6, y7, kv2, rfl, s2, nd2, kl2, Ej⟩ ⟨rfl, rfl⟩
        obtain ⟨b, hb⟩ := at_lt (l := F) (i := i + 1 + j) (by omega)
        have hx2 := hx.same s2
        refine ⟨_, rfl, _, rfl, _, _, _, hx2, rfl, atI_of (j := i) (by omega) (map_at ha), fun va hva => ?_⟩
        refine ⟨_, rfl, _, rfl, _, _, _, hx2, rfl, atI_of (j := i + 1 + j) (by omega) (map_at hb), fun vb hvb => ?_⟩
        refine ⟨by show 2 ≤ 1000; decide, _, tps2 hva hvb, fun vt H3 s3 hvt => ?_⟩
        obtain ⟨ta, u1, u2, rfl, ts, h1, h22⟩ := inv2 hvt
        refine ⟨_, _, rfl, ts, rfl, _, _, rfl, _, _, rfl, rfl, ?_⟩
        obtain ⟨fa, fs, rfl, fp, fks⟩ := (hx2.same s3).invP
        refine ⟨_, rfl, fa, rfl, ⟨fs, fp.sq⟩, fun D hD => ?_⟩
        refine lc_pure (K := K) (walk_tp fp fks) hD (fun m => ((F.take m).filter fun r => decide (hand * turn a b r < 0)).map kPt) rfl (fun m hm => ?_) (fun H' s => Tx.same s) YTp.same ?_ ?_
        · have h3 := List.length_filter_le (fun r => decide (hand * turn a b r < 0)) (F.take m)
          rw [List.length_take] at h3
          show (((F.take m).filter fun r => decide (hand * turn a b r < 0)).map kPt).length ≤ 100000
          rw [List.length_map]; omega
        · rintro m y H4 H4' hm s4 ⟨rfl, q, hq, hy⟩ T F' hT hF
          obtain ⟨p, hp, rfl⟩ := get_map hq
          refine ⟨rfl, ?_⟩
          refine ⟨_, rfl, _, rfl, _, rfl, _, rfl, _, _, y, a, b, p, rfl, h1.same s4, h22.same s4, hy, bF a (mem_at ha), bF b (mem_at hb), bF p (mem_at hp), hand, _, rfl, rfl, .inl ⟨by omega, by omega⟩, _, _, rfl, rfl, _, rfl, ?_⟩
          refine ifB (fun e => ?_) (fun e => ?_)
          · refine ⟨_, rfl, hT _ _ (kPt p) Same.rfl' hy ?_⟩
            show ((F.take (m + 1)).filter fun r => decide (hand * turn a b r < 0)).map kPt = _
            rw [take_next hp, List.filter_append, List.map_append, List.filter_cons, if_pos e]; rfl
          · refine hF _ Same.rfl' ?_
            show ((F.take (m + 1)).filter fun r => decide (hand * turn a b r < 0)).map kPt = _
            rw [take_next hp, List.filter_append, List.map_append, List.filter_cons, if_neg (by rw [e]; decide)]
            exact List.append_nil _
        · intro H4 zs s4 hz hzs
          rw [List.length_map, List.take_length] at hzs
          refine ⟨Nat.zero_le _, fun n hn4 => ?_⟩
          have s5 := Same.upd (o := .lst []) hn4
          have sB := Same.tr s4 s5
          have sA := Same.tr s3 sB
          have nd5 := nd2.same sA
          have s25 := Same.tr s2 sA
          have dd : ∀ r : Pt, (kPt r).depth ≤ 8 := fun r => by have := kPt_d r; omega
          refine ⟨D, n, zs, [], _, [], rfl, rfl, ofL (s5 _ _ hz), ofL upd_same, hzs.same s5, .nil, pt_dep, by simp, _, rfl, ?_⟩
          refine ifB (fun e => ?_) (fun e => ?_)
          · have hy : ∀ r ∈ F, ¬ hand * turn a b r < 0 := by
              have := of_decide_eq_true e
              rw [List.map_eq_nil_iff, List.filter_eq_nil_iff] at this
              intro r hr h
              exact this r hr (decide_eq_true h)
            refine ⟨_, rfl, _, rfl, d, kv2, _, rfl, nd5, h1.same sB, dd a, small (by omega), fun H6 nd6 ⟨o6, e6⟩ => ?_⟩
            obtain ⟨φ, hφ⟩ := nd5.there
            have t6 : Tx (upd H4 n (.lst [])) H6 := by rw [e6]; exact Tx.ext hφ
            have len6 : (putK kv2 (kPt a) (.bl true)).length ≤ kv2.length + 1 := put_len _ _ _
            have s6 : Same H H6 := by rw [e6]; exact Same.own s25 hd
            refine ⟨_, rfl, _, rfl, d, _, _, rfl, nd6, (h22.same sB).up t6, dd b, small (show (putK kv2 (kPt a) (.bl true)).length ≤ 100000 by omega), fun H7 nd7 ⟨o7, e7⟩ => ?_⟩
            have s7 : Same H H7 := by rw [e7]; exact Same.own s6 hd
            have len7 : (putK (putK kv2 (kPt a) (.bl true)) (kPt b) (.bl true)).length ≤ (putK kv2 (kPt a) (.bl true)).length + 1 := put_len _ _ _
            exact ⟨_, _, _, _, _, rfl, s7, nd7, by show (putK (putK kv2 (kPt a) (.bl true)) (kPt b) (.bl true)).length ≤ _; omega, Ej.put (by omega) hri ha hb hy⟩
          · have hy : ¬ ∀ r ∈ F, ¬ hand * turn a b r < 0 := by
              have := of_decide_eq_false e
              rw [List.map_eq_nil_iff, List.filter_eq_nil_iff] at this
              intro h
              exact this fun r hr z => h r hr (of_decide_eq_true z)
            exact ⟨_, _, _, _, kv2, rfl, s25, nd5, by omega, Ej.skip ha hb hy⟩
      · rintro σ H2 ⟨y4, y5, y6, y7, kv2, rfl, s2, nd2, kl2, Ej⟩
        exact ⟨_, _, _, _, _, kv2, rfl, s2, nd2, by omega, Ej.next (by omega)⟩
    · rintro σ H1 ⟨y3, y4, y5, y6, y7, kvs, rfl, s1, nd1, kl, Ei⟩
      obtain ⟨fa, fs, rfl, fp, fks⟩ := (hx.same s1).invP
      refine ⟨_, rfl, fa, rfl, ⟨fs, fp.sq⟩, fun D hD => ?_⟩
      refine lc_pure (K := K) (walk_tp fp fks) hD (fun m => ((F.take m).filter fun r => (valV kvs (kPt r)).isSome).map kPt) rfl (fun m hm => ?_) (fun H' s => Tx.same s) YTp.same ?_ ?_
      · have h3 := List.length_filter_le (fun r => (valV kvs (kPt r)).isSome) (F.take m)
        rw [List.length_take] at h3
        show (((F.take m).filter fun r => (valV kvs (kPt r)).isSome).map kPt).length ≤ 100000
        rw [List.length_map]; omega
      · rintro m y H4 H4' hm s4 ⟨rfl, q, hq, hy⟩ T F' hT hF
        obtain ⟨p, hp, rfl⟩ := get_map hq
        refine ⟨rfl, ?_⟩
        refine ⟨_, rfl, _, rfl, d, kvs, _, rfl, nd1.same s4, hy, by have := kPt_d p; show (kPt p).depth ≤ 8; omega, _, rfl, ?_⟩
        show if (valV kvs (kPt p)).isSome = true then _ else _
        refine ifB (fun e => ?_) (fun e => ?_)
        · refine ⟨_, rfl, hT _ _ (kPt p) Same.rfl' hy ?_⟩
          show ((F.take (m + 1)).filter fun r => (valV kvs (kPt r)).isSome).map kPt = _
          rw [take_next hp, List.filter_append, List.map_append, List.filter_cons, if_pos e]; rfl
        · refine hF _ Same.rfl' ?_
          show ((F.take (m + 1)).filter fun r => (valV kvs (kPt r)).isSome).map kPt = _
          rw [take_next hp, List.filter_append, List.map_append, List.filter_cons, if_neg (by rw [e]; decide)]
          exact List.append_nil _
      · intro H4 zs s4 hz hzs
        rw [List.length_map, List.take_length] at hzs
        have ec : (F.filter fun r => (valV kvs (kPt r)).isSome) = c := edge_eq hh hri h2 Hu _ (fun p hp => Ei.all hri (Nat.le_refl _))
        rw [ec] at hzs
        exact ⟨D, zs, _, rfl, ofL hz, hzs, fun v H5 s5 hv => k v H5 (Same.tr s1 (Same.tr s4 s5)) hv⟩
end
end Tl

end
-- D11
section
set_option maxHeartbeats 200000
namespace Tl
open PySem PySem.Spec PyProof.Rows L2
/-- the triangles by which a point comes in between, by those two -/
def PutsOk (K : PySem.W.Frag) (H : Hp) (kp : List (NestedKey × V)) (M : List T3) : Prop := ∀ a c : Pt, ∃ bs : List Pt, ((valV kp (kE (a, c)) = none ∧ bs = []) ∨ ∃ v, valV kp (kE (a, c)) = some v ∧ Tp K H v (kF bs)) ∧ bs.length ≤ M.length ∧ ∀ b, b ∈ bs ↔ (a, b, c) ∈ M ∧ ¬ 0 < turn a b c
def TakesOk (kt : List (NestedKey × V)) (M : List T3) : Prop := ∀ key, (valV kt key).isSome = true ↔ ∃ t ∈ M, 0 < turn t.1 t.2.1 t.2.2 ∧ key = kT t
theorem PutsOk.up {K : PySem.W.Frag} {H H' : Hp} {kp : List (NestedKey × V)} {M : List T3} (h : PutsOk K H kp M) (t : Tx H H') : PutsOk K H' kp M := fun a c => by
  obtain ⟨bs, h1, h2⟩ := h a c
  refine ⟨bs, ?_, h2⟩
  rcases h1 with h1 | ⟨v, h1, h3⟩
  · exact .inl h1
  · exact .inr ⟨v, h1, h3.up t⟩
theorem PutsOk.skip {K : PySem.W.Frag} {H : Hp} {kp : List (NestedKey × V)} {M : List T3} {t : T3} (h : PutsOk K H kp M) (ht : 0 < turn t.1 t.2.1 t.2.2) : PutsOk K H kp (M ++ [t]) := fun a c => by
  obtain ⟨bs, h1, h2, h3⟩ := h a c
  refine ⟨bs, h1, by rw [List.length_append]; omega, fun b => ?_⟩
  rw [h3, List.mem_append, List.mem_singleton]
  constructor
  · rintro ⟨x, y⟩; exact ⟨.inl x, y⟩
  · rintro ⟨x | x, y⟩
    · exact ⟨x, y⟩
    · subst x; exact absurd ht y
theorem PutsOk.put {K : PySem.W.Frag} {H : Hp} {kp : List (NestedKey × V)} {M : List T3} {t : T3} {bs : List Pt} {v : V} (h : PutsOk K H kp M) (ht : ¬ 0 < turn t.1 t.2.1 t.2.2)
    (hb : ∀ b, b ∈ bs ↔ (t.1, b, t.2.2) ∈ M ∧ ¬ 0 < turn t.1 b t.2.2) (hl : bs.length ≤ M.length) (hv : Tp K H v (kF (bs ++ [t.2.1]))) : PutsOk K H (putK kp (kE (t.1, t.2.2)) v) (M ++ [t]) := fun a c => by
  by_cases e : (a, c) = (t.1, t.2.2)
  · cases e
    refine ⟨bs ++ [t.2.1], .inr ⟨v, by rw [valV_put, if_pos rfl], hv⟩, by simp; exact hl, fun b => ?_⟩
    rw [List.mem_append, hb, List.mem_singleton, List.mem_append, List.mem_singleton]
    constructor
    · rintro (⟨x, y⟩ | rfl)
      · exact ⟨.inl x, y⟩
      · exact ⟨.inr rfl, ht⟩
    · rintro ⟨x | x, y⟩
      · exact .inl ⟨x, y⟩
      · exact .inr (by rw [← x])
  · obtain ⟨bs', h1, h2, h3⟩ := h a c
    have en : ¬ kE (a, c) = kE (t.1, t.2.2) := fun z => e (kE_inj z)
    refine ⟨bs', ?_, by rw [List.length_append]; omega, fun b => ?_⟩
    · rcases h1 with ⟨h1, h4⟩ | ⟨u, h1, h4⟩
      · exact .inl ⟨by rw [valV_put, if_neg en]; exact h1, h4⟩
      · exact .inr ⟨u, by rw [valV_put, if_neg en]; exact h1, h4⟩
    · rw [h3, List.mem_append, List.mem_singleton]
      constructor
      · rintro ⟨x, y⟩; exact ⟨.inl x, y⟩
      · rintro ⟨x | x, y⟩
        · exact ⟨x, y⟩
        · subst x; exact absurd rfl e
theorem TakesOk.skip {kt : List (NestedKey × V)} {M : List T3} {t : T3} (h : TakesOk kt M) (ht : ¬ 0 < turn t.1 t.2.1 t.2.2) : TakesOk kt (M ++ [t]) := fun key => by
  rw [h key]
  constructor
  · rintro ⟨t', x, y⟩; exact ⟨t', List.mem_append_left _ x, y⟩
  · rintro ⟨t', x, y⟩
    rcases List.mem_append.mp x with x | x
    · exact ⟨t', x, y⟩
    · rw [List.mem_singleton] at x; subst x; exact absurd y.1 ht
theorem TakesOk.put {kt : List (NestedKey × V)} {M : List T3} {t : T3} {v : V} (h : TakesOk kt M) (ht : 0 < turn t.1 t.2.1 t.2.2) : TakesOk (putK kt (kT t) v) (M ++ [t]) := fun key => by
  rw [valV_put]
  by_cases e : key = kT t
  · rw [if_pos e]
    exact ⟨fun _ => ⟨t, by simp, ht, e⟩, fun _ => rfl⟩
  · rw [if_neg e, h key]
    constructor
    · rintro ⟨t', x, y⟩; exact ⟨t', List.mem_append_left _ x, y⟩
    · rintro ⟨t', x, y⟩
      rcases List.mem_append.mp x with x | x
      · exact ⟨t', x, y⟩
      · rw [List.mem_singleton] at x; subst x; exact absurd y.2 e
/-- a table of the menu M -/
def TabAt (P : Program) (w : World) (K : PySem.W.Frag) (H : Hp) (v : V) (M : List T3) : Prop := ∃ a p t kp kt, v = .ref a ∧ H a = some (.tup [.ref p, .ref t]) ∧ ND P w K H p kp ∧ ND P w K H t kt ∧ PutsOk K H kp M ∧ TakesOk kt M
theorem TabAt.same {P : Program} {w : World} {K : PySem.W.Frag} {H H' : Hp} {v : V} {M : List T3} (h : TabAt P w K H v M) (s : Same H H') : TabAt P w K H' v M := by
  obtain ⟨a, p, t, kp, kt, rfl, h1, h2, h3, h4, h5⟩ := h
  exact ⟨a, p, t, kp, kt, rfl, s _ _ h1, h2.same s, h3.same s, h4.up (Tx.same s), h5⟩
section
variable {P : Program} {w : World} {K : PySem.W.Frag} {mg : Str → Option Value} {base : Heap}
def sp_l_table (P : Program) (w : World) (K : PySem.W.Frag) : Sp := fun vs H Q _ => ∃ x M, vs = [x] ∧ Tp K H x (kM M) ∧ (∀ t ∈ M, TBd t) ∧ M.length ≤ 729 ∧ ∀ v H', Same H H' → TabAt P w K H' v M → Q v H'
abbrev s_l_table : Stmt := top 42
theorem sc_l_table : FnScope ["_law_menu_here", "_law_puts", "_law_takes", "_law_a", "_law_b", "_law_c"] ["_law_menu_here"] (defScope s_l_table) := ⟨rfl, rfl, rfl, by decide +kernel, rfl, by decide +kernel, by decide +kernel⟩
theorem ok_l_table (B : Bi mg) (C_l_turn : Cal P w K mg base CX0 "_law_turn" 1 ["_law_a", "_law_b", "_law_c"] (sp_l_turn K)) (D : Df K mg "_law_table" s_l_table ["_law_menu_here"]) : Cal P w K mg base CX0 "_law_table" 2 ["_law_menu_here"] (sp_l_table P w K) := by
  refine D.ok 1 sc_l_table (fun vs H Q E h => ?_) (fun f cdv A outer s H vs Q E hr h => ?_)
  · obtain ⟨x, M, rfl, _⟩ := h; rfl
  · obtain ⟨x, M, rfl, hx, bM, hM, k⟩ := h
    refine ⟨_, pss_cons (ps_par (i := 1) (j := 2) rfl sc_l_table.nd rfl rfl (by decide) rfl rfl (pa_cons pe_nnew (pa_cons pe_nnew pa_nil)) (by with_unfolding_all rfl))
      (pss_cons (ps_for PassesOwn.never rfl (pi_tup (pv 0)) (pg_tup rfl (pgs_cons (pg_name (i := 3) sc_l_table.nd rfl (Or.inl rfl)) (pgs_cons (pg_name (i := 4) sc_l_table.nd rfl (Or.inl rfl)) (pgs_cons (pg_name (i := 5) sc_l_table.nd rfl (Or.inl rfl)) pgs_nil))))
      (pss_one (ps_if (pt_cmpR op_gt (pe_go C_l_turn (hr.mono (by decide)) (pa_cons (pv 3) (pa_cons (pv 4) (pa_cons (pv 5) pa_nil)))) pe_int (nomark _))
      (pss_one (ps_nput (u65 hr) (pv 2) (pe_tupN (pa_cons (pv 3) (pa_cons (pv 4) (pa_cons (pv 5) pa_nil))) : PE _ _ (tTupN K _)) pe_bl rfl))
      (pss_one (ps_nput (u65 hr) (pv 1) (pe_tupN (pa_cons (pv 3) (pa_cons (pv 5) pa_nil)) : PE _ _ (tTupN K _)) (pe_op (op_catN : OpR _ _ (rCatN K)) (pe_nget2 (u65 hr) (pv 1) (pe_tupN (pa_cons (pv 3) (pa_cons (pv 5) pa_nil)) : PE _ _ (tTupN K _)) (pe_tupN pa_nil : PE _ _ (tTupN K _)) ⟨rfl, rfl, rfl, rfl⟩ : PE _ _ (tNGet2 P w K _ _ _)) (pe_tupN (pa_cons (pv 4) pa_nil) : PE _ _ (tTupN K _))) rfl)))))
      (pss_one (ps_ret (pe_tup (pa_cons (pv 1) (pa_cons (pv 2) pa_nil)))))), ?_⟩
    intro p hp hps q hq hqs
    have s0 : Same H (upd H p (EK P w p [])) := Same.upd hp
    have s1 : Same (upd H p (EK P w p [])) (upd (upd H p (EK P w p [])) q (EK P w q [])) := Same.upd hq
    have ndp : ND P w K (upd (upd H p (EK P w p [])) q (EK P w q [])) p [] := ND.same (ND.new hps) s1
    have ndq : ND P w K (upd (upd H p (EK P w p [])) q (EK P w q [])) q [] := ND.new hqs
    have hpq : p ≠ q := fun z => by subst z; rw [upd_same] at hq; cases hq
    have s01 := Same.tr s0 s1
    have hq0 : H q = none := s0.free hq
    refine ⟨_, _, rfl, ?_⟩
    obtain ⟨ma, ms, rfl, mp, mks⟩ := (hx.same s01).invP
    refine ⟨_, rfl, ma, rfl, ⟨ms, mp.sq⟩, ?_⟩
    refine for_it (walk_tp mp mks) (fun i σ H1 => ∃ y3 y4 y5 kp kt, σ = [some (.ref ma), some (.ref p), some (.ref q), y3, y4, y5] ∧ Same H H1 ∧ Tx (upd (upd H p (EK P w p [])) q (EK P w q [])) H1 ∧ ND P w K H1 p kp ∧ ND P w K H1 q kt ∧ kp.length ≤ i ∧ kt.length ≤ i ∧ PutsOk K H1 kp (M.take i) ∧ TakesOk kt (M.take i)) ⟨none, none, none, [], [], rfl, s01, Tx.refl _, ndp, ndq, Nat.le_refl _, Nat.le_refl _, fun a c => ⟨[], .inl ⟨rfl, rfl⟩, Nat.zero_le _, by simp⟩, fun key => by simp [valV]⟩ (fun i σ H1 _ ⟨_, _, _, _, _, _, _, t, _⟩ => t) ?_ ?_
    · rintro i y σ H1 H1' hi ⟨y3, y4, y5, kp, kt, rfl, sm, tx, np, nq, lp, lq, po, to⟩ ⟨rfl, key, hkey, hy⟩
      obtain ⟨t, ht, rfl⟩ := get_map hkey
      have hi2 := lt_at ht
      have bt := bM t (mem_at ht)
      obtain ⟨ta, u1, u2, u3, rfl, ts, h1, h2, h3⟩ := tri_inv hy
      refine ⟨_, _, rfl, ts, rfl, _, _, rfl, _, _, rfl, _, _, rfl, rfl, ?_⟩
      refine ⟨_, rfl, _, rfl, _, rfl, _, _, _, t.1, t.2.1, t.2.2, rfl, h1, h2, h3, bt.1, bt.2.1, bt.2.2, _, _, rfl, rfl, _, rfl, ?_⟩
      refine ifB (fun e => ?_) (fun e => ?_)
      · have e : 0 < turn t.1 t.2.1 t.2.2 := of_decide_eq_true e
        refine ⟨_, rfl, _, rfl, _, rfl, _, rfl, by show 3 ≤ 1000; decide, _, tps3 h1 h2 h3, fun v H2 s2 hv => ?_⟩
        have nq2 := nq.same s2
        refine ⟨q, kt, _, rfl, nq2, hv, Nat.le_trans (kT_d t) (by decide), small (by omega), fun H3 nd3 ⟨o3, e3⟩ => ?_⟩
        obtain ⟨φ, hφ⟩ := nq2.there
        have t3 : Tx H2 H3 := by rw [e3]; exact Tx.ext hφ
        have ep : H3 p = H2 p := by rw [e3, upd_ne hpq]
        have len3 := put_len kt (kT t) (.bl true)
        refine ⟨_, _, _, kp, _, rfl, by rw [e3]; exact Same.own (Same.tr sm s2) hq0, tx.trans ((Tx.same s2).trans t3), (np.same s2).up t3 ep, nd3, by omega, by show (putK kt (kT t) (.bl true)).length ≤ i + 1; omega, ?_, ?_⟩
        · rw [take_next ht]; exact (po.up ((Tx.same s2).trans t3)).skip e
        · rw [take_next ht]; exact to.put e
      · have e : ¬ 0 < turn t.1 t.2.1 t.2.2 := of_decide_eq_false e
        obtain ⟨bs, hb1, hb2, hb3⟩ := po t.1 t.2.2
        refine ⟨_, rfl, p, rfl, ⟨kp, np⟩, _, rfl, _, rfl, by show 2 ≤ 1000; decide, _, tps2 h1 h3, fun v H2 s2 hv => ?_⟩
        refine ⟨by show 0 ≤ 1000; decide, [], .nil, fun v0 H3 s3 hv0 => ?_⟩
        have s23 := Same.tr s2 s3
        refine ⟨kp, _, np.same s23, hv.same s3, Nat.le_trans (kE_d (t.1, t.2.2)) (by decide), ?_⟩
        have hget : Tp K H3 ((valV kp (kE (t.1, t.2.2))).getD v0) (kF bs) := by
          rcases hb1 with ⟨z1, rfl⟩ | ⟨u, z1, z2⟩
          · rw [z1]; exact hv0
          · rw [z1]; exact z2.same s23
        refine ⟨_, rfl, by show 1 ≤ 1000; decide, _, .cons (h2.same s23) .nil, fun v1 H4 s4 hv1 => ?_⟩
        have lM : (M.take i).length ≤ 729 := by rw [List.length_take]; omega
        refine ⟨bs.map kPt, [kPt t.2.1], hget.same s4, hv1, by rw [List.length_map]; show _ + 1 ≤ 1000; omega, fun v2 H5 s5 hv2 => ?_⟩
        have s25 := Same.tr s23 (Same.tr s4 s5)
        refine ⟨_, rfl, _, rfl, _, rfl, by show 2 ≤ 1000; decide, _, tps2 (h1.same s25) (h3.same s25), fun v3 H6 s6 hv3 => ?_⟩
        have s26 := Same.tr s25 s6
        have np6 := np.same s26
        refine ⟨p, kp, _, rfl, np6, hv3, Nat.le_trans (kE_d (t.1, t.2.2)) (by decide), small (by omega), fun H7 nd7 ⟨o7, e7⟩ => ?_⟩
        obtain ⟨φ, hφ⟩ := np6.there
        have t7 : Tx H6 H7 := by rw [e7]; exact Tx.ext hφ
        have eq7 : H7 q = H6 q := by rw [e7, upd_ne hpq.symm]
        have len7 := put_len kp (kE (t.1, t.2.2)) v2
        have hv2' : Tp K H7 v2 (kF (bs ++ [t.2.1])) := by
          unfold kF; rw [List.map_append]; exact (hv2.same s6).up t7
        refine ⟨_, _, _, _, kt, rfl, by rw [e7]; exact Same.own (Same.tr sm s26) hp, tx.trans ((Tx.same s26).trans t7), nd7, (nq.same s26).up t7 eq7, by show (putK kp (kE (t.1, t.2.2)) v2).length ≤ i + 1; omega, by omega, ?_, ?_⟩
        · rw [take_next ht]; exact (po.up ((Tx.same s26).trans t7)).put e hb3 hb2 hv2'
        · rw [take_next ht]; exact to.skip e
    · rintro σ H1 ⟨y3, y4, y5, kp, kt, rfl, sm, tx, np, nq, lp, lq, po, to⟩
      rw [List.length_map, List.take_length] at po to
      refine ⟨_, rfl, _, rfl, by show 2 ≤ sizeLine; decide, fun a ha => ?_⟩
      have sa := Same.upd (o := .tup [.ref p, .ref q]) ha
      exact k _ _ (Same.tr sm sa) ⟨a, p, q, kp, kt, rfl, upd_same, np.same sa, nq.same sa, po.up (Tx.same sa), to⟩
end
end Tl

end
-- D12
section
set_option maxHeartbeats 200000
namespace Tl
open PySem PySem.Spec PyProof.Rows L2
abbrev S3 := Nat × Bool × List Pt
def kS (s : S3) : NestedKey := .tup [.num (s.1 : Nat), .num (if s.2.1 = true then 1 else 0), kF s.2.2]
def StepS (M : List T3) (f : List Pt) (s : S3) : Prop := ∃ t, Step M f s.1 s.2.1 t s.2.2
theorem kS_d (s : S3) : (kS s).depth ≤ 6 := depth_tup (n := 5) (fun k hk => by
  simp only [List.mem_cons, List.not_mem_nil, or_false] at hk
  rcases hk with rfl | rfl | rfl
  · rw [NestedKey.depth]; decide
  · rw [NestedKey.depth]; decide
  · exact Nat.le_succ_of_le (kF_d _))
theorem split2 {f : List Pt} {i : Nat} {a c : Pt} (ha : f[i]? = some a) (hc : f[i + 1]? = some c) : f = f.take i ++ a :: c :: f.drop (i + 2) ∧ (f.take i).length = i := by
  constructor
  · rw [← drop_at hc, ← drop_at ha, List.take_append_drop]
  · have := lt_at ha; rw [List.length_take]; omega
theorem step_put {M : List T3} {f f' : List Pt} {i : Nat} {a c : Pt} (ha : f[i]? = some a) (hc : f[i + 1]? = some c) : StepS M f (i, true, f') ↔ ∃ b, (a, b, c) ∈ M ∧ turn a b c < 0 ∧ f' = f.take (i + 1) ++ b :: f.drop (i + 1) := by
  constructor
  · rintro ⟨t, hM, p, q, hp, h⟩
    rcases h with ⟨_, h1, h2, h3⟩ | ⟨h0, _⟩
    · simp only at hp h2 h3
      have e1 : f[i]? = some t.1 := by rw [h2, ← hp, List.getElem?_append_right (Nat.le_refl _)]; simp
      have e2 : f[i + 1]? = some t.2.2 := by rw [h2, ← hp, List.getElem?_append_right (by omega)]; simp
      rw [ha] at e1; rw [hc] at e2
      cases e1; cases e2
      refine ⟨t.2.1, hM, h1, ?_⟩
      have g1 : f.take (i + 1) = p ++ [t.1] := by
        rw [h2, ← hp]
        rw [show p ++ t.1 :: t.2.2 :: q = (p ++ [t.1]) ++ t.2.2 :: q by simp, List.take_append_of_le_length (by simp)]
        exact List.take_of_length_le (by simp)
      have g2 : f.drop (i + 1) = t.2.2 :: q := by
        rw [h2, ← hp]
        rw [show p ++ t.1 :: t.2.2 :: q = (p ++ [t.1]) ++ t.2.2 :: q by simp, List.drop_append_of_le_length (by simp)]
        simp
      rw [g1, g2, h3]; simp
    · cases h0
  · rintro ⟨b, hM, hn, rfl⟩
    obtain ⟨e1, e2⟩ := split2 ha hc
    refine ⟨(a, b, c), hM, f.take i, f.drop (i + 2), e2, .inl ⟨rfl, hn, e1, ?_⟩⟩
    show f.take (i + 1) ++ b :: f.drop (i + 1) = f.take i ++ a :: b :: c :: f.drop (i + 2)
    rw [take_next ha, drop_at hc]; simp
theorem step_take {M : List T3} {f f' : List Pt} {i : Nat} : StepS M f (i, false, f') ↔ ∃ t ∈ M, 0 < turn t.1 t.2.1 t.2.2 ∧ (f.drop i).take 3 = [t.1, t.2.1, t.2.2] ∧ f' = f.take (i + 1) ++ f.drop (i + 2) := by
  constructor
  · rintro ⟨t, hM, p, q, hp, h⟩
    rcases h with ⟨h0, _⟩ | ⟨_, h1, h2, h3⟩
    · cases h0
    · simp only at hp h2 h3
      refine ⟨t, hM, h1, ?_, ?_⟩
      · rw [h2, ← hp, List.drop_left]; rfl
      · have g1 : f.take (i + 1) = p ++ [t.1] := by
          rw [h2, ← hp]
          rw [show p ++ t.1 :: t.2.1 :: t.2.2 :: q = (p ++ [t.1]) ++ t.2.1 :: t.2.2 :: q by simp, List.take_append_of_le_length (by simp)]
          exact List.take_of_length_le (by simp)
        have g2 : f.drop (i + 2) = t.2.2 :: q := by
          rw [h2, ← hp]
          rw [show p ++ t.1 :: t.2.1 :: t.2.2 :: q = (p ++ [t.1, t.2.1]) ++ t.2.2 :: q by simp, List.drop_append_of_le_length (by simp)]
          simp
        rw [g1, g2, h3]; simp
  · rintro ⟨t, hM, hn, h3, rfl⟩
    have hd : f.drop i = t.1 :: t.2.1 :: t.2.2 :: f.drop (i + 3) := by
      have e := List.take_append_drop 3 (f.drop i)
      rw [h3, List.drop_drop] at e
      rw [← e]; rfl
    have hf : f = f.take i ++ t.1 :: t.2.1 :: t.2.2 :: f.drop (i + 3) := by rw [← hd, List.take_append_drop]
    have hi : (f.take i).length = i := by
      rw [List.length_take]
      have := congrArg List.length hd
      rw [List.length_drop] at this
      simp only [List.length_cons] at this
      omega
    refine ⟨t, hM, f.take i, f.drop (i + 3), hi, .inr ⟨rfl, hn, hf, ?_⟩⟩
    have a1 : f[i]? = some t.1 := by rw [hf, List.getElem?_append_right (by omega), hi]; simp
    have a2 : f.drop (i + 2) = t.2.2 :: f.drop (i + 3) := by
      have := congrArg (List.drop 2) hd
      rw [List.drop_drop] at this
      rw [this]; rfl
    show f.take (i + 1) ++ f.drop (i + 2) = f.take i ++ t.1 :: t.2.2 :: f.drop (i + 3)
    rw [take_next a1, a2]; simp
section
variable {P : Program} {w : World} {K : PySem.W.Frag} {mg : Str → Option Value} {base : Heap}
def sp_l_behind (P : Program) (w : World) (K : PySem.W.Frag) : Sp := fun vs H Q _ => ∃ x v M g, vs = [x, v] ∧ TabAt P w K H x M ∧ Tp K H v (kF g) ∧ (∀ t ∈ M, turn t.1 t.2.1 t.2.2 ≠ 0) ∧ M.length ≤ 729 ∧ 1 ≤ g.length ∧ g.length ≤ 9 ∧
  ∀ (H' : Hp) (l : Addr) (ws : List V) (es : List S3), Same H H' → H l = none → H' l = some (.lst ws) → TpAll K H' ws (es.map kS) → (∀ s, s ∈ es ↔ StepS M g s) → es.length ≤ 10000 → Q (.ref l) H'
abbrev s_l_behind : Stmt := top 43
theorem sc_l_behind : FnScope ["_law_table_here", "_law_front", "_law_puts", "_law_takes", "_law_found", "_law_k", "_law_b"] ["_law_table_here", "_law_front"] (defScope s_l_behind) := ⟨rfl, rfl, rfl, by decide +kernel, rfl, by decide +kernel, by decide +kernel⟩
theorem ok_l_behind (B : Bi mg)  (D : Df K mg "_law_behind" s_l_behind ["_law_table_here", "_law_front"]) : Cal P w K mg base CX0 "_law_behind" 1 ["_law_table_here", "_law_front"] (sp_l_behind P w K) := by
  refine D.ok 0 sc_l_behind (fun vs H Q E h => ?_) (fun f cdv A outer s H vs Q E hr h => ?_)
  · obtain ⟨x, v, M, g, rfl, _⟩ := h; rfl
  · obtain ⟨x, v, M, g, rfl, hx, hv, nz, hM, g1, g9, k⟩ := h
    refine ⟨_, pss_cons (ps_asg (pv 0) (pg_tup rfl (pgs_cons (pg_name (i := 2) sc_l_behind.nd rfl (Or.inl rfl)) (pgs_cons (pg_name (i := 3) sc_l_behind.nd rfl (Or.inl rfl)) pgs_nil))))
      (pss_cons (ps_set (i := 4) sc_l_behind.nd rfl (Or.inl rfl) (pe_lst pa_nil))
      (pss_cons (ps_for PassesOwn.never rfl (pi_range1 (by rfl) B.range (pa_cons (pe_op op_sub (pe_lenT B (pa_cons (pv 1) pa_nil) : PE _ _ (tCB (rLenT K) _)) pe_int) pa_nil)) (pg_name (i := 5) sc_l_behind.nd rfl (Or.inl rfl))
      (pss_cons (ps_for PassesOwn.never rfl (pi_tup (pe_nget2 (u65 hr) (pv 2) (pe_tupN (pa_cons (pe_ix (ix_tupN : IxR _ (rIxN K)) (pv 1) (pv 5) (fun _ _ => rfl)) (pa_cons (pe_ix (ix_tupN : IxR _ (rIxN K)) (pv 1) (pe_op op_add (pv 5) pe_int) (fun _ _ => rfl)) pa_nil)) : PE _ _ (tTupN K _)) (pe_tupN pa_nil : PE _ _ (tTupN K _)) ⟨rfl, rfl, rfl, rfl⟩ : PE _ _ (tNGet2 P w K _ _ _))) (pg_name (i := 6) sc_l_behind.nd rfl (Or.inl rfl))
      (pss_one (ps_expr (pe_bm PySem.F.plainAttrs_list PySem.F.slot_list_append PySem.F.type_list_append mt_append (pv 4) (pa_cons (pe_tupN (pa_cons (pv 5) (pa_cons pe_int (pa_cons (pe_op (op_catN : OpR _ _ (rCatN K)) (pe_op (op_catN : OpR _ _ (rCatN K)) (pe_slice (sl_tupN : SlR _ (rSlN K)) (pv 1) po_none (po_some (pe_op op_add (pv 5) pe_int))) (pe_tupN (pa_cons (pv 6) pa_nil) : PE _ _ (tTupN K _))) (pe_slice (sl_tupN : SlR _ (rSlN K)) (pv 1) (po_some (pe_op op_add (pv 5) pe_int)) po_none)) pa_nil))) : PE _ _ (tTupN K _)) pa_nil)))))
      (pss_one (ps_if (pt_cmpR (op_nin (u65 hr) : OpR _ _ (rNIn P w K false)) (pe_slice (sl_tupN : SlR _ (rSlN K)) (pv 1) (po_some (pv 5)) (po_some (pe_op op_add (pv 5) pe_int))) (pv 3) rfl)
      (pss_one (ps_expr (pe_bm PySem.F.plainAttrs_list PySem.F.slot_list_append PySem.F.type_list_append mt_append (pv 4) (pa_cons (pe_tupN (pa_cons (pv 5) (pa_cons pe_int (pa_cons (pe_op (op_catN : OpR _ _ (rCatN K)) (pe_slice (sl_tupN : SlR _ (rSlN K)) (pv 1) po_none (po_some (pe_op op_add (pv 5) pe_int))) (pe_slice (sl_tupN : SlR _ (rSlN K)) (pv 1) (po_some (pe_op op_add (pv 5) pe_int)) po_none)) pa_nil))) : PE _ _ (tTupN K _)) pa_nil))))
      pss_nil))))
      (pss_one (ps_ret (pv 4))))), ?_⟩
    obtain ⟨ta, p, q, kp, kt, rfl, hta, np, nq, po, to⟩ := hx
    refine ⟨_, rfl, _, _, rfl, SqT.of hta, rfl, _, _, rfl, _, _, rfl, rfl, ?_⟩
    refine ⟨Nat.zero_le _, fun l hl => ?_⟩
    have a0 := Acc.start (K := K) hl
    refine ⟨_, rfl, _, _, rfl, hv.same a0.same, _, 1, rfl, rfl, _, rfl, ?_⟩
    rw [List.length_map]
    refine ⟨by omega, by omega, ?_⟩
    have hn : (((g.length : Nat) : Int) - 1).toNat = g.length - 1 := by omega
    rw [hn]
    refine for_it walk_range (fun i σ H1 => ∃ y5 y6 es, σ = [some (.ref ta), some v, some (.ref p), some (.ref q), some (.ref l), y5, y6] ∧ Acc K H H1 l (es.map kS) ∧ (∀ s, s ∈ es ↔ StepS M g s ∧ s.1 < i) ∧ es.length ≤ i * 730) ⟨none, none, [], rfl, a0, fun s => by simp, Nat.zero_le _⟩ (fun _ _ _ _ _ => trivial) ?_ ?_
    · rintro i y σ H1 H1' hi ⟨y5, y6, es, rfl, a1, hes, les⟩ ⟨rfl, rfl⟩
      obtain ⟨a, ha⟩ := at_lt (l := g) (i := i) (by omega)
      obtain ⟨c, hc⟩ := at_lt (l := g) (i := i + 1) (by omega)
      have hv1 := hv.same a1.same
      obtain ⟨bs, hb1, hb2, hb3⟩ := po a c
      refine ⟨_, rfl, p, rfl, ⟨kp, np.same a1.same⟩, ?_⟩
      refine ⟨_, rfl, _, rfl, _, _, _, hv1, rfl, atI_of (j := i) (by omega) (map_at ha), fun va hva => ?_⟩
      refine ⟨_, rfl, _, rfl, _, _, rfl, rfl, _, _, _, hv1, rfl, atI_of (j := i + 1) (by omega) (map_at hc), fun vc hvc => ?_⟩
      refine ⟨by show 2 ≤ 1000; decide, _, tps2 hva hvc, fun ve H2 s2 hve => ?_⟩
      refine ⟨by show 0 ≤ 1000; decide, [], .nil, fun v0 H3 s3 hv0 => ?_⟩
      have a3 := (a1.up s2).up s3
      refine ⟨kp, _, np.same a3.same, hve.same s3, Nat.le_trans (kE_d (a, c)) (by decide), ?_⟩
      have hget : Tp K H3 ((valV kp (kE (a, c))).getD v0) (kF bs) := by
        rcases hb1 with ⟨z1, rfl⟩ | ⟨u, z1, z2⟩
        · rw [z1]; exact hv0
        · rw [z1]; exact z2.same a3.same
      obtain ⟨ba, bvs, eb, bp, bks⟩ := hget.invP
      refine ⟨ba, eb, ⟨bvs, bp.sq⟩, ?_⟩
      refine for_it (walk_tp bp bks) (fun j σ H4 => ∃ y6 es, σ = [some (.ref ta), some v, some (.ref p), some (.ref q), some (.ref l), some (.int (0 + (i : Int))), y6] ∧ Acc K H H4 l (es.map kS) ∧ Tx H3 H4 ∧ (∀ s, s ∈ es ↔ (StepS M g s ∧ s.1 < i) ∨ ∃ b ∈ bs.take j, s = (i, true, g.take (i + 1) ++ b :: g.drop (i + 1))) ∧ es.length ≤ i * 730 + j) ⟨y6, es, rfl, a3, Tx.refl _, fun s => by rw [hes]; simp, by omega⟩ (fun i σ H1 _ ⟨_, _, _, _, t, _⟩ => t) ?_ ?_
      · rintro j y σ H4 H4' hj ⟨y6, es4, rfl, a4, t4, hes4, les4⟩ ⟨rfl, key, hkey, hy⟩
        obtain ⟨b, hb, rfl⟩ := get_map hkey
        have hj2 := lt_at hb
        obtain ⟨ws, hws, hk⟩ := a4.ex
        have lk := hk.length
        rw [List.length_map] at lk
        have hv4 := hv.same a4.same
        refine ⟨_, rfl, .inl ⟨rfl, _, ofL hws⟩, ?_⟩
        refine ⟨_, rfl, _, rfl, _, rfl, _, _, rfl, rfl, _, rfl, _, hv4, ?_⟩
        rw [cut_to (j := i + 1) (by omega), ← List.map_take]
        intro w1 H5 s5 hw1
        refine ⟨_, rfl, by show 1 ≤ 1000; decide, _, .cons (hy.same s5) .nil, fun w2 H6 s6 hw2 => ?_⟩
        refine ⟨_, _, hw1.same s6, hw2, ?_, fun w3 H7 s7 hw3 => ?_⟩
        · rw [List.length_map, List.length_take]; show _ + 1 ≤ 1000; omega
        refine ⟨_, rfl, _, rfl, _, _, rfl, rfl, _, rfl, _, ((hv4.same s5).same s6).same s7, ?_⟩
        rw [cut_from (j := i + 1) (by omega), ← List.map_drop]
        intro w4 H8 s8 hw4
        refine ⟨_, _, hw3.same s8, hw4, ?_, ?_⟩
        · rw [List.length_append, List.length_map, List.length_map, List.length_take, List.length_drop]; show _ + 1 + _ ≤ 1000; omega
        have el : (g.take (i + 1)).map kPt ++ [kPt b] ++ (g.drop (i + 1)).map kPt = (g.take (i + 1) ++ b :: g.drop (i + 1)).map kPt := by
          rw [List.map_append, List.append_assoc]; rfl
        rw [el]
        intro w5 H9 s9 hw5
        refine ⟨by show 3 ≤ 1000; decide, _, tps3 (.int _) (.int _) hw5, fun w6 HA sA hw6 => ?_⟩
        have sAll := Same.tr s5 (Same.tr s6 (Same.tr s7 (Same.tr s8 (Same.tr s9 sA))))
        refine ⟨l, ws, w6, rfl, rfl, sAll _ _ hws, small (by omega), ?_⟩
        have ek : NestedKey.tup [.num (0 + (i : Int)), .num 1, .tup ((g.take (i + 1) ++ b :: g.drop (i + 1)).map kPt)] = kS (i, true, g.take (i + 1) ++ b :: g.drop (i + 1)) := by
          unfold kS kF; simp
        rw [ek] at hw6
        refine ⟨_, es4 ++ [(i, true, g.take (i + 1) ++ b :: g.drop (i + 1))], rfl, ?_, (t4.trans (Tx.same sAll)).trans (Tx.lst (sAll _ _ hws)), fun s => ?_, by rw [List.length_append]; simp only [List.length_singleton]; omega⟩
        · rw [List.map_append]
          exact (a4.up sAll).snoc hl (sAll _ _ hws) hw6
        · rw [List.mem_append, hes4, List.mem_singleton, take_next hb]
          constructor
          · rintro ((h | ⟨b', h, e⟩) | h)
            · exact .inl h
            · exact .inr ⟨b', List.mem_append_left _ h, e⟩
            · exact .inr ⟨b, by simp, h⟩
          · rintro (h | ⟨b', h, e⟩)
            · exact .inl (.inl h)
            · rcases List.mem_append.mp h with h | h
              · exact .inl (.inr ⟨b', h, e⟩)
              · rw [List.mem_singleton] at h; subst h; exact .inr e
      · rintro σ H4 ⟨y6, es4, rfl, a4, t4, hes4, les4⟩
        rw [List.length_map] at hes4 les4
        rw [List.take_length] at hes4
        have hv4 := hv.same a4.same
        have hes5 : ∀ s, s ∈ es4 ↔ StepS M g s ∧ (s.1 < i ∨ (s.1 = i ∧ s.2.1 = true)) := fun s => by
          rw [hes4]
          constructor
          · rintro (⟨h1, h2⟩ | ⟨b, hb, rfl⟩)
            · exact ⟨h1, .inl h2⟩
            · have h3 := (hb3 b).mp hb
              have h4 := nz _ h3.1
              exact ⟨(step_put ha hc).mpr ⟨b, h3.1, by simp only at h4; omega, rfl⟩, .inr ⟨rfl, rfl⟩⟩
          · rintro ⟨h1, h2 | ⟨h2, h3⟩⟩
            · exact .inl ⟨h1, h2⟩
            · obtain ⟨s1, s2, s3⟩ := s
              simp only at h2 h3
              subst h2 h3
              obtain ⟨b, hb, hn, e⟩ := (step_put ha hc).mp h1
              exact .inr ⟨b, (hb3 b).mpr ⟨hb, by omega⟩, by rw [e]⟩
        refine ⟨_, rfl, _, rfl, _, rfl, _, rfl, _, _, rfl, rfl, _, rfl, _, hv4, ?_⟩
        rw [cut_mid (i := i) (j := i + 3) (by omega) (by omega) (by rw [List.length_map]; omega), ← List.map_drop, ← List.map_take, show i + 3 - i = 3 by omega]
        intro w1 H5 s5 hw1
        have a5 := a4.up s5
        refine ⟨_, rfl, q, kt, _, rfl, nq.same a5.same, hw1, Nat.le_trans (kF_d ((g.drop i).take 3)) (by decide), _, rfl, ?_⟩
        show if (valV kt (kF ((g.drop i).take 3))).isSome = true then _ else _
        refine ifB (fun e => ?_) (fun e => ?_)
        · obtain ⟨t, htM, htp, hte⟩ := (to _).mp e
          have ht3 : (g.drop i).take 3 = [t.1, t.2.1, t.2.2] := kF_inj hte
          have st : StepS M g (i, false, g.take (i + 1) ++ g.drop (i + 2)) := step_take.mpr ⟨t, htM, htp, ht3, rfl⟩
          obtain ⟨ws, hws, hk⟩ := a5.ex
          have lk := hk.length
          rw [List.length_map] at lk
          have hv5 := hv4.same s5
          refine ⟨_, rfl, .inl ⟨rfl, _, ofL hws⟩, ?_⟩
          refine ⟨_, rfl, _, rfl, _, rfl, _, _, rfl, rfl, _, rfl, _, hv5, ?_⟩
          rw [cut_to (j := i + 1) (by omega), ← List.map_take]
          intro w2 H6 s6 hw2
          refine ⟨_, rfl, _, rfl, _, _, rfl, rfl, _, rfl, _, hv5.same s6, ?_⟩
          rw [cut_from (j := i + 2) (by omega), ← List.map_drop]
          intro w3 H7 s7 hw3
          refine ⟨_, _, hw2.same s7, hw3, ?_, ?_⟩
          · rw [List.length_map, List.length_map, List.length_take, List.length_drop]; omega
          rw [← List.map_append]
          intro w4 H8 s8 hw4
          refine ⟨by show 3 ≤ 1000; decide, _, tps3 (.int _) (.int _) hw4, fun w5 H9 s9 hw5 => ?_⟩
          have sAll := Same.tr s6 (Same.tr s7 (Same.tr s8 s9))
          refine ⟨l, ws, w5, rfl, rfl, sAll _ _ hws, small (by omega), ?_⟩
          have ek : NestedKey.tup [.num (0 + (i : Int)), .num 0, .tup ((g.take (i + 1) ++ g.drop (i + 2)).map kPt)] = kS (i, false, g.take (i + 1) ++ g.drop (i + 2)) := by
            unfold kS kF; simp
          rw [ek] at hw5
          refine ⟨_, _, es4 ++ [(i, false, g.take (i + 1) ++ g.drop (i + 2))], rfl, ?_, fun s => ?_, by rw [List.length_append]; simp only [List.length_singleton]; omega⟩
          · rw [List.map_append]
            exact (a5.up sAll).snoc hl (sAll _ _ hws) hw5
          · rw [List.mem_append, hes5, List.mem_singleton]
            constructor
            · rintro (⟨h1, h2⟩ | rfl)
              · exact ⟨h1, by omega⟩
              · exact ⟨st, Nat.lt_succ_self i⟩
            · rintro ⟨h1, h2⟩
              obtain ⟨s1, s2, s3⟩ := s
              simp only at h2
              rcases Nat.lt_or_ge s1 i with q1 | q1
              · exact .inl ⟨h1, .inl q1⟩
              · have e1 : s1 = i := by omega
                subst e1
                cases s2 with
                | true => exact .inl ⟨h1, .inr ⟨rfl, rfl⟩⟩
                | false =>
                  obtain ⟨_, _, _, _, e3⟩ := step_take.mp h1
                  exact .inr (by rw [e3])
        · refine ⟨_, _, es4, rfl, a5, fun s => ?_, by omega⟩
          rw [hes5]
          constructor
          · rintro ⟨h1, h2⟩; exact ⟨h1, by omega⟩
          · rintro ⟨h1, h2⟩
            obtain ⟨s1, s2, s3⟩ := s
            simp only at h2
            rcases Nat.lt_or_ge s1 i with q1 | q1
            · exact ⟨h1, .inl q1⟩
            · have e1 : s1 = i := by omega
              subst e1
              cases s2 with
              | true => exact ⟨h1, .inr ⟨rfl, rfl⟩⟩
              | false =>
                obtain ⟨t, hM2, hn2, e3, _⟩ := step_take.mp h1
                have : (valV kt (kF ((g.drop s1).take 3))).isSome = true := (to _).mpr ⟨t, hM2, hn2, by rw [e3]; rfl⟩
                rw [this] at e; cases e
    · rintro σ H1 ⟨y5, y6, es, rfl, a1, hes, les⟩
      obtain ⟨ws, hws, hk⟩ := a1.ex
      have l2 : (g.length - 1) * 730 ≤ 8 * 730 := Nat.mul_le_mul_right _ (by omega)
      refine ⟨_, rfl, k H1 l ws es a1.same hl hws hk (fun s => ?_) (by omega)⟩
      rw [hes]
      refine ⟨fun h => h.1, fun h => ⟨h, ?_⟩⟩
      obtain ⟨t, _, p', q', hp, hh⟩ := h
      rcases hh with ⟨_, _, e, _⟩ | ⟨_, _, e, _⟩ <;> (have := congrArg List.length e; rw [List.length_append] at this; simp only [List.length_cons] at this; omega)
end
end Tl

end
-- D13
section
set_option maxHeartbeats 200000
namespace Tl
open PySem PySem.Spec PyProof.Rows L2
theorem step_over {M : List T3} {f f' : List Pt} {k : Nat} {g : Bool} {t : T3} (h : Step M f k g t f') : (if g = true then (f'.drop k).take 3 else (f.drop k).take 3) = [t.1, t.2.1, t.2.2] ∧ k ≤ f.length ∧ k ≤ f'.length := by
  obtain ⟨hM, p, q, hp, h⟩ := h
  rcases h with ⟨rfl, h1, rfl, rfl⟩ | ⟨rfl, h1, rfl, rfl⟩
  · subst hp
    refine ⟨?_, by simp, by simp⟩
    rw [if_pos rfl, List.drop_left]; rfl
  · subst hp
    refine ⟨?_, by simp, by simp⟩
    rw [if_neg (by decide), List.drop_left]; rfl
theorem step_new {M : List T3} {f f' : List Pt} {k : Nat} {g : Bool} {t : T3} (h : Step M f k g t f') : (newt t).length = 1 + (if g = true then 1 else 0) ∧ ∀ i e, (newt t)[i]? = some e → (f'.drop (k + i)).take 2 = [e.1, e.2] ∧ k + i ≤ f'.length := by
  obtain ⟨hM, p, q, hp, h⟩ := h
  rcases h with ⟨rfl, h1, rfl, rfl⟩ | ⟨rfl, h1, rfl, rfl⟩
  · subst hp
    have e0 : newt t = [(t.1, t.2.1), (t.2.1, t.2.2)] := by unfold newt; rw [if_neg (by omega)]
    rw [e0]
    refine ⟨rfl, fun i e he => ?_⟩
    match i, he with
    | 0, he => cases he; refine ⟨?_, by simp⟩; rw [Nat.add_zero, List.drop_left]; rfl
    | 1, he =>
      cases he
      refine ⟨?_, by simp⟩
      rw [show p ++ t.1 :: t.2.1 :: t.2.2 :: q = (p ++ [t.1]) ++ t.2.1 :: t.2.2 :: q by simp, show p.length + 1 = (p ++ [t.1]).length by simp, List.drop_left]; rfl
    | i + 2, he => simp at he
  · subst hp
    have e0 : newt t = [(t.1, t.2.2)] := by unfold newt; rw [if_pos h1]
    rw [e0]
    refine ⟨rfl, fun i e he => ?_⟩
    match i, he with
    | 0, he => cases he; refine ⟨?_, by simp⟩; rw [Nat.add_zero, List.drop_left]; rfl
    | i + 1, he => simp at he
def crossB (o e : E2) : Bool := if 0 ≤ turn o.1 o.2 e.1 * turn o.1 o.2 e.2 then false else decide (turn e.1 e.2 o.1 * turn e.1 e.2 o.2 < 0)
def alongB (e : E2) (t : T3) : Bool := decide ((sidesOf t).filter (fun o => crossB o e) = [])
def scAlong1 : Scope := { kind := .function, names := [((".0" : Str), .local), (("_law_one" : Str), .local), (("_law_sides" : Str), .globalImplicit), (("_law_tie" : Str), .cell)], isGenerator := false, isCoroutine := false, more := [] }
def scAlong2 : Scope := { kind := .function, names := [((".0" : Str), .local), (("_law_own" : Str), .local), (("_law_cross" : Str), .globalImplicit), (("_law_tie" : Str), .free)], isGenerator := false, isCoroutine := false, more := [] }
def EBd (e : E2) : Prop := Bd e.1 ∧ Bd e.2
theorem sides_bd {t : T3} (h : TBd t) {e : E2} (he : e ∈ sidesOf t) : EBd e := by
  unfold sidesOf at he
  simp only [List.mem_cons, List.not_mem_nil, or_false] at he
  rcases he with rfl | rfl | rfl
  · exact ⟨h.1, h.2.1⟩
  · exact ⟨h.1, h.2.2⟩
  · exact ⟨h.2.1, h.2.2⟩
def ownB (ts : List T3) (e : E2) : Bool := ts.any fun t => decide (e ∈ sidesOf t)
theorem wt_at : ∀ {T : List E2} {W : List Int} {i : Nat} {e : E2} {x : Int}, T.Nodup → T[i]? = some e → W[i]? = some x → wtOf T W e = x
  | [], _, _, _, _, _, h, _ => by simp at h
  | _ :: _, [], _, _, _, _, _, h => by simp at h
  | t :: T, y :: W, 0, e, x, _, h, h2 => by
    cases h; cases h2
    unfold wtOf; rw [List.zip_cons_cons, List.lookup_cons, beq_self_eq_true]; rfl
  | t :: T, y :: W, i + 1, e, x, hn, h, h2 => by
    have hn2 := List.nodup_cons.mp hn
    have he : e ∈ T := mem_at (l := T) (i := i) h
    have ne : (e == t) = false := by rw [beq_eq_false_iff_ne]; exact fun z => hn2.1 (z ▸ he)
    have ih := wt_at (T := T) (W := W) (i := i) hn2.2 h h2
    unfold wtOf at ih ⊢
    rw [List.zip_cons_cons, List.lookup_cons, ne]; exact ih
theorem kE_dep {l : List E2} : ∀ k ∈ l.map kE, k.depth ≤ 8 := fun k hk => (tie_keys k hk).2
section
variable {P : Program} {w : World} {K : PySem.W.Frag} {mg : Str → Option Value} {base : Heap}
def sp_l_over (K : PySem.W.Frag) : Sp := fun vs H Q _ => ∃ x v g s M t, vs = [x, v] ∧ Tp K H x (kF g) ∧ Tp K H v (kS s) ∧ Step M g s.1 s.2.1 t s.2.2 ∧ Nw K H Q (kT t)
abbrev s_l_over : Stmt := top 44
theorem sc_l_over : FnScope ["_law_front", "_law_step", "_law_place", "_law_grown", "_law_behind_here"] ["_law_front", "_law_step"] (defScope s_l_over) := ⟨rfl, rfl, rfl, by decide +kernel, rfl, by decide +kernel, by decide +kernel⟩
theorem ok_l_over (B : Bi mg)  (D : Df K mg "_law_over" s_l_over ["_law_front", "_law_step"]) : Cal P w K mg base CX0 "_law_over" 1 ["_law_front", "_law_step"] (sp_l_over K) := by
  refine D.ok 0 sc_l_over (fun vs H Q E h => ?_) (fun f cdv A outer s H vs Q E hr h => ?_)
  · obtain ⟨x, v, g, s, M, t, rfl, _⟩ := h; rfl
  · obtain ⟨x, v, g, st, M, t, rfl, hx, hv, hst, k⟩ := h
    refine ⟨_, pss_cons (ps_asg (pv 1) (pg_tup rfl (pgs_cons (pg_name (i := 2) sc_l_over.nd rfl (Or.inl rfl)) (pgs_cons (pg_name (i := 3) sc_l_over.nd rfl (Or.inl rfl)) (pgs_cons (pg_name (i := 4) sc_l_over.nd rfl (Or.inl rfl)) pgs_nil)))))
      (pss_one (ps_ret (pe_ifExp (pt_cmpR op_eq (pv 3) pe_int (nomark _)) (pe_slice (sl_tupN : SlR _ (rSlN K)) (pv 4) (po_some (pv 2)) (po_some (pe_op op_add (pv 2) pe_int))) (pe_slice (sl_tupN : SlR _ (rSlN K)) (pv 0) (po_some (pv 2)) (po_some (pe_op op_add (pv 2) pe_int)))))), ?_⟩
    obtain ⟨va, u1, u2, u3, rfl, ts, h1, h2, h3⟩ := inv3 hv
    cases h1; cases h2
    obtain ⟨so, l1, l2⟩ := step_over hst
    refine ⟨_, rfl, _, _, rfl, ts, rfl, _, _, rfl, _, _, rfl, _, _, rfl, rfl, ?_⟩
    refine ⟨_, rfl, rfl, _, rfl, ?_⟩
    have e3 : st.1 + 3 - st.1 = 3 := by omega
    cases hg : st.2.1 with
    | true =>
      rw [hg, if_pos rfl] at so
      refine ⟨_, rfl, _, rfl, _, rfl, _, rfl, _, _, rfl, rfl, _, rfl, _, h3, ?_⟩
      rw [cut_mid (i := st.1) (j := st.1 + 3) rfl (by omega) (by rw [List.length_map]; exact l2), ← List.map_drop, ← List.map_take, e3, so]
      exact k
    | false =>
      rw [hg, if_neg (by decide)] at so
      refine ⟨_, rfl, _, rfl, _, rfl, _, rfl, _, _, rfl, rfl, _, rfl, _, hx, ?_⟩
      rw [cut_mid (i := st.1) (j := st.1 + 3) rfl (by omega) (by rw [List.length_map]; exact l1), ← List.map_drop, ← List.map_take, e3, so]
      exact k
def sp_l_sides (K : PySem.W.Frag) : Sp := fun vs H Q _ => ∃ x t, vs = [x] ∧ Tp K H x (kT t) ∧ Nl K H Q ((sidesOf t).map kE)
abbrev s_l_sides : Stmt := top 46
theorem sc_l_sides : FnScope ["_law_triangle", "_law_a", "_law_b", "_law_c"] ["_law_triangle"] (defScope s_l_sides) := ⟨rfl, rfl, rfl, by decide +kernel, rfl, by decide +kernel, by decide +kernel⟩
theorem ok_l_sides (B : Bi mg)  (D : Df K mg "_law_sides" s_l_sides ["_law_triangle"]) : Cal P w K mg base CX0 "_law_sides" 1 ["_law_triangle"] (sp_l_sides K) := by
  refine D.ok 0 sc_l_sides (fun vs H Q E h => ?_) (fun f cdv A outer s H vs Q E hr h => ?_)
  · obtain ⟨x, t, rfl, _⟩ := h; rfl
  · obtain ⟨x, t, rfl, hx, k⟩ := h
    refine ⟨_, pss_cons (ps_asg (pv 0) (pg_tup rfl (pgs_cons (pg_name (i := 1) sc_l_sides.nd rfl (Or.inl rfl)) (pgs_cons (pg_name (i := 2) sc_l_sides.nd rfl (Or.inl rfl)) (pgs_cons (pg_name (i := 3) sc_l_sides.nd rfl (Or.inl rfl)) pgs_nil)))))
      (pss_one (ps_ret (pe_lst (pa_cons (pe_tupN (pa_cons (pv 1) (pa_cons (pv 2) pa_nil)) : PE _ _ (tTupN K _)) (pa_cons (pe_tupN (pa_cons (pv 1) (pa_cons (pv 3) pa_nil)) : PE _ _ (tTupN K _)) (pa_cons (pe_tupN (pa_cons (pv 2) (pa_cons (pv 3) pa_nil)) : PE _ _ (tTupN K _)) pa_nil)))))), ?_⟩
    obtain ⟨ta, u1, u2, u3, rfl, ts, h1, h2, h3⟩ := tri_inv hx
    refine ⟨_, rfl, _, _, rfl, ts, rfl, _, _, rfl, _, _, rfl, _, _, rfl, rfl, ?_⟩
    refine ⟨_, rfl, _, rfl, by show 2 ≤ 1000; decide, _, tps2 h1 h2, fun v1 H1 s1 hv1 => ?_⟩
    refine ⟨_, rfl, _, rfl, by show 2 ≤ 1000; decide, _, tps2 (h1.same s1) (h3.same s1), fun v2 H2 s2 hv2 => ?_⟩
    have s12 := Same.tr s1 s2
    refine ⟨_, rfl, _, rfl, by show 2 ≤ 1000; decide, _, tps2 (h2.same s12) (h3.same s12), fun v3 H3 s3 hv3 => ?_⟩
    have s13 := Same.tr s12 s3
    refine ⟨by show 3 ≤ sizeLine; decide, fun l hl => ?_⟩
    exact k _ l _ (Same.own s13 (s13.free hl)) (s13.free hl) upd_same (tps3 ((hv1.same (Same.tr s2 s3)).up (Tx.new hl)) ((hv2.same s3).up (Tx.new hl)) (hv3.up (Tx.new hl)))
def sp_l_cross (K : PySem.W.Frag) : Sp := fun vs H Q _ => ∃ x y o e, vs = [x, y] ∧ Tp K H x (kE o) ∧ Tp K H y (kE e) ∧ EBd o ∧ EBd e ∧ Q (.bl (crossB o e)) H
abbrev s_l_cross : Stmt := top 47
theorem sc_l_cross : FnScope ["_law_one", "_law_other", "_law_a", "_law_b", "_law_c", "_law_d"] ["_law_one", "_law_other"] (defScope s_l_cross) := ⟨rfl, rfl, rfl, by decide +kernel, rfl, by decide +kernel, by decide +kernel⟩
theorem ok_l_cross (B : Bi mg) (C_l_turn : Cal P w K mg base CX0 "_law_turn" 1 ["_law_a", "_law_b", "_law_c"] (sp_l_turn K)) (D : Df K mg "_law_cross" s_l_cross ["_law_one", "_law_other"]) : Cal P w K mg base CX0 "_law_cross" 2 ["_law_one", "_law_other"] (sp_l_cross K) := by
  refine D.ok 1 sc_l_cross (fun vs H Q E h => ?_) (fun f cdv A outer s H vs Q E hr h => ?_)
  · obtain ⟨x, y, o, e, rfl, _⟩ := h; rfl
  · obtain ⟨x, y, o, e, rfl, hx, hy, bo, be, k⟩ := h
    refine ⟨_, pss_cons (ps_asg (pv 0) (pg_tup rfl (pgs_cons (pg_name (i := 2) sc_l_cross.nd rfl (Or.inl rfl)) (pgs_cons (pg_name (i := 3) sc_l_cross.nd rfl (Or.inl rfl)) pgs_nil))))
      (pss_cons (ps_asg (pv 1) (pg_tup rfl (pgs_cons (pg_name (i := 4) sc_l_cross.nd rfl (Or.inl rfl)) (pgs_cons (pg_name (i := 5) sc_l_cross.nd rfl (Or.inl rfl)) pgs_nil))))
      (pss_cons (ps_if (pt_cmpR op_ge (pe_op op_mul (pe_go C_l_turn (hr.mono (by decide)) (pa_cons (pv 2) (pa_cons (pv 3) (pa_cons (pv 4) pa_nil)))) (pe_go C_l_turn (hr.mono (by decide)) (pa_cons (pv 2) (pa_cons (pv 3) (pa_cons (pv 5) pa_nil))))) pe_int (nomark _))
      (pss_one (ps_ret pe_bl))
      pss_nil)
      (pss_one (ps_ret (pe_cmpR op_lt (pe_op op_mul (pe_go C_l_turn (hr.mono (by decide)) (pa_cons (pv 4) (pa_cons (pv 5) (pa_cons (pv 2) pa_nil)))) (pe_go C_l_turn (hr.mono (by decide)) (pa_cons (pv 4) (pa_cons (pv 5) (pa_cons (pv 3) pa_nil))))) pe_int (nomark _)))))), ?_⟩
    obtain ⟨xa, a, b, rfl, xs, ha, hb⟩ := inv2 hx
    obtain ⟨ya, c, d, rfl, ys, hc, hd⟩ := inv2 hy
    have t1 := turn_bd bo.1 bo.2 be.1
    have t2 := turn_bd be.1 be.2 bo.1
    refine ⟨_, rfl, _, _, rfl, xs, rfl, _, _, rfl, _, _, rfl, rfl, ?_⟩
    refine ⟨_, rfl, _, _, rfl, ys, rfl, _, _, rfl, _, _, rfl, rfl, ?_⟩
    refine ⟨_, rfl, _, rfl, _, rfl, _, _, _, o.1, o.2, e.1, rfl, ha, hb, hc, bo.1, bo.2, be.1, ?_⟩
    refine ⟨_, rfl, _, rfl, _, rfl, _, _, _, o.1, o.2, e.2, rfl, ha, hb, hd, bo.1, bo.2, be.2, ?_⟩
    refine ⟨_, _, rfl, rfl, .inl ⟨by omega, by omega⟩, _, _, rfl, rfl, _, rfl, ?_⟩
    refine ifB (fun q => ?_) (fun q => ?_)
    · have e1 : crossB o e = false := by unfold crossB; rw [if_pos (of_decide_eq_true q)]
      rw [e1] at k; exact k
    · refine ⟨_, rfl, _, rfl, _, rfl, _, _, _, e.1, e.2, o.1, rfl, hc, hd, ha, be.1, be.2, bo.1, ?_⟩
      refine ⟨_, rfl, _, rfl, _, rfl, _, _, _, e.1, e.2, o.2, rfl, hc, hd, hb, be.1, be.2, bo.2, ?_⟩
      refine ⟨_, _, rfl, rfl, .inl ⟨by omega, by omega⟩, _, _, rfl, rfl, ?_⟩
      have e1 : crossB o e = decide (turn e.1 e.2 o.1 * turn e.1 e.2 o.2 < 0) := by unfold crossB; rw [if_neg (of_decide_eq_false q)]
      rw [e1] at k; exact k
def sp_l_along (K : PySem.W.Frag) : Sp := fun vs H Q _ => ∃ x y M e, vs = [x, y] ∧ Tp K H x (kM M) ∧ Tp K H y (kE e) ∧ (∀ t ∈ M, TBd t) ∧ M.length ≤ 1000 ∧ EBd e ∧ Nw K H Q (kM (M.filter (alongB e)))
abbrev s_l_along : Stmt := top 48
theorem sc_l_along : FnScope ["_law_menu_here", "_law_tie", "_law_one", "_law_own"] ["_law_menu_here", "_law_tie"] (defScope s_l_along) := ⟨rfl, rfl, rfl, by decide +kernel, rfl, by decide +kernel, by decide +kernel⟩
theorem ok_l_along (B : Bi mg) (C_l_cross : Cal P w K mg base CX0 "_law_cross" 2 ["_law_one", "_law_other"] (sp_l_cross K)) (C_l_sides : Cal P w K mg base CX0 "_law_sides" 1 ["_law_triangle"] (sp_l_sides K)) (D : Df K mg "_law_along" s_l_along ["_law_menu_here", "_law_tie"]) : Cal P w K mg base CX0 "_law_along" 3 ["_law_menu_here", "_law_tie"] (sp_l_along K) := by
  refine D.ok 2 sc_l_along (fun vs H Q E h => ?_) (fun f cdv A outer s H vs Q E hr h => ?_)
  · obtain ⟨x, y, M, e, rfl, _⟩ := h; rfl
  · obtain ⟨x, y, M, e, rfl, hx, hy, bM, hM, be, k⟩ := h
    refine ⟨_, pss_one (ps_ret (pe_tupleC B (pa_cons (pe_lc (own := [("_law_one", 2)]) (g := gName 2) rfl sc_l_along.nd (pi_tup (pv 0) : PI _ _ _ (iTup K _)) (blkOk_by (N := ["_law_menu_here", "_law_tie", "_law_one", "_law_own"]) (sc := defScope s_l_along) (by decide +kernel)) (fun _ _ _ _ _ => pg_name (i := 2) sc_l_along.nd rfl (Or.inl rfl)) (fun _ _ _ _ _ => pts_one (pt_cmpR (op_eqL (u64 hr) : OpR _ _ (rEqL K false)) (pe_lc (own := [("_law_own", 3)]) (g := gName 3) rfl sc_l_along.nd (pi_list (pe_go C_l_sides (hr.mono (by decide)) (pa_cons (pv 2) pa_nil)) : PI _ _ _ (iList K _)) (blkOk_by (N := ["_law_menu_here", "_law_tie", "_law_one", "_law_own"]) (sc := scAlong1) (scope := scAlong2) (own := [(("_law_own" : Str), 3)]) (by decide +kernel)) (fun _ _ _ _ _ => pg_name (i := 3) sc_l_along.nd rfl (Or.inl rfl)) (fun _ _ _ _ _ => pts_one (pt_val (pe_go C_l_cross (hr.mono (by decide)) (pa_cons (pv 3) (pa_cons (pv 1) pa_nil))))) (fun _ _ _ _ _ => pv 3)) (pe_lst pa_nil) (nomark _))) (fun _ _ _ _ _ => pv 2)) pa_nil) : PE _ _ (tCB (rTupN K) _))), ?_⟩
    obtain ⟨ma, ms, rfl, mp, mks⟩ := hx.invP
    refine ⟨_, rfl, ma, rfl, ⟨ms, mp.sq⟩, fun D hD => ?_⟩
    refine lc_pure (K := K) (walk_tp mp mks) hD (fun i => ((M.take i).filter (alongB e)).map kT) rfl (fun i hi => ?_) (fun H' s => Tx.same s) YTp.same ?_ ?_
    · have h2 : i < (M.map kT).length := hi
      have h3 := List.length_filter_le (alongB e) (M.take i)
      rw [List.length_take] at h3
      rw [List.length_map] at h2
      show (((M.take i).filter (alongB e)).map kT).length ≤ 100000
      rw [List.length_map]; omega
    · rintro i z H1 H2 hi s ⟨rfl, q, hq, hz⟩ T F' hT hF
      obtain ⟨t, ht, rfl⟩ := get_map hq
      have bt := bM t (mem_at ht)
      refine ⟨rfl, ?_⟩
      refine ⟨_, rfl, z, t, rfl, hz, fun H3 p ws s3 hp h3 hw => ?_⟩
      refine ⟨p, rfl, ⟨ws, ofL h3⟩, fun D2 hD2 => ?_⟩
      refine lc_pure (K := K) (walk_ls (a := p) hw) hD2 (fun j => (((sidesOf t).take j).filter fun o => crossB o e).map kE) rfl (fun j hj => ?_) (fun H' s => ⟨seqL (ofL h3) s, Tx.same s⟩) YTp.same ?_ ?_
      · have h4 := List.length_filter_le (fun o => crossB o e) ((sidesOf t).take j)
        rw [List.length_take] at h4
        show ((((sidesOf t).take j).filter fun o => crossB o e).map kE).length ≤ 100000
        have : (sidesOf t).length = 3 := rfl
        rw [List.length_map]; omega
      · rintro j y2 H4 H5 hj s4 ⟨rfl, q2, hq2, hy2⟩ T2 F2 hT2 hF2
        obtain ⟨o, ho, rfl⟩ := get_map hq2
        refine ⟨rfl, ?_⟩
        refine ⟨_, rfl, _, rfl, y2, y, o, e, rfl, hy2, ((hy.same s).same s3).same s4, sides_bd bt (mem_at ho), be, _, rfl, ?_⟩
        refine ifB (fun c => ?_) (fun c => ?_)
        · refine ⟨_, rfl, hT2 _ _ (kE o) Same.rfl' hy2 ?_⟩
          show (((sidesOf t).take (j + 1)).filter fun o => crossB o e).map kE = _
          rw [take_next ho, List.filter_append, List.map_append, List.filter_cons, if_pos c]; rfl
        · refine hF2 _ Same.rfl' ?_
          show (((sidesOf t).take (j + 1)).filter fun o => crossB o e).map kE = _
          rw [take_next ho, List.filter_append, List.map_append, List.filter_cons, if_neg (by rw [c]; decide)]
          exact List.append_nil _
      · intro H4 zs s4 hz4 hzs
        rw [List.length_map, List.take_length] at hzs
        refine ⟨Nat.zero_le _, fun n hn => ?_⟩
        have s5 := Same.upd (o := .lst []) hn
        refine ⟨D2, n, zs, [], _, [], rfl, rfl, ofL (s5 _ _ hz4), ofL upd_same, hzs.same s5, .nil, kE_dep, by simp, _, rfl, ?_⟩
        have en : decide ((((sidesOf t).filter fun o => crossB o e).map kE) = []) = alongB e t := by
          unfold alongB; rw [Bool.eq_iff_iff, decide_eq_true_iff, decide_eq_true_iff, List.map_eq_nil_iff]
        show if decide ((((sidesOf t).filter fun o => crossB o e).map kE) = []) = true then _ else _
        rw [en]
        have sB := Same.tr s3 (Same.tr s4 s5)
        refine ifB (fun c => ?_) (fun c => ?_)
        · refine ⟨_, rfl, hT _ _ (kT t) sB (hz.same sB) ?_⟩
          show ((M.take (i + 1)).filter (alongB e)).map kT = _
          rw [take_next ht, List.filter_append, List.map_append, List.filter_cons, if_pos c]; rfl
        · refine hF _ sB ?_
          show ((M.take (i + 1)).filter (alongB e)).map kT = _
          rw [take_next ht, List.filter_append, List.map_append, List.filter_cons, if_neg (by rw [c]; decide)]
          exact List.append_nil _
    · intro H2 zs s2 hz hzs
      rw [List.length_map, List.take_length] at hzs
      exact ⟨D, zs, _, rfl, ofL hz, hzs, fun v H3 s3 hv => k v H3 (Same.tr s2 s3) hv⟩
def sp_l_fresh (P : Program) (w : World) (K : PySem.W.Frag) : Sp := fun vs H Q _ => ∃ (d : Addr) (v : V) (T : List E2) (wt : E2 → Int) (g : List Pt) (s : S3) (M : List T3) (t : T3), vs = [.ref d, v] ∧ Heavy P w K H d T wt ∧ Tp K H v (kS s) ∧ Step M g s.1 s.2.1 t s.2.2 ∧ (∀ e ∈ newt t, e ∈ T) ∧ s.2.2.length ≤ 1000 ∧
  ∀ H', Same H H' → Q (.int (freshW wt t)) H'
abbrev s_l_fresh : Stmt := top 52
theorem sc_l_fresh : FnScope ["_law_heavy", "_law_step", "_law_place", "_law_grown", "_law_behind_here", "_law_k"] ["_law_heavy", "_law_step"] (defScope s_l_fresh) := ⟨rfl, rfl, rfl, by decide +kernel, rfl, by decide +kernel, by decide +kernel⟩
theorem ok_l_fresh (B : Bi mg)  (D : Df K mg "_law_fresh" s_l_fresh ["_law_heavy", "_law_step"]) : Cal P w K mg base CX0 "_law_fresh" 1 ["_law_heavy", "_law_step"] (sp_l_fresh P w K) := by
  refine D.ok 0 sc_l_fresh (fun vs H Q E h => ?_) (fun f cdv A outer s H vs Q E hr h => ?_)
  · obtain ⟨d, v, T, wt, g, s, M, t, rfl, _⟩ := h; rfl
  · obtain ⟨d, v, T, wt, g, st, M, t, rfl, hd, hv, hst, hnT, hlen, k⟩ := h
    refine ⟨_, pss_cons (ps_asg (pv 1) (pg_tup rfl (pgs_cons (pg_name (i := 2) sc_l_fresh.nd rfl (Or.inl rfl)) (pgs_cons (pg_name (i := 3) sc_l_fresh.nd rfl (Or.inl rfl)) (pgs_cons (pg_name (i := 4) sc_l_fresh.nd rfl (Or.inr rfl)) pgs_nil)))))
      (pss_one (ps_ret (pe_sum B (pa_cons (pe_lc (own := [("_law_k", 5)]) (g := gName 5) (tt := tYes) rfl sc_l_fresh.nd (pi_range2 (by rfl) B.range (pa_cons (pv 2) (pa_cons (pe_op op_add (pe_op op_add (pv 2) pe_int) (pv 3)) pa_nil))) (blkOk_by (N := ["_law_heavy", "_law_step", "_law_place", "_law_grown", "_law_behind_here", "_law_k"]) (sc := defScope s_l_fresh) (by decide +kernel)) (fun _ _ _ _ _ => pg_name (i := 5) sc_l_fresh.nd rfl (Or.inl rfl)) (fun _ _ _ _ _ => pts_nil) (fun _ _ _ _ _ => (pe_nget (u65 hr) (pv 0) (pe_slice (sl_tupN : SlR _ (rSlN K)) (pv 4) (po_some (pv 5)) (po_some (pe_op op_add (pv 5) pe_int))) (fun _ _ => rfl) : PE _ _ (tNGet P w K _ _)))) pa_nil) : PE _ _ (tCB (rSum K) _)))), ?_⟩
    obtain ⟨va, u1, u2, u3, rfl, ts, h1, h2, h3⟩ := inv3 hv
    cases h1; cases h2
    obtain ⟨kvs, nd, hval⟩ := hd
    obtain ⟨nl, ng⟩ := step_new hst
    have hk := (step_over hst).2.2
    refine ⟨_, rfl, _, _, rfl, ts, rfl, _, _, rfl, _, _, rfl, _, _, rfl, rfl, ?_⟩
    have hg1 : (0 : Int) ≤ (if st.2.1 = true then 1 else 0) ∧ (if st.2.1 = true then (1 : Int) else 0) ≤ 1 := by split <;> decide
    refine ⟨_, rfl, _, rfl, _, _, rfl, rfl, _, rfl, _, _, rfl, rfl, _, _, rfl, ⟨by omega, by omega, by omega, by omega⟩, fun D hD => ?_⟩
    have hn : (((st.1 : Nat) : Int) + 1 + (if st.2.1 = true then 1 else 0) - ((st.1 : Nat) : Int)).toNat = (newt t).length := by
      rw [nl]; split <;> omega
    rw [hn]
    refine lc_vals walk_range hD (fun i => ((newt t).take i).map fun e => V.int (wt e)) rfl (fun i hi => ?_) (fun _ _ => trivial) YFn.same ?_ ?_
    · have : (newt t).length ≤ 2 := by rw [nl]; split <;> omega
      show (((newt t).take i).map fun e => V.int (wt e)).length ≤ 100000
      rw [List.length_map, List.length_take]; omega
    · rintro i y H1 H2 hi s1 ⟨rfl, rfl⟩ T' F' hT _
      obtain ⟨e, he⟩ := at_lt hi
      obtain ⟨e2, e3⟩ := ng i e he
      refine ⟨rfl, ?_⟩
      refine ⟨_, rfl, _, rfl, _, rfl, _, rfl, _, rfl, _, _, rfl, rfl, _, rfl, _, h3.same s1, ?_⟩
      rw [cut_mid (i := st.1 + i) (j := st.1 + i + 2) (by omega) (by omega) (by rw [List.length_map]; exact e3), ← List.map_drop, ← List.map_take, show st.1 + i + 2 - (st.1 + i) = 2 by omega, e2]
      intro v1 H3 s3 hv1
      refine ⟨d, kvs, _, _, rfl, (nd.same s1).same s3, hv1, Nat.le_trans (kE_d e) (by decide), hval e (hnT e (mem_at he)), ?_⟩
      refine hT _ _ s3 ?_
      show ((newt t).take (i + 1)).map (fun e => V.int (wt e)) = _
      rw [take_next he, List.map_append]; rfl
    · intro H1 s1 hD1
      rw [List.take_length] at hD1
      refine ⟨D, (newt t).map wt, rfl, ofL ?_, ?_⟩
      · rw [hD1, List.map_map]; rfl
      · exact k H1 s1
def sp_l_chain (P : Program) (w : World) (K : PySem.W.Frag) : Sp := fun vs H Q _ => ∃ (d : Addr) (v : V) (T : List E2) (wt : E2 → Int) (g : List Pt), vs = [.ref d, v] ∧ Heavy P w K H d T wt ∧ Tp K H v (kF g) ∧ (∀ e ∈ prs g, e ∈ T) ∧ g.length ≤ 1000 ∧ ∀ H', Same H H' → Q (.int (tot wt (prs g))) H'
abbrev s_l_chain : Stmt := top 53
theorem sc_l_chain : FnScope ["_law_heavy", "_law_front", "_law_k"] ["_law_heavy", "_law_front"] (defScope s_l_chain) := ⟨rfl, rfl, rfl, by decide +kernel, rfl, by decide +kernel, by decide +kernel⟩
theorem ok_l_chain (B : Bi mg)  (D : Df K mg "_law_chain" s_l_chain ["_law_heavy", "_law_front"]) : Cal P w K mg base CX0 "_law_chain" 1 ["_law_heavy", "_law_front"] (sp_l_chain P w K) := by
  refine D.ok 0 sc_l_chain (fun vs H Q E h => ?_) (fun f cdv A outer s H vs Q E hr h => ?_)
  · obtain ⟨d, v, T, wt, g, rfl, _⟩ := h; rfl
  · obtain ⟨d, v, T, wt, g, rfl, hd, hv, hnT, hlen, k⟩ := h
    refine ⟨_, pss_one (ps_ret (pe_sum B (pa_cons (pe_lc (own := [("_law_k", 2)]) (g := gName 2) (tt := tYes) rfl sc_l_chain.nd (pi_range2 (by rfl) B.range (pa_cons pe_int (pa_cons (pe_lenT B (pa_cons (pv 1) pa_nil) : PE _ _ (tCB (rLenT K) _)) pa_nil))) (blkOk_by (N := ["_law_heavy", "_law_front", "_law_k"]) (sc := defScope s_l_chain) (by decide +kernel)) (fun _ _ _ _ _ => pg_name (i := 2) sc_l_chain.nd rfl (Or.inl rfl)) (fun _ _ _ _ _ => pts_nil) (fun _ _ _ _ _ => (pe_nget (u65 hr) (pv 0) (pe_slice (sl_tupN : SlR _ (rSlN K)) (pv 1) (po_some (pe_op op_sub (pv 2) pe_int)) (po_some (pe_op op_add (pv 2) pe_int))) (fun _ _ => rfl) : PE _ _ (tNGet P w K _ _)))) pa_nil) : PE _ _ (tCB (rSum K) _))), ?_⟩
    obtain ⟨kvs, nd, hval⟩ := hd
    have pl := prs_len g
    refine ⟨_, rfl, _, _, rfl, hv, 1, _, rfl, ?_⟩
    rw [List.length_map]
    refine ⟨by omega, fun D hD => ?_⟩
    have hn : (((g.length : Nat) : Int) - 1).toNat = (prs g).length := by omega
    rw [hn]
    refine lc_vals walk_range hD (fun i => ((prs g).take i).map fun e => V.int (wt e)) rfl (fun i hi => ?_) (fun _ _ => trivial) YFn.same ?_ ?_
    · show (((prs g).take i).map fun e => V.int (wt e)).length ≤ 100000
      rw [List.length_map, List.length_take]; omega
    · rintro i y H1 H2 hi s1 ⟨rfl, rfl⟩ T' F' hT _
      obtain ⟨a, ha⟩ := at_lt (l := g) (i := i) (by omega)
      obtain ⟨b, hb⟩ := at_lt (l := g) (i := i + 1) (by omega)
      have he := prs_get ha hb
      refine ⟨rfl, ?_⟩
      refine ⟨_, rfl, _, rfl, _, rfl, _, _, rfl, rfl, _, rfl, _, rfl, _, _, rfl, rfl, _, rfl, _, hv.same s1, ?_⟩
      have e2 : (g.drop i).take 2 = [a, b] := by rw [drop_at ha, drop_at hb]; rfl
      rw [cut_mid (i := i) (j := i + 2) (by omega) (by omega) (by rw [List.length_map]; omega), ← List.map_drop, ← List.map_take, show i + 2 - i = 2 by omega, e2]
      intro v1 H3 s3 hv1
      refine ⟨d, kvs, _, _, rfl, (nd.same s1).same s3, hv1, Nat.le_trans (kE_d (a, b)) (by decide), hval _ (hnT _ (mem_at he)), ?_⟩
      refine hT _ _ s3 ?_
      show ((prs g).take (i + 1)).map (fun e => V.int (wt e)) = _
      rw [take_next he, List.map_append]; rfl
    · intro H1 s1 hD1
      rw [List.take_length] at hD1
      refine ⟨D, (prs g).map wt, rfl, ofL ?_, ?_⟩
      · rw [hD1, List.map_map]; rfl
      · exact k H1 s1
def OwnI (kvs : List (NestedKey × V)) (es : List E2) : Prop := ∀ key, (valV kvs key).isSome = true ↔ ∃ e ∈ es, key = kE e
theorem OwnI.put {kvs : List (NestedKey × V)} {es : List E2} {e : E2} {v : V} (h : OwnI kvs es) : OwnI (putK kvs (kE e) v) (es ++ [e]) := fun key => by
  rw [valV_put]
  by_cases q : key = kE e
  · rw [if_pos q]; exact ⟨fun _ => ⟨e, by simp, q⟩, fun _ => rfl⟩
  · rw [if_neg q, h key]
    constructor
    · rintro ⟨e', h1, h2⟩; exact ⟨e', List.mem_append_left _ h1, h2⟩
    · rintro ⟨e', h1, h2⟩
      rcases List.mem_append.mp h1 with h1 | h1
      · exact ⟨e', h1, h2⟩
      · rw [List.mem_singleton] at h1; subst h1; exact absurd h2 q
def sp_l_weight (K : PySem.W.Frag) : Sp := fun vs H Q _ => ∃ (l : Addr) (y z : V) (us : List V) (T : List E2) (W : List Int) (ts : List T3), vs = [.ref l, y, z] ∧ H l = some (.lst us) ∧ TpAll K H us (T.map kE) ∧ Tp K H y (kW W) ∧ Tp K H z (kM ts) ∧ T.Nodup ∧ T.length = W.length ∧ T.length ≤ 1000 ∧ ts.length ≤ 1000 ∧
  ∀ H', Same H H' → Q (.int (tot (wtOf T W) (T.filter (ownB ts)))) H'
abbrev s_l_weight : Stmt := top 51
theorem sc_l_weight : FnScope ["_law_pairs", "_law_weights_here", "_law_lay", "_law_own", "_law_triangle", "_law_tie", "_law_k"] ["_law_pairs", "_law_weights_here", "_law_lay"] (defScope s_l_weight) := ⟨rfl, rfl, rfl, by decide +kernel, rfl, by decide +kernel, by decide +kernel⟩
theorem ok_l_weight (B : Bi mg) (C_l_sides : Cal P w K mg base CX0 "_law_sides" 1 ["_law_triangle"] (sp_l_sides K)) (D : Df K mg "_law_weight" s_l_weight ["_law_pairs", "_law_weights_here", "_law_lay"]) : Cal P w K mg base CX0 "_law_weight" 2 ["_law_pairs", "_law_weights_here", "_law_lay"] (sp_l_weight K) := by
  refine D.ok 1 sc_l_weight (fun vs H Q E h => ?_) (fun f cdv A outer s H vs Q E hr h => ?_)
  · obtain ⟨l, y, z, us, T, W, ts, rfl, _⟩ := h; rfl
  · obtain ⟨l, y, z, us, T, W, ts, rfl, hl, hus, hy, hz, nT, lTW, lT, lts, k⟩ := h
    refine ⟨_, pss_cons (ps_set (i := 3) sc_l_weight.nd rfl (Or.inr rfl) pe_nnew)
      (pss_cons (ps_for PassesOwn.never rfl (pi_tup (pv 2) : PI _ _ _ (iTup K _)) (pg_name (i := 4) sc_l_weight.nd rfl (Or.inl rfl))
      (pss_one (ps_for PassesOwn.never rfl (pi_list (pe_go C_l_sides (hr.mono (by decide)) (pa_cons (pv 4) pa_nil)) : PI _ _ _ (iList K _)) (pg_name (i := 5) sc_l_weight.nd rfl (Or.inl rfl))
      (pss_one (ps_nput (u65 hr) (pv 3) (pv 5) pe_bl rfl)))))
      (pss_one (ps_ret (pe_sum B (pa_cons (pe_lc (own := [("_law_k", 6)]) (g := gName 6) rfl sc_l_weight.nd (pi_range1 (by rfl) B.range (pa_cons (pe_lenL B (pa_cons (pv 0) pa_nil) : PE _ _ (tCB (rLenL K) _)) pa_nil)) (blkOk_by (N := ["_law_pairs", "_law_weights_here", "_law_lay", "_law_own", "_law_triangle", "_law_tie", "_law_k"]) (sc := defScope s_l_weight) (by decide +kernel)) (fun _ _ _ _ _ => pg_name (i := 6) sc_l_weight.nd rfl (Or.inl rfl)) (fun _ _ _ _ _ => pts_one (pt_cmpR (op_nin (u65 hr) : OpR _ _ (rNIn P w K false)) (pe_ix (ix_listN : IxR _ (rIxLN K)) (pv 0) (pv 6) (fun _ _ => rfl)) (pv 3) rfl)) (fun _ _ _ _ _ => pe_ix (ix_tupN : IxR _ (rIxN K)) (pv 1) (pv 6) (fun _ _ => rfl))) pa_nil) : PE _ _ (tCB (rSum K) _))))), ?_⟩
    intro d hd hds
    have nd0 : ND P w K (upd H d (EK P w d [])) d [] := ND.new hds
    have s0 : Same H (upd H d (EK P w d [])) := Same.upd hd
    obtain ⟨za, zs, rfl, zp, zks⟩ := (hz.same s0).invP
    refine ⟨_, rfl, za, rfl, ⟨zs, zp.sq⟩, ?_⟩
    refine for_it (walk_tp zp zks) (fun i σ H1 => ∃ y4 y5 y6 kvs, σ = [some (.ref l), some y, some (.ref za), some (.ref d), y4, y5, y6] ∧ Same H H1 ∧ Tx (upd H d (EK P w d [])) H1 ∧ ND P w K H1 d kvs ∧ kvs.length ≤ 3 * i ∧ OwnI kvs ((ts.take i).flatMap sidesOf)) ⟨none, none, none, [], rfl, s0, Tx.refl _, nd0, Nat.zero_le _, fun key => by simp [valV]⟩ (fun i σ H1 _ ⟨_, _, _, _, _, _, t, _⟩ => t) ?_ ?_
    · rintro i y' σ H1 H1' hi ⟨y4, y5, y6, kvs, rfl, s1, t1, nd1, lk, ow⟩ ⟨rfl, q, hq, hy'⟩
      obtain ⟨t, ht, rfl⟩ := get_map hq
      have hi2 := lt_at ht
      refine ⟨_, rfl, y', t, rfl, hy', fun H2 p ws s2 hp h2 hw => ?_⟩
      refine ⟨p, rfl, ⟨ws, ofL h2⟩, ?_⟩
      have hd2 : ∃ φ, H2 d = some (.ext φ) := (nd1.same s2).there
      obtain ⟨φ, hφ⟩ := hd2
      have hpd : p ≠ d := ne_of h2 hφ (by intro z; cases z)
      refine for_it (walk_ls (a := p) hw) (fun j σ H3 => ∃ y5 y6 kvs, σ = [some (.ref l), some y, some (.ref za), some (.ref d), some y', y5, y6] ∧ Same H H3 ∧ Tx H2 H3 ∧ H3 p = some (.lst ws) ∧ ND P w K H3 d kvs ∧ kvs.length ≤ 3 * i + j ∧ OwnI kvs ((ts.take i).flatMap sidesOf ++ (sidesOf t).take j)) ⟨y5, y6, kvs, rfl, Same.tr s1 s2, Tx.refl _, h2, nd1.same s2, by omega, by rw [List.take_zero, List.append_nil]; exact ow⟩ (fun j σ H3 _ ⟨_, _, _, _, _, t, h3, _⟩ => ⟨ofL h3, t⟩) ?_ ?_
      · rintro j x σ H3 H3' hj ⟨y5, y6, kv3, rfl, s3, t3, h3, nd3, lk3, ow3⟩ ⟨rfl, q2, hq2, hx⟩
        obtain ⟨e, he, rfl⟩ := get_map hq2
        have hj2 : j < 3 := lt_at he
        refine ⟨_, rfl, _, rfl, d, kv3, _, rfl, nd3, hx, Nat.le_trans (kE_d e) (by decide), small (by omega), fun H4 nd4 ⟨o4, e4⟩ => ?_⟩
        obtain ⟨φ4, hφ4⟩ := nd3.there
        have len4 := put_len kv3 (kE e) (.bl true)
        refine ⟨_, _, _, rfl, by rw [e4]; exact Same.own s3 hd, by rw [e4]; exact t3.trans (Tx.ext hφ4), by rw [e4, upd_ne hpd]; exact h3, nd4, by show (putK kv3 (kE e) (.bl true)).length ≤ _; omega, ?_⟩
        rw [take_next he, ← List.append_assoc]
        exact ow3.put
      · rintro σ H3 ⟨y5, y6, kv3, rfl, s3, t3, h3, nd3, lk3, ow3⟩
        have lS : ((sidesOf t).map kE).length = 3 := rfl
        rw [lS] at lk3 ow3
        refine ⟨_, _, _, kv3, rfl, s3, (t1.trans (Tx.same s2)).trans t3, nd3, by omega, ?_⟩
        rw [take_next ht, List.flatMap_append]
        have e5 : (sidesOf t).take 3 = [t].flatMap sidesOf := by simp [sidesOf]
        rw [← e5]; exact ow3
    · rintro σ H1 ⟨y4, y5, y6, kvs, rfl, s1, t1, nd1, lk, ow⟩
      rw [List.length_map, List.take_length] at ow
      have hl1 := s1 _ _ hl
      have hus1 := hus.same s1
      have hy1 := hy.same s1
      have lu := hus.length
      rw [List.length_map] at lu
      refine ⟨_, rfl, l, us, rfl, ofL hl1, _, rfl, by omega, by omega, fun D hD => ?_⟩
      have hn : (((us.length : Nat) : Int)).toNat = T.length := by omega
      rw [hn]
      refine lc_vals walk_range hD (fun i => ((T.take i).filter (ownB ts)).map fun e => V.int (wtOf T W e)) rfl (fun i hi => ?_) (fun _ _ => trivial) YFn.same ?_ ?_
      · have h3 := List.length_filter_le (ownB ts) (T.take i)
        rw [List.length_take] at h3
        show (((T.take i).filter (ownB ts)).map fun e => V.int (wtOf T W e)).length ≤ 100000
        rw [List.length_map]; omega
      · rintro i x H2 H2' hi s2 ⟨rfl, rfl⟩ T' F' hT hF
        obtain ⟨e, he⟩ := at_lt hi
        obtain ⟨n, hn2⟩ := at_lt (l := W) (i := i) (by omega)
        refine ⟨rfl, ?_⟩
        refine ⟨_, rfl, _, rfl, l, us, _, _, _, rfl, ofL (s2 _ _ hl1), hus1.same s2, rfl, atI_of (j := i) (by omega) (map_at he), fun ve hve => ?_⟩
        refine ⟨_, rfl, d, kvs, _, rfl, nd1.same s2, hve, Nat.le_trans (kE_d e) (by decide), _, rfl, ?_⟩
        have eo : (valV kvs (kE e)).isSome = ownB ts e := by
          rw [Bool.eq_iff_iff, ow (kE e)]
          unfold ownB
          rw [List.any_eq_true]
          constructor
          · rintro ⟨e', h1, h2⟩
            obtain ⟨t, h3, h4⟩ := List.mem_flatMap.mp h1
            exact ⟨t, h3, decide_eq_true (kE_inj h2 ▸ h4)⟩
          · rintro ⟨t, h3, h4⟩
            exact ⟨e, List.mem_flatMap.mpr ⟨t, h3, of_decide_eq_true h4⟩, rfl⟩
        show if (valV kvs (kE e)).isSome = true then _ else _
        rw [eo]
        refine ifB (fun c => ?_) (fun c => ?_)
        · refine ⟨_, rfl, _, rfl, _, _, _, hy1.same s2, rfl, atI_of (j := i) (by omega) (map_at hn2), fun vn hvn => ?_⟩
          cases hvn
          refine hT _ _ Same.rfl' ?_
          show ((T.take (i + 1)).filter (ownB ts)).map (fun e => V.int (wtOf T W e)) = _
          rw [take_next he, List.filter_append, List.map_append, List.filter_cons, if_pos c]
          show _ = _ ++ [V.int n]
          rw [← wt_at nT he hn2]; rfl
        · refine hF _ Same.rfl' ?_
          show ((T.take (i + 1)).filter (ownB ts)).map (fun e => V.int (wtOf T W e)) = _
          rw [take_next he, List.filter_append, List.map_append, List.filter_cons, if_neg (by rw [c]; decide)]
          exact List.append_nil _
      · intro H2 s2 hD2
        rw [List.take_length] at hD2
        refine ⟨D, (T.filter (ownB ts)).map (wtOf T W), rfl, ofL ?_, ?_⟩
        · rw [hD2, List.map_map]; rfl
        · exact k H2 (Same.tr s1 s2)
end
end Tl

end
-- D14
section
set_option maxHeartbeats 200000
namespace Tl
open PySem PySem.Spec PyProof.Rows L2
def MBd (p : Pt) : Prop := -1100 ≤ p.1 ∧ p.1 ≤ 1100 ∧ -1100 ≤ p.2 ∧ p.2 ≤ 1100
theorem MBd.bd {p : Pt} (h : MBd p) : Bd p := by unfold MBd at h; unfold Bd; omega
section
variable {P : Program} {w : World} {K : PySem.W.Frag} {mg : Str → Option Value} {base : Heap}
def sp_l_moved (K : PySem.W.Frag) : Sp := fun vs H Q _ => ∃ (f a : Addr) (m : Nat) (row : Addr) (ws : List V) (S : List Pt), vs = [.ref f, .ref a] ∧ FeedAt H f row m ∧ m ≤ 50000 ∧ H a = some (.lst ws) ∧ TpAll K H ws (S.map kPt) ∧ (∀ p ∈ S, SBd p) ∧ S.length ≤ 9 ∧
  ∀ (H' : Hp) (l : Addr) (S' : List Pt) (ws' : List V), Keep f H H' → FeedAt H' f row (m + 3) → S'.length = S.length → (∀ p ∈ S', MBd p) → H' l = some (.lst ws') → TpAll K H' ws' (S'.map kPt) → Q (.ref l) H'
abbrev s_l_moved : Stmt := top 37
theorem sc_l_moved : FnScope ["_law_feed_here", "_law_some", "_law_turn_here", "_law_right", "_law_high", "_law_found", "_law_x", "_law_y"] ["_law_feed_here", "_law_some"] (defScope s_l_moved) := ⟨rfl, rfl, rfl, by decide +kernel, rfl, by decide +kernel, by decide +kernel⟩
theorem ok_l_moved (B : Bi mg) (C_l_draw : Cal P w K mg base CX0 "_law_draw" 1 ["_law_feed_here", "_law_many"] (sp_l_draw K)) (D : Df K mg "_law_moved" s_l_moved ["_law_feed_here", "_law_some"]) : Cal P w K mg base CX0 "_law_moved" 2 ["_law_feed_here", "_law_some"] (sp_l_moved K) := by
  refine D.ok 1 sc_l_moved (fun vs H Q E h => ?_) (fun f cdv A outer s H vs Q E hr h => ?_)
  · obtain ⟨f, a, m, row, ws, S, rfl, _⟩ := h; rfl
  · obtain ⟨f, a, m, row, ws, S, rfl, hF, hm, ha, hw, bS, h9, k⟩ := h
    refine ⟨_, pss_cons (ps_set (i := 2) sc_l_moved.nd rfl (Or.inl rfl) (pe_go C_l_draw (hr.mono (by decide)) (pa_cons (pv 0) (pa_cons pe_int pa_nil))))
      (pss_cons (ps_par (i := 3) (j := 4) rfl sc_l_moved.nd rfl rfl (by decide) rfl rfl (pa_cons (pe_op op_sub (pe_go C_l_draw (hr.mono (by decide)) (pa_cons (pv 0) (pa_cons pe_int pa_nil))) pe_int) (pa_cons (pe_op op_sub (pe_go C_l_draw (hr.mono (by decide)) (pa_cons (pv 0) (pa_cons pe_int pa_nil))) pe_int) pa_nil)) (by with_unfolding_all rfl))
      (pss_cons (ps_set (i := 5) sc_l_moved.nd rfl (Or.inl rfl) (pe_lst pa_nil))
      (pss_cons (ps_for PassesOwn.never rfl (pi_list (pv 1) : PI _ _ _ (iList K _)) (pg_tup rfl (pgs_cons (pg_name (i := 6) sc_l_moved.nd rfl (Or.inl rfl)) (pgs_cons (pg_name (i := 7) sc_l_moved.nd rfl (Or.inl rfl)) pgs_nil)))
      (pss_cons (ps_if (pt_cmpR op_eq (pe_op op_mod (pv 2) pe_int) pe_int (nomark _))
      (pss_one (ps_set (i := 6) sc_l_moved.nd rfl (Or.inl rfl) (pe_op op_sub pe_int (pv 6))))
      pss_nil)
      (pss_cons (ps_if (pt_cmpR op_eq (pe_op op_mod (pe_op op_fdiv (pv 2) pe_int) pe_int) pe_int (nomark _))
      (pss_one (ps_set (i := 7) sc_l_moved.nd rfl (Or.inl rfl) (pe_op op_sub pe_int (pv 7))))
      pss_nil)
      (pss_one (ps_expr (pe_bm PySem.F.plainAttrs_list PySem.F.slot_list_append PySem.F.type_list_append mt_append (pv 5) (pa_cons (pe_ifExp (pt_cmpR op_lt (pv 2) pe_int (nomark _)) (pe_tupN (pa_cons (pe_op op_add (pv 6) (pv 3)) (pa_cons (pe_op op_add (pv 7) (pv 4)) pa_nil)) : PE _ _ (tTupN K _)) (pe_tupN (pa_cons (pe_op op_add (pv 7) (pv 3)) (pa_cons (pe_op op_add (pv 6) (pv 4)) pa_nil)) : PE _ _ (tTupN K _))) pa_nil)))))))
      (pss_one (ps_ret (pv 5)))))), ?_⟩
    have g0 := Go.start hF
    refine ⟨_, rfl, f, 8, m, row, rfl, hF, by omega, by decide, by decide, fun t H1 k1 F1 t0 t1 => ?_⟩
    refine ⟨_, rfl, f, 201, m + 1, row, rfl, F1, by omega, by decide, by decide, fun r2 H2 k2 F2 b0 b1 => ?_⟩
    refine ⟨_, _, rfl, rfl, _, rfl, f, 201, m + 2, row, rfl, F2, by omega, by decide, by decide, fun r3 H3 k3 F3 c0 c1 => ?_⟩
    have g3 := ((g0.draw k1 F1).draw k2 F2).draw k3 F3
    refine ⟨_, _, rfl, rfl, _, _, rfl, Nat.zero_le _, fun l hl => ?_⟩
    have hl0 := g3.free hl
    have g4 := g3.new (o := .lst []) hl
    refine ⟨_, rfl, a, rfl, ⟨ws, ofL (g4.stays ha lst_nk)⟩, ?_⟩
    refine for_it (walk_ls (a := a) hw) (fun i σ H5 => ∃ y6 y7 S' ws', σ = [some (.ref f), some (.ref a), some (.int t), some (.int (r2 - 100)), some (.int (r3 - 100)), some (.ref l), y6, y7] ∧ Go f row H H5 m (m + 3) ∧ H5 l = some (.lst ws') ∧ TpAll K H5 ws' (S'.map kPt) ∧ S'.length = i ∧ ∀ p ∈ S', MBd p) ⟨none, none, [], [], rfl, g4, upd_same, .nil, rfl, fun _ h => by cases h⟩ (fun i σ H5 _ ⟨_, _, _, _, _, g, _⟩ => ⟨ofL (g.stays ha lst_nk), g.tx⟩) ?_ ?_
    · rintro i y σ H5 H5' hi ⟨y6, y7, S', ws', rfl, g5, hl5, hw5, ls, bs⟩ ⟨rfl, q, hq, hy⟩
      obtain ⟨p, hp, rfl⟩ := get_map hq
      have bp := bS p (mem_at hp)
      unfold SBd at bp
      have hi2 := lt_at hp
      have lw := hw5.length
      rw [List.length_map] at lw
      obtain ⟨pa, hpa, hps⟩ := pt_inv hy
      subst hpa
      have fin : ∀ (x y : Int) (v : V) (H6 : Hp) (s6 : Same H5' H6), -1100 ≤ x → x ≤ 1100 → -1100 ≤ y → y ≤ 1100 → Tp K H6 v (.tup [.num x, .num y]) → ∀ (z6 z7 : Option V),
          ∃ (y6 y7 : Option V) (S' : List Pt) (ws'' : List V), [some (.ref f), some (.ref a), some (.int t), some (.int (r2 - 100)), some (.int (r3 - 100)), some (.ref l), z6, z7] = [some (V.ref f), some (.ref a), some (.int t), some (.int (r2 - 100)), some (.int (r3 - 100)), some (.ref l), y6, y7] ∧ Go f row H (upd H6 l (.lst (ws' ++ [v]))) m (m + 3) ∧ (upd H6 l (.lst (ws' ++ [v]))) l = some (.lst ws'') ∧ TpAll K (upd H6 l (.lst (ws' ++ [v]))) ws'' (S'.map kPt) ∧ S'.length = i + 1 ∧ ∀ p ∈ S', MBd p := by
        intro x y v H6 s6 x0 x1 y0 y1 hv z6 z7
        refine ⟨_, _, S' ++ [(x, y)], _, rfl, (g5.same s6).own hl0, upd_same, ?_, by rw [List.length_append, ls]; rfl, ?_⟩
        · rw [List.map_append]
          exact ((hw5.same s6).snoc hv).up (Tx.lst (s6 _ _ hl5))
        · intro q hq
          rcases List.mem_append.mp hq with h | h
          · exact bs q h
          · rw [List.mem_singleton] at h; subst h; exact ⟨x0, x1, y0, y1⟩
      refine ⟨_, _, rfl, hps, rfl, _, _, rfl, _, _, rfl, rfl, ?_⟩
      refine ⟨_, rfl, t, 2, rfl, rfl, (by show (0 : Int) < 2; decide), rfl, _, rfl, ifB (fun _ => ?_) (fun _ => ?_)⟩
      · refine ⟨_, rfl, _, _, rfl, rfl, ?_⟩
        refine ⟨_, rfl, t, 2, rfl, rfl, ⟨by decide, by decide⟩, _, _, rfl, rfl, (by show (0 : Int) < 2; decide), rfl, _, rfl, ifB (fun _ => ?_) (fun _ => ?_)⟩
        · refine ⟨_, rfl, _, _, rfl, rfl, ?_⟩
          refine ⟨_, rfl, .inl ⟨rfl, _, ofL hl5⟩, _, rfl, t, 4, rfl, rfl, _, rfl, ifB (fun _ => ?_) (fun _ => ?_)⟩
          · refine ⟨_, rfl, _, rfl, _, _, rfl, rfl, _, rfl, _, rfl, _, _, rfl, rfl, by show 2 ≤ 1000; decide, _, tps2 (.int _) (.int _), fun v H6 s6 hv => ⟨l, ws', v, rfl, rfl, s6 _ _ hl5, small (by omega), fin _ _ v H6 s6 (by omega) (by omega) (by omega) (by omega) hv _ _⟩⟩
          · refine ⟨_, rfl, _, rfl, _, _, rfl, rfl, _, rfl, _, rfl, _, _, rfl, rfl, by show 2 ≤ 1000; decide, _, tps2 (.int _) (.int _), fun v H6 s6 hv => ⟨l, ws', v, rfl, rfl, s6 _ _ hl5, small (by omega), fin _ _ v H6 s6 (by omega) (by omega) (by omega) (by omega) hv _ _⟩⟩
        · refine ⟨_, rfl, .inl ⟨rfl, _, ofL hl5⟩, _, rfl, t, 4, rfl, rfl, _, rfl, ifB (fun _ => ?_) (fun _ => ?_)⟩
          · refine ⟨_, rfl, _, rfl, _, _, rfl, rfl, _, rfl, _, rfl, _, _, rfl, rfl, by show 2 ≤ 1000; decide, _, tps2 (.int _) (.int _), fun v H6 s6 hv => ⟨l, ws', v, rfl, rfl, s6 _ _ hl5, small (by omega), fin _ _ v H6 s6 (by omega) (by omega) (by omega) (by omega) hv _ _⟩⟩
          · refine ⟨_, rfl, _, rfl, _, _, rfl, rfl, _, rfl, _, rfl, _, _, rfl, rfl, by show 2 ≤ 1000; decide, _, tps2 (.int _) (.int _), fun v H6 s6 hv => ⟨l, ws', v, rfl, rfl, s6 _ _ hl5, small (by omega), fin _ _ v H6 s6 (by omega) (by omega) (by omega) (by omega) hv _ _⟩⟩
      · refine ⟨_, rfl, t, 2, rfl, rfl, ⟨by decide, by decide⟩, _, _, rfl, rfl, (by show (0 : Int) < 2; decide), rfl, _, rfl, ifB (fun _ => ?_) (fun _ => ?_)⟩
        · refine ⟨_, rfl, _, _, rfl, rfl, ?_⟩
          refine ⟨_, rfl, .inl ⟨rfl, _, ofL hl5⟩, _, rfl, t, 4, rfl, rfl, _, rfl, ifB (fun _ => ?_) (fun _ => ?_)⟩
          · refine ⟨_, rfl, _, rfl, _, _, rfl, rfl, _, rfl, _, rfl, _, _, rfl, rfl, by show 2 ≤ 1000; decide, _, tps2 (.int _) (.int _), fun v H6 s6 hv => ⟨l, ws', v, rfl, rfl, s6 _ _ hl5, small (by omega), fin _ _ v H6 s6 (by omega) (by omega) (by omega) (by omega) hv _ _⟩⟩
          · refine ⟨_, rfl, _, rfl, _, _, rfl, rfl, _, rfl, _, rfl, _, _, rfl, rfl, by show 2 ≤ 1000; decide, _, tps2 (.int _) (.int _), fun v H6 s6 hv => ⟨l, ws', v, rfl, rfl, s6 _ _ hl5, small (by omega), fin _ _ v H6 s6 (by omega) (by omega) (by omega) (by omega) hv _ _⟩⟩
        · refine ⟨_, rfl, .inl ⟨rfl, _, ofL hl5⟩, _, rfl, t, 4, rfl, rfl, _, rfl, ifB (fun _ => ?_) (fun _ => ?_)⟩
          · refine ⟨_, rfl, _, rfl, _, _, rfl, rfl, _, rfl, _, rfl, _, _, rfl, rfl, by show 2 ≤ 1000; decide, _, tps2 (.int _) (.int _), fun v H6 s6 hv => ⟨l, ws', v, rfl, rfl, s6 _ _ hl5, small (by omega), fin _ _ v H6 s6 (by omega) (by omega) (by omega) (by omega) hv _ _⟩⟩
          · refine ⟨_, rfl, _, rfl, _, _, rfl, rfl, _, rfl, _, rfl, _, _, rfl, rfl, by show 2 ≤ 1000; decide, _, tps2 (.int _) (.int _), fun v H6 s6 hv => ⟨l, ws', v, rfl, rfl, s6 _ _ hl5, small (by omega), fin _ _ v H6 s6 (by omega) (by omega) (by omega) (by omega) hv _ _⟩⟩
    · rintro σ H5 ⟨y6, y7, S', ws', rfl, g5, hl5, hw5, ls, bs⟩
      rw [List.length_map] at ls
      exact ⟨_, rfl, k H5 l S' ws' g5.keep g5.feed ls bs hl5 hw5⟩
def sp_l_field (K : PySem.W.Frag) : Sp := fun vs H Q _ => ∃ (f : Addr) (m : Nat) (row : Addr), vs = [.ref f, .int 9] ∧ FeedAt H f row m ∧ m ≤ 20000 ∧
  ∀ (F : List Pt) (v : V) (H' : Hp), Keep f H H' → FeedAt H' f row (m + 70) → Field F → (∀ p ∈ F, Bd p) → F.length ≤ 9 → Tp K H' v (kF F) → Q v H'
/-- the points so far: at l, new since H -/
structure Pts (K : PySem.W.Frag) (f row : Addr) (H H1 : Hp) (m0 m : Nat) (l : Addr) (S : List Pt) : Prop where
  go : Go f row H H1 m0 m
  new : H l = none
  ex : ∃ ws, H1 l = some (.lst ws) ∧ TpAll K H1 ws (S.map kPt)
abbrev s_l_field : Stmt := top 38
theorem sc_l_field : FnScope ["_law_feed_here", "_law_most_here", "_law_way", "_law_many", "_law_slope", "_law_found", "_law_k", "_law_extra"] ["_law_feed_here", "_law_most_here"] (defScope s_l_field) := ⟨rfl, rfl, rfl, by decide +kernel, rfl, by decide +kernel, by decide +kernel⟩
theorem ok_l_field (B : Bi mg) (C_l_spread : Cal P w K mg base CX0 "_law_spread" 2 ["_law_some"] (sp_l_spread K)) (C_l_moved : Cal P w K mg base CX0 "_law_moved" 2 ["_law_feed_here", "_law_some"] (sp_l_moved K)) (C_l_point : Cal P w K mg base CX0 "_law_point" 3 ["_law_feed_here", "_law_way", "_law_k", "_law_slope"] (sp_l_point K)) (C_l_draw : Cal P w K mg base CX0 "_law_draw" 1 ["_law_feed_here", "_law_many"] (sp_l_draw K)) (D : Df K mg "_law_field" s_l_field ["_law_feed_here", "_law_most_here"]) : Cal P w K mg base CX0 "_law_field" 4 ["_law_feed_here", "_law_most_here"] (sp_l_field K) := by
  refine D.ok 3 sc_l_field (fun vs H Q E h => ?_) (fun f cdv A outer s H vs Q E hr h => ?_)
  · obtain ⟨f, m, row, rfl, _⟩ := h; rfl
  · obtain ⟨f, m, row, rfl, hF, hm, k⟩ := h
    refine ⟨_, pss_cons (ps_set (i := 2) sc_l_field.nd rfl (Or.inl rfl) (pe_go C_l_draw (hr.mono (by decide)) (pa_cons (pv 0) (pa_cons pe_int pa_nil))))
      (pss_cons (ps_set (i := 3) sc_l_field.nd rfl (Or.inl rfl) (pe_ifExp (pt_cmpR op_eq (pe_go C_l_draw (hr.mono (by decide)) (pa_cons (pv 0) (pa_cons pe_int pa_nil))) pe_int (nomark _)) (pv 1) (pe_op op_add pe_int (pe_go C_l_draw (hr.mono (by decide)) (pa_cons (pv 0) (pa_cons (pe_min2 B (pa_cons (pe_op op_sub (pv 1) pe_int) (pa_cons pe_int pa_nil))) pa_nil))))))
      (pss_cons (ps_set (i := 4) sc_l_field.nd rfl (Or.inl rfl) (pe_go C_l_draw (hr.mono (by decide)) (pa_cons (pv 0) (pa_cons pe_int pa_nil))))
      (pss_cons (ps_set (i := 5) sc_l_field.nd rfl (Or.inl rfl) (pe_lst pa_nil))
      (pss_cons (ps_for PassesOwn.never rfl (pi_range1 (by rfl) B.range (pa_cons (pv 3) pa_nil)) (pg_name (i := 6) sc_l_field.nd rfl (Or.inl rfl))
      (pss_one (ps_expr (pe_bm PySem.F.plainAttrs_list PySem.F.slot_list_append PySem.F.type_list_append mt_append (pv 5) (pa_cons (pe_go C_l_point (hr.mono (by decide)) (pa_cons (pv 0) (pa_cons (pv 2) (pa_cons (pv 6) (pa_cons (pv 4) pa_nil))))) pa_nil)))))
      (pss_cons (ps_if (pt_cmpR op_ne (pv 2) pe_int (nomark _))
      (pss_one (ps_set (i := 5) sc_l_field.nd rfl (Or.inl rfl) (pe_go C_l_moved (hr.mono (by decide)) (pa_cons (pv 0) (pa_cons (pv 5) pa_nil)))))
      pss_nil)
      (pss_cons (ps_set (i := 5) sc_l_field.nd rfl (Or.inl rfl) (pe_sortSP B (pa_cons (pe_setC B (pa_cons (pv 5) pa_nil) (u64 hr) : PE _ _ (tCB (rSetP P w K) _)) pa_nil) (u65 hr) : PE _ _ (tCB (rSortSP P w K) _)))
      (pss_cons (ps_for PassesOwn.never rfl (pi_list (pe_lst (pa_cons (pe_tupN (pa_cons pe_int (pa_cons pe_int pa_nil)) : PE _ _ (tTupN K _)) (pa_cons (pe_tupN (pa_cons pe_int (pa_cons pe_int pa_nil)) : PE _ _ (tTupN K _)) (pa_cons (pe_tupN (pa_cons pe_int (pa_cons pe_int pa_nil)) : PE _ _ (tTupN K _)) pa_nil)))) : PI _ _ _ (iList K _)) (pg_name (i := 7) sc_l_field.nd rfl (Or.inl rfl))
      (pss_one (ps_if (pt_not (pt_val (pe_go C_l_spread (hr.mono (by decide)) (pa_cons (pv 5) pa_nil))))
      (pss_one (ps_set (i := 5) sc_l_field.nd rfl (Or.inl rfl) (pe_sortSP B (pa_cons (pe_setC B (pa_cons (pe_op op_cat (pe_slice (sl_list : SlR _ (rSlL K)) (pv 5) po_none (po_some (pe_op op_sub (pv 1) pe_int))) (pe_lst (pa_cons (pv 7) pa_nil))) pa_nil) (u64 hr) : PE _ _ (tCB (rSetP P w K) _)) pa_nil) (u65 hr) : PE _ _ (tCB (rSortSP P w K) _))))
      pss_nil)))
      (pss_one (ps_ret (pe_tupleC B (pa_cons (pv 5) pa_nil) : PE _ _ (tCB (rTupN K) _))))))))))), ?_⟩
    have g0 := Go.start hF
    refine ⟨_, rfl, f, 8, m, row, rfl, hF, by omega, by decide, by decide, fun way H1 k1 F1 w0 w1 => ?_⟩
    have g1 := g0.draw k1 F1
    refine ⟨_, rfl, f, 6, m + 1, row, rfl, F1, by omega, by decide, by decide, fun r2 H2 k2 F2 a0 a1 => ?_⟩
    have g2 := g1.draw k2 F2
    refine ⟨rfl, _, rfl, ?_⟩
    -- what follows the number of points
    refine (fun (rest : ∀ (many : Int) (H3 : Hp), Go f row H H3 m (m + 3) → 3 ≤ many → many ≤ 9 → (?G : Int → Hp → Prop) many H3) => ?main) ?rest
    case main =>
      refine ifB (fun _ => ?a) (fun _ => ?b)
      case b =>
        refine ⟨_, rfl, _, rfl, _, _, rfl, rfl, 7, 4, rfl, f, 4, m + 2, row, rfl, F2, by omega, by decide, by decide, fun r3 H3 k3 F3 b0 b1 => ?_⟩
        obtain ⟨many, hmany⟩ : ∃ many : Int, many = 3 + r3 := ⟨_, rfl⟩
        refine ⟨_, _, rfl, rfl, ?_⟩
        dsimp only
        rw [← hmany]
        exact rest many H3 (g2.draw k3 F3) (by omega) (by omega)
      case a => exact ⟨_, rfl, rest 9 H2 (g2.le (by omega)) (by omega) (by omega)⟩
    case rest =>
      intro many H3 g3 m0 m9
      refine ⟨_, rfl, f, 3, m + 3, row, rfl, g3.feed, by omega, by decide, by decide, fun sl H4 k4 F4 s0 s1 => ?_⟩
      have g4 := g3.draw k4 F4
      refine ⟨Nat.zero_le _, fun l hl => ?_⟩
      have hl0 := g4.free hl
      have g5 := g4.new (o := .lst []) hl
      refine ⟨_, rfl, _, rfl, by omega, by omega, ?_⟩
      refine for_it walk_range (fun i σ H6 => ∃ y6 S, σ = [some (.ref f), some (.int 9), some (.int way), some (.int many), some (.int sl), some (.ref l), y6, none] ∧ Pts K f row H H6 m (m + 4 + 6 * i) l S ∧ S.length = i ∧ ∀ p ∈ S, SBd p) ⟨none, [], rfl, ⟨g5, hl0, [], upd_same, .nil⟩, rfl, fun _ h => by cases h⟩ (fun _ _ _ _ _ => trivial) ?_ ?_
      · rintro i y σ H6 H6' hi ⟨y6, S, rfl, ⟨g6, _, ws, hws, hw⟩, ls, bs⟩ ⟨rfl, rfl⟩
        have lw := hw.length
        rw [List.length_map] at lw
        have hi9 : i < 9 := by omega
        refine ⟨_, rfl, .inl ⟨rfl, _, ofL hws⟩, ?_⟩
        refine ⟨_, rfl, _, rfl, _, rfl, _, rfl, f, m + 4 + 6 * i, row, way, 0 + (i : Int), sl, rfl, g6.feed, by omega, by omega, by omega, by omega, by omega, fun p v H7 k7 F7 bp hv => ?_⟩
        have hl7 := k7.stays g6.feed hws lst_nk
        have g7 := g6.draw k7 F7
        refine ⟨l, ws, v, rfl, rfl, hl7, small (by omega), ?_⟩
        refine ⟨_, S ++ [p], rfl, ⟨(g7.own hl0).le (by omega), hl0, _, upd_same, ?_⟩, by rw [List.length_append, ls]; rfl, ?_⟩
        · rw [List.map_append]
          exact ((hw.up (g6.feed.tx k7)).snoc hv).up (Tx.lst hl7)
        · intro q hq
          rcases List.mem_append.mp hq with h | h
          · exact bs q h
          · rw [List.mem_singleton] at h; subst h; exact bp
      · rintro σ H6 ⟨y6, S, rfl, P6, ls, bs⟩
        have l9 : S.length ≤ 9 := by omega
        refine (fun (rest2 : ∀ (l2 : Addr) (S2 : List Pt) (H7 : Hp) (ws2 : List V), Go f row H H7 m (m + 61) → H7 l2 = some (.lst ws2) → TpAll K H7 ws2 (S2.map kPt) → S2.length ≤ 9 → (∀ p ∈ S2, Bd p) → (?G2 : Addr → Hp → Prop) l2 H7) => ?main2) ?rest2
        case main2 =>
          obtain ⟨g6, _, ws, hws, hw⟩ := id P6
          refine ⟨_, rfl, rfl, _, rfl, ?_⟩
          refine ifB (fun _ => ?_) (fun _ => ?_)
          · refine ⟨_, rfl, _, rfl, f, l, _, row, ws, S, rfl, g6.feed, by omega, hws, hw, bs, l9, fun H7 l2 S2 ws2 k7 F7 l7 b7 h7 hw7 => ?_⟩
            exact rest2 l2 S2 H7 ws2 ((g6.draw k7 F7).le (by omega)) h7 hw7 (by omega) (fun p hp => (b7 p hp).bd)
          · refine rest2 l S H6 ws (g6.le (by omega)) hws hw l9 fun p hp => ?_
            have := bs p hp
            unfold SBd at this; unfold Bd; omega
        case rest2 =>
          intro l2 S2 H7 ws2 g7 h7 hw7 l29 b2
          -- the points sorted, each once
          have fewer : ∀ (S3 A : List Pt), Rising S3 → (∀ q, q ∈ S3 → q ∈ A) → A.length ≤ 9 → S3.length ≤ 9 := fun S3 A r hs h => Nat.le_trans (List.Nodup.length_le_of_subset (rising_nodup r) hs) h
          refine ⟨_, rfl, l2, ws2, S2, rfl, ofL h7, hw7, by omega, fun a L ha hL1 hL2 => ?_⟩
          have g8 := g7.new (o := SetTO P w a L) ha
          have s8 := Same.upd (o := SetTO P w a L) ha
          refine ⟨a, L, rfl, upd_same, fun p hp => ?_, fun S3 ws3 p3 hp3 ris mem hw3 => ?_⟩
          · obtain ⟨q, _, e, ht⟩ := hL1 p hp
            exact ⟨q, e, ht.same s8⟩
          have mem3 : ∀ q, q ∈ S3 ↔ q ∈ S2 := fun q => by
            rw [mem]
            constructor
            · intro h
              obtain ⟨p, hp, e⟩ := List.mem_map.mp h
              obtain ⟨q', hq', e', _⟩ := hL1 p hp
              rw [e] at e'
              injection e' with a1 e'
              injection e' with a2 _
              rw [pt_ext a1 a2]; exact hq'
            · exact hL2 q
          have g9 := g8.new (o := .lst ws3) hp3
          have l39 := fewer S3 S2 ris (fun q h => (mem3 q).mp h) l29
          have b3 : ∀ p ∈ S3, Bd p := fun p hp => b2 p ((mem3 p).mp hp)
          -- the extras
          refine ⟨by show 2 ≤ 1000; decide, _, tps2 (.int _) (.int _), fun v1 Ha sa hv1 => ?_⟩
          refine ⟨by show 2 ≤ 1000; decide, _, tps2 (.int _) (.int _), fun v2 Hb sb hv2 => ?_⟩
          refine ⟨by show 2 ≤ 1000; decide, _, tps2 (.int _) (.int _), fun v3 Hc sc hv3 => ?_⟩
          refine ⟨by show 3 ≤ sizeLine; decide, fun q hq => ?_⟩
          have sq := Same.upd (o := .lst [v1, v2, v3]) hq
          have sall := Same.tr sa (Same.tr sb (Same.tr sc sq))
          have hk : TpAll K (upd Hc q (.lst [v1, v2, v3])) [v1, v2, v3] ([ext3 0, ext3 1, ext3 2].map kPt) := tps3 (hv1.same (Same.tr sb (Same.tr sc sq))) (hv2.same (Same.tr sc sq)) (hv3.same sq)
          have g10 := g9.same sall
          refine ⟨q, rfl, ⟨_, ofL upd_same⟩, ?_⟩
          refine for_it (walk_ls (a := q) hk) (fun i σ H8 => ∃ l S ws y7, σ = [some (.ref f), some (.int 9), some (.int way), some (.int many), some (.int sl), some (.ref l), y6, y7] ∧ Go f row H H8 m (m + 61) ∧ Same (upd Hc q (.lst [v1, v2, v3])) H8 ∧ H8 l = some (.lst ws) ∧ TpAll K H8 ws (S.map kPt) ∧ ExS S3 i S ∧ Rising S ∧ S.length ≤ 9 ∧ ∀ p ∈ S, Bd p) ⟨p3, S3, ws3, none, rfl, g10, Same.rfl', sall _ _ upd_same, (hw3.up (Tx.new hp3)).same sall, rfl, ris, l39, b3⟩ (fun i σ H8 _ ⟨_, _, _, _, _, _, s, _⟩ => ⟨ofL (s _ _ upd_same), Tx.same s⟩) ?_ ?_
          · rintro i y σ H8 H8' hi ⟨l, S, ws, y7, rfl, g8, s8, hl8, hw8, ex, ri, le, bd⟩ ⟨rfl, kk, hkk, hy⟩
            obtain ⟨e, he, rfl⟩ := get_map hkk
            have ee : e = ext3 i ∧ Bd e := by
              match i, he with
              | 0, he => cases he; exact ⟨rfl, by unfold Bd ext3; decide⟩
              | 1, he => cases he; exact ⟨rfl, by unfold Bd ext3; decide⟩
              | 2, he => cases he; exact ⟨rfl, by unfold Bd ext3; decide⟩
              | i + 3, he => simp at he
            refine ⟨_, rfl, l, ws, S, rfl, hl8, hw8, bd, by omega, fun H9 s9 => ⟨_, rfl, ?_⟩⟩
            have g9 := g8.same s9
            have hl9 := s9 _ _ hl8
            have hw9 := hw8.same s9
            refine ifB (fun c => ?_) (fun c => ?_)
            · have c : spreadB S = false := by simpa using c
              refine ⟨_, rfl, _, rfl, _, _, rfl, rfl, _, rfl, l, ws, rfl, ofL hl9, fun d hd => ?_⟩
              have ec : cutV ws none (some (9 - 1)) = ws.take 8 := cut_to (j := 8) rfl
              have hd1 : (upd H9 d (.lst (cutV ws none (some (9 - 1))))) d = some (.lst (ws.take 8)) := by rw [upd_same, ec]
              have sd := Same.upd (o := .lst (cutV ws none (some (9 - 1)))) hd
              refine ⟨_, rfl, by show 1 ≤ sizeLine; decide, fun d2 hd2 => ?_⟩
              have sd2 := Same.upd (o := .lst [y]) hd2
              have lw := hw9.length
              rw [List.length_map] at lw
              have lt8 : (ws.take 8).length ≤ 8 := by rw [List.length_take]; omega
              refine ⟨d, d2, ws.take 8, [y], rfl, rfl, sd2 _ _ hd1, upd_same, thousand (by show _ + 1 ≤ 1000; omega), fun d3 hd3 => ?_⟩
              have sd3 := Same.upd (o := .lst (ws.take 8 ++ [y])) hd3
              have sD := Same.tr sd (Same.tr sd2 sd3)
              have hcat : TpAll K (upd (upd (upd H9 d (.lst (cutV ws none (some (9 - 1))))) d2 (.lst [y])) d3 (.lst (ws.take 8 ++ [y]))) (ws.take 8 ++ [y]) ((S.take 8 ++ [e]).map kPt) := by
                rw [List.map_append, List.map_take]
                exact ((hw9.same sD).take 8).snoc ((hy.same s9).same sD)
              have lA : (S.take 8 ++ [e]).length ≤ 9 := by rw [List.length_append, List.length_take]; simp only [List.length_singleton]; omega
              refine ⟨d3, _, S.take 8 ++ [e], rfl, ofL upd_same, hcat, by omega, fun a2 L2 ha2 hM1 hM2 => ?_⟩
              have sE := Same.upd (o := SetTO P w a2 L2) ha2
              refine ⟨a2, L2, rfl, upd_same, fun p hp => ?_, fun S4 ws4 p4 hp4 ris4 mem4 hw4 => ?_⟩
              · obtain ⟨q, _, e, ht⟩ := hM1 p hp
                exact ⟨q, e, ht.same sE⟩
              have mm : ∀ q, q ∈ S4 ↔ q ∈ S.take 8 ++ [e] := fun q => by
                rw [mem4]
                constructor
                · intro h
                  obtain ⟨p, hp, e⟩ := List.mem_map.mp h
                  obtain ⟨q', hq', e', _⟩ := hM1 p hp
                  rw [e] at e'
                  injection e' with a1 e'
                  injection e' with a2 _
                  rw [pt_ext a1 a2]; exact hq'
                · exact hM2 q
              have sF := Same.upd (o := .lst ws4) hp4
              have sAll := Same.tr sD (Same.tr sE sF)
              refine ⟨p4, S4, ws4, _, rfl, g9.same sAll, Same.tr s8 (Same.tr s9 sAll), upd_same, hw4.up (Tx.new hp4), ?_, ris4, fewer S4 _ ris4 (fun q h => (mm q).mp h) lA, fun p hp => ?_⟩
              · refine ⟨S, ex, ?_⟩
                rw [if_neg (by rw [c]; decide)]
                refine ⟨ris4, fun x => ?_⟩
                rw [mm, List.mem_append, List.mem_singleton, ee.1]
              · rcases List.mem_append.mp ((mm p).mp hp) with h | h
                · exact bd p (List.mem_of_mem_take h)
                · rw [List.mem_singleton] at h; subst h; exact ee.2
            · have c : spreadB S = true := by simpa using c
              refine ⟨l, S, ws, _, rfl, g9, Same.tr s8 s9, hl9, hw9, ⟨S, ex, ?_⟩, ri, le, bd⟩
              rw [if_pos c]
          · rintro σ H8 ⟨l, S, ws, y7, rfl, g8, s8, hl8, hw8, ex, ri, le, bd⟩
            refine ⟨_, rfl, l, ws, _, rfl, ofL hl8, hw8, fun v H9 s9 hv => ?_⟩
            have g9 := (g8.same s9).le (m' := m + 70) (by omega)
            exact k S v H9 g9.keep g9.feed (exs_field ris ex) bd le hv
end
end Tl

end
-- D15
section
set_option maxHeartbeats 200000
namespace Tl
open PySem PySem.Spec PyProof.Rows L2
theorem tri_bd {F : List Pt} {t : T3} (bF : ∀ p ∈ F, Bd p) (h : Tri F t) : TBd t := ⟨bF _ h.ma, bF _ h.mb, bF _ h.mc⟩
section
variable {P : Program} {w : World} {K : PySem.W.Frag} {mg : Str → Option Value} {base : Heap}
def sp_l_menu (K : PySem.W.Frag) : Sp := fun vs H Q _ => ∃ (f : Addr) (x : V) (m : Nat) (row : Addr) (M0 : List T3), vs = [.ref f, x] ∧ FeedAt H f row m ∧ m ≤ 30000 ∧ Tp K H x (kM M0) ∧ (∀ t ∈ M0, TBd t) ∧ M0 ≠ [] ∧ M0.length ≤ 729 ∧
  ∀ (M : List T3) (v : V) (H' : Hp), Keep f H H' → FeedAt H' f row (m + 731) → (∀ t ∈ M, t ∈ M0) → M.length ≤ 729 → Tp K H' v (kM M) → Q v H'
abbrev s_l_menu : Stmt := top 54
theorem sc_l_menu : FnScope ["_law_feed_here", "_law_whole_here", "_law_way", "_law_one"] ["_law_feed_here", "_law_whole_here"] (defScope s_l_menu) := ⟨rfl, rfl, rfl, by decide +kernel, rfl, by decide +kernel, by decide +kernel⟩
theorem ok_l_menu (B : Bi mg) (C_l_along : Cal P w K mg base CX0 "_law_along" 3 ["_law_menu_here", "_law_tie"] (sp_l_along K)) (C_l_draw : Cal P w K mg base CX0 "_law_draw" 1 ["_law_feed_here", "_law_many"] (sp_l_draw K)) (C_l_sides : Cal P w K mg base CX0 "_law_sides" 1 ["_law_triangle"] (sp_l_sides K)) (D : Df K mg "_law_menu" s_l_menu ["_law_feed_here", "_law_whole_here"]) : Cal P w K mg base CX0 "_law_menu" 4 ["_law_feed_here", "_law_whole_here"] (sp_l_menu K) := by
  refine D.ok 3 sc_l_menu (fun vs H Q E h => ?_) (fun f cdv A outer s H vs Q E hr h => ?_)
  · obtain ⟨f, x, m, row, M0, rfl, _⟩ := h; rfl
  · obtain ⟨f, x, m, row, M0, rfl, hF, hm, hx, bM, nM, lM, k⟩ := h
    refine ⟨_, pss_cons (ps_set (i := 2) sc_l_menu.nd rfl (Or.inl rfl) (pe_go C_l_draw (hr.mono (by decide)) (pa_cons (pv 0) (pa_cons pe_int pa_nil))))
      (pss_cons (ps_if (pt_cmpR op_eq (pv 2) pe_int (nomark _))
      (pss_one (ps_ret (pv 1)))
      pss_nil)
      (pss_cons (ps_if (pt_cmpR op_eq (pv 2) pe_int (nomark _))
      (pss_one (ps_ret (pe_tupleC B (pa_cons (pe_lc (own := [("_law_one", 3)]) (g := gName 3) rfl sc_l_menu.nd (pi_tup (pv 1) : PI _ _ _ (iTup K _)) (blkOk_by (N := ["_law_feed_here", "_law_whole_here", "_law_way", "_law_one"]) (sc := defScope s_l_menu) (by decide +kernel)) (fun _ _ _ _ _ => pg_name (i := 3) sc_l_menu.nd rfl (Or.inl rfl)) (fun _ _ _ _ _ => pts_one (pt_cmpR op_gt (pe_go C_l_draw (hr.mono (by decide)) (pa_cons (pv 0) (pa_cons pe_int pa_nil))) pe_int (nomark _))) (fun _ _ _ _ _ => pv 3)) pa_nil) : PE _ _ (tCB (rTupN K) _))))
      pss_nil)
      (pss_one (ps_ret (pe_go C_l_along (hr.mono (by decide)) (pa_cons (pv 1) (pa_cons (pe_ix (ix_listN : IxR _ (rIxLN K)) (pe_go C_l_sides (hr.mono (by decide)) (pa_cons (pe_ix (ix_tupN : IxR _ (rIxN K)) (pv 1) (pe_go C_l_draw (hr.mono (by decide)) (pa_cons (pv 0) (pa_cons (pe_lenT B (pa_cons (pv 1) pa_nil) : PE _ _ (tCB (rLenT K) _)) pa_nil))) (fun _ _ => rfl)) pa_nil)) (pe_go C_l_draw (hr.mono (by decide)) (pa_cons (pv 0) (pa_cons pe_int pa_nil))) (fun _ _ => rfl)) pa_nil))))))), ?_⟩
    have g0 := Go.start hF
    refine ⟨_, rfl, f, 3, m, row, rfl, hF, by omega, by decide, by decide, fun way H1 k1 F1 w0 w1 => ?_⟩
    have g1 := g0.draw k1 F1
    refine ⟨_, rfl, rfl, _, rfl, ifB (fun _ => ?_) (fun _ => ?_)⟩
    · exact ⟨_, rfl, k M0 x H1 k1 (F1.le (by omega)) (fun _ h => h) lM (hx.up g1.tx)⟩
    refine ⟨_, rfl, rfl, _, rfl, ifB (fun _ => ?_) (fun _ => ?_)⟩
    · obtain ⟨ma, ms, rfl, mp, mks⟩ := hx.invP
      refine ⟨_, rfl, ma, rfl, ⟨ms, (mp.up g1.tx).sq⟩, fun D hD => ?_⟩
      have hD0 := g1.free hD
      have g2 := g1.new (o := .lst []) hD
      refine lc_it (walk_tp mp mks) (fun i H2 => ∃ ws M, Go f row H H2 m (m + 1 + i) ∧ H2 D = some (.lst ws) ∧ TpAll K H2 ws (M.map kT) ∧ (∀ t ∈ M, t ∈ M0) ∧ M.length ≤ i) ⟨[], [], g2, upd_same, .nil, fun _ h => (by cases h), Nat.le_refl _⟩ (fun i H2 _ ⟨_, _, g, _⟩ => g.tx) ?_ ?_
      · rintro i y H2 H2' hi ⟨ws, M, g3, hws, hw, sub, le⟩ ⟨rfl, q, hq, hy⟩
        obtain ⟨t, ht, rfl⟩ := get_map hq
        have hi2 := lt_at ht
        have lw := hw.length
        rw [List.length_map] at lw
        refine ⟨rfl, ?_⟩
        refine ⟨_, rfl, f, 8, m + 1 + i, row, rfl, g3.feed, by omega, by decide, by decide, fun r H3 k3 F3 a0 a1 => ?_⟩
        have g4 := g3.draw k3 F3
        have hws3 := k3.stays g3.feed hws lst_nk
        have t3 := g3.feed.tx k3
        refine ⟨_, _, rfl, rfl, _, rfl, ifB (fun _ => ?_) (fun _ => ?_)⟩
        · refine ⟨_, rfl, ws, hws3, small (by omega), ws ++ [y], M ++ [t], g4.own hD0, upd_same, ?_, fun t' h' => ?_, by rw [List.length_append]; simp only [List.length_singleton]; omega⟩
          · rw [List.map_append]
            exact ((hw.up t3).snoc (hy.up t3)).up (Tx.lst hws3)
          · rcases List.mem_append.mp h' with h' | h'
            · exact sub t' h'
            · rw [List.mem_singleton] at h'; subst h'; exact mem_at ht
        · exact ⟨ws, M, g4, hws3, hw.up t3, sub, by omega⟩
      · rintro H2 ⟨ws, M, g3, hws, hw, sub, le⟩
        rw [List.length_map] at le g3
        refine ⟨D, ws, _, rfl, ofL hws, hw, fun v H3 s3 hv => ?_⟩
        have g4 := (g3.same s3).le (m' := m + 731) (by omega)
        exact k M v H3 g4.keep g4.feed sub (by omega) hv
    · have hx1 := hx.up g1.tx
      have lpos : 0 < M0.length := List.length_pos_iff.mpr nM
      refine ⟨_, rfl, _, rfl, _, rfl, _, rfl, _, _, rfl, hx1, f, _, m + 1, row, rfl, F1, by omega, by rw [List.length_map]; omega, by rw [List.length_map]; omega, fun r H2 k2 F2 a0 a1 => ?_⟩
      rw [List.length_map] at a1
      have g2 := g1.draw k2 F2
      have hx2 := hx.up g2.tx
      obtain ⟨j, hj⟩ := Int.eq_ofNat_of_zero_le a0
      obtain ⟨t, ht⟩ := at_lt (l := M0) (i := j) (by omega)
      refine ⟨_, _, _, hx2, rfl, atI_of hj (map_at ht), fun vt hvt => ?_⟩
      refine ⟨vt, t, rfl, hvt, fun H3 p ws s3 hp h3 hw => ?_⟩
      have g3 := g2.same s3
      refine ⟨_, rfl, f, 3, m + 2, row, rfl, g3.feed, by omega, by decide, by decide, fun r2 H4 k4 F4 b0 b1 => ?_⟩
      have g4 := g3.draw k4 F4
      have h4 := k4.stays g3.feed h3 lst_nk
      obtain ⟨j2, hj2⟩ := Int.eq_ofNat_of_zero_le b0
      obtain ⟨e, he⟩ := at_lt (l := sidesOf t) (i := j2) (by show j2 < 3; omega)
      refine ⟨p, ws, _, _, _, rfl, ofL h4, hw.up (g3.feed.tx k4), rfl, atI_of hj2 (map_at he), fun ve hve => ?_⟩
      refine ⟨x, ve, M0, e, rfl, hx.up g4.tx, hve, bM, by omega, sides_bd (bM t (mem_at ht)) (mem_at he), fun v H5 s5 hv => ?_⟩
      have g5 := (g4.same s5).le (m' := m + 731) (by omega)
      exact k _ v H5 g5.keep g5.feed (fun t h => (List.mem_filter.mp h).1) (Nat.le_trans (List.length_filter_le _ _) lM) hv
def sp_l_weights (K : PySem.W.Frag) : Sp := fun vs H Q _ => ∃ (f l : Addr) (way : Int) (m : Nat) (row : Addr) (us : List V) (T : List E2), vs = [.ref f, .int way, .ref l] ∧ FeedAt H f row m ∧ m ≤ 30000 ∧ H l = some (.lst us) ∧ TpAll K H us (T.map kE) ∧ (∀ e ∈ T, EBd e) ∧ T ≠ [] ∧ T.length ≤ 100 ∧
  ∀ (W : List Int) (v : V) (H' : Hp), Keep f H H' → FeedAt H' f row (m + 102) → W.length = T.length → (∀ x ∈ W, 0 ≤ x ∧ x ≤ 1000000) → Tp K H' v (kW W) → Q v H'
theorem sq_nn (a : Int) : 0 ≤ a * a := by
  rcases Int.le_total 0 a with h | h
  · exact Int.mul_nonneg h h
  · have := Int.mul_nonneg (show 0 ≤ -a by omega) (show 0 ≤ -a by omega)
    rw [Int.neg_mul_neg] at this; exact this
abbrev s_l_weights : Stmt := top 50
theorem sc_l_weights : FnScope ["_law_feed_here", "_law_way", "_law_pairs", "_law_alike", "_law_at", "_law_found", "_law_k", "_law_ax", "_law_ay", "_law_bx", "_law_by"] ["_law_feed_here", "_law_way", "_law_pairs"] (defScope s_l_weights) := ⟨rfl, rfl, rfl, by decide +kernel, rfl, by decide +kernel, by decide +kernel⟩
theorem ok_l_weights (B : Bi mg) (C_l_draw : Cal P w K mg base CX0 "_law_draw" 1 ["_law_feed_here", "_law_many"] (sp_l_draw K)) (D : Df K mg "_law_weights" s_l_weights ["_law_feed_here", "_law_way", "_law_pairs"]) : Cal P w K mg base CX0 "_law_weights" 2 ["_law_feed_here", "_law_way", "_law_pairs"] (sp_l_weights K) := by
  refine D.ok 1 sc_l_weights (fun vs H Q E h => ?_) (fun f cdv A outer s H vs Q E hr h => ?_)
  · obtain ⟨f, l, way, m, row, us, T, rfl, _⟩ := h; rfl
  · obtain ⟨f, l, way, m, row, us, T, rfl, hF, hm, hl, hus, bT, nT, lT, k⟩ := h
    refine ⟨_, pss_cons (ps_par (i := 3) (j := 4) rfl sc_l_weights.nd rfl rfl (by decide) rfl rfl (pa_cons (pe_go C_l_draw (hr.mono (by decide)) (pa_cons (pv 0) (pa_cons pe_int pa_nil))) (pa_cons (pe_go C_l_draw (hr.mono (by decide)) (pa_cons (pv 0) (pa_cons (pe_lenL B (pa_cons (pv 2) pa_nil) : PE _ _ (tCB (rLenL K) _)) pa_nil))) pa_nil)) (by with_unfolding_all rfl))
      (pss_cons (ps_set (i := 5) sc_l_weights.nd rfl (Or.inl rfl) (pe_lst pa_nil))
      (pss_cons (ps_for PassesOwn.never rfl (pi_enum (by rfl) B.enumerate (pa_cons (pv 2) pa_nil)) (pg_tup rfl (pgs_cons (pg_name (i := 6) sc_l_weights.nd rfl (Or.inl rfl)) (pgs_cons (pg_tup rfl (pgs_cons (pg_tup rfl (pgs_cons (pg_name (i := 7) sc_l_weights.nd rfl (Or.inl rfl)) (pgs_cons (pg_name (i := 8) sc_l_weights.nd rfl (Or.inl rfl)) pgs_nil))) (pgs_cons (pg_tup rfl (pgs_cons (pg_name (i := 9) sc_l_weights.nd rfl (Or.inl rfl)) (pgs_cons (pg_name (i := 10) sc_l_weights.nd rfl (Or.inl rfl)) pgs_nil))) pgs_nil))) pgs_nil)))
      (pss_one (ps_if (pt_cmpR op_eq (pv 1) pe_int (nomark _))
      (pss_one (ps_expr (pe_bm PySem.F.plainAttrs_list PySem.F.slot_list_append PySem.F.type_list_append mt_append (pv 5) (pa_cons (pe_go C_l_draw (hr.mono (by decide)) (pa_cons (pv 0) (pa_cons pe_int pa_nil))) pa_nil))))
      (pss_one (ps_if (pt_cmpR op_eq (pv 1) pe_int (nomark _))
      (pss_one (ps_expr (pe_bm PySem.F.plainAttrs_list PySem.F.slot_list_append PySem.F.type_list_append mt_append (pv 5) (pa_cons (pe_go C_l_draw (hr.mono (by decide)) (pa_cons (pv 0) (pa_cons pe_int pa_nil))) pa_nil))))
      (pss_one (ps_if (pt_cmpR op_eq (pv 1) pe_int (nomark _))
      (pss_one (ps_expr (pe_bm PySem.F.plainAttrs_list PySem.F.slot_list_append PySem.F.type_list_append mt_append (pv 5) (pa_cons (pv 3) pa_nil))))
      (pss_one (ps_if (pt_cmpR op_eq (pv 1) pe_int (nomark _))
      (pss_one (ps_expr (pe_bm PySem.F.plainAttrs_list PySem.F.slot_list_append PySem.F.type_list_append mt_append (pv 5) (pa_cons (pe_min2 B (pa_cons (pe_op op_add (pe_op op_mul (pe_op op_sub (pv 9) (pv 7)) (pe_op op_sub (pv 9) (pv 7))) (pe_op op_mul (pe_op op_sub (pv 10) (pv 8)) (pe_op op_sub (pv 10) (pv 8)))) (pa_cons pe_int pa_nil))) pa_nil))))
      (pss_one (ps_if (pt_cmpR op_eq (pv 1) pe_int (nomark _))
      (pss_one (ps_expr (pe_bm PySem.F.plainAttrs_list PySem.F.slot_list_append PySem.F.type_list_append mt_append (pv 5) (pa_cons (pe_ifExp (pt_cmpR op_eq (pv 6) (pv 4) (nomark _)) pe_int pe_int) pa_nil))))
      (pss_one (ps_expr (pe_bm PySem.F.plainAttrs_list PySem.F.slot_list_append PySem.F.type_list_append mt_append (pv 5) (pa_cons (pe_op op_sub pe_int (pe_go C_l_draw (hr.mono (by decide)) (pa_cons (pv 0) (pa_cons pe_int pa_nil)))) pa_nil)))))))))))))))
      (pss_one (ps_ret (pe_tupleC B (pa_cons (pv 5) pa_nil) : PE _ _ (tCB (rTupN K) _)))))), ?_⟩
    have g0 := Go.start hF
    have lpos : 0 < T.length := List.length_pos_iff.mpr nT
    have lu := hus.length
    rw [List.length_map] at lu
    refine ⟨_, rfl, f, 1000001, m, row, rfl, hF, by omega, by decide, by decide, fun alike H1 k1 F1 a0 a1 => ?_⟩
    have g1 := g0.draw k1 F1
    refine ⟨_, rfl, _, rfl, l, us, rfl, ofL (g1.stays hl lst_nk), f, _, m + 1, row, rfl, F1, by omega, by omega, by omega, fun at' H2 k2 F2 b0 b1 => ?_⟩
    have g2 := g1.draw k2 F2
    refine ⟨_, _, rfl, Nat.zero_le _, fun d hd => ?_⟩
    have hd0 := g2.free hd
    have g3 := g2.new (o := .lst []) hd
    refine ⟨_, rfl, l, us, rfl, ofL (g3.stays hl lst_nk), ?_⟩
    refine for_it (walk_enum (K := K) (a := l) (xs := us)) (fun i σ H4 => ∃ y6 y7 y8 y9 y10 W, σ = [some (.ref f), some (.int way), some (.ref l), some (.int alike), some (.int at'), some (.ref d), y6, y7, y8, y9, y10] ∧ Go f row H H4 m (m + 2 + i) ∧ H4 d = some (.lst (W.map V.int)) ∧ W.length = i ∧ ∀ x ∈ W, 0 ≤ x ∧ x ≤ 1000000) ⟨none, none, none, none, none, [], rfl, g3, upd_same, rfl, fun _ h => by cases h⟩ (fun i σ H4 _ ⟨_, _, _, _, _, _, _, g, _⟩ => ofL (g.stays hl lst_nk)) ?_ ?_
    · rintro i y σ H4 H4' hi ⟨y6, y7, y8, y9, y10, W, rfl, g4, hd4, lW, bW⟩ ⟨T', x1, x2, rfl, hT', rfl, e1, e2⟩
      cases e1
      obtain ⟨kk, hkk, hx2⟩ := (hus.up g4.tx).get e2
      obtain ⟨e, he, rfl⟩ := get_map hkk
      have be := bT e (mem_at he)
      have s5 := Same.upd (o := .tup [.int (i : Nat), x2]) hT'
      have g5 := g4.same s5
      have hd5 := s5 _ _ hd4
      obtain ⟨ea, u1, u2, rfl, es, h1, h2⟩ := inv2 (hx2.same s5)
      obtain ⟨a1', hp1, ps1⟩ := pt_inv h1
      obtain ⟨a2', hp2, ps2⟩ := pt_inv h2
      subst hp1 hp2
      have hi2 : i < 100 := by omega
      have fin2 : ∀ (x : Int) (H6 : Hp), Go f row H H6 m (m + 2 + (i + 1)) → H6 d = some (.lst (W.map V.int)) → 0 ≤ x → x ≤ 1000000 → ∀ (z6 z7 z8 z9 z10 : Option V),
          ∃ (l' : Addr) (xs : List V) (y' : V), V.ref d = V.ref l' ∧ [V.int x] = [y'] ∧ H6 l' = some (.lst xs) ∧ xs.length < sizeLine ∧
          ∃ (y6 y7 y8 y9 y10 : Option V) (W : List Int), [some (.ref f), some (.int way), some (.ref l), some (.int alike), some (.int at'), some (.ref d), z6, z7, z8, z9, z10] = [some (V.ref f), some (.int way), some (.ref l), some (.int alike), some (.int at'), some (.ref d), y6, y7, y8, y9, y10] ∧ Go f row H (upd H6 l' (.lst (xs ++ [y']))) m (m + 2 + (i + 1)) ∧ (upd H6 l' (.lst (xs ++ [y']))) d = some (.lst (W.map V.int)) ∧ W.length = i + 1 ∧ (∀ x ∈ W, 0 ≤ x ∧ x ≤ 1000000) := fun x H6 g6 h6 x0 x1 z6 z7 z8 z9 z10 =>
        ⟨d, _, _, rfl, rfl, h6, small (by rw [List.length_map]; omega), _, _, _, _, _, W ++ [x], rfl, g6.own hd0, by rw [upd_same, List.map_append]; rfl, by rw [List.length_append, lW]; rfl, fun q hq => by
          rcases List.mem_append.mp hq with h | h
          · exact bW q h
          · rw [List.mem_singleton] at h; subst h; exact ⟨x0, x1⟩⟩
      refine ⟨_, _, rfl, SqT.of upd_same, rfl, _, _, rfl, _, _, rfl, ?_⟩
      refine ⟨_, _, rfl, es, rfl, _, _, rfl, ?_⟩
      refine ⟨_, _, rfl, ps1, rfl, _, _, rfl, _, _, rfl, rfl, ?_⟩
      refine ⟨_, _, rfl, ?_⟩
      refine ⟨_, _, rfl, ps2, rfl, _, _, rfl, _, _, rfl, rfl, ?_⟩
      refine ⟨rfl, rfl, ?_⟩
      have g5' := g5.le (m' := m + 2 + (i + 1)) (by omega)
      refine ⟨_, rfl, rfl, _, rfl, ifB (fun _ => ?_) (fun _ => ?_)⟩
      · refine ⟨_, rfl, .inl ⟨rfl, _, ofL hd5⟩, _, rfl, f, 4, m + 2 + i, row, rfl, g5.feed, by omega, by decide, by decide, fun r H6 k6 F6 c0 c1 => ?_⟩
        exact fin2 r H6 (g5.draw k6 F6) (k6.stays g5.feed hd5 lst_nk) (by omega) (by omega) _ _ _ _ _
      refine ⟨_, rfl, rfl, _, rfl, ifB (fun _ => ?_) (fun _ => ?_)⟩
      · refine ⟨_, rfl, .inl ⟨rfl, _, ofL hd5⟩, _, rfl, f, 1000001, m + 2 + i, row, rfl, g5.feed, by omega, by decide, by decide, fun r H6 k6 F6 c0 c1 => ?_⟩
        exact fin2 r H6 (g5.draw k6 F6) (k6.stays g5.feed hd5 lst_nk) (by omega) (by omega) _ _ _ _ _
      refine ⟨_, rfl, rfl, _, rfl, ifB (fun _ => ?_) (fun _ => ?_)⟩
      · refine ⟨_, rfl, .inl ⟨rfl, _, ofL hd5⟩, _, rfl, ?_⟩
        exact fin2 alike _ g5' hd5 (by omega) (by omega) _ _ _ _ _
      refine ⟨_, rfl, rfl, _, rfl, ifB (fun _ => ?_) (fun _ => ?_)⟩
      · obtain ⟨⟨q1, q2, q3, q4⟩, ⟨q5, q6, q7, q8⟩⟩ := be
        have n1 := sq_nn (e.2.1 - e.1.1)
        have n2 := sq_nn (e.2.2 - e.1.2)
        refine ⟨_, rfl, .inl ⟨rfl, _, ofL hd5⟩, ?_⟩
        refine ⟨_, rfl, _, rfl, _, _, rfl, rfl, _, rfl, _, rfl, _, _, rfl, rfl, _, _, rfl, rfl, .inl ⟨by omega, by omega⟩, ?_⟩
        refine ⟨_, rfl, _, rfl, _, _, rfl, rfl, _, rfl, _, rfl, _, _, rfl, rfl, _, _, rfl, rfl, .inl ⟨by omega, by omega⟩, _, _, rfl, rfl, _, _, rfl, ?_⟩
        refine fin2 _ _ g5' hd5 ?_ ?_ _ _ _ _ _
        · split <;> omega
        · split <;> omega
      refine ⟨_, rfl, rfl, _, rfl, ifB (fun _ => ?_) (fun _ => ?_)⟩
      · refine ⟨_, rfl, .inl ⟨rfl, _, ofL hd5⟩, _, rfl, _, rfl, rfl, _, rfl, ifB (fun _ => ?_) (fun _ => ?_)⟩
        · exact fin2 1000000 _ g5' hd5 (by omega) (by omega) _ _ _ _ _
        · exact fin2 0 _ g5' hd5 (by omega) (by omega) _ _ _ _ _
      · refine ⟨_, rfl, .inl ⟨rfl, _, ofL hd5⟩, _, rfl, f, 3, m + 2 + i, row, rfl, g5.feed, by omega, by decide, by decide, fun r H6 k6 F6 c0 c1 => ?_⟩
        refine ⟨_, _, rfl, rfl, ?_⟩
        exact fin2 _ H6 (g5.draw k6 F6) (k6.stays g5.feed hd5 lst_nk) (by omega) (by omega) _ _ _ _ _
    · rintro σ H4 ⟨y6, y7, y8, y9, y10, W, rfl, g4, hd4, lW, bW⟩
      refine ⟨_, rfl, d, _, W.map NestedKey.num, rfl, ofL hd4, TpAll.ofNums _, fun v H5 s5 hv => ?_⟩
      have g5 := (g4.same s5).le (m' := m + 102) (by omega)
      exact k W v H5 g5.keep g5.feed (by omega) bW hv
end
end Tl

end
-- D16
section
set_option maxHeartbeats 200000
namespace Tl
open PySem PySem.Spec PyProof.Rows L2
theorem nfT {b : Bool} (h : (!b) = false) : b = true := by
  cases b with
  | true => rfl
  | false => cases h
theorem kS_dep {es : List S3} : ∀ k ∈ es.map kS, k.depth ≤ 8 := fun k hk => by
  obtain ⟨s, _, rfl⟩ := List.mem_map.mp hk; have := kS_d s; omega
theorem kF_dep {R : List (List Pt)} : ∀ k ∈ R.map kF, k.depth ≤ 8 := fun k hk => by
  obtain ⟨s, _, rfl⟩ := List.mem_map.mp hk; have := kF_d s; omega
theorem ND.keep {P : Program} {w : World} {K : PySem.W.Frag} {H H' : Hp} {d f row : Addr} {kvs : List (NestedKey × V)} {m : Nat} (h : ND P w K H d kvs) (F : FeedAt H f row m) (k : Keep f H H') : ND P w K H' d kvs := by
  obtain ⟨φ, e⟩ := h.there
  exact h.up (F.tx k) ((k.stays F e (fun _ z => by cases z)).trans e.symm)
theorem TabAt.keep {P : Program} {w : World} {K : PySem.W.Frag} {H H' : Hp} {v : V} {M : List T3} {f row : Addr} {m : Nat} (h : TabAt P w K H v M) (F : FeedAt H f row m) (k : Keep f H H') : TabAt P w K H' v M := by
  obtain ⟨a, p, t, kp, kt, rfl, h1, h2, h3, h4, h5⟩ := h
  exact ⟨a, p, t, kp, kt, rfl, k.stays F h1 (fun _ z => by cases z), h2.keep F k, h3.keep F k, h4.up (F.tx k), h5⟩
theorem Heavy.keep {P : Program} {w : World} {K : PySem.W.Frag} {H H' : Hp} {d f row : Addr} {T : List E2} {wt : E2 → Int} {m : Nat} (h : Heavy P w K H d T wt) (F : FeedAt H f row m) (k : Keep f H H') : Heavy P w K H' d T wt := let ⟨kvs, h1, h2⟩ := h; ⟨kvs, h1.keep F k, h2⟩
theorem way_len {M : List T3} {f0 f : List Pt} {ts : List T3} (w : Way M f0 ts f) : ∀ t ∈ ts, t ∈ M := by
  induction w with
  | nil => intro t h; cases h
  | snoc _ s ih =>
    intro t h
    rcases List.mem_append.mp h with h | h
    · exact ih t h
    · rw [List.mem_singleton] at h; subst h; exact s.1
theorem way_front {F f0 f : List Pt} {M ts : List T3} (hM : ∀ t ∈ M, Tri F t) (h0 : Front F f0) (w : Way M f0 ts f) : Front F f := by
  induction w with
  | nil => exact h0
  | snoc _ s ih => exact s.front hM ih
theorem fr_len {F f : List Pt} (hF : Rising F) (h2 : 2 ≤ F.length) (h : Front F f) : 2 ≤ f.length ∧ f.length ≤ F.length := ⟨head_last_two hF h2 h.hd h.la, front_len hF h⟩
section
variable {P : Program} {w : World} {K : PySem.W.Frag} {mg : Str → Option Value} {base : Heap}
/-- what the defs of fronts are told of the field -/
structure FieldOk (F low up : List Pt) : Prop where
  fld : Field F
  bd : ∀ p ∈ F, Bd p
  l9 : F.length ≤ 9
  l2 : 2 ≤ F.length
  lo : Hullish 1 F low
  hi : Hullish (-1) F up
def sp_l_some_lay (K : PySem.W.Frag) : Sp := fun vs H Q _ => ∃ (f : Addr) (x z : V) (m : Nat) (row : Addr) (F low up : List Pt) (M : List T3), vs = [.ref f, x, z] ∧ FeedAt H f row m ∧ m ≤ 30000 ∧ Tp K H x (kF F) ∧ Tp K H z (kM M) ∧ FieldOk F low up ∧ (∀ t ∈ M, Tri F t) ∧ M.length ≤ 729 ∧
  (∀ H', Keep f H H' → FeedAt H' f row (m + 18) → Q .non H') ∧ (∀ (ts ts0 : List T3) (v : V) (H' : Hp), Keep f H H' → FeedAt H' f row (m + 18) → Way M low ts0 up → ts.Perm ts0 → ts.length ≤ 18 → Tp K H' v (kM ts) → Q v H')
abbrev s_l_some_lay : Stmt := top 45
theorem sc_l_some_lay : FnScope ["_law_feed_here", "_law_field_here", "_law_menu_here", "_law_table_here", "_law_front", "_law_found", "_law_turn_here", "_law_steps_here", "_law_step"] ["_law_feed_here", "_law_field_here", "_law_menu_here"] (defScope s_l_some_lay) := ⟨rfl, rfl, rfl, by decide +kernel, rfl, by decide +kernel, by decide +kernel⟩
theorem ok_l_some_lay (B : Bi mg) (C_l_edge : Cal P w K mg base CX0 "_law_edge" 2 ["_law_field_here", "_law_hand"] (sp_l_edge K)) (C_l_over : Cal P w K mg base CX0 "_law_over" 1 ["_law_front", "_law_step"] (sp_l_over K)) (C_l_draw : Cal P w K mg base CX0 "_law_draw" 1 ["_law_feed_here", "_law_many"] (sp_l_draw K)) (C_l_behind : Cal P w K mg base CX0 "_law_behind" 1 ["_law_table_here", "_law_front"] (sp_l_behind P w K)) (C_l_table : Cal P w K mg base CX0 "_law_table" 2 ["_law_menu_here"] (sp_l_table P w K)) (D : Df K mg "_law_some_lay" s_l_some_lay ["_law_feed_here", "_law_field_here", "_law_menu_here"]) : Cal P w K mg base CX0 "_law_some_lay" 3 ["_law_feed_here", "_law_field_here", "_law_menu_here"] (sp_l_some_lay K) := by
  refine D.ok 2 sc_l_some_lay (fun vs H Q E h => ?_) (fun f cdv A outer s H vs Q E hr h => ?_)
  · obtain ⟨f, x, z, m, row, F, low, up, M, rfl, _⟩ := h; rfl
  · obtain ⟨f, x, z, m, row, F, low, up, M, rfl, hF, hm, hx, hz, ok, hM, lM, kn, ks⟩ := h
    refine ⟨_, pss_cons (ps_set (i := 3) sc_l_some_lay.nd rfl (Or.inl rfl) (pe_go C_l_table (hr.mono (by decide)) (pa_cons (pv 2) pa_nil)))
      (pss_cons (ps_set (i := 4) sc_l_some_lay.nd rfl (Or.inl rfl) (pe_go C_l_edge (hr.mono (by decide)) (pa_cons (pv 1) (pa_cons pe_int pa_nil))))
      (pss_cons (ps_set (i := 5) sc_l_some_lay.nd rfl (Or.inl rfl) (pe_lst pa_nil))
      (pss_cons (ps_for PassesOwn.never rfl (pi_range1 (by rfl) B.range (pa_cons (pe_op op_mul pe_int (pe_lenT B (pa_cons (pv 1) pa_nil) : PE _ _ (tCB (rLenT K) _))) pa_nil)) (pg_name (i := 6) sc_l_some_lay.nd rfl (Or.inl rfl))
      (pss_cons (ps_set (i := 7) sc_l_some_lay.nd rfl (Or.inl rfl) (pe_go C_l_behind (hr.mono (by decide)) (pa_cons (pv 3) (pa_cons (pv 4) pa_nil))))
      (pss_one (ps_if (pt_cmpR (op_neL (u64 hr) : OpR _ _ (rEqL K true)) (pv 7) (pe_lst pa_nil) (nomark _))
      (pss_cons (ps_set (i := 8) sc_l_some_lay.nd rfl (Or.inl rfl) (pe_ix (ix_listN : IxR _ (rIxLN K)) (pv 7) (pe_go C_l_draw (hr.mono (by decide)) (pa_cons (pv 0) (pa_cons (pe_lenL B (pa_cons (pv 7) pa_nil) : PE _ _ (tCB (rLenL K) _)) pa_nil))) (fun _ _ => rfl)))
      (pss_cons (ps_expr (pe_bm PySem.F.plainAttrs_list PySem.F.slot_list_append PySem.F.type_list_append mt_append (pv 5) (pa_cons (pe_go C_l_over (hr.mono (by decide)) (pa_cons (pv 4) (pa_cons (pv 8) pa_nil))) pa_nil)))
      (pss_one (ps_set (i := 4) sc_l_some_lay.nd rfl (Or.inl rfl) (pe_ix (ix_tupN : IxR _ (rIxN K)) (pv 8) pe_int (fun _ _ => rfl))))))
      pss_nil))))
      (pss_one (ps_ret (pe_ifExp (pt_cmpR (op_eqN (u64 hr) : OpR _ _ (rEqN K false)) (pv 4) (pe_go C_l_edge (hr.mono (by decide)) (pa_cons (pv 1) (pa_cons (pe_un un_neg pe_int) pa_nil))) (nomark _)) (pe_tupleC B (pa_cons (pe_sortTri B (pa_cons (pv 5) pa_nil) (u65 hr) : PE _ _ (tCB (rSortTri K) _)) pa_nil) : PE _ _ (tCB (rTupN K) _)) pe_non)))))), ?_⟩
    have g0 := Go.start hF
    have bM : ∀ t ∈ M, TBd t := fun t h => tri_bd ok.bd (hM t h)
    have nz : ∀ t ∈ M, turn t.1 t.2.1 t.2.2 ≠ 0 := fun t h => (hM t h).ne
    have frl := ok.lo.front (.inl rfl)
    have lF9 := ok.l9
    refine ⟨_, rfl, z, M, rfl, hz, bM, lM, fun tv H1 s1 tab => ?_⟩
    have g1 := g0.same s1
    refine ⟨_, rfl, x, 1, F, low, rfl, hx.same s1, ok.bd, ok.l9, ok.l2, ok.fld.ris, .inl rfl, ok.lo, fun v0 H2 s2 hv0 => ?_⟩
    have g2 := g1.same s2
    refine ⟨Nat.zero_le _, fun l hl => ?_⟩
    have hl0 := g2.free hl
    have g3 := g2.new (o := .lst []) hl
    have s3 := Same.upd (o := .lst []) hl
    refine ⟨_, rfl, _, _, rfl, (hx.up g3.tx), 2, _, rfl, rfl, .inl ⟨by omega, by omega⟩, _, rfl, ?_⟩
    rw [List.length_map]
    refine ⟨by omega, by omega, ?_⟩
    have hn : (2 * ((F.length : Nat) : Int)).toNat = 2 * F.length := by omega
    rw [hn]
    refine for_it walk_range (fun i σ H4 => ∃ v4 y6 y7 y8 g ts ws, σ = [some (.ref f), some x, some z, some tv, some v4, some (.ref l), y6, y7, y8] ∧ Go f row H H4 m (m + i) ∧ TabAt P w K H4 tv M ∧ Tp K H4 v4 (kF g) ∧ H4 l = some (.lst ws) ∧ TpAll K H4 ws (ts.map kT) ∧ Way M low ts g ∧ ts.length ≤ i) ⟨v0, none, none, none, low, [], [], rfl, g3, (tab.same s2).same s3, hv0.same s3, upd_same, .nil, .nil, Nat.le_refl _⟩ (fun _ _ _ _ _ => trivial) ?_ ?_
    · rintro i y σ H4 H4' hi ⟨v4, y6, y7, y8, g, ts, ws, rfl, g4, tab4, hv4, hws, hw, way, lts⟩ ⟨rfl, rfl⟩
      have fg := way_front hM frl way
      have lg := fr_len ok.fld.ris ok.l2 fg
      refine ⟨_, rfl, _, rfl, tv, v4, M, g, rfl, tab4, hv4, nz, lM, by omega, by omega, fun H5 p ps es s5 hp h5 hps hes les => ?_⟩
      have g5 := g4.same s5
      have lps := hps.length
      rw [List.length_map] at lps
      refine ⟨_, rfl, Nat.zero_le _, fun q hq => ?_⟩
      have s6 := Same.upd (o := .lst []) hq
      have g6 := g5.same s6
      have h6 := s6 _ _ h5
      have hps6 := hps.same s6
      refine ⟨p, q, ps, [], _, [], rfl, rfl, ofL h6, ofL upd_same, hps6, .nil, kS_dep, by simp, _, rfl, ?_⟩
      have s46 := Same.tr s5 s6
      refine ifB (fun c => ?_) (fun c => ?_)
      · have c : es ≠ [] := by
          intro z; subst z; simp at c
        have lpos : 0 < es.length := List.length_pos_iff.mpr c
        refine ⟨_, rfl, _, rfl, _, rfl, p, ps, rfl, ofL h6, f, _, m + i, row, rfl, g6.feed, by omega, by omega, by omega, fun r H7 k7 F7 a0 a1 => ?_⟩
        have g7 := g6.draw k7 F7
        have t7 := g6.feed.tx k7
        have h7 := k7.stays g6.feed h6 lst_nk
        have hps7 := hps6.up t7
        obtain ⟨j, hj⟩ := Int.eq_ofNat_of_zero_le a0
        obtain ⟨st, hst⟩ := at_lt (l := es) (i := j) (by omega)
        refine ⟨p, ps, _, _, _, rfl, ofL h7, hps7, rfl, atI_of hj (map_at hst), fun vs hvs => ?_⟩
        obtain ⟨t, hstep⟩ := (hes st).mp (mem_at hst)
        have hv7 := (hv4.same s46).up t7
        have hws7 := k7.stays g6.feed (s46 _ _ hws) lst_nk
        have hw7 := (hw.same s46).up t7
        have lw := hw.length
        rw [List.length_map] at lw
        refine ⟨_, rfl, .inl ⟨rfl, _, ofL hws7⟩, ?_⟩
        refine ⟨_, rfl, _, rfl, v4, vs, g, st, M, t, rfl, hv7, hvs, hstep, fun vt H8 s8 hvt => ?_⟩
        have hws8 := s8 _ _ hws7
        refine ⟨l, ws, vt, rfl, rfl, hws8, small (by omega), ?_⟩
        have t9 : Tx H8 (upd H8 l (.lst (ws ++ [vt]))) := Tx.lst hws8
        refine ⟨_, rfl, _, _, _, (hvs.same s8).up t9, rfl, rfl, fun v9 hv9 => ?_⟩
        have tab8 := ((tab4.same s46).keep g6.feed k7).same s8
        have g9 := (g7.same s8).own (o := .lst (ws ++ [vt])) hl0
        refine ⟨v9, _, _, _, st.2.2, ts ++ [t], _, rfl, g9.le (by omega), ?_, hv9, upd_same, ?_, way.snoc hstep, by rw [List.length_append]; simp only [List.length_singleton]; omega⟩
        · obtain ⟨a, pp, tt, kp, kt, rfl, q1, q2, q3, q4, q5⟩ := tab8
          obtain ⟨φ1, e1⟩ := q2.there
          obtain ⟨φ2, e2⟩ := q3.there
          have n0 : a ≠ l := ne_of q1 hws8 (by intro z; cases z)
          have n1 : pp ≠ l := ne_of e1 hws8 (by intro z; cases z)
          have n2 : tt ≠ l := ne_of e2 hws8 (by intro z; cases z)
          exact ⟨a, pp, tt, kp, kt, rfl, by rw [upd_ne n0]; exact q1, q2.up t9 (upd_ne n1), q3.up t9 (upd_ne n2), q4.up t9, q5⟩
        · rw [List.map_append]
          exact ((hw7.same s8).snoc hvt).up t9
      · exact ⟨v4, _, _, _, g, ts, ws, rfl, g6.le (by omega), tab4.same s46, hv4.same s46, s46 _ _ hws, hw.same s46, way, by omega⟩
    · rintro σ H4 ⟨v4, y6, y7, y8, g, ts, ws, rfl, g4, tab4, hv4, hws, hw, way, lts⟩
      refine ⟨_, rfl, _, rfl, 1, rfl, x, -1, F, up, rfl, hx.up g4.tx, ok.bd, ok.l9, ok.l2, ok.fld.ris, .inr rfl, ok.hi, fun v5 H5 s5 hv5 => ?_⟩
      have g5 := g4.same s5
      refine ⟨_, _, hv4.same s5, hv5, Nat.le_trans (kF_d g) (by decide), Nat.le_trans (kF_d up) (by decide), _, rfl, ?_⟩
      refine ifB (fun c => ?_) (fun c => ?_)
      · have c : g = up := kF_inj (of_decide_eq_true c)
        subst c
        refine ⟨_, rfl, l, ws, ts, rfl, ofL (s5 _ _ hws), hw.same s5, fun ts' ws' p pt hp hw' => ?_⟩
        have g6 := g5.new (o := .lst ws') hp
        refine ⟨p, ws', _, rfl, ofL upd_same, hw'.up (Tx.new hp), fun v7 H7 s7 hv7 => ?_⟩
        have g7 := (g6.same s7).le (m' := m + 18) (by omega)
        exact ks ts' ts v7 H7 g7.keep g7.feed way pt (by rw [pt.length_eq]; omega) hv7
      · have g6 := g5.le (m' := m + 18) (by omega)
        exact kn H5 g6.keep g6.feed
/-- the steps of the front f, in a list at l -/
def StepL (K : PySem.W.Frag) (H : Hp) (M : List T3) (g : List Pt) (l : Addr) : Prop := ∃ (ws : List V) (es : List S3), H l = some (.lst ws) ∧ TpAll K H ws (es.map kS) ∧ (∀ s, s ∈ es ↔ StepS M g s) ∧ es.length ≤ 10000
theorem StepL.up {K : PySem.W.Frag} {H H' : Hp} {M : List T3} {g : List Pt} {l : Addr} (h : StepL K H M g l) (t : Tx H H') (e : H' l = H l) : StepL K H' M g l := by
  obtain ⟨ws, es, h1, h2, h3⟩ := h
  exact ⟨ws, es, e.trans h1, h2.up t, h3⟩
theorem StepL.lst {K : PySem.W.Frag} {H : Hp} {M : List T3} {g : List Pt} {l : Addr} (h : StepL K H M g l) : ∃ ws, H l = some (.lst ws) := let ⟨ws, _, h1, _⟩ := h; ⟨ws, h1⟩
/-- at d the steps of each of the fronts R -/
def StepsAt (P : Program) (w : World) (K : PySem.W.Frag) (H : Hp) (d : Addr) (M : List T3) (R : List (List Pt)) : Prop := ∃ kvs, ND P w K H d kvs ∧ kvs.map (·.1) = R.map kF ∧ ∀ g ∈ R, ∃ l, valV kvs (kF g) = some (.ref l) ∧ StepL K H M g l
theorem StepsAt.keep {P : Program} {w : World} {K : PySem.W.Frag} {H H' : Hp} {d f row : Addr} {M : List T3} {R : List (List Pt)} {m : Nat} (h : StepsAt P w K H d M R) (F : FeedAt H f row m) (k : Keep f H H') : StepsAt P w K H' d M R := by
  obtain ⟨kvs, h1, h2, h3⟩ := h
  refine ⟨kvs, h1.keep F k, h2, fun g hg => ?_⟩
  obtain ⟨l, h4, h5⟩ := h3 g hg
  obtain ⟨ws, e⟩ := h5.lst
  exact ⟨l, h4, h5.up (F.tx k) ((k.stays F e lst_nk).trans e.symm)⟩
theorem StepsAt.same {P : Program} {w : World} {K : PySem.W.Frag} {H H' : Hp} {d : Addr} {M : List T3} {R : List (List Pt)} (h : StepsAt P w K H d M R) (s : Same H H') : StepsAt P w K H' d M R := by
  obtain ⟨kvs, h1, h2, h3⟩ := h
  refine ⟨kvs, h1.same s, h2, fun g hg => ?_⟩
  obtain ⟨l, h4, h5⟩ := h3 g hg
  obtain ⟨ws, e⟩ := h5.lst
  exact ⟨l, h4, h5.up (Tx.same s) ((s _ _ e).trans e.symm)⟩
theorem TabAt.keepL {P : Program} {w : World} {K : PySem.W.Frag} {H H' : Hp} {v : V} {M : List T3} {rl : Addr} {xs : List V} (h : TabAt P w K H v M) (e : H rl = some (.lst xs)) (k : Keep rl H H') : TabAt P w K H' v M := by
  have t : Tx H H' := ⟨fun b ys q => k b _ (fun z => by rw [z, e] at q; cases q) q, fun b o u q => k b _ (fun z => by rw [z, e] at q; cases q) q⟩
  obtain ⟨a, p, tt, kp, kt, rfl, h1, h2, h3, h4, h5⟩ := h
  obtain ⟨φ1, e1⟩ := h2.there
  obtain ⟨φ2, e2⟩ := h3.there
  exact ⟨a, p, tt, kp, kt, rfl, t.tups _ _ h1, h2.up t ((k _ _ (ne_of e1 e (by intro z; cases z)) e1).trans e1.symm), h3.up t ((k _ _ (ne_of e2 e (by intro z; cases z)) e2).trans e2.symm), h4.up t, h5⟩
def sp_l_steps (P : Program) (w : World) (K : PySem.W.Frag) : Sp := fun vs H Q _ => ∃ (x z : V) (F low up : List Pt) (M : List T3), vs = [x, z] ∧ Tp K H x (kF F) ∧ Tp K H z (kM M) ∧ FieldOk F low up ∧ (∀ t ∈ M, Tri F t) ∧ M.length ≤ 729 ∧
  ∀ (R : List (List Pt)) (d : Addr) (H' : Hp), Same H H' → H d = none → Bfs F M low R R.length → StepsAt P w K H' d M R → Q (.ref d) H'
/-- the walk over the fronts -/
def StW (P : Program) (w : World) (K : PySem.W.Frag) (H Hb : Hp) (F low : List Pt) (M : List T3) (x z tv : V) (rl d : Addr) : Nat → L2.St → Hp → Prop := fun mm σ H1 => ∃ (R : List (List Pt)) (at' : Nat) (kvs : List (NestedKey × V)) (rv : List V) (y6 : Option V), σ = [some x, some z, some tv, some (.ref rl), some (.ref d), some (.int (at' : Nat)), y6] ∧ mm + at' = 1000 ∧ Same H H1 ∧ Keep rl Hb H1 ∧ H1 rl = some (.lst rv) ∧ TpAll K H1 rv (R.map kF) ∧ ND P w K H1 d kvs ∧ kvs.map (·.1) = (R.take at').map kF ∧
  (∀ g ∈ R.take at', ∃ l, valV kvs (kF g) = some (.ref l) ∧ l ≠ rl ∧ StepL K H1 M g l) ∧ Bfs F M low R at'
abbrev s_l_steps : Stmt := top 55
theorem sc_l_steps : FnScope ["_law_field_here", "_law_menu_here", "_law_table_here", "_law_row", "_law_found", "_law_at", "_law_step"] ["_law_field_here", "_law_menu_here"] (defScope s_l_steps) := ⟨rfl, rfl, rfl, by decide +kernel, rfl, by decide +kernel, by decide +kernel⟩
theorem ok_l_steps (B : Bi mg) (C_l_behind : Cal P w K mg base CX0 "_law_behind" 1 ["_law_table_here", "_law_front"] (sp_l_behind P w K)) (C_l_edge : Cal P w K mg base CX0 "_law_edge" 2 ["_law_field_here", "_law_hand"] (sp_l_edge K)) (C_l_table : Cal P w K mg base CX0 "_law_table" 2 ["_law_menu_here"] (sp_l_table P w K)) (D : Df K mg "_law_steps" s_l_steps ["_law_field_here", "_law_menu_here"]) : Cal P w K mg base CX0 "_law_steps" 3 ["_law_field_here", "_law_menu_here"] (sp_l_steps P w K) := by
  refine D.ok 2 sc_l_steps (fun vs H Q E h => ?_) (fun f cdv A outer s H vs Q E hr h => ?_)
  · obtain ⟨x, z, F, low, up, M, rfl, _⟩ := h; rfl
  · obtain ⟨x, z, F, low, up, M, rfl, hx, hz, ok, hM, lM, k⟩ := h
    refine ⟨_, pss_cons (ps_set (i := 2) sc_l_steps.nd rfl (Or.inl rfl) (pe_go C_l_table (hr.mono (by decide)) (pa_cons (pv 1) pa_nil)))
      (pss_cons (ps_set (i := 3) sc_l_steps.nd rfl (Or.inl rfl) (pe_lst (pa_cons (pe_go C_l_edge (hr.mono (by decide)) (pa_cons (pv 0) (pa_cons pe_int pa_nil))) pa_nil)))
      (pss_cons (ps_set (i := 4) sc_l_steps.nd rfl (Or.inl rfl) pe_nnew)
      (pss_cons (ps_set (i := 5) sc_l_steps.nd rfl (Or.inl rfl) pe_int)
      (pss_cons (ps_while PassesOwn.never (pt_cmpR op_lt (pv 5) (pe_lenL B (pa_cons (pv 3) pa_nil) : PE _ _ (tCB (rLenL K) _)) (nomark _))
      (pss_cons (ps_nput (u65 hr) (pv 4) (pe_ix (ix_listN : IxR _ (rIxLN K)) (pv 3) (pv 5) (fun _ _ => rfl)) (pe_go C_l_behind (hr.mono (by decide)) (pa_cons (pv 2) (pa_cons (pe_ix (ix_listN : IxR _ (rIxLN K)) (pv 3) (pv 5) (fun _ _ => rfl)) pa_nil))) rfl)
      (pss_cons (ps_for PassesOwn.never rfl (pi_list (pe_nget (u65 hr) (pv 4) (pe_ix (ix_listN : IxR _ (rIxLN K)) (pv 3) (pv 5) (fun _ _ => rfl)) (fun _ _ => rfl) : PE _ _ (tNGet P w K _ _)) : PI _ _ _ (iList K _)) (pg_name (i := 6) sc_l_steps.nd rfl (Or.inl rfl))
      (pss_one (ps_if (pt_cmpR (op_notInN (u65 hr) : OpR _ _ (rInN K true)) (pe_ix (ix_tupN : IxR _ (rIxN K)) (pv 6) pe_int (fun _ _ => rfl)) (pv 3) rfl)
      (pss_one (ps_expr (pe_bm PySem.F.plainAttrs_list PySem.F.slot_list_append PySem.F.type_list_append mt_append (pv 3) (pa_cons (pe_ix (ix_tupN : IxR _ (rIxN K)) (pv 6) pe_int (fun _ _ => rfl)) pa_nil))))
      pss_nil)))
      (pss_one (ps_set (i := 5) sc_l_steps.nd rfl (Or.inl rfl) (pe_op op_add (pv 5) pe_int))))))
      (pss_one (ps_ret (pv 4))))))), ?_⟩
    have bM : ∀ t ∈ M, TBd t := fun t h => tri_bd ok.bd (hM t h)
    have nz : ∀ t ∈ M, turn t.1 t.2.1 t.2.2 ≠ 0 := fun t h => (hM t h).ne
    have frl := ok.lo.front (.inl rfl)
    have lF9 := ok.l9
    have hri := ok.fld.ris
    refine ⟨_, rfl, z, M, rfl, hz, bM, lM, fun tv H1 s1 tab => ?_⟩
    refine ⟨_, rfl, x, 1, F, low, rfl, hx.same s1, ok.bd, ok.l9, ok.l2, hri, .inl rfl, ok.lo, fun v0 H2 s2 hv0 => ?_⟩
    refine ⟨by show 1 ≤ sizeLine; decide, fun rl hrl => ?_⟩
    have s3 := Same.upd (o := .lst [v0]) hrl
    intro d hd hds
    have s4 := Same.upd (o := EK P w d []) hd
    have s14 := Same.tr s1 (Same.tr s2 (Same.tr s3 s4))
    have hrl0 : H rl = none := s1.free (s2.free hrl)
    have hd0 : H d = none := s1.free (s2.free (s3.free hd))
    have nrd : rl ≠ d := fun z => by subst z; rw [upd_same] at hd; cases hd
    obtain ⟨Hb, eHb⟩ : ∃ Hb, Hb = upd H2 rl (.lst [v0]) := ⟨_, rfl⟩
    rw [← eHb] at s3 s4 hd s14 ⊢
    have hbrl : Hb rl = some (.lst [v0]) := by rw [eHb]; exact upd_same
    have tabb : TabAt P w K Hb tv M := (tab.same s2).same s3
    refine ⟨StW P w K H Hb F low M x z tv rl d, ⟨1000, [low], 0, [], [v0], none, rfl, rfl, s14, Keep.same s4, s4 _ _ hbrl, .cons ((hv0.same s3).same s4) .nil, ND.new hds, rfl, fun g hg => (by simp at hg), Bfs.start frl⟩, ?_⟩
    rintro mm σ H5 ⟨R, at', kvs, rv, y6, rfl, em, s5, kb5, hrv, hR, nd5, ekv, sv, B⟩
    have tab5 := tabb.keepL hbrl kb5
    have lR : R.length ≤ 512 := fronts_len hri ok.l9 B.nd B.fr
    have lrv := hR.length
    rw [List.length_map] at lrv
    refine ⟨_, rfl, _, rfl, rl, rv, rfl, ofL hrv, _, _, rfl, rfl, _, rfl, ?_⟩
    refine ifB (fun c => ?_) (fun c => ?_)
    · have c : ((at' : Nat) : Int) < ((rv.length : Nat) : Int) := of_decide_eq_true c
      have hat : at' < R.length := by omega
      obtain ⟨f0, hf0⟩ := at_lt hat
      have fr0 := B.fr f0 (mem_at hf0)
      have l0 := fr_len hri ok.l2 fr0
      refine ⟨StW P w K H Hb F low M x z tv rl d (mm - 1), fun σ' H' q => ⟨_, by omega, q⟩, ?_⟩
      -- found[row[at]] = behind(table, row[at])
      refine ⟨_, rfl, _, rfl, _, rfl, rl, rv, _, _, _, rfl, ofL hrv, hR, rfl, atI_of rfl (map_at hf0), fun v6 hv6 => ?_⟩
      refine ⟨tv, v6, M, f0, rfl, tab5, hv6, nz, lM, by omega, by omega, fun H6 p ps es s6 hp h6 hps hes les => ?_⟩
      have hrv6 := s6 _ _ hrv
      have hR6 := hR.same s6
      have npr : p ≠ rl := fun z => by subst z; rw [hrv] at hp; cases hp
      have lkv : kvs.length = (R.take at').length := by have := congrArg List.length ekv; simpa using this
      rw [List.length_take] at lkv
      refine ⟨_, rfl, _, rfl, _, rfl, rl, rv, _, _, _, rfl, ofL hrv6, hR6, rfl, atI_of rfl (map_at hf0), fun v7 hv7 => ?_⟩
      refine ⟨d, kvs, _, rfl, nd5.same s6, hv7, Nat.le_trans (kF_d f0) (by decide), small (by omega), fun H7 nd7 ⟨o7, e7⟩ => ?_⟩
      obtain ⟨φ, hφ⟩ := (nd5.same s6).there
      have t7 : Tx H6 H7 := by rw [e7]; exact Tx.ext hφ
      have npd : p ≠ d := ne_of h6 hφ (by intro z; cases z)
      have h7 : H7 p = some (.lst ps) := by rw [e7, upd_ne npd]; exact h6
      have hrv7 : H7 rl = some (.lst rv) := by rw [e7, upd_ne nrd]; exact hrv6
      have s7 : Same H H7 := by rw [e7]; exact Same.own (Same.tr s5 s6) hd0
      have kb7 : Keep rl Hb H7 := by rw [e7]; exact (kb5.trans (Keep.same s6)).own hd
      have nof : valV kvs (kF f0) = none := by
        cases q : valV kvs (kF f0) with
        | none => rfl
        | some u =>
          have := valV_in q
          rw [ekv] at this
          obtain ⟨g, hg, eg⟩ := List.mem_map.mp this
          have eg := kF_inj eg
          subst eg
          exfalso
          have nd := B.nd
          rw [← List.take_append_drop at' R, drop_at hf0] at nd
          exact (List.nodup_append.mp nd).2.2 g hg g (by simp) rfl
      have ekv7 : putK kvs (kF f0) (.ref p) = kvs ++ [(kF f0, .ref p)] := putK_new _ nof
      have ekeys7 : (putK kvs (kF f0) (.ref p)).map (·.1) = (R.take (at' + 1)).map kF := by
        rw [ekv7, List.map_append, ekv, take_next hf0, List.map_append]; rfl
      have hval7 : valV (putK kvs (kF f0) (.ref p)) (kF f0) = some (.ref p) := by rw [valV_put, if_pos rfl]
      have sv7 : ∀ g ∈ R.take (at' + 1), ∃ l, valV (putK kvs (kF f0) (.ref p)) (kF g) = some (.ref l) ∧ l ≠ rl ∧ StepL K H7 M g l := fun g hg => by
        rw [take_next hf0] at hg
        rcases List.mem_append.mp hg with hg | hg
        · obtain ⟨l, a1, a2, a3⟩ := sv g hg
          have nk : ¬ kF g = kF f0 := fun z => by
            have z := kF_inj z
            subst z
            rw [nof] at a1; cases a1
          obtain ⟨lw, el⟩ := a3.lst
          have el6 := s6 _ _ el
          have nld : l ≠ d := ne_of el6 hφ (by intro z; cases z)
          exact ⟨l, by rw [valV_put, if_neg nk]; exact a1, a2, a3.up ((Tx.same s6).trans t7) (by rw [e7, upd_ne nld]; exact el6.trans el.symm)⟩
        · rw [List.mem_singleton] at hg
          subst hg
          exact ⟨p, hval7, npr, ps, es, h7, hps.up t7, hes, les⟩
      obtain ⟨kv7, hkv7⟩ : ∃ kv7, kv7 = putK kvs (kF f0) (.ref p) := ⟨_, rfl⟩
      have nd7' : ND P w K H7 d kv7 := by rw [hkv7]; exact nd7
      rw [← hkv7] at ekeys7 hval7 sv7
      clear nd7
      -- for step in found[row[at]]
      refine ⟨_, rfl, _, rfl, _, rfl, rl, rv, _, _, _, rfl, ofL hrv7, hR6.up t7, rfl, atI_of rfl (map_at hf0), fun v8 hv8 => ?_⟩
      refine ⟨d, kv7, _, _, rfl, nd7', hv8, Nat.le_trans (kF_d f0) (by decide), hval7, p, rfl, ⟨ps, ofL h7⟩, ?_⟩
      refine for_it (walk_ls (a := p) (hps.up t7)) (fun j σ H8 => ∃ X rv8 y6, σ = [some x, some z, some tv, some (.ref rl), some (.ref d), some (.int (at' : Nat)), y6] ∧ Same H H8 ∧ Keep rl Hb H8 ∧ Tx H7 H8 ∧ H8 p = some (.lst ps) ∧ H8 rl = some (.lst rv8) ∧ TpAll K H8 rv8 ((R ++ X).map kF) ∧ ND P w K H8 d kv7 ∧ (∀ g ∈ R.take (at' + 1), ∃ l, valV kv7 (kF g) = some (.ref l) ∧ l ≠ rl ∧ StepL K H8 M g l) ∧ Bfs1 F M low (R ++ X) at' f0 (fun f => ∃ s ∈ es.take j, f = s.2.2)) ⟨[], rv, y6, rfl, s7, kb7, Tx.refl _, h7, hrv7, by rw [List.append_nil]; exact hR6.up t7, nd7', sv7, by rw [List.append_nil]; exact (B.enter hf0).weak (fun f ⟨s, h, _⟩ => by simp at h)⟩ (fun j σ H8 _ ⟨_, _, _, _, _, _, t, h8, _⟩ => ⟨ofL h8, t⟩) ?_ ?_
      · rintro j y σ H8 H8' hj ⟨X, rv8, y6, rfl, s8, kb8, t8, h8, hrv8, hR8, nd8, sv8, B1⟩ ⟨rfl, q, hq, hy⟩
        obtain ⟨st, hst, rfl⟩ := get_map hq
        obtain ⟨t, hstep⟩ := (hes st).mp (mem_at hst)
        have lR8 : (R ++ X).length ≤ 512 := fronts_len hri ok.l9 B1.nd B1.fr
        have lrv8 := hR8.length
        rw [List.length_map] at lrv8
        have seen : ∀ (f : List Pt), (∃ s ∈ es.take (j + 1), f = s.2.2) → (∃ s ∈ es.take j, f = s.2.2) ∨ f = st.2.2 := fun f ⟨s, hs, e⟩ => by
          rw [take_next hst] at hs
          rcases List.mem_append.mp hs with hs | hs
          · exact .inl ⟨s, hs, e⟩
          · rw [List.mem_singleton] at hs; subst hs; exact .inr e
        refine ⟨_, rfl, _, _, _, hy, rfl, rfl, fun v9 hv9 => ?_⟩
        refine ⟨_, rfl, rl, kF st.2.2, rv8, _, rfl, hv9, .inl (ofL hrv8), hR8, Nat.le_trans (kF_d _) (by decide), kF_dep, _, rfl, ?_⟩
        refine ifB (fun c => ?_) (fun c => ?_)
        · have nin : st.2.2 ∉ R ++ X := fun z => by
            have c : ¬ kF st.2.2 ∈ (R ++ X).map kF := by simpa using c
            exact c (List.mem_map.mpr ⟨_, z, rfl⟩)
          refine ⟨_, rfl, .inl ⟨rfl, _, ofL hrv8⟩, ?_⟩
          refine ⟨_, rfl, _, _, _, hy, rfl, rfl, fun v10 hv10 => ?_⟩
          refine ⟨rl, rv8, v10, rfl, rfl, hrv8, small (by omega), ?_⟩
          have t9 : Tx H8' (upd H8' rl (.lst (rv8 ++ [v10]))) := Tx.lst hrv8
          refine ⟨X ++ [st.2.2], _, _, rfl, Same.own s8 hrl0, kb8.trans Keep.upd, t8.trans t9, by rw [upd_ne npr]; exact h8, upd_same, ?_, nd8.up t9 (upd_ne nrd.symm), fun g hg => ?_, ?_⟩
          · rw [← List.append_assoc, List.map_append]
            exact (hR8.snoc hv10).up t9
          · obtain ⟨l, a1, a2, a3⟩ := sv8 g hg
            exact ⟨l, a1, a2, a3.up t9 (upd_ne a2)⟩
          · rw [← List.append_assoc]
            refine (B1.more hri hM hstep nin).weak fun f hf => ?_
            rcases seen f hf with h | h
            · exact .inl (.inl h)
            · exact .inl (.inr h)
        · have yin : st.2.2 ∈ R ++ X := by
            have c : kF st.2.2 ∈ (R ++ X).map kF := of_decide_eq_true (nfT c)
            obtain ⟨g, hg, e⟩ := List.mem_map.mp c
            rw [← kF_inj e]; exact hg
          refine ⟨X, rv8, _, rfl, s8, kb8, t8, h8, hrv8, hR8, nd8, sv8, B1.weak fun f hf => ?_⟩
          rcases seen f hf with h | h
          · exact .inl h
          · exact .inr (h ▸ yin)
      · rintro σ H8 ⟨X, rv8, y6, rfl, s8, kb8, t8, h8, hrv8, hR8, nd8, sv8, B1⟩
        rw [List.length_map, List.take_length] at B1
        have etk : (R ++ X).take (at' + 1) = R.take (at' + 1) := List.take_append_of_le_length (by omega)
        refine ⟨_, rfl, _, _, rfl, rfl, ?_⟩
        refine ⟨R ++ X, at' + 1, kv7, rv8, _, rfl, by omega, s8, kb8, hrv8, hR8, nd8, by rw [etk]; exact ekeys7, by rw [etk]; exact sv8, B1.leave fun kk gg t f' hs => ?_⟩
        exact ⟨(kk, gg, f'), (hes _).mpr ⟨t, hs⟩, rfl⟩
    · have c : ¬ ((at' : Nat) : Int) < ((rv.length : Nat) : Int) := of_decide_eq_false c
      have eat : at' = R.length := by have := B.hi; omega
      subst eat
      rw [List.take_length] at ekv sv
      refine ⟨_, rfl, k R d H5 s5 hd0 B ⟨kvs, nd5, ekv, fun g hg => ?_⟩⟩
      obtain ⟨l, h1, _, h2⟩ := sv g hg
      exact ⟨l, h1, h2⟩
end
end Tl

end
-- D17
section
set_option maxHeartbeats 200000
namespace Tl
open PySem PySem.Spec PyProof.Rows L2
theorem step_one {M : List T3} {g f' : List Pt} {k : Nat} {gg : Bool} {t t' : T3} (h : Step M g k gg t f') (h' : Step M g k gg t' f') : t = t' := by
  have e1 := (step_over h).1
  have e2 := (step_over h').1
  rw [e1] at e2
  injection e2 with a e2
  injection e2 with b e2
  injection e2 with c _
  exact Prod.ext a (Prod.ext b c)
/-- the number that a step lets -/
noncomputable def wS (M : List T3) (wt : E2 → Int) (N : List Pt → Int) (g : List Pt) (s : S3) : Int := by
  classical exact if h : ∃ t, Step M g s.1 s.2.1 t s.2.2 then N s.2.2 + freshW wt h.choose else 0
theorem wS_eq {M : List T3} {wt : E2 → Int} {N : List Pt → Int} {g : List Pt} {s : S3} {t : T3} (h : Step M g s.1 s.2.1 t s.2.2) : wS M wt N g s = N s.2.2 + freshW wt t := by
  unfold wS
  have hh : ∃ t, Step M g s.1 s.2.1 t s.2.2 := ⟨t, h⟩
  rw [dif_pos hh, step_one hh.choose_spec h]
/-- at d the numbers N of the fronts L, in this order -/
def NumAt (P : Program) (w : World) (K : PySem.W.Frag) (H : Hp) (d : Addr) (L : List (List Pt)) (N : List Pt → Int) : Prop := ∃ kvs, ND P w K H d kvs ∧ kvs.map (·.1) = L.map kF ∧ ∀ g ∈ L, valV kvs (kF g) = some (.int (N g))
theorem NumAt.same {P : Program} {w : World} {K : PySem.W.Frag} {H H' : Hp} {d : Addr} {L : List (List Pt)} {N : List Pt → Int} (h : NumAt P w K H d L N) (s : Same H H') : NumAt P w K H' d L N := let ⟨kvs, h1, h2⟩ := h; ⟨kvs, h1.same s, h2⟩
theorem NumAt.keep {P : Program} {w : World} {K : PySem.W.Frag} {H H' : Hp} {d f row : Addr} {L : List (List Pt)} {N : List Pt → Int} {m : Nat} (h : NumAt P w K H d L N) (F : FeedAt H f row m) (k : Keep f H H') : NumAt P w K H' d L N := let ⟨kvs, h1, h2⟩ := h; ⟨kvs, h1.keep F k, h2⟩
def kR (N : List Pt → Int) (g : List Pt) : NestedKey := .tup [kF g, .num (N g)]
def kP (L : List (List Pt)) (N : List Pt → Int) : NestedKey := .tup (L.map (kR N))
/-- the front g has a number above what a step lets -/
def Off (M : List T3) (wt : E2 → Int) (N : List Pt → Int) (g : List Pt) : Prop := ∃ k gg t f', Step M g k gg t f' ∧ N f' + freshW wt t < N g
section
variable {P : Program} {w : World} {K : PySem.W.Frag} {mg : Str → Option Value} {base : Heap}
def sp_l_most (P : Program) (w : World) (K : PySem.W.Frag) : Sp := fun vs H Q _ => ∃ (h d l : Addr) (T : List E2) (wt : E2 → Int) (N : List Pt → Int) (M : List T3) (g : List Pt) (kvs : List (NestedKey × V)), vs = [.ref h, .ref d, .ref l] ∧ Heavy P w K H h T wt ∧ ND P w K H d kvs ∧ StepL K H M g l ∧
  (∀ k gg t f', Step M g k gg t f' → valV kvs (kF f') = some (.int (N f')) ∧ f'.length ≤ 1000) ∧ (∃ s, StepS M g s) ∧ (∀ t ∈ M, ∀ e ∈ newt t, e ∈ T) ∧
  ∀ (n : Int) (H' : Hp), Same H H' → (∃ k gg t f', Step M g k gg t f' ∧ n = N f' + freshW wt t) → (∀ k gg t f', Step M g k gg t f' → n ≤ N f' + freshW wt t) → Q (.int n) H'
abbrev s_l_most : Stmt := top 56
theorem sc_l_most : FnScope ["_law_heavy", "_law_numbers_here", "_law_steps_here", "_law_step"] ["_law_heavy", "_law_numbers_here", "_law_steps_here"] (defScope s_l_most) := ⟨rfl, rfl, rfl, by decide +kernel, rfl, by decide +kernel, by decide +kernel⟩
theorem ok_l_most (B : Bi mg) (C_l_fresh : Cal P w K mg base CX0 "_law_fresh" 1 ["_law_heavy", "_law_step"] (sp_l_fresh P w K)) (D : Df K mg "_law_most" s_l_most ["_law_heavy", "_law_numbers_here", "_law_steps_here"]) : Cal P w K mg base CX0 "_law_most" 2 ["_law_heavy", "_law_numbers_here", "_law_steps_here"] (sp_l_most P w K) := by
  refine D.ok 1 sc_l_most (fun vs H Q E h => ?_) (fun f cdv A outer s H vs Q E hr h => ?_)
  · obtain ⟨h, d, l, T, wt, N, M, g, kvs, rfl, _⟩ := h; rfl
  · obtain ⟨hh, d, l, T, wt, N, M, g, kvs, rfl, hv, nd, ⟨ws, es, hl, hw, hes, les⟩, hval, ⟨s0, hs0⟩, hnT, k⟩ := h
    refine ⟨_, pss_one (ps_ret (pe_minL B (pa_cons (pe_lc (own := [("_law_step", 3)]) (g := gName 3) (tt := tYes) rfl sc_l_most.nd (pi_list (pv 2) : PI _ _ _ (iList K _)) (blkOk_by (N := ["_law_heavy", "_law_numbers_here", "_law_steps_here", "_law_step"]) (sc := defScope s_l_most) (by decide +kernel)) (fun _ _ _ _ _ => pg_name (i := 3) sc_l_most.nd rfl (Or.inl rfl)) (fun _ _ _ _ _ => pts_nil) (fun _ _ _ _ _ => pe_op op_add (pe_nget (u65 hr) (pv 1) (pe_ix (ix_tupN : IxR _ (rIxN K)) (pv 3) pe_int (fun _ _ => rfl)) (fun _ _ => rfl) : PE _ _ (tNGet P w K _ _)) (pe_go C_l_fresh (hr.mono (by decide)) (pa_cons (pv 0) (pa_cons (pv 3) pa_nil))))) pa_nil) : PE _ _ (tCB (rMin K) _))), ?_⟩
    refine ⟨_, rfl, l, rfl, ⟨ws, ofL hl⟩, fun D hD => ?_⟩
    refine lc_vals (walk_ls (a := l) hw) hD (fun i => (es.take i).map fun s => V.int (wS M wt N g s)) rfl (fun i hi => ?_) (fun H' s => ⟨seqL (ofL hl) s, Tx.same s⟩) YTp.same ?_ ?_
    · show ((es.take i).map fun s => V.int (wS M wt N g s)).length ≤ 100000
      rw [List.length_map, List.length_take]; omega
    · rintro i y H1 H2 hi s1 ⟨rfl, q, hq, hy⟩ T' F' hT _
      obtain ⟨st, hst, rfl⟩ := get_map hq
      obtain ⟨t, hstep⟩ := (hes st).mp (mem_at hst)
      obtain ⟨hv1, hv2⟩ := hval _ _ _ _ hstep
      refine ⟨rfl, ?_⟩
      refine ⟨_, rfl, _, rfl, _, _, _, hy, rfl, rfl, fun v hv' => ?_⟩
      refine ⟨d, kvs, _, _, rfl, nd.same s1, hv', Nat.le_trans (kF_d st.2.2) (by decide), hv1, ?_⟩
      refine ⟨_, rfl, _, rfl, hh, y, T, wt, g, st, M, t, rfl, hv.same s1, hy, hstep, hnT t hstep.1, hv2, fun H3 s3 => ?_⟩
      refine ⟨_, _, rfl, rfl, hT _ _ s3 ?_⟩
      show ((es.take (i + 1)).map fun s => V.int (wS M wt N g s)) = _ ++ [V.int (N st.2.2 + freshW wt t)]
      rw [take_next hst, List.map_append, ← wS_eq (N := N) (wt := wt) hstep]; rfl
    · intro H1 s1 hD1
      rw [List.length_map, List.take_length] at hD1
      refine ⟨D, es.map (wS M wt N g), rfl, ofL ?_, ?_, fun n hn hle => ?_⟩
      · rw [hD1, List.map_map]; rfl
      · rw [List.length_map]; exact List.length_pos_of_mem ((hes s0).mpr hs0)
      · obtain ⟨st, hst, rfl⟩ := List.mem_map.mp hn
        obtain ⟨t, hstep⟩ := (hes st).mp hst
        refine k _ H1 s1 ⟨st.1, st.2.1, t, st.2.2, hstep, wS_eq hstep⟩ fun kk gg t' f' hs' => ?_
        have := hle _ (List.mem_map.mpr ⟨(kk, gg, f'), (hes _).mpr ⟨t', hs'⟩, rfl⟩)
        rw [wS_eq (s := (kk, gg, f')) hs'] at this
        exact this
def sp_l_paper (P : Program) (w : World) (K : PySem.W.Frag) : Sp := fun vs H Q _ => ∃ (f d : Addr) (m : Nat) (row : Addr) (L : List (List Pt)) (N : List Pt → Int), vs = [.ref f, .ref d] ∧ FeedAt H f row m ∧ m ≤ 30000 ∧ NumAt P w K H d L N ∧ L.length ≤ 512 ∧
  ∀ (L' : List (List Pt)) (v : V) (H' : Hp), Keep f H H' → FeedAt H' f row (m + 512) → L'.Perm L → Tp K H' v (kP L' N) → Q v H'
abbrev s_l_paper : Stmt := top 58
theorem sc_l_paper : FnScope ["_law_feed_here", "_law_numbers_here", "_law_left", "_law_rows", "_law_turn_here", "_law_at"] ["_law_feed_here", "_law_numbers_here"] (defScope s_l_paper) := ⟨rfl, rfl, rfl, by decide +kernel, rfl, by decide +kernel, by decide +kernel⟩
theorem ok_l_paper (B : Bi mg) (C_l_draw : Cal P w K mg base CX0 "_law_draw" 1 ["_law_feed_here", "_law_many"] (sp_l_draw K)) (D : Df K mg "_law_paper" s_l_paper ["_law_feed_here", "_law_numbers_here"]) : Cal P w K mg base CX0 "_law_paper" 2 ["_law_feed_here", "_law_numbers_here"] (sp_l_paper P w K) := by
  refine D.ok 1 sc_l_paper (fun vs H Q E h => ?_) (fun f cdv A outer s H vs Q E hr h => ?_)
  · obtain ⟨f, d, m, row, L, N, rfl, _⟩ := h; rfl
  · obtain ⟨f, d, m, row, L, N, rfl, hF, hm, ⟨kvs, nd, ekv, hval⟩, l512, k⟩ := h
    refine ⟨_, pss_cons (ps_set (i := 2) sc_l_paper.nd rfl (Or.inl rfl) (pe_listN B (pa_cons (pv 1) pa_nil) : PE _ _ (tCB (rNList P w K) _)))
      (pss_cons (ps_set (i := 3) sc_l_paper.nd rfl (Or.inl rfl) (pe_lst pa_nil))
      (pss_cons (ps_for PassesOwn.never rfl (pi_range1 (by rfl) B.range (pa_cons (pe_lenN B (pa_cons (pv 1) pa_nil) : PE _ _ (tCB (rNLen P w K) _)) pa_nil)) (pg_name (i := 4) sc_l_paper.nd rfl (Or.inl rfl))
      (pss_cons (ps_set (i := 5) sc_l_paper.nd rfl (Or.inl rfl) (pe_go C_l_draw (hr.mono (by decide)) (pa_cons (pv 0) (pa_cons (pe_lenL B (pa_cons (pv 2) pa_nil) : PE _ _ (tCB (rLenL K) _)) pa_nil))))
      (pss_cons (ps_expr (pe_bm PySem.F.plainAttrs_list PySem.F.slot_list_append PySem.F.type_list_append mt_append (pv 3) (pa_cons (pe_tupN (pa_cons (pe_ix (ix_listN : IxR _ (rIxLN K)) (pv 2) (pv 5) (fun _ _ => rfl)) (pa_cons (pe_nget (u65 hr) (pv 1) (pe_ix (ix_listN : IxR _ (rIxLN K)) (pv 2) (pv 5) (fun _ _ => rfl)) (fun _ _ => rfl) : PE _ _ (tNGet P w K _ _)) pa_nil)) : PE _ _ (tTupN K _)) pa_nil)))
      (pss_one (ps_set (i := 2) sc_l_paper.nd rfl (Or.inl rfl) (pe_op op_cat (pe_slice (sl_list : SlR _ (rSlL K)) (pv 2) po_none (po_some (pv 5))) (pe_slice (sl_list : SlR _ (rSlL K)) (pv 2) (po_some (pe_op op_add (pv 5) pe_int)) po_none)))))))
      (pss_one (ps_ret (pe_tupleC B (pa_cons (pv 3) pa_nil) : PE _ _ (tCB (rTupN K) _)))))), ?_⟩
    have g0 := Go.start hF
    have lkv : kvs.length = L.length := by have := congrArg List.length ekv; simpa using this
    refine ⟨_, rfl, d, kvs, rfl, nd, fun ll left0 hll hl0 => ?_⟩
    have g1 := g0.new (o := .lst left0) hll
    have s1 := Same.upd (o := .lst left0) hll
    rw [ekv] at hl0
    refine ⟨Nat.zero_le _, fun rr hrr => ?_⟩
    have s2 := Same.upd (o := .lst []) hrr
    have g2 := g1.same s2
    have hrr0 := g1.free hrr
    refine ⟨_, rfl, d, kvs, rfl, (nd.same s1).same s2, _, rfl, by omega, by omega, ?_⟩
    have hn : (((kvs.length : Nat) : Int)).toNat = L.length := by omega
    rw [hn]
    refine for_it walk_range (fun i σ H3 => ∃ ll y4 y5 A B lv rv, σ = [some (.ref f), some (.ref d), some (.ref ll), some (.ref rr), y4, y5] ∧ Go f row H H3 m (m + i) ∧ H3 ll = some (.lst lv) ∧ TpAll K H3 lv (B.map kF) ∧ H3 rr = some (.lst rv) ∧ TpAll K H3 rv (A.map (kR N)) ∧ (A ++ B).Perm L ∧ A.length = i ∧ ll ≠ rr) ⟨ll, none, none, [], L, left0, [], rfl, g2, s2 _ _ upd_same, (hl0.up (Tx.new hll)).same s2, upd_same, .nil, List.Perm.refl _, rfl, fun z => by subst z; rw [upd_same] at hrr; cases hrr⟩ (fun _ _ _ _ _ => trivial) ?_ ?_
    · rintro i y σ H3 H3' hi ⟨ll, y4, y5, A, B, lv, rv, rfl, g3, hlv, hB, hrv, hA, pm, lA, nlr⟩ ⟨rfl, rfl⟩
      have llv := hB.length
      rw [List.length_map] at llv
      have lrv := hA.length
      rw [List.length_map] at lrv
      have lAB := pm.length_eq
      rw [List.length_append] at lAB
      refine ⟨_, rfl, _, rfl, ll, lv, rfl, ofL hlv, f, _, m + i, row, rfl, g3.feed, by omega, by omega, by omega, fun r H4 k4 F4 a0 a1 => ?_⟩
      have g4 := g3.draw k4 F4
      have t4 := g3.feed.tx k4
      have hlv4 := k4.stays g3.feed hlv lst_nk
      have hrv4 := k4.stays g3.feed hrv lst_nk
      have hB4 := hB.up t4
      obtain ⟨j, hj⟩ := Int.eq_ofNat_of_zero_le a0
      have hjB : j < B.length := by omega
      obtain ⟨g, hg⟩ := at_lt hjB
      have gL : g ∈ L := pm.mem_iff.mp (List.mem_append_right _ (mem_at hg))
      have nd4 := nd.keep hF g4.keep
      refine ⟨_, rfl, .inl ⟨rfl, _, ofL hrv4⟩, ?_⟩
      refine ⟨_, rfl, _, rfl, ll, lv, _, _, _, rfl, ofL hlv4, hB4, rfl, atI_of hj (map_at hg), fun v1 hv1 => ?_⟩
      refine ⟨_, rfl, _, rfl, _, rfl, ll, lv, _, _, _, rfl, ofL hlv4, hB4, rfl, atI_of hj (map_at hg), fun v2 hv2 => ?_⟩
      refine ⟨d, kvs, _, _, rfl, nd4, hv2, Nat.le_trans (kF_d g) (by decide), hval g gL, ?_⟩
      refine ⟨by show 2 ≤ 1000; decide, _, tps2 hv1 (.int _), fun v3 H5 s5 hv3 => ?_⟩
      have g5 := g4.same s5
      have hrv5 := s5 _ _ hrv4
      refine ⟨rr, rv, v3, rfl, rfl, hrv5, small (by omega), ?_⟩
      have t6 : Tx H5 (upd H5 rr (.lst (rv ++ [v3]))) := Tx.lst hrv5
      have g6 := g5.own (o := .lst (rv ++ [v3])) hrr0
      have hlv5 := s5 _ _ hlv4
      obtain ⟨H6, eH6⟩ : ∃ H6, H6 = upd H5 rr (.lst (rv ++ [v3])) := ⟨_, rfl⟩
      have hrv6 : H6 rr = some (.lst (rv ++ [v3])) := by rw [eH6]; exact upd_same
      have hlv6 : H6 ll = some (.lst lv) := by rw [eH6, upd_ne nlr]; exact hlv5
      rw [← eH6] at t6 g6 ⊢
      have hB6 := (hB4.same s5).up t6
      have hA6 := ((hA.up t4).same s5).up t6
      have hv6 := hv3.up t6
      refine ⟨_, rfl, _, rfl, _, rfl, ll, lv, rfl, ofL hlv6, fun p1 hp1 => ?_⟩
      have s7 := Same.upd (o := .lst (cutV lv none (some r))) hp1
      refine ⟨_, rfl, _, rfl, _, _, rfl, rfl, _, rfl, ll, lv, rfl, ofL (s7 _ _ hlv6), fun p2 hp2 => ?_⟩
      have s8 := Same.upd (o := .lst (cutV lv (some (r + 1)) none)) hp2
      have c1 : cutV lv none (some r) = lv.take j := cut_to (j := j) hj
      have c2 : cutV lv (some (r + 1)) none = lv.drop (j + 1) := cut_from (j := j + 1) (by omega)
      refine ⟨p1, p2, _, _, rfl, rfl, s8 _ _ upd_same, upd_same, ?_, fun p3 hp3 => ?_⟩
      · rw [c1, c2, List.length_take, List.length_drop]; exact thousand (by omega)
      have s9 := Same.upd (o := .lst (cutV lv none (some r) ++ cutV lv (some (r + 1)) none)) hp3
      have s69 := Same.tr s7 (Same.tr s8 s9)
      have n3 : p3 ≠ rr := fun z => by
        subst z
        have := s8 _ _ (s7 _ _ hrv6)
        rw [this] at hp3; cases hp3
      refine ⟨p3, _, _, A ++ [g], B.take j ++ B.drop (j + 1), _, rv ++ [v3], rfl, (g6.same s69).le (by omega), upd_same, ?_, s69 _ _ hrv6, ?_, ?_, by rw [List.length_append, lA]; rfl, n3⟩
      · have q := ((hB6.take j).append (hB6.drop (j + 1))).same s69
        rw [← c1, ← c2, ← List.map_take, ← List.map_drop, ← List.map_append] at q
        exact q
      · rw [List.map_append]
        exact (hA6.snoc hv6).same s69
      · refine List.Perm.trans ?_ pm
        rw [List.append_assoc]
        refine List.Perm.append_left A ?_
        have e : B = B.take j ++ g :: B.drop (j + 1) := by rw [← drop_at hg, List.take_append_drop]
        refine List.Perm.trans ?_ (List.Perm.of_eq e.symm)
        exact (List.perm_middle (a := g) (l₁ := B.take j) (l₂ := B.drop (j + 1))).symm
    · rintro σ H3 ⟨ll, y4, y5, A, B, lv, rv, rfl, g3, hlv, hB, hrv, hA, pm, lA, nlr⟩
      have lAB := pm.length_eq
      rw [List.length_append] at lAB
      have eB : B = [] := List.eq_nil_of_length_eq_zero (by omega)
      subst eB
      rw [List.append_nil] at pm
      refine ⟨_, rfl, rr, rv, _, rfl, ofL hrv, hA, fun v H4 s4 hv => ?_⟩
      have g4 := (g3.same s4).le (m' := m + 512) (by omega)
      exact k A v H4 g4.keep g4.feed pm hv
/-- what is asked of the numbers N -/
structure NumOk (M : List T3) (wt : E2 → Int) (up : List Pt) (L : List (List Pt)) (N : List Pt → Int) : Prop where
  lo : ∀ g ∈ L, -3000001 ≤ N g
  hi : ∀ g ∈ L, N g ≤ 10000000
  lets : ∀ g ∈ L, ∀ k gg t f', Step M g k gg t f' → N g ≤ N f' + freshW wt t
  top : up ∈ L → N up = 0
theorem NumOk.more {M : List T3} {wt : E2 → Int} {up g : List Pt} {L : List (List Pt)} {N : List Pt → Int} {v : Int} (h : NumOk M wt up L N) (nin : g ∉ L) (later : ∀ kk gg t f', Step M g kk gg t f' → f' ∈ L) (b : -3000001 ≤ v ∧ v ≤ 10000000)
    (hl : ∀ kk gg t f', Step M g kk gg t f' → v ≤ N f' + freshW wt t) (hu : g = up → v = 0) (clo : ∀ g' ∈ L, ∀ kk gg t f', Step M g' kk gg t f' → f' ≠ g := by assumption) : NumOk M wt up (L ++ [g]) (fun g' => if g' = g then v else N g') := by
  have ne : ∀ g' ∈ L, g' ≠ g := fun g' h z => nin (z ▸ h)
  refine ⟨fun g' hg => ?_, fun g' hg => ?_, fun g' hg kk gg t f' hs => ?_, fun hg => ?_⟩
  · rcases List.mem_append.mp hg with q | q
    · rw [if_neg (ne g' q)]; exact h.lo g' q
    · rw [List.mem_singleton] at q; rw [if_pos q]; exact b.1
  · rcases List.mem_append.mp hg with q | q
    · rw [if_neg (ne g' q)]; exact h.hi g' q
    · rw [List.mem_singleton] at q; rw [if_pos q]; exact b.2
  · rcases List.mem_append.mp hg with q | q
    · rw [if_neg (ne g' q), if_neg (clo g' q _ _ _ _ hs)]; exact h.lets g' q _ _ _ _ hs
    · rw [List.mem_singleton] at q
      subst q
      rw [if_pos rfl, if_neg (ne f' (later _ _ _ _ hs))]; exact hl _ _ _ _ hs
  · rcases List.mem_append.mp hg with q | q
    · rw [if_neg (ne up q)]; exact h.top q
    · rw [List.mem_singleton] at q; rw [if_pos q]; exact hu q.symm
theorem keys_put {kvs : List (NestedKey × V)} {k : NestedKey} {v u : V} (h : valV kvs k = some u) : (putK kvs k v).map (·.1) = kvs.map (·.1) := by
  unfold putK
  have : (kvs.any fun kv => decide (kv.1 = k)) = true := by rw [valV_any, h]; rfl
  rw [if_pos this, List.map_map]
  refine List.map_congr_left fun kv _ => ?_
  show (if kv.1 = k then (kv.1, v) else kv).1 = kv.1
  split <;> rfl
def sp_l_numbers (P : Program) (w : World) (K : PySem.W.Frag) : Sp := fun vs H Q _ => ∃ (f : Addr) (x : V) (h d : Addr) (m : Nat) (row : Addr) (F low up : List Pt) (T : List E2) (wt : E2 → Int) (M : List T3) (R : List (List Pt)), vs = [.ref f, x, .ref h, .ref d] ∧ FeedAt H f row m ∧ m ≤ 30000 ∧ Tp K H x (kF F) ∧ FieldOk F low up ∧
  Heavy P w K H h T wt ∧ StepsAt P w K H d M R ∧ Bfs F M low R R.length ∧ (∀ t ∈ M, Tri F t) ∧ (∀ t ∈ M, ∀ e ∈ newt t, e ∈ T) ∧ (∀ t ∈ M, 0 ≤ freshW wt t) ∧
  ∀ (N : List Pt → Int) (dd : Addr) (H' : Hp), Keep f H H' → FeedAt H' f row (m + 513) → H dd = none → NumAt P w K H' dd R.reverse N → NumOk M wt up R.reverse N → Q (.ref dd) H'
abbrev s_l_numbers : Stmt := top 57
theorem sc_l_numbers : FnScope ["_law_feed_here", "_law_field_here", "_law_heavy", "_law_steps_here", "_law_up", "_law_wide_here", "_law_found", "_law_front"] ["_law_feed_here", "_law_field_here", "_law_heavy", "_law_steps_here"] (defScope s_l_numbers) := ⟨rfl, rfl, rfl, by decide +kernel, rfl, by decide +kernel, by decide +kernel⟩
theorem ok_l_numbers (B : Bi mg) (C_l_most : Cal P w K mg base CX0 "_law_most" 2 ["_law_heavy", "_law_numbers_here", "_law_steps_here"] (sp_l_most P w K)) (C_l_draw : Cal P w K mg base CX0 "_law_draw" 1 ["_law_feed_here", "_law_many"] (sp_l_draw K)) (C_l_edge : Cal P w K mg base CX0 "_law_edge" 2 ["_law_field_here", "_law_hand"] (sp_l_edge K)) (D : Df K mg "_law_numbers" s_l_numbers ["_law_feed_here", "_law_field_here", "_law_heavy", "_law_steps_here"]) : Cal P w K mg base CX0 "_law_numbers" 3 ["_law_feed_here", "_law_field_here", "_law_heavy", "_law_steps_here"] (sp_l_numbers P w K) := by
  refine D.ok 2 sc_l_numbers (fun vs H Q E h => ?_) (fun f cdv A outer s H vs Q E hr h => ?_)
  · obtain ⟨f, x, h, d, m, row, F, low, up, T, wt, M, R, rfl, _⟩ := h; rfl
  · obtain ⟨f, x, hh, d, m, row, F, low, up, T, wt, M, R, rfl, hF, hm, hx, ok, hv, sa, Bf, hM, hnT, hfw, k⟩ := h
    refine ⟨_, pss_cons (ps_set (i := 4) sc_l_numbers.nd rfl (Or.inl rfl) (pe_go C_l_edge (hr.mono (by decide)) (pa_cons (pv 1) (pa_cons (pe_un un_neg pe_int) pa_nil))))
      (pss_cons (ps_set (i := 5) sc_l_numbers.nd rfl (Or.inl rfl) (pe_ix (ix_listN : IxR _ (rIxLN K)) (pe_lst (pa_cons pe_int (pa_cons pe_int (pa_cons pe_int (pa_cons pe_int pa_nil))))) (pe_go C_l_draw (hr.mono (by decide)) (pa_cons (pv 0) (pa_cons pe_int pa_nil))) (fun _ _ => rfl)))
      (pss_cons (ps_set (i := 6) sc_l_numbers.nd rfl (Or.inl rfl) pe_nnew)
      (pss_cons (ps_for PassesOwn.never rfl (pi_list (pe_revL (pe_listN B (pa_cons (pv 3) pa_nil) : PE _ _ (tCB (rNList P w K) _)) : PE _ _ (tRevL K _)) : PI _ _ _ (iList K _)) (pg_name (i := 7) sc_l_numbers.nd rfl (Or.inl rfl))
      (pss_cons (ps_nput (u65 hr) (pv 6) (pv 7) (pe_ifExp (pt_cmpR (op_eqN (u64 hr) : OpR _ _ (rEqN K false)) (pv 7) (pv 4) (nomark _)) pe_int (pe_op op_sub (pe_op op_mul (pe_go C_l_draw (hr.mono (by decide)) (pa_cons (pv 0) (pa_cons (pv 5) pa_nil))) pe_int) (pv 5))) rfl)
      (pss_one (ps_if (pt_cmpR (op_neL (u64 hr) : OpR _ _ (rEqL K true)) (pe_nget (u65 hr) (pv 3) (pv 7) (fun _ _ => rfl) : PE _ _ (tNGet P w K _ _)) (pe_lst pa_nil) (nomark _))
      (pss_one (ps_nput (u65 hr) (pv 6) (pv 7) (pe_min2 B (pa_cons (pe_go C_l_most (hr.mono (by decide)) (pa_cons (pv 2) (pa_cons (pv 6) (pa_cons (pe_nget (u65 hr) (pv 3) (pv 7) (fun _ _ => rfl) : PE _ _ (tNGet P w K _ _)) pa_nil)))) (pa_cons (pe_op op_add (pe_nget (u65 hr) (pv 6) (pv 7) (fun _ _ => rfl) : PE _ _ (tNGet P w K _ _)) (pv 5)) pa_nil))) rfl))
      pss_nil))))
      (pss_one (ps_ret (pv 6)))))), ?_⟩
    have g0 := Go.start hF
    have lR : R.length ≤ 512 := fronts_len ok.fld.ris ok.l9 Bf.nd Bf.fr
    refine ⟨_, rfl, 1, rfl, x, -1, F, up, rfl, hx, ok.bd, ok.l9, ok.l2, ok.fld.ris, .inr rfl, ok.hi, fun vu H1 s1 hvu => ?_⟩
    have g1 := g0.same s1
    refine ⟨by show 4 ≤ sizeLine; decide, fun q hq => ?_⟩
    have s2 := Same.upd (o := .lst [.int 1, .int 10, .int 1000001, .int 3000001]) hq
    have g2 := g1.same s2
    refine ⟨_, rfl, f, 4, m, row, rfl, g2.feed, by omega, by decide, by decide, fun r H3 k3 F3 a0 a1 => ?_⟩
    have g3 := g2.draw k3 F3
    have hq3 := k3.stays g2.feed (upd_same (H := H1) (o := .lst [.int 1, .int 10, .int 1000001, .int 3000001])) lst_nk
    obtain ⟨j, hj⟩ := Int.eq_ofNat_of_zero_le a0
    obtain ⟨wide, hw⟩ := at_lt (l := ([1, 10, 1000001, 3000001] : List Int)) (i := j) (by simp; omega)
    have bw : 1 ≤ wide ∧ wide ≤ 3000001 := by
      have := mem_at hw
      simp only [List.mem_cons, List.not_mem_nil, or_false] at this
      rcases this with rfl | rfl | rfl | rfl <;> decide
    refine ⟨q, _, [1, 10, 1000001, 3000001].map NestedKey.num, _, _, rfl, ofL hq3, TpAll.ofNums [1, 10, 1000001, 3000001], rfl, atI_of hj (map_at hw), fun vw hvw => ?_⟩
    cases hvw
    intro dd hdd hds
    have s4 := Same.upd (o := EK P w dd []) hdd
    have g4 := g3.same s4
    have hdd0 := g3.free hdd
    obtain ⟨skv, snd, sek, sval⟩ := id sa
    have snd4 := snd.keep hF g4.keep
    refine ⟨_, rfl, d, skv, rfl, snd4, fun p1 ps hp1 hps => ?_⟩
    have s5 := Same.upd (o := .lst ps) hp1
    rw [sek] at hps
    refine ⟨p1, ps, rfl, ofL upd_same, fun p2 hp2 => ?_⟩
    have s6 := Same.upd (o := .lst ps.reverse) hp2
    have s56 := Same.tr s5 s6
    have g6 := g4.same s56
    have hrev : TpAll K (upd (upd (upd H3 dd (EK P w dd [])) p1 (.lst ps)) p2 (.lst ps.reverse)) ps.reverse (R.reverse.map kF) := by
      rw [List.map_reverse]; exact ((hps.up (Tx.new hp1)).same s6).rev
    refine ⟨p2, rfl, ⟨_, ofL upd_same⟩, ?_⟩
    have nd6 : ND P w K (upd (upd (upd H3 dd (EK P w dd [])) p1 (.lst ps)) p2 (.lst ps.reverse)) dd [] := (ND.new hds).same s56
    refine for_it (walk_ls (a := p2) hrev) (fun i σ H7 => ∃ y7 N kvs, σ = [some (.ref f), some x, some (.ref hh), some (.ref d), some vu, some (.int wide), some (.ref dd), y7] ∧ Go f row H H7 m (m + 1 + i) ∧ Tx (upd (upd (upd H3 dd (EK P w dd [])) p1 (.lst ps)) p2 (.lst ps.reverse)) H7 ∧ H7 p2 = some (.lst ps.reverse) ∧ ND P w K H7 dd kvs ∧ kvs.map (·.1) = (R.reverse.take i).map kF ∧ (∀ g ∈ R.reverse.take i, valV kvs (kF g) = some (.int (N g))) ∧ NumOk M wt up (R.reverse.take i) N) ⟨none, fun _ => 0, [], rfl, g6, Tx.refl _, upd_same, nd6, rfl, fun g hg => (by simp at hg), ⟨fun g hg => (by simp at hg), fun g hg => (by simp at hg), fun g hg => (by simp at hg), fun hg => (by simp at hg)⟩⟩ (fun i σ H7 _ ⟨_, _, _, _, _, t, hp, _⟩ => ⟨ofL hp, t⟩) ?_ ?_
    · rintro i y σ H7 H7' hi ⟨y7, N, kvs, rfl, g7, t7, hp7, nd7, ek7, hv7, no7⟩ ⟨rfl, qq, hqq, hy⟩
      obtain ⟨g, hg, rfl⟩ := get_map hqq
      have hi2 := lt_at hg
      have lRr : R.reverse.length = R.length := List.length_reverse
      have gR : g ∈ R := List.mem_reverse.mp (mem_at hg)
      have lkv : kvs.length = i := by
        have := congrArg List.length ek7
        rw [List.length_map, List.length_map, List.length_take] at this
        omega
      have hvu7 : Tp K H7' vu (kF up) := (((hvu.same s2).up (g2.feed.tx k3)).same (Same.tr s4 s56)).up t7
      have nin : g ∉ R.reverse.take i := by
        have nd : R.reverse.Nodup := List.pairwise_reverse.mpr (List.Pairwise.imp (fun h => Ne.symm h) Bf.nd)
        rw [← List.take_append_drop i R.reverse, drop_at hg] at nd
        exact fun z => (List.nodup_append.mp nd).2.2 g z g (by simp) rfl
      have nkey : ∀ g' ∈ R.reverse.take i, ¬ kF g' = kF g := fun g' h z => nin (kF_inj z ▸ h)
      -- the steps of g lead to fronts that have their numbers
      have laterG : ∀ (i2 : Nat) (g2 : List Pt), R.reverse[i2]? = some g2 → ∀ kk gg t f', Step M g2 kk gg t f' → f' ∈ R.reverse.take i2 := fun i2 g2 hg2 kk gg t f' hs => by
        have hi3 := lt_at hg2
        have hidx : R[R.length - 1 - i2]? = some g2 := by
          rw [List.getElem?_reverse (by omega)] at hg2; exact hg2
        obtain ⟨j2, h1, h2⟩ := Bf.later ok.fld.ris hM hidx hs
        have hlt := lt_at h2
        have : R.reverse[R.length - 1 - j2]? = some f' := by
          rw [List.getElem?_reverse (by omega), show R.length - 1 - (R.length - 1 - j2) = j2 by omega]; exact h2
        exact List.mem_of_getElem? (i := R.length - 1 - j2) (by rw [List.getElem?_take_of_lt (by omega)]; exact this)
      have later : ∀ kk gg t f', Step M g kk gg t f' → f' ∈ R.reverse.take i := laterG i g hg
      have clo : ∀ g' ∈ R.reverse.take i, ∀ kk gg t f', Step M g' kk gg t f' → f' ≠ g := fun g' hg' kk gg t f' hs z => by
        obtain ⟨i2, hi3, e2⟩ := List.getElem_of_mem hg'
        rw [List.length_take] at hi3
        rw [List.getElem_take] at e2
        have h3 := laterG i2 g' (by rw [List.getElem?_eq_getElem (by omega), e2]) _ _ _ _ hs
        subst z
        exact nin ((List.take_sublist_take_left (by omega)).subset h3)
      obtain ⟨sl, hsl1, hsl2⟩ := sval g gR
      -- found[front] = ..
      refine (fun (rest : ∀ (v : Int) (H8 : Hp), Go f row H H8 m (m + 1 + i + 1) → Tx H7' H8 → H8 p2 = some (.lst ps.reverse) → ND P w K H8 dd kvs → -3000001 ≤ v → v ≤ 6000003 → (g = up → v = 0) → (?G : Int → Hp → Prop) v H8) => ?main) ?rest
      case main =>
        refine ⟨_, rfl, _, rfl, _, _, hy, hvu7, Nat.le_trans (kF_d g) (by decide), Nat.le_trans (kF_d up) (by decide), _, rfl, ?_⟩
        refine ifB (fun c => ?a) (fun c => ?b)
        case b =>
          refine ⟨_, rfl, _, rfl, f, wide, m + 1 + i, row, rfl, g7.feed, by omega, by omega, by omega, fun r2 H8 k8 F8 b0 b1 => ?_⟩
          refine ⟨_, _, rfl, rfl, .inr ⟨by omega, by omega⟩, _, rfl, ?_⟩
          obtain ⟨v, hv⟩ : ∃ v : Int, v = r2 * 3 - wide := ⟨_, rfl⟩
          refine ⟨_, _, rfl, rfl, ?_⟩
          dsimp only
          rw [← hv]
          have ng : g ≠ up := fun z => of_decide_eq_false c (by rw [z])
          exact rest v H8 (g7.draw k8 F8) (g7.feed.tx k8) (k8.stays g7.feed hp7 lst_nk) (nd7.keep g7.feed k8) (by omega) (by omega) (fun z => absurd z ng)
        case a => exact rest 0 H7' (g7.le (by omega)) (Tx.refl _) hp7 nd7 (by decide) (by decide) (fun _ => rfl)
      case rest =>
        intro v H8 g8 t8 hp8 nd8 v0 v1 vup
        have hy8 := hy.up t8
        refine ⟨_, rfl, _, rfl, dd, kvs, _, rfl, nd8, hy8, Nat.le_trans (kF_d g) (by decide), small (by omega), fun H9 nd9 ⟨o9, e9⟩ => ?_⟩
        obtain ⟨φ, hφ⟩ := nd8.there
        have t9 : Tx H8 H9 := by rw [e9]; exact Tx.ext hφ
        have np : p2 ≠ dd := ne_of hp8 hφ (by intro z; cases z)
        have hp9 : H9 p2 = some (.lst ps.reverse) := by rw [e9, upd_ne np]; exact hp8
        have g9 : Go f row H H9 m (m + 1 + i + 1) := by rw [e9]; exact g8.own hdd0
        have snd9 := snd.keep hF g9.keep
        have ssa9 := hsl2.lst
        obtain ⟨slw, hslw⟩ := ssa9
        have hsl9 : StepL K H9 M g sl := hsl2.up g9.tx ((g9.stays hslw lst_nk).trans hslw.symm)
        have enew : valV kvs (kF g) = none := by
          cases q : valV kvs (kF g) with
          | none => rfl
          | some u =>
            have := valV_in q
            rw [ek7] at this
            obtain ⟨g', hg', e⟩ := List.mem_map.mp this
            exact absurd e (nkey g' hg')
        have ek9 : (putK kvs (kF g) (.int v)).map (·.1) = (R.reverse.take (i + 1)).map kF := by
          rw [putK_new _ enew, List.map_append, ek7, take_next hg, List.map_append]; rfl
        have hv9 : valV (putK kvs (kF g) (.int v)) (kF g) = some (.int v) := by rw [valV_put, if_pos rfl]
        have old9 : ∀ g' ∈ R.reverse.take i, valV (putK kvs (kF g) (.int v)) (kF g') = some (.int (N g')) := fun g' h => by
          rw [valV_put, if_neg (nkey g' h)]; exact hv7 g' h
        obtain ⟨kv9, hkv9⟩ : ∃ kv9, kv9 = putK kvs (kF g) (.int v) := ⟨_, rfl⟩
        have nd9' : ND P w K H9 dd kv9 := by rw [hkv9]; exact nd9
        rw [← hkv9] at ek9 hv9 old9
        clear nd9
        have hy9 := hy8.up t9
        -- if steps[front] != []
        refine ⟨_, rfl, _, rfl, d, skv, _, _, rfl, snd9, hy9, Nat.le_trans (kF_d g) (by decide), hsl1, Nat.zero_le _, fun q9 hq9 => ?_⟩
        have s10 := Same.upd (o := .lst []) hq9
        obtain ⟨sws, ses, h1, h2, h3, h4⟩ := id hsl9
        refine ⟨sl, q9, sws, [], _, [], rfl, rfl, ofL (s10 _ _ h1), ofL upd_same, h2.same s10, .nil, kS_dep, by simp, _, rfl, ?_⟩
        have g10 := g9.same s10
        have t10 := (t8.trans t9).trans (Tx.same s10)
        refine ifB (fun c => ?_) (fun c => ?_)
        · have c : ses ≠ [] := by
            intro z; subst z; simp at c
          obtain ⟨st0, hst0⟩ := List.exists_mem_of_ne_nil _ c
          have gup : g ≠ up := fun z => by
            obtain ⟨t, hs⟩ := (h3 st0).mp hst0
            rw [z] at hs
            exact no_step ok.hi hM hs
          refine ⟨_, rfl, _, rfl, _, rfl, _, rfl, d, skv, _, _, rfl, snd9.same s10, hy9.same s10, Nat.le_trans (kF_d g) (by decide), hsl1, ?_⟩
          have hsl10 : StepL K (upd H9 q9 (.lst [])) M g sl := hsl9.up (Tx.same s10) ((s10 _ _ h1).trans h1.symm)
          refine ⟨hh, dd, sl, T, wt, N, M, g, kv9, rfl, hv.keep hF g10.keep, nd9'.same s10, hsl10, fun kk gg t f' hs => ⟨old9 f' (later _ _ _ _ hs), ?_⟩, ⟨st0, (h3 st0).mp hst0⟩, hnT, fun n H11 s11 hn hle => ?_⟩
          · have := fr_len ok.fld.ris ok.l2 (Bf.fr f' (List.mem_reverse.mp (List.mem_of_mem_take (later _ _ _ _ hs))))
            have := ok.l9; omega
          refine ⟨_, rfl, _, rfl, dd, kv9, _, _, rfl, (nd9'.same s10).same s11, (hy9.same s10).same s11, Nat.le_trans (kF_d g) (by decide), hv9, _, rfl, _, _, rfl, rfl, _, _, rfl, ?_⟩
          have g11 := g10.same s11
          have nd11 := (nd9'.same s10).same s11
          have lk9 : kv9.length = i + 1 := by
            have := congrArg List.length ek9
            rw [List.length_map, List.length_map, List.length_take] at this
            omega
          refine ⟨_, rfl, _, rfl, dd, kv9, _, rfl, nd11, (hy9.same s10).same s11, Nat.le_trans (kF_d g) (by decide), small (by omega), fun H12 nd12 ⟨o12, e12⟩ => ?_⟩
          obtain ⟨φ2, hφ2⟩ := nd11.there
          obtain ⟨kk0, gg0, t0, f0, hs0, en0⟩ := hn
          have hn0 : -3000001 ≤ n := by
            have a := no7.lo f0 (later _ _ _ _ hs0)
            have b := hfw t0 hs0.1
            omega
          obtain ⟨nv, hnv⟩ : ∃ nv : Int, nv = (if v + wide < n then v + wide else n) := ⟨_, rfl⟩
          have bnv : -3000001 ≤ nv ∧ nv ≤ 10000000 ∧ nv ≤ n := by
            rw [hnv]; split <;> omega
          refine ⟨_, fun g' => if g' = g then nv else N g', _, rfl, by rw [e12]; exact g11.own hdd0, t10.trans ((Tx.same s11).trans (by rw [e12]; exact Tx.ext hφ2)) |> t7.trans, by rw [e12, upd_ne np]; exact s11 _ _ (s10 _ _ hp9), nd12, ?_, fun g' hg' => ?_, ?_⟩
          · show (putK kv9 (kF g) _).map (·.1) = _
            rw [keys_put hv9, ek9]
          · show valV (putK kv9 (kF g) (.int (if v + wide < n then v + wide else n))) (kF g') = some (.int (if g' = g then nv else N g'))
            rw [← hnv, valV_put]
            by_cases e : g' = g
            · rw [if_pos (by rw [e]), if_pos e]
            · rw [if_neg (fun z => e (kF_inj z)), if_neg e]
              rw [take_next hg] at hg'
              rcases List.mem_append.mp hg' with h | h
              · exact old9 g' h
              · rw [List.mem_singleton] at h; exact absurd h e
          · rw [take_next hg]
            exact no7.more nin later ⟨bnv.1, bnv.2.1⟩ (fun kk gg t f' hs => Int.le_trans bnv.2.2 (hle _ _ _ _ hs)) (fun z => absurd z gup)
        · have c : ses = [] := by
            have c := of_decide_eq_true (nfT c)
            rw [List.map_eq_nil_iff] at c; exact c
          refine ⟨_, fun g' => if g' = g then v else N g', kv9, rfl, g10, t7.trans t10, s10 _ _ hp9, nd9'.same s10, ek9, fun g' hg' => ?_, ?_⟩
          · show valV kv9 (kF g') = some (.int (if g' = g then v else N g'))
            by_cases e : g' = g
            · rw [if_pos e, e]; exact hv9
            · rw [if_neg e]
              rw [take_next hg] at hg'
              rcases List.mem_append.mp hg' with h | h
              · exact old9 g' h
              · rw [List.mem_singleton] at h; exact absurd h e
          · rw [take_next hg]
            refine no7.more nin later ⟨v0, by omega⟩ (fun kk gg t f' hs => ?_) vup
            have := (h3 (kk, gg, f')).mpr ⟨t, hs⟩
            rw [c] at this; cases this
    · rintro σ H7 ⟨y7, N, kvs, rfl, g7, t7, hp7, nd7, ek7, hv7, no7⟩
      rw [List.length_map, List.take_length] at ek7 hv7 no7
      rw [List.length_map, List.length_reverse] at g7
      have g8 := g7.le (m' := m + 513) (by omega)
      exact ⟨_, rfl, k N dd H7 g8.keep g8.feed hdd0 ⟨kvs, nd7, ek7, hv7⟩ no7⟩
def sp_l_first_off (P : Program) (w : World) (K : PySem.W.Frag) : Sp := fun vs H Q _ => ∃ (h d : Addr) (v : V) (T : List E2) (wt : E2 → Int) (M : List T3) (R L : List (List Pt)) (N : List Pt → Int), vs = [.ref h, .ref d, v] ∧ Heavy P w K H h T wt ∧ StepsAt P w K H d M R ∧ Tp K H v (kP L N) ∧ L.Nodup ∧ (∀ g ∈ L, g ∈ R) ∧
  (∀ g ∈ L, ∀ k gg t f', Step M g k gg t f' → f' ∈ L ∧ f'.length ≤ 1000) ∧ (∀ t ∈ M, ∀ e ∈ newt t, e ∈ T) ∧
  (∀ (k : Nat) (g : List Pt) (H' : Hp), Same H H' → L[k]? = some g → Off M wt N g → (∀ j g', j < k → L[j]? = some g' → ¬ Off M wt N g') → Q (.int (k : Nat)) H') ∧ (∀ H', Same H H' → (∀ g ∈ L, ¬ Off M wt N g) → Q .non H')
theorem pairs_val : ∀ {L : List (List Pt)} {N : List Pt → Int} {g : List Pt}, g ∈ L → valV (L.map fun g => (kF g, V.int (N g))) (kF g) = some (.int (N g))
  | [], _, _, h => by cases h
  | x :: L, N, g, h => by
    rw [List.map_cons]
    by_cases e : x = g
    · subst e; exact valV_pos rfl
    · rw [valV_neg (fun z => e (kF_inj z))]
      rcases List.mem_cons.mp h with q | q
      · exact absurd q.symm e
      · exact pairs_val q
abbrev s_l_first_off : Stmt := top 59
theorem sc_l_first_off : FnScope ["_law_heavy", "_law_steps_here", "_law_paper_here", "_law_numbers_here", "_law_k", "_law_front", "_law_number"] ["_law_heavy", "_law_steps_here", "_law_paper_here"] (defScope s_l_first_off) := ⟨rfl, rfl, rfl, by decide +kernel, rfl, by decide +kernel, by decide +kernel⟩
theorem ok_l_first_off (B : Bi mg) (C_l_most : Cal P w K mg base CX0 "_law_most" 2 ["_law_heavy", "_law_numbers_here", "_law_steps_here"] (sp_l_most P w K)) (D : Df K mg "_law_first_off" s_l_first_off ["_law_heavy", "_law_steps_here", "_law_paper_here"]) : Cal P w K mg base CX0 "_law_first_off" 3 ["_law_heavy", "_law_steps_here", "_law_paper_here"] (sp_l_first_off P w K) := by
  refine D.ok 2 sc_l_first_off (fun vs H Q E h => ?_) (fun f cdv A outer s H vs Q E hr h => ?_)
  · obtain ⟨h, d, v, T, wt, M, R, L, N, rfl, _⟩ := h; rfl
  · obtain ⟨hh, d, v, T, wt, M, R, L, N, rfl, hv, sa, hp, nd, hLR, hclo, hnT, ks, kn⟩ := h
    refine ⟨_, pss_cons (ps_set (i := 3) sc_l_first_off.nd rfl (Or.inl rfl) (pe_dictP B (pa_cons (pv 2) pa_nil) (u65 hr)))
      (pss_cons (ps_for PassesOwn.never rfl (pi_enumT (by rfl) B.enumerate (pa_cons (pv 2) pa_nil)) (pg_tup rfl (pgs_cons (pg_name (i := 4) sc_l_first_off.nd rfl (Or.inl rfl)) (pgs_cons (pg_tup rfl (pgs_cons (pg_name (i := 5) sc_l_first_off.nd rfl (Or.inl rfl)) (pgs_cons (pg_name (i := 6) sc_l_first_off.nd rfl (Or.inl rfl)) pgs_nil))) pgs_nil)))
      (pss_one (ps_if (PW.pt (pw_and (pt_cmpR (op_neL (u64 hr) : OpR _ _ (rEqL K true)) (pe_nget (u65 hr) (pv 1) (pv 5) (fun _ _ => rfl) : PE _ _ (tNGet P w K _ _)) (pe_lst pa_nil) (nomark _)) (pw_and1 (pt_cmpR op_gt (pv 6) (pe_go C_l_most (hr.mono (by decide)) (pa_cons (pv 0) (pa_cons (pv 3) (pa_cons (pe_nget (u65 hr) (pv 1) (pv 5) (fun _ _ => rfl) : PE _ _ (tNGet P w K _ _)) pa_nil)))) (nomark _)))))
      (pss_one (ps_ret (pv 4)))
      pss_nil)))
      (pss_one (ps_ret pe_non))), ?_⟩
    obtain ⟨pa, ps, rfl, pp, pks⟩ := hp.invP
    have eks : L.map (kR N) = (L.map fun g => (kF g, N g)).map fun kv => NestedKey.tup [kv.1, .num kv.2] := by rw [List.map_map]; rfl
    refine ⟨_, rfl, pa, ps, L.map fun g => (kF g, N g), rfl, pp, by rw [← eks]; exact pks, fun kv hkv => ?_, ?_, fun nu o hnu ndn => ?_⟩
    · obtain ⟨g, _, rfl⟩ := List.mem_map.mp hkv
      exact ⟨⟨_, rfl⟩, Nat.le_trans (kF_d g) (by decide)⟩
    · rw [List.map_map]
      exact nodup_map (fun _ _ e => kF_inj e) nd
    rw [List.map_map] at ndn
    have s1 := Same.upd (o := o) hnu
    obtain ⟨skv, snd, sek, sval⟩ := id sa
    have pp1 := pp.up (Tx.same s1)
    refine ⟨_, rfl, pa, ps, rfl, pp1.sq, ?_⟩
    have lps := pks.length
    rw [List.length_map] at lps
    refine for_it (walk_enumT (K := K) (a := pa) (xs := ps)) (fun i σ H2 => ∃ y4 y5 y6, σ = [some (.ref hh), some (.ref d), some (.ref pa), some (.ref nu), y4, y5, y6] ∧ Same (upd H nu o) H2 ∧ ∀ j g', j < i → L[j]? = some g' → ¬ Off M wt N g') ⟨none, none, none, rfl, Same.rfl', fun j g' h => by omega⟩ (fun i σ H2 _ ⟨_, _, _, _, s, _⟩ => (pp1.up (Tx.same s)).sq) ?_ ?_
    · rintro i y σ H2 H2' hi ⟨y4, y5, y6, rfl, s2, old⟩ ⟨T', x1, x2, rfl, hT', rfl, e1, e2⟩
      cases e1
      have s12 := Same.tr s1 s2
      obtain ⟨kk, hkk, hx2⟩ := (pks.same s12).get e2
      obtain ⟨g, hg, rfl⟩ := get_map hkk
      have s3 := Same.upd (o := .tup [.int (i : Nat), x2]) hT'
      have s13 := Same.tr s12 s3
      obtain ⟨ea, u1, u2, rfl, es, h1, h2⟩ := inv2 (hx2.same s3)
      cases h2
      have gL := mem_at hg
      obtain ⟨sl, hsl1, hsl2⟩ := sval g (hLR g gL)
      have snd3 := snd.same s13
      obtain ⟨slw, hslw⟩ := hsl2.lst
      have hsl3 : StepL K (upd H2 T' (.tup [.int (i : Nat), .ref ea])) M g sl := hsl2.up (Tx.same s13) ((s13 _ _ hslw).trans hslw.symm)
      refine ⟨_, _, rfl, SqT.of upd_same, rfl, _, _, rfl, _, _, rfl, ?_⟩
      refine ⟨_, _, rfl, es, rfl, _, _, rfl, _, _, rfl, rfl, ?_⟩
      refine ⟨rfl, ?_⟩
      refine ⟨_, rfl, _, rfl, d, skv, _, _, rfl, snd3, h1, Nat.le_trans (kF_d g) (by decide), hsl1, Nat.zero_le _, fun q9 hq9 => ?_⟩
      have s4 := Same.upd (o := .lst []) hq9
      obtain ⟨sws, ses, g1, g2, g3, g4⟩ := id hsl3
      refine ⟨sl, q9, sws, [], _, [], rfl, rfl, ofL (s4 _ _ g1), ofL upd_same, g2.same s4, .nil, kS_dep, by simp, _, rfl, ?_⟩
      have s14 := Same.tr s13 s4
      have s24 := Same.tr s2 (Same.tr s3 s4)
      have next : ∀ (H5 : Hp), Same (upd (upd H2 T' (.tup [.int (i : Nat), .ref ea])) q9 (.lst [])) H5 → ¬ Off M wt N g → ∀ (z4 z5 z6 : Option V), ∃ (y4 y5 y6 : Option V), [some (V.ref hh), some (.ref d), some (.ref pa), some (.ref nu), z4, z5, z6] = [some (V.ref hh), some (.ref d), some (.ref pa), some (.ref nu), y4, y5, y6] ∧ Same (upd H nu o) H5 ∧ ∀ j g', j < i + 1 → L[j]? = some g' → ¬ Off M wt N g' := fun H5 s5 no z4 z5 z6 => ⟨_, _, _, rfl, Same.tr s24 s5, fun j g' hj hg' => by
        by_cases e : j = i
        · subst e; rw [hg] at hg'; cases hg'; exact no
        · exact old j g' (by omega) hg'⟩
      refine ifB (fun c => ?_) (fun c => ?_)
      · have c : ses ≠ [] := by
          intro z; subst z; simp at c
        obtain ⟨st0, hst0⟩ := List.exists_mem_of_ne_nil _ c
        have hsl4 : StepL K (upd (upd H2 T' (.tup [.int (i : Nat), .ref ea])) q9 (.lst [])) M g sl := hsl3.up (Tx.same s4) ((s4 _ _ g1).trans g1.symm)
        refine ⟨_, rfl, _, rfl, _, rfl, _, rfl, _, rfl, d, skv, _, _, rfl, snd3.same s4, h1.same s4, Nat.le_trans (kF_d g) (by decide), hsl1, ?_⟩
        refine ⟨hh, nu, sl, T, wt, N, M, g, _, rfl, hv.same s14, ndn.same s24, hsl4, fun kk gg t f' hs => ⟨pairs_val (hclo g gL _ _ _ _ hs).1, (hclo g gL _ _ _ _ hs).2⟩, ⟨st0, (g3 st0).mp hst0⟩, hnT, fun n H5 s5 hn hle => ?_⟩
        refine ⟨_, _, rfl, rfl, _, rfl, ?_⟩
        refine ifB (fun c2 => ?_) (fun c2 => ?_)
        · have c2 : n < N g := of_decide_eq_true c2
          obtain ⟨kk, gg, t, f', hs, en⟩ := hn
          exact ⟨_, rfl, ks i g H5 (Same.tr s14 s5) hg ⟨kk, gg, t, f', hs, by omega⟩ old⟩
        · have c2 : ¬ n < N g := of_decide_eq_false c2
          exact next H5 s5 (fun ⟨kk, gg, t, f', hs, en⟩ => by have := hle _ _ _ _ hs; omega) _ _ _
      · have c : ses = [] := by
          have c := of_decide_eq_true (nfT c)
          rw [List.map_eq_nil_iff] at c; exact c
        refine next _ Same.rfl' (fun ⟨kk, gg, t, f', hs, en⟩ => ?_) _ _ _
        have := (g3 (kk, gg, f')).mpr ⟨t, hs⟩
        rw [c] at this; cases this
    · rintro σ H2 ⟨y4, y5, y6, rfl, s2, old⟩
      refine kn H2 (Same.tr s1 s2) fun g hg => ?_
      obtain ⟨i, hi, e⟩ := List.getElem_of_mem hg
      exact old i g (by omega) (by rw [List.getElem?_eq_getElem hi, e])
end
end Tl

end
-- W15
section
set_option maxHeartbeats 200000
/-! NoPaper: made, raised, caught; repr -/
namespace Tl
open PySem PySem.Spec PyProof.Rows L2
abbrev s_init : Stmt := inClass (top 2) 0
structure ErrT (K : PySem.W.Frag) (mg : Str → Option Value) (B C fI : Addr) (fd : FuncData) : Prop where
  gB : mg "LayError" = some (.ref B)
  gC : mg "NoPaper" = some (.ref C)
  oe : OexC K C
  xf : XfC K C
  nw : PySem.W.findIn K (.ref C) "word" = some none
  nn : PySem.W.findIn K (.ref C) "number" = some none
  iC : PySem.W.findIn K (.ref C) "__init__" = some (some (.ref fI))
  tI : PySem.W.typeIn K (.ref fI) = some (.type "function")
  ga : PySem.W.specialIn K (.ref B) "__getattribute__" = some (some (.builtin "type.__getattribute__"))
  rd : PySem.W.readsIn K B (.type "type") = true
  fB : PySem.W.findCls K (.ref B) (.type "type") "__init__" = some (.val (.builtin "ValueError.__init__"))
  eB : PySem.W.exmOne K (.ref C) (.ref B) = some true
  fn : Fun K "__init__" "NoPaper.__init__" s_init fI fd
  bd : Binds K fd ["self", "word", "number"] []
section
variable {X : Cx} {B C fI : Addr} {fdI : FuncData} {e : Expr} {es : List Expr} {ta : TA} {x : Str} {p1 p2 pos p : Pos}
theorem pe_oveinit {pl : Sem Bool} (T : ErrT X.K X.mg B C fI fdI) (hg : Gl X "LayError") (ha : PA X (e :: es) ta)
    (hc : eval (.Call (.Attribute (.Name "LayError" p1) "__init__" p2) (e :: es) [] pos) X.env = (do
      let ov ← eval (.Name "LayError" p1) X.env
      standAt p2.atName
      let (f, first) ← holding [ov] (getMethod ov "__init__" pl)
      callWith pos f first (backTo pos (starEach (e :: es) X.env)) (backToKw pos (keywordEach [] X.env))) := by rfl)
    (he : starEach (e :: es) X.env = (false, eval e X.env) :: starEach es X.env := by rfl) (hpl : (backTo pos (starEach es X.env)).any (·.1) = false := by rfl) :
    PE X (.Call (.Attribute (.Name "LayError" p1) "__init__" p2) (e :: es) [] pos) (tVeI X.K ta) := by
  refine ⟨fun pins s σ H Q I h => ?_⟩
  refine PySem.W.methodCall_KW (pl := pl) (ld_glob I hg T.gB ?_ (by decide)) hc
  refine PySem.W.method_cls I.kIn T.ga (PySem.W.cls_value I.kIn T.rd T.fB (by decide +kernel) ?_)
  refine PyProof.Rows.callWith_method1 (thn (ha.run pos pins _ σ H _ (I.tok _) h) fun us s1 ⟨vs, H1, I1, r1, a, C', ws, ev, hl, T', ea, q⟩ => ?_) he hpl
  subst ev
  cases r1 with
  | @cons _ u0 _ ur ra rw' =>
    obtain rfl : u0 = Value.ref a := ra
    have hlen : ur.length ≤ sizeLine := by
      rw [← Paired.length rw', sizeLine_eq]
      omega
    exact oinit_ok T' I1 ea hlen fun s' J => ⟨.non, H1, J, rfl, q⟩
end
section
variable {P : Program} {w : World} {K : PySem.W.Frag} {mg : Str → Option Value} {base : Heap}
theorem sc_init : FnScope ["self", "word", "number"] ["self", "word", "number"] (defScope s_init) := ⟨rfl, rfl, rfl, by decide +kernel, rfl, by decide +kernel, by decide +kernel⟩
/-- NoPaper.__init__ -/
def sp_init (C : Addr) : Sp := fun vs H Q _ => ∃ (e : Addr) (x y : V), vs = [.ref e, x, y] ∧ H e = some (exo e C none) ∧
  ∀ d H', H d = none → d ≠ e → H' = upd (upd (upd H d (exd d [("word", x)])) e (exo e C (some d))) d (exd d [("number", y), ("word", x)]) → Q .non H'
theorem ok_init {B C fI : Addr} {fd : FuncData} (T : ErrT K mg B C fI fd) : FnOk P w K mg base CX0 1 fI fd ["self", "word", "number"] (sp_init C) := by
  refine T.fn.ok sc_init (fun vs H Q E h => ?_) (fun cdv A outer s H vs Q E hr h => ?_)
  · obtain ⟨e, x, y, rfl, _⟩ := h; rfl
  · obtain ⟨e, x, y, rfl, he, k⟩ := h
    refine ⟨_, pss_cons (ps_expr (pe_oveinit T rfl (pa_cons (pv 0) (pa_cons pe_str pa_nil))))
      (pss_cons (ps_ost (pv 0) (pv 1)) (pss_cons (ps_ost (pv 0) (pv 2)) pss_nil)), ?_⟩
    refine ⟨_, rfl, e, C, _, rfl, (by decide), T.oe, he, ?_⟩
    refine ⟨_, rfl, _, rfl, e, C, rfl, T.oe, T.nw, .inl ⟨he, fun d hd hne => ?_⟩⟩
    refine ⟨_, rfl, _, rfl, e, C, rfl, T.oe, T.nn, .inr ⟨d, _, upd_same, by rw [upd_ne hne]; exact upd_same, (by simp), ?_⟩⟩
    exact k d _ hd hne rfl
end
section
variable {X : Cx} {B C fI : Addr} {fdI : FuncData} {e : Expr} {es : List Expr} {ta : TA} {p1 p2 pos p : Pos}
/-- NoPaper(word, number) -/
theorem pmk_nop (T : ErrT X.K X.mg B C fI fdI) (hr : Room 2 X.A) (ha : PA X (e :: es) ta) (hg : Gl X "NoPaper" := by rfl) (he : starEach (e :: es) X.env = (false, eval e X.env) :: starEach es X.env := by rfl) (hpl : (backTo pos (starEach es X.env)).any (·.1) = false := by rfl) :
    PMk X (.Call (.Name "NoPaper" p) (e :: es) [] pos) (tMkO C (sp_init C) [] ta) :=
  pmk_oex (dvs := []) T.oe T.iC T.tI (ok_init (P := X.prog) (w := X.w) (base := X.base) T) hr T.bd .nil pass0 hg T.gC ha (by decide) he hpl
theorem nop_ok {x y : V} {H1 : Hp} {Q : XK} {E : XK} (k : ∀ d H2, H1 d = none → Same H1 H2 → H2 d = some (.xd [("number", y), ("word", x)]) → Q (.ref C) (some d) H2) :
    ([x, y] : List V).length ≤ 1000 ∧ ∀ a, H1 a = none → sp_init C (.ref a :: ([x, y] ++ [])) (upd H1 a (exo a C none))
  (fun v H2 => v = .non ∧ ∃ (d : Addr) (fs : List (Str × V)), H2 a = some (exo a C (some d)) ∧ H2 d = some (exd d fs) ∧ H1 d = none ∧ Q (.ref C) (some d) (upd (del H2 a) d (.xd fs))) E := by
  refine ⟨by simp, fun a ha => ⟨a, x, y, rfl, upd_same, fun d H' hd hne e => ?_⟩⟩
  have hd1 : H1 d = none := by rw [upd_ne hne] at hd; exact hd
  subst e
  refine ⟨rfl, d, [("number", y), ("word", x)], ?_, upd_same, hd1, ?_⟩
  · rw [upd_ne (Ne.symm hne), upd_same]
  · refine k d _ hd1 (fun c o hc => ?_) upd_same
    have c1 := ne_of_none hc ha
    have c2 := ne_of_none hc hd1
    rw [upd_ne c2, del_ne c1, upd_ne c2, upd_ne c1, upd_ne c2, upd_ne c1]; exact hc
end
end Tl

end
-- W16
section
set_option maxHeartbeats 200000
/-! where no repr is under way: defs, repr of a tuple; isinstance of a caught error -/
namespace Tl
open PySem PySem.Spec PyProof.Rows L2
/-! isinstance of the very class -/
theorem ans_exact {x D : Addr} : PySem.Answers (fun s : Shared => ∃ o : Obj, s.heap.get? x = some o ∧ o.cls = .ref D) (.ref x) (.ref D) true := by
  intro dep tk prog w A R s hs
  obtain ⟨h0, g, d, tt, os⟩ := s
  obtain ⟨⟨o, ho, hc⟩, hq⟩ := hs
  have LT : PySem.W.Looks (model prog w) h0 (typeOf (.ref x)) (.ref D) := hc ▸ (PySem.W.Looks.ld ho).andThen .now
  unfold Builtin.«isinstance.nested»
  refine wpAny_bind (LT.at ?_)
  rw [if_pos (beq_self_eq_true _)]
  first
    | ((repeat lk); exact hq tt)
    | exact wpAny_bind (wpAny_rule (hq tt))
    | exact wpAny_bind (wpAny_rule (wpAny_pure (hq tt)))
theorem call_isX {X : Cx} {a : Addr} {cls : Value} {d : Option Addr} {oe : Obj} {pn : List (Addr × Obj)} (hz : Zc cls d oe) : CallR (X.suite a ((a, oe) :: pn)) (.builtin "isinstance") (fun xs H Q => ∃ D, cls = .ref D ∧ xs = [.ref a, .ref D] ∧ Q (.bl true) H) := by
  intro pins s σ H xs us Q I r h
  obtain ⟨D, ec, rfl, q⟩ := h
  cases r with
  | cons rx rr =>
    cases rr with
    | cons rt rr =>
      cases rr
      cases rx
      cases rt
      obtain ⟨hget, _⟩ := I.pin (a, oe) (List.mem_append.mpr (.inl List.mem_cons_self))
      exact call_isinstance (S := fun _ R s => (∃ o : Obj, s.heap.get? a = some o ∧ o.cls = .ref D) ∧ ∀ tk, R (.ok (.ret (.bool true))) { s with toks := tk })
        (fun prog w A R s hs => isinstance_outer (ans_exact 0 _ prog w A R s hs) (fun z => nomatch z)) ⟨⟨oe, hget, hz.1.trans ec⟩, fun tk => ⟨.bl true, H, I.kept (t' := tk) fun _ _ z => z, rfl, q⟩⟩
/-! repr of a tuple -/
def refT (i : Nat) : PyData := .tuple [.str "refused", .str "bound", .int i]
theorem ref_size : ∀ i : Fin 513, (refT i.val).shown.length ≤ sizeLine := by decide +kernel
theorem ref_show {i : Nat} (h : i < 513) : (refT i).showable = true := by
  have h2 : (i : Int).natAbs.log2 < 1920 := by
    rw [show (i : Int).natAbs = i from Int.natAbs_natCast i]
    have : i.log2 ≤ i := Nat.log2_le_self i
    omega
  simp only [refT, PyData.showable, PyData.showableAll, Bool.true_and, Bool.and_true, decide_eq_true_eq]; exact h2
theorem call_reprT {X : Cx} (hg : X.A.guards = some []) (hu : X.A.units + 10 < cLine) : CallR X (.builtin "repr") (fun xs H Q => ∃ p i, xs = [.ref p] ∧ H p = some (.tup [.str "refused", .str "bound", .int (i : Nat)]) ∧ i < 513 ∧ Q (.str (refT i).shown) H) := by
  intro pins s σ H xs us Q I r h
  obtain ⟨p, i, rfl, hp, hi, q⟩ := h
  cases r with
  | cons rx rr =>
    cases rr
    cases rx
    obtain ⟨its, hv, hT, _⟩ := I.tuple (SqT.of hp)
    obtain ⟨o, ho, hc, n, hd⟩ := hT
    have hr : Reads s.heap (.ref p) (refT i) ([] ++ ([] ++ ([] ++ []))) := by
      refine .tuple ho hc hd ?_
      cases hv with
      | cons r1 hv => cases hv with
        | cons r2 hv => cases hv with
          | cons r3 hv =>
            cases hv
            obtain ⟨t1, rfl⟩ := r1
            obtain ⟨t2, rfl⟩ := r2
            obtain ⟨t3, rfl⟩ := r3
            exact .cons (.str _ _) (.cons (.str _ _) (.cons (.int _ _) .nil))
    refine PySem.repr_of_reads' hr (ref_show hi) (fun z => absurd z (by simp [refT, PyData.hasDict, PyData.hasDictAll])) hg ?_ (fun b o e => e) (fun h' u tk k => ?_) (ref_size ⟨i, hi⟩)
    · have : (refT i).depth ≤ 8 := by simp [refT, PyData.depth, PyData.depthAll]
      omega
    · exact ⟨.str (refT i).shown, H, I.kept (t' := tk) k, ⟨_, rfl⟩, q⟩
/-! defs that stand where no repr is under way -/
structure FnG (P : Program) (w : World) (K : PySem.W.Frag) (mg : Str → Option Value) (base : Heap) (CX : CXT) (k : Nat) (f : Addr) (fd : FuncData) (ps : List Str) (sp : Sp) : Prop where
  len : ∀ vs H Q E, sp vs H Q E → vs.length = ps.length
  run : ∀ (A : Around) (outer : List Env) (s : Shared) (H : Hp) (args : Args) (us : List Value) (vs : List V) (Q : VK) (E : XK), A.guards = some [] → Room k A → Env0 P w K mg base A outer s H → BindsTo s fd args (ps.zip us) → Vals vs us → sp vs H Q E →
    codeAny (model P w) A (.call (.ref f) args) (CR CX outer P w H s Q E) s
theorem fng_of {P : Program} {w : World} {K : PySem.W.Frag} {mg : Str → Option Value} {base : Heap} {k : Nat} {x : Str} {st : Stmt} {f : Addr} {fd : FuncData} {N ps : List Str} {sp : Sp} (F : Fun K x x st f fd) (S : FnScope N ps (defScope st))
    (len : ∀ vs H Q E, sp vs H Q E → vs.length = ps.length)
    (hbody : ∀ (cdv : Value) (A : Around) (outer : List Env) (s : Shared) (H : Hp) (vs : List V) (Q : VK) (E : XK), (A.deeper (envOfC x (defScope st) s.heap.objs.size f cdv)).guards = some [] → Room k (A.deeper (envOfC x (defScope st) s.heap.objs.size f cdv)) → sp vs H Q E →
      ∃ t, PSs (cxOf CX0 P w K mg base N x (defScope st) f cdv A outer s H E).nox (defBody st) t ∧ t { nx := fun _ H' => Q .non H', rt := Q } (start N vs) H) :
    FnG P w K mg base CX0 (k + 1) f fd ps sp := by
  obtain ⟨oc, od, kV, doc, pm, an, cdv, ct, osl, rfl, lk, hcd⟩ := F.ex
  refine ⟨len, fun A outer s H args us vs Q E hg hr e0 hb r hsp => ?_⟩
  -- a def that is called: the context is made, the body is run
  have hlen := len _ _ _ _ hsp
  have inK : K.In s.heap := e0.mod.kin.keeps fun b o e => (e0.bs b o e).1
  have kinds : ∀ y ∈ ps.zip us, (defScope st).names.lookup y.1 = some .local ∨ ((defScope st).names.lookup y.1 = some .cell ∧ ((cellsFrom (s.heap.objs.size + 1) (defScope st).names []).lookup y.1).isSome = true) := by
    rintro ⟨n, v⟩ hy
    exact (S.par n (List.of_mem_zip hy).1).imp id fun q => ⟨q, PySem.W.cellsFrom_some _ _ _ (.inl q)⟩
  refine codeAny_call_function hr.depth (inK _ _ lk) rfl S.co S.gen rfl (PySem.W.codeRec_of inK hcd) (hb _ _ _ _ (wpAny_newFunctionEnv_cells S.kind kinds fun env he s1 x => ?_))
  subst he
  refine ⟨(e0.mod.nolimit.keeps fun b o e => (e0.bs b o e).1).keeps x.toInCall.keep, codeAny_func ?_⟩
  obtain ⟨t, ht, hq⟩ := hbody cdv A outer s H vs Q E hg (hr.deeper _) hsp
  have I0 := inv_start S hr.hd e0 hlen r x (CX := CX0) (E := E)
  refine wpAny_mono (ht.nox.run [] s1 _ H _ I0 hq) (fun fl s' z => ?_) fun e s' z => z
  match fl, z with
  | .ret u, ⟨v, σ', H', J, rv, q⟩ => exact ⟨v, H', J.os, J.bare, J.base, J.hok, rv, q⟩
  | .next, ⟨σ', H', J, q⟩ => exact ⟨.non, H', J.os, J.bare, J.base, J.hok, rfl, q⟩
  | .brk, ⟨_, _, _, q⟩ => exact q.elim
  | .cont, ⟨_, _, _, q⟩ => exact q.elim
structure CalG (P : Program) (w : World) (K : PySem.W.Frag) (mg : Str → Option Value) (base : Heap) (CX : CXT) (x : Str) (k : Nat) (ps : List Str) (sp : Sp) : Prop where
  ex : ∃ f fd, FnG P w K mg base CX k f fd ps sp ∧ mg x = some (.ref f) ∧ PySem.W.keepIn K (.ref f) = true ∧ Binds K fd ps []
section
variable {X : Cx} {k : Nat} {ps : List Str} {sp : Sp} {E : XK} {x : Str} {p pos : Pos} {e : Expr} {es : List Expr} {t : TA}
theorem pe_goG (C : CalG X.prog X.w X.K X.mg X.base CX0 x k ps sp) (hgd : X.A.guards = some []) (hr : Room k X.A) (ha : PA X (e :: es) t) (hg : Gl X x := by rfl) (hdb : (x == ("__debug__" : Str)) = false := by decide) (he : starEach (e :: es) X.env = (false, eval e X.env) :: starEach es X.env := by rfl)
    (hpl : (backTo pos (starEach es X.env)).any (·.1) = false := by rfl) : PE X (.Call (.Name x p) (e :: es) [] pos) (tCall sp [] E0 t) := by
  obtain ⟨f, fd, F, hm, hk, hb⟩ := C.ex
  refine ⟨fun pins s σ H Q I h => ?_⟩
  refine wpAny_Call_Name_kw (ld_glob I hg hm ?_ hdb)
  refine PySem.W.callWith_K (h₀ := X.base) I.ok.mod.kin hk (thn (ha.run pos pins s σ H _ I h) fun us s1 ⟨vs, H1, I1, r, q⟩ => ⟨I1.kIn, ?_⟩) he hpl
  have q' : sp vs H1 Q E0 := by simpa using q
  have hl : us.length = ps.length := by rw [← r.length]; exact F.len _ _ _ _ q'
  have b := hb s1 us I1.kIn (by rw [List.append_nil]; exact hl)
  rw [List.append_nil] at b
  show wpAny _ _ (call (.ref f) us) _ _ _
  refine wpAny_call (codeAny_mono (F.run X.A X.stack s1 H1 ⟨us, []⟩ us vs Q E0 hgd hr I1.env0 b r q') fun rr s' hq => ?_)
  match rr, hq with
  | .error e, hq => exact hq.elim
  | .ok (.ret u), hq => exact I1.after hq
  | .ok .next, hq => exact False.elim hq
  | .ok .brk, hq => exact False.elim hq
  | .ok .cont, hq => exact False.elim hq
end
end Tl

end
-- D18
section
set_option maxHeartbeats 200000
namespace Tl
open PySem PySem.Spec PyProof.Rows L2
section
variable {P : Program} {w : World} {K : PySem.W.Frag} {mg : Str → Option Value} {base : Heap}
def sp_numbers_of (P : Program) (w : World) (K : PySem.W.Frag) : Sp := fun vs H Q _ => ∃ (x v : V) (F : List Pt) (L : List (List Pt)) (N : List Pt → Int), vs = [x, v] ∧ Tp K H x (kF F) ∧ Tp K H v (kP L N) ∧ (∀ p ∈ F, Bd p) ∧ F.length ≤ 9 ∧ L ≠ [] ∧ L.length ≤ 512 ∧ L.Nodup ∧
  (∀ g ∈ L, Front F g ∧ 2 ≤ g.length ∧ g.length ≤ 9) ∧ chain F ∈ L ∧ ∀ d H', Same H H' → H d = none → NumAt P w K H' d L N → Q (.ref d) H'
abbrev s_numbers_of : Stmt := top 28
theorem sc_numbers_of : FnScope ["field", "thing", "k", "row", "found", "front", "number"] ["field", "thing"] (defScope s_numbers_of) := ⟨rfl, rfl, rfl, by decide +kernel, rfl, by decide +kernel, by decide +kernel⟩
theorem ok_numbers_of (B : Bi mg) (C_lower : Cal P w K mg base CX0 "lower" 4 ["field"] (sp_lower K)) (C_is_bound_row : Cal P w K mg base CX0 "is_bound_row" 7 ["field", "row"] (sp_is_bound_row K)) (D : Df K mg "numbers_of" s_numbers_of ["field", "thing"]) : Cal P w K mg base CX0 "numbers_of" 8 ["field", "thing"] (sp_numbers_of P w K) := by
  refine D.ok 7 sc_numbers_of (fun vs H Q E h => ?_) (fun f cdv A outer s H vs Q E hr h => ?_)
  · obtain ⟨x, v, F, L, N, rfl, _⟩ := h; rfl
  · obtain ⟨x, v, F, L, N, rfl, hx, hv, bF, h9, nL, lL, nd, hL, hlow, k⟩ := h
    refine ⟨_, pss_cons (ps_if (PW.pt (pw_or (pt_not (pt_val (pe_isN B (pa_cons (pv 1) (pa_cons (pe_ty boot_tuple B.tuple) pa_nil)) : PE _ _ (tCB (rIsN K) _)))) (pw_or1 (pt_cmpR (op_eqN (u64 hr) : OpR _ _ (rEqN K false)) (pv 1) (pe_tupN pa_nil : PE _ _ (tTupN K _)) (nomark _)))))
      (pss_one ps_never)
      pss_nil)
      (pss_cons (ps_for PassesOwn.never rfl (pi_enumT (by rfl) B.enumerate (pa_cons (pv 1) pa_nil)) (pg_tup rfl (pgs_cons (pg_name (i := 2) sc_numbers_of.nd rfl (Or.inl rfl)) (pgs_cons (pg_name (i := 3) sc_numbers_of.nd rfl (Or.inl rfl)) pgs_nil)))
      (pss_one (ps_if (pt_not (pt_val (pe_go C_is_bound_row (hr.mono (by decide)) (pa_cons (pv 0) (pa_cons (pv 3) pa_nil)))))
      (pss_one ps_never)
      pss_nil)))
      (pss_cons (ps_set (i := 4) sc_numbers_of.nd rfl (Or.inl rfl) pe_nnew)
      (pss_cons (ps_for PassesOwn.never rfl (pi_enumT (by rfl) B.enumerate (pa_cons (pv 1) pa_nil)) (pg_tup rfl (pgs_cons (pg_name (i := 2) sc_numbers_of.nd rfl (Or.inl rfl)) (pgs_cons (pg_tup rfl (pgs_cons (pg_name (i := 5) sc_numbers_of.nd rfl (Or.inl rfl)) (pgs_cons (pg_name (i := 6) sc_numbers_of.nd rfl (Or.inl rfl)) pgs_nil))) pgs_nil)))
      (pss_cons (ps_if (pt_cmpR (op_nin (u65 hr) : OpR _ _ (rNIn P w K false)) (pv 5) (pv 4) rfl)
      (pss_one ps_never)
      pss_nil)
      (pss_one (ps_nput (u65 hr) (pv 4) (pv 5) (pv 6) rfl))))
      (pss_cons (ps_if (pt_cmpR (op_nnotin (u65 hr) : OpR _ _ (rNIn P w K true)) (pe_go C_lower (hr.mono (by decide)) (pa_cons (pv 0) pa_nil)) (pv 4) rfl)
      (pss_one ps_never)
      pss_nil)
      (pss_one (ps_ret (pv 4))))))), ?_⟩
    obtain ⟨pa, ps, rfl, pp, pks⟩ := hv.invP
    have lps := pks.length
    rw [List.length_map] at lps
    have keys : ∀ {i : Nat} {x2 : V} {H2 : Hp}, Same H H2 → ps[i]? = some x2 → ∃ g, L[i]? = some g ∧ Tp K H2 x2 (kR N g) := fun {i x2 H2} s e2 => by
      obtain ⟨kk, hkk, hx2⟩ := (pks.same s).get e2
      obtain ⟨g, hg, rfl⟩ := get_map hkk
      exact ⟨g, hg, hx2⟩
    refine ⟨_, rfl, .inl ⟨_, _, _, true, rfl, hv, kit_tt, true, rfl, ?_⟩⟩
    have kd : (kP L N).depth ≤ 8 := depth_tup (n := 7) fun k hk => by
      obtain ⟨g, _, rfl⟩ := List.mem_map.mp hk
      refine Nat.le_trans (depth_tup (n := 5) fun k hk => ?_) (by decide)
      simp only [List.mem_cons, List.not_mem_nil, or_false] at hk
      rcases hk with rfl | rfl
      · exact Nat.le_trans (kF_d g) (by decide)
      · rw [NestedKey.depth]; decide
    refine ⟨_, rfl, by simp, [], .nil, fun v1 H1 s1 hv1 => ?_⟩
    have kne : decide (kP L N = .tup []) = false := decide_eq_false fun z => by
      injection z with z; exact nL (List.map_eq_nil_iff.mp z)
    refine ⟨_, _, hv.same s1, hv1, kd, by decide, false, ?_, ?_⟩
    · show V.bl (decide (kP L N = .tup [])) = _
      rw [kne]
    refine iteF ?_
    have pp1 := pp.up (Tx.same s1)
    refine ⟨_, rfl, pa, ps, rfl, pp1.sq, ?_⟩
    refine for_it (walk_enumT (K := K) (a := pa) (xs := ps)) (fun i σ H2 => ∃ y2 y3, σ = [some x, some (.ref pa), y2, y3, none, none, none] ∧ Same H1 H2) ⟨none, none, rfl, Same.rfl'⟩ (fun i σ H2 _ ⟨_, _, _, s⟩ => (pp1.up (Tx.same s)).sq) ?_ ?_
    · rintro i y σ H2 H2' hi ⟨y2, y3, rfl, s2⟩ ⟨T', x1, x2, rfl, hT', rfl, e1, e2⟩
      cases e1
      have s3 := Same.upd (o := .tup [.int (i : Nat), x2]) hT'
      have s13 := Same.tr s1 (Same.tr s2 s3)
      obtain ⟨g, hg, hx2⟩ := keys s13 e2
      have gL := mem_at hg
      refine ⟨_, _, rfl, SqT.of upd_same, rfl, _, _, rfl, _, _, rfl, rfl, ?_⟩
      refine ⟨_, rfl, _, rfl, x, x2, F, g, N g, rfl, hx.same s13, hx2, bF, h9, (hL g gL).2.1, (hL g gL).2.2, (hL g gL).1, fun H4 s4 => ?_⟩
      refine ⟨true, rfl, ?_⟩
      exact ⟨_, _, rfl, Same.tr s2 (Same.tr s3 s4)⟩
    · rintro σ H2 ⟨y2, y3, rfl, s2⟩
      intro d hd hds
      have s3 := Same.upd (o := EK P w d []) hd
      have pp3 := pp1.up (Tx.same (Same.tr s2 s3))
      have hd0 : H d = none := by
        cases q : H d with
        | none => rfl
        | some o => rw [(Same.tr s1 s2) _ _ q] at hd; cases hd
      refine ⟨_, rfl, pa, ps, rfl, pp3.sq, ?_⟩
      refine for_it (walk_enumT (K := K) (a := pa) (xs := ps)) (fun i σ H4 => ∃ y2 y3 y5 y6 kvs, σ = [some x, some (.ref pa), y2, y3, some (.ref d), y5, y6] ∧ Same H H4 ∧ ND P w K H4 d kvs ∧ kvs.map (·.1) = (L.take i).map kF ∧ ∀ g ∈ L.take i, valV kvs (kF g) = some (.int (N g))) ⟨_, _, none, none, [], rfl, Same.tr s1 (Same.tr s2 s3), ND.new hds, rfl, fun g hg => (by simp at hg)⟩ (fun i σ H4 _ ⟨_, _, _, _, _, _, s, _⟩ => (pp.up (Tx.same s)).sq) ?_ ?_
      · rintro i y σ H4 H4' hi ⟨y2, y3, y5, y6, kvs, rfl, s4, nd4, ek4, hv4⟩ ⟨T', x1, x2, rfl, hT', rfl, e1, e2⟩
        cases e1
        have s5 := Same.upd (o := .tup [.int (i : Nat), x2]) hT'
        have s45 := Same.tr s4 s5
        obtain ⟨g, hg, hx2⟩ := keys s45 e2
        obtain ⟨ea, u1, u2, rfl, es, h1, h2⟩ := inv2 hx2
        cases h2
        have nd5 := nd4.same s5
        have nin : g ∉ L.take i := by
          have nd' := nd
          rw [← List.take_append_drop i L, drop_at hg] at nd'
          exact fun z => (List.nodup_append.mp nd').2.2 g z g (by simp) rfl
        have lkv : kvs.length ≤ 512 := by
          have := congrArg List.length ek4
          rw [List.length_map, List.length_map, List.length_take] at this
          omega
        have enew : valV kvs (kF g) = none := by
          cases q : valV kvs (kF g) with
          | none => rfl
          | some u =>
            have := valV_in q
            rw [ek4] at this
            obtain ⟨g', hg', e⟩ := List.mem_map.mp this
            exact absurd (kF_inj e ▸ hg') nin
        refine ⟨_, _, rfl, SqT.of upd_same, rfl, _, _, rfl, _, _, rfl, ?_⟩
        refine ⟨_, _, rfl, es, rfl, _, _, rfl, _, _, rfl, rfl, ?_⟩
        refine ⟨rfl, ?_⟩
        refine ⟨_, rfl, _, rfl, d, kvs, _, rfl, nd5, h1, Nat.le_trans (kF_d g) (by decide), false, ?_, ?_⟩
        · show V.bl (valV kvs (kF g)).isSome = _
          rw [enew]; rfl
        refine iteF ?_
        refine ⟨_, rfl, _, rfl, _, rfl, d, kvs, _, rfl, nd5, h1, Nat.le_trans (kF_d g) (by decide), small (by omega), fun H6 nd6 ⟨o6, e6⟩ => ?_⟩
        refine ⟨_, _, _, _, _, rfl, by rw [e6]; exact Same.own s45 hd0, nd6, ?_, fun g' hg' => ?_⟩
        · show (putK kvs (kF g) _).map (·.1) = _
          rw [putK_new _ enew, List.map_append, ek4, take_next hg, List.map_append]; rfl
        · show valV (putK kvs (kF g) _) (kF g') = _
          rw [valV_put]
          by_cases e : g' = g
          · rw [if_pos (by rw [e]), e]
          · rw [if_neg (fun z => e (kF_inj z))]
            rw [take_next hg] at hg'
            rcases List.mem_append.mp hg' with h | h
            · exact hv4 g' h
            · rw [List.mem_singleton] at h; exact absurd h e
      · rintro σ H4 ⟨y2, y3, y5, y6, kvs, rfl, s4, nd4, ek4, hv4⟩
        rw [lps, List.take_length] at ek4 hv4
        have nF : F.length ≤ 1000 := by omega
        refine ⟨_, rfl, x, F, rfl, hx.same s4, bF, nF, fun vl H5 s5 hvl => ?_⟩
        have nd5 := nd4.same s5
        have hval := hv4 _ hlow
        refine ⟨_, rfl, d, kvs, _, rfl, nd5, hvl, Nat.le_trans (kF_d _) (by decide), false, ?_, ?_⟩
        · show V.bl (!(valV kvs (kF (chain F))).isSome) = _
          rw [hval]; rfl
        refine iteF ?_
        exact ⟨_, rfl, k d H5 (Same.tr s4 s5) hd0 ⟨kvs, nd5, ek4, hv4⟩⟩
end
end Tl

end
-- D19a
section
set_option maxHeartbeats 200000
namespace Tl
open PySem PySem.Spec PyProof.Rows L2
theorem idx_mid {p q : List Pt} {a : Pt} (h : a ∉ p) : (p ++ a :: q).idxOf a = p.length := by
  rw [List.idxOf_append, if_neg h, List.idxOf_cons_self, Nat.zero_add]
theorem ris_notin {p q : List Pt} {a : Pt} (h : Rising (p ++ a :: q)) : a ∉ p := fun z =>
  plt_irrefl a ((List.pairwise_append.mp h).2.2 a z a (by simp))
theorem tk1 {p : List Pt} : p.take (p.length + 1) = p := List.take_of_length_le (by omega)
theorem dr1 {p : List Pt} : p.drop (p.length + 1) = [] := List.drop_of_length_le (by omega)
theorem dr2 {p : List Pt} : p.drop (p.length + 2) = [] := List.drop_of_length_le (by omega)
theorem gone_of_step {M : List T3} {g f' : List Pt} {k : Nat} {gg : Bool} {t : T3} (hr : Rising g) (h : Step M g k gg t f') : gone g t = some (k, f') := by
  obtain ⟨_, p, q, hk, h⟩ := h
  obtain ⟨a, b, c⟩ := t
  rcases h with ⟨_, ht, rfl, rfl⟩ | ⟨_, ht, rfl, rfl⟩
  · have ix := idx_mid (q := c :: q) (ris_notin hr)
    simp only at ht ix ⊢
    unfold gone
    simp only at ht ⊢
    rw [if_pos (by simp), if_neg (by omega), ix, if_pos (by simp), hk]
    subst hk
    simp [List.take_append, List.drop_append, tk1, dr1, dr2]
  · have ix := idx_mid (q := b :: c :: q) (ris_notin hr)
    unfold gone
    simp only at ht ix ⊢
    rw [if_pos (by simp), if_pos ht, ix, if_pos (by simp), hk]
    subst hk
    simp [List.take_append, List.drop_append, tk1, dr1, dr2]
theorem step_of_gone {M : List T3} {g g' : List Pt} {j : Nat} {t : T3} (ht : t ∈ M) (ne : turn t.1 t.2.1 t.2.2 ≠ 0) (h : gone g t = some (j, g')) : ∃ gg, Step M g j gg t g' := by
  obtain ⟨a, b, c⟩ := t
  unfold gone at h
  simp only at h ne
  by_cases ha : a ∈ g
  · rw [if_pos ha] at h
    have hl := List.idxOf_lt_length_of_mem ha
    have hp : (g.take (g.idxOf a)).length = g.idxOf a := by rw [List.length_take]; omega
    by_cases h1 : 0 < turn a b c
    · rw [if_pos h1] at h
      by_cases h2 : (g.drop (g.idxOf a)).take 3 = [a, b, c]
      · rw [if_pos h2] at h
        cases h
        have eg : g = g.take (g.idxOf a) ++ a :: b :: c :: (g.drop (g.idxOf a)).drop 3 := by
          have := List.take_append_drop 3 (g.drop (g.idxOf a))
          rw [h2] at this
          have e2 := List.take_append_drop (g.idxOf a) g
          rw [← this] at e2
          exact e2.symm
        refine ⟨false, ht, g.take (g.idxOf a), (g.drop (g.idxOf a)).drop 3, hp, .inr ⟨rfl, h1, eg, ?_⟩⟩
        obtain ⟨P, hP⟩ : ∃ P, P = g.take (g.idxOf a) := ⟨_, rfl⟩
        obtain ⟨R, hR⟩ : ∃ R, R = (g.drop (g.idxOf a)).drop 3 := ⟨_, rfl⟩
        rw [← hP, ← hR] at eg
        rw [← hP, ← hR]
        rw [← hP] at hp
        rw [← hp, eg]
        simp [List.take_append, List.drop_append, tk1, dr1, dr2]
      · rw [if_neg h2] at h; cases h
    · rw [if_neg h1] at h
      by_cases h2 : (g.drop (g.idxOf a)).take 2 = [a, c]
      · rw [if_pos h2] at h
        cases h
        have eg : g = g.take (g.idxOf a) ++ a :: c :: (g.drop (g.idxOf a)).drop 2 := by
          have := List.take_append_drop 2 (g.drop (g.idxOf a))
          rw [h2] at this
          have e2 := List.take_append_drop (g.idxOf a) g
          rw [← this] at e2
          exact e2.symm
        refine ⟨true, ht, g.take (g.idxOf a), (g.drop (g.idxOf a)).drop 2, hp, .inl ⟨rfl, (by show turn a b c < 0; omega), eg, ?_⟩⟩
        obtain ⟨P, hP⟩ : ∃ P, P = g.take (g.idxOf a) := ⟨_, rfl⟩
        obtain ⟨R, hR⟩ : ∃ R, R = (g.drop (g.idxOf a)).drop 2 := ⟨_, rfl⟩
        rw [← hP, ← hR] at eg
        rw [← hP, ← hR]
        rw [← hP] at hp
        rw [← hp, eg]
        simp [List.take_append, List.drop_append, tk1, dr1, dr2]
      · rw [if_neg h2] at h; cases h
  · rw [if_neg ha] at h; cases h
end Tl

end
-- D19
section
set_option maxHeartbeats 200000
namespace Tl
open PySem PySem.Spec PyProof.Rows L2
/-- the steps of g, as advances finds them -/
def stepsOf (M : List T3) (g : List Pt) : List (T3 × Nat × List Pt) := M.filterMap fun t => (gone g t).map fun jf => (t, jf)
def kA (e : T3 × Nat × List Pt) : NestedKey := .tup [.num (e.2.1 : Nat), kT e.1, kF e.2.2]
theorem advs_map (M : List T3) (g : List Pt) : advs M g = (stepsOf M g).map kA := by
  unfold advs stepsOf
  rw [List.map_filterMap]
  congr 1
  funext t
  unfold adv
  rw [Option.map_map]; rfl
theorem mem_steps {M : List T3} {g : List Pt} {e : T3 × Nat × List Pt} (hM : ∀ t ∈ M, turn t.1 t.2.1 t.2.2 ≠ 0) (h : e ∈ stepsOf M g) : ∃ gg, Step M g e.2.1 gg e.1 e.2.2 := by
  obtain ⟨t, ht, h⟩ := List.mem_filterMap.mp h
  obtain ⟨⟨j, g'⟩, h1, rfl⟩ := Option.map_eq_some_iff.mp h
  exact step_of_gone ht (hM t ht) h1
theorem steps_mem {M : List T3} {g f' : List Pt} {k : Nat} {gg : Bool} {t : T3} (hr : Rising g) (h : Step M g k gg t f') : (t, k, f') ∈ stepsOf M g :=
  List.mem_filterMap.mpr ⟨t, h.1, by rw [gone_of_step hr h]; rfl⟩
theorem new_in {F : List Pt} {t : T3} {e : E2} (hF : Rising F) (h : Tri F t) (he : e ∈ newt t) : e ∈ tiesOf F F := by
  have s := newt_sides he
  unfold sidesOf at s
  simp only [List.mem_cons, List.not_mem_nil, or_false] at s
  obtain ⟨c1, c2, c3⟩ := h.sides
  rcases s with rfl | rfl | rfl
  · exact (mem_ties hF).mpr ⟨h.ma, h.mb, h.ab, c1⟩
  · exact (mem_ties hF).mpr ⟨h.ma, h.mc, plt_trans h.ab h.bc, c3⟩
  · exact (mem_ties hF).mpr ⟨h.mb, h.mc, h.bc, c2⟩
theorem newt_len (t : T3) : (newt t).length ≤ 2 := by
  unfold newt; split <;> simp
section
variable {P : Program} {w : World} {K : PySem.W.Frag} {mg : Str → Option Value} {base : Heap}
theorem Df.okX {x : Str} {st : Stmt} {N ps : List Str} {sp : Sp} (k : Nat) (D : Df K mg x st ps) (S : FnScope N ps (defScope st)) (len : ∀ vs H Q E, sp vs H Q E → vs.length = ps.length)
    (hbody : ∀ (f : Addr) (cdv : Value) (A : Around) (outer : List Env) (s : Shared) (H : Hp) (vs : List V) (Q : VK) (E : XK), Room k (A.deeper (envOfC x (defScope st) s.heap.objs.size f cdv)) → sp vs H Q E →
      ∃ t, PSs (cxOf (L2.CX P w) P w K mg base N x (defScope st) f cdv A outer s H E) (defBody st) t ∧ t { nx := fun _ H' => Q .non H', rt := Q } (start N vs) H) : Cal P w K mg base (L2.CX P w) x (k + 1) ps sp := by
  obtain ⟨f, fd, F, hm, hb⟩ := D.ex
  exact ⟨f, fd, F.okX S len (hbody f), hm, F.kp, hb⟩
end
section
variable {P : Program} {w : World} {K : PySem.W.Frag} {mg : Str → Option Value} {base : Heap}
def sp_lets_bound (P : Program) (w : World) (K : PySem.W.Frag) (C : Addr) : Sp := fun vs H Q E => ∃ (x y z v : V) (F up : List Pt) (W : List Int) (M : List T3) (L : List (List Pt)) (N : List Pt → Int), vs = [x, y, z, v] ∧ Tp K H x (kF F) ∧ Tp K H y (kW W) ∧ Tp K H z (kM M) ∧ Tp K H v (kP L N) ∧
  FieldOk F (chain F) up ∧ up = (chain F.reverse).reverse ∧ W.length = (tiesOf F F).length ∧ (∀ t ∈ M, Tri F t) ∧ M.length ≤ 729 ∧ L ≠ [] ∧ L.length ≤ 512 ∧ L.Nodup ∧ (∀ g ∈ L, Front F g) ∧ chain F ∈ L ∧ (∀ g ∈ L, ∀ k gg t f', Step M g k gg t f' → f' ∈ L) ∧ (up ∈ L → N up = 0) ∧
  (∀ (k : Nat) (g : List Pt) (d : Addr) (H' : Hp), H d = none → Same H H' → L[k]? = some g → Off M (wtOf (tiesOf F F) W) N g → (∀ j g', j < k → L[j]? = some g' → ¬ Off M (wtOf (tiesOf F F) W) N g') → H' d = some (.xd [("number", .int (k : Nat)), ("word", .str "bound")]) → E (.ref C) (some d) H') ∧
  (∀ H', Same H H' → (∀ g ∈ L, ¬ Off M (wtOf (tiesOf F F) W) N g) → Q (.int (tot (wtOf (tiesOf F F) W) (prs (chain F)) + N (chain F))) H')
abbrev s_lets_bound : Stmt := top 29
theorem sc_lets_bound : FnScope ["field", "weights", "menu", "thing", "numbers", "heavy", "last", "k", "front", "number", "steps", "place", "triangle", "behind", "tie"] ["field", "weights", "menu", "thing"] (defScope s_lets_bound) := ⟨rfl, rfl, rfl, by decide +kernel, rfl, by decide +kernel, by decide +kernel⟩
theorem ok_lets_bound {BB C fI : Addr} {fdI : FuncData} (TE : ErrT K mg BB C fI fdI) (B : Bi mg) (C_weight_below : Cal P w K mg base CX0 "weight_below" 6 ["field", "weights"] (sp_weight_below K)) (C_lower : Cal P w K mg base CX0 "lower" 4 ["field"] (sp_lower K)) (C_new_ties : Cal P w K mg base CX0 "new_ties" 3 ["triangle"] (sp_new_ties K)) (C_advances : Cal P w K mg base CX0 "advances" 4 ["field", "menu", "front", "mark"] (sp_advances K)) (C_upper : Cal P w K mg base CX0 "upper" 4 ["field"] (sp_upper K)) (C_ties : Cal P w K mg base CX0 "ties" 5 ["field"] (sp_ties K)) (C_numbers_of : Cal P w K mg base CX0 "numbers_of" 8 ["field", "thing"] (sp_numbers_of P w K)) (D : Df K mg "lets_bound" s_lets_bound ["field", "weights", "menu", "thing"]) : Cal P w K mg base (L2.CX P w) "lets_bound" 9 ["field", "weights", "menu", "thing"] (sp_lets_bound P w K C) := by
  refine D.okX 8 sc_lets_bound (fun vs H Q E h => ?_) (fun f cdv A outer s H vs Q E hr h => ?_)
  · obtain ⟨x, y, z, v, F, up, W, M, L, N, rfl, _⟩ := h; rfl
  · obtain ⟨x, y, z, v, F, up, W, M, L, N, rfl, hx, hy, hz, hv, ok, eup, hW, hM, lM, nL, lL, nd, hL, hlow, hclo, hup, kE, kQ⟩ := h
    refine ⟨_, pss_cons (ps_set (i := 4) sc_lets_bound.nd rfl (Or.inl rfl) (pe_go C_numbers_of (hr.mono (by decide)) (pa_cons (pv 0) (pa_cons (pv 3) pa_nil))))
      (pss_cons (ps_set (i := 5) sc_lets_bound.nd rfl (Or.inr rfl) (pe_dictzip rfl (u65 hr) (by rfl) B.dict (by rfl) B.zip (pa_cons (pe_go C_ties (hr.mono (by decide)) (pa_cons (pv 0) pa_nil)) (pa_cons (pv 1) pa_nil))))
      (pss_cons (ps_set (i := 6) sc_lets_bound.nd rfl (Or.inl rfl) (pe_go C_upper (hr.mono (by decide)) (pa_cons (pv 0) pa_nil)))
      (pss_cons (ps_for (passes_of rfl) rfl (pi_enumT (by rfl) B.enumerate (pa_cons (pv 3) pa_nil)) (pg_tup rfl (pgs_cons (pg_name (i := 7) sc_lets_bound.nd rfl (Or.inl rfl)) (pgs_cons (pg_tup rfl (pgs_cons (pg_name (i := 8) sc_lets_bound.nd rfl (Or.inl rfl)) (pgs_cons (pg_name (i := 9) sc_lets_bound.nd rfl (Or.inl rfl)) pgs_nil))) pgs_nil)))
      (pss_cons (ps_if (PW.pt (pw_and (pt_cmpR (op_eqN (u64 hr) : OpR _ _ (rEqN K false)) (pv 8) (pv 6) (nomark _)) (pw_and1 (pt_cmpR op_ne (pv 9) pe_int (nomark _)))))
      (pss_one ps_never)
      pss_nil)
      (pss_cons (ps_set (i := 10) sc_lets_bound.nd rfl (Or.inl rfl) (pe_go C_advances (hr.mono (by decide)) (pa_cons (pv 0) (pa_cons (pv 2) (pa_cons (pv 8) (pa_cons pe_int pa_nil))))))
      (pss_cons (ps_for (passes_of rfl) rfl (pi_list (pv 10) : PI _ _ _ (iList K _)) (pg_tup rfl (pgs_cons (pg_name (i := 11) sc_lets_bound.nd rfl (Or.inl rfl)) (pgs_cons (pg_name (i := 12) sc_lets_bound.nd rfl (Or.inl rfl)) (pgs_cons (pg_name (i := 13) sc_lets_bound.nd rfl (Or.inl rfl)) pgs_nil))))
      (pss_one (ps_if (pt_cmpR (op_nnotin (u65 hr) : OpR _ _ (rNIn P w K true)) (pv 13) (pv 4) rfl)
      (pss_one ps_never)
      pss_nil)))
      (pss_one (ps_for (passes_of rfl) rfl (pi_list (pv 10) : PI _ _ _ (iList K _)) (pg_tup rfl (pgs_cons (pg_name (i := 11) sc_lets_bound.nd rfl (Or.inl rfl)) (pgs_cons (pg_name (i := 12) sc_lets_bound.nd rfl (Or.inl rfl)) (pgs_cons (pg_name (i := 13) sc_lets_bound.nd rfl (Or.inl rfl)) pgs_nil))))
      (pss_one (ps_if (pt_cmpR op_gt (pv 9) (pe_op op_add (pe_nget (u65 hr) (pv 4) (pv 13) (fun _ _ => rfl) : PE _ _ (tNGet P w K _ _)) (pe_sum B (pa_cons (pe_lc (own := [("tie", 14)]) (g := gName 14) (tt := tYes) rfl sc_lets_bound.nd (pi_list (pe_go C_new_ties (hr.mono (by decide)) (pa_cons (pv 12) pa_nil)) : PI _ _ _ (iList K _)) (blkOk_by (N := ["field", "weights", "menu", "thing", "numbers", "heavy", "last", "k", "front", "number", "steps", "place", "triangle", "behind", "tie"]) (sc := defScope s_lets_bound) (by decide +kernel)) (fun _ _ _ _ _ => pg_name (i := 14) sc_lets_bound.nd rfl (Or.inl rfl)) (fun _ _ _ _ _ => pts_nil) (fun _ _ _ _ _ => (pe_nget (u65 hr) (pv 5) (pv 14) (fun _ _ => rfl) : PE _ _ (tNGet P w K _ _)))) pa_nil) : PE _ _ (tCB (rSum K) _))) (nomark _))
      (pss_one (ps_raise rfl (takes_of rfl rfl rfl rfl) (pmk_nop TE (hr.mono (by decide)) (pa_cons pe_str (pa_cons (pv 7) pa_nil)))))
      pss_nil))))))))
      (pss_one (ps_ret (pe_op op_add (pe_go C_weight_below (hr.mono (by decide)) (pa_cons (pv 0) (pa_cons (pv 1) pa_nil))) (pe_nget (u65 hr) (pv 4) (pe_go C_lower (hr.mono (by decide)) (pa_cons (pv 0) pa_nil)) (fun _ _ => rfl) : PE _ _ (tNGet P w K _ _)))))))), ?_⟩
    obtain ⟨pa, ps, rfl, pp, pks⟩ := hv.invP
    have lps := pks.length
    rw [List.length_map] at lps
    have hri := ok.fld.ris
    have h9 := ok.l9
    have bF := ok.bd
    have nF : F.length ≤ 1000 := by omega
    have frl := ok.lo.front (.inl rfl)
    have hL3 : ∀ g ∈ L, Front F g ∧ 2 ≤ g.length ∧ g.length ≤ 9 := fun g hg => ⟨hL g hg, (fr_len hri ok.l2 (hL g hg)).1, Nat.le_trans (fr_len hri ok.l2 (hL g hg)).2 h9⟩
    have bM : ∀ t ∈ M, TBd t := fun t ht => tri_bd bF (hM t ht)
    refine ⟨_, rfl, _, rfl, x, _, F, L, N, rfl, hx, hv, bF, h9, nL, lL, nd, hL3, hlow, fun dn H1 s1 hdn hnum => ?_⟩
    obtain ⟨nkv, nnd, nek, nval⟩ := hnum
    refine ⟨_, rfl, x, F, rfl, hx.same s1, bF, h9, fun tv H2 s2 htv => ?_⟩
    have s12 := Same.tr s1 s2
    obtain ⟨ta, ts, rfl, tsq, tks⟩ := htv.inv
    obtain ⟨ya, ys, rfl, ysq, yks⟩ := (hy.same s12).inv
    have ey := yks.nums
    subst ey
    refine ⟨_, rfl, ta, ya, ts, _, _, rfl, .inr tsq, .inr ysq, tks, tie_keys, nodup_kE (nodup_ties hri), by rw [List.length_map, List.length_map]; exact hW.symm, fun dh o hdh ndh => ?_⟩
    have s3 := Same.upd (o := o) hdh
    have s13 := Same.tr s12 s3
    refine ⟨_, rfl, x, F, rfl, hx.same s13, bF, nF, fun lv H4 s4 hlv => ?_⟩
    rw [← eup] at hlv
    have s14 := Same.tr s13 s4
    have ndh4 := ndh.same s4
    have nnd4 := nnd.same (Same.tr s2 (Same.tr s3 s4))
    have pp4 := pp.up (Tx.same s14)
    refine ⟨_, rfl, pa, ps, rfl, pp4.sq, ?_⟩
    refine for_it (walk_enumT (K := K) (a := pa) (xs := ps)) (fun i σ H5 => ∃ y7 y8 y9 y10 y11 y12 y13 y14, σ = [some x, some (.ref ya), some z, some (.ref pa), some (.ref dn), some (.ref dh), some lv, y7, y8, y9, y10, y11, y12, y13, y14] ∧ Same H4 H5 ∧ ∀ j g', j < i → L[j]? = some g' → ¬ Off M (wtOf (tiesOf F F) W) N g') ⟨none, none, none, none, none, none, none, none, rfl, Same.rfl', fun j g' h => by omega⟩ (fun i σ H5 _ ⟨_, _, _, _, _, _, _, _, _, s, _⟩ => (pp4.up (Tx.same s)).sq) ?_ ?_
    · rintro i q σ H5 H5' hi ⟨y7, y8, y9, y10, y11, y12, y13, y14, rfl, s5, old⟩ ⟨T', x1, x2, rfl, hT', rfl, e1, e2⟩
      cases e1
      have s6 := Same.upd (o := .tup [.int (i : Nat), x2]) hT'
      have s46 := Same.tr s5 s6
      have s06 := Same.tr s14 s46
      obtain ⟨kk, hkk, hx2⟩ := (pks.same s06).get e2
      obtain ⟨g, hg, rfl⟩ := get_map hkk
      obtain ⟨ea, u1, u2, rfl, es, h1, h2⟩ := inv2 hx2
      cases h2
      have gL := mem_at hg
      have hrg := (hL g gL).ris
      obtain ⟨H6, eH6⟩ : ∃ H6, H6 = upd H5 T' (.tup [.int (i : Nat), .ref ea]) := ⟨_, rfl⟩
      have hT6 : H6 T' = some (.tup [.int (i : Nat), .ref ea]) := by rw [eH6]; exact upd_same
      rw [← eH6] at s6 s46 s06 es h1 hx2 ⊢
      refine ⟨_, _, rfl, SqT.of hT6, rfl, _, _, rfl, _, _, rfl, ?_⟩
      refine ⟨_, _, rfl, es, rfl, _, _, rfl, _, _, rfl, rfl, ?_⟩
      refine ⟨rfl, ?_⟩
      obtain ⟨bb, hbb⟩ : ∃ bb, bb = decide (kF g = kF up) := ⟨_, rfl⟩
      refine ⟨_, rfl, _, rfl, _, _, h1, hlv.same s46, Nat.le_trans (kF_d g) (by decide), Nat.le_trans (kF_d up) (by decide), bb, by rw [hbb]; rfl, ?_⟩
      cases bb
      case' true =>
        have eg := kF_inj (of_decide_eq_true hbb.symm)
        have n0 : N g = 0 := by rw [eg]; exact hup (eg ▸ gL)
        refine ⟨_, rfl, rfl, false, by show V.bl (!decide (V.int (N g) = V.int 0)) = _; rw [n0]; rfl, iteF ?_⟩
      case' false => refine iteF (iteF ?_)
      all_goals
        refine ⟨_, rfl, _, rfl, _, rfl, x, z, g, M, u1, rfl, hz.same s06, h1, bM, by omega, (hL3 g gL).2.2, fun H7 p7 vs7 s7 hp7 h7 hw7 => ?_⟩
        rw [advs_map] at hw7
        have s47 := Same.tr s46 s7
        refine ⟨_, rfl, p7, rfl, ⟨_, ofL h7⟩, ?_⟩
        -- every step leads to a front of the paper
        refine for_it (walk_ls (a := p7) hw7) (fun j σ H8 => ∃ y11 y12 y13 y14, σ = [some x, some (.ref ya), some z, some (.ref pa), some (.ref dn), some (.ref dh), some lv, some (.int (i : Nat)), some u1, some (.int (N g)), some (.ref p7), y11, y12, y13, y14] ∧ Same H7 H8) ⟨y11, y12, y13, y14, rfl, Same.rfl'⟩ (fun j σ H8 _ ⟨_, _, _, _, _, s⟩ => ⟨seqL (ofL h7) s, Tx.same s⟩) ?_ ?_
        · rintro j r σ H8 H8' hj ⟨y11, y12, y13, y14, rfl, s8⟩ ⟨rfl, kk, hkk, hr⟩
          obtain ⟨e, he, rfl⟩ := get_map hkk
          obtain ⟨gg, hst⟩ := mem_steps (fun t ht => (hM t ht).ne) (mem_at he)
          have fL := hclo g gL _ _ _ _ hst
          obtain ⟨ra, r1, r2, r3, rfl, rs, k1, k2, k3⟩ := inv3 hr
          refine ⟨_, _, rfl, rs, rfl, _, _, rfl, _, _, rfl, _, _, rfl, rfl, ?_⟩
          refine ⟨_, rfl, _, rfl, dn, nkv, _, rfl, (nnd4.same s47).same s8, k3, Nat.le_trans (kF_d e.2.2) (by decide), false, ?_, ?_⟩
          · show V.bl (!(valV nkv (kF e.2.2)).isSome) = _
            rw [nval _ fL]; rfl
          · exact iteF ⟨_, _, _, _, rfl, s8⟩
        rintro σ H8 ⟨y11, y12, y13, y14, rfl, s8⟩
        have s48 := Same.tr s47 s8
        refine ⟨_, rfl, p7, rfl, ⟨_, ofL (s8 _ _ h7)⟩, ?_⟩
        refine for_it (walk_ls (a := p7) (hw7.same s8)) (fun j σ H9 => ∃ y11 y12 y13 y14, σ = [some x, some (.ref ya), some z, some (.ref pa), some (.ref dn), some (.ref dh), some lv, some (.int (i : Nat)), some u1, some (.int (N g)), some (.ref p7), y11, y12, y13, y14] ∧ Same H8 H9 ∧ ∀ e ∈ (stepsOf M g).take j, ¬ N e.2.2 + freshW (wtOf (tiesOf F F) W) e.1 < N g) ⟨y11, y12, y13, y14, rfl, Same.rfl', fun e he => (by simp at he)⟩ (fun j σ H9 _ ⟨_, _, _, _, _, s, _⟩ => ⟨seqL (ofL (s8 _ _ h7)) s, Tx.same s⟩) ?_ ?_
        · rintro j r σ H9 H9' hj ⟨y11, y12, y13, y14, rfl, s9, old2⟩ ⟨rfl, kk, hkk, hr⟩
          obtain ⟨e, he, rfl⟩ := get_map hkk
          obtain ⟨gg, hst⟩ := mem_steps (fun t ht => (hM t ht).ne) (mem_at he)
          have fL := hclo g gL _ _ _ _ hst
          have s49 := Same.tr s48 s9
          obtain ⟨ra, r1, r2, r3, rfl, rs, k1, k2, k3⟩ := inv3 hr
          refine ⟨_, _, rfl, rs, rfl, _, _, rfl, _, _, rfl, _, _, rfl, rfl, ?_⟩
          refine ⟨_, rfl, _, rfl, _, rfl, dn, nkv, _, _, rfl, nnd4.same s49, k3, Nat.le_trans (kF_d e.2.2) (by decide), nval _ fL, ?_⟩
          refine ⟨_, rfl, r2, e.1, rfl, k2, bM _ hst.1, fun H10 p10 vs10 s10 hp10 h10 hw10 => ?_⟩
          have s410 := Same.tr s49 s10
          refine ⟨p10, rfl, ⟨_, ofL h10⟩, fun D hD => ?_⟩
          refine lc_vals (walk_ls (a := p10) hw10) hD (fun i => ((newt e.1).take i).map fun e => V.int (wtOf (tiesOf F F) W e)) rfl (fun i hi => ?_) (fun H' s => ⟨seqL (ofL h10) s, Tx.same s⟩) YTp.same ?_ ?_
          · show (((newt e.1).take i).map fun e => V.int (wtOf (tiesOf F F) W e)).length ≤ 100000
            have := newt_len e.1
            rw [List.length_map, List.length_take]; omega
          · rintro i' z' H11 H12 hi' s11 ⟨rfl, q', hq', hz'⟩ T'' F'' hT'' _
            obtain ⟨e', he', rfl⟩ := get_map hq'
            refine ⟨rfl, ?_⟩
            refine ⟨_, rfl, _, rfl, dh, _, _, _, rfl, (ndh4.same s410).same s11, hz', Nat.le_trans (kE_d e') (by decide), heavy_val _ W e' hW.symm (new_in hri (hM _ hst.1) (mem_at he')), ?_⟩
            refine hT'' _ _ Same.rfl' ?_
            show (((newt e.1).take (i' + 1)).map fun e => V.int (wtOf (tiesOf F F) W e)) = _
            rw [take_next he', List.map_append]; rfl
          · intro H11 s11 hD11
            rw [List.length_map, List.take_length] at hD11
            refine ⟨D, (newt e.1).map (wtOf (tiesOf F F) W), rfl, ofL ?_, ?_⟩
            · rw [hD11, List.map_map]; rfl
            · refine ⟨_, _, rfl, rfl, _, _, rfl, rfl, _, rfl, ?_⟩
              have s411 := Same.tr s410 s11
              refine ifB (fun c => ?_) (fun c => ?_)
              · have c : N e.2.2 + freshW (wtOf (tiesOf F F) W) e.1 < N g := of_decide_eq_true c
                refine ⟨_, rfl, nop_ok fun d2 H13 hd2 s13' hx13 => ?_⟩
                refine kE i g d2 H13 ?_ (Same.tr s14 (Same.tr s411 s13')) hg ⟨_, _, _, _, hst, c⟩ old hx13
                cases q : H d2 with
                | none => rfl
                | some u => rw [(Same.tr s14 s411) _ _ q] at hd2; cases hd2
              · have c : ¬ N e.2.2 + freshW (wtOf (tiesOf F F) W) e.1 < N g := of_decide_eq_false c
                refine ⟨_, _, _, _, rfl, Same.tr s9 (Same.tr s10 s11), fun e2 he2 => ?_⟩
                rw [take_next he] at he2
                rcases List.mem_append.mp he2 with h | h
                · exact old2 e2 h
                · rw [List.mem_singleton] at h; rw [h]; exact c
        · rintro σ H9 ⟨y11, y12, y13, y14, rfl, s9, old2⟩
          rw [List.length_map, List.take_length] at old2
          refine ⟨_, _, _, _, _, _, _, _, rfl, Same.tr s46 (Same.tr s7 (Same.tr s8 s9)), fun j g' hj hg' => ?_⟩
          by_cases ej : j = i
          · subst ej
            rw [hg] at hg'; cases hg'
            rintro ⟨kk, gg, t, f', hst, hlt⟩
            exact old2 _ (steps_mem hrg hst) hlt
          · exact old j g' (by omega) hg'
    · rintro σ H5 ⟨y7, y8, y9, y10, y11, y12, y13, y14, rfl, s5, old⟩
      have s05 := Same.tr s14 s5
      refine ⟨_, rfl, _, rfl, x, .ref ya, F, W, rfl, hx.same s05, hy.same s05, bF, h9, hri, by have := (hL3 _ hlow).2.2; exact this, hW, fun e he => front_ties hri frl e he, fun H6 s6 => ?_⟩
      refine ⟨_, rfl, _, rfl, x, F, rfl, (hx.same s05).same s6, bF, nF, fun lv2 H7 s7 hlv2 => ?_⟩
      refine ⟨dn, nkv, _, _, rfl, (nnd4.same s5).same (Same.tr s6 s7), hlv2, Nat.le_trans (kF_d _) (by decide), nval _ hlow, ?_⟩
      refine ⟨_, _, rfl, rfl, ?_⟩
      refine kQ H7 (Same.tr s05 (Same.tr s6 s7)) fun g hg => ?_
      obtain ⟨i, hi, e⟩ := List.getElem_of_mem hg
      exact old i g (by omega) (by rw [List.getElem?_eq_getElem hi, e])
end
end Tl

end
-- D20
section
set_option maxHeartbeats 200000
namespace Tl
open PySem PySem.Spec PyProof.Rows L2
section
variable {P : Program} {w : World} {K : PySem.W.Frag} {mg : Str → Option Value} {base : Heap}
abbrev s_l_answer : Stmt := top 60
theorem sc_l_answer : FnScope ["_law_field_here", "_law_weights_here", "_law_menu_here", "_law_paper_here", "e"] ["_law_field_here", "_law_weights_here", "_law_menu_here", "_law_paper_here"] (defScope s_l_answer) := ⟨rfl, rfl, rfl, by decide +kernel, rfl, by decide +kernel, by decide +kernel⟩
def sp_l_answer (K : PySem.W.Frag) : Sp := fun vs H Q _ => ∃ (x y z v : V) (F up : List Pt) (W : List Int) (M : List T3) (L : List (List Pt)) (N : List Pt → Int), vs = [x, y, z, v] ∧ Tp K H x (kF F) ∧ Tp K H y (kW W) ∧ Tp K H z (kM M) ∧ Tp K H v (kP L N) ∧
  FieldOk F (chain F) up ∧ up = (chain F.reverse).reverse ∧ W.length = (tiesOf F F).length ∧ (∀ t ∈ M, Tri F t) ∧ M.length ≤ 729 ∧ L ≠ [] ∧ L.length ≤ 512 ∧ L.Nodup ∧ (∀ g ∈ L, Front F g) ∧ chain F ∈ L ∧ (∀ g ∈ L, ∀ k gg t f', Step M g k gg t f' → f' ∈ L) ∧ (up ∈ L → N up = 0) ∧
  (tot (wtOf (tiesOf F F) W) (prs (chain F)) + N (chain F)).natAbs.log2 < 1920 ∧
  (∀ (k : Nat) (g : List Pt) (H' : Hp), Same H H' → L[k]? = some g → Off M (wtOf (tiesOf F F) W) N g → (∀ j g', j < k → L[j]? = some g' → ¬ Off M (wtOf (tiesOf F F) W) N g') → Q (.str (refT k).shown) H') ∧
  (∀ H', Same H H' → (∀ g ∈ L, ¬ Off M (wtOf (tiesOf F F) W) N g) → Q (.str (toString (tot (wtOf (tiesOf F F) W) (prs (chain F)) + N (chain F)))) H')
theorem ok_l_answer {BB C fI : Addr} {fdI : FuncData} (TE : ErrT K mg BB C fI fdI) (B : Bi mg) (C_lets_bound : Cal P w K mg base (L2.CX P w) "lets_bound" 9 ["field", "weights", "menu", "thing"] (sp_lets_bound P w K C))
    (D : Df K mg "_law_answer" s_l_answer ["_law_field_here", "_law_weights_here", "_law_menu_here", "_law_paper_here"]) : CalG P w K mg base CX0 "_law_answer" 10 ["_law_field_here", "_law_weights_here", "_law_menu_here", "_law_paper_here"] (sp_l_answer K) := by
  obtain ⟨f, fd, F1, hm, hb⟩ := D.ex
  obtain ⟨fL, fdL, FL, mL, kL, bL⟩ := C_lets_bound.ex
  refine ⟨f, fd, fng_of F1 sc_l_answer (fun vs H Q E h => ?_) (fun cdv A outer s H vs Q E hgd hr h => ?_), hm, F1.kp, hb⟩
  · obtain ⟨x, y, z, v, F, up, W, M, L, N, rfl, _⟩ := h; rfl
  · obtain ⟨x, y, z, v, F, up, W, M, L, N, rfl, hx, hy, hz, hv, ok, eup, hW, hM, lM, nL, lL, nd, hL, hlow, hclo, hup, hlog, kE, kQ⟩ := h
    have hu10 : (A.deeper (envOfC "_law_answer" (defScope s_l_answer) s.heap.objs.size f cdv)).units + 10 < cLine := by have := hr.un; omega
    refine ⟨_, (pss_one (ps_try_as (i := 4) (tb := fun W => tRet (tCB (fun xs H Q => ∃ i, xs = [.int i] ∧ i.natAbs.log2 < 1920 ∧ Q (.str (toString i)) H) (tCons (tCallS (sp_lets_bound P w K C) (WE W) (tCons (tVar 0) (tCons (tVar 1) (tCons (tVar 2) (tCons (tVar 3) tNil))))) tNil)))
      (ts := fun a cls d => tRet (tIf (tB (tCB (fun xs H Q => ∃ D, cls = .ref D ∧ xs = [.ref a, .ref D] ∧ Q (.bl true) H) (tCons (tVar 4) (tCons (tC (.ref C)) tNil))))
        (tCB (fun xs H Q => ∃ p i, xs = [.ref p] ∧ H p = some (.tup [.str "refused", .str "bound", .int (i : Nat)]) ∧ i < 513 ∧ Q (.str (refT i).shown) H) (tCons (tTup (tCons (tC (.str "refused")) (tCons (tXf a cls d C "word" (tVar 4)) (tCons (tXf a cls d C "number" (tVar 4)) tNil)))) tNil)) (tC (.str "other"))))
      (Wout := fun _ _ _ _ => False) rfl rfl sc_l_answer.nd rfl rfl ⟨rfl, by decide, Or.inl TE.gB⟩ takes0
      (fun W pn xe tk _ => pss_one (ps_ret (pe_callB SkE.call_repr_int rfl B.repr boot_repr (pa_cons (pe_callS FL (hr.mono (by decide)) rfl mL kL bL (fun σ => passAt tk σ) (pa_cons (pv 0) (pa_cons (pv 1) (pa_cons (pv 2) (pa_cons (pv 3) pa_nil))))) pa_nil))))
      (fun a oe cls d pn hz hf => pss_one (ps_ret (pe_ifExp (pt_val (pe_callB (call_isX hz) rfl B.isinstance boot_isi (pa_cons (pv 4) (pa_cons (pe_glob rfl TE.gC rfl) pa_nil))))
        (pe_callB (call_reprT hgd hu10) rfl B.repr boot_repr (pa_cons (pe_tup (pa_cons pe_str (pa_cons (pe_xf TE.xf TE.nw hz hf (pv 4)) (pa_cons (pe_xf TE.xf TE.nn hz hf (pv 4)) pa_nil)))) pa_nil)) pe_str))))), ?_⟩
    refine ⟨_, rfl, _, rfl, _, rfl, _, rfl, x, y, z, v, F, up, W, M, L, N, rfl, hx, hy, hz, hv, ok, eup, hW, hM, lM, nL, lL, nd, hL, hlow, hclo, hup, fun k g d H' hd s' hg hoff hold hxd => ?_, fun H' s' hno => ⟨_, rfl, hlog, kQ H' s' hno⟩⟩
    refine ⟨true, TE.eB, fun _ a ha => ?_, fun q => Bool.noConfusion q⟩
    refine ⟨_, rfl, C, rfl, rfl, true, rfl, ?_⟩
    refine ⟨_, rfl, rfl, rfl, d, _, _, rfl, hxd, rfl, ?_⟩
    refine ⟨_, rfl, rfl, rfl, d, _, _, rfl, hxd, rfl, ?_⟩
    refine ⟨by show 3 ≤ sizeLine; decide, fun p hp => ?_⟩
    have hk : k < L.length := lt_at hg
    exact ⟨p, k, rfl, upd_same, by omega, kE k g _ (Same.tr s' (Same.upd hp)) hg hoff hold⟩
end
end Tl

end
-- D21a
section
set_option maxHeartbeats 200000
namespace Tl
open PySem PySem.Spec PyProof.Rows L2
theorem log_ok {z : Int} (h : -1000000000000 ≤ z) (h2 : z ≤ 1000000000000) : z.natAbs.log2 < 1920 := by
  by_cases e : z.natAbs = 0
  · rw [e]; decide
  · have : z.natAbs.log2 < 64 := (Nat.log2_lt e).mpr (by show z.natAbs < 18446744073709551616; omega)
    omega
theorem look_in {T : List E2} {W : List Int} {e : E2} {x : Int} (h : (T.zip W).lookup e = some x) : x ∈ W := by
  induction T generalizing W with
  | nil => simp at h
  | cons t T ih =>
    cases W with
    | nil => simp at h
    | cons y W =>
      rw [List.zip_cons_cons, List.lookup_cons] at h
      split at h
      · cases h; exact List.mem_cons_self
      · exact List.mem_cons_of_mem _ (ih h)
theorem wt_bd {T : List E2} {W : List Int} (hW : ∀ x ∈ W, 0 ≤ x ∧ x ≤ 1000000) (e : E2) : 0 ≤ wtOf T W e ∧ wtOf T W e ≤ 1000000 := by
  unfold wtOf
  cases h : (T.zip W).lookup e with
  | none => decide
  | some x => exact hW x (look_in h)
theorem tot_bd {wt : E2 → Int} (h : ∀ e, 0 ≤ wt e ∧ wt e ≤ 1000000) : ∀ l : List E2, 0 ≤ tot wt l ∧ tot wt l ≤ 1000000 * l.length
  | [] => by simp [tot]
  | e :: l => by
    have h1 := tot_bd h l
    have h2 := h e
    have e1 : tot wt (e :: l) = wt e + tot wt l := by simp [tot]
    rw [e1, List.length_cons]
    omega
theorem own_ok {ts ts0 : List T3} (p : ts.Perm ts0) (e : E2) : ownB ts e = true ↔ ∃ t ∈ ts0, e ∈ sidesOf t := by
  unfold ownB
  rw [List.any_eq_true]
  constructor
  · rintro ⟨t, ht, h⟩; exact ⟨t, p.mem_iff.mp ht, of_decide_eq_true h⟩
  · rintro ⟨t, ht, h⟩; exact ⟨t, p.mem_iff.mpr ht, decide_eq_true h⟩
theorem ties_bd {F : List Pt} (hF : Rising F) (bF : ∀ p ∈ F, Bd p) : ∀ e ∈ tiesOf F F, EBd e := fun e he => by
  obtain ⟨a, b⟩ := e
  have := (mem_ties hF).mp he
  exact ⟨bF _ this.1, bF _ this.2.1⟩
theorem ties_tie {F : List Pt} (hF : Rising F) (e : E2) : e ∈ tiesOf F F ↔ IsTie F e.1 e.2 := by
  obtain ⟨a, b⟩ := e
  rw [mem_ties hF]
  exact ⟨fun h => ⟨h.1, h.2.1, h.2.2.1, h.2.2.2⟩, fun h => ⟨h.ma, h.mb, h.lt, h.cl⟩⟩
theorem ties_ne {F : List Pt} (h : Field F) : tiesOf F F ≠ [] := fun z => by
  obtain ⟨t, ht⟩ := h.tri
  have : (t.1, t.2.1) ∈ tiesOf F F := (mem_ties h.ris).mpr ⟨ht.ma, ht.mb, ht.ab, ht.sides.1⟩
  rw [z] at this; cases this
theorem ties_100 {F : List Pt} (h9 : F.length ≤ 9) : (tiesOf F F).length ≤ 100 := by
  have h1 := tiesOf_len F F
  have h2 : F.length * F.length ≤ 9 * 9 := Nat.mul_le_mul h9 h9
  omega
theorem low_ne_up {F low up : List Pt} (hF : Field F) (h2 : 2 ≤ F.length) (H : Hullish 1 F low) (H' : Hullish (-1) F up) : low ≠ up := fun z => by
  have l2 := (fr_len hF.ris h2 (H.front (.inl rfl))).1
  match low, l2 with
  | a :: b :: r, _ =>
    have : (a, b) ∈ prs (a :: b :: r) := by simp [prs]
    exact not_both hF H H' this (z ▸ this)
theorem len2 {F : List Pt} (h : Field F) : 2 ≤ F.length := by
  obtain ⟨t, ht⟩ := h.tri
  match F, ht.ma, ht.mb, plt_ne ht.ab with
  | [x], h1, h2, h3 => rw [List.mem_singleton] at h1 h2; exact absurd (h1.trans h2.symm) h3
  | _ :: _ :: _, _, _, _ => simp
end Tl

end
-- D21b
section
set_option maxHeartbeats 2000000
namespace Tl
open PySem PySem.Spec PyProof.Rows L2
section
variable {P : Program} {w : World} {K : PySem.W.Frag} {mg : Str → Option Value} {base : Heap}
abbrev s_law : Stmt := top 61
theorem sc_law : FnScope ["_law_script", "_law_feed_here", "_law_kind", "_law_way", "_law_field_here", "_law_menu_here", "_law_pairs", "_law_weights_here", "_law_heavy", "_law_steps_here", "_law_numbers_here", "_law_down", "_law_up", "_law_bound", "_law_lay", "_law_weighs", "_law_front", "_law_paper_here", "_law_off", "_law_due"] ["_law_script"] (defScope s_law) := ⟨rfl, rfl, rfl, by decide +kernel, rfl, by decide +kernel, by decide +kernel⟩
abbrev nmL : List Str := ["_law_script", "_law_feed_here", "_law_kind", "_law_way", "_law_field_here", "_law_menu_here", "_law_pairs", "_law_weights_here", "_law_heavy", "_law_steps_here", "_law_numbers_here", "_law_down", "_law_up", "_law_bound", "_law_lay", "_law_weighs", "_law_front", "_law_paper_here", "_law_off", "_law_due"]
structure Cals (P : Program) (w : World) (K : PySem.W.Frag) (mg : Str → Option Value) (base : Heap) : Prop where
  B : Bi mg
  C_l_chain : Cal P w K mg base CX0 "_law_chain" 1 ["_law_heavy", "_law_front"] (sp_l_chain P w K)
  C_l_first_off : Cal P w K mg base CX0 "_law_first_off" 3 ["_law_heavy", "_law_steps_here", "_law_paper_here"] (sp_l_first_off P w K)
  C_l_paper : Cal P w K mg base CX0 "_law_paper" 2 ["_law_feed_here", "_law_numbers_here"] (sp_l_paper P w K)
  C_l_draw : Cal P w K mg base CX0 "_law_draw" 1 ["_law_feed_here", "_law_many"] (sp_l_draw K)
  C_l_weight : Cal P w K mg base CX0 "_law_weight" 2 ["_law_pairs", "_law_weights_here", "_law_lay"] (sp_l_weight K)
  C_l_some_lay : Cal P w K mg base CX0 "_law_some_lay" 3 ["_law_feed_here", "_law_field_here", "_law_menu_here"] (sp_l_some_lay K)
  C_l_edge : Cal P w K mg base CX0 "_law_edge" 2 ["_law_field_here", "_law_hand"] (sp_l_edge K)
  C_l_numbers : Cal P w K mg base CX0 "_law_numbers" 3 ["_law_feed_here", "_law_field_here", "_law_heavy", "_law_steps_here"] (sp_l_numbers P w K)
  C_l_steps : Cal P w K mg base CX0 "_law_steps" 3 ["_law_field_here", "_law_menu_here"] (sp_l_steps P w K)
  C_l_weights : Cal P w K mg base CX0 "_law_weights" 2 ["_law_feed_here", "_law_way", "_law_pairs"] (sp_l_weights K)
  C_l_ties : Cal P w K mg base CX0 "_law_ties" 2 ["_law_field_here"] (sp_l_ties K)
  C_l_menu : Cal P w K mg base CX0 "_law_menu" 4 ["_law_feed_here", "_law_whole_here"] (sp_l_menu K)
  C_l_whole : Cal P w K mg base CX0 "_law_whole" 3 ["_law_field_here"] (sp_l_whole K)
  C_l_field : Cal P w K mg base CX0 "_law_field" 4 ["_law_feed_here", "_law_most_here"] (sp_l_field K)
  C_l_feed : Cal P w K mg base CX0 "_law_feed" 1 ["_law_script"] (sp_l_feed K)
  C_l_answer : CalG P w K mg base CX0 "_law_answer" 10 ["_law_field_here", "_law_weights_here", "_law_menu_here", "_law_paper_here"] (sp_l_answer K)

/-- what stands behind the steps, at the heap Hs -/
structure LawS (P : Program) (w : World) (K : PySem.W.Frag) (Hs : Hp) (fe row : Addr) (x z : V) (F up : List Pt) (M : List T3) (l : Addr) (us : List V) (ya : V) (W : List Int) (dh ds : Addr) (R : List (List Pt)) : Prop where
  ok : FieldOk F (chain F) up
  hup : up = (chain F.reverse).reverse
  hM : ∀ t ∈ M, Tri F t
  lM : M.length ≤ 729
  fd : FeedAt Hs fe row 905
  hx : Tp K Hs x (kF F)
  hz : Tp K Hs z (kM M)
  hy : Tp K Hs ya (kW W)
  hl : Hs l = some (.lst us)
  hus : TpAll K Hs us ((tiesOf F F).map kE)
  hW : W.length = (tiesOf F F).length
  bW : ∀ x ∈ W, 0 ≤ x ∧ x ≤ 1000000
  hv : Heavy P w K Hs dh (tiesOf F F) (wtOf (tiesOf F F) W)
  sa : StepsAt P w K Hs ds M R
  bf : Bfs F M (chain F) R R.length
section
variable {Hs : Hp} {fe row l dh ds : Addr} {x z ya : V} {F up : List Pt} {M : List T3} {us : List V} {W : List Int} {R : List (List Pt)} (S : LawS P w K Hs fe row x z F up M l us ya W dh ds R)
theorem LawS.bw (S : LawS P w K Hs fe row x z F up M l us ya W dh ds R) : ∀ e, 0 ≤ wtOf (tiesOf F F) W e ∧ wtOf (tiesOf F F) W e ≤ 1000000 := wt_bd S.bW
theorem LawS.fw (S : LawS P w K Hs fe row x z F up M l us ya W dh ds R) : ∀ t ∈ M, 0 ≤ freshW (wtOf (tiesOf F F) W) t := fun t _ => (tot_bd S.bw _).1
theorem LawS.nT (S : LawS P w K Hs fe row x z F up M l us ya W dh ds R) : ∀ t ∈ M, ∀ e ∈ newt t, e ∈ tiesOf F F := fun t ht e he => new_in S.ok.fld.ris (S.hM t ht) he
theorem LawS.lR (S : LawS P w K Hs fe row x z F up M l us ya W dh ds R) : R.reverse.length ≤ 512 := by rw [List.length_reverse]; exact fronts_len S.ok.fld.ris S.ok.l9 S.bf.nd S.bf.fr
theorem LawS.frl (S : LawS P w K Hs fe row x z F up M l us ya W dh ds R) : Front F (chain F) := S.ok.lo.front (.inl rfl)
theorem LawS.lcf (S : LawS P w K Hs fe row x z F up M l us ya W dh ds R) : (chain F).length ≤ 9 := by
  have h1 := (fr_len S.ok.fld.ris S.ok.l2 S.frl).2
  have h2 := S.ok.l9
  omega
theorem LawS.bprs (S : LawS P w K Hs fe row x z F up M l us ya W dh ds R) : 0 ≤ tot (wtOf (tiesOf F F) W) (prs (chain F)) ∧ tot (wtOf (tiesOf F F) W) (prs (chain F)) ≤ 9000000 := by
  have h1 := tot_bd S.bw (prs (chain F))
  have h2 := S.lcf
  have h3 : (prs (chain F)).length ≤ 9 := by rw [prs_len]; omega
  omega
theorem LawS.lowR (S : LawS P w K Hs fe row x z F up M l us ya W dh ds R) : chain F ∈ R.reverse := List.mem_reverse.mpr S.bf.lo
theorem LawS.clo (S : LawS P w K Hs fe row x z F up M l us ya W dh ds R) : ∀ g ∈ R, ∀ kk gg t f', Step M g kk gg t f' → f' ∈ R := fun g hg => S.bf.clo g (by rw [List.take_length]; exact hg)
theorem LawS.nr (S : LawS P w K Hs fe row x z F up M l us ya W dh ds R) : R.reverse.Nodup := List.pairwise_reverse.mpr (List.Pairwise.imp (fun h => Ne.symm h) S.bf.nd)
theorem LawS.paper (S : LawS P w K Hs fe row x z F up M l us ya W dh ds R) {L' : List (List Pt)} (p : L'.Perm R.reverse) : L' ≠ [] ∧ L'.length ≤ 512 ∧ L'.Nodup ∧ (∀ g ∈ L', Front F g) ∧ chain F ∈ L' ∧ (∀ g ∈ L', ∀ k gg t f', Step M g k gg t f' → f' ∈ L') := by
  have mm : ∀ g, g ∈ L' ↔ g ∈ R := fun g => p.mem_iff.trans List.mem_reverse
  refine ⟨fun z => ?_, by rw [p.length_eq]; exact S.lR, p.nodup_iff.mpr S.nr, fun g hg => S.bf.fr g ((mm g).mp hg), (mm _).mpr S.bf.lo, fun g hg k gg t f' hs => (mm _).mpr (S.clo g ((mm g).mp hg) _ _ _ _ hs)⟩
  have := (mm _).mpr S.bf.lo
  rw [z] at this; cases this
end
end
end Tl

end
-- D21e
section
set_option maxHeartbeats 2000000
namespace Tl
open PySem PySem.Spec PyProof.Rows L2
section
variable {P : Program} {w : World} {K : PySem.W.Frag} {mg : Str → Option Value} {base : Heap}
/-- the raised paper, its answer -/
theorem law_e {f : Addr} {cdv : Value} {A : Around} {outer : List Env} {s : Shared} {H : Hp} {E : XK} (CC : Cals P w K mg base) (hgd : (A.deeper (envOfC "law" (defScope s_law) s.heap.objs.size f cdv)).guards = some []) (hr : Room 10 (A.deeper (envOfC "law" (defScope s_law) s.heap.objs.size f cdv))) : ∃ T, PSs (cxOf CX0 P w K mg base nmL "law" (defScope s_law) f cdv A outer s H E).nox ((defBody s_law).drop 19) T ∧
  ∀ {Hs : Hp} {fe row l dh ds : Addr} {x z ya : V} {F up : List Pt} {M : List T3} {us : List V} {W : List Int} {R : List (List Pt)}, LawS P w K Hs fe row x z F up M l us ya W dh ds R →
  ∀ (D : Ends) (H1 : Hp) (m : Nat) (dn : Addr) (vd vu : V) (N : List Pt → Int) (way wg : Int) (y0 y2 y13 y14 y15 y16 y17 y18 y19 : Option V), Go fe row Hs H1 905 m → m ≤ 10000 → Tp K H1 vd (kF (chain F)) → NumAt P w K H1 dn R.reverse N → N up = 0 →
    tot (wtOf (tiesOf F F) W) (prs (chain F)) + N (chain F) = wg + (if decide (0 < way) = true then 1 else 0) → 0 ≤ way → 0 ≤ wg → wg ≤ 1000000000 → (Lets M (wtOf (tiesOf F F) W) R N → tot (wtOf (tiesOf F F) W) (prs (chain F)) + N (chain F) ≤ wg) → (∀ H', D.rt (.bl true) H') →
    T D [y0, some (.ref fe), y2, some (.int way), some x, some z, some (.ref l), some ya, some (.ref dh), some (.ref ds), some (.ref dn), some vd, some vu, y13, y14, y15, y16, y17, y18, y19] H1 := by
  obtain ⟨B, C_l_chain, C_l_first_off, C_l_paper, C_l_draw, C_l_weight, C_l_some_lay, C_l_edge, C_l_numbers, C_l_steps, C_l_weights, C_l_ties, C_l_menu, C_l_whole, C_l_field, C_l_feed, C_l_answer⟩ := CC
  have hu10 : (A.deeper (envOfC "law" (defScope s_law) s.heap.objs.size f cdv)).units + 10 < cLine := by have := hr.un; omega

  refine ⟨_, pss_cons (ps_set (i := 17) sc_law.nd rfl (Or.inl rfl) (pe_go C_l_paper (hr.mono (by decide)) (pa_cons (pv 1) (pa_cons (pv 10) pa_nil))))
      (pss_cons (ps_set (i := 18) sc_law.nd rfl (Or.inl rfl) (pe_go C_l_first_off (hr.mono (by decide)) (pa_cons (pv 8) (pa_cons (pv 9) (pa_cons (pv 17) pa_nil)))))
      (pss_cons (ps_set (i := 19) sc_law.nd rfl (Or.inl rfl) (pe_ifExp (pt_cmpR op_isN (pv 18) pe_non (nomark _)) (pe_callB SkE.call_repr_int rfl B.repr boot_repr (pa_cons (pe_op op_add (pe_go C_l_chain (hr.mono (by decide)) (pa_cons (pv 8) (pa_cons (pv 11) pa_nil))) (pe_nget (u65 hr) (pv 10) (pv 11) (fun _ _ => rfl) : PE _ _ (tNGet P w K _ _))) pa_nil)) (pe_callB (call_reprT hgd hu10) rfl B.repr boot_repr (pa_cons (pe_tup (pa_cons pe_str (pa_cons pe_str (pa_cons (pv 18) pa_nil)))) pa_nil))))
      (pss_one (ps_ret (pe_and (pe_or (pe_cmpR op_notN (pv 18) pe_non (nomark _)) (pe_one (pe_cmpR op_eq (pv 3) pe_int (nomark _)))) (pe_one (pe_cmpR op_eq (pe_goG C_l_answer hgd (hr.mono (by decide)) (pa_cons (pv 4) (pa_cons (pv 7) (pa_cons (pv 5) (pa_cons (pv 17) pa_nil))))) (pv 19) (nomark _)))))))), ?_⟩
  intro Hs fe row l dh ds x z ya F up M us W R S D H1 m dn vd vu N way wg y0 y2 y13 y14 y15 y16 y17 y18 y19 G hm hvd hnum hup hval w0 g0 g1 hle kk
  refine ⟨_, rfl, _, rfl, fe, dn, m, row, R.reverse, N, rfl, G.feed, by omega, hnum, S.lR, fun L' v H2 k2 F2 p2 hp2 => ?_⟩
  have G2 := G.draw k2 F2
  obtain ⟨fa1, fa2, fa3, fa4, fa5, fa6⟩ := S.paper p2
  have mm : ∀ g, g ∈ L' ↔ g ∈ R := fun g => p2.mem_iff.trans List.mem_reverse
  obtain ⟨T, hT⟩ : ∃ T, T = tot (wtOf (tiesOf F F) W) (prs (chain F)) + N (chain F) := ⟨_, rfl⟩
  have hlog : T.natAbs.log2 < 1920 := by
    rw [hT, hval]
    split <;> exact log_ok (by omega) (by omega)
  have ans : ∀ (H3 : Hp), Go fe row Hs H3 905 (m + 512) → Tp K H3 v (kP L' N) → True := fun _ _ _ => trivial
  refine ⟨_, rfl, _, rfl, _, rfl, dh, ds, v, tiesOf F F, wtOf (tiesOf F F) W, M, R, L', N, rfl, S.hv.keep S.fd G2.keep, S.sa.keep S.fd G2.keep, hp2, fa3, fun g hg => (mm g).mp hg, fun g hg k gg t f' hs => ⟨fa6 g hg _ _ _ _ hs, ?_⟩, S.nT, fun k g H3 s3 hg hoff hold => ?_, fun H3 s3 hno => ?_⟩
  · have h1 := (fr_len S.ok.fld.ris S.ok.l2 (fa4 f' (fa6 g hg _ _ _ _ hs))).2
    have h2 := S.ok.l9
    omega
  · have hk : k < L'.length := lt_at hg
    refine ⟨_, rfl, rfl, false, rfl, ?_⟩
    refine ⟨_, rfl, by show 3 ≤ sizeLine; decide, fun p hp => ⟨p, k, rfl, upd_same, by omega, ?_⟩⟩
    have s4 := Same.upd (o := .tup [.str "refused", .str "bound", .int (k : Nat)]) hp
    have G4 := (G2.same s3).same s4
    refine ⟨_, rfl, rfl, true, rfl, ?_⟩
    refine ⟨true, rfl, ?_⟩
    refine ⟨_, rfl, _, rfl, _, rfl, _, rfl, x, ya, z, v, F, up, W, M, L', N, rfl, S.hx.up G4.tx, S.hy.up G4.tx, S.hz.up G4.tx, (hp2.same s3).same s4, S.ok, S.hup, S.hW, S.hM, S.lM, fa1, fa2, fa3, fa4, fa5, fa6, fun _ => hup, by rw [← hT]; exact hlog, fun k2 g2 H5 s5 hg2 hoff2 hold2 => ?_, fun H5 s5 hno => ?_⟩
    · have ek : k2 = k := by
        rcases Nat.lt_trichotomy k2 k with q | q | q
        · exact absurd hoff2 (hold k2 g2 q hg2)
        · exact q
        · exact absurd hoff (hold2 k g q hg)
      subst ek
      refine ⟨_, rfl, rfl, ?_⟩
      rw [decide_eq_true rfl]
      exact kk _
    · exact absurd hoff (hno g (mem_at hg))
  · have lets : Lets M (wtOf (tiesOf F F) W) R N := fun g hg k gg t f' hs => by
      have := hno g ((mm g).mpr hg)
      apply Int.not_lt.mp
      exact fun q => this ⟨k, gg, t, f', hs, q⟩
    have le := hle lets
    rw [hval] at le
    have way0 : way = 0 := by
      by_cases q : 0 < way
      · rw [if_pos (decide_eq_true q)] at le; omega
      · omega
    refine ⟨_, rfl, rfl, true, rfl, ?_⟩
    refine ⟨_, rfl, _, rfl, dh, vd, tiesOf F F, wtOf (tiesOf F F) W, chain F, rfl, (S.hv.keep S.fd G2.keep).same s3, (hvd.up (G.feed.tx k2)).same s3, fun e he => front_ties S.ok.fld.ris S.frl e he, by have := S.lcf; omega, fun H4 s4 => ?_⟩
    obtain ⟨nkv, nnd, nek, nval⟩ := id hnum
    refine ⟨_, rfl, _, rfl, dn, nkv, _, _, rfl, ((nnd.keep G.feed k2).same s3).same s4, ((hvd.up (G.feed.tx k2)).same s3).same s4, Nat.le_trans (kF_d _) (by decide), nval _ S.lowR, ?_⟩
    refine ⟨_, _, rfl, rfl, ?_⟩
    dsimp only
    refine ⟨_, rfl, by rw [← hT]; exact hlog, ?_⟩
    have G4 := (G2.same s3).same s4
    refine ⟨_, rfl, rfl, false, rfl, ?_⟩
    refine ⟨_, rfl, rfl, true, by rw [way0]; rfl, ?_⟩
    refine ⟨_, rfl, _, rfl, _, rfl, _, rfl, x, ya, z, v, F, up, W, M, L', N, rfl, S.hx.up G4.tx, S.hy.up G4.tx, S.hz.up G4.tx, (hp2.same s3).same s4, S.ok, S.hup, S.hW, S.hM, S.lM, fa1, fa2, fa3, fa4, fa5, fa6, fun _ => hup, by rw [← hT]; exact hlog, fun k2 g2 H5 s5 hg2 hoff2 hold2 => ?_, fun H5 s5 hno2 => ?_⟩
    · exact absurd hoff2 (hno g2 (mem_at hg2))
    · refine ⟨_, rfl, rfl, ?_⟩
      rw [decide_eq_true rfl]
      exact kk _
end
end Tl

end
-- D21d
section
set_option maxHeartbeats 2000000
namespace Tl
open PySem PySem.Spec PyProof.Rows L2
section
variable {P : Program} {w : World} {K : PySem.W.Frag} {mg : Str → Option Value} {base : Heap}
/-- the numbers are raised -/
theorem law_d {f : Addr} {cdv : Value} {A : Around} {outer : List Env} {s : Shared} {H : Hp} {E : XK} (CC : Cals P w K mg base) (hgd : (A.deeper (envOfC "law" (defScope s_law) s.heap.objs.size f cdv)).guards = some []) (hr : Room 10 (A.deeper (envOfC "law" (defScope s_law) s.heap.objs.size f cdv))) : ∃ T, PSs (cxOf CX0 P w K mg base nmL "law" (defScope s_law) f cdv A outer s H E).nox ((defBody s_law).drop 17) T ∧
  ∀ {Hs : Hp} {fe row l dh ds : Addr} {x z ya : V} {F up : List Pt} {M : List T3} {us : List V} {W : List Int} {R : List (List Pt)}, LawS P w K Hs fe row x z F up M l us ya W dh ds R →
  ∀ (D : Ends) (H1 : Hp) (m : Nat) (dn : Addr) (vd vu : V) (N : List Pt → Int) (way wg bound : Int) (y0 y2 y14 y16 y17 y18 y19 : Option V), Go fe row Hs H1 905 m → m ≤ 5000 → Hs dn = none → Tp K H1 vd (kF (chain F)) → Tp K H1 vu (kF up) → NumAt P w K H1 dn R.reverse N → N up = 0 →
    tot (wtOf (tiesOf F F) W) (prs (chain F)) + N (chain F) = bound → 0 ≤ way → 0 ≤ wg → wg ≤ 1000000000 → (∀ N', Lets M (wtOf (tiesOf F F) W) R N' → N' up = 0 → tot (wtOf (tiesOf F F) W) (prs (chain F)) + N' (chain F) ≤ wg) → (∀ H', D.rt (.bl true) H') →
    T D [y0, some (.ref fe), y2, some (.int way), some x, some z, some (.ref l), some ya, some (.ref dh), some (.ref ds), some (.ref dn), some vd, some vu, some (.int bound), y14, some (.int wg), y16, y17, y18, y19] H1 := by
  obtain ⟨T3, p3, q3⟩ := law_e (s := s) (H := H) (E := E) (outer := outer) CC hgd hr
  obtain ⟨B, C_l_chain, C_l_first_off, C_l_paper, C_l_draw, C_l_weight, C_l_some_lay, C_l_edge, C_l_numbers, C_l_steps, C_l_weights, C_l_ties, C_l_menu, C_l_whole, C_l_field, C_l_feed, C_l_answer⟩ := CC
  have hu10 : (A.deeper (envOfC "law" (defScope s_law) s.heap.objs.size f cdv)).units + 10 < cLine := by have := hr.un; omega

  refine ⟨_, pss_cons (ps_nput (u65 hr) (pv 10) (pv 11) (pe_op op_add (pe_op op_sub (pe_op op_add (pe_nget (u65 hr) (pv 10) (pv 11) (fun _ _ => rfl) : PE _ _ (tNGet P w K _ _)) (pv 15)) (pv 13)) (pe_intC B (pa_cons (pe_cmpR op_gt (pv 3) pe_int (nomark _)) pa_nil))) rfl)
      (pss_cons (ps_for PassesOwn.never rfl (pi_list (pe_listN B (pa_cons (pv 9) pa_nil) : PE _ _ (tCB (rNList P w K) _)) : PI _ _ _ (iList K _)) (pg_name (i := 16) sc_law.nd rfl (Or.inl rfl))
      (pss_one (ps_if (PW.pt (pw_and (pt_cmpR op_eq (pv 3) pe_int (nomark _)) (pw_and (pt_cmpR (op_neN (u64 hr) : OpR _ _ (rEqN K true)) (pv 16) (pv 11) (nomark _)) (pw_and (pt_cmpR (op_neN (u64 hr) : OpR _ _ (rEqN K true)) (pv 16) (pv 12) (nomark _)) (pw_and1 (pt_cmpR op_eq (pe_go C_l_draw (hr.mono (by decide)) (pa_cons (pv 1) (pa_cons pe_int pa_nil))) pe_int (nomark _)))))))
      (pss_one (ps_nput (u65 hr) (pv 10) (pv 16) (pe_op op_add (pe_nget (u65 hr) (pv 10) (pv 16) (fun _ _ => rfl) : PE _ _ (tNGet P w K _ _)) (pe_go C_l_draw (hr.mono (by decide)) (pa_cons (pv 1) (pa_cons pe_int pa_nil)))) rfl))
      pss_nil)))
      p3), ?_⟩
  intro Hs fe row l dh ds x z ya F up M us W R S D H1 m dn vd vu N way wg bound y0 y2 y14 y16 y17 y18 y19 G hm hdn hvd hvu hnum hup hbd w0 g0 g1 hle kk
  have nlu := low_ne_up S.ok.fld S.ok.l2 S.ok.lo S.ok.hi
  obtain ⟨nkv, nnd, nek, nval⟩ := id hnum
  have lR := S.lR
  rw [List.length_reverse] at lR
  have lnk : ∀ {kvs : List (NestedKey × V)}, kvs.map (·.1) = R.reverse.map kF → kvs.length ≤ 512 := fun {kvs} h => by
    have := congrArg List.length h
    rw [List.length_map, List.length_map, List.length_reverse] at this
    omega
  have lnk0 := lnk nek
  have bW' := S.bprs
  refine ⟨_, rfl, _, rfl, dn, nkv, _, _, rfl, nnd, hvd, Nat.le_trans (kF_d _) (by decide), nval _ S.lowR, _, rfl, _, _, rfl, rfl, _, rfl, _, _, rfl, rfl, _, rfl, _, _, rfl, rfl, .inr ⟨_, rfl, ?_⟩⟩
  refine ⟨_, _, rfl, rfl, ?_⟩
  dsimp only
  obtain ⟨v1, hv1⟩ : ∃ v1 : Int, v1 = N (chain F) + wg - bound + (if decide (0 < way) = true then 1 else 0) := ⟨_, rfl⟩
  rw [← hv1]
  refine ⟨_, rfl, _, rfl, dn, nkv, _, rfl, nnd, hvd, Nat.le_trans (kF_d _) (by decide), small (by omega), fun H2 nd2 ⟨o2, e2⟩ => ?_⟩
  obtain ⟨φ, hφ⟩ := nnd.there
  have t2 : Tx H1 H2 := by rw [e2]; exact Tx.ext hφ
  have G2 : Go fe row Hs H2 905 m := by rw [e2]; exact G.own hdn
  obtain ⟨skv, snd, sek, sval⟩ := id S.sa
  have snd2 := snd.keep S.fd G2.keep
  have ek2 : (putK nkv (kF (chain F)) (.int v1)).map (·.1) = R.reverse.map kF := by rw [keys_put (nval _ S.lowR), nek]
  have val2 : ∀ g ∈ R.reverse, valV (putK nkv (kF (chain F)) (.int v1)) (kF g) = some (.int (if g = chain F then v1 else N g)) := fun g hg => by
    rw [valV_put]
    by_cases e : g = chain F
    · rw [if_pos (by rw [e]), if_pos e]
    · rw [if_neg (fun z => e (kF_inj z)), if_neg e]
      exact nval g hg
  obtain ⟨kv2, hkv2⟩ : ∃ kv2, kv2 = putK nkv (kF (chain F)) (.int v1) := ⟨_, rfl⟩
  have nd2' : ND P w K H2 dn kv2 := by rw [hkv2]; exact nd2
  rw [← hkv2] at ek2 val2
  clear nd2
  have hvd2 := hvd.up t2
  have hvu2 := hvu.up t2
  refine ⟨_, rfl, ds, skv, rfl, snd2, fun p ps hp hps => ?_⟩
  rw [sek] at hps
  have s3 := Same.upd (o := .lst ps) hp
  have G3 := G2.same s3
  refine ⟨p, rfl, ⟨_, ofL upd_same⟩, ?_⟩
  refine for_it (walk_ls (a := p) (hps.up (Tx.new hp))) (fun i σ H3 => ∃ (y16 : Option V) (N2 : List Pt → Int) (kvs : List (NestedKey × V)), σ = [y0, some (.ref fe), y2, some (.int way), some x, some z, some (.ref l), some ya, some (.ref dh), some (.ref ds), some (.ref dn), some vd, some vu, some (.int bound), y14, some (.int wg), y16, y17, y18, y19] ∧ Go fe row Hs H3 905 (m + 2 * i) ∧ Tx (upd H2 p (.lst ps)) H3 ∧ H3 p = some (.lst ps) ∧ ND P w K H3 dn kvs ∧ kvs.map (·.1) = R.reverse.map kF ∧ (∀ g ∈ R.reverse, valV kvs (kF g) = some (.int (N2 g))) ∧ N2 (chain F) = v1 ∧ N2 up = 0)
    ⟨y16, _, kv2, rfl, G3, Tx.refl _, upd_same, nd2'.same s3, ek2, val2, if_pos rfl, by rw [if_neg (Ne.symm nlu)]; exact hup⟩ (fun i σ H3 _ ⟨_, _, _, _, _, t, hp, _⟩ => ⟨ofL hp, t⟩) ?_ ?_
  · rintro i y σ H3 H3' hi ⟨y16, N2, kvs, rfl, g3, t3, hp3, nd3, ek3, hv3, nl3, nu3⟩ ⟨rfl, qq, hqq, hy⟩
    obtain ⟨g, hg, rfl⟩ := get_map hqq
    have gR : g ∈ R.reverse := List.mem_reverse.mpr (mem_at hg)
    have hiR := lt_at hg
    have lk3 := lnk ek3
    have hvd3 := (hvd2.same s3).up t3
    have hvu3 := (hvu2.same s3).up t3
    obtain ⟨b1, hb1⟩ : ∃ b1, b1 = decide (V.int way = V.int 2) := ⟨_, rfl⟩
    refine ⟨_, rfl, rfl, b1, by rw [hb1], ?_⟩
    cases b1
    case' false => exact iteF (iteF ⟨_, N2, kvs, rfl, g3.le (by omega), t3, hp3, nd3, ek3, hv3, nl3, nu3⟩)
    obtain ⟨b2, hb2⟩ : ∃ b2, b2 = decide (kF g = kF (chain F)) := ⟨_, rfl⟩
    refine ⟨_, rfl, _, rfl, _, _, hy, hvd3, Nat.le_trans (kF_d g) (by decide), Nat.le_trans (kF_d _) (by decide), !b2, by rw [hb2]; rfl, ?_⟩
    cases b2
    case' true => exact iteF (iteF ⟨_, N2, kvs, rfl, g3.le (by omega), t3, hp3, nd3, ek3, hv3, nl3, nu3⟩)
    have gl : g ≠ chain F := fun z => of_decide_eq_false hb2.symm (by rw [z])
    obtain ⟨b3, hb3⟩ : ∃ b3, b3 = decide (kF g = kF up) := ⟨_, rfl⟩
    refine ⟨_, rfl, _, rfl, _, _, hy, hvu3, Nat.le_trans (kF_d g) (by decide), Nat.le_trans (kF_d _) (by decide), !b3, by rw [hb3]; rfl, ?_⟩
    cases b3
    case' true => exact iteF (iteF ⟨_, N2, kvs, rfl, g3.le (by omega), t3, hp3, nd3, ek3, hv3, nl3, nu3⟩)
    have gu : g ≠ up := fun z => of_decide_eq_false hb3.symm (by rw [z])
    refine ⟨_, rfl, fe, 2, _, row, rfl, g3.feed, by omega, by decide, by decide, fun r H4 k4 F4 r0 r1 => ?_⟩
    have g4 := g3.draw k4 F4
    have t4 := g3.feed.tx k4
    have hp4 := k4.stays g3.feed hp3 lst_nk
    have nd4 := nd3.keep g3.feed k4
    obtain ⟨b4, hb4⟩ : ∃ b4, b4 = decide (V.int r = V.int 0) := ⟨_, rfl⟩
    refine ⟨rfl, b4, by rw [hb4], ?_⟩
    cases b4
    case' false => exact iteF ⟨_, N2, kvs, rfl, g4.le (by omega), t3.trans t4, hp4, nd4, ek3, hv3, nl3, nu3⟩
    refine ⟨_, rfl, _, rfl, dn, kvs, _, _, rfl, nd4, hy.up t4, Nat.le_trans (kF_d g) (by decide), hv3 g gR, _, rfl, fe, 1000001, _, row, rfl, F4, by omega, by decide, by decide, fun r2 H5 k5 F5 r3 r4 => ?_⟩
    have g5 := g4.draw k5 F5
    have t5 := F4.tx k5
    have hp5 := k5.stays F4 hp4 lst_nk
    have nd5 := nd4.keep F4 k5
    refine ⟨_, _, rfl, rfl, ?_⟩
    refine ⟨_, rfl, _, rfl, dn, kvs, _, rfl, nd5, (hy.up t4).up t5, Nat.le_trans (kF_d g) (by decide), small (by omega), fun H6 nd6 ⟨o6, e6⟩ => ?_⟩
    obtain ⟨φ5, hφ5⟩ := nd5.there
    have np : p ≠ dn := ne_of hp5 hφ5 (by intro z; cases z)
    have g6 : Go fe row Hs H6 905 (m + 2 * (i + 1)) := by rw [e6]; exact (g5.own hdn).le (by omega)
    refine ⟨_, fun g' => if g' = g then N2 g + r2 else N2 g', _, rfl, g6, ((t3.trans t4).trans t5).trans (by rw [e6]; exact Tx.ext hφ5), by rw [e6, upd_ne np]; exact hp5, nd6, ?_, fun g' hg' => ?_, ?_, ?_⟩
    · show (putK kvs (kF g) _).map (·.1) = _
      rw [keys_put (hv3 g gR), ek3]
    · show valV (putK kvs (kF g) (.int (N2 g + r2))) (kF g') = some (.int (if g' = g then N2 g + r2 else N2 g'))
      rw [valV_put]
      by_cases e : g' = g
      · rw [if_pos (by rw [e]), if_pos e]
      · rw [if_neg (fun z => e (kF_inj z)), if_neg e]
        exact hv3 g' hg'
    · show (if chain F = g then N2 g + r2 else N2 (chain F)) = v1
      rw [if_neg (Ne.symm gl)]; exact nl3
    · show (if up = g then N2 g + r2 else N2 up) = 0
      rw [if_neg (Ne.symm gu)]; exact nu3
  · rintro σ H3 ⟨y16, N2, kvs, rfl, g3, t3, hp3, nd3, ek3, hv3, nl3, nu3⟩
    rw [List.length_map] at g3
    refine q3 S D H3 _ dn vd vu N2 way wg y0 y2 _ y14 _ _ y17 y18 y19 g3 (by omega) ((hvd2.same s3).up t3) ⟨kvs, nd3, ek3, hv3⟩ nu3 ?_ w0 g0 g1 (fun h => hle N2 h nu3) kk
    rw [nl3, hv1]; omega
end
end Tl

end
-- D21c
section
set_option maxHeartbeats 2000000
namespace Tl
open PySem PySem.Spec PyProof.Rows L2
section
variable {P : Program} {w : World} {K : PySem.W.Frag} {mg : Str → Option Value} {base : Heap}
/-- a lay is drawn and weighed -/
theorem law_c {f : Addr} {cdv : Value} {A : Around} {outer : List Env} {s : Shared} {H : Hp} {E : XK} (CC : Cals P w K mg base) (hgd : (A.deeper (envOfC "law" (defScope s_law) s.heap.objs.size f cdv)).guards = some []) (hr : Room 10 (A.deeper (envOfC "law" (defScope s_law) s.heap.objs.size f cdv))) : ∃ T, PSs (cxOf CX0 P w K mg base nmL "law" (defScope s_law) f cdv A outer s H E).nox ((defBody s_law).drop 13) T ∧
  ∀ {Hs : Hp} {fe row l dh ds : Addr} {x z ya : V} {F up : List Pt} {M : List T3} {us : List V} {W : List Int} {R : List (List Pt)}, LawS P w K Hs fe row x z F up M l us ya W dh ds R →
  ∀ (D : Ends) (H1 : Hp) (m : Nat) (dn : Addr) (vd vu : V) (N : List Pt → Int) (way bound : Int) (y0 y2 y14 y15 y16 y17 y18 y19 : Option V), Go fe row Hs H1 905 m → m ≤ 4000 → Hs dn = none → Tp K H1 vd (kF (chain F)) → Tp K H1 vu (kF up) → NumAt P w K H1 dn R.reverse N → NumOk M (wtOf (tiesOf F F) W) up R.reverse N →
    tot (wtOf (tiesOf F F) W) (prs (chain F)) + N (chain F) = bound → 0 ≤ way → (∀ H', D.rt (.bl true) H') →
    T D [y0, some (.ref fe), y2, some (.int way), some x, some z, some (.ref l), some ya, some (.ref dh), some (.ref ds), some (.ref dn), some vd, some vu, some (.int bound), y14, y15, y16, y17, y18, y19] H1 := by
  obtain ⟨T3, p3, q3⟩ := law_d (s := s) (H := H) (E := E) (outer := outer) CC hgd hr
  obtain ⟨B, C_l_chain, C_l_first_off, C_l_paper, C_l_draw, C_l_weight, C_l_some_lay, C_l_edge, C_l_numbers, C_l_steps, C_l_weights, C_l_ties, C_l_menu, C_l_whole, C_l_field, C_l_feed, C_l_answer⟩ := CC
  have hu10 : (A.deeper (envOfC "law" (defScope s_law) s.heap.objs.size f cdv)).units + 10 < cLine := by have := hr.un; omega

  refine ⟨_, pss_cons (ps_set (i := 14) sc_law.nd rfl (Or.inl rfl) (pe_go C_l_some_lay (hr.mono (by decide)) (pa_cons (pv 1) (pa_cons (pv 4) (pa_cons (pv 5) pa_nil)))))
      (pss_cons (ps_if (pt_cmpR op_isN (pv 14) pe_non (nomark _))
      (pss_one (ps_ret pe_bl))
      pss_nil)
      (pss_cons (ps_set (i := 15) sc_law.nd rfl (Or.inl rfl) (pe_go C_l_weight (hr.mono (by decide)) (pa_cons (pv 6) (pa_cons (pv 7) (pa_cons (pv 14) pa_nil)))))
      (pss_cons (ps_if (pt_cmpR op_lt (pv 15) (pv 13) (nomark _))
      (pss_one (ps_ret pe_bl))
      pss_nil)
      p3))), ?_⟩
  intro Hs fe row l dh ds x z ya F up M us W R S D H1 m dn vd vu N way bound y0 y2 y14 y15 y16 y17 y18 y19 G hm hdn hvd hvu hnum no hbd w0 kk
  have lets : Lets M (wtOf (tiesOf F F) W) R N := fun g hg kk gg t f' hs => no.lets g (List.mem_reverse.mpr hg) kk gg t f' hs
  have hri := S.ok.fld.ris
  refine ⟨_, rfl, _, rfl, _, rfl, fe, x, z, _, row, F, chain F, up, M, rfl, G.feed, by omega, S.hx.up G.tx, S.hz.up G.tx, S.ok, S.hM, S.lM, fun H2 k2 F2 => ?_, fun ts ts0 v2 H2 k2 F2 wy pm l18 hts => ?_⟩
  · exact ⟨_, rfl, rfl, true, rfl, kk _⟩
  obtain ⟨va, vs2, rfl, vsq, vks⟩ := hts.inv
  refine ⟨_, rfl, rfl, false, rfl, iteF ?_⟩
  have G2 := G.draw k2 F2
  have t2 := G.feed.tx k2
  refine ⟨_, rfl, _, rfl, _, rfl, l, ya, .ref va, us, tiesOf F F, W, ts, rfl, G2.stays S.hl lst_nk, S.hus.up G2.tx, S.hy.up G2.tx, hts, nodup_ties hri, S.hW.symm, by have := ties_100 S.ok.l9; omega, by omega, fun H3 s3 => ?_⟩
  have G3 := G2.same s3
  obtain ⟨wg, hwg⟩ : ∃ wg : Int, wg = tot (wtOf (tiesOf F F) W) ((tiesOf F F).filter (ownB ts)) := ⟨_, rfl⟩
  rw [← hwg]
  have bwg := tot_bd S.bw ((tiesOf F F).filter (ownB ts))
  have lwg : ((tiesOf F F).filter (ownB ts)).length ≤ 100 := Nat.le_trans (List.length_filter_le _ _) (ties_100 S.ok.l9)
  have upR : up ∈ R := (way_numbers S.bf lets wy).1
  have nup : N up = 0 := no.top (List.mem_reverse.mpr upR)
  have hle : ∀ N', Lets M (wtOf (tiesOf F F) W) R N' → N' up = 0 → tot (wtOf (tiesOf F F) W) (prs (chain F)) + N' (chain F) ≤ wg := fun N' h1 h2 => by
    rw [hwg]
    exact bound_le S.ok.fld S.hM S.ok.lo S.ok.hi wy (ties_tie hri) (ownB ts) (fun e _ => own_ok pm e) (fun e _ => (S.bw e).1) S.bf h1 h2
  have ble := hle N lets nup
  rw [hbd] at ble
  have nlt : decide (wg < bound) = false := decide_eq_false (by omega)
  refine ⟨_, rfl, _, rfl, wg, bound, rfl, rfl, false, by dsimp only; rw [nlt], iteF ?_⟩
  obtain ⟨kvs, nd, ek, hv⟩ := hnum
  exact q3 S D H3 _ dn vd vu N way wg bound y0 y2 _ _ _ _ _ G3 (by omega) hdn ((hvd.up t2).same s3) ((hvu.up t2).same s3) ⟨kvs, (nd.keep G.feed k2).same s3, ek, hv⟩ nup hbd w0 (by omega) (by omega) hle kk
end
end Tl

end
-- D21f
section
set_option maxHeartbeats 2000000
namespace Tl
open PySem PySem.Spec PyProof.Rows L2
section
variable {P : Program} {w : World} {K : PySem.W.Frag} {mg : Str → Option Value} {base : Heap}
/-- the numbers, the first paper -/
theorem law_b {f : Addr} {cdv : Value} {A : Around} {outer : List Env} {s : Shared} {H : Hp} {E : XK} (CC : Cals P w K mg base) (hgd : (A.deeper (envOfC "law" (defScope s_law) s.heap.objs.size f cdv)).guards = some []) (hr : Room 10 (A.deeper (envOfC "law" (defScope s_law) s.heap.objs.size f cdv))) : ∃ T, PSs (cxOf CX0 P w K mg base nmL "law" (defScope s_law) f cdv A outer s H E).nox ((defBody s_law).drop 9) T ∧
  ∀ {Hs : Hp} {fe row l dh ds : Addr} {x z ya : V} {F up : List Pt} {M : List T3} {us : List V} {W : List Int} {R : List (List Pt)}, LawS P w K Hs fe row x z F up M l us ya W dh ds R →
  ∀ (D : Ends) (way : Int) (y0 y2 y10 y11 y12 y13 y14 y15 y16 y17 y18 y19 : Option V), 0 ≤ way → (∀ H', D.rt (.bl true) H') →
    T D [y0, some (.ref fe), y2, some (.int way), some x, some z, some (.ref l), some ya, some (.ref dh), some (.ref ds), y10, y11, y12, y13, y14, y15, y16, y17, y18, y19] Hs := by
  obtain ⟨T3, p3, q3⟩ := law_c (s := s) (H := H) (E := E) (outer := outer) CC hgd hr
  obtain ⟨B, C_l_chain, C_l_first_off, C_l_paper, C_l_draw, C_l_weight, C_l_some_lay, C_l_edge, C_l_numbers, C_l_steps, C_l_weights, C_l_ties, C_l_menu, C_l_whole, C_l_field, C_l_feed, C_l_answer⟩ := CC
  have hu10 : (A.deeper (envOfC "law" (defScope s_law) s.heap.objs.size f cdv)).units + 10 < cLine := by have := hr.un; omega

  refine ⟨_, pss_cons (ps_set (i := 10) sc_law.nd rfl (Or.inl rfl) (pe_go C_l_numbers (hr.mono (by decide)) (pa_cons (pv 1) (pa_cons (pv 4) (pa_cons (pv 8) (pa_cons (pv 9) pa_nil))))))
      (pss_cons (ps_par (i := 11) (j := 12) rfl sc_law.nd rfl rfl (by decide) rfl rfl (pa_cons (pe_go C_l_edge (hr.mono (by decide)) (pa_cons (pv 4) (pa_cons pe_int pa_nil))) (pa_cons (pe_go C_l_edge (hr.mono (by decide)) (pa_cons (pv 4) (pa_cons (pe_un un_neg pe_int) pa_nil))) pa_nil)) (by with_unfolding_all rfl))
      (pss_cons (ps_set (i := 13) sc_law.nd rfl (Or.inl rfl) (pe_op op_add (pe_go C_l_chain (hr.mono (by decide)) (pa_cons (pv 8) (pa_cons (pv 11) pa_nil))) (pe_nget (u65 hr) (pv 10) (pv 11) (fun _ _ => rfl) : PE _ _ (tNGet P w K _ _))))
      (pss_cons (ps_if (pt_cmpR op_ne (pe_goG C_l_answer hgd (hr.mono (by decide)) (pa_cons (pv 4) (pa_cons (pv 7) (pa_cons (pv 5) (pa_cons (pe_go C_l_paper (hr.mono (by decide)) (pa_cons (pv 1) (pa_cons (pv 10) pa_nil))) pa_nil))))) (pe_callB SkE.call_repr_int rfl B.repr boot_repr (pa_cons (pv 13) pa_nil)) (nomark _))
      (pss_one (ps_ret pe_bl))
      pss_nil)
      p3))), ?_⟩
  intro Hs fe row l dh ds x z ya F up M us W R S D way y0 y2 y10 y11 y12 y13 y14 y15 y16 y17 y18 y19 w0 kk
  have hri := S.ok.fld.ris
  have G0 := Go.start S.fd
  refine ⟨_, rfl, _, rfl, _, rfl, _, rfl, fe, x, dh, ds, 905, row, F, chain F, up, tiesOf F F, wtOf (tiesOf F F) W, M, R, rfl, S.fd, by decide, S.hx, S.ok, S.hv, S.sa, S.bf, S.hM, S.nT, S.fw, fun N dn H1 k1 F1 hdn hnum no => ?_⟩
  have G1 := G0.draw k1 F1
  refine ⟨_, rfl, x, 1, F, chain F, rfl, S.hx.up G1.tx, S.ok.bd, S.ok.l9, S.ok.l2, hri, .inl rfl, S.ok.lo, fun vd H2 s2 hvd => ?_⟩
  have G2 := G1.same s2
  refine ⟨_, rfl, 1, rfl, x, -1, F, up, rfl, S.hx.up G2.tx, S.ok.bd, S.ok.l9, S.ok.l2, hri, .inr rfl, S.ok.hi, fun vu H3 s3 hvu => ?_⟩
  have G3 := G2.same s3
  have hvd := hvd.same s3
  have hnum := (hnum.same s2).same s3
  obtain ⟨nkv, nnd, nek, nval⟩ := id hnum
  refine ⟨_, _, rfl, ?_⟩
  refine ⟨_, rfl, _, rfl, dh, vd, tiesOf F F, wtOf (tiesOf F F) W, chain F, rfl, S.hv.keep S.fd G3.keep, hvd, fun e he => front_ties hri S.frl e he, by have := S.lcf; omega, fun H4 s4 => ?_⟩
  have G4 := G3.same s4
  have hvd := hvd.same s4
  have hvu := hvu.same s4
  have hnum := hnum.same s4
  refine ⟨_, rfl, _, rfl, dn, nkv, _, _, rfl, nnd.same s4, hvd, Nat.le_trans (kF_d _) (by decide), nval _ S.lowR, ?_⟩
  refine ⟨_, _, rfl, rfl, ?_⟩
  dsimp only
  obtain ⟨bound, hbd⟩ : ∃ bound : Int, bound = tot (wtOf (tiesOf F F) W) (prs (chain F)) + N (chain F) := ⟨_, rfl⟩
  rw [← hbd]
  have bprs := S.bprs
  have bN1 := no.lo _ S.lowR
  have bN2 := no.hi _ S.lowR
  have hlog : bound.natAbs.log2 < 1920 := log_ok (by omega) (by omega)
  refine ⟨_, rfl, _, rfl, _, rfl, _, rfl, _, rfl, fe, dn, _, row, R.reverse, N, rfl, G4.feed, by decide, hnum, S.lR, fun L1 v1 H5 k5 F5 p5 hp5 => ?_⟩
  have G5 := G4.draw k5 F5
  obtain ⟨fa1, fa2, fa3, fa4, fa5, fa6⟩ := S.paper p5
  refine ⟨x, ya, z, v1, F, up, W, M, L1, N, rfl, S.hx.up G5.tx, S.hy.up G5.tx, S.hz.up G5.tx, hp5, S.ok, S.hup, S.hW, S.hM, S.lM, fa1, fa2, fa3, fa4, fa5, fa6, fun hu => no.top (p5.mem_iff.mp hu), by rw [← hbd]; exact hlog, fun k g H' s' hg hoff hold => ?_, fun H6 s6 hno => ?_⟩
  · exfalso
    obtain ⟨kk, gg, t, f', hs, hlt⟩ := hoff
    have := no.lets g (p5.mem_iff.mp (mem_at hg)) _ _ _ _ hs
    omega
  rw [← hbd]
  have G6 := G5.same s6
  refine ⟨_, rfl, bound, rfl, hlog, rfl, false, by simp, iteF ?_⟩
  have t5 := G4.feed.tx k5
  obtain ⟨kvs, nd, ek, hv⟩ := hnum
  exact q3 S D H6 _ dn vd vu N way bound y0 y2 _ _ _ _ _ _ G6 (by decide) hdn ((hvd.up t5).same s6) ((hvu.up t5).same s6) ⟨kvs, (nd.keep G4.feed k5).same s6, ek, hv⟩ no hbd.symm w0 kk
end
end Tl

end
-- D22
section
set_option maxHeartbeats 4000000
namespace Tl
open PySem PySem.Spec PyProof.Rows L2
section
variable {P : Program} {w : World} {K : PySem.W.Frag} {mg : Str → Option Value} {base : Heap}
def sp_law (K : PySem.W.Frag) : Sp := fun vs H Q _ => ∃ (a : Addr) (ns : List Int), vs = [.ref a] ∧ SqL K H a (ns.map V.int) ∧ ns.length ≤ 63 ∧ ∀ H', Q (.bl true) H'
theorem ok_law (CC : Cals P w K mg base) {f : Addr} {fd : FuncData} (F1 : Fun K "law" "law" s_law f fd) : FnG P w K mg base CX0 11 f fd ["_law_script"] (sp_law K) := by
  refine fng_of F1 sc_law (fun vs H Q E h => ?_) (fun cdv A outer s H vs Q E hgd hr h => ?_)
  · obtain ⟨a, ns, rfl, _⟩ := h; rfl
  obtain ⟨a, ns, rfl, ha, h63, kk⟩ := h
  obtain ⟨T3, p3, q3⟩ := law_b (s := s) (H := H) (E := E) (outer := outer) CC hgd hr
  obtain ⟨B, C_l_chain, C_l_first_off, C_l_paper, C_l_draw, C_l_weight, C_l_some_lay, C_l_edge, C_l_numbers, C_l_steps, C_l_weights, C_l_ties, C_l_menu, C_l_whole, C_l_field, C_l_feed, C_l_answer⟩ := CC
  have hu10 : (A.deeper (envOfC "law" (defScope s_law) s.heap.objs.size f cdv)).units + 10 < cLine := by have := hr.un; omega

  refine ⟨_, pss_cons (ps_set (i := 1) sc_law.nd rfl (Or.inl rfl) (pe_go C_l_feed (hr.mono (by decide)) (pa_cons (pv 0) pa_nil)))
      (pss_cons (ps_set (i := 2) sc_law.nd rfl (Or.inl rfl) (pe_go C_l_draw (hr.mono (by decide)) (pa_cons (pv 1) (pa_cons pe_int pa_nil))))
      (pss_cons (ps_set (i := 3) sc_law.nd rfl (Or.inl rfl) (pe_go C_l_draw (hr.mono (by decide)) (pa_cons (pv 1) (pa_cons pe_int pa_nil))))
      (pss_cons (ps_set (i := 4) sc_law.nd rfl (Or.inl rfl) (pe_go C_l_field (hr.mono (by decide)) (pa_cons (pv 1) (pa_cons pe_int pa_nil))))
      (pss_cons (ps_set (i := 5) sc_law.nd rfl (Or.inl rfl) (pe_go C_l_menu (hr.mono (by decide)) (pa_cons (pv 1) (pa_cons (pe_go C_l_whole (hr.mono (by decide)) (pa_cons (pv 4) pa_nil)) pa_nil))))
      (pss_cons (ps_set (i := 6) sc_law.nd rfl (Or.inl rfl) (pe_go C_l_ties (hr.mono (by decide)) (pa_cons (pv 4) pa_nil)))
      (pss_cons (ps_set (i := 7) sc_law.nd rfl (Or.inl rfl) (pe_go C_l_weights (hr.mono (by decide)) (pa_cons (pv 1) (pa_cons (pv 2) (pa_cons (pv 6) pa_nil)))))
      (pss_cons (ps_set (i := 8) sc_law.nd rfl (Or.inl rfl) (pe_dictzip rfl (u65 hr) (by rfl) B.dict (by rfl) B.zip (pa_cons (pv 6) (pa_cons (pv 7) pa_nil))))
      (pss_cons (ps_set (i := 9) sc_law.nd rfl (Or.inl rfl) (pe_go C_l_steps (hr.mono (by decide)) (pa_cons (pv 4) (pa_cons (pv 5) pa_nil))))
      p3)))))))), ?_⟩
  refine ⟨_, rfl, a, ns, rfl, ha, h63, fun H1 fe row s1 hf0 hr0 F1' => ?_⟩
  have g0 := Go.start F1'
  refine ⟨_, rfl, fe, 6, 0, row, rfl, F1', by decide, by decide, by decide, fun kind H2 k2 F2 ka kb => ?_⟩
  have g2 := g0.draw k2 F2
  refine ⟨_, rfl, fe, 3, 1, row, rfl, F2, by decide, by decide, by decide, fun way H3 k3 F3 wa wb => ?_⟩
  refine ⟨_, rfl, fe, 2, row, rfl, F3, by decide, fun F x H4 k4 F4 hF bF h9 hx => ?_⟩
  have h2 := len2 hF
  have hri := hF.ris
  have hne : F ≠ [] := fun z => by rw [z] at h2; exact absurd h2 (by decide)
  refine ⟨_, rfl, _, rfl, x, F, rfl, hx, bF, h9, fun mv H5 s5 hmv => ?_⟩
  have F5 := F4.same s5
  have hT0 : ∀ t ∈ wh1 F F, Tri F t := fun t ht => (whole_tri hri).mp ht
  have n0 : wh1 F F ≠ [] := by
    obtain ⟨t, ht⟩ := hF.tri
    intro z
    have := (whole_tri hri).mpr ht
    rw [z] at this; cases this
  have l0 : (wh1 F F).length ≤ 729 := by
    have q := wh1_len F F
    have q2 : F.length * F.length ≤ 9 * 9 := Nat.mul_le_mul h9 h9
    have q3 : F.length * (F.length * F.length) ≤ 9 * (9 * 9) := Nat.mul_le_mul h9 q2
    omega
  refine ⟨fe, mv, 72, row, wh1 F F, rfl, F5, by decide, hmv, fun t ht => tri_bd bF (hT0 t ht), n0, l0, fun M z H6 k6 F6 hsub lM hz => ?_⟩
  have hM : ∀ t ∈ M, Tri F t := fun t ht => hT0 t (hsub t ht)
  have t46 := (Tx.same s5).trans (F5.tx k6)
  have hx6 := hx.up t46
  refine ⟨_, rfl, x, F, rfl, hx6, bF, h9, fun H7 l us s7 hl7 hl hus => ?_⟩
  have F7 := F6.same s7
  refine ⟨_, rfl, _, rfl, _, rfl, fe, l, kind, 803, row, us, tiesOf F F, rfl, F7, by decide, hl, hus, ties_bd hri bF, ties_ne hF, ties_100 h9, fun W y H8 k8 F8 hW bW hy => ?_⟩
  have t68 := (Tx.same s7).trans (F7.tx k8)
  have hl8 := k8.stays F7 hl lst_nk
  have hus8 := hus.up (F7.tx k8)
  obtain ⟨ya, ys, rfl, ysq, yks⟩ := hy.inv
  have ey := yks.nums
  subst ey
  refine ⟨_, rfl, _, rfl, l, ya, us, _, _, rfl, .inl (ofL hl8), .inr ysq, hus8, tie_keys, nodup_kE (nodup_ties hri), by rw [List.length_map, List.length_map]; exact hW.symm, fun dh o hdh ndh => ?_⟩
  have s9 := Same.upd (o := o) hdh
  obtain ⟨H9, e9⟩ : ∃ H9, H9 = upd H8 dh o := ⟨_, rfl⟩
  rw [← e9] at s9 ndh ⊢
  have hv : Heavy P w K H9 dh (tiesOf F F) (wtOf (tiesOf F F) W) := ⟨_, ndh, fun e he => heavy_val _ W e hW.symm he⟩
  have t69 := t68.trans (Tx.same s9)
  have ok : FieldOk F (chain F) (chain F.reverse).reverse := ⟨hF, bF, h9, h2, chain_low hri hne, chain_up hri hne⟩
  obtain ⟨up, hup⟩ : ∃ up, up = (chain F.reverse).reverse := ⟨_, rfl⟩
  rw [← hup] at ok
  have hx9 := hx6.up t69
  have hz9 := hz.up t69
  refine ⟨_, rfl, _, rfl, x, z, F, chain F, up, M, rfl, hx9, hz9, ok, hM, lM, fun R ds H10 s10 hds Bf sa => ?_⟩
  have t10 := Tx.same s10
  have S : LawS P w K H10 fe row x z F up M l us (.ref ya) W dh ds R := ⟨ok, hup, hM, lM, (F8.same s9).same s10, hx9.up t10, hz9.up t10, (hy.up (Tx.same s9)).same s10, s10 _ _ (s9 _ _ hl8), (hus8.up (Tx.same s9)).same s10, hW, bW, hv.same s10, sa, Bf⟩
  exact q3 S _ way _ _ _ _ _ _ _ _ _ _ _ _ wa kk
end
end Tl

end
-- W17
section
set_option maxHeartbeats 2000000
/-! the law called from the top, where no repr is under way -/
namespace Tl
open PySem PySem.Spec PyProof.Rows L2
section
variable {P : Program} {w : World} {K : PySem.W.Frag} {mg mb : Str → Option Value} {k : Nat} {fa a : Addr} {fd : FuncData} {x : Str} {sp : Sp} {s₁ : Shared} {vs : List Value} {ns : List Int}
/-- from a heap H in which at most the script's list is told, frozen -/
theorem call_at (KX : K.In s₁.heap) (hns : s₁.heap.Ns mainGlobals mg) (hb : s₁.heap.Ns builtinsNs mb) (hbb : ∀ x : Str, x ≠ "__name__" → mb x = bootBuiltins x) (hlim : s₁.heap.NoLimit) (hg : s₁.gens = #[])
    (ha : s₁.heap.get? a = some { cls := .type "list", data := .seq vs.toArray }) (hr : Room k callerA)
    (F : ∀ base : Heap, K.In base → base.Ns mainGlobals mg → FnG P w K mg base CX0 k fa fd [x] sp) (hbind : ∀ (s : Shared) (u : Value), BindsTo s fd ⟨[u], []⟩ [(x, u)])
    {H : Hp} (hsp : sp [.ref a] H (fun v _ => v = .bl true) fun _ _ _ => False) (hO : Only H) (hok : HOk P w H s₁.heap) (hA : ∀ b, H b ≠ none → b = a) (hK : H a ≠ none → K.lookup a = none) :
    codeAny (model P w) callerA (.call (.ref fa) ⟨[.ref a], []⟩) (fun r s' => r = .ok (.ret (.bool true)) ∧ OldK s₁.heap s'.heap ∧ s'.os = s₁.os ∧ AllBare s'.gens) s₁ := by
  have un : ∀ {b : Addr} {o : Obj}, s₁.heap.get? b = some o → (b = a → H a = none) → H b = none := fun {b o} e q => by
    cases z : H b with
    | none => rfl
    | some u =>
      have eb := hA b (by rw [z]; simp)
      rw [eb] at z
      rw [q eb] at z; cases z
  have keepNs : ∀ {b : Addr} {m : Str → Option Value}, s₁.heap.Ns b m → (hidT s₁.heap H).Ns b m := fun {b m} ⟨o, es, ep, e, d, r⟩ => ⟨o, es, ep, hidT_get e (un e fun eb => by
    rw [eb, ha] at e
    cases e
    cases (show Data.seq vs.toArray _ = Data.dict es ep from d)), d, r⟩
  have inB : K.In (hidT s₁.heap H) := fun b o e => hidT_get (KX b o e) (un (KX b o e) fun eb => by
    cases z : H a with
    | none => rfl
    | some u => rw [eb, hK (by rw [z]; simp)] at e; cases e)
  have MM : Mod K mg (hidT s₁.heap H) := ⟨inB, keepNs hns, ⟨mb, keepNs hb, hbb⟩, hlim.imp fun mc h => ⟨keepNs h.1, h.2⟩⟩
  have E0' : Env0 P w K mg (hidT s₁.heap H) callerA [] s₁ H := ⟨rfl, MM, fun b o e => of_hidT e, Nat.le_of_eq (hidT_size _ _), trivial, (fun b hb => absurd (show b ∈ ([] : List Addr) from hb) (by simp)), hok, .of_eq hg⟩
  have R := (F _ inB (keepNs hns)).run callerA [] s₁ H ⟨[.ref a], []⟩ [.ref a] [.ref a] (fun v _ => v = .bl true) (fun _ _ _ => False) rfl hr E0' (hbind s₁ (.ref a)) (.cons rfl .nil) hsp
  refine codeAny_mono R fun r s' h => ?_
  match r, h with
  | .error e, h => exact h.elim
  | .ok .next, h => exact False.elim h
  | .ok .brk, h => exact False.elim h
  | .ok .cont, h => exact False.elim h
  | .ok (.ret u), ⟨v, H', os, bare, U, hok', rv, q⟩ =>
    subst q
    obtain rfl : u = Value.bool true := rv
    refine ⟨rfl, OldK.of_keep fun b o e => ?_, os, bare⟩
    rcases hO b with z | ⟨ob, xs, z⟩
    · exact U.keep b o e z (by simp [frs]) (by simp)
    · have e1 := (hok b _ z).1
      have e2 := (hok' b _ (U.frzs b ob _ z)).1
      rw [e] at e1
      cases e1
      exact e2
theorem call_from (KX : K.In s₁.heap) (hns : s₁.heap.Ns mainGlobals mg) (hb : s₁.heap.Ns builtinsNs mb) (hbb : ∀ x : Str, x ≠ "__name__" → mb x = bootBuiltins x) (hlim : s₁.heap.NoLimit) (hg : s₁.gens = #[])
    (ha : s₁.heap.get? a = some { cls := .type "list", data := .seq vs.toArray }) (hi : IntsAre vs ns) (hl : ns.length ≤ sizeLine) (hr : Room k callerA)
    (F : ∀ base : Heap, K.In base → base.Ns mainGlobals mg → FnG P w K mg base CX0 k fa fd [x] sp) (hbind : ∀ (s : Shared) (u : Value), BindsTo s fd ⟨[u], []⟩ [(x, u)])
    (hsp : ∀ H : Hp, Only H → SqL K H a (ns.map V.int) → sp [.ref a] H (fun v _ => v = .bl true) fun _ _ _ => False) :
    codeAny (model P w) callerA (.call (.ref fa) ⟨[.ref a], []⟩) (fun r s' => r = .ok (.ret (.bool true)) ∧ OldK s₁.heap s'.heap ∧ s'.os = s₁.os ∧ AllBare s'.gens) s₁ := by
  have rv := vals_ints hi
  have lenV := hi.length
  cases hk : K.lookup a with
  | some o =>
    have e := KX a o hk
    rw [ha] at e
    cases e
    exact call_at (H := fun _ => none) KX hns hb hbb hlim hg ha hr F hbind (hsp _ (fun _ => .inl rfl) (.inr ⟨_, vs.toArray, _, hk, rfl, rfl, rfl, by rw [List.size_toArray, lenV]; exact hl, by simpa using rv⟩)) (fun _ => .inl rfl)
      (fun b u z => nomatch z) (fun b z => absurd rfl z) fun z => absurd rfl z
  | none =>
    obtain ⟨HH, hHH⟩ : ∃ HH : Hp, HH = fun b => if b = a then some (HO.frz { cls := .type "list", data := .seq vs.toArray } (.lst (ns.map V.int))) else none := ⟨_, rfl⟩
    have at_ : HH a = some (HO.frz { cls := .type "list", data := .seq vs.toArray } (.lst (ns.map V.int))) := by rw [hHH]; exact if_pos rfl
    have off : ∀ b, b ≠ a → HH b = none := fun b q => by rw [hHH]; exact if_neg q
    have on : Only HH := fun b => by
      by_cases q : b = a
      · rw [q]; exact .inr ⟨_, _, at_⟩
      · exact .inl (off b q)
    refine call_at (H := HH) KX hns hb hbb hlim hg ha hr F hbind (hsp _ on (.inl (.inr ⟨_, at_⟩))) on (fun b u z => ?_) (fun b z => Classical.byContradiction fun q => z (off b q)) fun _ => hk
    by_cases q : b = a
    · subst q
      rw [at_] at z
      cases z
      exact ⟨ha, by rw [List.length_map]; exact hl, vs, _, rv, ha⟩
    · rw [off b q] at z; cases z
end
theorem walk_ofG {l : PySem.W.OpenLaw} {n k : Nat} {q : Program} {loose : List Str} {XP : (Str → Option Value) → Heap → Prop} {YP : World → Heap → Prop} {d : DefRec} {K : Params → PySem.W.Frag} {sp : World → Sp} {x : Str}
    (hn : l.most = some n) (hn2 : n ≤ sizeLine) (hdf : d.params.defaults = []) (hr : Room k callerA) (hY : ∀ (w : World) (h : Heap), YP w h → (K w.params).In h)
    (F : ∀ (w : World) (mg : Str → Option Value) (fa : Addr) (h : Heap), (K w.params).In h → h.Ns mainGlobals mg → mg d.name = some (.ref fa) →
      ∃ fd : FuncData, (∀ (s : Shared) (u : Value), BindsTo s fd ⟨[u], []⟩ [(x, u)]) ∧ ∀ base : Heap, (K w.params).In base → base.Ns mainGlobals mg → FnG l.prog w (K w.params) mg base CX0 k fa fd [x] (sp w))
    (hsp : ∀ (w : World) (H : Hp) (a : Addr) (ns : List Int), ns.length ≤ n → Only H → SqL (K w.params) H a (ns.map V.int) → sp w [.ref a] H (fun v _ => v = .bl true) fun _ _ _ => False) :
    PySem.W.WalkO q loose XP YP l.row.toRowW d [] (fun f vs => PySem.call f vs) := by
  refine Att.attach_call hn hdf fun w s₀ s₁ mg mb fa o pm cd doc a vs ns G Y ho hd hcd hmg hobj hints hlen hg => ?_
  obtain ⟨fd, hb, hF⟩ := F w mg fa _ (hY w _ Y) G.T.g hmg
  exact call_from (hY w _ Y) G.T.g G.T.b G.T.builtins G.T.nolimit hg hobj hints (Nat.le_trans hlen hn2) hr hF hb fun H hO hS => hsp w H a ns hlen hO hS
end Tl

end
-- D23
section
set_option maxHeartbeats 200000
namespace Tl
open PySem PySem.Spec PyProof.Rows L2
structure Dfs (K : PySem.W.Frag) (mg : Str → Option Value) : Prop where
  D_is_number : Df K mg "is_number" s_is_number ["thing"]
  D_is_point : Df K mg "is_point" s_is_point ["thing"]
  D_turning : Df K mg "turning" s_turning ["a", "b", "c"]
  D_side : Df K mg "side" s_side ["a", "b", "c"]
  D_is_between : Df K mg "is_between" s_is_between ["a", "b", "point"]
  D_is_clear : Df K mg "is_clear" s_is_clear ["field", "a", "b"]
  D_is_tie : Df K mg "is_tie" s_is_tie ["field", "thing"]
  D_ties : Df K mg "ties" s_ties ["field"]
  D_is_front : Df K mg "is_front" s_is_front ["field", "thing"]
  D_gone_over : Df K mg "gone_over" s_gone_over ["front", "mark", "triangle"]
  D_advances : Df K mg "advances" s_advances ["field", "menu", "front", "mark"]
  D_new_ties : Df K mg "new_ties" s_new_ties ["triangle"]
  D_pairs_of : Df K mg "pairs_of" s_pairs_of ["front"]
  D_chain : Df K mg "chain" s_chain ["some"]
  D_lower : Df K mg "lower" s_lower ["field"]
  D_upper : Df K mg "upper" s_upper ["field"]
  D_weight_below : Df K mg "weight_below" s_weight_below ["field", "weights"]
  D_is_bound_row : Df K mg "is_bound_row" s_is_bound_row ["field", "row"]
  D_l_feed : Df K mg "_law_feed" s_l_feed ["_law_script"]
  D_l_draw : Df K mg "_law_draw" s_l_draw ["_law_feed_here", "_law_many"]
  D_l_turn : Df K mg "_law_turn" s_l_turn ["_law_a", "_law_b", "_law_c"]
  D_l_spread : Df K mg "_law_spread" s_l_spread ["_law_some"]
  D_l_wide : Df K mg "_law_wide" s_l_wide ["_law_feed_here"]
  D_l_point : Df K mg "_law_point" s_l_point ["_law_feed_here", "_law_way", "_law_k", "_law_slope"]
  D_l_is_void : Df K mg "_law_is_void" s_l_is_void ["_law_field_here", "_law_a", "_law_b", "_law_c"]
  D_l_whole : Df K mg "_law_whole" s_l_whole ["_law_field_here"]
  D_l_ties : Df K mg "_law_ties" s_l_ties ["_law_field_here"]
  D_l_edge : Df K mg "_law_edge" s_l_edge ["_law_field_here", "_law_hand"]
  D_l_table : Df K mg "_law_table" s_l_table ["_law_menu_here"]
  D_l_behind : Df K mg "_law_behind" s_l_behind ["_law_table_here", "_law_front"]
  D_l_over : Df K mg "_law_over" s_l_over ["_law_front", "_law_step"]
  D_l_sides : Df K mg "_law_sides" s_l_sides ["_law_triangle"]
  D_l_cross : Df K mg "_law_cross" s_l_cross ["_law_one", "_law_other"]
  D_l_along : Df K mg "_law_along" s_l_along ["_law_menu_here", "_law_tie"]
  D_l_fresh : Df K mg "_law_fresh" s_l_fresh ["_law_heavy", "_law_step"]
  D_l_chain : Df K mg "_law_chain" s_l_chain ["_law_heavy", "_law_front"]
  D_l_weight : Df K mg "_law_weight" s_l_weight ["_law_pairs", "_law_weights_here", "_law_lay"]
  D_l_moved : Df K mg "_law_moved" s_l_moved ["_law_feed_here", "_law_some"]
  D_l_field : Df K mg "_law_field" s_l_field ["_law_feed_here", "_law_most_here"]
  D_l_menu : Df K mg "_law_menu" s_l_menu ["_law_feed_here", "_law_whole_here"]
  D_l_weights : Df K mg "_law_weights" s_l_weights ["_law_feed_here", "_law_way", "_law_pairs"]
  D_l_some_lay : Df K mg "_law_some_lay" s_l_some_lay ["_law_feed_here", "_law_field_here", "_law_menu_here"]
  D_l_steps : Df K mg "_law_steps" s_l_steps ["_law_field_here", "_law_menu_here"]
  D_l_most : Df K mg "_law_most" s_l_most ["_law_heavy", "_law_numbers_here", "_law_steps_here"]
  D_l_paper : Df K mg "_law_paper" s_l_paper ["_law_feed_here", "_law_numbers_here"]
  D_l_numbers : Df K mg "_law_numbers" s_l_numbers ["_law_feed_here", "_law_field_here", "_law_heavy", "_law_steps_here"]
  D_l_first_off : Df K mg "_law_first_off" s_l_first_off ["_law_heavy", "_law_steps_here", "_law_paper_here"]
  D_numbers_of : Df K mg "numbers_of" s_numbers_of ["field", "thing"]
  D_lets_bound : Df K mg "lets_bound" s_lets_bound ["field", "weights", "menu", "thing"]
  D_l_answer : Df K mg "_law_answer" s_l_answer ["_law_field_here", "_law_weights_here", "_law_menu_here", "_law_paper_here"]
theorem cals {P : Program} {w : World} {K : PySem.W.Frag} {mg : Str → Option Value} {base : Heap} {BB C fI : Addr} {fdI : FuncData} (TE : ErrT K mg BB C fI fdI) (B : Bi mg) (DD : Dfs K mg) : Cals P w K mg base := by
  have C_is_number := ok_is_number (P := P) (w := w) (base := base) B  DD.D_is_number
  have C_is_point := ok_is_point (P := P) (w := w) (base := base) B C_is_number DD.D_is_point
  have C_turning := ok_turning (P := P) (w := w) (base := base) B  DD.D_turning
  have C_side := ok_side (P := P) (w := w) (base := base) B C_turning DD.D_side
  have C_is_between := ok_is_between (P := P) (w := w) (base := base) B C_side DD.D_is_between
  have C_is_clear := ok_is_clear (P := P) (w := w) (base := base) B C_is_between DD.D_is_clear
  have C_is_tie := ok_is_tie (P := P) (w := w) (base := base) B C_is_clear C_is_point DD.D_is_tie
  have C_ties := ok_ties (P := P) (w := w) (base := base) B C_is_clear DD.D_ties
  have C_is_front := ok_is_front (P := P) (w := w) (base := base) B C_is_tie DD.D_is_front
  have C_gone_over := ok_gone_over (P := P) (w := w) (base := base) B C_side DD.D_gone_over
  have C_advances := ok_advances (P := P) (w := w) (base := base) B C_gone_over DD.D_advances
  have C_new_ties := ok_new_ties (P := P) (w := w) (base := base) B C_side DD.D_new_ties
  have C_pairs_of := ok_pairs_of (P := P) (w := w) (base := base) B  DD.D_pairs_of
  have C_chain := ok_chain (P := P) (w := w) (base := base) B C_side DD.D_chain
  have C_lower := ok_lower (P := P) (w := w) (base := base) B C_chain DD.D_lower
  have C_upper := ok_upper (P := P) (w := w) (base := base) B C_chain DD.D_upper
  have C_weight_below := ok_weight_below (P := P) (w := w) (base := base) B C_pairs_of C_lower C_ties DD.D_weight_below
  have C_is_bound_row := ok_is_bound_row (P := P) (w := w) (base := base) B C_is_number C_is_front DD.D_is_bound_row
  have C_l_feed := ok_l_feed (P := P) (w := w) (base := base) B  DD.D_l_feed
  have C_l_draw := ok_l_draw (P := P) (w := w) (base := base) B  DD.D_l_draw
  have C_l_turn := ok_l_turn (P := P) (w := w) (base := base) B  DD.D_l_turn
  have C_l_spread := ok_l_spread (P := P) (w := w) (base := base) B C_l_turn DD.D_l_spread
  have C_l_wide := ok_l_wide (P := P) (w := w) (base := base) B C_l_draw DD.D_l_wide
  have C_l_point := ok_l_point (P := P) (w := w) (base := base) B C_l_draw C_l_wide DD.D_l_point
  have C_l_is_void := ok_l_is_void (P := P) (w := w) (base := base) B C_l_turn DD.D_l_is_void
  have C_l_whole := ok_l_whole (P := P) (w := w) (base := base) B C_l_is_void DD.D_l_whole
  have C_l_ties := ok_l_ties (P := P) (w := w) (base := base) B C_l_turn DD.D_l_ties
  have C_l_edge := ok_l_edge (P := P) (w := w) (base := base) B C_l_turn DD.D_l_edge
  have C_l_table := ok_l_table (P := P) (w := w) (base := base) B C_l_turn DD.D_l_table
  have C_l_behind := ok_l_behind (P := P) (w := w) (base := base) B  DD.D_l_behind
  have C_l_over := ok_l_over (P := P) (w := w) (base := base) B  DD.D_l_over
  have C_l_sides := ok_l_sides (P := P) (w := w) (base := base) B  DD.D_l_sides
  have C_l_cross := ok_l_cross (P := P) (w := w) (base := base) B C_l_turn DD.D_l_cross
  have C_l_along := ok_l_along (P := P) (w := w) (base := base) B C_l_cross C_l_sides DD.D_l_along
  have C_l_fresh := ok_l_fresh (P := P) (w := w) (base := base) B  DD.D_l_fresh
  have C_l_chain := ok_l_chain (P := P) (w := w) (base := base) B  DD.D_l_chain
  have C_l_weight := ok_l_weight (P := P) (w := w) (base := base) B C_l_sides DD.D_l_weight
  have C_l_moved := ok_l_moved (P := P) (w := w) (base := base) B C_l_draw DD.D_l_moved
  have C_l_field := ok_l_field (P := P) (w := w) (base := base) B C_l_spread C_l_moved C_l_point C_l_draw DD.D_l_field
  have C_l_menu := ok_l_menu (P := P) (w := w) (base := base) B C_l_along C_l_draw C_l_sides DD.D_l_menu
  have C_l_weights := ok_l_weights (P := P) (w := w) (base := base) B C_l_draw DD.D_l_weights
  have C_l_some_lay := ok_l_some_lay (P := P) (w := w) (base := base) B C_l_edge C_l_over C_l_draw C_l_behind C_l_table DD.D_l_some_lay
  have C_l_steps := ok_l_steps (P := P) (w := w) (base := base) B C_l_behind C_l_edge C_l_table DD.D_l_steps
  have C_l_most := ok_l_most (P := P) (w := w) (base := base) B C_l_fresh DD.D_l_most
  have C_l_paper := ok_l_paper (P := P) (w := w) (base := base) B C_l_draw DD.D_l_paper
  have C_l_numbers := ok_l_numbers (P := P) (w := w) (base := base) B C_l_most C_l_draw C_l_edge DD.D_l_numbers
  have C_l_first_off := ok_l_first_off (P := P) (w := w) (base := base) B C_l_most DD.D_l_first_off
  have C_numbers_of := ok_numbers_of (P := P) (w := w) (base := base) B C_lower C_is_bound_row DD.D_numbers_of
  have C_lets_bound := ok_lets_bound (P := P) (w := w) (base := base) TE B C_weight_below C_lower C_new_ties C_advances C_upper C_ties C_numbers_of DD.D_lets_bound
  have C_l_answer := ok_l_answer (P := P) (w := w) (base := base) TE B C_lets_bound DD.D_l_answer
  exact ⟨B, C_l_chain, C_l_first_off, C_l_paper, C_l_draw, C_l_weight, C_l_some_lay, C_l_edge, C_l_numbers, C_l_steps, C_l_weights, C_l_ties, C_l_menu, C_l_whole, C_l_field, C_l_feed, C_l_answer⟩
theorem df_mk {K : PySem.W.Frag} {h : Heap} {mg : Str → Option Value} {x : Str} {st : Stmt} {ps : List Str} {f : Addr} {oc : Value} {od an : Option Addr} {osl : Array (Option Value)} {kV doc pm cdv ct : Value} (X : K.In h) (G : h.Ns mainGlobals mg)
    (a : PySem.W.nsIn K mainGlobals x = some (some (.ref f))) (l : K.lookup f = some ⟨oc, od, .func (PySem.W.fnOf x x (defArgs st) (defBody st) (defScope st) .none kV doc pm an cdv ct), osl⟩) (c : PySem.W.codeIn K cdv x = true) (k : PySem.W.keepIn K (.ref f) = true)
    (b : ∀ (kV doc pm : Value) (an : Option Addr) (cdv ct : Value) (us : List Value), us.length = ps.length → bindArgs (PySem.W.fnOf x x (defArgs st) (defBody st) (defScope st) .none kV doc pm an cdv ct) ⟨us, []⟩ = pure (ps.zip us)) : Df K mg x st ps :=
  ⟨_, _, fun_mk l c k, PySem.W.mg_of X G a, (fun_mk l c k).binds b⟩
theorem walk {l : PySem.W.OpenLaw} {q : Program} {loose : List Str} {XP : (Str → Option Value) → Heap → Prop} {YP : World → Heap → Prop} {d : DefRec} {K : Params → PySem.W.Frag} (hn : l.most = some 63) (hdf : d.params.defaults = [])
    (hY : ∀ (w : World) (h : Heap), YP w h → (K w.params).In h)
    (F : ∀ (w : World) (mg : Str → Option Value) (fa : Addr) (h : Heap), (K w.params).In h → h.Ns mainGlobals mg → mg d.name = some (.ref fa) →
      ∃ fd : FuncData, (∀ (s : Shared) (u : Value), BindsTo s fd ⟨[u], []⟩ [("_law_script", u)]) ∧ ∀ base : Heap, (K w.params).In base → base.Ns mainGlobals mg → FnG l.prog w (K w.params) mg base CX0 11 fa fd ["_law_script"] (sp_law (K w.params))) :
    PySem.W.WalkO q loose XP YP l.row.toRowW d [] (fun f vs => PySem.call f vs) :=
  walk_ofG (n := 63) (k := 11) (x := "_law_script") (sp := fun w => sp_law (K w.params)) hn (by decide) hdf ⟨rfl, by decide, by decide⟩ hY F (fun _ _ a ns hl _ hS => ⟨a, ns, rfl, hS, hl, fun _ => rfl⟩)
theorem law_mk {P : Program} {w : World} {K : PySem.W.Frag} {h : Heap} {mg : Str → Option Value} {fa f : Addr} {oc : Value} {od an : Option Addr} {osl : Array (Option Value)} {kV doc pm cdv ct : Value} (X : K.In h) (G : h.Ns mainGlobals mg) (hfa : mg "law" = some (.ref fa))
    (a : PySem.W.nsIn K mainGlobals "law" = some (some (.ref f))) (l : K.lookup f = some ⟨oc, od, .func (PySem.W.fnOf "law" "law" (defArgs s_law) (defBody s_law) (defScope s_law) .none kV doc pm an cdv ct), osl⟩) (c : PySem.W.codeIn K cdv "law" = true) (k : PySem.W.keepIn K (.ref f) = true)
    {BB C fI : Addr} {fdI : FuncData} (TE : ErrT K mg BB C fI fdI) (B : Bi mg) (DD : Dfs K mg) :
    ∃ fd : FuncData, (∀ (s : Shared) (u : Value), BindsTo s fd ⟨[u], []⟩ [("_law_script", u)]) ∧ ∀ base : Heap, K.In base → base.Ns mainGlobals mg → FnG P w K mg base CX0 11 fa fd ["_law_script"] (sp_law K) := by
  have e := hfa.symm.trans (PySem.W.mg_of X G a)
  cases e
  exact ⟨_, fun s v => .of_eq rfl, fun base _ _ => ok_law (cals TE B DD) (fun_mk l c k)⟩
end Tl

end
-- D23b
section
set_option maxHeartbeats 200000
namespace Tl
open PySem PySem.Spec PyProof.Rows L2
theorem err_mk {K : PySem.W.Frag} {h : Heap} {mg : Str → Option Value} {B C f : Addr} {oc : Value} {od an : Option Addr} {osl : Array (Option Value)} {kV doc pm cdv ct : Value} (X : K.In h) (G : h.Ns mainGlobals mg)
    {nm q : Str} {N : Addr} {bs : List Value} {sn : List Str} {sub : List Value} {ab : Bool} {col : Option Bool} {dd : Option Addr} {m0 m1 m2 m3 m5 : Option Value}
    (aB : PySem.W.nsIn K mainGlobals "LayError" = some (some (.ref B))) (aC : PySem.W.nsIn K mainGlobals "NoPaper" = some (some (.ref C)))
    (xL : K.lookup C = some (excClassObj nm q C N bs [.ref B, .type "ValueError", .type "Exception", .type "BaseException", .type "object"] true sn sub ab col dd m0 m1 m2 m3 m5 "ValueError.__new__"))
    (sa : PySem.W.findIn K (.ref C) "__setattr__" = some (some (.builtin "object.__setattr__"))) (ga : PySem.W.findIn K (.ref C) "__getattribute__" = some (some (.builtin "BaseException.__getattribute__"))) (gg : PySem.W.findIn K (.ref C) "__getattr__" = some none)
    (nw : PySem.W.findIn K (.ref C) "word" = some none) (nn : PySem.W.findIn K (.ref C) "number" = some none)
    (iC : PySem.W.findIn K (.ref C) "__init__" = some (some (.ref f))) (tI : PySem.W.typeIn K (.ref f) = some (.type "function"))
    (l1 : K.lookup f = some ⟨oc, od, .func (PySem.W.fnOf "__init__" "NoPaper.__init__" (defArgs s_init) (defBody s_init) (defScope s_init) .none kV doc pm an cdv ct), osl⟩) (c1 : PySem.W.codeIn K cdv "NoPaper.__init__" = true) (k1 : PySem.W.keepIn K (.ref f) = true)
    (kC : PySem.W.keepIn K (.ref C) = true) (eC : PySem.W.subIn K (.ref C) (.type "BaseException") = some true) (tC : PySem.W.typeIn K (.ref C) = some (.type "type")) (hC : PySem.W.hasDictIn K C = true)
    (gB : PySem.W.specialIn K (.ref B) "__getattribute__" = some (some (.builtin "type.__getattribute__"))) (rB : PySem.W.readsIn K B (.type "type") = true) (fB : PySem.W.findCls K (.ref B) (.type "type") "__init__" = some (.val (.builtin "ValueError.__init__")))
    (eB : PySem.W.subIn K (.ref B) (.type "BaseException") = some true) (hB : PySem.W.hasDictIn K B = true) (tB : PySem.W.typeIn K (.ref B) = some (.type "type")) (sB : PySem.W.subIn K (.ref C) (.ref B) = some true) :
    ErrT K mg B C f (PySem.W.fnOf "__init__" "NoPaper.__init__" (defArgs s_init) (defBody s_init) (defScope s_init) .none kV doc pm an cdv ct) :=
  { gB := PySem.W.mg_of X G aB, gC := PySem.W.mg_of X G aC, oe := { cls := ⟨nm, q, N, bs, _, sn, sub, ab, col, dd, m0, m1, m2, m3, m5, xL, rfl⟩, sa := sa, exC := eC, tyC := tC, kC := kC },
    xf := ⟨ga, gg, eC, hC⟩, nw := nw, nn := nn, iC := iC, tI := tI, ga := gB, rd := rB, fB := fB, eB := PySem.W.exm_ref eB hB tB sB, fn := fun_mk l1 c1 k1,
    bd := (fun_mk l1 c1 k1).binds (ps := ["self", "word", "number"]) fun _ _ _ _ _ _ us hl => match us, hl with | [_, _, _], _ => rfl }
end Tl

end
-- D24
section
set_option maxHeartbeats 200000
open PySem PySem.W PyProof.Rows
set_option maxRecDepth 100000 in
set_option maxHeartbeats 0 in
theorem PySem.Challenge.cw_threelays_k48_whole_whoever_bounds_holds : PySem.Challenge.rw_threelays_k48_whole_whoever_bounds.Holds := by
  w_on; o_law; k_head; (case hw => w_witness2)
  k_fill
  refine Tl.walk (l := PySem.Challenge.rw_threelays_k48_whole_whoever_bounds) rfl rfl (fun w h Y => PySem.W.kIn_of Y) ?F
  case F =>
    intro w mg fa h KX G hmg
    have hml : mg "law" = some (.ref fa) := hmg
    clear hmg
    have B0 : Tl.Bi mg := by
      refine' ⟨PySem.W.mg_none_of KX G ?b0, PySem.W.mg_none_of KX G ?b1, PySem.W.mg_none_of KX G ?b2, PySem.W.mg_none_of KX G ?b3, PySem.W.mg_none_of KX G ?b4, PySem.W.mg_none_of KX G ?b5, PySem.W.mg_none_of KX G ?b6, PySem.W.mg_none_of KX G ?b7, PySem.W.mg_none_of KX G ?b8, PySem.W.mg_none_of KX G ?b9, PySem.W.mg_none_of KX G ?b10, PySem.W.mg_none_of KX G ?b11, PySem.W.mg_none_of KX G ?b12, PySem.W.mg_none_of KX G ?b13, PySem.W.mg_none_of KX G ?b14, PySem.W.mg_none_of KX G ?b15, PySem.W.mg_none_of KX G ?b16, PySem.W.mg_none_of KX G ?b17⟩
      (case b0 => k_is)
      (case b1 => k_is)
      (case b2 => k_is)
      (case b3 => k_is)
      (case b4 => k_is)
      (case b5 => k_is)
      (case b6 => k_is)
      (case b7 => k_is)
      (case b8 => k_is)
      (case b9 => k_is)
      (case b10 => k_is)
      (case b11 => k_is)
      (case b12 => k_is)
      (case b13 => k_is)
      (case b14 => k_is)
      (case b15 => k_is)
      (case b16 => k_is)
      (case b17 => k_is)
    have D_is_number : Tl.Df (L2.KOf KX) mg "is_number" Tl.s_is_number ["thing"] := by
      delta L2.KOf
      refine' Tl.df_mk KX G ?a ?l ?c ?k (fun _ _ _ _ _ _ us hl => match us, hl with | [_], _ => rfl)
      (case a => k_is); (case l => k_is); (case c => k_is); (case k => k_is)
    have D_is_point : Tl.Df (L2.KOf KX) mg "is_point" Tl.s_is_point ["thing"] := by
      delta L2.KOf
      refine' Tl.df_mk KX G ?a ?l ?c ?k (fun _ _ _ _ _ _ us hl => match us, hl with | [_], _ => rfl)
      (case a => k_is); (case l => k_is); (case c => k_is); (case k => k_is)
    have D_turning : Tl.Df (L2.KOf KX) mg "turning" Tl.s_turning ["a", "b", "c"] := by
      delta L2.KOf
      refine' Tl.df_mk KX G ?a ?l ?c ?k (fun _ _ _ _ _ _ us hl => match us, hl with | [_, _, _], _ => rfl)
      (case a => k_is); (case l => k_is); (case c => k_is); (case k => k_is)
    have D_side : Tl.Df (L2.KOf KX) mg "side" Tl.s_side ["a", "b", "c"] := by
      delta L2.KOf
      refine' Tl.df_mk KX G ?a ?l ?c ?k (fun _ _ _ _ _ _ us hl => match us, hl with | [_, _, _], _ => rfl)
      (case a => k_is); (case l => k_is); (case c => k_is); (case k => k_is)
    have D_is_between : Tl.Df (L2.KOf KX) mg "is_between" Tl.s_is_between ["a", "b", "point"] := by
      delta L2.KOf
      refine' Tl.df_mk KX G ?a ?l ?c ?k (fun _ _ _ _ _ _ us hl => match us, hl with | [_, _, _], _ => rfl)
      (case a => k_is); (case l => k_is); (case c => k_is); (case k => k_is)
    have D_is_clear : Tl.Df (L2.KOf KX) mg "is_clear" Tl.s_is_clear ["field", "a", "b"] := by
      delta L2.KOf
      refine' Tl.df_mk KX G ?a ?l ?c ?k (fun _ _ _ _ _ _ us hl => match us, hl with | [_, _, _], _ => rfl)
      (case a => k_is); (case l => k_is); (case c => k_is); (case k => k_is)
    have D_is_tie : Tl.Df (L2.KOf KX) mg "is_tie" Tl.s_is_tie ["field", "thing"] := by
      delta L2.KOf
      refine' Tl.df_mk KX G ?a ?l ?c ?k (fun _ _ _ _ _ _ us hl => match us, hl with | [_, _], _ => rfl)
      (case a => k_is); (case l => k_is); (case c => k_is); (case k => k_is)
    have D_ties : Tl.Df (L2.KOf KX) mg "ties" Tl.s_ties ["field"] := by
      delta L2.KOf
      refine' Tl.df_mk KX G ?a ?l ?c ?k (fun _ _ _ _ _ _ us hl => match us, hl with | [_], _ => rfl)
      (case a => k_is); (case l => k_is); (case c => k_is); (case k => k_is)
    have D_is_front : Tl.Df (L2.KOf KX) mg "is_front" Tl.s_is_front ["field", "thing"] := by
      delta L2.KOf
      refine' Tl.df_mk KX G ?a ?l ?c ?k (fun _ _ _ _ _ _ us hl => match us, hl with | [_, _], _ => rfl)
      (case a => k_is); (case l => k_is); (case c => k_is); (case k => k_is)
    have D_gone_over : Tl.Df (L2.KOf KX) mg "gone_over" Tl.s_gone_over ["front", "mark", "triangle"] := by
      delta L2.KOf
      refine' Tl.df_mk KX G ?a ?l ?c ?k (fun _ _ _ _ _ _ us hl => match us, hl with | [_, _, _], _ => rfl)
      (case a => k_is); (case l => k_is); (case c => k_is); (case k => k_is)
    have D_advances : Tl.Df (L2.KOf KX) mg "advances" Tl.s_advances ["field", "menu", "front", "mark"] := by
      delta L2.KOf
      refine' Tl.df_mk KX G ?a ?l ?c ?k (fun _ _ _ _ _ _ us hl => match us, hl with | [_, _, _, _], _ => rfl)
      (case a => k_is); (case l => k_is); (case c => k_is); (case k => k_is)
    have D_new_ties : Tl.Df (L2.KOf KX) mg "new_ties" Tl.s_new_ties ["triangle"] := by
      delta L2.KOf
      refine' Tl.df_mk KX G ?a ?l ?c ?k (fun _ _ _ _ _ _ us hl => match us, hl with | [_], _ => rfl)
      (case a => k_is); (case l => k_is); (case c => k_is); (case k => k_is)
    have D_pairs_of : Tl.Df (L2.KOf KX) mg "pairs_of" Tl.s_pairs_of ["front"] := by
      delta L2.KOf
      refine' Tl.df_mk KX G ?a ?l ?c ?k (fun _ _ _ _ _ _ us hl => match us, hl with | [_], _ => rfl)
      (case a => k_is); (case l => k_is); (case c => k_is); (case k => k_is)
    have D_chain : Tl.Df (L2.KOf KX) mg "chain" Tl.s_chain ["some"] := by
      delta L2.KOf
      refine' Tl.df_mk KX G ?a ?l ?c ?k (fun _ _ _ _ _ _ us hl => match us, hl with | [_], _ => rfl)
      (case a => k_is); (case l => k_is); (case c => k_is); (case k => k_is)
    have D_lower : Tl.Df (L2.KOf KX) mg "lower" Tl.s_lower ["field"] := by
      delta L2.KOf
      refine' Tl.df_mk KX G ?a ?l ?c ?k (fun _ _ _ _ _ _ us hl => match us, hl with | [_], _ => rfl)
      (case a => k_is); (case l => k_is); (case c => k_is); (case k => k_is)
    have D_upper : Tl.Df (L2.KOf KX) mg "upper" Tl.s_upper ["field"] := by
      delta L2.KOf
      refine' Tl.df_mk KX G ?a ?l ?c ?k (fun _ _ _ _ _ _ us hl => match us, hl with | [_], _ => rfl)
      (case a => k_is); (case l => k_is); (case c => k_is); (case k => k_is)
    have D_weight_below : Tl.Df (L2.KOf KX) mg "weight_below" Tl.s_weight_below ["field", "weights"] := by
      delta L2.KOf
      refine' Tl.df_mk KX G ?a ?l ?c ?k (fun _ _ _ _ _ _ us hl => match us, hl with | [_, _], _ => rfl)
      (case a => k_is); (case l => k_is); (case c => k_is); (case k => k_is)
    have D_is_bound_row : Tl.Df (L2.KOf KX) mg "is_bound_row" Tl.s_is_bound_row ["field", "row"] := by
      delta L2.KOf
      refine' Tl.df_mk KX G ?a ?l ?c ?k (fun _ _ _ _ _ _ us hl => match us, hl with | [_, _], _ => rfl)
      (case a => k_is); (case l => k_is); (case c => k_is); (case k => k_is)
    have D_l_feed : Tl.Df (L2.KOf KX) mg "_law_feed" Tl.s_l_feed ["_law_script"] := by
      delta L2.KOf
      refine' Tl.df_mk KX G ?a ?l ?c ?k (fun _ _ _ _ _ _ us hl => match us, hl with | [_], _ => rfl)
      (case a => k_is); (case l => k_is); (case c => k_is); (case k => k_is)
    have D_l_draw : Tl.Df (L2.KOf KX) mg "_law_draw" Tl.s_l_draw ["_law_feed_here", "_law_many"] := by
      delta L2.KOf
      refine' Tl.df_mk KX G ?a ?l ?c ?k (fun _ _ _ _ _ _ us hl => match us, hl with | [_, _], _ => rfl)
      (case a => k_is); (case l => k_is); (case c => k_is); (case k => k_is)
    have D_l_turn : Tl.Df (L2.KOf KX) mg "_law_turn" Tl.s_l_turn ["_law_a", "_law_b", "_law_c"] := by
      delta L2.KOf
      refine' Tl.df_mk KX G ?a ?l ?c ?k (fun _ _ _ _ _ _ us hl => match us, hl with | [_, _, _], _ => rfl)
      (case a => k_is); (case l => k_is); (case c => k_is); (case k => k_is)
    have D_l_spread : Tl.Df (L2.KOf KX) mg "_law_spread" Tl.s_l_spread ["_law_some"] := by
      delta L2.KOf
      refine' Tl.df_mk KX G ?a ?l ?c ?k (fun _ _ _ _ _ _ us hl => match us, hl with | [_], _ => rfl)
      (case a => k_is); (case l => k_is); (case c => k_is); (case k => k_is)
    have D_l_wide : Tl.Df (L2.KOf KX) mg "_law_wide" Tl.s_l_wide ["_law_feed_here"] := by
      delta L2.KOf
      refine' Tl.df_mk KX G ?a ?l ?c ?k (fun _ _ _ _ _ _ us hl => match us, hl with | [_], _ => rfl)
      (case a => k_is); (case l => k_is); (case c => k_is); (case k => k_is)
    have D_l_point : Tl.Df (L2.KOf KX) mg "_law_point" Tl.s_l_point ["_law_feed_here", "_law_way", "_law_k", "_law_slope"] := by
      delta L2.KOf
      refine' Tl.df_mk KX G ?a ?l ?c ?k (fun _ _ _ _ _ _ us hl => match us, hl with | [_, _, _, _], _ => rfl)
      (case a => k_is); (case l => k_is); (case c => k_is); (case k => k_is)
    have D_l_is_void : Tl.Df (L2.KOf KX) mg "_law_is_void" Tl.s_l_is_void ["_law_field_here", "_law_a", "_law_b", "_law_c"] := by
      delta L2.KOf
      refine' Tl.df_mk KX G ?a ?l ?c ?k (fun _ _ _ _ _ _ us hl => match us, hl with | [_, _, _, _], _ => rfl)
      (case a => k_is); (case l => k_is); (case c => k_is); (case k => k_is)
    have D_l_whole : Tl.Df (L2.KOf KX) mg "_law_whole" Tl.s_l_whole ["_law_field_here"] := by
      delta L2.KOf
      refine' Tl.df_mk KX G ?a ?l ?c ?k (fun _ _ _ _ _ _ us hl => match us, hl with | [_], _ => rfl)
      (case a => k_is); (case l => k_is); (case c => k_is); (case k => k_is)
    have D_l_ties : Tl.Df (L2.KOf KX) mg "_law_ties" Tl.s_l_ties ["_law_field_here"] := by
      delta L2.KOf
      refine' Tl.df_mk KX G ?a ?l ?c ?k (fun _ _ _ _ _ _ us hl => match us, hl with | [_], _ => rfl)
      (case a => k_is); (case l => k_is); (case c => k_is); (case k => k_is)
    have D_l_edge : Tl.Df (L2.KOf KX) mg "_law_edge" Tl.s_l_edge ["_law_field_here", "_law_hand"] := by
      delta L2.KOf
      refine' Tl.df_mk KX G ?a ?l ?c ?k (fun _ _ _ _ _ _ us hl => match us, hl with | [_, _], _ => rfl)
      (case a => k_is); (case l => k_is); (case c => k_is); (case k => k_is)
    have D_l_table : Tl.Df (L2.KOf KX) mg "_law_table" Tl.s_l_table ["_law_menu_here"] := by
      delta L2.KOf
      refine' Tl.df_mk KX G ?a ?l ?c ?k (fun _ _ _ _ _ _ us hl => match us, hl with | [_], _ => rfl)
      (case a => k_is); (case l => k_is); (case c => k_is); (case k => k_is)
    have D_l_behind : Tl.Df (L2.KOf KX) mg "_law_behind" Tl.s_l_behind ["_law_table_here", "_law_front"] := by
      delta L2.KOf
      refine' Tl.df_mk KX G ?a ?l ?c ?k (fun _ _ _ _ _ _ us hl => match us, hl with | [_, _], _ => rfl)
      (case a => k_is); (case l => k_is); (case c => k_is); (case k => k_is)
    have D_l_over : Tl.Df (L2.KOf KX) mg "_law_over" Tl.s_l_over ["_law_front", "_law_step"] := by
      delta L2.KOf
      refine' Tl.df_mk KX G ?a ?l ?c ?k (fun _ _ _ _ _ _ us hl => match us, hl with | [_, _], _ => rfl)
      (case a => k_is); (case l => k_is); (case c => k_is); (case k => k_is)
    have D_l_sides : Tl.Df (L2.KOf KX) mg "_law_sides" Tl.s_l_sides ["_law_triangle"] := by
      delta L2.KOf
      refine' Tl.df_mk KX G ?a ?l ?c ?k (fun _ _ _ _ _ _ us hl => match us, hl with | [_], _ => rfl)
      (case a => k_is); (case l => k_is); (case c => k_is); (case k => k_is)
    have D_l_cross : Tl.Df (L2.KOf KX) mg "_law_cross" Tl.s_l_cross ["_law_one", "_law_other"] := by
      delta L2.KOf
      refine' Tl.df_mk KX G ?a ?l ?c ?k (fun _ _ _ _ _ _ us hl => match us, hl with | [_, _], _ => rfl)
      (case a => k_is); (case l => k_is); (case c => k_is); (case k => k_is)
    have D_l_along : Tl.Df (L2.KOf KX) mg "_law_along" Tl.s_l_along ["_law_menu_here", "_law_tie"] := by
      delta L2.KOf
      refine' Tl.df_mk KX G ?a ?l ?c ?k (fun _ _ _ _ _ _ us hl => match us, hl with | [_, _], _ => rfl)
      (case a => k_is); (case l => k_is); (case c => k_is); (case k => k_is)
    have D_l_fresh : Tl.Df (L2.KOf KX) mg "_law_fresh" Tl.s_l_fresh ["_law_heavy", "_law_step"] := by
      delta L2.KOf
      refine' Tl.df_mk KX G ?a ?l ?c ?k (fun _ _ _ _ _ _ us hl => match us, hl with | [_, _], _ => rfl)
      (case a => k_is); (case l => k_is); (case c => k_is); (case k => k_is)
    have D_l_chain : Tl.Df (L2.KOf KX) mg "_law_chain" Tl.s_l_chain ["_law_heavy", "_law_front"] := by
      delta L2.KOf
      refine' Tl.df_mk KX G ?a ?l ?c ?k (fun _ _ _ _ _ _ us hl => match us, hl with | [_, _], _ => rfl)
      (case a => k_is); (case l => k_is); (case c => k_is); (case k => k_is)
    have D_l_weight : Tl.Df (L2.KOf KX) mg "_law_weight" Tl.s_l_weight ["_law_pairs", "_law_weights_here", "_law_lay"] := by
      delta L2.KOf
      refine' Tl.df_mk KX G ?a ?l ?c ?k (fun _ _ _ _ _ _ us hl => match us, hl with | [_, _, _], _ => rfl)
      (case a => k_is); (case l => k_is); (case c => k_is); (case k => k_is)
    have D_l_moved : Tl.Df (L2.KOf KX) mg "_law_moved" Tl.s_l_moved ["_law_feed_here", "_law_some"] := by
      delta L2.KOf
      refine' Tl.df_mk KX G ?a ?l ?c ?k (fun _ _ _ _ _ _ us hl => match us, hl with | [_, _], _ => rfl)
      (case a => k_is); (case l => k_is); (case c => k_is); (case k => k_is)
    have D_l_field : Tl.Df (L2.KOf KX) mg "_law_field" Tl.s_l_field ["_law_feed_here", "_law_most_here"] := by
      delta L2.KOf
      refine' Tl.df_mk KX G ?a ?l ?c ?k (fun _ _ _ _ _ _ us hl => match us, hl with | [_, _], _ => rfl)
      (case a => k_is); (case l => k_is); (case c => k_is); (case k => k_is)
    have D_l_menu : Tl.Df (L2.KOf KX) mg "_law_menu" Tl.s_l_menu ["_law_feed_here", "_law_whole_here"] := by
      delta L2.KOf
      refine' Tl.df_mk KX G ?a ?l ?c ?k (fun _ _ _ _ _ _ us hl => match us, hl with | [_, _], _ => rfl)
      (case a => k_is); (case l => k_is); (case c => k_is); (case k => k_is)
    have D_l_weights : Tl.Df (L2.KOf KX) mg "_law_weights" Tl.s_l_weights ["_law_feed_here", "_law_way", "_law_pairs"] := by
      delta L2.KOf
      refine' Tl.df_mk KX G ?a ?l ?c ?k (fun _ _ _ _ _ _ us hl => match us, hl with | [_, _, _], _ => rfl)
      (case a => k_is); (case l => k_is); (case c => k_is); (case k => k_is)
    have D_l_some_lay : Tl.Df (L2.KOf KX) mg "_law_some_lay" Tl.s_l_some_lay ["_law_feed_here", "_law_field_here", "_law_menu_here"] := by
      delta L2.KOf
      refine' Tl.df_mk KX G ?a ?l ?c ?k (fun _ _ _ _ _ _ us hl => match us, hl with | [_, _, _], _ => rfl)
      (case a => k_is); (case l => k_is); (case c => k_is); (case k => k_is)
    have D_l_steps : Tl.Df (L2.KOf KX) mg "_law_steps" Tl.s_l_steps ["_law_field_here", "_law_menu_here"] := by
      delta L2.KOf
      refine' Tl.df_mk KX G ?a ?l ?c ?k (fun _ _ _ _ _ _ us hl => match us, hl with | [_, _], _ => rfl)
      (case a => k_is); (case l => k_is); (case c => k_is); (case k => k_is)
    have D_l_most : Tl.Df (L2.KOf KX) mg "_law_most" Tl.s_l_most ["_law_heavy", "_law_numbers_here", "_law_steps_here"] := by
      delta L2.KOf
      refine' Tl.df_mk KX G ?a ?l ?c ?k (fun _ _ _ _ _ _ us hl => match us, hl with | [_, _, _], _ => rfl)
      (case a => k_is); (case l => k_is); (case c => k_is); (case k => k_is)
    have D_l_paper : Tl.Df (L2.KOf KX) mg "_law_paper" Tl.s_l_paper ["_law_feed_here", "_law_numbers_here"] := by
      delta L2.KOf
      refine' Tl.df_mk KX G ?a ?l ?c ?k (fun _ _ _ _ _ _ us hl => match us, hl with | [_, _], _ => rfl)
      (case a => k_is); (case l => k_is); (case c => k_is); (case k => k_is)
    have D_l_numbers : Tl.Df (L2.KOf KX) mg "_law_numbers" Tl.s_l_numbers ["_law_feed_here", "_law_field_here", "_law_heavy", "_law_steps_here"] := by
      delta L2.KOf
      refine' Tl.df_mk KX G ?a ?l ?c ?k (fun _ _ _ _ _ _ us hl => match us, hl with | [_, _, _, _], _ => rfl)
      (case a => k_is); (case l => k_is); (case c => k_is); (case k => k_is)
    have D_l_first_off : Tl.Df (L2.KOf KX) mg "_law_first_off" Tl.s_l_first_off ["_law_heavy", "_law_steps_here", "_law_paper_here"] := by
      delta L2.KOf
      refine' Tl.df_mk KX G ?a ?l ?c ?k (fun _ _ _ _ _ _ us hl => match us, hl with | [_, _, _], _ => rfl)
      (case a => k_is); (case l => k_is); (case c => k_is); (case k => k_is)
    have D_numbers_of : Tl.Df (L2.KOf KX) mg "numbers_of" Tl.s_numbers_of ["field", "thing"] := by
      delta L2.KOf
      refine' Tl.df_mk KX G ?a ?l ?c ?k (fun _ _ _ _ _ _ us hl => match us, hl with | [_, _], _ => rfl)
      (case a => k_is); (case l => k_is); (case c => k_is); (case k => k_is)
    have D_lets_bound : Tl.Df (L2.KOf KX) mg "lets_bound" Tl.s_lets_bound ["field", "weights", "menu", "thing"] := by
      delta L2.KOf
      refine' Tl.df_mk KX G ?a ?l ?c ?k (fun _ _ _ _ _ _ us hl => match us, hl with | [_, _, _, _], _ => rfl)
      (case a => k_is); (case l => k_is); (case c => k_is); (case k => k_is)
    have D_l_answer : Tl.Df (L2.KOf KX) mg "_law_answer" Tl.s_l_answer ["_law_field_here", "_law_weights_here", "_law_menu_here", "_law_paper_here"] := by
      delta L2.KOf
      refine' Tl.df_mk KX G ?a ?l ?c ?k (fun _ _ _ _ _ _ us hl => match us, hl with | [_, _, _, _], _ => rfl)
      (case a => k_is); (case l => k_is); (case c => k_is); (case k => k_is)
    refine' Tl.law_mk KX G hml ?a ?l ?c ?k (Tl.err_mk KX G ?aB ?aC ?xL ?sa ?ga ?gg ?nw ?nn ?iC ?tI ?l1 ?c1 ?k1 ?kC ?eC ?tC ?hC ?gB ?rB ?fB ?eB ?hB ?tB ?sB) B0 ⟨D_is_number, D_is_point, D_turning, D_side, D_is_between, D_is_clear, D_is_tie, D_ties, D_is_front, D_gone_over, D_advances, D_new_ties, D_pairs_of, D_chain, D_lower, D_upper, D_weight_below, D_is_bound_row, D_l_feed, D_l_draw, D_l_turn, D_l_spread, D_l_wide, D_l_point, D_l_is_void, D_l_whole, D_l_ties, D_l_edge, D_l_table, D_l_behind, D_l_over, D_l_sides, D_l_cross, D_l_along, D_l_fresh, D_l_chain, D_l_weight, D_l_moved, D_l_field, D_l_menu, D_l_weights, D_l_some_lay, D_l_steps, D_l_most, D_l_paper, D_l_numbers, D_l_first_off, D_numbers_of, D_lets_bound, D_l_answer⟩
    (case a => k_is); (case l => k_is); (case c => k_is); (case k => k_is)
    (case aB => first | k_is | rfl)
    (case aC => first | k_is | rfl)
    (case xL => first | k_is | rfl)
    (case sa => first | k_is | rfl)
    (case ga => first | k_is | rfl)
    (case gg => first | k_is | rfl)
    (case nw => first | k_is | rfl)
    (case nn => first | k_is | rfl)
    (case iC => first | k_is | rfl)
    (case tI => first | k_is | rfl)
    (case l1 => first | k_is | rfl)
    (case c1 => first | k_is | rfl)
    (case k1 => first | k_is | rfl)
    (case kC => first | k_is | rfl)
    (case eC => first | k_is | rfl)
    (case tC => first | k_is | rfl)
    (case hC => first | k_is | rfl)
    (case gB => first | k_is | rfl)
    (case rB => first | k_is | rfl)
    (case fB => first | k_is | rfl)
    (case eB => first | k_is | rfl)
    (case hB => first | k_is | rfl)
    (case tB => first | k_is | rfl)
    (case sB => first | k_is | rfl)

end
