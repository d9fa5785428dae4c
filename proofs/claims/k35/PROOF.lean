import PyProof.Rows.All
import Wide.All
import OpenK.AllK
import Wide.FinOn
import KE.KStateDown
import Lean
import HandS.ForMost
import HandS.Defaults
import HandS.Head0
import HandS.Head1
import HandS.Head2
import HandS.HeadEnd
import HandS.HeadHook1
import HandS.HeadHook2
import PyProof.EqAt
import PyProof.EqKinds
import PyProof.TupleCall
import KE.SortData
import HandS.Deep
import HandS.SortOrd
import HandS.SortInts
import HandS.More
import KE.KDictSum
import KE.KDictCopyH
import HandS.DictTup
import KE.KDictWalk
import HandS.SetKeys
import HandS.DictComp
import HandS.IsInst
import HandS.Conv
import HandS.Walk
import HandS.TupAny
import HandS.Keys
import HandS.Codes
import HandS.Replace
import HandS.Text
import PySem.Challenge.RW_timeshelf_k35_whole_index_answers
set_option Elab.async false
set_option linter.all false
set_option maxRecDepth 100000
set_option maxHeartbeats 0
/-! Timelines, plain. -/
namespace Ts
/-- the change points that are at most x -/
def cnt (t : List Int) (x : Int) : Nat := (t.filter fun p => decide (p ≤ x)).length
def isIn (t : List Int) (x : Int) : Bool := decide (cnt t x % 2 = 1)
/-- strictly rising -/
def Rise (t : List Int) : Prop := t.Pairwise (· < ·)
theorem cnt_nil (x : Int) : cnt [] x = 0 := rfl
theorem cnt_cons (a : Int) (t : List Int) (x : Int) : cnt (a :: t) x = (if a ≤ x then 1 else 0) + cnt t x := by
  unfold cnt
  rw [List.filter_cons]
  by_cases h : a ≤ x
  · rw [if_pos (by simpa using h), if_pos h, List.length_cons]; omega
  · rw [if_neg (by simpa using h), if_neg h]; omega
theorem cnt_append (a b : List Int) (x : Int) : cnt (a ++ b) x = cnt a x + cnt b x := by
  unfold cnt
  rw [List.filter_append, List.length_append]
theorem cnt_all {t : List Int} {x : Int} (h : ∀ p ∈ t, p ≤ x) : cnt t x = t.length := by
  unfold cnt
  rw [List.filter_eq_self.mpr (fun p hp => by simpa using h p hp)]
theorem cnt_none {t : List Int} {x : Int} (h : ∀ p ∈ t, x < p) : cnt t x = 0 := by
  unfold cnt
  rw [List.filter_eq_nil_iff.mpr (fun p hp => by have := h p hp; simp; omega)]
  rfl
theorem cnt_same {t : List Int} {x y : Int} (h : ∀ p ∈ t, p ≤ x ↔ p ≤ y) : cnt t x = cnt t y := by
  unfold cnt
  congr 1
  refine List.filter_congr fun p hp => ?_
  have := h p hp
  by_cases h1 : p ≤ x
  · simp [h1, this.mp h1]
  · have h2 : ¬ p ≤ y := fun q => h1 (this.mpr q)
    simp [h1, h2]
theorem isIn_same {t : List Int} {x y : Int} (h : ∀ p ∈ t, p ≤ x ↔ p ≤ y) : isIn t x = isIn t y := by
  unfold isIn
  rw [cnt_same h]
/-- two rising lists with the same times are equal -/
theorem rise_unique : ∀ {a b : List Int}, Rise a → Rise b → (∀ x, isIn a x = isIn b x) → a = b
  | [], [], _, _, _ => rfl
  | [], y :: b, _, hb, h => by
    have h1 := h y
    have h2 := List.pairwise_cons.mp hb
    have e : cnt (y :: b) y = 1 := by
      rw [cnt_cons, if_pos (Int.le_refl _), cnt_none h2.1]
    simp [isIn, e, cnt_nil] at h1
  | x :: a, [], ha, _, h => by
    have h1 := h x
    have h2 := List.pairwise_cons.mp ha
    have e : cnt (x :: a) x = 1 := by
      rw [cnt_cons, if_pos (Int.le_refl _), cnt_none h2.1]
    simp [isIn, e, cnt_nil] at h1
  | x :: a, y :: b, ha, hb, h => by
    have hx := List.pairwise_cons.mp ha
    have hy := List.pairwise_cons.mp hb
    have e1 : cnt (x :: a) x = 1 := by
      rw [cnt_cons, if_pos (Int.le_refl _), cnt_none hx.1]
    have e2 : cnt (y :: b) y = 1 := by
      rw [cnt_cons, if_pos (Int.le_refl _), cnt_none hy.1]
    have exy : x = y := by
      rcases Int.lt_trichotomy x y with l | l | l
      · have h1 := h x
        have e3 : cnt (y :: b) x = 0 := cnt_none fun p hp => by
          rcases List.mem_cons.mp hp with rfl | hp
          · exact l
          · have := hy.1 p hp; omega
        simp [isIn, e1, e3] at h1
      · exact l
      · have h1 := h y
        have e3 : cnt (x :: a) y = 0 := cnt_none fun p hp => by
          rcases List.mem_cons.mp hp with rfl | hp
          · exact l
          · have := hx.1 p hp; omega
        simp [isIn, e2, e3] at h1
    subst exy
    have hr : ∀ z, isIn a z = isIn b z := fun z => by
      by_cases l : x ≤ z
      · have h1 := h z
        unfold isIn at h1 ⊢
        rw [cnt_cons, cnt_cons, if_pos l] at h1
        have h2 : (1 + cnt a z) % 2 = 1 ↔ (1 + cnt b z) % 2 = 1 := by simpa using h1
        have h3 : cnt a z % 2 = 1 ↔ cnt b z % 2 = 1 := by omega
        by_cases q : cnt a z % 2 = 1
        · simp [q, h3.mp q]
        · have q' : ¬ cnt b z % 2 = 1 := fun r => q (h3.mpr r)
          simp [q, q']
      · have f1 : cnt a z = 0 := cnt_none fun p hp => by have := hx.1 p hp; omega
        have f2 : cnt b z = 0 := cnt_none fun p hp => by have := hy.1 p hp; omega
        simp [isIn, f1, f2]
    rw [rise_unique hx.2 hy.2 hr]
/-- one turn of the joining loop -/
def jstep (one other : List Int) (s : List Int × Bool) (t : Int) : List Int × Bool :=
  if (isIn one t || isIn other t) != s.2 then (s.1 ++ [t], isIn one t || isIn other t) else s
/-- what holds behind the part p of the sorted times p ++ r -/
structure JInv (one other p r : List Int) (s : List Int × Bool) : Prop where
  rise : Rise s.1
  sub : ∀ x ∈ s.1, x ∈ p
  par : s.2 = decide (s.1.length % 2 = 1)
  last : ∀ t, p.getLast? = some t → s.2 = (isIn one t || isIn other t)
  none : p = [] → s.2 = false
  ok : ∀ x, (∀ t ∈ r, x < t) → isIn s.1 x = (isIn one x || isIn other x)
theorem rise_snoc {l : List Int} {t : Int} (h : Rise l) (hl : ∀ x ∈ l, x < t) : Rise (l ++ [t]) := by
  refine List.pairwise_append.mpr ⟨h, List.pairwise_singleton _ _, fun x hx y hy => ?_⟩
  rw [List.mem_singleton.mp hy]
  exact hl x hx
theorem last_max {p : List Int} {t : Int} (hp : p.Pairwise (· ≤ ·)) (hl : p.getLast? = some t) : ∀ x ∈ p, x ≤ t := by
  obtain ⟨q, rfl⟩ : ∃ q, p = q ++ [t] := by
    obtain ⟨h, e⟩ := List.getLast?_eq_some_iff.mp hl
    exact ⟨h, e⟩
  intro x hx
  rcases List.mem_append.mp hx with hx | hx
  · exact (List.pairwise_append.mp hp).2.2 x hx t (List.mem_singleton.mpr rfl)
  · rw [List.mem_singleton.mp hx]; exact Int.le_refl _
theorem jinv_step {one other p r : List Int} {t : Int} {s : List Int × Bool} (hs : (p ++ t :: r).Pairwise (· ≤ ·))
    (hin : ∀ x, x ∈ one ∨ x ∈ other → x ∈ p ++ t :: r) (I : JInv one other p (t :: r) s) : JInv one other (p ++ [t]) r (jstep one other s t) := by
  have hp := List.pairwise_append.mp hs
  have hr := List.pairwise_cons.mp hp.2.1
  have pt : ∀ x ∈ p, x ≤ t := fun x hx => hp.2.2 x hx t (List.mem_cons_self ..)
  -- between t and the next point nothing changes
  have flat : ∀ x, t ≤ x → (∀ u ∈ r, x < u) → (isIn one x || isIn other x) = (isIn one t || isIn other t) := by
    intro x h1 h2
    have k : ∀ q, q ∈ one ∨ q ∈ other → (q ≤ x ↔ q ≤ t) := fun q hq => by
      have hm := hin q hq
      rcases List.mem_append.mp hm with hm | hm
      · have := pt q hm; constructor <;> intro _ <;> omega
      · rcases List.mem_cons.mp hm with rfl | hm
        · constructor <;> intro _ <;> omega
        · have a := h2 q hm; have b := hr.1 q hm
          constructor <;> intro _ <;> omega
    rw [isIn_same (fun q hq => k q (.inl hq)), isIn_same (t := other) (fun q hq => k q (.inr hq))]
  unfold jstep
  by_cases hc : ((isIn one t || isIn other t) != s.2) = true
  · rw [if_pos hc]
    have hne : (isIn one t || isIn other t) ≠ s.2 := by simpa using hc
    have lt : ∀ x ∈ s.1, x < t := fun x hx => by
      have hx' := I.sub x hx
      have h1 := pt x hx'
      -- the last of p is not t
      cases hl : p.getLast? with
      | none =>
        rw [List.getLast?_eq_none_iff.mp hl] at hx'
        cases hx'
      | some z =>
        have h2 := last_max hp.1 hl x hx'
        have h3 := pt z (List.mem_of_getLast? hl)
        have h4 : z ≠ t := fun q => hne (by rw [I.last z hl, q])
        omega
    refine ⟨rise_snoc I.rise lt, fun x hx => ?_, ?_, fun u hu => ?_, fun e => absurd e (by simp), fun x hx => ?_⟩
    · rcases List.mem_append.mp hx with hx | hx
      · exact List.mem_append_left _ (I.sub x hx)
      · exact List.mem_append_right _ hx
    · show (isIn one t || isIn other t) = _
      rw [List.length_append, List.length_singleton]
      have e := I.par
      revert hne e
      generalize (isIn one t || isIn other t) = b
      generalize s.2 = c
      intro hne e
      by_cases q : s.1.length % 2 = 1
      · have q2 : ¬ (s.1.length + 1) % 2 = 1 := by omega
        simp [q] at e
        simp [q2]
        cases b <;> simp_all
      · have q2 : (s.1.length + 1) % 2 = 1 := by omega
        simp [q] at e
        simp [q2]
        cases b <;> simp_all
    · rw [List.getLast?_append] at hu
      have hu' : t = u := by simpa using hu
      rw [← hu']
    · by_cases l : x < t
      · have h1 := I.ok x (fun u hu => by
          rcases List.mem_cons.mp hu with rfl | hu
          · exact l
          · exact hx u hu)
        rw [← h1]
        unfold isIn
        rw [cnt_append, cnt_none (t := [t]) (by intro p hp; rw [List.mem_singleton.mp hp]; exact l)]
        simp
      · have l' : t ≤ x := by omega
        rw [flat x l' hx]
        unfold isIn
        rw [cnt_all (fun q hq => by
          rcases List.mem_append.mp hq with hq | hq
          · have := lt q hq; omega
          · rw [List.mem_singleton.mp hq]; exact l'), List.length_append, List.length_singleton]
        have e := I.par
        have hne' := hne
        unfold isIn at hne'
        revert hne' e
        generalize (decide (cnt one t % 2 = 1) || decide (cnt other t % 2 = 1)) = b
        generalize s.2 = c
        intro e hne
        by_cases q : s.1.length % 2 = 1
        · have q2 : ¬ (s.1.length + 1) % 2 = 1 := by omega
          simp [q] at e
          simp [q2]
          cases b <;> simp_all
        · have q2 : (s.1.length + 1) % 2 = 1 := by omega
          simp [q] at e
          simp [q2]
          cases b <;> simp_all
  · rw [if_neg hc]
    have he : (isIn one t || isIn other t) = s.2 := by simpa using hc
    refine ⟨I.rise, fun x hx => List.mem_append_left _ (I.sub x hx), I.par, fun u hu => ?_, fun e => absurd e (by simp), fun x hx => ?_⟩
    · rw [List.getLast?_append] at hu
      have hu' : t = u := by simpa using hu
      rw [← hu', he]
    · by_cases l : x < t
      · exact I.ok x (fun u hu => by
          rcases List.mem_cons.mp hu with rfl | hu
          · exact l
          · exact hx u hu)
      · have l' : t ≤ x := by omega
        rw [flat x l' hx, he, I.par]
        unfold isIn
        rw [cnt_all (fun q hq => by have := pt q (I.sub q hq); omega)]
theorem jinv_fold {one other : List Int} : ∀ {r p : List Int} {s : List Int × Bool}, (p ++ r).Pairwise (· ≤ ·) → (∀ x, x ∈ one ∨ x ∈ other → x ∈ p ++ r) → JInv one other p r s →
    JInv one other (p ++ r) [] (r.foldl (jstep one other) s)
  | [], p, s, _, _, I => by rw [List.append_nil]; exact I
  | t :: r, p, s, hs, hin, I => by
    have h1 := jinv_step hs hin I
    have e : p ++ t :: r = (p ++ [t]) ++ r := by simp
    rw [e] at hs hin ⊢
    exact jinv_fold hs hin h1
/-- the joining loop's result, over any sorted row of the change points -/
theorem join_ok {one other ts : List Int} (hs : ts.Pairwise (· ≤ ·)) (hp : ts.Perm (one ++ other)) :
    Rise (ts.foldl (jstep one other) ([], false)).1 ∧ ∀ x, isIn (ts.foldl (jstep one other) ([], false)).1 x = (isIn one x || isIn other x) := by
  have hin : ∀ x, x ∈ one ∨ x ∈ other → x ∈ [] ++ ts := fun x hx => hp.mem_iff.mpr (List.mem_append.mpr hx)
  have start : JInv one other [] ts ([], false) := by
    refine ⟨List.Pairwise.nil, fun x hx => absurd hx (by simp), rfl, fun t ht => absurd ht (by simp), fun _ => rfl, fun x hx => ?_⟩
    have h1 : cnt one x = 0 := cnt_none fun q hq => hx q (hin q (.inl hq))
    have h2 : cnt other x = 0 := cnt_none fun q hq => hx q (hin q (.inr hq))
    simp [isIn, h1, h2, cnt_nil]
  have I := jinv_fold (one := one) (other := other) (p := []) (r := ts) (s := ([], false)) hs hin start
  exact ⟨I.rise, fun x => I.ok x fun t ht => by cases ht⟩
/-- a span -/
def inSpan (s : Int) (e : Option Int) (x : Int) : Bool := decide (s ≤ x) && (match e with | none => true | some e => decide (x < e))
def ofSpan (s : Int) (e : Option Int) : List Int := match e with | none => [s] | some e => [s, e]
theorem ofSpan_rise {s : Int} {e : Option Int} (h : ∀ z, e = some z → s < z) : Rise (ofSpan s e) := by
  cases e with
  | none => exact List.pairwise_singleton _ _
  | some z =>
    show List.Pairwise _ [s, z]
    simp
    exact h z rfl
theorem ofSpan_in {s : Int} {e : Option Int} (h : ∀ z, e = some z → s < z) (x : Int) : isIn (ofSpan s e) x = inSpan s e x := by
  cases e with
  | none =>
    unfold ofSpan inSpan isIn
    rw [cnt_cons, cnt_nil]
    by_cases h1 : s ≤ x <;> simp [h1]
  | some z =>
    have hz := h z rfl
    unfold ofSpan inSpan isIn
    rw [cnt_cons, cnt_cons, cnt_nil]
    by_cases h1 : s ≤ x
    · by_cases h2 : z ≤ x
      · have h3 : ¬ x < z := by omega
        simp [h1, h2, h3]
      · have h3 : x < z := by omega
        simp [h1, h2, h3]
    · have h2 : ¬ z ≤ x := by omega
      simp [h1, h2]
theorem rise_nil_of {t : List Int} (h : Rise t) (hx : ∀ x, isIn t x = false) : t = [] :=
  rise_unique h List.Pairwise.nil fun x => by rw [hx x]; rfl
theorem rise_ne_nil {t : List Int} {x : Int} (hx : isIn t x = true) : t ≠ [] := by
  rintro rfl
  cases hx
end Ts
/-! Matching: a row in a document, greedily; and by places. Plain. -/
namespace Ts
/-- a question; every and, or has two parts here -/
inductive Qn (Pat : Type) where
  | row (ps : List Pat) (gap : Int)
  | all
  | not (q : Qn Pat)
  | and (a b : Qn Pat)
  | or (a b : Qn Pat)
def Qn.pats {Pat : Type} : Qn Pat → List Pat
  | .row ps _ => ps
  | .all => []
  | .not q => q.pats
  | .and a b => a.pats ++ b.pats
  | .or a b => a.pats ++ b.pats
def Qn.depth {Pat : Type} : Qn Pat → Nat
  | .row _ _ => 0
  | .all => 0
  | .not q => q.depth + 1
  | .and a b => max a.depth b.depth + 1
  | .or a b => max a.depth b.depth + 1
/-- rows are not empty, gaps not negative -/
def Qn.well {Pat : Type} : Qn Pat → Prop
  | .row ps g => ps ≠ [] ∧ 0 ≤ g
  | .all => True
  | .not q => q.well
  | .and a b => a.well ∧ b.well
  | .or a b => a.well ∧ b.well
section
variable {W Pat : Type} (fits : W → Pat → Bool)
def fitAt (doc : List W) (i : Nat) (p : Pat) : Bool := match doc[i]? with
  | some w => fits w p
  | none => false
/-- one turn of the inner loop: k patterns have a place -/
def inStep (ps : List Pat) (doc : List W) (k i : Nat) : Nat := match ps[k]? with
  | some p => if fitAt fits doc i p then k + 1 else k
  | none => k
def inner (ps : List Pat) (doc : List W) (lo d : Nat) (k : Nat) : Nat := (List.range' lo d).foldl (inStep fits ps doc) k
/-- the bound of the inner loop -/
def bound (ps : List Pat) (gap : Int) (doc : List W) (n : Nat) : Nat := min doc.length (n + ((ps.length : Int) - 1 + gap).toNat + 1)
def standsAt (ps : List Pat) (gap : Int) (doc : List W) (n : Nat) : Bool := match ps with
  | [] => false
  | p :: _ => fitAt fits doc n p && decide (inner fits ps doc (n + 1) (bound ps gap doc n - (n + 1)) 1 = ps.length)
def stands (ps : List Pat) (gap : Int) (doc : List W) : Bool := (List.range doc.length).any (standsAt fits ps gap doc)
def matchD (doc : List W) : Qn Pat → Bool
  | .row ps g => stands fits ps g doc
  | .all => true
  | .not q => !matchD doc q
  | .and a b => matchD doc a && matchD doc b
  | .or a b => matchD doc a || matchD doc b
/-! by places -/
def lastFrom : List (List Int) → Int → Option Int
  | [], last => some last
  | l :: ls, last => match l.filter (fun p => decide (last < p)) with
    | [] => none
    | b :: _ => lastFrom ls b
def rowAt (ls : List (List Int)) (gap f : Int) : Bool := match lastFrom ls.tail f with
  | some l => decide (l - f + 1 - (ls.length : Int) ≤ gap)
  | none => false
def rowM (ls : List (List Int)) (gap : Int) : Bool := match ls with
  | [] => false
  | l :: r => l.any (rowAt (l :: r) gap)
def vmatch (pp : Pat → List Int) : Qn Pat → Bool
  | .row ps g => rowM (ps.map pp) g
  | .all => true
  | .not q => !vmatch pp q
  | .and a b => vmatch pp a && vmatch pp b
  | .or a b => vmatch pp a || vmatch pp b
/-- pp p are the places of the document at which words stand that fit p, rising -/
def PlacesOf (doc : List W) (p : Pat) (l : List Int) : Prop := l.Pairwise (· < ·) ∧ ∀ i, i ∈ l ↔ ∃ n : Nat, i = (n : Int) ∧ fitAt fits doc n p = true
theorem lastFrom_gt : ∀ {ls : List (List Int)} {c l : Int}, ls ≠ [] → lastFrom ls c = some l → c < l
  | [], _, _, h, _ => absurd rfl h
  | m :: ls, c, l, _, h => by
    unfold lastFrom at h
    split at h
    · cases h
    · rename_i b r e
      have hb : b ∈ m.filter (fun p => decide (c < p)) := by rw [e]; exact List.mem_cons_self ..
      have h1 : c < b := by simpa using (List.mem_filter.mp hb).2
      by_cases q : ls = []
      · subst q
        unfold lastFrom at h
        have := Option.some.inj h
        omega
      · have := lastFrom_gt q h
        omega
/-- the last place lies in the document -/
theorem lastFrom_mem : ∀ {ls : List (List Int)} {c l : Int}, ls ≠ [] → lastFrom ls c = some l → ∃ m ∈ ls, l ∈ m
  | [], _, _, h, _ => absurd rfl h
  | m :: ls, c, l, _, h => by
    unfold lastFrom at h
    split at h
    · cases h
    · rename_i b r e
      have hb : b ∈ m.filter (fun p => decide (c < p)) := by rw [e]; exact List.mem_cons_self ..
      by_cases q : ls = []
      · subst q
        unfold lastFrom at h
        have := Option.some.inj h
        subst this
        exact ⟨m, List.mem_cons_self .., (List.mem_filter.mp hb).1⟩
      · obtain ⟨m', h1, h2⟩ := lastFrom_mem q h
        exact ⟨m', List.mem_cons_of_mem _ h1, h2⟩
theorem filter_hit {l : List Int} {j : Int} (hl : l.Pairwise (· < ·)) (hj : j ∈ l) : ∃ r, l.filter (fun p => decide (j - 1 < p)) = j :: r := by
  induction l with
  | nil => cases hj
  | cons a l ih =>
    have h := List.pairwise_cons.mp hl
    rw [List.filter_cons]
    rcases List.mem_cons.mp hj with rfl | hj
    · rw [if_pos (by simp; omega)]
      exact ⟨_, rfl⟩
    · have := h.1 j hj
      rw [if_neg (by simp; omega)]
      exact ih h.2 hj
theorem filter_miss {l : List Int} {j : Int} (hj : j ∉ l) : l.filter (fun p => decide (j - 1 < p)) = l.filter (fun p => decide (j < p)) := by
  refine List.filter_congr fun p hp => ?_
  have : p ≠ j := fun e => hj (e ▸ hp)
  by_cases h : j < p
  · have h2 : j - 1 < p := by omega
    simp [h, h2]
  · have h2 : ¬ j - 1 < p := by omega
    simp [h, h2]
variable {fits}
theorem inner_zero {ps : List Pat} {doc : List W} {lo k : Nat} : inner fits ps doc lo 0 k = k := rfl
theorem inner_succ {ps : List Pat} {doc : List W} {lo d k : Nat} : inner fits ps doc lo (d + 1) k = inner fits ps doc (lo + 1) d (inStep fits ps doc k lo) := by
  unfold inner
  rw [List.range'_succ, List.foldl_cons]
/-- the inner loop completes exactly if the greedy road ends below its bound -/
theorem inner_iff {ps : List Pat} {doc : List W} {pp : Pat → List Int} (hpp : ∀ p ∈ ps, PlacesOf fits doc p (pp p)) : ∀ (d j k : Nat), k ≤ ps.length →
    (inner fits ps doc j d k = ps.length ↔ (ps.drop k = [] ∨ ∃ l, lastFrom ((ps.drop k).map pp) ((j : Int) - 1) = some l ∧ l < (j : Int) + d))
  | 0, j, k, hk => by
    rw [inner_zero]
    constructor
    · intro e
      exact .inl (by rw [e, List.drop_length])
    · rintro (e | ⟨l, e, h⟩)
      · have := congrArg List.length e
        rw [List.length_drop] at this
        simp at this
        omega
      · by_cases q : ps.drop k = []
        · have := congrArg List.length q
          rw [List.length_drop] at this
          simp at this
          omega
        · have := lastFrom_gt (by simpa using q) e
          omega
  | d + 1, j, k, hk => by
    rw [inner_succ]
    cases e : ps[k]? with
    | none =>
      have hk2 : k = ps.length := by
        have := List.getElem?_eq_none_iff.mp e
        omega
      have e2 : inStep fits ps doc k j = k := by unfold inStep; rw [e]
      rw [e2, inner_iff hpp d (j + 1) k hk]
      have q : ps.drop k = [] := by rw [hk2, List.drop_length]
      simp [q]
    | some p =>
      have hlt : k < ps.length := (List.getElem?_eq_some_iff.mp e).1
      have hd : ps.drop k = p :: ps.drop (k + 1) := by
        rw [List.drop_eq_getElem_cons hlt]
        rw [(List.getElem?_eq_some_iff.mp e).2]
      have hp : p ∈ ps := List.mem_of_getElem? e
      obtain ⟨h1, h2⟩ := hpp p hp
      by_cases hf : fitAt fits doc j p = true
      · have e2 : inStep fits ps doc k j = k + 1 := by unfold inStep; rw [e]; simp [hf]
        rw [e2, inner_iff hpp d (j + 1) (k + 1) hlt, hd]
        obtain ⟨r, hr⟩ := filter_hit h1 ((h2 j).mpr ⟨j, rfl, hf⟩)
        have e3 : lastFrom ((p :: ps.drop (k + 1)).map pp) ((j : Int) - 1) = lastFrom ((ps.drop (k + 1)).map pp) (j : Int) := by
          rw [List.map_cons]
          show (match (pp p).filter (fun q => decide ((j : Int) - 1 < q)) with | [] => none | b :: _ => lastFrom _ b) = _
          rw [hr]
        rw [e3]
        have e4 : (((j + 1 : Nat) : Int) - 1) = (j : Int) := by omega
        rw [e4]
        constructor
        · rintro (q | ⟨l, q, hl⟩)
          · refine .inr ⟨j, by rw [q]; rfl, by omega⟩
          · exact .inr ⟨l, q, by omega⟩
        · rintro (q | ⟨l, q, hl⟩)
          · cases q
          · exact .inr ⟨l, q, by omega⟩
      · have e2 : inStep fits ps doc k j = k := by unfold inStep; rw [e]; simp [hf]
        rw [e2, inner_iff hpp d (j + 1) k hk, hd]
        have hj : (j : Int) ∉ pp p := fun hm => by
          obtain ⟨n, e5, hn⟩ := (h2 j).mp hm
          have : j = n := by omega
          subst this
          exact hf hn
        have e3 : lastFrom ((p :: ps.drop (k + 1)).map pp) ((j : Int) - 1) = lastFrom ((p :: ps.drop (k + 1)).map pp) (j : Int) := by
          rw [List.map_cons]
          show (match (pp p).filter (fun q => decide ((j : Int) - 1 < q)) with | [] => none | b :: _ => lastFrom _ b) = (match (pp p).filter (fun q => decide ((j : Int) < q)) with | [] => none | b :: _ => lastFrom _ b)
          rw [filter_miss hj]
        have e4 : (((j + 1 : Nat) : Int) - 1) = (j : Int) := by omega
        rw [e3, e4]
        constructor
        · rintro (q | ⟨l, q, hl⟩)
          · cases q
          · exact .inr ⟨l, q, by omega⟩
        · rintro (q | ⟨l, q, hl⟩)
          · cases q
          · exact .inr ⟨l, q, by omega⟩
theorem fitAt_lt {doc : List W} {i : Nat} {p : Pat} (h : fitAt fits doc i p = true) : i < doc.length := by
  unfold fitAt at h
  split at h
  · rename_i w e
    exact (List.getElem?_eq_some_iff.mp e).1
  · cases h
theorem row_eq {ps : List Pat} {gap : Int} {doc : List W} {pp : Pat → List Int} (hne : ps ≠ []) (hg : 0 ≤ gap) (hpp : ∀ p ∈ ps, PlacesOf fits doc p (pp p)) : rowM (ps.map pp) gap = stands fits ps gap doc := by
  obtain ⟨p, r, rfl⟩ : ∃ p r, ps = p :: r := by
    cases ps with
    | nil => exact absurd rfl hne
    | cons p r => exact ⟨p, r, rfl⟩
  obtain ⟨h1, h2⟩ := hpp p (List.mem_cons_self ..)
  -- one place
  have one : ∀ n : Nat, fitAt fits doc n p = true → (rowAt ((p :: r).map pp) gap (n : Int) = true ↔ inner fits (p :: r) doc (n + 1) (bound (p :: r) gap doc n - (n + 1)) 1 = (p :: r).length) := by
    intro n hn
    have hlt := fitAt_lt hn
    rw [inner_iff hpp _ _ _ (by simp)]
    have e1 : (((n + 1 : Nat) : Int) - 1) = (n : Int) := by omega
    rw [e1]
    show (match lastFrom (r.map pp) (n : Int) with | some l => decide (l - n + 1 - (((p :: r).map pp).length : Int) ≤ gap) | none => false) = true ↔ (r = [] ∨ ∃ l, lastFrom (r.map pp) (n : Int) = some l ∧ l < ((n + 1 : Nat) : Int) + ((bound (p :: r) gap doc n - (n + 1) : Nat) : Int))
    have hb : (((n + 1 : Nat) : Int) + ((bound (p :: r) gap doc n - (n + 1) : Nat) : Int)) = min (doc.length : Int) (n + ((r.length : Int) + gap) + 1) := by
      unfold bound
      rw [List.length_cons]
      omega
    rw [hb]
    have hlen : (((p :: r).map pp).length : Int) = (r.length : Int) + 1 := by simp
    rw [hlen]
    by_cases hr : r = []
    · subst hr
      simp [lastFrom]
      omega
    · cases hl : lastFrom (r.map pp) (n : Int) with
      | none => simp [hr]
      | some l =>
        obtain ⟨m, hm, hlm⟩ := lastFrom_mem (by simpa using hr) hl
        obtain ⟨q, hq, rfl⟩ := List.mem_map.mp hm
        obtain ⟨i, e2, hi⟩ := ((hpp q (List.mem_cons_of_mem _ hq)).2 l).mp hlm
        have := fitAt_lt hi
        simp [hr]
        omega
  show (pp p).any (rowAt ((p :: r).map pp) gap) = (List.range doc.length).any (standsAt fits (p :: r) gap doc)
  apply Bool.eq_iff_iff.mpr
  rw [List.any_eq_true, List.any_eq_true]
  constructor
  · rintro ⟨i, hi, h⟩
    obtain ⟨n, rfl, hn⟩ := (h2 i).mp hi
    refine ⟨n, List.mem_range.mpr (fitAt_lt hn), ?_⟩
    show (fitAt fits doc n p && decide _) = true
    rw [hn, Bool.true_and, decide_eq_true_eq]
    exact (one n hn).mp h
  · rintro ⟨n, hn, h⟩
    have h' : (fitAt fits doc n p && decide (inner fits (p :: r) doc (n + 1) (bound (p :: r) gap doc n - (n + 1)) 1 = (p :: r).length)) = true := h
    rw [Bool.and_eq_true, decide_eq_true_eq] at h'
    exact ⟨n, (h2 n).mpr ⟨n, rfl, h'.1⟩, (one n h'.1).mpr h'.2⟩
theorem vmatch_eq {doc : List W} {pp : Pat → List Int} : ∀ {q : Qn Pat}, q.well → (∀ p ∈ q.pats, PlacesOf fits doc p (pp p)) → vmatch pp q = matchD fits doc q
  | .row ps g, hw, hp => row_eq hw.1 hw.2 hp
  | .all, _, _ => rfl
  | .not q, hw, hp => by
    show (!vmatch pp q) = !matchD fits doc q
    rw [vmatch_eq (q := q) hw hp]
  | .and a b, hw, hp => by
    show (vmatch pp a && vmatch pp b) = (matchD fits doc a && matchD fits doc b)
    rw [vmatch_eq hw.1 fun p h => hp p (List.mem_append_left _ h), vmatch_eq hw.2 fun p h => hp p (List.mem_append_right _ h)]
  | .or a b, hw, hp => by
    show (vmatch pp a || vmatch pp b) = (matchD fits doc a || matchD fits doc b)
    rw [vmatch_eq hw.1 fun p h => hp p (List.mem_append_left _ h), vmatch_eq hw.2 fun p h => hp p (List.mem_append_right _ h)]
theorem stands_none {ps : List Pat} {gap : Int} {doc : List W} (h : ∀ p ∈ ps, ∀ w ∈ doc, fits w p = false) : stands fits ps gap doc = false := by
  unfold stands
  rw [List.any_eq_false]
  intro n _
  cases ps with
  | nil => simp [standsAt]
  | cons p r =>
    have e : fitAt fits doc n p = false := by
      unfold fitAt
      split
      · rename_i w e
        exact h p (List.mem_cons_self ..) w (List.mem_of_getElem? e)
      · rfl
    simp [standsAt, e]
/-- a document in which no word of the patterns stands matches as the empty one does -/
theorem match_none {doc : List W} : ∀ {q : Qn Pat}, (∀ p ∈ q.pats, ∀ w ∈ doc, fits w p = false) → matchD fits doc q = matchD fits [] q
  | .row ps g, h => by
    show stands fits ps g doc = stands fits ps g []
    have h : ∀ p ∈ ps, ∀ w ∈ doc, fits w p = false := h
    rw [stands_none h, stands_none (doc := []) fun p _ w hw => by cases hw]
  | .all, _ => rfl
  | .not q, h => by
    show (!matchD fits doc q) = !matchD fits [] q
    rw [match_none (q := q) h]
  | .and a b, h => by
    show (matchD fits doc a && matchD fits doc b) = (matchD fits [] a && matchD fits [] b)
    rw [match_none fun p hp => h p (List.mem_append_left _ hp), match_none fun p hp => h p (List.mem_append_right _ hp)]
  | .or a b, h => by
    show (matchD fits doc a || matchD fits doc b) = (matchD fits [] a || matchD fits [] b)
    rw [match_none fun p hp => h p (List.mem_append_left _ hp), match_none fun p hp => h p (List.mem_append_right _ hp)]
end
end Ts
/-! Histories, postings, the index's invariant, plain. -/
namespace Ts
/-! ### rows of (time, what), rising in time -/
section
variable {α : Type}
abbrev Up (l : List (Int × α)) : Prop := l.Pairwise fun a b => a.1 < b.1
def ins (t : Int) (x : α) : List (Int × α) → List (Int × α)
  | [] => [(t, x)]
  | (u, y) :: r => if t < u then (t, x) :: (u, y) :: r else if t = u then (t, x) :: r else (u, y) :: ins t x r
theorem ins_mem {t : Int} {x : α} : ∀ {l : List (Int × α)}, Up l → ∀ u y, (u, y) ∈ ins t x l ↔ (u = t ∧ y = x) ∨ (u ≠ t ∧ (u, y) ∈ l)
  | [], _, u, y => by
    unfold ins
    simp
  | (v, z) :: r, h, u, y => by
    have h' := List.pairwise_cons.mp h
    unfold ins
    by_cases h1 : t < v
    · rw [if_pos h1]
      rw [List.mem_cons, Prod.mk.injEq]
      constructor
      · rintro (q | q)
        · exact .inl q
        · refine .inr ⟨fun e => ?_, q⟩
          subst e
          rcases List.mem_cons.mp q with e | q
          · cases e; omega
          · have := h'.1 _ q
            dsimp only at this; omega
      · rintro (q | q)
        · exact .inl q
        · exact .inr q.2
    · rw [if_neg h1]
      by_cases h2 : t = v
      · rw [if_pos h2]
        subst h2
        rw [List.mem_cons, List.mem_cons, Prod.mk.injEq, Prod.mk.injEq]
        constructor
        · rintro (q | q)
          · exact .inl q
          · refine .inr ⟨fun e => ?_, .inr q⟩
            subst e
            have := h'.1 _ q
            dsimp only at this; omega
        · rintro (q | ⟨q, e | e⟩)
          · exact .inl q
          · exact absurd e.1 q
          · exact .inr e
      · rw [if_neg h2, List.mem_cons, List.mem_cons, Prod.mk.injEq, ins_mem h'.2]
        constructor
        · rintro (⟨e1, e2⟩ | q | q)
          · exact .inr ⟨by omega, .inl ⟨e1, e2⟩⟩
          · exact .inl q
          · exact .inr ⟨q.1, .inr q.2⟩
        · rintro (q | ⟨q, e | e⟩)
          · exact .inr (.inl q)
          · exact .inl e
          · exact .inr (.inr ⟨q, e⟩)
theorem ins_up {t : Int} {x : α} : ∀ {l : List (Int × α)}, Up l → Up (ins t x l)
  | [], _ => List.pairwise_singleton _ _
  | (v, z) :: r, h => by
    have h' := List.pairwise_cons.mp h
    unfold ins
    by_cases h1 : t < v
    · rw [if_pos h1]
      refine List.pairwise_cons.mpr ⟨fun p hp => ?_, h⟩
      rcases List.mem_cons.mp hp with rfl | hp
      · exact h1
      · have := h'.1 p hp
        dsimp only at this ⊢; omega
    · rw [if_neg h1]
      by_cases h2 : t = v
      · rw [if_pos h2]
        subst h2
        exact List.pairwise_cons.mpr ⟨h'.1, h'.2⟩
      · rw [if_neg h2]
        refine List.pairwise_cons.mpr ⟨fun p hp => ?_, ins_up h'.2⟩
        obtain ⟨u, y⟩ := p
        rcases (ins_mem h'.2 u y).mp hp with ⟨e, _⟩ | ⟨_, e⟩
        · dsimp only; omega
        · exact h'.1 _ e
theorem up_unique : ∀ {a b : List (Int × α)}, Up a → Up b → (∀ p, p ∈ a ↔ p ∈ b) → a = b
  | [], [], _, _, _ => rfl
  | [], y :: b, _, _, h => by have := (h y).mpr (List.mem_cons_self ..); cases this
  | x :: a, [], _, _, h => by have := (h x).mp (List.mem_cons_self ..); cases this
  | x :: a, y :: b, ha, hb, h => by
    have ha' := List.pairwise_cons.mp ha
    have hb' := List.pairwise_cons.mp hb
    have e : x = y := by
      rcases List.mem_cons.mp ((h x).mp (List.mem_cons_self ..)) with e | hx
      · exact e
      · rcases List.mem_cons.mp ((h y).mpr (List.mem_cons_self ..)) with e | hy
        · exact e.symm
        · have h1 := ha'.1 y hy
          have h2 := hb'.1 x hx
          omega
    subst e
    have hr : ∀ p, p ∈ a ↔ p ∈ b := fun p => by
      constructor
      · intro hp
        rcases List.mem_cons.mp ((h p).mp (List.mem_cons_of_mem _ hp)) with e | q
        · subst e
          have := ha'.1 _ hp
          omega
        · exact q
      · intro hp
        rcases List.mem_cons.mp ((h p).mpr (List.mem_cons_of_mem _ hp)) with e | q
        · subst e
          have := hb'.1 _ hp
          omega
        · exact q
    rw [up_unique ha'.2 hb'.2 hr]
end
/-! ### changes -/
section
variable {K X : Type} [DecidableEq K]
/-- (time, key, what) -/
abbrev Chg (K X : Type) := Int × K × X
/-- the last told one of a key at a time -/
def lastOf (cs : List (Chg K X)) (k : K) (t : Int) : Option X := cs.foldl (fun o c => if c.2.1 = k ∧ c.1 = t then some c.2.2 else o) none
/-- the counted ones of a key, rising in time -/
def ckey (cs : List (Chg K X)) (k : K) : List (Int × X) := cs.foldl (fun acc c => if c.2.1 = k then ins c.1 c.2.2 acc else acc) []
theorem lastOf_snoc (cs : List (Chg K X)) (c : Chg K X) (k : K) (t : Int) : lastOf (cs ++ [c]) k t = if c.2.1 = k ∧ c.1 = t then some c.2.2 else lastOf cs k t := by
  unfold lastOf
  rw [List.foldl_append]
  rfl
theorem ckey_snoc (cs : List (Chg K X)) (c : Chg K X) (k : K) : ckey (cs ++ [c]) k = if c.2.1 = k then ins c.1 c.2.2 (ckey cs k) else ckey cs k := by
  unfold ckey
  rw [List.foldl_append]
  rfl
theorem snoc_ind {β : Type} {P : List β → Prop} (h0 : P []) (h1 : ∀ l x, P l → P (l ++ [x])) : ∀ l, P l := by
  intro l
  have : ∀ n, ∀ l : List β, l.length = n → P l := by
    intro n
    induction n with
    | zero => intro l e; rw [List.length_eq_zero_iff.mp e]; exact h0
    | succ n ih =>
      intro l e
      have hne : l ≠ [] := by rintro rfl; simp at e
      rw [← List.dropLast_concat_getLast hne]
      exact h1 _ _ (ih _ (by rw [List.length_dropLast]; omega))
  exact this _ l rfl
theorem ckey_up (cs : List (Chg K X)) (k : K) : Up (ckey cs k) := by
  induction cs using snoc_ind with
  | h0 => exact List.Pairwise.nil
  | h1 l c ih =>
    rw [ckey_snoc]
    by_cases h : c.2.1 = k
    · rw [if_pos h]; exact ins_up ih
    · rw [if_neg h]; exact ih
theorem ckey_mem (cs : List (Chg K X)) (k : K) (t : Int) (x : X) : (t, x) ∈ ckey cs k ↔ lastOf cs k t = some x := by
  induction cs using snoc_ind with
  | h0 => simp [ckey, lastOf]
  | h1 l c ih =>
    rw [ckey_snoc, lastOf_snoc]
    by_cases h : c.2.1 = k
    · rw [if_pos h, ins_mem (ckey_up l k), ih]
      by_cases h2 : c.1 = t
      · rw [if_pos ⟨h, h2⟩]
        constructor
        · rintro (⟨_, e⟩ | ⟨e, _⟩)
          · rw [e]
          · exact absurd h2.symm e
        · intro e
          exact .inl ⟨h2.symm, (Option.some.inj e).symm⟩
      · rw [if_neg fun q => h2 q.2]
        constructor
        · rintro (⟨e, _⟩ | ⟨_, e⟩)
          · exact absurd e.symm h2
          · exact e
        · intro e
          exact .inr ⟨fun q => h2 q.symm, e⟩
    · rw [if_neg h, if_neg fun q => h q.1, ih]
theorem ckey_of {cs : List (Chg K X)} {k : K} {l : List (Int × X)} (hu : Up l) (hm : ∀ t x, (t, x) ∈ l ↔ lastOf cs k t = some x) : l = ckey cs k :=
  up_unique hu (ckey_up cs k) fun p => by rw [show p = (p.1, p.2) from rfl, hm, ckey_mem]
theorem ckey_other (cs : List (Chg K X)) (c : Chg K X) {k : K} (h : c.2.1 ≠ k) : ckey (cs ++ [c]) k = ckey cs k := by
  rw [ckey_snoc, if_neg h]
theorem lastOf_some {cs : List (Chg K X)} {k : K} {t : Int} {x : X} (h : lastOf cs k t = some x) : (t, k, x) ∈ cs := by
  revert h
  induction cs using snoc_ind with
  | h0 => intro h; cases h
  | h1 l c ih =>
    intro h
    rw [lastOf_snoc] at h
    by_cases q : c.2.1 = k ∧ c.1 = t
    · rw [if_pos q] at h
      have e := Option.some.inj h
      obtain ⟨a, b, d⟩ := c
      dsimp only at q e
      rw [← q.1, ← q.2, ← e]
      exact List.mem_append_right _ (List.mem_singleton.mpr rfl)
    · rw [if_neg q] at h
      exact List.mem_append_left _ (ih h)
theorem lastOf_there {cs : List (Chg K X)} {c : Chg K X} (h : c ∈ cs) : ∃ x, lastOf cs c.2.1 c.1 = some x := by
  revert h
  induction cs using snoc_ind with
  | h0 => intro h; cases h
  | h1 l d ih =>
    intro h
    rw [lastOf_snoc]
    by_cases q : d.2.1 = c.2.1 ∧ d.1 = c.1
    · rw [if_pos q]; exact ⟨_, rfl⟩
    · rw [if_neg q]
      rcases List.mem_append.mp h with h | h
      · exact ih h
      · rw [List.mem_singleton.mp h] at q
        exact absurd ⟨rfl, rfl⟩ q
theorem ckey_ne {cs : List (Chg K X)} {c : Chg K X} (h : c ∈ cs) : ckey cs c.2.1 ≠ [] := by
  obtain ⟨x, hx⟩ := lastOf_there h
  intro e
  have := (ckey_mem cs c.2.1 c.1 x).mpr hx
  rw [e] at this
  cases this
end
/-! ### the history of a key -/
/-- start, end, document -/
abbrev Ver (D : Type) := Int × Option Int × D
section
variable {D : Type} [DecidableEq D]
/-- one counted change: its time, the next one's, its document -/
def hstep (vs : List (Ver D)) (t : Int) (e : Option Int) (x : Option D) : List (Ver D) := match x with
  | none => vs
  | some d => match vs.getLast? with
    | some v => if v.2.1 = some t ∧ v.2.2 = d then vs.dropLast ++ [(v.1, e, d)] else vs ++ [(t, e, d)]
    | none => vs ++ [(t, e, d)]
def hloop : List (Ver D) → List (Int × Option D) → List (Ver D)
  | vs, [] => vs
  | vs, (t, x) :: r => hloop (hstep vs t (r.head?.map (·.1)) x) r
def hist (l : List (Int × Option D)) : List (Ver D) := hloop [] l
structure HInv (vs : List (Ver D)) (r : List (Int × Option D)) : Prop where
  up : vs.Pairwise fun a b => a.1 < b.1
  low : ∀ v ∈ vs, ∀ p ∈ r, v.1 < p.1
  ends : ∀ v ∈ vs, ∀ z, v.2.1 = some z → v.1 < z
theorem hinv_step {vs : List (Ver D)} {t : Int} {x : Option D} {r : List (Int × Option D)} (hu : Up ((t, x) :: r)) (I : HInv vs ((t, x) :: r)) : HInv (hstep vs t (r.head?.map (·.1)) x) r := by
  have hu' := List.pairwise_cons.mp hu
  have hz : ∀ z, r.head?.map (·.1) = some z → t < z := fun z e => by
    cases r with
    | nil => cases e
    | cons p r =>
      have e' : p.1 = z := Option.some.inj e
      rw [← e']
      exact hu'.1 p (List.mem_cons_self ..)
  have low' : ∀ v ∈ vs, ∀ p ∈ r, v.1 < p.1 := fun v hv p hp => I.low v hv p (List.mem_cons_of_mem _ hp)
  have lowt : ∀ v ∈ vs, v.1 < t := fun v hv => I.low v hv _ (List.mem_cons_self ..)
  have new : ∀ d, HInv (vs ++ [(t, r.head?.map (·.1), d)]) r := fun d => by
    refine ⟨List.pairwise_append.mpr ⟨I.up, List.pairwise_singleton _ _, fun a ha b hb => ?_⟩, fun v hv p hp => ?_, fun v hv z e => ?_⟩
    · rw [List.mem_singleton.mp hb]
      exact lowt a ha
    · rcases List.mem_append.mp hv with hv | hv
      · exact low' v hv p hp
      · rw [List.mem_singleton.mp hv]
        exact hu'.1 p hp
    · rcases List.mem_append.mp hv with hv | hv
      · exact I.ends v hv z e
      · rw [List.mem_singleton.mp hv] at e ⊢
        exact hz z e
  unfold hstep
  cases x with
  | none => exact ⟨I.up, low', I.ends⟩
  | some d =>
    cases hl : vs.getLast? with
    | none => exact new d
    | some v =>
      dsimp only
      by_cases q : v.2.1 = some t ∧ v.2.2 = d
      · rw [if_pos q]
        obtain ⟨vs', rfl⟩ := List.getLast?_eq_some_iff.mp hl
        rw [List.dropLast_concat]
        have up' := List.pairwise_append.mp I.up
        have hv : v ∈ vs' ++ [v] := List.mem_append_right _ (List.mem_singleton.mpr rfl)
        refine ⟨List.pairwise_append.mpr ⟨up'.1, List.pairwise_singleton _ _, fun a ha b hb => ?_⟩, fun u hu p hp => ?_, fun u hu z e => ?_⟩
        · rw [List.mem_singleton.mp hb]
          exact up'.2.2 a ha v (List.mem_singleton.mpr rfl)
        · rcases List.mem_append.mp hu with hu | hu
          · exact low' u (List.mem_append_left _ hu) p hp
          · rw [List.mem_singleton.mp hu]
            exact low' v hv p hp
        · rcases List.mem_append.mp hu with hu | hu
          · exact I.ends u (List.mem_append_left _ hu) z e
          · rw [List.mem_singleton.mp hu] at e ⊢
            have h1 := hz z e
            have h2 := lowt v hv
            dsimp only; omega
      · rw [if_neg q]
        exact new d
theorem hinv_loop : ∀ {r : List (Int × Option D)} {vs : List (Ver D)}, Up r → HInv vs r → HInv (hloop vs r) []
  | [], _, _, I => I
  | (t, x) :: r, vs, hu, I => hinv_loop (r := r) (List.pairwise_cons.mp hu).2 (hinv_step hu I)
theorem hist_inv {l : List (Int × Option D)} (h : Up l) : HInv (hist l) [] := hinv_loop h ⟨List.Pairwise.nil, fun v hv => absurd hv (by simp), fun v hv => absurd hv (by simp)⟩
theorem hist_start {l : List (Int × Option D)} (h : Up l) {u v : Ver D} (hu : u ∈ hist l) (hv : v ∈ hist l) (e : u.1 = v.1) : u = v := by
  have I := (hist_inv h).up
  revert hu hv
  generalize hist l = vs at I
  induction vs with
  | nil => intro hu; cases hu
  | cons a vs ih =>
    intro hu hv
    have h' := List.pairwise_cons.mp I
    rcases List.mem_cons.mp hu with e1 | hu
    · rcases List.mem_cons.mp hv with e2 | hv
      · rw [e1, e2]
      · have := h'.1 _ hv; rw [e1] at e; omega
    · rcases List.mem_cons.mp hv with e2 | hv
      · have := h'.1 _ hu; rw [e2] at e; omega
      · exact ih h'.2 hu hv
theorem hist_nodup {l : List (Int × Option D)} (h : Up l) : (hist l).Nodup := by
  refine (hist_inv h).up.imp fun {a b} hab e => ?_
  rw [e] at hab; omega
end
end Ts
/-! THE TEXT BY PLACES (printed by gen_head.py) -/
namespace Tsf
open PySem PySem.Spec PyProof.Rows L2
def top (i : Nat) : Stmt := PySem.Challenge.pw_timeshelf_k35_whole_index_answers.main.body.getD i (.Pass ⟨0, 0, 0, 0⟩)
abbrev FnP (K : PySem.W.Frag) (x qual : Str) (st : Stmt) (f : Addr) (fd : FuncData) : Prop := FunD K x qual (defArgs st) (defBody st) (defScope st) [] [] f fd
abbrev s_fits : Stmt := top 7
abbrev s_first_standing : Stmt := top 8
abbrev s_matches : Stmt := top 9
abbrev s_is_in : Stmt := top 11
abbrev s_combined : Stmt := top 12
abbrev s_join : Stmt := top 13
abbrev s_of_span : Stmt := top 14
abbrev s_needs_all : Stmt := top 16
abbrev s_pattern_places : Stmt := top 17
abbrev s_last_from : Stmt := top 18
abbrev s_row_matches : Stmt := top 19
abbrev s_version_matches : Stmt := top 20
abbrev s_answer_by : Stmt := top 21
abbrev s_places_of : Stmt := top 23
abbrev s_words_with_places : Stmt := top 24
abbrev s_postings_of : Stmt := top 25
abbrev s_words_of : Stmt := top 31
abbrev s_cut : Stmt := top 32
abbrev s_document_of : Stmt := top 33
abbrev s_all_patterns : Stmt := top 35
abbrev s_patterns_of : Stmt := top 36
abbrev s_is_key : Stmt := top 41
abbrev s_is_text : Stmt := top 42
abbrev s_check_change : Stmt := top 43
abbrev s_counted : Stmt := top 44
abbrev s_Shelf_init : Stmt := inClass (top 48) 0
abbrev s_Shelf_endings : Stmt := inClass (top 48) 1
abbrev s_Shelf_changes : Stmt := inClass (top 48) 2
abbrev s_Shelf_known_keys : Stmt := inClass (top 48) 3
abbrev s_Shelf_tell : Stmt := inClass (top 48) 4
abbrev s_Shelf_history : Stmt := inClass (top 48) 5
abbrev s_Shelf_plain_answer : Stmt := inClass (top 48) 7
abbrev s_without : Stmt := top 50
abbrev s_Index_init : Stmt := inClass (top 51) 0
abbrev s_Index_tell : Stmt := inClass (top 51) 1
abbrev s_Index_take_out : Stmt := inClass (top 51) 2
abbrev s_Index_shelf : Stmt := inClass (top 51) 4
abbrev s_Index_versions : Stmt := inClass (top 51) 5
abbrev s_Index_words : Stmt := inClass (top 51) 6
abbrev s_Index_postings : Stmt := inClass (top 51) 7
abbrev s_Index_words_for : Stmt := inClass (top 51) 8
abbrev s_Index_wanted : Stmt := inClass (top 51) 9
abbrev s_Index_versions_for : Stmt := inClass (top 51) 10
abbrev s_Index_answer : Stmt := inClass (top 51) 11
abbrev s_Index_read : Stmt := inClass (top 51) 12
abbrev s_law_cell : Stmt := top 53
abbrev s_law_digits : Stmt := top 54
abbrev s_law_padded : Stmt := top 55
abbrev s_law_text : Stmt := top 56
abbrev s_law_endings : Stmt := top 57
abbrev s_law_change : Stmt := top 58
abbrev s_law_changes : Stmt := top 59
abbrev s_law_pattern : Stmt := top 60
abbrev s_law_row : Stmt := top 61
abbrev s_law_question : Stmt := top 62
abbrev s_law_read : Stmt := top 63
abbrev s_law : Stmt := top 64
end Tsf
/-! THE HEAD: facts by names, the run (printed by gen_head.py) -/
namespace Tsf
open PySem PySem.Spec PyProof.Rows L2
def d_fits : He.DefD := ⟨("fits", none), "fits", "fits", defArgs s_fits, defBody s_fits, defScope s_fits, [], []⟩
def d_first_standing : He.DefD := ⟨("first_standing", none), "first_standing", "first_standing", defArgs s_first_standing, defBody s_first_standing, defScope s_first_standing, [], []⟩
def d_matches : He.DefD := ⟨("matches", none), "matches", "matches", defArgs s_matches, defBody s_matches, defScope s_matches, [], []⟩
def d_is_in : He.DefD := ⟨("is_in", none), "is_in", "is_in", defArgs s_is_in, defBody s_is_in, defScope s_is_in, [], []⟩
def d_combined : He.DefD := ⟨("_combined", none), "_combined", "_combined", defArgs s_combined, defBody s_combined, defScope s_combined, [], []⟩
def d_join : He.DefD := ⟨("join", none), "join", "join", defArgs s_join, defBody s_join, defScope s_join, [], []⟩
def d_of_span : He.DefD := ⟨("of_span", none), "of_span", "of_span", defArgs s_of_span, defBody s_of_span, defScope s_of_span, [], []⟩
def d_needs_all : He.DefD := ⟨("needs_all", none), "needs_all", "needs_all", defArgs s_needs_all, defBody s_needs_all, defScope s_needs_all, [], []⟩
def d_pattern_places : He.DefD := ⟨("pattern_places", none), "pattern_places", "pattern_places", defArgs s_pattern_places, defBody s_pattern_places, defScope s_pattern_places, [], []⟩
def d_last_from : He.DefD := ⟨("last_from", none), "last_from", "last_from", defArgs s_last_from, defBody s_last_from, defScope s_last_from, [], []⟩
def d_row_matches : He.DefD := ⟨("row_matches", none), "row_matches", "row_matches", defArgs s_row_matches, defBody s_row_matches, defScope s_row_matches, [], []⟩
def d_version_matches : He.DefD := ⟨("version_matches", none), "version_matches", "version_matches", defArgs s_version_matches, defBody s_version_matches, defScope s_version_matches, [], []⟩
def d_answer_by : He.DefD := ⟨("answer_by", none), "answer_by", "answer_by", defArgs s_answer_by, defBody s_answer_by, defScope s_answer_by, [], []⟩
def d_places_of : He.DefD := ⟨("places_of", none), "places_of", "places_of", defArgs s_places_of, defBody s_places_of, defScope s_places_of, [], []⟩
def d_words_with_places : He.DefD := ⟨("words_with_places", none), "words_with_places", "words_with_places", defArgs s_words_with_places, defBody s_words_with_places, defScope s_words_with_places, [], []⟩
def d_postings_of : He.DefD := ⟨("postings_of", none), "postings_of", "postings_of", defArgs s_postings_of, defBody s_postings_of, defScope s_postings_of, [], []⟩
def d_words_of : He.DefD := ⟨("words_of", none), "words_of", "words_of", defArgs s_words_of, defBody s_words_of, defScope s_words_of, [], []⟩
def d_cut : He.DefD := ⟨("cut", none), "cut", "cut", defArgs s_cut, defBody s_cut, defScope s_cut, [], []⟩
def d_document_of : He.DefD := ⟨("document_of", none), "document_of", "document_of", defArgs s_document_of, defBody s_document_of, defScope s_document_of, [], []⟩
def d_all_patterns : He.DefD := ⟨("_all_patterns", none), "_all_patterns", "_all_patterns", defArgs s_all_patterns, defBody s_all_patterns, defScope s_all_patterns, [], []⟩
def d_patterns_of : He.DefD := ⟨("patterns_of", none), "patterns_of", "patterns_of", defArgs s_patterns_of, defBody s_patterns_of, defScope s_patterns_of, [], []⟩
def d_is_key : He.DefD := ⟨("_is_key", none), "_is_key", "_is_key", defArgs s_is_key, defBody s_is_key, defScope s_is_key, [], []⟩
def d_is_text : He.DefD := ⟨("_is_text", none), "_is_text", "_is_text", defArgs s_is_text, defBody s_is_text, defScope s_is_text, [], []⟩
def d_check_change : He.DefD := ⟨("check_change", none), "check_change", "check_change", defArgs s_check_change, defBody s_check_change, defScope s_check_change, [], []⟩
def d_counted : He.DefD := ⟨("counted", none), "counted", "counted", defArgs s_counted, defBody s_counted, defScope s_counted, [], []⟩
def d_Shelf_init : He.DefD := ⟨("Shelf", some "__init__"), "__init__", "Shelf.__init__", defArgs s_Shelf_init, defBody s_Shelf_init, defScope s_Shelf_init, [], []⟩
def d_Shelf_endings : He.DefD := ⟨("Shelf", some "endings"), "endings", "Shelf.endings", defArgs s_Shelf_endings, defBody s_Shelf_endings, defScope s_Shelf_endings, [], []⟩
def d_Shelf_changes : He.DefD := ⟨("Shelf", some "changes"), "changes", "Shelf.changes", defArgs s_Shelf_changes, defBody s_Shelf_changes, defScope s_Shelf_changes, [], []⟩
def d_Shelf_known_keys : He.DefD := ⟨("Shelf", some "known_keys"), "known_keys", "Shelf.known_keys", defArgs s_Shelf_known_keys, defBody s_Shelf_known_keys, defScope s_Shelf_known_keys, [], []⟩
def d_Shelf_tell : He.DefD := ⟨("Shelf", some "tell"), "tell", "Shelf.tell", defArgs s_Shelf_tell, defBody s_Shelf_tell, defScope s_Shelf_tell, [], []⟩
def d_Shelf_history : He.DefD := ⟨("Shelf", some "history"), "history", "Shelf.history", defArgs s_Shelf_history, defBody s_Shelf_history, defScope s_Shelf_history, [], []⟩
def d_Shelf_plain_answer : He.DefD := ⟨("Shelf", some "plain_answer"), "plain_answer", "Shelf.plain_answer", defArgs s_Shelf_plain_answer, defBody s_Shelf_plain_answer, defScope s_Shelf_plain_answer, [], []⟩
def d_without : He.DefD := ⟨("without", none), "without", "without", defArgs s_without, defBody s_without, defScope s_without, [], []⟩
def d_Index_init : He.DefD := ⟨("Index", some "__init__"), "__init__", "Index.__init__", defArgs s_Index_init, defBody s_Index_init, defScope s_Index_init, [], []⟩
def d_Index_tell : He.DefD := ⟨("Index", some "tell"), "tell", "Index.tell", defArgs s_Index_tell, defBody s_Index_tell, defScope s_Index_tell, [], []⟩
def d_Index_take_out : He.DefD := ⟨("Index", some "take_out"), "take_out", "Index.take_out", defArgs s_Index_take_out, defBody s_Index_take_out, defScope s_Index_take_out, [], []⟩
def d_Index_shelf : He.DefD := ⟨("Index", some "shelf"), "shelf", "Index.shelf", defArgs s_Index_shelf, defBody s_Index_shelf, defScope s_Index_shelf, [], []⟩
def d_Index_versions : He.DefD := ⟨("Index", some "versions"), "versions", "Index.versions", defArgs s_Index_versions, defBody s_Index_versions, defScope s_Index_versions, [], []⟩
def d_Index_words : He.DefD := ⟨("Index", some "words"), "words", "Index.words", defArgs s_Index_words, defBody s_Index_words, defScope s_Index_words, [], []⟩
def d_Index_postings : He.DefD := ⟨("Index", some "postings"), "postings", "Index.postings", defArgs s_Index_postings, defBody s_Index_postings, defScope s_Index_postings, [], []⟩
def d_Index_words_for : He.DefD := ⟨("Index", some "words_for"), "words_for", "Index.words_for", defArgs s_Index_words_for, defBody s_Index_words_for, defScope s_Index_words_for, [], []⟩
def d_Index_wanted : He.DefD := ⟨("Index", some "wanted"), "wanted", "Index.wanted", defArgs s_Index_wanted, defBody s_Index_wanted, defScope s_Index_wanted, [], []⟩
def d_Index_versions_for : He.DefD := ⟨("Index", some "versions_for"), "versions_for", "Index.versions_for", defArgs s_Index_versions_for, defBody s_Index_versions_for, defScope s_Index_versions_for, [], []⟩
def d_Index_answer : He.DefD := ⟨("Index", some "answer"), "answer", "Index.answer", defArgs s_Index_answer, defBody s_Index_answer, defScope s_Index_answer, [], []⟩
def d_Index_read : He.DefD := ⟨("Index", some "read"), "read", "Index.read", defArgs s_Index_read, defBody s_Index_read, defScope s_Index_read, [], []⟩
def d_law_cell : He.DefD := ⟨("_law_cell", none), "_law_cell", "_law_cell", defArgs s_law_cell, defBody s_law_cell, defScope s_law_cell, [], []⟩
def d_law_digits : He.DefD := ⟨("_law_digits", none), "_law_digits", "_law_digits", defArgs s_law_digits, defBody s_law_digits, defScope s_law_digits, [], []⟩
def d_law_padded : He.DefD := ⟨("_law_padded", none), "_law_padded", "_law_padded", defArgs s_law_padded, defBody s_law_padded, defScope s_law_padded, [], []⟩
def d_law_text : He.DefD := ⟨("_law_text", none), "_law_text", "_law_text", defArgs s_law_text, defBody s_law_text, defScope s_law_text, [], []⟩
def d_law_endings : He.DefD := ⟨("_law_endings", none), "_law_endings", "_law_endings", defArgs s_law_endings, defBody s_law_endings, defScope s_law_endings, [], []⟩
def d_law_change : He.DefD := ⟨("_law_change", none), "_law_change", "_law_change", defArgs s_law_change, defBody s_law_change, defScope s_law_change, [], []⟩
def d_law_changes : He.DefD := ⟨("_law_changes", none), "_law_changes", "_law_changes", defArgs s_law_changes, defBody s_law_changes, defScope s_law_changes, [], []⟩
def d_law_pattern : He.DefD := ⟨("_law_pattern", none), "_law_pattern", "_law_pattern", defArgs s_law_pattern, defBody s_law_pattern, defScope s_law_pattern, [], []⟩
def d_law_row : He.DefD := ⟨("_law_row", none), "_law_row", "_law_row", defArgs s_law_row, defBody s_law_row, defScope s_law_row, [], []⟩
def d_law_question : He.DefD := ⟨("_law_question", none), "_law_question", "_law_question", defArgs s_law_question, defBody s_law_question, defScope s_law_question, [], []⟩
def d_law_read : He.DefD := ⟨("_law_read", none), "_law_read", "_law_read", defArgs s_law_read, defBody s_law_read, defScope s_law_read, [], []⟩
def d_law : He.DefD := ⟨("law", none), "law", "law", defArgs s_law, defBody s_law, defScope s_law, [], []⟩
def fn : List He.DefD := [d_fits, d_first_standing, d_matches, d_is_in, d_combined, d_join, d_of_span, d_needs_all, d_pattern_places, d_last_from, d_row_matches, d_version_matches, d_answer_by, d_places_of, d_words_with_places, d_postings_of, d_words_of, d_cut, d_document_of, d_all_patterns, d_patterns_of, d_is_key, d_is_text, d_check_change, d_counted, d_Shelf_init, d_Shelf_endings, d_Shelf_changes, d_Shelf_known_keys, d_Shelf_tell] ++ [d_Shelf_history, d_Shelf_plain_answer, d_without, d_Index_init, d_Index_tell, d_Index_take_out, d_Index_shelf, d_Index_versions, d_Index_words, d_Index_postings, d_Index_words_for, d_Index_wanted, d_Index_versions_for, d_Index_answer, d_Index_read, d_law_cell, d_law_digits, d_law_padded, d_law_text, d_law_endings, d_law_change, d_law_changes, d_law_pattern, d_law_row, d_law_question, d_law_read, d_law]
def fa : List He.Fa := ([.glo "fits", .glo "first_standing", .glo "matches", .glo "is_in", .glo "_combined", .glo "join", .glo "of_span", .glo "needs_all", .glo "pattern_places", .glo "last_from", .glo "row_matches", .glo "version_matches", .glo "answer_by", .glo "places_of", .glo "words_with_places", .glo "postings_of", .glo "words_of", .glo "cut", .glo "document_of", .glo "_all_patterns", .glo "patterns_of", .glo "_is_key", .glo "_is_text", .glo "check_change", .glo "counted", .glo "without", .glo "_law_cell", .glo "_law_digits", .glo "_law_padded", .glo "_law_text"] : List He.Fa) ++ ([.glo "_law_endings", .glo "_law_change", .glo "_law_changes", .glo "_law_pattern", .glo "_law_row", .glo "_law_question", .glo "_law_read", .glo "law", .glo "Shelf", .glo "Index", .int "WORD_LENGTH" 12, .int "MOST_TIME" 100000, .int "MOST_KEY" 8, .int "MOST_TEXT" 400, .int "MOST_CHANGES" 80, .int "MOST_KEYS" 12, .str "SMALLS" "abcdefghijklmnopqrstuvwxyz", .str "CAPITALS" "ABCDEFGHIJKLMNOPQRSTUVWXYZ", .str "DIGITS" "0123456789", .free "len", .free "range", .free "sorted", .free "list", .free "tuple", .free "all", .free "any", .free "min", .free "max", .free "isinstance", .free "int"] : List He.Fa) ++ ([.free "str", .free "bool", .free "ord", .free "sum", .cls "Shelf", .cls "Index", .noat "Shelf" "_endings", .noat "Shelf" "_changes", .noat "Index" "told", .noat "Index" "places", .noat "Index" "by_word", .noat "Index" "last", .meth "Shelf" "endings", .meth "Shelf" "changes", .meth "Shelf" "known_keys", .meth "Shelf" "tell", .meth "Shelf" "history", .meth "Shelf" "plain_answer", .meth "Index" "tell", .meth "Index" "take_out", .meth "Index" "shelf", .meth "Index" "versions", .meth "Index" "words", .meth "Index" "postings", .meth "Index" "words_for", .meth "Index" "wanted", .meth "Index" "versions_for", .meth "Index" "answer", .meth "Index" "read", .mkr "Shelf"] : List He.Fa) ++ ([.mkr "Index"] : List He.Fa)
def loose : List Str := (["_wall", "ShelfError", "InvalidChange", "TooMany", "NoSuchKey", "fits", "first_standing", "matches", "is_in", "_combined", "join", "of_span", "needs_all", "pattern_places", "last_from", "row_matches", "version_matches", "answer_by", "places_of", "words_with_places", "postings_of", "SMALLS", "CAPITALS", "DIGITS", "WORD_LENGTH", "words_of", "cut", "document_of", "_all_patterns", "patterns_of"] : List Str) ++ (["MOST_TIME", "MOST_KEY", "MOST_TEXT", "_is_key", "_is_text", "check_change", "counted", "MOST_CHANGES", "MOST_KEYS", "Shelf", "without", "Index", "_law_cell", "_law_digits", "_law_padded", "_law_text", "_law_endings", "_law_change", "_law_changes", "_law_pattern", "_law_row", "_law_question", "_law_read"] : List Str)
abbrev R : PySem.W.OpenRow := PySem.W.OpenLaw.row PySem.Challenge.rw_timeshelf_k35_whole_index_answers
abbrev hk : PySem.W.Hook := He.hookD 5 fa fn
def ob (s : PySem.W.SharedT) : He.AlD := He.obsDG 5 fa fn (HandSHeadRun.getT s)
theorem ob_eq (s : PySem.W.SharedT) : ob s = hk.obs s.abs := He.obsDG_eq (HandSHeadRun.getT_eq s)
theorem run (w : World) : HandSHeadRun.RunEq R (PySem.W.view R.prog [64]) hk ob 6000 loose w := by
  intro os
  kernel_rfl
end Tsf
/-! WHAT THE TOP HAS LEFT, as one structure; the defs' scopes (printed by gen_tx.py) -/
namespace Tsf
open PySem PySem.Spec PyProof.Rows L2
structure Tx (K : PySem.W.Frag) (mg : Str → Option Value) : Prop where
  g_fits : mg "fits" = some (.ref (He.ga K "fits"))
  g_first_standing : mg "first_standing" = some (.ref (He.ga K "first_standing"))
  g_matches : mg "matches" = some (.ref (He.ga K "matches"))
  g_is_in : mg "is_in" = some (.ref (He.ga K "is_in"))
  g_combined : mg "_combined" = some (.ref (He.ga K "_combined"))
  g_join : mg "join" = some (.ref (He.ga K "join"))
  g_of_span : mg "of_span" = some (.ref (He.ga K "of_span"))
  g_needs_all : mg "needs_all" = some (.ref (He.ga K "needs_all"))
  g_pattern_places : mg "pattern_places" = some (.ref (He.ga K "pattern_places"))
  g_last_from : mg "last_from" = some (.ref (He.ga K "last_from"))
  g_row_matches : mg "row_matches" = some (.ref (He.ga K "row_matches"))
  g_version_matches : mg "version_matches" = some (.ref (He.ga K "version_matches"))
  g_answer_by : mg "answer_by" = some (.ref (He.ga K "answer_by"))
  g_places_of : mg "places_of" = some (.ref (He.ga K "places_of"))
  g_words_with_places : mg "words_with_places" = some (.ref (He.ga K "words_with_places"))
  g_postings_of : mg "postings_of" = some (.ref (He.ga K "postings_of"))
  g_words_of : mg "words_of" = some (.ref (He.ga K "words_of"))
  g_cut : mg "cut" = some (.ref (He.ga K "cut"))
  g_document_of : mg "document_of" = some (.ref (He.ga K "document_of"))
  g_all_patterns : mg "_all_patterns" = some (.ref (He.ga K "_all_patterns"))
  g_patterns_of : mg "patterns_of" = some (.ref (He.ga K "patterns_of"))
  g_is_key : mg "_is_key" = some (.ref (He.ga K "_is_key"))
  g_is_text : mg "_is_text" = some (.ref (He.ga K "_is_text"))
  g_check_change : mg "check_change" = some (.ref (He.ga K "check_change"))
  g_counted : mg "counted" = some (.ref (He.ga K "counted"))
  g_without : mg "without" = some (.ref (He.ga K "without"))
  g_law_cell : mg "_law_cell" = some (.ref (He.ga K "_law_cell"))
  g_law_digits : mg "_law_digits" = some (.ref (He.ga K "_law_digits"))
  g_law_padded : mg "_law_padded" = some (.ref (He.ga K "_law_padded"))
  g_law_text : mg "_law_text" = some (.ref (He.ga K "_law_text"))
  g_law_endings : mg "_law_endings" = some (.ref (He.ga K "_law_endings"))
  g_law_change : mg "_law_change" = some (.ref (He.ga K "_law_change"))
  g_law_changes : mg "_law_changes" = some (.ref (He.ga K "_law_changes"))
  g_law_pattern : mg "_law_pattern" = some (.ref (He.ga K "_law_pattern"))
  g_law_row : mg "_law_row" = some (.ref (He.ga K "_law_row"))
  g_law_question : mg "_law_question" = some (.ref (He.ga K "_law_question"))
  g_law_read : mg "_law_read" = some (.ref (He.ga K "_law_read"))
  g_law : mg "law" = some (.ref (He.ga K "law"))
  g_Shelf : mg "Shelf" = some (.ref (He.ga K "Shelf"))
  g_Index : mg "Index" = some (.ref (He.ga K "Index"))
  i_WORD_LENGTH : ∃ t, mg "WORD_LENGTH" = some (.int 12 t)
  i_MOST_TIME : ∃ t, mg "MOST_TIME" = some (.int 100000 t)
  i_MOST_KEY : ∃ t, mg "MOST_KEY" = some (.int 8 t)
  i_MOST_TEXT : ∃ t, mg "MOST_TEXT" = some (.int 400 t)
  i_MOST_CHANGES : ∃ t, mg "MOST_CHANGES" = some (.int 80 t)
  i_MOST_KEYS : ∃ t, mg "MOST_KEYS" = some (.int 12 t)
  i_SMALLS : ∃ t, mg "SMALLS" = some (.str "abcdefghijklmnopqrstuvwxyz" t)
  i_CAPITALS : ∃ t, mg "CAPITALS" = some (.str "ABCDEFGHIJKLMNOPQRSTUVWXYZ" t)
  i_DIGITS : ∃ t, mg "DIGITS" = some (.str "0123456789" t)
  z_len : mg "len" = none
  z_range : mg "range" = none
  z_sorted : mg "sorted" = none
  z_list : mg "list" = none
  z_tuple : mg "tuple" = none
  z_all : mg "all" = none
  z_any : mg "any" = none
  z_min : mg "min" = none
  z_max : mg "max" = none
  z_isinstance : mg "isinstance" = none
  z_int : mg "int" = none
  z_str : mg "str" = none
  z_bool : mg "bool" = none
  z_ord : mg "ord" = none
  z_sum : mg "sum" = none
  c_Shelf : Cls K (He.ga K "Shelf")
  c_Index : Cls K (He.ga K "Index")
  n_Shelf_endings : NoAttr K (He.ga K "Shelf") "_endings"
  n_Shelf_changes : NoAttr K (He.ga K "Shelf") "_changes"
  n_Index_told : NoAttr K (He.ga K "Index") "told"
  n_Index_places : NoAttr K (He.ga K "Index") "places"
  n_Index_by_word : NoAttr K (He.ga K "Index") "by_word"
  n_Index_last : NoAttr K (He.ga K "Index") "last"
  m_Shelf_endings : Meth K (He.ga K "Shelf") "endings" (He.ma K (He.ga K "Shelf") "endings")
  m_Shelf_changes : Meth K (He.ga K "Shelf") "changes" (He.ma K (He.ga K "Shelf") "changes")
  m_Shelf_known_keys : Meth K (He.ga K "Shelf") "known_keys" (He.ma K (He.ga K "Shelf") "known_keys")
  m_Shelf_tell : Meth K (He.ga K "Shelf") "tell" (He.ma K (He.ga K "Shelf") "tell")
  m_Shelf_history : Meth K (He.ga K "Shelf") "history" (He.ma K (He.ga K "Shelf") "history")
  m_Shelf_plain_answer : Meth K (He.ga K "Shelf") "plain_answer" (He.ma K (He.ga K "Shelf") "plain_answer")
  m_Index_tell : Meth K (He.ga K "Index") "tell" (He.ma K (He.ga K "Index") "tell")
  m_Index_take_out : Meth K (He.ga K "Index") "take_out" (He.ma K (He.ga K "Index") "take_out")
  m_Index_shelf : Meth K (He.ga K "Index") "shelf" (He.ma K (He.ga K "Index") "shelf")
  m_Index_versions : Meth K (He.ga K "Index") "versions" (He.ma K (He.ga K "Index") "versions")
  m_Index_words : Meth K (He.ga K "Index") "words" (He.ma K (He.ga K "Index") "words")
  m_Index_postings : Meth K (He.ga K "Index") "postings" (He.ma K (He.ga K "Index") "postings")
  m_Index_words_for : Meth K (He.ga K "Index") "words_for" (He.ma K (He.ga K "Index") "words_for")
  m_Index_wanted : Meth K (He.ga K "Index") "wanted" (He.ma K (He.ga K "Index") "wanted")
  m_Index_versions_for : Meth K (He.ga K "Index") "versions_for" (He.ma K (He.ga K "Index") "versions_for")
  m_Index_answer : Meth K (He.ga K "Index") "answer" (He.ma K (He.ga K "Index") "answer")
  m_Index_read : Meth K (He.ga K "Index") "read" (He.ma K (He.ga K "Index") "read")
  k_Shelf : Mk K (He.ga K "Shelf") (He.ma K (He.ga K "Shelf") "__init__")
  k_Index : Mk K (He.ga K "Index") (He.ma K (He.ga K "Index") "__init__")
  d_fits : ∃ fd, FnP K "fits" "fits" s_fits (He.ga K "fits") fd
  d_first_standing : ∃ fd, FnP K "first_standing" "first_standing" s_first_standing (He.ga K "first_standing") fd
  d_matches : ∃ fd, FnP K "matches" "matches" s_matches (He.ga K "matches") fd
  d_is_in : ∃ fd, FnP K "is_in" "is_in" s_is_in (He.ga K "is_in") fd
  d_combined : ∃ fd, FnP K "_combined" "_combined" s_combined (He.ga K "_combined") fd
  d_join : ∃ fd, FnP K "join" "join" s_join (He.ga K "join") fd
  d_of_span : ∃ fd, FnP K "of_span" "of_span" s_of_span (He.ga K "of_span") fd
  d_needs_all : ∃ fd, FnP K "needs_all" "needs_all" s_needs_all (He.ga K "needs_all") fd
  d_pattern_places : ∃ fd, FnP K "pattern_places" "pattern_places" s_pattern_places (He.ga K "pattern_places") fd
  d_last_from : ∃ fd, FnP K "last_from" "last_from" s_last_from (He.ga K "last_from") fd
  d_row_matches : ∃ fd, FnP K "row_matches" "row_matches" s_row_matches (He.ga K "row_matches") fd
  d_version_matches : ∃ fd, FnP K "version_matches" "version_matches" s_version_matches (He.ga K "version_matches") fd
  d_answer_by : ∃ fd, FnP K "answer_by" "answer_by" s_answer_by (He.ga K "answer_by") fd
  d_places_of : ∃ fd, FnP K "places_of" "places_of" s_places_of (He.ga K "places_of") fd
  d_words_with_places : ∃ fd, FnP K "words_with_places" "words_with_places" s_words_with_places (He.ga K "words_with_places") fd
  d_postings_of : ∃ fd, FnP K "postings_of" "postings_of" s_postings_of (He.ga K "postings_of") fd
  d_words_of : ∃ fd, FnP K "words_of" "words_of" s_words_of (He.ga K "words_of") fd
  d_cut : ∃ fd, FnP K "cut" "cut" s_cut (He.ga K "cut") fd
  d_document_of : ∃ fd, FnP K "document_of" "document_of" s_document_of (He.ga K "document_of") fd
  d_all_patterns : ∃ fd, FnP K "_all_patterns" "_all_patterns" s_all_patterns (He.ga K "_all_patterns") fd
  d_patterns_of : ∃ fd, FnP K "patterns_of" "patterns_of" s_patterns_of (He.ga K "patterns_of") fd
  d_is_key : ∃ fd, FnP K "_is_key" "_is_key" s_is_key (He.ga K "_is_key") fd
  d_is_text : ∃ fd, FnP K "_is_text" "_is_text" s_is_text (He.ga K "_is_text") fd
  d_check_change : ∃ fd, FnP K "check_change" "check_change" s_check_change (He.ga K "check_change") fd
  d_counted : ∃ fd, FnP K "counted" "counted" s_counted (He.ga K "counted") fd
  d_Shelf_init : ∃ fd, FnP K "__init__" "Shelf.__init__" s_Shelf_init (He.ma K (He.ga K "Shelf") "__init__") fd
  d_Shelf_endings : ∃ fd, FnP K "endings" "Shelf.endings" s_Shelf_endings (He.ma K (He.ga K "Shelf") "endings") fd
  d_Shelf_changes : ∃ fd, FnP K "changes" "Shelf.changes" s_Shelf_changes (He.ma K (He.ga K "Shelf") "changes") fd
  d_Shelf_known_keys : ∃ fd, FnP K "known_keys" "Shelf.known_keys" s_Shelf_known_keys (He.ma K (He.ga K "Shelf") "known_keys") fd
  d_Shelf_tell : ∃ fd, FnP K "tell" "Shelf.tell" s_Shelf_tell (He.ma K (He.ga K "Shelf") "tell") fd
  d_Shelf_history : ∃ fd, FnP K "history" "Shelf.history" s_Shelf_history (He.ma K (He.ga K "Shelf") "history") fd
  d_Shelf_plain_answer : ∃ fd, FnP K "plain_answer" "Shelf.plain_answer" s_Shelf_plain_answer (He.ma K (He.ga K "Shelf") "plain_answer") fd
  d_without : ∃ fd, FnP K "without" "without" s_without (He.ga K "without") fd
  d_Index_init : ∃ fd, FnP K "__init__" "Index.__init__" s_Index_init (He.ma K (He.ga K "Index") "__init__") fd
  d_Index_tell : ∃ fd, FnP K "tell" "Index.tell" s_Index_tell (He.ma K (He.ga K "Index") "tell") fd
  d_Index_take_out : ∃ fd, FnP K "take_out" "Index.take_out" s_Index_take_out (He.ma K (He.ga K "Index") "take_out") fd
  d_Index_shelf : ∃ fd, FnP K "shelf" "Index.shelf" s_Index_shelf (He.ma K (He.ga K "Index") "shelf") fd
  d_Index_versions : ∃ fd, FnP K "versions" "Index.versions" s_Index_versions (He.ma K (He.ga K "Index") "versions") fd
  d_Index_words : ∃ fd, FnP K "words" "Index.words" s_Index_words (He.ma K (He.ga K "Index") "words") fd
  d_Index_postings : ∃ fd, FnP K "postings" "Index.postings" s_Index_postings (He.ma K (He.ga K "Index") "postings") fd
  d_Index_words_for : ∃ fd, FnP K "words_for" "Index.words_for" s_Index_words_for (He.ma K (He.ga K "Index") "words_for") fd
  d_Index_wanted : ∃ fd, FnP K "wanted" "Index.wanted" s_Index_wanted (He.ma K (He.ga K "Index") "wanted") fd
  d_Index_versions_for : ∃ fd, FnP K "versions_for" "Index.versions_for" s_Index_versions_for (He.ma K (He.ga K "Index") "versions_for") fd
  d_Index_answer : ∃ fd, FnP K "answer" "Index.answer" s_Index_answer (He.ma K (He.ga K "Index") "answer") fd
  d_Index_read : ∃ fd, FnP K "read" "Index.read" s_Index_read (He.ma K (He.ga K "Index") "read") fd
  d_law_cell : ∃ fd, FnP K "_law_cell" "_law_cell" s_law_cell (He.ga K "_law_cell") fd
  d_law_digits : ∃ fd, FnP K "_law_digits" "_law_digits" s_law_digits (He.ga K "_law_digits") fd
  d_law_padded : ∃ fd, FnP K "_law_padded" "_law_padded" s_law_padded (He.ga K "_law_padded") fd
  d_law_text : ∃ fd, FnP K "_law_text" "_law_text" s_law_text (He.ga K "_law_text") fd
  d_law_endings : ∃ fd, FnP K "_law_endings" "_law_endings" s_law_endings (He.ga K "_law_endings") fd
  d_law_change : ∃ fd, FnP K "_law_change" "_law_change" s_law_change (He.ga K "_law_change") fd
  d_law_changes : ∃ fd, FnP K "_law_changes" "_law_changes" s_law_changes (He.ga K "_law_changes") fd
  d_law_pattern : ∃ fd, FnP K "_law_pattern" "_law_pattern" s_law_pattern (He.ga K "_law_pattern") fd
  d_law_row : ∃ fd, FnP K "_law_row" "_law_row" s_law_row (He.ga K "_law_row") fd
  d_law_question : ∃ fd, FnP K "_law_question" "_law_question" s_law_question (He.ga K "_law_question") fd
  d_law_read : ∃ fd, FnP K "_law_read" "_law_read" s_law_read (He.ga K "_law_read") fd
  d_law : ∃ fd, FnP K "law" "law" s_law (He.ga K "law") fd
/-- a def's contract -/
def Con (P : Program) (w : World) (K : PySem.W.Frag) (mg : Str → Option Value) (base : Heap) (k : Nat) (f : Addr) (ps : List Str) (sp : Sp) : Prop := ∃ fd, FnOk P w K mg base CX0 k f fd ps sp ∧ Binds K fd ps [] ∧ PySem.W.keepIn K (.ref f) = true
theorem Con.mono {P : Program} {w : World} {K : PySem.W.Frag} {mg : Str → Option Value} {base : Heap} {j k : Nat} {f : Addr} {ps : List Str} {sp : Sp} (C : Con P w K mg base j f ps sp) (h : j ≤ k) : Con P w K mg base k f ps sp := by
  obtain ⟨fd, F, b, kp⟩ := C
  exact ⟨fd, F.mono h, b, kp⟩
theorem sc_fits : FnScope ["word", "pattern"] ["word", "pattern"] (defScope s_fits) := ⟨rfl, rfl, rfl, by decide +kernel, rfl, by decide +kernel, by decide +kernel⟩
theorem sc_first_standing : FnScope ["document", "row", "patterns", "last_place", "start", "places", "place"] ["document", "row"] (defScope s_first_standing) := ⟨rfl, rfl, rfl, by decide +kernel, rfl, by decide +kernel, by decide +kernel⟩
theorem sc_matches : FnScope ["document", "question", "kind", "part"] ["document", "question"] (defScope s_matches) := ⟨rfl, rfl, rfl, by decide +kernel, rfl, by decide +kernel, by decide +kernel⟩
theorem sc_is_in : FnScope ["timeline", "time", "point"] ["timeline", "time"] (defScope s_is_in) := ⟨rfl, rfl, rfl, by decide +kernel, rfl, by decide +kernel, by decide +kernel⟩
theorem sc_combined : FnScope ["one", "other", "both", "found", "inside", "time", "first", "second", "now"] ["one", "other", "both"] (defScope s_combined) := ⟨rfl, rfl, rfl, by decide +kernel, rfl, by decide +kernel, by decide +kernel⟩
theorem sc_join : FnScope ["one", "other"] ["one", "other"] (defScope s_join) := ⟨rfl, rfl, rfl, by decide +kernel, rfl, by decide +kernel, by decide +kernel⟩
theorem sc_of_span : FnScope ["start", "end"] ["start", "end"] (defScope s_of_span) := ⟨rfl, rfl, rfl, by decide +kernel, rfl, by decide +kernel, by decide +kernel⟩
theorem sc_needs_all : FnScope ["question"] ["question"] (defScope s_needs_all) := ⟨rfl, rfl, rfl, by decide +kernel, rfl, by decide +kernel, by decide +kernel⟩
theorem sc_pattern_places : FnScope ["words", "pattern", "found", "word", "place"] ["words", "pattern"] (defScope s_pattern_places) := ⟨rfl, rfl, rfl, by decide +kernel, rfl, by decide +kernel, by decide +kernel⟩
theorem sc_last_from : FnScope ["lists", "first", "last", "places", "behind", "place"] ["lists", "first"] (defScope s_last_from) := ⟨rfl, rfl, rfl, by decide +kernel, rfl, by decide +kernel, by decide +kernel⟩
theorem sc_row_matches : FnScope ["words", "row", "lists", "first", "last", "pattern"] ["words", "row"] (defScope s_row_matches) := ⟨rfl, rfl, rfl, by decide +kernel, rfl, by decide +kernel, by decide +kernel⟩
theorem sc_version_matches : FnScope ["words", "question", "kind", "part"] ["words", "question"] (defScope s_version_matches) := ⟨rfl, rfl, rfl, by decide +kernel, rfl, by decide +kernel, by decide +kernel⟩
theorem sc_answer_by : FnScope ["question", "places", "postings", "words", "place", "posting", "found", "key"] ["question", "places", "postings"] (defScope s_answer_by) := ⟨rfl, rfl, rfl, by decide +kernel, rfl, by decide +kernel, by decide +kernel⟩
theorem sc_places_of : FnScope ["history", "key", "version"] ["history", "key"] (defScope s_places_of) := ⟨rfl, rfl, rfl, by decide +kernel, rfl, by decide +kernel, by decide +kernel⟩
theorem sc_words_with_places : FnScope ["document", "found", "k"] ["document"] (defScope s_words_with_places) := ⟨rfl, rfl, rfl, by decide +kernel, rfl, by decide +kernel, by decide +kernel⟩
theorem sc_postings_of : FnScope ["history", "key", "found", "version", "words", "word"] ["history", "key"] (defScope s_postings_of) := ⟨rfl, rfl, rfl, by decide +kernel, rfl, by decide +kernel, by decide +kernel⟩
theorem sc_words_of : FnScope ["text", "found", "run", "char"] ["text"] (defScope s_words_of) := ⟨rfl, rfl, rfl, by decide +kernel, rfl, by decide +kernel, by decide +kernel⟩
theorem sc_cut : FnScope ["word", "endings", "best", "ending", "least"] ["word", "endings"] (defScope s_cut) := ⟨rfl, rfl, rfl, by decide +kernel, rfl, by decide +kernel, by decide +kernel⟩
theorem sc_document_of : FnScope ["text", "endings", "word"] ["text", "endings"] (defScope s_document_of) := ⟨rfl, rfl, rfl, by decide +kernel, rfl, by decide +kernel, by decide +kernel⟩
theorem sc_all_patterns : FnScope ["question", "found", "part"] ["question"] (defScope s_all_patterns) := ⟨rfl, rfl, rfl, by decide +kernel, rfl, by decide +kernel, by decide +kernel⟩
theorem sc_patterns_of : FnScope ["question", "found", "pattern"] ["question"] (defScope s_patterns_of) := ⟨rfl, rfl, rfl, by decide +kernel, rfl, by decide +kernel, by decide +kernel⟩
theorem sc_is_key : FnScope ["key", "char"] ["key"] (defScope s_is_key) := ⟨rfl, rfl, rfl, by decide +kernel, rfl, by decide +kernel, by decide +kernel⟩
theorem sc_is_text : FnScope ["text", "char"] ["text"] (defScope s_is_text) := ⟨rfl, rfl, rfl, by decide +kernel, rfl, by decide +kernel, by decide +kernel⟩
theorem sc_check_change : FnScope ["change", "time", "key", "text"] ["change"] (defScope s_check_change) := ⟨rfl, rfl, rfl, by decide +kernel, rfl, by decide +kernel, by decide +kernel⟩
theorem sc_counted : FnScope ["changes", "last", "time", "key", "text"] ["changes"] (defScope s_counted) := ⟨rfl, rfl, rfl, by decide +kernel, rfl, by decide +kernel, by decide +kernel⟩
theorem sc_Shelf_init : FnScope ["self", "endings"] ["self", "endings"] (defScope s_Shelf_init) := ⟨rfl, rfl, rfl, by decide +kernel, rfl, by decide +kernel, by decide +kernel⟩
theorem sc_Shelf_endings : FnScope ["self"] ["self"] (defScope s_Shelf_endings) := ⟨rfl, rfl, rfl, by decide +kernel, rfl, by decide +kernel, by decide +kernel⟩
theorem sc_Shelf_changes : FnScope ["self"] ["self"] (defScope s_Shelf_changes) := ⟨rfl, rfl, rfl, by decide +kernel, rfl, by decide +kernel, by decide +kernel⟩
theorem sc_Shelf_known_keys : FnScope ["self", "change"] ["self"] (defScope s_Shelf_known_keys) := ⟨rfl, rfl, rfl, by decide +kernel, rfl, by decide +kernel, by decide +kernel⟩
theorem sc_Shelf_tell : FnScope ["self", "time", "key", "text", "known"] ["self", "time", "key", "text"] (defScope s_Shelf_tell) := ⟨rfl, rfl, rfl, by decide +kernel, rfl, by decide +kernel, by decide +kernel⟩
theorem sc_Shelf_history : FnScope ["self", "key", "changes", "versions", "at", "time", "name", "text", "end", "document", "change"] ["self", "key"] (defScope s_Shelf_history) := ⟨rfl, rfl, rfl, by decide +kernel, rfl, by decide +kernel, by decide +kernel⟩
theorem sc_Shelf_plain_answer : FnScope ["self", "question", "answer", "key", "timeline", "start", "end", "document"] ["self", "question"] (defScope s_Shelf_plain_answer) := ⟨rfl, rfl, rfl, by decide +kernel, rfl, by decide +kernel, by decide +kernel⟩
theorem sc_without : FnScope ["one", "other", "item"] ["one", "other"] (defScope s_without) := ⟨rfl, rfl, rfl, by decide +kernel, rfl, by decide +kernel, by decide +kernel⟩
theorem sc_Index_init : FnScope ["self", "endings"] ["self", "endings"] (defScope s_Index_init) := ⟨rfl, rfl, rfl, by decide +kernel, rfl, by decide +kernel, by decide +kernel⟩
theorem sc_Index_tell : FnScope ["self", "time", "key", "text", "before", "after", "gone", "new", "posting"] ["self", "time", "key", "text"] (defScope s_Index_tell) := ⟨rfl, rfl, rfl, by decide +kernel, rfl, by decide +kernel, by decide +kernel⟩
theorem sc_Index_take_out : FnScope ["self", "posting", "rest", "other"] ["self", "posting"] (defScope s_Index_take_out) := ⟨rfl, rfl, rfl, by decide +kernel, rfl, by decide +kernel, by decide +kernel⟩
theorem sc_Index_shelf : FnScope ["self", "found", "time", "key", "text"] ["self"] (defScope s_Index_shelf) := ⟨rfl, rfl, rfl, by decide +kernel, rfl, by decide +kernel, by decide +kernel⟩
theorem sc_Index_versions : FnScope ["self", "found", "key"] ["self"] (defScope s_Index_versions) := ⟨rfl, rfl, rfl, by decide +kernel, rfl, by decide +kernel, by decide +kernel⟩
theorem sc_Index_words : FnScope ["self"] ["self"] (defScope s_Index_words) := ⟨rfl, rfl, rfl, by decide +kernel, rfl, by decide +kernel, by decide +kernel⟩
theorem sc_Index_postings : FnScope ["self", "word"] ["self", "word"] (defScope s_Index_postings) := ⟨rfl, rfl, rfl, by decide +kernel, rfl, by decide +kernel, by decide +kernel⟩
theorem sc_Index_words_for : FnScope ["self", "pattern", "word"] ["self", "pattern"] (defScope s_Index_words_for) := ⟨rfl, rfl, rfl, by decide +kernel, rfl, by decide +kernel, by decide +kernel⟩
theorem sc_Index_wanted : FnScope ["self", "question", "words", "pattern", "word", "found"] ["self", "question"] (defScope s_Index_wanted) := ⟨rfl, rfl, rfl, by decide +kernel, rfl, by decide +kernel, by decide +kernel⟩
theorem sc_Index_versions_for : FnScope ["self", "question", "postings", "places", "posting"] ["self", "question", "postings"] (defScope s_Index_versions_for) := ⟨rfl, rfl, rfl, by decide +kernel, rfl, by decide +kernel, by decide +kernel⟩
theorem sc_Index_answer : FnScope ["self", "question", "postings"] ["self", "question"] (defScope s_Index_answer) := ⟨rfl, rfl, rfl, by decide +kernel, rfl, by decide +kernel, by decide +kernel⟩
theorem sc_Index_read : FnScope ["self", "question", "count"] ["self", "question"] (defScope s_Index_read) := ⟨rfl, rfl, rfl, by decide +kernel, rfl, by decide +kernel, by decide +kernel⟩
theorem sc_law_cell : FnScope ["_law_script", "_law_k"] ["_law_script", "_law_k"] (defScope s_law_cell) := ⟨rfl, rfl, rfl, by decide +kernel, rfl, by decide +kernel, by decide +kernel⟩
theorem sc_law_digits : FnScope ["_law_cell_here", "_law_k", "_law_most", "_law_digits_here", "_law_turn", "_law_seed"] ["_law_cell_here", "_law_k", "_law_most"] (defScope s_law_digits) := ⟨rfl, rfl, rfl, by decide +kernel, rfl, by decide +kernel, by decide +kernel⟩
theorem sc_law_padded : FnScope ["_law_cell_here", "_law_k", "_law_d", "_law_turn"] ["_law_cell_here", "_law_k"] (defScope s_law_padded) := ⟨rfl, rfl, rfl, by decide +kernel, rfl, by decide +kernel, by decide +kernel⟩
theorem sc_law_text : FnScope ["_law_d", "_law_words", "_law_text_here", "_law_j"] ["_law_d"] (defScope s_law_text) := ⟨rfl, rfl, rfl, by decide +kernel, rfl, by decide +kernel, by decide +kernel⟩
theorem sc_law_endings : FnScope ["_law_script"] ["_law_script"] (defScope s_law_endings) := ⟨rfl, rfl, rfl, by decide +kernel, rfl, by decide +kernel, by decide +kernel⟩
theorem sc_law_change : FnScope ["_law_cell_here", "_law_k", "_law_d", "_law_time", "_law_key"] ["_law_cell_here", "_law_k"] (defScope s_law_change) := ⟨rfl, rfl, rfl, by decide +kernel, rfl, by decide +kernel, by decide +kernel⟩
theorem sc_law_changes : FnScope ["_law_script", "_law_first", "_law_most", "_law_found", "_law_k"] ["_law_script", "_law_first", "_law_most"] (defScope s_law_changes) := ⟨rfl, rfl, rfl, by decide +kernel, rfl, by decide +kernel, by decide +kernel⟩
theorem sc_law_pattern : FnScope ["_law_digit", "_law_words"] ["_law_digit"] (defScope s_law_pattern) := ⟨rfl, rfl, rfl, by decide +kernel, rfl, by decide +kernel, by decide +kernel⟩
theorem sc_law_row : FnScope ["_law_d", "_law_patterns", "_law_j"] ["_law_d"] (defScope s_law_row) := ⟨rfl, rfl, rfl, by decide +kernel, rfl, by decide +kernel, by decide +kernel⟩
theorem sc_law_question : FnScope ["_law_script", "_law_k", "_law_d", "_law_one", "_law_other", "_law_kind"] ["_law_script", "_law_k"] (defScope s_law_question) := ⟨rfl, rfl, rfl, by decide +kernel, rfl, by decide +kernel, by decide +kernel⟩
theorem sc_law_read : FnScope ["_law_index", "_law_question_here", "_law_words", "_law_pattern_here", "_law_word", "_law_count"] ["_law_index", "_law_question_here"] (defScope s_law_read) := ⟨rfl, rfl, rfl, by decide +kernel, rfl, by decide +kernel, by decide +kernel⟩
theorem sc_law : FnScope ["_law_script", "_law_index", "_law_turn", "_law_change_here", "_law_question_here", "_law_pattern_here", "_law_word"] ["_law_script"] (defScope s_law) := ⟨rfl, rfl, rfl, by decide +kernel, rfl, by decide +kernel, by decide +kernel⟩
end Tsf
/-! the structure Tx from the head's facts (printed by gen_tx.py) -/
namespace Tsf
open PySem PySem.Spec PyProof.Rows L2
theorem tx_of {K : PySem.W.Frag} {h : Heap} {mg : Str → Option Value} (X : K.In h) (G : h.Ns mainGlobals mg) (c : He.SaysD fa fn K) : Tx K mg where
  g_fits := He.glo_ok X G (c.fact 0 (f := .glo "fits") rfl)
  g_first_standing := He.glo_ok X G (c.fact 1 (f := .glo "first_standing") rfl)
  g_matches := He.glo_ok X G (c.fact 2 (f := .glo "matches") rfl)
  g_is_in := He.glo_ok X G (c.fact 3 (f := .glo "is_in") rfl)
  g_combined := He.glo_ok X G (c.fact 4 (f := .glo "_combined") rfl)
  g_join := He.glo_ok X G (c.fact 5 (f := .glo "join") rfl)
  g_of_span := He.glo_ok X G (c.fact 6 (f := .glo "of_span") rfl)
  g_needs_all := He.glo_ok X G (c.fact 7 (f := .glo "needs_all") rfl)
  g_pattern_places := He.glo_ok X G (c.fact 8 (f := .glo "pattern_places") rfl)
  g_last_from := He.glo_ok X G (c.fact 9 (f := .glo "last_from") rfl)
  g_row_matches := He.glo_ok X G (c.fact 10 (f := .glo "row_matches") rfl)
  g_version_matches := He.glo_ok X G (c.fact 11 (f := .glo "version_matches") rfl)
  g_answer_by := He.glo_ok X G (c.fact 12 (f := .glo "answer_by") rfl)
  g_places_of := He.glo_ok X G (c.fact 13 (f := .glo "places_of") rfl)
  g_words_with_places := He.glo_ok X G (c.fact 14 (f := .glo "words_with_places") rfl)
  g_postings_of := He.glo_ok X G (c.fact 15 (f := .glo "postings_of") rfl)
  g_words_of := He.glo_ok X G (c.fact 16 (f := .glo "words_of") rfl)
  g_cut := He.glo_ok X G (c.fact 17 (f := .glo "cut") rfl)
  g_document_of := He.glo_ok X G (c.fact 18 (f := .glo "document_of") rfl)
  g_all_patterns := He.glo_ok X G (c.fact 19 (f := .glo "_all_patterns") rfl)
  g_patterns_of := He.glo_ok X G (c.fact 20 (f := .glo "patterns_of") rfl)
  g_is_key := He.glo_ok X G (c.fact 21 (f := .glo "_is_key") rfl)
  g_is_text := He.glo_ok X G (c.fact 22 (f := .glo "_is_text") rfl)
  g_check_change := He.glo_ok X G (c.fact 23 (f := .glo "check_change") rfl)
  g_counted := He.glo_ok X G (c.fact 24 (f := .glo "counted") rfl)
  g_without := He.glo_ok X G (c.fact 25 (f := .glo "without") rfl)
  g_law_cell := He.glo_ok X G (c.fact 26 (f := .glo "_law_cell") rfl)
  g_law_digits := He.glo_ok X G (c.fact 27 (f := .glo "_law_digits") rfl)
  g_law_padded := He.glo_ok X G (c.fact 28 (f := .glo "_law_padded") rfl)
  g_law_text := He.glo_ok X G (c.fact 29 (f := .glo "_law_text") rfl)
  g_law_endings := He.glo_ok X G (c.fact 30 (f := .glo "_law_endings") rfl)
  g_law_change := He.glo_ok X G (c.fact 31 (f := .glo "_law_change") rfl)
  g_law_changes := He.glo_ok X G (c.fact 32 (f := .glo "_law_changes") rfl)
  g_law_pattern := He.glo_ok X G (c.fact 33 (f := .glo "_law_pattern") rfl)
  g_law_row := He.glo_ok X G (c.fact 34 (f := .glo "_law_row") rfl)
  g_law_question := He.glo_ok X G (c.fact 35 (f := .glo "_law_question") rfl)
  g_law_read := He.glo_ok X G (c.fact 36 (f := .glo "_law_read") rfl)
  g_law := He.glo_ok X G (c.fact 37 (f := .glo "law") rfl)
  g_Shelf := He.glo_ok X G (c.fact 38 (f := .glo "Shelf") rfl)
  g_Index := He.glo_ok X G (c.fact 39 (f := .glo "Index") rfl)
  i_WORD_LENGTH := He.int_ok X G (c.fact 40 (f := .int "WORD_LENGTH" 12) rfl)
  i_MOST_TIME := He.int_ok X G (c.fact 41 (f := .int "MOST_TIME" 100000) rfl)
  i_MOST_KEY := He.int_ok X G (c.fact 42 (f := .int "MOST_KEY" 8) rfl)
  i_MOST_TEXT := He.int_ok X G (c.fact 43 (f := .int "MOST_TEXT" 400) rfl)
  i_MOST_CHANGES := He.int_ok X G (c.fact 44 (f := .int "MOST_CHANGES" 80) rfl)
  i_MOST_KEYS := He.int_ok X G (c.fact 45 (f := .int "MOST_KEYS" 12) rfl)
  i_SMALLS := He.str_ok X G (c.fact 46 (f := .str "SMALLS" "abcdefghijklmnopqrstuvwxyz") rfl)
  i_CAPITALS := He.str_ok X G (c.fact 47 (f := .str "CAPITALS" "ABCDEFGHIJKLMNOPQRSTUVWXYZ") rfl)
  i_DIGITS := He.str_ok X G (c.fact 48 (f := .str "DIGITS" "0123456789") rfl)
  z_len := He.free_ok X G (c.fact 49 (f := .free "len") rfl)
  z_range := He.free_ok X G (c.fact 50 (f := .free "range") rfl)
  z_sorted := He.free_ok X G (c.fact 51 (f := .free "sorted") rfl)
  z_list := He.free_ok X G (c.fact 52 (f := .free "list") rfl)
  z_tuple := He.free_ok X G (c.fact 53 (f := .free "tuple") rfl)
  z_all := He.free_ok X G (c.fact 54 (f := .free "all") rfl)
  z_any := He.free_ok X G (c.fact 55 (f := .free "any") rfl)
  z_min := He.free_ok X G (c.fact 56 (f := .free "min") rfl)
  z_max := He.free_ok X G (c.fact 57 (f := .free "max") rfl)
  z_isinstance := He.free_ok X G (c.fact 58 (f := .free "isinstance") rfl)
  z_int := He.free_ok X G (c.fact 59 (f := .free "int") rfl)
  z_str := He.free_ok X G (c.fact 60 (f := .free "str") rfl)
  z_bool := He.free_ok X G (c.fact 61 (f := .free "bool") rfl)
  z_ord := He.free_ok X G (c.fact 62 (f := .free "ord") rfl)
  z_sum := He.free_ok X G (c.fact 63 (f := .free "sum") rfl)
  c_Shelf := He.cls_ok (c.fact 64 (f := .cls "Shelf") rfl)
  c_Index := He.cls_ok (c.fact 65 (f := .cls "Index") rfl)
  n_Shelf_endings := He.noat_ok (c.fact 66 (f := .noat "Shelf" "_endings") rfl)
  n_Shelf_changes := He.noat_ok (c.fact 67 (f := .noat "Shelf" "_changes") rfl)
  n_Index_told := He.noat_ok (c.fact 68 (f := .noat "Index" "told") rfl)
  n_Index_places := He.noat_ok (c.fact 69 (f := .noat "Index" "places") rfl)
  n_Index_by_word := He.noat_ok (c.fact 70 (f := .noat "Index" "by_word") rfl)
  n_Index_last := He.noat_ok (c.fact 71 (f := .noat "Index" "last") rfl)
  m_Shelf_endings := He.meth_ok (c.fact 72 (f := .meth "Shelf" "endings") rfl)
  m_Shelf_changes := He.meth_ok (c.fact 73 (f := .meth "Shelf" "changes") rfl)
  m_Shelf_known_keys := He.meth_ok (c.fact 74 (f := .meth "Shelf" "known_keys") rfl)
  m_Shelf_tell := He.meth_ok (c.fact 75 (f := .meth "Shelf" "tell") rfl)
  m_Shelf_history := He.meth_ok (c.fact 76 (f := .meth "Shelf" "history") rfl)
  m_Shelf_plain_answer := He.meth_ok (c.fact 77 (f := .meth "Shelf" "plain_answer") rfl)
  m_Index_tell := He.meth_ok (c.fact 78 (f := .meth "Index" "tell") rfl)
  m_Index_take_out := He.meth_ok (c.fact 79 (f := .meth "Index" "take_out") rfl)
  m_Index_shelf := He.meth_ok (c.fact 80 (f := .meth "Index" "shelf") rfl)
  m_Index_versions := He.meth_ok (c.fact 81 (f := .meth "Index" "versions") rfl)
  m_Index_words := He.meth_ok (c.fact 82 (f := .meth "Index" "words") rfl)
  m_Index_postings := He.meth_ok (c.fact 83 (f := .meth "Index" "postings") rfl)
  m_Index_words_for := He.meth_ok (c.fact 84 (f := .meth "Index" "words_for") rfl)
  m_Index_wanted := He.meth_ok (c.fact 85 (f := .meth "Index" "wanted") rfl)
  m_Index_versions_for := He.meth_ok (c.fact 86 (f := .meth "Index" "versions_for") rfl)
  m_Index_answer := He.meth_ok (c.fact 87 (f := .meth "Index" "answer") rfl)
  m_Index_read := He.meth_ok (c.fact 88 (f := .meth "Index" "read") rfl)
  k_Shelf := He.mkr_ok (c.fact 89 (f := .mkr "Shelf") rfl)
  k_Index := He.mkr_ok (c.fact 90 (f := .mkr "Index") rfl)
  d_fits := c.def_ 0 (d := d_fits) rfl
  d_first_standing := c.def_ 1 (d := d_first_standing) rfl
  d_matches := c.def_ 2 (d := d_matches) rfl
  d_is_in := c.def_ 3 (d := d_is_in) rfl
  d_combined := c.def_ 4 (d := d_combined) rfl
  d_join := c.def_ 5 (d := d_join) rfl
  d_of_span := c.def_ 6 (d := d_of_span) rfl
  d_needs_all := c.def_ 7 (d := d_needs_all) rfl
  d_pattern_places := c.def_ 8 (d := d_pattern_places) rfl
  d_last_from := c.def_ 9 (d := d_last_from) rfl
  d_row_matches := c.def_ 10 (d := d_row_matches) rfl
  d_version_matches := c.def_ 11 (d := d_version_matches) rfl
  d_answer_by := c.def_ 12 (d := d_answer_by) rfl
  d_places_of := c.def_ 13 (d := d_places_of) rfl
  d_words_with_places := c.def_ 14 (d := d_words_with_places) rfl
  d_postings_of := c.def_ 15 (d := d_postings_of) rfl
  d_words_of := c.def_ 16 (d := d_words_of) rfl
  d_cut := c.def_ 17 (d := d_cut) rfl
  d_document_of := c.def_ 18 (d := d_document_of) rfl
  d_all_patterns := c.def_ 19 (d := d_all_patterns) rfl
  d_patterns_of := c.def_ 20 (d := d_patterns_of) rfl
  d_is_key := c.def_ 21 (d := d_is_key) rfl
  d_is_text := c.def_ 22 (d := d_is_text) rfl
  d_check_change := c.def_ 23 (d := d_check_change) rfl
  d_counted := c.def_ 24 (d := d_counted) rfl
  d_Shelf_init := c.def_ 25 (d := d_Shelf_init) rfl
  d_Shelf_endings := c.def_ 26 (d := d_Shelf_endings) rfl
  d_Shelf_changes := c.def_ 27 (d := d_Shelf_changes) rfl
  d_Shelf_known_keys := c.def_ 28 (d := d_Shelf_known_keys) rfl
  d_Shelf_tell := c.def_ 29 (d := d_Shelf_tell) rfl
  d_Shelf_history := c.def_ 30 (d := d_Shelf_history) rfl
  d_Shelf_plain_answer := c.def_ 31 (d := d_Shelf_plain_answer) rfl
  d_without := c.def_ 32 (d := d_without) rfl
  d_Index_init := c.def_ 33 (d := d_Index_init) rfl
  d_Index_tell := c.def_ 34 (d := d_Index_tell) rfl
  d_Index_take_out := c.def_ 35 (d := d_Index_take_out) rfl
  d_Index_shelf := c.def_ 36 (d := d_Index_shelf) rfl
  d_Index_versions := c.def_ 37 (d := d_Index_versions) rfl
  d_Index_words := c.def_ 38 (d := d_Index_words) rfl
  d_Index_postings := c.def_ 39 (d := d_Index_postings) rfl
  d_Index_words_for := c.def_ 40 (d := d_Index_words_for) rfl
  d_Index_wanted := c.def_ 41 (d := d_Index_wanted) rfl
  d_Index_versions_for := c.def_ 42 (d := d_Index_versions_for) rfl
  d_Index_answer := c.def_ 43 (d := d_Index_answer) rfl
  d_Index_read := c.def_ 44 (d := d_Index_read) rfl
  d_law_cell := c.def_ 45 (d := d_law_cell) rfl
  d_law_digits := c.def_ 46 (d := d_law_digits) rfl
  d_law_padded := c.def_ 47 (d := d_law_padded) rfl
  d_law_text := c.def_ 48 (d := d_law_text) rfl
  d_law_endings := c.def_ 49 (d := d_law_endings) rfl
  d_law_change := c.def_ 50 (d := d_law_change) rfl
  d_law_changes := c.def_ 51 (d := d_law_changes) rfl
  d_law_pattern := c.def_ 52 (d := d_law_pattern) rfl
  d_law_row := c.def_ 53 (d := d_law_row) rfl
  d_law_question := c.def_ 54 (d := d_law_question) rfl
  d_law_read := c.def_ 55 (d := d_law_read) rfl
  d_law := c.def_ 56 (d := d_law) rfl
end Tsf
/-! DATA THAT NEVER CHANGE (None, ints, texts, tuples of these), read off the abstract heap; ==, !=, in, sorted of them. -/
namespace Tsf
open PySem PySem.Spec PyProof.Rows L2
/-- tuples stay -/
def Tk (H H' : Hp) : Prop := ∀ b xs, H b = some (.tup xs) → H' b = some (.tup xs)
theorem Tk.refl (H : Hp) : Tk H H := fun _ _ h => h
theorem Tk.trans {H H1 H2 : Hp} (a : Tk H H1) (b : Tk H1 H2) : Tk H H2 := fun c o h => b c o (a c o h)
theorem tk_same {H H' : Hp} (h : Same H H') : Tk H H' := fun b xs e => h b _ e
theorem tk_new {H : Hp} {p : Addr} {o : HO} (h : H p = none) : Tk H (upd H p o) := fun b xs e => by
  rw [upd_ne (ne_of_none e h)]; exact e
theorem same_new {H : Hp} {p : Addr} {o : HO} (h : H p = none) : Same H (upd H p o) := fun b u e => by
  rw [upd_ne (ne_of_none e h)]; exact e
/-- an object that is no tuple is changed -/
theorem tk_put {H : Hp} {p : Addr} {o u : HO} (h : H p = some u) (hu : ∀ xs, u ≠ .tup xs) : Tk H (upd H p o) := fun b xs e => by
  by_cases q : b = p
  · subst q; rw [h] at e; exact absurd (Option.some.inj e) (hu xs)
  · rw [upd_ne q]; exact e
mutual
inductive Dt (H : Hp) : V → PyData → Prop
  | non : Dt H .non .none
  | int (i : Int) : Dt H (.int i) (.int i)
  | str (x : Str) (ok : PyData.strOk x = true) : Dt H (.str x) (.str x)
  | tup {a : Addr} {xs : List V} {ds : List PyData} : H a = some (.tup xs) → DtAll H xs ds → Dt H (.ref a) (.tuple ds)
inductive DtAll (H : Hp) : List V → List PyData → Prop
  | nil : DtAll H [] []
  | cons {v : V} {vs : List V} {d : PyData} {ds : List PyData} : Dt H v d → DtAll H vs ds → DtAll H (v :: vs) (d :: ds)
end
mutual
theorem Dt.tk {H H' : Hp} (k : Tk H H') : ∀ {d : PyData} {v : V}, Dt H v d → Dt H' v d
  | .none, _, h => by cases h; exact .non
  | .int _, _, h => by cases h; exact .int _
  | .str _, _, h => by cases h with | str _ ok => exact .str _ ok
  | .tuple ds, _, h => by
    cases h with
    | tup h1 h2 => exact .tup (k _ _ h1) (DtAll.tk k h2)
  | .bool _, _, h => by cases h
  | .list _, _, h => by cases h
  | .dict _, _, h => by cases h
theorem DtAll.tk {H H' : Hp} (k : Tk H H') : ∀ {ds : List PyData} {vs : List V}, DtAll H vs ds → DtAll H' vs ds
  | [], _, h => by cases h; exact .nil
  | d :: ds, _, h => by
    cases h with
    | cons h1 h2 => exact .cons (Dt.tk k h1) (DtAll.tk k h2)
end
mutual
theorem Dt.dp {K : PySem.W.Frag} {H : Hp} : ∀ {d : PyData} {v : V}, Dt H v d → Dp K H v d
  | .none, _, h => by cases h; exact .non
  | .int _, _, h => by cases h; exact .int _
  | .str _, _, h => by cases h; exact .str _
  | .tuple ds, _, h => by
    cases h with
    | tup h1 h2 => exact .tup (SqT.of h1) (DtAll.dp h2)
  | .bool _, _, h => by cases h
  | .list _, _, h => by cases h
  | .dict _, _, h => by cases h
theorem DtAll.dp {K : PySem.W.Frag} {H : Hp} : ∀ {ds : List PyData} {vs : List V}, DtAll H vs ds → DpAll K H vs ds
  | [], _, h => by cases h; exact .nil
  | d :: ds, _, h => by
    cases h with
    | cons h1 h2 => exact .cons (Dt.dp h1) (DtAll.dp h2)
end
mutual
theorem Dt.inj {H : Hp} : ∀ {d : PyData} {v : V} {e : PyData}, Dt H v d → Dt H v e → d = e
  | .none, _, _, h, h' => by cases h; cases h'; rfl
  | .int _, _, _, h, h' => by cases h; cases h'; rfl
  | .str _, _, _, h, h' => by cases h; cases h'; rfl
  | .tuple ds, _, _, h, h' => by
    cases h with
    | tup h1 h2 =>
      cases h' with
      | tup k1 k2 =>
        rw [h1] at k1
        cases Option.some.inj k1
        rw [DtAll.inj h2 k2]
  | .bool _, _, _, h, _ => by cases h
  | .list _, _, _, h, _ => by cases h
  | .dict _, _, _, h, _ => by cases h
theorem DtAll.inj {H : Hp} : ∀ {ds : List PyData} {vs : List V} {es : List PyData}, DtAll H vs ds → DtAll H vs es → ds = es
  | [], _, _, h, h' => by cases h; cases h'; rfl
  | d :: ds, _, _, h, h' => by
    cases h with
    | cons h1 h2 =>
      cases h' with
      | cons k1 k2 => rw [Dt.inj h1 k1, DtAll.inj h2 k2]
end
mutual
theorem Dt.lay {H : Hp} : ∀ {d : PyData} {v : V}, Dt H v d → d.canLay0 = true
  | .none, _, _ => by simp [PyData.canLay0]
  | .int _, _, _ => by simp [PyData.canLay0]
  | .str x, _, h => by cases h with | str x ok => simpa [PyData.canLay0] using ok
  | .tuple ds, _, h => by
    cases h with
    | tup h1 h2 => simpa [PyData.canLay0] using DtAll.lay h2
  | .bool _, _, h => by cases h
  | .list _, _, h => by cases h
  | .dict _, _, h => by cases h
theorem DtAll.lay {H : Hp} : ∀ {ds : List PyData} {vs : List V}, DtAll H vs ds → PyData.canLayAll0 ds = true
  | [], _, _ => by simp [PyData.canLayAll0]
  | d :: ds, _, h => by
    cases h with
    | cons h1 h2 => simp [PyData.canLayAll0, Dt.lay h1, DtAll.lay h2]
end
mutual
/-- equal by Python's == exactly if equal -/
theorem eqv_iff {H H' : Hp} : ∀ {d e : PyData} {v u : V}, Dt H v d → Dt H' u e → (PyData.eqv d e = true ↔ d = e)
  | .none, e, _, _, h, h' => by cases h; cases h' <;> simp [PyData.eqv]
  | .int _, e, _, _, h, h' => by cases h; cases h' <;> simp [PyData.eqv]
  | .str _, e, _, _, h, h' => by cases h; cases h' <;> simp [PyData.eqv]
  | .tuple ds, e, _, _, h, h' => by
    cases h with
    | tup h1 h2 =>
      cases h' with
      | tup k1 k2 =>
        show (PyData.eqvAll ds _ = true ↔ _)
        rw [eqvAll_iff h2 k2, PyData.tuple.injEq]
      | _ => simp [PyData.eqv]
  | .bool _, _, _, _, h, _ => by cases h
  | .list _, _, _, _, h, _ => by cases h
  | .dict _, _, _, _, h, _ => by cases h
theorem eqvAll_iff {H H' : Hp} : ∀ {ds es : List PyData} {vs us : List V}, DtAll H vs ds → DtAll H' us es → (PyData.eqvAll ds es = true ↔ ds = es)
  | [], es, _, _, h, h' => by cases h; cases h' <;> simp [PyData.eqvAll]
  | d :: ds, es, _, _, h, h' => by
    cases h with
    | cons h1 h2 =>
      cases h' with
      | nil => simp [PyData.eqvAll]
      | cons k1 k2 =>
        show ((PyData.eqv d _ && PyData.eqvAll ds _) = true ↔ _)
        rw [Bool.and_eq_true, eqv_iff h1 k1, eqvAll_iff h2 k2, List.cons.injEq]
end
/-! ### rows -/
theorem DtAll.length {H : Hp} : ∀ {vs : List V} {ds : List PyData}, DtAll H vs ds → vs.length = ds.length
  | [], _, h => by cases h; rfl
  | v :: vs, _, h => by cases h with | cons h1 h2 => rw [List.length_cons, List.length_cons, DtAll.length h2]
theorem DtAll.get {H : Hp} : ∀ {vs : List V} {ds : List PyData} {i : Nat} {v : V}, DtAll H vs ds → vs[i]? = some v → ∃ d, ds[i]? = some d ∧ Dt H v d
  | [], _, i, v, _, e => by simp at e
  | u :: vs, _, 0, v, h, e => by
    cases h with
    | cons h1 h2 =>
      cases Option.some.inj (show some u = some v from e)
      exact ⟨_, rfl, h1⟩
  | u :: vs, _, i + 1, v, h, e => by
    cases h with
    | cons h1 h2 =>
      obtain ⟨d, e1, e2⟩ := DtAll.get h2 (show vs[i]? = some v from by simpa using e)
      exact ⟨d, by simpa using e1, e2⟩
theorem DtAll.at {H : Hp} : ∀ {vs : List V} {ds : List PyData} {i : Nat} {d : PyData}, DtAll H vs ds → ds[i]? = some d → ∃ v, vs[i]? = some v ∧ Dt H v d
  | _, [], i, v, _, e => by simp at e
  | _, u :: ds, 0, v, h, e => by
    cases h with
    | cons h1 h2 =>
      cases Option.some.inj (show some u = some v from e)
      exact ⟨_, rfl, h1⟩
  | _, u :: ds, i + 1, v, h, e => by
    cases h with
    | cons h1 h2 =>
      obtain ⟨d, e1, e2⟩ := DtAll.at h2 (show ds[i]? = some v from by simpa using e)
      exact ⟨d, by simpa using e1, e2⟩
theorem DtAll.append {H : Hp} : ∀ {vs ws : List V} {ds es : List PyData}, DtAll H vs ds → DtAll H ws es → DtAll H (vs ++ ws) (ds ++ es)
  | [], _, _, _, h, h' => by cases h; exact h'
  | v :: vs, _, _, _, h, h' => by cases h with | cons h1 h2 => exact .cons h1 (DtAll.append h2 h')
theorem DtAll.snoc {H : Hp} {vs : List V} {ds : List PyData} {v : V} {d : PyData} (h : DtAll H vs ds) (h' : Dt H v d) : DtAll H (vs ++ [v]) (ds ++ [d]) := h.append (.cons h' .nil)
theorem DtAll.take {H : Hp} : ∀ {vs : List V} {ds : List PyData} (n : Nat), DtAll H vs ds → DtAll H (vs.take n) (ds.take n)
  | _, _, 0, _ => by simp; exact .nil
  | [], _, n + 1, h => by cases h; simp; exact .nil
  | v :: vs, _, n + 1, h => by cases h with | cons h1 h2 => exact .cons h1 (DtAll.take n h2)
theorem DtAll.drop {H : Hp} : ∀ {vs : List V} {ds : List PyData} (n : Nat), DtAll H vs ds → DtAll H (vs.drop n) (ds.drop n)
  | _, _, 0, h => h
  | [], _, n + 1, h => by cases h; simp; exact .nil
  | v :: vs, _, n + 1, h => by cases h with | cons h1 h2 => exact DtAll.drop n h2
theorem DtAll.set {H : Hp} : ∀ {vs : List V} {ds : List PyData} (n : Nat) {v : V} {d : PyData}, DtAll H vs ds → Dt H v d → DtAll H (vs.set n v) (ds.set n d)
  | [], _, _, _, _, h, _ => by cases h; simp; exact .nil
  | u :: vs, _, 0, _, _, h, h' => by cases h with | cons h1 h2 => exact .cons h' h2
  | u :: vs, _, n + 1, _, _, h, h' => by cases h with | cons h1 h2 => exact .cons h1 (DtAll.set n h2 h')
theorem dtAll_ints {H : Hp} : ∀ (ns : List Int), DtAll H (ns.map V.int) (ns.map PyData.int)
  | [] => .nil
  | n :: ns => .cons (.int n) (dtAll_ints ns)
theorem dtAll_ints_inv {H : Hp} : ∀ {ns : List Int} {vs : List V}, DtAll H vs (ns.map PyData.int) → vs = ns.map V.int
  | [], _, h => by cases h; rfl
  | n :: ns, _, h => by
    cases h with
    | cons h1 h2 => cases h1; rw [dtAll_ints_inv h2, List.map_cons]
theorem dtAll_strs {H : Hp} : ∀ {ns : List Str}, (∀ x ∈ ns, PyData.strOk x = true) → DtAll H (ns.map V.str) (ns.map PyData.str)
  | [], _ => .nil
  | n :: ns, h => .cons (.str n (h n (List.mem_cons_self ..))) (dtAll_strs fun x hx => h x (List.mem_cons_of_mem _ hx))
theorem dtAll_strs_inv {H : Hp} : ∀ {ns : List Str} {vs : List V}, DtAll H vs (ns.map PyData.str) → vs = ns.map V.str ∧ ∀ x ∈ ns, PyData.strOk x = true
  | [], _, h => by cases h; exact ⟨rfl, fun x hx => absurd hx (by simp)⟩
  | n :: ns, _, h => by
    cases h with
    | cons h1 h2 =>
      cases h1 with
      | str _ ok =>
        obtain ⟨e1, e2⟩ := dtAll_strs_inv h2
        refine ⟨by rw [e1, List.map_cons], fun x hx => ?_⟩
        rcases List.mem_cons.mp hx with rfl | hx
        · exact ok
        · exact e2 x hx
/-- a row of items that stand for things -/
theorem dtAll_map {α : Type} {H : Hp} {f : α → PyData} {g : α → V} : ∀ {l : List α}, (∀ x ∈ l, Dt H (g x) (f x)) → DtAll H (l.map g) (l.map f)
  | [], _ => .nil
  | x :: l, h => .cons (h x (List.mem_cons_self ..)) (dtAll_map fun y hy => h y (List.mem_cons_of_mem _ hy))
/-- where the data are known as e x for x in l: the item at a place -/
theorem DtAll.mget {α : Type} {H : Hp} {e : α → PyData} {l : List α} {vs : List V} {i : Nat} {v : V} (h : DtAll H vs (l.map e)) (hv : vs[i]? = some v) : ∃ x, l[i]? = some x ∧ Dt H v (e x) := by
  obtain ⟨d, h1, h2⟩ := h.get hv
  rw [List.getElem?_map] at h1
  cases q : l[i]? with
  | none => rw [q] at h1; cases h1
  | some x =>
    rw [q] at h1
    cases Option.some.inj (show some (e x) = some d from h1)
    exact ⟨x, rfl, h2⟩
theorem DtAll.mat {α : Type} {H : Hp} {e : α → PyData} {l : List α} {vs : List V} {i : Nat} {x : α} (h : DtAll H vs (l.map e)) (hx : l[i]? = some x) : ∃ v, vs[i]? = some v ∧ Dt H v (e x) :=
  h.at (by rw [List.getElem?_map, hx]; rfl)
theorem DtAll.mem {H : Hp} : ∀ {vs : List V} {ds : List PyData} {v : V}, DtAll H vs ds → v ∈ vs → ∃ d ∈ ds, Dt H v d
  | [], _, _, _, h => by cases h
  | u :: vs, _, v, h, hv => by
    cases h with
    | cons h1 h2 =>
      rcases List.mem_cons.mp hv with rfl | hv
      · exact ⟨_, List.mem_cons_self .., h1⟩
      · obtain ⟨d, e1, e2⟩ := DtAll.mem h2 hv
        exact ⟨d, List.mem_cons_of_mem _ e1, e2⟩
/-! ### tuples of a written length -/
section
variable {H : Hp} {v : V}
theorem Dt.t1 {d : PyData} (h : Dt H v (.tuple [d])) : ∃ a x, v = .ref a ∧ H a = some (.tup [x]) ∧ Dt H x d := by
  cases h with
  | tup h1 h2 => cases h2 with | cons a h2 => cases h2; exact ⟨_, _, rfl, h1, a⟩
theorem Dt.t2 {d e : PyData} (h : Dt H v (.tuple [d, e])) : ∃ a x y, v = .ref a ∧ H a = some (.tup [x, y]) ∧ Dt H x d ∧ Dt H y e := by
  cases h with
  | tup h1 h2 => cases h2 with | cons a h2 => cases h2 with | cons b h2 => cases h2; exact ⟨_, _, _, rfl, h1, a, b⟩
theorem Dt.t3 {d e f : PyData} (h : Dt H v (.tuple [d, e, f])) : ∃ a x y z, v = .ref a ∧ H a = some (.tup [x, y, z]) ∧ Dt H x d ∧ Dt H y e ∧ Dt H z f := by
  cases h with
  | tup h1 h2 => cases h2 with | cons a h2 => cases h2 with | cons b h2 => cases h2 with | cons c h2 => cases h2; exact ⟨_, _, _, _, rfl, h1, a, b, c⟩
theorem Dt.t5 {d e f g i : PyData} (h : Dt H v (.tuple [d, e, f, g, i])) : ∃ a x y z u w, v = .ref a ∧ H a = some (.tup [x, y, z, u, w]) ∧ Dt H x d ∧ Dt H y e ∧ Dt H z f ∧ Dt H u g ∧ Dt H w i := by
  cases h with
  | tup h1 h2 => cases h2 with | cons a h2 => cases h2 with | cons b h2 => cases h2 with | cons c h2 => cases h2 with | cons d h2 => cases h2 with | cons e h2 => cases h2; exact ⟨_, _, _, _, _, _, rfl, h1, a, b, c, d, e⟩
theorem Dt.tupN {ds : List PyData} (h : Dt H v (.tuple ds)) : ∃ a xs, v = .ref a ∧ H a = some (.tup xs) ∧ DtAll H xs ds := by
  cases h with
  | tup h1 h2 => exact ⟨_, _, rfl, h1, h2⟩
theorem Dt.int_inv {i : Int} (h : Dt H v (.int i)) : v = .int i := by cases h; rfl
theorem Dt.str_inv {i : Str} (h : Dt H v (.str i)) : v = .str i ∧ PyData.strOk i = true := by cases h with | str _ ok => exact ⟨rfl, ok⟩
theorem Dt.non_inv (h : Dt H v .none) : v = .non := by cases h; rfl
end
/-! ### ==, !=, in, not in -/
section
variable {X : Cx}
def rEqT : R2 := fun x y H Q => ∃ d e, Dt H x d ∧ Dt H y e ∧ d.depth ≤ 64 ∧ e.depth ≤ 64 ∧ Q (.bl (PyData.eqv d e)) H
def rNeT : R2 := fun x y H Q => ∃ d e, Dt H x d ∧ Dt H y e ∧ d.depth ≤ 64 ∧ e.depth ≤ 64 ∧ Q (.bl (!PyData.eqv d e)) H
theorem shaped_dt {H : Hp} {v : V} {d : PyData} (h : Dt H v d) (hd : d.depth ≤ 64) : SeqAt.shaped d = true := by
  unfold SeqAt.shaped
  rw [h.lay, Bool.true_and, decide_eq_true_eq]
  exact hd
theorem op_eqT (hu : X.A.units + 64 < cLine) : OpR X (compareOp .Eq) rEqT := by
  intro pins s σ H x y v u Q I rx ry h
  obtain ⟨d, e, hd, he, d1, d2, q⟩ := h
  exact op_eqD hu pins s σ H x y v u Q I rx ry ⟨d, e, hd.dp, he.dp, shaped_dt hd d1, shaped_dt he d2, q⟩
theorem op_neT (hu : X.A.units + 64 < cLine) : OpR X (compareOp .NotEq) rNeT := by
  intro pins s σ H x y v u Q I rx ry h
  obtain ⟨d, e, hd, he, d1, d2, q⟩ := h
  exact op_neD hu pins s σ H x y v u Q I rx ry ⟨d, e, hd.dp, he.dp, shaped_dt hd d1, shaped_dt he d2, q⟩
/-- x not in a list of data -/
def rNotInT (K : PySem.W.Frag) : R2 := fun x y H Q => ∃ a xs d ds, y = .ref a ∧ SqL K H a xs ∧ DtAll H xs ds ∧ Dt H x d ∧ d.depth ≤ 64 ∧ (∀ z ∈ ds, z.depth ≤ 60) ∧ Q (.bl (!ds.any fun z => PyData.eqv z d)) H
theorem depthAll_le {n : Nat} : ∀ {ds : List PyData}, (∀ z ∈ ds, z.depth ≤ n) → PyData.depthAll ds ≤ n
  | [], _ => by simp [PyData.depthAll]
  | d :: ds, h => by
    rw [PyData.depthAll]
    exact Nat.max_le.mpr ⟨h d (List.mem_cons_self ..), depthAll_le fun z hz => h z (List.mem_cons_of_mem _ hz)⟩
theorem op_notInT (hu : X.A.units + 65 < cLine) : OpR X (compareOp .NotIn) (rNotInT X.K) := by
  intro pins s σ H x y v u Q I rx ry h
  obtain ⟨a, xs, d, ds, rfl, hs, hds, hd, d1, d2, q⟩ := h
  refine op_notInD hu pins s σ H x (.ref a) v u Q I rx ry ⟨d, ds, hd.dp, .lst hs hds.dp, shaped_dt hd d1, ?_, q⟩
  unfold SeqAt.shaped
  have e1 : (PyData.list ds).canLay0 = true := by simpa [PyData.canLay0] using hds.lay
  have e2 : (PyData.list ds).depth ≤ 64 := by
    have := depthAll_le d2
    simp only [PyData.depth]
    omega
  rw [e1, Bool.true_and, decide_eq_true_eq]
  exact e2
end
end Tsf
/-! sorted(..) of tuples, any number of them, where the first places that differ are ints or texts; sorted(d) of dicts of any size. -/
namespace Tsf
open PySem PySem.Spec PyProof.Rows L2
/-- two rows of data of one length: the first places that differ decide, and they are ints or texts -/
inductive LexD : List PyData → List PyData → Bool → Prop
  | nil : LexD [] [] false
  | yes {x : PyData} {xs ys : List PyData} {b : Bool} : LexD xs ys b → LexD (x :: xs) (x :: ys) b
  | int {i j : Int} {xs ys : List PyData} : i ≠ j → xs.length = ys.length → LexD (.int i :: xs) (.int j :: ys) (decide (i < j))
  | str {x y : Str} {xs ys : List PyData} : x ≠ y → xs.length = ys.length → LexD (.str x :: xs) (.str y :: ys) (decide (x.cps.toList < y.cps.toList))
theorem LexD.same : ∀ (xs : List PyData), LexD xs xs false
  | [] => .nil
  | x :: xs => .yes (LexD.same xs)
theorem LexD.length {xs ys : List PyData} {b : Bool} (h : LexD xs ys b) : xs.length = ys.length := by
  induction h with
  | nil => rfl
  | yes _ ih => rw [List.length_cons, List.length_cons, ih]
  | int _ e => rw [List.length_cons, List.length_cons, e]
  | str _ e => rw [List.length_cons, List.length_cons, e]
mutual
/-- data of tuples read alike wherever the tuples stand -/
theorem reads_keep {h h' : Heap} (k : ∀ b o, h.get? b = some o → o.cls = .type "tuple" → h'.get? b = some o) {H : Hp} : ∀ {d : PyData} {x : V} {v : Value} {as : List Addr}, Dt H x d → Reads h v d as → Reads h' v d as
  | .none, _, _, _, _, r => by cases r; exact .none
  | .int _, _, _, _, _, r => by cases r; exact .int _ _
  | .str _, _, _, _, _, r => by cases r; exact .str _ _
  | .tuple ds, _, _, _, q, r => by
    cases q with
    | tup q1 q2 =>
      cases r with
      | tuple h1 h2 h3 h4 => exact .tuple (k _ _ h1 h2) h2 h3 (readsAll_keep k q2 h4)
  | .bool _, _, _, _, q, _ => by cases q
  | .list _, _, _, _, q, _ => by cases q
  | .dict _, _, _, _, q, _ => by cases q
theorem readsAll_keep {h h' : Heap} (k : ∀ b o, h.get? b = some o → o.cls = .type "tuple" → h'.get? b = some o) {H : Hp} : ∀ {ds : List PyData} {xs : List V} {vs : List Value} {as : List Addr}, DtAll H xs ds → ReadsAll h vs ds as → ReadsAll h' vs ds as
  | [], _, _, _, _, r => by cases r; exact .nil
  | d :: ds, _, _, _, q, r => by
    cases q with
    | cons q1 q2 =>
      cases r with
      | cons h1 h2 => exact .cons (reads_keep k q1 h1) (readsAll_keep k q2 h2)
end
section
variable {prog : Program} {w : World} {A : Around} {E : Value → Shared → Prop} {s : Shared}
theorem kat_lexD {f : Bool} {Q : Bool → Shared → Prop} {xs ys : List PyData} {r : Bool} (L : LexD xs ys r) : ∀ (i : Nat) (vs ws : List Value) (as bs : List Addr), ReadsAll s.heap vs xs as → ReadsAll s.heap ws ys bs →
    PyData.canLayAll0 xs = true → PyData.canLayAll0 ys = true → A.units + min (PyData.depthAll xs) (PyData.depthAll ys) < cLine → Q r s → PySem.W.KatLex prog w A f false Q (vs.zip ws) i s := by
  induction L with
  | nil =>
    intro i vs ws as bs ra rb _ _ _ hq
    cases ra
    cases rb
    exact PySem.W.kat_nil hq
  | @yes x xs ys b _ ih =>
    intro i vs ws as bs ra rb ha hb hu hq
    have ha' : x.canLay0 = true ∧ PyData.canLayAll0 xs = true := by simpa [PyData.canLayAll0] using ha
    have hb' : x.canLay0 = true ∧ PyData.canLayAll0 ys = true := by simpa [PyData.canLayAll0] using hb
    cases ra with
    | cons r1 r2 =>
      cases rb with
      | cons k1 k2 =>
        rw [List.zip_cons_cons]
        refine PySem.W.kat_cons (SeqAt.eqAt_reads x x A s _ _ _ _ r1 k1 ha'.1 hb'.1 (SeqAt.room_head hu) prog w _ _ ?_)
        rw [SeqAt.eqv_refl x ha'.1]
        exact PySem.W.kat_yes (ih (i + 1) _ _ _ _ r2 k2 ha'.2 hb'.2 (SeqAt.room_tail hu) hq)
  | @int a b xs ys hne _ =>
    intro i vs ws as bs ra rb ha hb hu hq
    cases ra with
    | cons r1 r2 =>
      cases rb with
      | cons k1 k2 =>
        rw [List.zip_cons_cons]
        cases r1 with
        | int _ t =>
          cases k1 with
          | int _ u =>
            refine PySem.W.kat_cons (SeqAt.EqAt.int_int a t b u prog w _ _ ?_)
            have e : (a == b) = false := by simpa using hne
            rw [e]
            refine PySem.W.kat_no ?_
            cases (f && i == 0) with
            | true => exact oneLt_int hq
            | false => exact PySem.W.kat_one _ _ (PyProof.Rows.lt_int hq)
  | @str a b xs ys hne _ =>
    intro i vs ws as bs ra rb ha hb hu hq
    cases ra with
    | cons r1 r2 =>
      cases rb with
      | cons k1 k2 =>
        rw [List.zip_cons_cons]
        cases r1 with
        | str _ t =>
          cases k1 with
          | str _ u =>
            refine PySem.W.kat_cons (SeqAt.EqAt.str_str a t b u prog w _ _ ?_)
            have e : (a == b) = false := by simpa using hne
            rw [e]
            refine PySem.W.kat_no ?_
            cases (f && i == 0) with
            | true => exact oneLt_str hq
            | false => exact PySem.W.kat_one _ _ (PyProof.Rows.lt_str hq)
end
/-- the order, and that it is what the model's comparison of the tuples gives -/
structure LtOk (lt : PyData → PyData → Bool) (ds : List PyData) : Prop where
  swo : SrtO.Swo lt
  first : ∀ d ∈ ds, ∃ x r, d = .tuple (.str x :: r)
  cmp : ∀ d ∈ ds, ∀ e ∈ ds, ∃ xs ys, d = .tuple xs ∧ e = .tuple ys ∧ LexD xs ys (lt d e)
  deep : ∀ d ∈ ds, d.depth ≤ 60
theorem katTups_dt {h : Heap} : ∀ {ds : List PyData} {its : List Value} {as : List Addr}, ReadsAll h its ds as → (∀ d ∈ ds, ∃ x r, d = .tuple (.str x :: r)) →
    ∃ fs, PySem.W.KatTups h its fs ∧ fs.length = its.length ∧ ∀ f ∈ fs, ∃ x t, f = Value.str x t
  | [], _, _, r, _ => by
    cases r
    exact ⟨[], PySem.W.KatTups.nil, rfl, fun f hf => absurd hf (by simp)⟩
  | d :: ds, _, _, r, hd => by
    obtain ⟨x, rest, rfl⟩ := hd d (List.mem_cons_self ..)
    cases r with
    | cons r1 r2 =>
      obtain ⟨fs, k1, k2, k3⟩ := katTups_dt r2 fun e he => hd e (List.mem_cons_of_mem _ he)
      cases r1 with
      | @tuple a o vs n _ _ h1 h2 h3 h4 =>
        cases q : vs.toList with
        | nil =>
          rw [q] at h4
          cases h4
        | cons f fr =>
          rw [q] at h4
          cases h4 with
          | cons m1 m2 =>
            cases m1 with
            | str _ t =>
              refine ⟨Value.str x t :: fs, PySem.W.KatTups.cons h1 h2 h3 (by rw [← Array.getElem?_toList, q]; rfl) k1, by rw [List.length_cons, List.length_cons, k2], fun g hg => ?_⟩
              rcases List.mem_cons.mp hg with rfl | hg
              · exact ⟨x, t, rfl⟩
              · exact k3 g hg
section
variable {prog : Program} {w : World} {A : Around} {E : Value → Shared → Prop} {s : Shared}
/-- the order of values by the data that they read as in the heap h0 -/
noncomputable def ltR (lt : PyData → PyData → Bool) (h0 : Heap) (v u : Value) : Bool := lt (SeqAt.readOf h0 v) (SeqAt.readOf h0 u)
theorem swo_ltR {lt : PyData → PyData → Bool} (O : SrtO.Swo lt) (h0 : Heap) : SrtO.Swo (ltR lt h0) := ⟨fun x y => O.asym _ _, fun x y z => O.tr _ _ _⟩
theorem readsAll_of_mem {h : Heap} : ∀ {ds : List PyData} {its : List Value} {as : List Addr}, ReadsAll h its ds as → ∀ v ∈ its, ∃ d ∈ ds, ∃ bs, Reads h v d bs
  | [], _, _, r, v, hv => by cases r; cases hv
  | d :: ds, _, _, r, v, hv => by
    cases r with
    | cons r1 r2 =>
      rcases List.mem_cons.mp hv with rfl | hv
      · exact ⟨d, List.mem_cons_self .., _, r1⟩
      · obtain ⟨e, he, bs, q⟩ := readsAll_of_mem r2 v hv
        exact ⟨e, List.mem_cons_of_mem _ he, bs, q⟩
theorem canLay_mem : ∀ {ds : List PyData}, PyData.canLayAll0 ds = true → ∀ d ∈ ds, d.canLay0 = true
  | [], _, d, hd => by cases hd
  | e :: ds, h, d, hd => by
    have h' : e.canLay0 = true ∧ PyData.canLayAll0 ds = true := by simpa [PyData.canLayAll0] using h
    rcases List.mem_cons.mp hd with rfl | hd
    · exact h'.1
    · exact canLay_mem h'.2 d hd
theorem dtAll_mem_dt {H : Hp} : ∀ {ds : List PyData} {xs : List V}, DtAll H xs ds → ∀ d ∈ ds, ∃ x, Dt H x d
  | [], _, _, d, hd => by cases hd
  | e :: ds, _, h, d, hd => by
    cases h with
    | cons h1 h2 =>
      rcases List.mem_cons.mp hd with rfl | hd
      · exact ⟨_, h1⟩
      · exact dtAll_mem_dt h2 d hd
theorem sortable_dt {h0 h₁ : Heap} {H : Hp} {its : List Value} {ds : List PyData} {xs : List V} {as : List Addr} {lt : PyData → PyData → Bool} (L : LtOk lt ds) (q : DtAll H xs ds) (r : ReadsAll h0 its ds as) (h2 : 2 ≤ its.length) {a : Addr}
    (ha : h₁.get? a = some (seqObj "list" its.toArray 0)) (kk : ∀ b o, h0.get? b = some o → b ≠ a ∧ h₁.get? b = some o) (hu : A.units + 64 < cLine) : SrtO.SortableO prog w A { s with heap := h₁ } a its (ltR lt h0) := by
  intro h' keep
  have kt : ∀ b o, h0.get? b = some o → o.cls = .type "tuple" → h'.get? b = some o := fun b o e _ => keep b o (kk b o e).1 (kk b o e).2
  have r' := readsAll_keep kt q r
  obtain ⟨fs, k1, k2, k3⟩ := katTups_dt r' L.first
  refine ⟨tuples' true, fun Q E hq => ?_, fun p p' hp hp' => ?_⟩
  · refine PySem.W.kat_kind (T := .type "str") k1 (by omega) (fun f hf => ?_) (by rfl) ?_
    · obtain ⟨x, t, rfl⟩ := k3 f hf
      exact PySem.W.Looks.of_pure rfl
    · have e : (Value.type "str" != Value.type "tuple") = true := by first | decide +kernel | rfl | decide
      rw [e]
      exact hq
  · obtain ⟨d, hd, bs, rd⟩ := readsAll_of_mem r p.1 hp
    obtain ⟨e, he, cs, re⟩ := readsAll_of_mem r p'.1 hp'
    have ld := canLay_mem q.lay d hd
    have le := canLay_mem q.lay e he
    show wpAny (model prog w) A (keyLt' (tuples' true) p.1 p'.1) (fun r s' => s' = { s with heap := h' } ∧ r = lt (SeqAt.readOf h0 p.1) (SeqAt.readOf h0 p'.1)) (fun _ _ => False) { s with heap := h' }
    rw [SeqAt.readOf_eq ld rd, SeqAt.readOf_eq le re]
    obtain ⟨us, ws, e1, e2, lx⟩ := L.cmp d hd e he
    obtain ⟨xd, hxd⟩ := dtAll_mem_dt q d hd
    obtain ⟨xe, hxe⟩ := dtAll_mem_dt q e he
    have rd' := reads_keep kt hxd rd
    have re' := reads_keep kt hxe re
    have dd := L.deep d hd
    have de := L.deep e he
    subst e1
    subst e2
    generalize p.1 = v1 at rd'
    generalize p'.1 = v2 at re'
    cases rd' with
    | @tuple l o vs n _ _ h1 h2' h3 h4 =>
      cases re' with
      | @tuple l' o' vs' n' _ _ m1 m2 m3 m4 =>
        have n1 : vs.size = us.length := by simpa using SeqAt.ReadsAll.length _ _ _ h4
        have n2 : vs'.size = ws.length := by simpa using SeqAt.ReadsAll.length _ _ _ m4
        have ef : decide (vs.size < vs'.size) = false := decide_eq_false (by rw [n1, n2, lx.length]; omega)
        refine PySem.W.kat_lt (s := { s with heap := h' }) h1 h3 m1 m3 ?_
        rw [ef]
        refine kat_lexD (s := { s with heap := h' }) lx 0 _ _ _ _ h4 m4 (by simpa [PyData.canLay0] using ld) (by simpa [PyData.canLay0] using le) ?_ ⟨rfl, rfl⟩
        have hd' : PyData.depthAll us + 1 ≤ 60 := dd
        have hm : min (PyData.depthAll us) (PyData.depthAll ws) ≤ PyData.depthAll us := Nat.min_le_left _ _
        omega
end
theorem vals_back {H : Hp} {h : Heap} {xs : List V} {its : List Value} (rv : Vals xs its) : ∀ {out : List Value}, (∀ u ∈ out, u ∈ its) → ∃ ys, Vals ys out
  | [], _ => ⟨[], .nil⟩
  | u :: out, hm => by
    obtain ⟨ys, h1⟩ := vals_back (H := H) (h := h) rv (out := out) fun z hz => hm z (List.mem_cons_of_mem _ hz)
    obtain ⟨i, hi⟩ := List.getElem?_of_mem (hm u (List.mem_cons_self ..))
    have hl : i < xs.length := by
      rw [rv.length]
      exact (List.getElem?_eq_some_iff.mp hi).1
    obtain ⟨u', e1, e2⟩ := rv.get (List.getElem?_eq_getElem hl)
    rw [hi] at e1
    cases e1
    exact ⟨xs[i] :: ys, .cons e2 h1⟩
section
variable {X : Cx}
/-- sorted(xs), a list of tuples: some arrangement of them, rising -/
def rSortT (K : PySem.W.Frag) : List V → Hp → VK → Prop := fun vs H Q => ∃ (a : Addr) (xs : List V) (ds : List PyData) (lt : PyData → PyData → Bool), vs = [V.ref a] ∧ SqL K H a xs ∧ DtAll H xs ds ∧ LtOk lt ds ∧
  ∀ (ys : List V) (es : List PyData) (p : Addr), DtAll H ys es → es.Perm ds → es.Pairwise (fun x y => lt y x = false) → H p = none → Q (.ref p) (upd H p (.lst ys))
/-- the values of an arrangement read as the same arrangement of the data -/
theorem dt_of_vals {pins : List (Addr × Obj)} {σ : L2.St} {H : Hp} {s : Shared} (I : Inv X pins σ H s) {xs : List V} {its : List Value} {ds : List PyData} (rv : Vals xs its) (q : DtAll H xs ds) :
    ∀ {ys : List V} {out : List Value}, Vals ys out → (∀ u ∈ out, u ∈ its) → DtAll H ys (out.map (SeqAt.readOf s.heap))
  | [], _, h, _ => by cases h; exact .nil
  | y :: ys, _, h, hm => by
    cases h with
    | @cons _ u _ out h1 h2 =>
      rw [List.map_cons]
      refine .cons ?_ (dt_of_vals I rv q h2 fun z hz => hm z (List.mem_cons_of_mem _ hz))
      obtain ⟨i, hi⟩ := List.getElem?_of_mem (hm u (List.mem_cons_self ..))
      have hl : i < xs.length := by
        rw [rv.length]
        exact (List.getElem?_eq_some_iff.mp hi).1
      obtain ⟨u', e1, e2⟩ := rv.get (List.getElem?_eq_getElem hl)
      rw [hi] at e1
      cases e1
      rw [h1.inj e2]
      obtain ⟨d, _, hd⟩ := q.get (List.getElem?_eq_getElem hl)
      obtain ⟨as, rd⟩ := Dp.reads I d xs[i] u hd.dp e2
      rw [SeqAt.readOf_eq hd.lay rd]
      exact hd
theorem cr_sortT (hu : X.A.units + 70 < cLine) : CallR X (.builtin "sorted") (rSortT X.K) := by
  intro pins s σ H vs us Q I r h
  obtain ⟨a, xs, ds, lt, rfl, hs, q, L, k⟩ := h
  obtain ⟨its, rv, hl, hz⟩ := I.list hs
  rw [Vals.ref1 r]
  obtain ⟨as, ra⟩ := Dp.readsAll I ds xs its q.dp rv
  have hlen : its.length = xs.length := rv.length.symm
  refine SrtO.sorted_ord (swo_ltR L.swo s.heap) hl.isList (by rw [hlen]; exact hz) (fun h2 h₁ a' ha kk => sortable_dt L q ra h2 ha kk (by show X.A.units + 1 + 1 + 64 < cLine; omega)) fun out h1 h2 => ?_
  obtain ⟨ep, he'⟩ := PyProof.Rows.sortedAll_at s.heap its out.toArray
  have hm : ∀ u ∈ out, u ∈ its := fun u hu => h2.perm.mem_iff.mp hu
  obtain ⟨ys, hy⟩ := vals_back (H := H) (h := s.heap) rv hm
  have hyl : ys.length = xs.length := by rw [hy.length, h2.perm.length_eq, hlen]
  have e : its.map (SeqAt.readOf s.heap) = ds := SeqAt.readsAll_map ds its as q.lay ra
  refine ⟨.ref _, upd H (s.heap.objs.size + 1) (.lst ys), I.laid (t' := s.toks) (fun _ _ => PyProof.Rows.sortedAll_old) (Nat.le_succ _) ⟨by rw [hyl]; exact hz, out, ep, hy, he'⟩, rfl, k ys (out.map (SeqAt.readOf s.heap)) _ (dt_of_vals I rv q hy hm) ?_ ?_ (I.hok.fresh (Nat.le_succ _))⟩
  · have z := h2.perm.map (SeqAt.readOf s.heap)
    rw [e] at z
    exact z
  · exact List.pairwise_map.mpr (h1.imp fun {x y} z => z)
end
/-! ### sorted(d), d a dict of any size, its keys all texts or all ints -/
abbrev sortS (ks : List Str) : List Str := ks.mergeSort (PySem.W.dataLe false fun x : Str => PyData.str x)
abbrev sortI (ks : List Int) : List Int := ks.mergeSort (PySem.W.dataLe false fun x : Int => PyData.int x)
theorem each_vals {α : Type} {R : α → Value → Prop} {g : α → V} (hg : ∀ x v, R x v → RelV (g x) v) : ∀ {out : List Value} {bs : List α}, PySem.W.EachIs (fun v b => R b v) out bs → Vals (bs.map g) out
  | _, _, .nil => .nil
  | _, _, .cons h t => .cons (hg _ _ h) (each_vals hg t)
end Tsf
/-! sorted(d) of any size; list(d.keys()) of a dict with tuple keys. -/
namespace Tsf
open PySem PySem.Spec PyProof.Rows L2
section
variable {X : Cx}
theorem eachIs_strs : ∀ {vs : List Value} {ks : List Str}, StrsAre vs ks → PySem.W.EachIs (fun v b => ∃ t, v = Value.str b t) vs ks
  | _, _, .nil => .nil
  | _, _, .cons x t r => .cons ⟨t, rfl⟩ (eachIs_strs r)
theorem eachIs_ints : ∀ {vs : List Value} {ks : List Int}, IntsAre vs ks → PySem.W.EachIs (fun v b => ∃ t, v = Value.int b t) vs ks
  | _, _, .nil => .nil
  | _, _, .cons x t r => .cons ⟨t, rfl⟩ (eachIs_ints r)
theorem call_sortedDA (hcalm : X.calm = true) (hu : X.A.units + 64 < cLine) : CallR X (.builtin "sorted") (fun xs H Q => ∃ (a : Addr) (kvs : List (Key × V)) (ks : List Str), xs = [.ref a] ∧ Rd H a (.dK kvs) ∧ kvs.map (·.1) = ks.map Sum.inr ∧
    ∀ p, H p = none → Q (.ref p) (upd H p (.lst ((sortS ks).map V.str)))) := by
  intro pins s σ H xs us Q I r q
  obtain ⟨a, kvs, ks, ex, hd, hks, q⟩ := q
  subst ex
  obtain ⟨u, eu, rx⟩ := vals1 r
  subst eu
  cases rx
  obtain ⟨z, lo, vs, rel, dd⟩ := dk_rd I.hok hd
  obtain ⟨ep, hat⟩ := dd.dictAt
  have hkeys : vs.map (·.1) = ks.map Sum.inr := rel.keys.symm.trans hks
  have hl : vs.length = ks.length := by
    have e := congrArg List.length hkeys
    rw [List.length_map, List.length_map] at e
    exact e
  have h16 : vs.length ≤ sizeLine := by rw [← rel.length]; exact z
  refine Calls.call_function_entry PyProof.Rows.kind_sorted PyProof.Rows.plain_sorted PyProof.Rows.entry_sorted (PyProof.Rows.args_sorted1 _) ?_
  unfold Builtin.«sorted»
  refine wpAny_bind (m := checkCount "sorted" 1 1 _) (wpAny_pure ?_)
  refine wpAny_bind (PySem.W.kdu_collect (A := X.A.in1) (PySem.W.kdl_dict (knd := mixKind X.prog X.w) (kvs := vs) (ep := ep) lo) (I.ok.hd hcalm) hat h16 fun h' tk acc hk hacc => ?_)
  have hal : acc.toList.length = ks.length := by rw [Array.length_toList, hacc.1, hl]
  have hS : StrsAre acc.toList ks := strs_at hal fun j v e => by
    obtain ⟨k, x, e1, e2⟩ := hacc.2 j v (by rw [← Array.getElem?_toList]; exact e)
    have e3 : (vs.map (·.1))[j]? = some k := by rw [List.getElem?_map, e1]; all_goals rfl
    rw [hkeys, List.getElem?_map] at e3
    cases e4 : ks[j]? with
    | none => rw [e4] at e3; cases e3
    | some y =>
      rw [e4] at e3
      have e5 : Sum.inr y = k := Option.some.inj e3
      subst e5
      obtain ⟨t, ev⟩ := Value.isStrOf_shape (x := y) (v := v) e2
      exact ⟨y, t, rfl, ev⟩
  have I1 : Inv X pins σ H { s with heap := h', toks := tk } := I.kept hk
  have hL : ks.length ≤ sizeLine := by rw [← hl]; exact h16
  refine wpAny_bind (wpAny_newList ?_ (by rw [hal]; exact hL))
  have hoL : (h'.push (seqObj "list" acc.toList.toArray 0)).get? h'.objs.size = some (seqObj "list" acc.toList.toArray 0) := Heap.get?_push_size _ rfl
  show wpAny _ _ _ _ _ { s with heap := h'.push (seqObj "list" acc.toList.toArray 0), toks := tk }
  have eI := eachIs_strs hS
  refine wpAny_bind (wpAny_holding (PySem.W.list_sort_data (s := { s with heap := h'.push (seqObj "list" acc.toList.toArray 0), toks := tk }) (enc := PyData.str) (R := fun v b => ∃ t, v = Value.str b t) hoL eI
    (eI.mono fun v b ⟨t, e⟩ => ⟨[], by rw [e]; exact .str b t, by simp⟩) (PySem.W.AllAlike.of fun b b' => by simp [PySem.W.alike]) (PySem.W.Sortable.others fun b => ⟨by simp, by simp⟩) hL (fun b _ => by show X.A.units + 1 + 1 + 0 < cLine; omega) fun out ho eo => ?_))
  obtain ⟨e', he'⟩ := PyProof.Rows.sortedHeap_at (vs := acc.toList) (out := out.toArray) hoL
  have hlen : ((sortS ks).map V.str).length ≤ sizeLine := by
    rw [List.length_map, List.length_mergeSort]
    exact hL
  refine wpAny_pure ⟨_, rfl, .ref h'.objs.size, upd H h'.objs.size (.lst ((sortS ks).map V.str)), I1.laid (t' := tk) (fun b u e => ?_) (Nat.le_refl _)
    (show ObjOk X.prog X.w _ _ _ (.lst ((sortS ks).map V.str)) from ⟨hlen, out, e', each_vals (g := V.str) (R := fun b v => ∃ t, v = Value.str b t) (fun x v h => h) eo, he'⟩), rfl, q _ (I1.hok.fresh (Nat.le_refl _))⟩
  have hb : b < h'.objs.size := Heap.lt_size e
  rw [PyProof.Rows.sortedHeap_old (Nat.ne_of_lt hb) (by rw [size_push']; exact Nat.lt_succ_of_lt hb)]
  exact Heap.get?_push_of_some _ e
theorem ints_at : ∀ {us : List Value} {ks : List Int}, us.length = ks.length → (∀ (j : Nat) (v : Value), us[j]? = some v → ∃ (x : Int) (t : Tok), ks[j]? = some x ∧ v = Value.int x t) → IntsAre us ks
  | [], [], _, _ => .nil
  | u :: us, k :: ks, hl, h => by
    obtain ⟨x, t, e1, e2⟩ := h 0 u rfl
    have e1' : k = x := Option.some.inj e1
    subst e1'
    subst e2
    refine .cons _ _ (ints_at (by simpa using hl) fun j v e => ?_)
    obtain ⟨x, t, a, b⟩ := h (j + 1) v (by simpa using e)
    exact ⟨x, t, by simpa using a, b⟩
  | [], _ :: _, hl, _ => by simp at hl
  | _ :: _, [], hl, _ => by simp at hl
theorem call_sortedDIA (hcalm : X.calm = true) (hu : X.A.units + 64 < cLine) : CallR X (.builtin "sorted") (fun xs H Q => ∃ (a : Addr) (kvs : List (Key × V)) (ks : List Int), xs = [.ref a] ∧ Rd H a (.dK kvs) ∧ kvs.map (·.1) = ks.map Sum.inl ∧
    ∀ p, H p = none → Q (.ref p) (upd H p (.lst ((sortI ks).map V.int)))) := by
  intro pins s σ H xs us Q I r q
  obtain ⟨a, kvs, ks, ex, hd, hks, q⟩ := q
  subst ex
  obtain ⟨u, eu, rx⟩ := vals1 r
  subst eu
  cases rx
  obtain ⟨z, lo, vs, rel, dd⟩ := dk_rd I.hok hd
  obtain ⟨ep, hat⟩ := dd.dictAt
  have hkeys : vs.map (·.1) = ks.map Sum.inl := rel.keys.symm.trans hks
  have hl : vs.length = ks.length := by
    have e := congrArg List.length hkeys
    rw [List.length_map, List.length_map] at e
    exact e
  have h16 : vs.length ≤ sizeLine := by rw [← rel.length]; exact z
  refine Calls.call_function_entry PyProof.Rows.kind_sorted PyProof.Rows.plain_sorted PyProof.Rows.entry_sorted (PyProof.Rows.args_sorted1 _) ?_
  unfold Builtin.«sorted»
  refine wpAny_bind (m := checkCount "sorted" 1 1 _) (wpAny_pure ?_)
  refine wpAny_bind (PySem.W.kdu_collect (A := X.A.in1) (PySem.W.kdl_dict (knd := mixKind X.prog X.w) (kvs := vs) (ep := ep) lo) (I.ok.hd hcalm) hat h16 fun h' tk acc hk hacc => ?_)
  have hal : acc.toList.length = ks.length := by rw [Array.length_toList, hacc.1, hl]
  have hS : IntsAre acc.toList ks := ints_at hal fun j v e => by
    obtain ⟨k, x, e1, e2⟩ := hacc.2 j v (by rw [← Array.getElem?_toList]; exact e)
    have e3 : (vs.map (·.1))[j]? = some k := by rw [List.getElem?_map, e1]; all_goals rfl
    rw [hkeys, List.getElem?_map] at e3
    cases e4 : ks[j]? with
    | none => rw [e4] at e3; cases e3
    | some y =>
      rw [e4] at e3
      have e5 : Sum.inl y = k := Option.some.inj e3
      subst e5
      obtain ⟨t, ev⟩ := Value.isInt_shape (k := y) (v := v) e2
      exact ⟨y, t, rfl, ev⟩
  have I1 : Inv X pins σ H { s with heap := h', toks := tk } := I.kept hk
  have hL : ks.length ≤ sizeLine := by rw [← hl]; exact h16
  refine wpAny_bind (wpAny_newList ?_ (by rw [hal]; exact hL))
  have hoL : (h'.push (seqObj "list" acc.toList.toArray 0)).get? h'.objs.size = some (seqObj "list" acc.toList.toArray 0) := Heap.get?_push_size _ rfl
  show wpAny _ _ _ _ _ { s with heap := h'.push (seqObj "list" acc.toList.toArray 0), toks := tk }
  have eI := eachIs_ints hS
  refine wpAny_bind (wpAny_holding (PySem.W.list_sort_data (s := { s with heap := h'.push (seqObj "list" acc.toList.toArray 0), toks := tk }) (enc := PyData.int) (R := fun v b => ∃ t, v = Value.int b t) hoL eI
    (eI.mono fun v b ⟨t, e⟩ => ⟨[], by rw [e]; exact .int b t, by simp⟩) (PySem.W.AllAlike.of fun b b' => by simp [PySem.W.alike]) (PySem.W.Sortable.others fun b => ⟨by simp, by simp⟩) hL (fun b _ => by show X.A.units + 1 + 1 + 0 < cLine; omega) fun out ho eo => ?_))
  obtain ⟨e', he'⟩ := PyProof.Rows.sortedHeap_at (vs := acc.toList) (out := out.toArray) hoL
  have hlen : ((sortI ks).map V.int).length ≤ sizeLine := by
    rw [List.length_map, List.length_mergeSort]
    exact hL
  refine wpAny_pure ⟨_, rfl, .ref h'.objs.size, upd H h'.objs.size (.lst ((sortI ks).map V.int)), I1.laid (t' := tk) (fun b u e => ?_) (Nat.le_refl _)
    (show ObjOk X.prog X.w _ _ _ (.lst ((sortI ks).map V.int)) from ⟨hlen, out, e', each_vals (g := V.int) (R := fun b v => ∃ t, v = Value.int b t) (fun x v h => h) eo, he'⟩), rfl, q _ (I1.hok.fresh (Nat.le_refl _))⟩
  have hb : b < h'.objs.size := Heap.lt_size e
  rw [PyProof.Rows.sortedHeap_old (Nat.ne_of_lt hb) (by rw [size_push']; exact Nat.lt_succ_of_lt hb)]
  exact Heap.get?_push_of_some _ e
end
end Tsf
/-! Dicts whose keys are tuples of ints, texts and None; list(d.keys()), list(d) of dicts with tuple keys. -/
namespace Tsf
open PySem PySem.Spec PyProof.Rows L2
def lfV : Leaf → V
  | .none => .non
  | .num i => .int i
  | .text x => .str x
theorem leaf_is {P : Program} {w : World} {k : Leaf} {u : Value} (r : RelV (lfV k) u) : (leafKind P w).is k u = true := by
  cases k with
  | none => cases (show u = Value.none from r); rfl
  | num i =>
    obtain ⟨t, rfl⟩ := (show ∃ t, u = Value.int i t from r)
    exact decide_eq_true rfl
  | text x =>
    obtain ⟨t, rfl⟩ := (show ∃ t, u = Value.str x t from r)
    show (x == x) = true
    simp
theorem leaves_are {P : Program} {w : World} : ∀ {ks : List Leaf} {us : List Value}, Vals (ks.map lfV) us → ItemsAre (leafKind P w) ks us
  | [], _, r => by rw [List.map_nil] at r; cases r; exact .nil
  | k :: ks, _, r => by
    rw [List.map_cons] at r
    cases r with
    | cons h t => exact .cons (leaf_is h) (leaves_are t)
theorem key_ofN {P : Program} {w : World} {H : Hp} {h : Heap} {a : Addr} {ks : List Leaf} (ok : HOk P w H h) (e : H a = some (.tup (ks.map lfV))) : (tupleKind (leafKind P w)).is h ks a := by
  obtain ⟨_, its, r, o, h1, h2, n, h3⟩ := (show ObjOk P w H h a (.tup (ks.map lfV)) from ok a _ e)
  exact ⟨o, its.toArray, n, h1, h2, h3, by simpa using leaves_are r⟩
/-- entries: the key, where its tuple stands, the value -/
abbrev EN := List Leaf × Addr × V
abbrev UN := List Leaf × Addr × Value
abbrev RN : List EN → List UN → Prop := Paired fun p q => p.1 = q.1 ∧ p.2.1 = q.2.1 ∧ RelV p.2.2 q.2.2
def okN (P : Program) (w : World) (a : Addr) (xs : List EN) (h : Heap) : Prop := xs.length ≤ sizeLine ∧ (a == sysModules) = false ∧ ∃ us : List UN, RN xs us ∧
  ∃ o es ep, h.get? a = some o ∧ o.ExactDict ∧ o.data = .dict es ep ∧ es.toList = us.map (entryOfKey (tupleKind (leafKind P w))) ∧ (us.map (·.1)).Nodup
/-- the dict at a, by its entries -/
def DNo (P : Program) (w : World) (a : Addr) (xs : List EN) : HO := .ext (okN P w a xs)
theorem okN_obj {P : Program} {w : World} {H : Hp} {h : Heap} {a : Addr} {xs : List EN} (x : okN P w a xs h) : ObjOk P w H h a (DNo P w a xs) := by
  refine ⟨x, ?_, fun h1 h2 p k => ?_⟩
  · obtain ⟨_, _, us, _, o, _, _, ho, _⟩ := x
    exact ⟨o, ho⟩
  · obtain ⟨z, y, us, r, o, es, ep, ho, rest⟩ := p
    exact ⟨z, y, us, r, o, es, ep, k o ho, rest⟩
abbrev KN (H : Hp) : List (List Leaf × V) → List EN → Prop := Paired fun p q => p.1 = q.1 ∧ H q.2.1 = some (.tup (p.1.map lfV)) ∧ p.2 = q.2.2
abbrev KTN (H : Hp) : List (List Leaf × V) → List UN → Prop := Paired fun p q => p.1 = q.1 ∧ H q.2.1 = some (.tup (p.1.map lfV)) ∧ RelV p.2 q.2.2
/-- at a stands a dict with the pairs kvs -/
def DicN (P : Program) (w : World) (H : Hp) (a : Addr) (kvs : List (List Leaf × V)) : Prop := ∃ xs, H a = some (DNo P w a xs) ∧ KN H kvs xs
theorem KN.join {H : Hp} : ∀ {kvs : List (List Leaf × V)} {xs : List EN} {us : List UN}, KN H kvs xs → RN xs us → KTN H kvs us
  | _, _, _, .nil, r => by cases r; exact .nil
  | _, _, _, .cons h t, r => by
    cases r with
    | cons k s => exact .cons ⟨h.1.trans k.1, by rw [← k.2.1]; exact h.2.1, by rw [h.2.2]; exact k.2.2⟩ (KN.join t s)
theorem KTN.split {H : Hp} : ∀ {kvs : List (List Leaf × V)} {us : List UN}, KTN H kvs us → ∃ xs, KN H kvs xs ∧ RN xs us
  | _, _, .nil => ⟨[], .nil, .nil⟩
  | _, _, .cons (a := p) (b := q) h t => by
    obtain ⟨xs, h1, h2⟩ := KTN.split t
    exact ⟨(q.1, q.2.1, p.2) :: xs, .cons ⟨h.1, h.2.1, rfl⟩ h1, .cons ⟨rfl, rfl, h.2.2⟩ h2⟩
theorem KTN.val {H : Hp} {kvs : List (List Leaf × V)} {xs : List UN} (r : KTN H kvs xs) (k : List Leaf) : RelO (valV kvs k) ((atKey xs k).map (·.2)) := by
  induction r with
  | nil => exact True.intro
  | @cons p q ps qs h t ih =>
    obtain ⟨h1, _, h2⟩ := h
    by_cases e : p.1 = k
    · have e' : q.1 = k := h1.symm.trans e
      have b : atKey (q :: qs) k = some q.2 := by simp [atKey, List.find?_cons, e']
      rw [valV_pos e, b]; exact h2
    · have e' : ¬ q.1 = k := fun z => e (h1.trans z)
      have b : atKey (q :: qs) k = atKey qs k := by simp [atKey, List.find?_cons, e']
      rw [valV_neg e, b]; exact ih
theorem KTN.repl {H : Hp} {kvs : List (List Leaf × V)} {xs : List UN} (r : KTN H kvs xs) (k : List Leaf) {y : V} {u : Value} (ry : RelV y u) :
    KTN H (kvs.map fun kv => if kv.1 = k then (kv.1, y) else kv) (xs.map (putAt k u)) := by
  induction r with
  | nil => exact .nil
  | @cons p q ps qs h t ih =>
    rw [List.map_cons, List.map_cons]
    refine .cons ?_ ih
    obtain ⟨h1, h2, h3⟩ := h
    unfold putAt
    by_cases e : p.1 = k
    · rw [if_pos e, if_pos (h1.symm.trans e)]; exact ⟨h1, h2, ry⟩
    · rw [if_neg e, if_neg (fun z => e (h1.trans z))]; exact ⟨h1, h2, h3⟩
theorem KTN.put {H : Hp} {kvs : List (List Leaf × V)} {xs : List UN} (r : KTN H kvs xs) (k : List Leaf) {b : Addr} {y : V} {u : Value} (hb : H b = some (.tup (k.map lfV))) (ry : RelV y u) :
    KTN H (putK kvs k y) (storedH xs k b u) := by
  have e : (kvs.any fun kv => decide (kv.1 = k)) = (atKey xs k).isSome := by
    rw [valV_any, (r.val k).isSome_eq, Option.isSome_map]
  unfold putK storedH
  rw [e]
  by_cases q : (atKey xs k).isSome = true
  · rw [if_pos q, if_pos q]; exact r.repl k ry
  · rw [if_neg q, if_neg q]; exact Paired.snoc r ⟨rfl, hb, ry⟩
theorem KTN.keeps {H H' : Hp} {kvs : List (List Leaf × V)} {xs : List UN} (r : KTN H kvs xs) (ht : Tk H H') : KTN H' kvs xs := Paired.mapP r fun _ _ z => ⟨z.1, ht _ _ z.2.1, z.2.2⟩
theorem KN.keeps {H H' : Hp} {kvs : List (List Leaf × V)} {xs : List EN} (r : KN H kvs xs) (ht : Tk H H') : KN H' kvs xs := Paired.mapP r fun _ _ z => ⟨z.1, ht _ _ z.2.1, z.2.2⟩
theorem DicN.keep {P : Program} {w : World} {H H' : Hp} {a : Addr} {kvs : List (List Leaf × V)} (d : DicN P w H a kvs) (e : H' a = H a) (ht : Tk H H') : DicN P w H' a kvs := by
  obtain ⟨xs, h1, h2⟩ := d
  exact ⟨xs, e.trans h1, h2.keeps ht⟩
theorem DicN.same {P : Program} {w : World} {H H' : Hp} {a : Addr} {kvs : List (List Leaf × V)} (d : DicN P w H a kvs) (s : Same H H') : DicN P w H' a kvs := by
  obtain ⟨xs, h1, h2⟩ := d
  exact ⟨xs, s _ _ h1, h2.keeps (tk_same s)⟩
theorem DicN.ex {P : Program} {w : World} {H : Hp} {a : Addr} {kvs : List (List Leaf × V)} (d : DicN P w H a kvs) : ∃ φ, H a = some (.ext φ) := by
  obtain ⟨xs, h1, _⟩ := d
  exact ⟨_, h1⟩
section
variable {X : Cx} {pins : List (Addr × Obj)} {σ : L2.St} {H : Hp} {s : Shared} {a b : Addr} {kvs : List (List Leaf × V)} {k : List Leaf} {A : Around} {E : Value → Shared → Prop}
theorem dn_of (I : Inv X pins σ H s) (d : DicN X.prog X.w H a kvs) : kvs.length ≤ sizeLine ∧ (a == sysModules) = false ∧ ∃ us, KTN H kvs us ∧ s.heap.DictOfH (tupleKind (leafKind X.prog X.w)) a us := by
  obtain ⟨xs, h1, h2⟩ := d
  obtain ⟨⟨z, y, us, r, o, es, ep, e1, e2, e3, e4, e5⟩, _⟩ := I.hok a _ h1
  refine ⟨by rw [Paired.length h2]; exact z, y, us, h2.join r, o, es, ep, e1, e2, e3, e4, fun x hx => ?_, e5⟩
  have all : ∀ {l : List (List Leaf × V)} {m : List UN}, KTN H l m → ∀ x ∈ m, (tupleKind (leafKind X.prog X.w)).is s.heap x.1 x.2.1 := by
    intro l m q
    induction q with
    | nil => intro x hx; exact nomatch hx
    | @cons p q ps qs hq t ih =>
      intro x hx
      rcases List.mem_cons.mp hx with e | hx
      · subst e
        exact key_ofN I.hok (by rw [← hq.1]; exact hq.2.1)
      · exact ih x hx
  exact all (h2.join r) x hx
theorem dn_getItem {v : V} {Q : Value → Shared → Prop} (hu : A.units + 1 < cLine) (I : Inv X pins σ H s) (d : DicN X.prog X.w H a kvs) (eb : H b = some (.tup (k.map lfV))) (l : valV kvs k = some v) (h : ∀ w' s', Inv X pins σ H s' → RelV v w' → Q w' s') :
    wpAny (model X.prog X.w) A (getItem (.ref a) (.ref b)) Q E s := by
  obtain ⟨z, hd, us, rel, dd⟩ := dn_of I d
  obtain ⟨w', hw, rw'⟩ := RelO.some_of (v := v) (o := (atKey us k).map (·.2)) (by rw [← l]; exact rel.val k)
  obtain ⟨p, hp, hp2⟩ := Option.map_eq_some_iff.mp hw
  refine wpAny_getItem_heap (tupleKind_room_in1 hu) (key_ofN I.hok eb) dd hp ?_
  rw [hp2]
  exact h w' _ (I.tok _) rw'
theorem dn_in {Q : Value → Shared → Prop} (hu : A.units + 1 < cLine) (I : Inv X pins σ H s) (d : DicN X.prog X.w H a kvs) (eb : H b = some (.tup (k.map lfV))) (h : ∀ s', Inv X pins σ H s' → Q (.bool (valV kvs k).isSome) s') :
    wpAny (model X.prog X.w) A (compareOp .In (.ref b) (.ref a)) Q E s := by
  obtain ⟨z, hd, us, rel, dd⟩ := dn_of I d
  refine wpAny_in_heap (tupleKind_room_in1 hu) (key_ofN I.hok eb) hd dd ?_
  have q := (rel.val k).isSome_eq
  rw [Option.isSome_map] at q
  rw [← q]
  exact h _ (I.tok _)
theorem dn_setItem {v : V} {r : Value} {Q : Unit → Shared → Prop} (hu : A.units + 1 < cLine) (I : Inv X pins σ H s) (d : DicN X.prog X.w H a kvs) (eb : H b = some (.tup (k.map lfV))) (hl : kvs.length < sizeLine) (rv : RelV v r)
    (h : ∀ o s', DicN X.prog X.w (upd H a o) a (putK kvs k v) → Inv X pins σ (upd H a o) s' → Q () s') : wpAny (model X.prog X.w) A (setItem (.ref a) (.ref b) r) Q E s := by
  obtain ⟨z, hd, us, rel, dd⟩ := dn_of I d
  obtain ⟨φ, ea⟩ := d.ex
  have hz : us.length ≤ sizeLine := by rw [← Paired.length rel]; exact z
  have hl2 : (putK kvs k v).length ≤ sizeLine := by have := length_putK kvs k v; omega
  refine wpAny_setItem_heap (hsz := hz) (tupleKind_room_in1 hu) (key_ofN I.hok eb) dd fun h' dd' hs => ?_
  obtain ⟨q, es, ep, hq, h2, h3, h4, _, h5⟩ := dd'
  obtain ⟨xs', k1, k2⟩ := (rel.put k eb rv).split
  have ok : okN X.prog X.w a xs' h' := ⟨by rw [← Paired.length k1]; exact hl2, hd, _, k2, q, es, ep, hq, h2, h3, h4, h5⟩
  have tk : Tk H (upd H a (DNo X.prog X.w a xs')) := tk_put ea fun ys z => nomatch z
  exact h (DNo X.prog X.w a xs') _ ⟨xs', upd_same, k1.keeps tk⟩ (d_write I (by rw [ea]; exact True.intro) hs ⟨q, hq⟩ (okN_obj ok))
end
/-! ### readings and rules -/
def tGetN (P : Program) (w : World) (td ty : TE) : TE := fun σ H Q => td σ H fun x H1 => ty σ H1 fun y H2 => ∃ a b kvs k v, x = .ref a ∧ y = .ref b ∧ DicN P w H2 a kvs ∧ H2 b = some (.tup (k.map lfV)) ∧ valV kvs k = some v ∧ Q v H2
def tInN (P : Program) (w : World) (ty td : TE) : TE := fun σ H Q => ty σ H fun y H1 => td σ H1 fun x H2 => ∃ a b kvs k, x = .ref a ∧ y = .ref b ∧ DicN P w H2 a kvs ∧ H2 b = some (.tup (k.map lfV)) ∧ Q (.bl (valV kvs k).isSome) H2
def sPutN (P : Program) (w : World) (td ty tv : TE) : TS := fun D σ H => tv σ H fun v H1 => td σ H1 fun x H2 => ty σ H2 fun y H3 => ∃ a b kvs k, x = .ref a ∧ y = .ref b ∧ DicN P w H3 a kvs ∧ H3 b = some (.tup (k.map lfV)) ∧ kvs.length < sizeLine ∧
  ∀ o, DicN P w (upd H3 a o) a (putK kvs k v) → D.nx σ (upd H3 a o)
def tNewN (P : Program) (w : World) : TE := fun _ H Q => ∀ p o, H p = none → DicN P w (upd H p o) p [] → Q (.ref p) (upd H p o)
section
variable {X : Cx} {o i e value : Expr} {pos pos' tpos : Pos} {td ty tv : TE}
theorem pe_dnewN : PE X (.Dict [] [] pos) (tNewN X.prog X.w) := ⟨fun pins s σ H Q I h =>
  wpAny_Dict_empty ⟨.ref s.heap.objs.size, _, I.laid (a := s.heap.objs.size) (o := DNo X.prog X.w s.heap.objs.size []) (t' := s.toks) (fun _ _ q => Heap.get?_push_of_some _ q) (Nat.le_refl _)
    (okN_obj ⟨Nat.zero_le _, beq_eq_false_iff_ne.mpr (Ne.symm (Nat.ne_of_lt I.big)), [], .nil, _, #[], 0, Heap.get?_push_size _ rfl, ⟨rfl, rfl, rfl⟩, rfl, rfl, List.nodup_nil⟩), rfl, h _ _ (I.hok.fresh (Nat.le_refl _)) ⟨[], upd_same, .nil⟩⟩⟩
theorem dn_typeIs {pins : List (Addr × Obj)} {σ : L2.St} {H : Hp} {s : Shared} {a : Addr} {kvs : List (List Leaf × V)} (I : Inv X pins σ H s) (d : DicN X.prog X.w H a kvs) : s.TypeIs (.ref a) "dict" := by
  obtain ⟨_, _, us, _, dd⟩ := dn_of I d
  exact dd.typeIs
theorem pe_dgetN (hu : X.A.units + 1 < cLine) (ho : PE X o td) (hi : PE X i ty) (hs : NoSl i) : PE X (.Subscript o i pos) (tGetN X.prog X.w td ty) := by
  refine ⟨fun pins s σ H Q I h => ?_⟩
  refine subD_of PySem.F.slot_dict_getitem.lookup hs (thn (ho.run pins s σ H _ I h) fun u s1 ⟨x, H1, I1, rx, q1⟩ => thn (hi.run pins s1 σ H1 _ I1 q1) fun iv s2 ⟨y, H2, I2, ry, a, b, kvs, k, v, ex, ey, d, eb, l, q2⟩ => ?_)
  subst ex ey
  obtain rfl : u = Value.ref a := rx
  obtain rfl : iv = Value.ref b := ry
  exact ⟨dn_typeIs I2 d, dn_getItem hu I2 d eb l fun w' s3 I3 rw' => ⟨v, H2, I3, rw', q2⟩⟩
theorem pc_dinN (hu : X.A.units + 1 < cLine) (hi : PE X i ty) (ho : PE X o td) : PC X .In i o (tInN X.prog X.w ty td) := by
  refine ⟨fun pins s σ H Q I h => ?_⟩
  refine thn (hi.run pins s σ H _ I h) fun iv s1 ⟨y, H1, I1, ry, q1⟩ => thn (ho.run pins s1 σ H1 _ I1 q1) fun u s2 ⟨x, H2, I2, rx, a, b, kvs, k, ex, ey, d, eb, q2⟩ => ?_
  subst ex ey
  obtain rfl : u = Value.ref a := rx
  obtain rfl : iv = Value.ref b := ry
  exact dn_in hu I2 d eb fun s3 I3 => ⟨.bl _, H2, I3, rfl, q2⟩
theorem ps_dputN (hu : X.A.units + 1 < cLine) (ho : PE X o td) (hi : PE X i ty) (hv : PE X value tv) (hs : swapsWith value (some (.Subscript o i pos')) pos.line X.env = pure false) :
    PS X (.Assign [.Subscript o i pos'] value pos) (sPutN X.prog X.w td ty tv) := by
  refine ⟨fun pins s σ H D I h => ?_⟩
  refine wpAny_Assign_Subscript (thn (hv.run pins s σ H _ I h) fun r s1 ⟨v, H1, I1, rv, q1⟩ => thn (ho.run pins s1 σ H1 _ I1 q1) fun u s2 ⟨x, H2, I2, rx, q2⟩ => thn (hi.run pins s2 σ H2 _ I2 q2) fun iv s3 ⟨y, H3, I3, ry, a, b, kvs, k, ex, ey, d, eb, l, q3⟩ => ?_) hs
  subst ex ey
  obtain rfl : u = Value.ref a := rx
  obtain rfl : iv = Value.ref b := ry
  exact dn_setItem hu I3 d eb l rv fun ob s4 d' I4 => ⟨σ, _, I4, q3 ob d'⟩
end
/-! ### list(d), list(d.keys()) -/
theorem raw_of {P : Program} {w : World} {K : Type} [DecidableEq K] {knd : HeapKind P w K} {h : Heap} {d : Addr} {us : List (K × Addr × Value)} (x : h.DictOfH knd d us) : ∃ es ep, h.DictRaw d es ep ∧ es.size = us.length ∧ ∀ i (hi : i < es.size), ∃ k c v, us[i]? = some (k, c, v) ∧ es[i].key = .ref c := by
  obtain ⟨o, es, ep, h1, h2, h3, h4, _, _⟩ := x
  have hz : es.size = us.length := size_of_entries h4
  refine ⟨es, ep, ⟨o, h1, h2, h3⟩, hz, fun i hi => ?_⟩
  have e := entry_at h4 i
  rw [Array.getElem?_eq_getElem hi] at e
  cases q : us[i]? with
  | none => rw [q] at e; cases e
  | some u =>
    rw [q] at e
    have e' := Option.some.inj (show some es[i] = some (entryOfKey knd u) from e)
    exact ⟨u.1, u.2.1, u.2.2, rfl, by rw [e']; rfl⟩
theorem refs_vals {α : Type} : ∀ {us : List (α × Addr × Value)} {acc : List Value}, acc.length = us.length → (∀ (i : Nat) (v : Value), acc[i]? = some v → ∃ k c x, us[i]? = some (k, c, x) ∧ v = .ref c) → Vals (us.map fun u => V.ref u.2.1) acc
  | [], [], _, _ => .nil
  | u :: us, v :: acc, hl, h => by
    obtain ⟨k, c, x, e1, e2⟩ := h 0 v rfl
    have e1' : u = (k, c, x) := Option.some.inj e1
    subst e1' e2
    rw [List.map_cons]
    exact .cons rfl (refs_vals (by simpa using hl) fun i w e => by
      obtain ⟨k, c, x, a, b⟩ := h (i + 1) w (by simpa using e)
      exact ⟨k, c, x, by simpa using a, b⟩)
  | [], _ :: _, hl, _ => by simp at hl
  | _ :: _, [], hl, _ => by simp at hl
section
variable {X : Cx}
/-- the tuples that are the keys, in their order -/
def rKeysN (P : Program) (w : World) : List V → Hp → VK → Prop := fun xs H Q => ∃ (a : Addr) (kvs : List (List Leaf × V)), xs = [.ref a] ∧ DicN P w H a kvs ∧
  ∀ (cs : List Addr) (p : Addr), Paired (fun c (kv : List Leaf × V) => H c = some (.tup (kv.1.map lfV))) cs kvs → H p = none → Q (.ref p) (upd H p (.lst (cs.map V.ref)))
theorem ktn_addrs {H : Hp} : ∀ {kvs : List (List Leaf × V)} {us : List UN}, KTN H kvs us → Paired (fun c (kv : List Leaf × V) => H c = some (.tup (kv.1.map lfV))) (us.map (·.2.1)) kvs
  | _, _, .nil => .nil
  | _, _, .cons h t => .cons h.2.1 (ktn_addrs t)
theorem call_listN (hc : X.calm = true) : CallR X (.type "list") (rKeysN X.prog X.w) := by
  intro pins s σ H xs us Q I r h
  obtain ⟨a, kvs, rfl, d, q⟩ := h
  rw [Vals.ref1 r]
  obtain ⟨z, hd, ys, rel, dd⟩ := dn_of I d
  obtain ⟨es, ep, raw, hz, hk⟩ := raw_of dd
  have hlen : kvs.length = ys.length := Paired.length rel
  refine PySem.W.kdl_call (KdlSrc.rawDict (ep := ep) hd) (I.ok.hd hc) raw (by rw [hz, ← hlen]; exact z) fun h' tk acc c keep hS hacc => ?_
  have hv : Vals (ys.map fun u => V.ref u.2.1) acc.toList := refs_vals (by rw [Array.length_toList, hacc.1, hz]) fun i v e => by
    obtain ⟨hi, e2⟩ := hacc.2 i v (by rw [← Array.getElem?_toList]; exact e)
    obtain ⟨k, c, x, e3, e4⟩ := hk i hi
    exact ⟨k, c, x, e3, by rw [e2, e4]⟩
  have em : (ys.map fun u => V.ref u.2.1) = (ys.map (·.2.1)).map V.ref := by rw [List.map_map]; rfl
  rw [em] at hv
  exact ⟨.ref _, _, I.laid (t' := tk) keep (Nat.le_refl _) (show ObjOk _ _ _ _ _ (.lst ((ys.map (·.2.1)).map V.ref)) from ⟨by rw [List.length_map, List.length_map, ← hlen]; exact z, acc.toList, c, hv, by simpa using hS⟩), rfl, q _ _ (ktn_addrs rel) (I.hok.fresh (Nat.le_refl _))⟩
/-- the view d.keys() -/
def keysO (p d : Addr) : HO := .ext fun h => PySem.W.KdlKeysView h p d
theorem keysO_ok {P : Program} {w : World} {H : Hp} {h : Heap} {p d : Addr} (e : h.get? p = some { cls := .type "dict_keys", data := .fields #[.ref d] }) : ObjOk P w H h p (keysO p d) :=
  ⟨⟨_, e, rfl, rfl⟩, ⟨_, e⟩, fun h1 h2 ⟨o, a, b⟩ k => ⟨o, k o a, b⟩⟩
def rKeysT : V → List V → Hp → VK → Prop := fun x xs H Q => ∃ (a : Addr) (kvs : List (List Key × V)), x = .ref a ∧ xs = [] ∧ H a = some (.dT kvs) ∧ ∀ p, H p = none → Q (.ref p) (upd H p (keysO p a))
theorem mt_keysT : MtR X "dict.keys" rKeysT := by
  intro pins s σ H x xs v us Q I rx rxs h
  obtain ⟨a, kvs, rfl, rfl, ha, q⟩ := h
  cases rx
  cases rxs
  obtain ⟨z, hd, ys, rel, dd⟩ := dt_of I.hok ha
  obtain ⟨es, ep, raw, _, _⟩ := raw_of dd
  refine call_meetsIn PySem.F.slot_dict_keys raw.typeIs PySem.F.entry_dict_keys (PySem.F.args_dict_keys_1 _) (meets_dict_keys_raw a hd) ⟨⟨es, ep, raw⟩, ?_⟩
  exact ⟨.ref s.heap.objs.size, _, I.laid (t' := s.toks) (fun _ _ e => Heap.get?_push_of_some _ e) (Nat.le_refl _) (keysO_ok (Heap.get?_push_size _ rfl)), rfl, q _ (I.hok.fresh (Nat.le_refl _))⟩
/-- list of such a view -/
def rListKeysT : List V → Hp → VK → Prop := fun xs H Q => ∃ (p a : Addr) (kvs : List (List Key × V)), xs = [.ref p] ∧ H p = some (keysO p a) ∧ H a = some (.dT kvs) ∧
  ∀ (cs : List Addr) (l : Addr), Paired (fun c (kv : List Key × V) => H c = some (.tup (kv.1.map kV))) cs kvs → H l = none → Q (.ref l) (upd H l (.lst (cs.map V.ref)))
theorem kt_addrs {H : Hp} : ∀ {kvs : List (List Key × V)} {us : List (List Key × Addr × Value)}, KT H kvs us → Paired (fun c (kv : List Key × V) => H c = some (.tup (kv.1.map kV))) (us.map (·.2.1)) kvs
  | _, _, .nil => .nil
  | _, _, .cons h t => .cons h.2.1 (kt_addrs t)
theorem call_listKeysT (hc : X.calm = true) : CallR X (.type "list") rListKeysT := by
  intro pins s σ H xs us Q I r h
  obtain ⟨p, a, kvs, rfl, hp, ha, q⟩ := h
  rw [Vals.ref1 r]
  obtain ⟨z, hd, ys, rel, dd⟩ := dt_of I.hok ha
  obtain ⟨es, ep, raw, hz, hk⟩ := raw_of dd
  have view : PySem.W.KdlKeysView s.heap p a := (I.hok p _ hp).1
  have hlen : kvs.length = ys.length := Paired.length rel
  refine PySem.W.kdl_call (KdlSrc.rawKeys (r := p) (ep := ep)) (I.ok.hd hc) ⟨view, raw⟩ (by rw [hz, ← hlen]; exact z) fun h' tk acc c keep hS hacc => ?_
  have hv : Vals (ys.map fun u => V.ref u.2.1) acc.toList := refs_vals (by rw [Array.length_toList, hacc.1, hz]) fun i v e => by
    obtain ⟨hi, e2⟩ := hacc.2 i v (by rw [← Array.getElem?_toList]; exact e)
    obtain ⟨k, c, x, e3, e4⟩ := hk i hi
    exact ⟨k, c, x, e3, by rw [e2, e4]⟩
  have em : (ys.map fun u => V.ref u.2.1) = (ys.map (·.2.1)).map V.ref := by rw [List.map_map]; rfl
  rw [em] at hv
  exact ⟨.ref _, _, I.laid (t' := tk) keep (Nat.le_refl _) (show ObjOk _ _ _ _ _ (.lst ((ys.map (·.2.1)).map V.ref)) from ⟨by rw [List.length_map, List.length_map, ← hlen]; exact z, acc.toList, c, hv, by simpa using hS⟩), rfl, q _ _ (kt_addrs rel) (I.hok.fresh (Nat.le_refl _))⟩
end
end Tsf
/-! != of two dicts whose values are data, and of two lists of data, where they are equal. -/
namespace Tsf
open PySem PySem.Spec PyProof.Rows L2
section
variable {X : Cx} {pins : List (Addr × Obj)} {σ : L2.St} {H : Hp} {s : Shared}
theorem hits_dt {κ : Type} [DecidableEq κ] (I : Inv X pins σ H s) {A : Around} (hu : A.units + 64 < cLine) {ls : List (κ × V)} {vb : List (κ × Value)} (rb : KV ls vb) {ks : List (κ × V)} {va : List (κ × Value)} (ra : KV ks va) :
    (∀ p ∈ ks, ∃ u d, valV ls p.1 = some u ∧ Dt H p.2 d ∧ Dt H u d ∧ d.depth ≤ 60) → PySem.W.KeqHits A s vb va true := by
  unfold KV at ra
  induction ra with
  | nil => intro _; exact .nil
  | @cons p q ps qs h t ih =>
    intro hp
    obtain ⟨h1, h2⟩ := h
    obtain ⟨u, d, e, d1, d2, dd⟩ := hp p List.mem_cons_self
    have rr : RelO (some u) (valueAt vb p.1) := by rw [← e]; exact rb.val p.1
    obtain ⟨y, hy, ry⟩ := rr.some_of
    obtain ⟨k, v⟩ := q
    have h1' : p.1 = k := h1
    rw [h1'] at hy
    obtain ⟨as, r1⟩ := Dp.reads I d p.2 v d1.dp h2
    obtain ⟨bs, r2⟩ := Dp.reads I d u y d2.dp ry
    have e1 := SeqAt.eqAt_reads d d A s v y as bs r1 r2 d1.lay d1.lay (by rw [Nat.min_self]; omega)
    rw [SeqAt.eqv_refl d d1.lay] at e1
    show PySem.W.KeqHits A s vb ((k, v) :: qs) (true && true)
    exact .hit hy e1 (ih fun p' hm => hp p' (List.mem_cons_of_mem _ hm))
/-- d != e, two dicts that are equal -/
def rNeDT : R2 := fun x y H Q => ∃ a b ks ls, x = .ref a ∧ y = .ref b ∧ H a = some (.dK ks) ∧ H b = some (.dK ls) ∧ ks.length = ls.length ∧ (∀ p ∈ ks, ∃ u d, valV ls p.1 = some u ∧ Dt H p.2 d ∧ Dt H u d ∧ d.depth ≤ 60) ∧ Q (.bl false) H
theorem op_neDT (hu : X.A.units + 70 < cLine) : OpR X (compareOp .NotEq) rNeDT := by
  intro pins s σ H x y v u Q I rx ry h
  obtain ⟨a, b, ks, ls, rfl, rfl, ea, eb, hlen, hp, q⟩ := h
  obtain rfl : v = Value.ref a := rx
  obtain rfl : u = Value.ref b := ry
  obtain ⟨_, ya, va, ra, da⟩ := (show ObjOk X.prog X.w H s.heap a (.dK ks) from I.hok a _ ea)
  obtain ⟨_, yb, vb, rb, db⟩ := (show ObjOk X.prog X.w H s.heap b (.dK ls) from I.hok b _ eb)
  have hl : va.length = vb.length := by rw [← ra.length, ← rb.length]; exact hlen
  exact PySem.W.keq_ne (knd := mixKind X.prog X.w) (r := true) ya yb da db (by omega) (fun _ => hits_dt I (by show X.A.units + 1 + 64 < cLine; omega) rb ra hp) (fin_bl I q (by simp [hl]))
/-- xs != ys, two lists of equal data -/
def rNeLT (K : PySem.W.Frag) : R2 := fun x y H Q => ∃ a b xs ys ds, x = .ref a ∧ y = .ref b ∧ SqL K H a xs ∧ SqL K H b ys ∧ DtAll H xs ds ∧ DtAll H ys ds ∧ (∀ d ∈ ds, d.depth ≤ 60) ∧ Q (.bl false) H
theorem op_neLT (hu : X.A.units + 70 < cLine) : OpR X (compareOp .NotEq) (rNeLT X.K) := by
  intro pins s σ H x y v u Q I rx ry h
  obtain ⟨a, b, xs, ys, ds, rfl, rfl, ha, hb, d1, d2, dd, q⟩ := h
  have e1 : (PyData.list ds).canLay0 = true := by simpa [PyData.canLay0] using d1.lay
  have sh : SeqAt.shaped (.list ds) = true := by
    unfold SeqAt.shaped
    have e2 : (PyData.list ds).depth ≤ 64 := by
      have := depthAll_le dd
      simp only [PyData.depth]
      omega
    rw [e1, Bool.true_and, decide_eq_true_eq]
    exact e2
  refine op_neD (by omega) pins s σ H (.ref a) (.ref b) v u Q I rx ry ⟨.list ds, .list ds, .lst ha d1.dp, .lst hb d2.dp, sh, sh, ?_⟩
  rw [SeqAt.eqv_refl _ e1]
  exact q
end
end Tsf
/-! THE THINGS AS DATA: words, documents, patterns, questions, versions, changes, places, postings, timelines. -/
namespace Tsf
open PySem PySem.Spec PyProof.Rows L2
/-- a pattern: its kind, its word -/
abbrev Pat := Str × Str
def fitsS (w : Str) (p : Pat) : Bool := if p.1 = ("start" : Str) then Txt.startswith w p.2 else decide (w = p.2)
abbrev Doc := List Str
abbrev Q_ := Ts.Qn Pat
abbrev Ver_ := Ts.Ver Doc
/-- time, key, text -/
abbrev Chg_ := Ts.Chg Str (Option Str)
/-- key, start, end -/
abbrev Plc := Str × Int × Option Int
/-- word, key, start, end, places -/
abbrev Post := Str × Str × Int × Option Int × List Int
def ePat (p : Pat) : PyData := .tuple [.str p.1, .str p.2]
def eDoc (d : Doc) : PyData := .tuple (d.map .str)
def eOpt : Option Int → PyData
  | none => .none
  | some z => .int z
def eTxt : Option Str → PyData
  | none => .none
  | some z => .str z
def eVer (v : Ver_) : PyData := .tuple [.int v.1, eOpt v.2.1, eDoc v.2.2]
def eChg (c : Chg_) : PyData := .tuple [.int c.1, .str c.2.1, eTxt c.2.2]
def ePlc (p : Plc) : PyData := .tuple [.str p.1, .int p.2.1, eOpt p.2.2]
def eInts (l : List Int) : PyData := .tuple (l.map .int)
def ePost (p : Post) : PyData := .tuple [.str p.1, .str p.2.1, .int p.2.2.1, eOpt p.2.2.2.1, eInts p.2.2.2.2]
def eQn : Q_ → PyData
  | .row ps g => .tuple [.str "row", .tuple (ps.map ePat), .int g]
  | .all => .tuple [.str "all"]
  | .not q => .tuple [.str "not", eQn q]
  | .and a b => .tuple [.str "and", .tuple [eQn a, eQn b]]
  | .or a b => .tuple [.str "or", .tuple [eQn a, eQn b]]
theorem map_inj {α β : Type} {f : α → β} (hf : ∀ x y, f x = f y → x = y) : ∀ {a b : List α}, a.map f = b.map f → a = b
  | [], [], _ => rfl
  | [], _ :: _, h => by simp at h
  | _ :: _, [], h => by simp at h
  | x :: a, y :: b, h => by
    rw [List.map_cons, List.map_cons] at h
    injection h with h1 h2
    rw [hf x y h1, map_inj hf h2]
theorem eOpt_inj {a b : Option Int} (h : eOpt a = eOpt b) : a = b := by
  cases a <;> cases b <;> simp_all [eOpt]
theorem eInts_inj {a b : List Int} (h : eInts a = eInts b) : a = b := by
  have h' := PyData.tuple.inj h
  exact map_inj (fun x y e => PyData.int.inj e) h'
theorem ePost_inj {p q : Post} (h : ePost p = ePost q) : p = q := by
  obtain ⟨a, b, c, d, e⟩ := p
  obtain ⟨a', b', c', d', e'⟩ := q
  simp only [ePost, PyData.tuple.injEq, List.cons.injEq, PyData.str.injEq, PyData.int.injEq, and_true] at h
  obtain ⟨h1, h2, h3, h4, h5⟩ := h
  rw [h1, h2, h3, eOpt_inj h4, eInts_inj h5]
theorem ePat_inj {p q : Pat} (h : ePat p = ePat q) : p = q := by
  obtain ⟨a, b⟩ := p
  obtain ⟨a', b'⟩ := q
  simp only [ePat, PyData.tuple.injEq, List.cons.injEq, PyData.str.injEq, and_true] at h
  rw [h.1, h.2]
theorem eDoc_inj {a b : Doc} (h : eDoc a = eDoc b) : a = b :=
  map_inj (fun x y e => PyData.str.inj e) (PyData.tuple.inj h)
theorem depth_strs : ∀ xs : List Str, PyData.depthAll (xs.map .str) = 0
  | [] => by simp [PyData.depthAll]
  | x :: xs => by
    show PyData.depthAll (.str x :: xs.map .str) = 0
    rw [PyData.depthAll, depth_strs xs]
    simp [PyData.depth]
theorem depth_opt (o : Option Int) : (eOpt o).depth = 0 := by cases o <;> simp [eOpt, PyData.depth]
theorem depth_doc (d : Doc) : (eDoc d).depth ≤ 60 := by
  show PyData.depthAll (d.map .str) + 1 ≤ 60
  rw [depth_strs]; omega
theorem depth_ints' (l : List Int) : (eInts l).depth ≤ 60 := by
  show PyData.depthAll (l.map .int) + 1 ≤ 60
  rw [PySem.W.depth_ints]; omega
theorem depth_post (p : Post) : (ePost p).depth ≤ 60 := by
  have h := depth_opt p.2.2.2.1
  have h2 : (eInts p.2.2.2.2).depth = 1 := by
    show PyData.depthAll (p.2.2.2.2.map .int) + 1 = 1
    rw [PySem.W.depth_ints]
  simp [ePost, PyData.depth, PyData.depthAll, h, h2]
theorem depth_pat (p : Pat) : (ePat p).depth ≤ 60 := by simp [ePat, PyData.depth, PyData.depthAll]
/-- an option of an int as a value -/
def oV : Option Int → V
  | none => .non
  | some z => .int z
theorem Dt.opt_inv {H : Hp} {v : V} {o : Option Int} (h : Dt H v (eOpt o)) : v = oV o := by
  cases o with
  | none => exact h.non_inv
  | some z => exact h.int_inv
theorem dt_opt {H : Hp} (o : Option Int) : Dt H (oV o) (eOpt o) := by
  cases o with
  | none => exact .non
  | some z => exact .int z
end Tsf
/-! matching.py -/
namespace Tsf
open PySem PySem.Spec PyProof.Rows L2
section
variable {P : Program} {w : World} {K : PySem.W.Frag} {mg : Str → Option Value} {base : Heap}
def spFits : Sp := fun vs H Q _ => ∃ (x : Str) (pv : V) (p : Pat), vs = [.str x, pv] ∧ Dt H pv (ePat p) ∧ Q (.bl (fitsS x p)) H
theorem con_fits (T : Tx K mg) : Con P w K mg base 1 (He.ga K "fits") ["word", "pattern"] spFits := by
  obtain ⟨fd, F⟩ := T.d_fits
  refine ⟨fd, F.ok sc_fits (fun vs H Q E h => ?_) (fun cdv A outer s H vs Q E hr h => ?_), F.bindsN fun _ _ _ _ _ _ us hl => match us, hl with | [_, _], _ => rfl, F.kp⟩
  · obtain ⟨x, pv, p, rfl, _⟩ := h
    rfl
  · obtain ⟨x, pv, p, rfl, hp, k⟩ := h
    obtain ⟨a, u, v, rfl, ha, hu, hv⟩ := hp.t2
    obtain ⟨rfl, _⟩ := hu.str_inv
    obtain ⟨rfl, _⟩ := hv.str_inv
    refine ⟨_, PSs.nox (pss_cons (ps_if (pt_cmpR op_eq (pe_ix ix_tup (pv 1) pe_int (fun _ _ => rfl)) pe_str (nomark _)) (pss_one (ps_ret (pe_m1 PySem.F.slot_str_startswith PySem.F.type_str_startswith mt_startswith (pv 0) (pe_ix ix_tup (pv 1) pe_int (fun _ _ => rfl))))) pss_nil)
      (pss_one (ps_ret (pe_cmpR op_eq (pv 0) (pe_ix ix_tup (pv 1) pe_int (fun _ _ => rfl)) (nomark _))))), ?_⟩
    refine ⟨_, rfl, a, _, _, _, rfl, rfl, SqT.of ha, atI_nat (j := 0) rfl, rfl, _, rfl, ?_⟩
    refine ite2 (fun c => ?_) (fun c => ?_)
    · have e : p.1 = ("start" : Str) := V.str.inj (of_decide_eq_true c)
      refine ⟨_, rfl, ⟨_, rfl⟩, _, rfl, a, _, _, _, rfl, rfl, SqT.of ha, atI_nat (j := 1) rfl, x, p.2, rfl, rfl, ?_⟩
      have e2 : fitsS x p = Txt.startswith x p.2 := if_pos e
      rw [← e2]
      exact k
    · have e : ¬ p.1 = ("start" : Str) := fun z => c (decide_eq_true (by rw [z]))
      refine ⟨_, rfl, _, rfl, a, _, _, _, rfl, rfl, SqT.of ha, atI_nat (j := 1) rfl, rfl, ?_⟩
      have e2 : fitsS x p = decide (V.str x = V.str p.2) := by
        unfold fitsS
        rw [if_neg e]
        by_cases q : x = p.2
        · rw [q]; simp
        · have q2 : ¬ V.str x = V.str p.2 := fun z => q (V.str.inj z)
          simp [q]
      rw [← e2]
      exact k
end
end Tsf
/-! matching.first_standing -/
namespace Tsf
open PySem PySem.Spec PyProof.Rows L2
/-- the questions of this law: rows of 1 to 6 patterns, gaps 0 to 9 -/
def fine : Q_ → Prop
  | .row ps g => ps ≠ [] ∧ ps.length ≤ 6 ∧ 0 ≤ g ∧ g ≤ 9
  | .all => True
  | .not q => fine q
  | .and a b => fine a ∧ fine b
  | .or a b => fine a ∧ fine b
theorem fine_well : ∀ {q : Q_}, fine q → q.well
  | .row _ _, h => ⟨h.1, h.2.2.1⟩
  | .all, _ => trivial
  | .not q, h => fine_well (q := q) h
  | .and _ _, h => ⟨fine_well h.1, fine_well h.2⟩
  | .or _ _, h => ⟨fine_well h.1, fine_well h.2⟩
theorem range'_snoc : ∀ (d lo : Nat), List.range' lo (d + 1) = List.range' lo d ++ [lo + d]
  | 0, lo => by simp
  | d + 1, lo => by
    rw [List.range'_succ, range'_snoc d (lo + 1), List.range'_succ, List.cons_append]
    congr 2
    congr 1
    omega
theorem inner_snoc {ps : List Pat} {doc : Doc} {lo d k : Nat} : Ts.inner fitsS ps doc lo (d + 1) k = Ts.inStep fitsS ps doc (Ts.inner fitsS ps doc lo d k) (lo + d) := by
  unfold Ts.inner
  rw [range'_snoc, List.foldl_append]
  rfl
theorem inStep_le {ps : List Pat} {doc : Doc} {k i : Nat} (h : k ≤ ps.length) : Ts.inStep fitsS ps doc k i ≤ ps.length := by
  unfold Ts.inStep
  split
  · rename_i p e
    have := (List.getElem?_eq_some_iff.mp e).1
    split <;> omega
  · exact h
theorem inner_le {ps : List Pat} {doc : Doc} {lo k : Nat} (h : k ≤ ps.length) : ∀ d, Ts.inner fitsS ps doc lo d k ≤ ps.length
  | 0 => h
  | d + 1 => by rw [inner_snoc]; exact inStep_le (inner_le h d)
theorem dtAll_nth {H : Hp} {α : Type} {e : α → PyData} {l : List α} {vs : List V} {i : Nat} (h : DtAll H vs (l.map e)) (hi : i < l.length) : ∃ v, vs[i]? = some v ∧ Dt H v (e l[i]) :=
  h.mat (List.getElem?_eq_getElem hi)
section
variable {P : Program} {w : World} {K : PySem.W.Frag} {mg : Str → Option Value} {base : Heap}
def spFS : Sp := fun vs H Q _ => ∃ (dv rv : V) (d : Doc) (ps : List Pat) (g : Int), vs = [dv, rv] ∧ Dt H dv (eDoc d) ∧ Dt H rv (eQn (.row ps g)) ∧ fine (.row ps g) ∧ d.length ≤ 1000 ∧
  ∀ v H', Same H H' → decide (v = V.non) = !Ts.stands fitsS ps g d → Q v H'
theorem con_first_standing (T : Tx K mg) : Con P w K mg base 2 (He.ga K "first_standing") ["document", "row"] spFS := by
  obtain ⟨fd, F⟩ := T.d_first_standing
  obtain ⟨fdf, GF, bF, kF⟩ := con_fits (P := P) (w := w) (base := base) T
  refine ⟨fd, F.ok sc_first_standing (fun vs H Q E h => ?_) (fun cdv A outer s H vs Q E hr h => ?_), F.bindsN fun _ _ _ _ _ _ us hl => match us, hl with | [_, _], _ => rfl, F.kp⟩
  · obtain ⟨dv, rv, d, ps, g, rfl, _⟩ := h
    rfl
  · obtain ⟨dv, rv, d, ps, g, rfl, hd, hrow, ⟨hne, h6, hg0, hg9⟩, hlen, k⟩ := h
    obtain ⟨da, dxs, rfl, hda, hdx⟩ := hd.tupN
    obtain ⟨rfl, hstr⟩ := dtAll_strs_inv hdx
    obtain ⟨ra, u1, u2, u3, rfl, hra, hu1, hu2, hu3⟩ := hrow.t3
    obtain ⟨pa, pvs, rfl, hpa, hpv⟩ := hu2.tupN
    obtain rfl := hu3.int_inv
    have hpl : pvs.length = ps.length := by rw [hpv.length, List.length_map]
    have nd := sc_first_standing.nd
    refine ⟨_, PSs.nox (pss_cons (ps_set (i := 2) nd rfl (.inl rfl) (pe_ix ix_tup (pv 1) pe_int (fun _ _ => rfl)))
      (pss_cons (ps_set (i := 3) nd rfl (.inl rfl) (pe_op op_add (pe_op op_sub (pe_callB call_len_seq (by rfl) T.z_len PySem.boot_len (pa_cons (pv 2) pa_nil)) pe_int) (pe_ix ix_tup (pv 1) pe_int (fun _ _ => rfl))))
      (pss_cons (ps_for PassesOwn.never rfl (pi_range1 (by rfl) T.z_range (pa_cons (pe_callB call_len_seq (by rfl) T.z_len PySem.boot_len (pa_cons (pv 0) pa_nil)) pa_nil)) (pg_name (i := 4) nd rfl (.inl rfl))
        (pss_one (ps_if (pt_val (pe_call GF hr (by rfl) T.g_fits kF bF .nil pass0 (pa_cons (pe_ix ix_tup (pv 0) (pv 4) (fun _ _ => rfl)) (pa_cons (pe_ix ix_tup (pv 2) pe_int (fun _ _ => rfl)) pa_nil))))
          (pss_cons (ps_set (i := 5) nd rfl (.inl rfl) (pe_lst (pa_cons (pv 4) pa_nil)))
          (pss_cons (ps_for PassesOwn.never rfl (pi_range2 (by rfl) T.z_range (pa_cons (pe_op op_add (pv 4) pe_int) (pa_cons (pe_callB (call_min2 rfl) (by rfl) T.z_min (by decide +kernel)
              (pa_cons (pe_callB call_len_seq (by rfl) T.z_len PySem.boot_len (pa_cons (pv 0) pa_nil)) (pa_cons (pe_op op_add (pe_op op_add (pv 4) (pv 3)) pe_int) pa_nil))) pa_nil))) (pg_name (i := 6) nd rfl (.inl rfl))
            (pss_one (ps_if (PW.pt (pw_and (pt_cmpR op_lt (pe_callB call_len_seq (by rfl) T.z_len PySem.boot_len (pa_cons (pv 5) pa_nil)) (pe_callB call_len_seq (by rfl) T.z_len PySem.boot_len (pa_cons (pv 2) pa_nil)) (nomark _))
                (pw_and1 (pt_val (pe_call GF hr (by rfl) T.g_fits kF bF .nil pass0 (pa_cons (pe_ix ix_tup (pv 0) (pv 6) (fun _ _ => rfl)) (pa_cons (pe_ix ix_tup (pv 2) (pe_callB call_len_seq (by rfl) T.z_len PySem.boot_len (pa_cons (pv 5) pa_nil)) (fun _ _ => rfl)) pa_nil)))))))
              (pss_one (ps_expr (pe_bm PySem.F.plainAttrs_list PySem.F.slot_list_append PySem.F.type_list_append mt_append (pv 5) (pa_cons (pv 6) pa_nil)))) pss_nil)))
          (pss_one (ps_if (pt_cmpR op_eq (pe_callB call_len_seq (by rfl) T.z_len PySem.boot_len (pa_cons (pv 5) pa_nil)) (pe_callB call_len_seq (by rfl) T.z_len PySem.boot_len (pa_cons (pv 2) pa_nil)) (nomark _))
            (pss_one (ps_ret (pe_callTy call_tuple_of (by rfl) T.z_tuple (by decide +kernel) (pa_cons (pv 5) pa_nil)))) pss_nil)))) pss_nil)))
      (pss_one (ps_ret pe_non))))), ?_⟩
    refine ⟨_, rfl, ra, _, _, _, rfl, rfl, SqT.of hra, atI_nat (j := 1) rfl, ?_⟩
    refine ⟨_, rfl, pa, _, rfl, .inr (SqT.of hpa), _, _, rfl, rfl, _, rfl, ra, _, _, _, rfl, rfl, SqT.of hra, atI_nat (j := 2) rfl, _, _, rfl, rfl, ?_⟩
    refine ⟨_, rfl, da, _, rfl, .inr (SqT.of hda), _, rfl, by rw [List.length_map]; omega, by rw [List.length_map]; omega, ?_⟩
    have hn : (((d.map V.str).length : Nat) : Int).toNat = d.length := by rw [List.length_map]; omega
    refine for_range (lo := 0) (n := (((d.map V.str).length : Nat) : Int).toNat) (fun i σ H1 => ∃ (v4 v5 v6 : Option V), σ = [some (.ref da), some (.ref ra), some (.ref pa), some (.int (((pvs.length : Nat) : Int) - 1 + g)), v4, v5, v6] ∧ Same H H1 ∧ ∀ j, j < i → Ts.standsAt fitsS ps g d j = false)
      ⟨none, none, none, rfl, Same.refl H, fun j hj => absurd hj (Nat.not_lt_zero _)⟩ ?_ ?_
    · rintro i σ H1 hi ⟨v4, v5, v6, rfl, s1, hno⟩
      rw [hn] at hi
      obtain ⟨p0, pr, rfl⟩ : ∃ p r, ps = p :: r := by
        cases ps with
        | nil => exact absurd rfl hne
        | cons p r => exact ⟨p, r, rfl⟩
      obtain ⟨pv0, hp0, dp0⟩ := dtAll_nth hpv (i := 0) (by simp)
      have ez : (0 : Int) + (i : Nat) = ((i : Nat) : Int) := Int.zero_add _
      have hdi : (d.map V.str)[i]? = some (V.str d[i]) := by rw [List.getElem?_map, List.getElem?_eq_getElem hi]; rfl
      refine ⟨_, rfl, _, rfl, da, _, _, _, rfl, rfl, SqT.of (s1 _ _ hda), at_of ez hdi, _, rfl, pa, _, _, _, rfl, rfl, SqT.of (s1 _ _ hpa), atI_nat (j := 0) hp0, d[i], pv0, p0, rfl, dp0.tk (tk_same s1), _, rfl, ?_⟩
      have hfit : Ts.fitAt fitsS d i p0 = fitsS d[i] p0 := by
        unfold Ts.fitAt
        rw [List.getElem?_eq_getElem hi]
      refine ite2 (fun c => ?_) (fun c => ?_)
      · -- places = [start]
        refine ⟨_, rfl, by show 1 ≤ sizeLine; decide, fun pl hpl0 => ?_⟩
        refine ⟨_, rfl, _, _, rfl, rfl, _, rfl, da, _, rfl, .inr (SqT.of (by rw [upd_ne (ne_of_none (s1 _ _ hda) hpl0)]; exact s1 _ _ hda)), _, rfl, _, rfl, _, _, rfl, rfl, _, _, rfl, rfl, _, _, rfl, _, _, rfl, ?_, ?_⟩
        · rw [List.length_map]
          refine ⟨by omega, by omega, ?_, ?_⟩ <;> split <;> omega
        · have hB : ((if (0 : Int) + (i : Nat) + ((((pvs.length : Nat) : Int) - 1) + g) + 1 < (((d.map V.str).length : Nat) : Int) then (0 : Int) + (i : Nat) + ((((pvs.length : Nat) : Int) - 1) + g) + 1 else (((d.map V.str).length : Nat) : Int)) - ((0 : Int) + (i : Nat) + 1)).toNat = Ts.bound (p0 :: pr) g d i - (i + 1) := by
            unfold Ts.bound
            rw [List.length_map, hpl]
            split <;> omega
          have sH2 : ∀ H2 : Hp, Same H1 H2 → Same H H2 := fun H2 q => s1.trans q
          refine for_range (lo := (0 : Int) + (i : Nat) + 1) (fun j σ H2 => ∃ (v6 : Option V) (xs : List V), σ = [some (.ref da), some (.ref ra), some (.ref pa), some (.int (((pvs.length : Nat) : Int) - 1 + g)), some (.int ((0 : Int) + (i : Nat))), some (.ref pl), v6] ∧
              Same H1 H2 ∧ H2 pl = some (.lst xs) ∧ xs.length = Ts.inner fitsS (p0 :: pr) d (i + 1) j 1)
            ⟨v6, [.int ((0 : Int) + (i : Nat))], rfl, same_new hpl0, upd_same, rfl⟩ ?_ ?_
          · rintro j σ H2 hj ⟨w6, xs, rfl, s2, hxs, hxl⟩
            have hxle : xs.length ≤ (p0 :: pr).length := by rw [hxl]; exact inner_le (by simp) j
            refine ⟨_, rfl, pl, _, rfl, .inl (SqL.of hxs), _, rfl, pa, _, rfl, .inr (SqT.of (sH2 _ s2 _ _ hpa)), _, _, rfl, rfl, _, rfl, ?_⟩
            have hjd : i + 1 + j < d.length := by
              have h1 : j < Ts.bound (p0 :: pr) g d i - (i + 1) := by rw [← hB]; exact hj
              unfold Ts.bound at h1
              omega
            have ezj : (0 : Int) + (i : Nat) + 1 + (j : Nat) = ((i + 1 + j : Nat) : Int) := by omega
            refine ite2 (fun c1 => ?_) (fun c1 => ?_)
            · have hlt : xs.length < (p0 :: pr).length := by
                have := of_decide_eq_true c1
                rw [hpl] at this
                omega
              obtain ⟨pvk, hpk, dpk⟩ := dtAll_nth hpv (i := xs.length) hlt
              have hdj : (d.map V.str)[i + 1 + j]? = some (V.str d[i + 1 + j]) := by rw [List.getElem?_map, List.getElem?_eq_getElem hjd]; rfl
              have hfj : Ts.fitAt fitsS d (i + 1 + j) (p0 :: pr)[xs.length] = fitsS d[i + 1 + j] (p0 :: pr)[xs.length] := by
                unfold Ts.fitAt
                rw [List.getElem?_eq_getElem hjd]
              have hget : (p0 :: pr)[Ts.inner fitsS (p0 :: pr) d (i + 1) j 1]? = some (p0 :: pr)[xs.length] := by
                rw [← hxl, List.getElem?_eq_getElem hlt]
              refine ⟨_, rfl, _, rfl, da, _, _, _, rfl, rfl, SqT.of (sH2 _ s2 _ _ hda), at_of ezj hdj, _, rfl, _, rfl, pl, _, rfl, .inl (SqL.of hxs), pa, _, _, _, rfl, rfl, SqT.of (sH2 _ s2 _ _ hpa), atI_nat hpk, _, pvk, _, rfl, dpk.tk (tk_same (sH2 _ s2)), _, rfl, ?_⟩
              refine ite2 (fun c2 => ?_) (fun c2 => ?_)
              · refine ⟨_, rfl, .inl ⟨rfl, _, SqL.of hxs⟩, _, rfl, pl, xs, _, rfl, rfl, hxs, Nat.lt_of_le_of_lt (Nat.le_trans hxle h6) (by decide), ?_⟩
                refine ⟨_, xs ++ [.int ((0 : Int) + (i : Nat) + 1 + (j : Nat))], rfl, fun b o e => ?_, upd_same, ?_⟩
                · rw [upd_ne (ne_of_none e hpl0)]
                  exact s2 b o e
                · rw [inner_snoc, List.length_append, List.length_singleton, hxl]
                  unfold Ts.inStep
                  rw [hget]
                  dsimp only
                  rw [hfj, if_pos c2]
              · refine ⟨_, xs, rfl, s2, hxs, ?_⟩
                rw [inner_snoc, hxl]
                unfold Ts.inStep
                rw [hget]
                dsimp only
                rw [hfj, if_neg c2]
            · refine iteF ?_
              refine ⟨_, xs, rfl, s2, hxs, ?_⟩
              have hge : ¬ xs.length < (p0 :: pr).length := fun q => c1 (decide_eq_true (by rw [hpl]; omega))
              rw [inner_snoc]
              unfold Ts.inStep
              rw [← hxl, List.getElem?_eq_none (by omega)]
          · rintro σ H2 ⟨w6, xs, rfl, s2, hxs, hxl⟩
            rw [hB] at hxl
            refine ⟨_, rfl, pl, _, rfl, .inl (SqL.of hxs), _, rfl, pa, _, rfl, .inr (SqT.of (sH2 _ s2 _ _ hpa)), rfl, _, rfl, ?_⟩
            refine ite2 (fun c3 => ?_) (fun c3 => ?_)
            · have hfull : xs.length = (p0 :: pr).length := by
                have := V.int.inj (of_decide_eq_true c3)
                rw [hpl] at this
                omega
              refine ⟨_, rfl, pl, xs, rfl, .inl ⟨SqL.of hxs, fun l hl => ?_⟩⟩
              refine k _ _ ((sH2 _ s2).trans (same_new hl)) ?_
              have e1 : Ts.standsAt fitsS (p0 :: pr) g d i = true := by
                show (Ts.fitAt fitsS d i p0 && decide _) = true
                rw [hfit, c, Bool.true_and, decide_eq_true_eq, ← hxl]
                exact hfull
              have e2 : Ts.stands fitsS (p0 :: pr) g d = true := List.any_eq_true.mpr ⟨i, List.mem_range.mpr hi, e1⟩
              rw [e2]
              rfl
            · refine ⟨_, _, _, rfl, sH2 _ s2, fun j' hj' => ?_⟩
              rcases Nat.lt_succ_iff_lt_or_eq.mp hj' with hj' | rfl
              · exact hno j' hj'
              · show (Ts.fitAt fitsS d j' p0 && decide _) = false
                have : ¬ Ts.inner fitsS (p0 :: pr) d (j' + 1) (Ts.bound (p0 :: pr) g d j' - (j' + 1)) 1 = (p0 :: pr).length := fun q => c3 (decide_eq_true (by rw [hpl, ← q, ← hxl]))
                rw [decide_eq_false this, Bool.and_false]
      · refine ⟨_, _, _, rfl, s1, fun j' hj' => ?_⟩
        rcases Nat.lt_succ_iff_lt_or_eq.mp hj' with hj' | rfl
        · exact hno j' hj'
        · show (Ts.fitAt fitsS d j' p0 && decide _) = false
          have : fitsS d[j'] p0 = false := by simpa using c
          rw [hfit, this, Bool.false_and]
    · rintro σ H1 ⟨v4, v5, v6, rfl, s1, hno⟩
      refine k _ _ s1 ?_
      have e : Ts.stands fitsS ps g d = false := by
        unfold Ts.stands
        rw [List.any_eq_false]
        intro j hj
        rw [hno j (by rw [hn]; exact List.mem_range.mp hj)]
        exact Bool.false_ne_true
      rw [e]
      rfl
end
end Tsf
/-! matching.matches -/
namespace Tsf
open PySem PySem.Spec PyProof.Rows L2
theorem take_snoc {α : Type} {l : List α} {i : Nat} {x : α} (h : l[i]? = some x) : l.take (i + 1) = l.take i ++ [x] := by
  rw [List.take_add_one, h]
  rfl
theorem ite_ne {a b : Str} {A B : Prop} (h : ¬ a = b) (hb : B) : if decide (V.str a = V.str b) = true then A else B := by
  rw [if_neg (by simpa using h)]
  exact hb
theorem ite_eq' {a : Str} {A B : Prop} (hb : A) : if decide (V.str a = V.str a) = true then A else B := by
  rw [if_pos (by simp)]
  exact hb
/-- a contract that promises nothing -/
theorem Con.none {P : Program} {w : World} {K : PySem.W.Frag} {mg : Str → Option Value} {base : Heap} {k j : Nat} {f : Addr} {ps : List Str} {sp sp' : Sp} (C : Con P w K mg base j f ps sp) (h : ∀ vs H Q E, ¬ sp' vs H Q E) : Con P w K mg base k f ps sp' := by
  obtain ⟨fd, F, b, kp⟩ := C
  exact ⟨fd, ⟨fun vs H Q E z => absurd z (h _ _ _ _), fun A outer s H args us vs Q E _ _ _ _ z => absurd z (h _ _ _ _)⟩, b, kp⟩
theorem con_void {P : Program} {w : World} {K : PySem.W.Frag} {mg : Str → Option Value} {base : Heap} {k : Nat} {f : Addr} {fd : FuncData} {ps : List Str} {sp' : Sp} (b : Binds K fd ps []) (kp : PySem.W.keepIn K (.ref f) = true) (h : ∀ vs H Q E, ¬ sp' vs H Q E) : Con P w K mg base k f ps sp' :=
  ⟨fd, ⟨fun vs H Q E z => absurd z (h _ _ _ _), fun A outer s H args us vs Q E _ _ _ _ z => absurd z (h _ _ _ _)⟩, b, kp⟩
section
variable {P : Program} {w : World} {K : PySem.W.Frag} {mg : Str → Option Value} {base : Heap}
def spMatch (n : Nat) : Sp := fun vs H Q _ => ∃ (dv qv : V) (d : Doc) (q : Q_), vs = [dv, qv] ∧ Dt H dv (eDoc d) ∧ Dt H qv (eQn q) ∧ fine q ∧ q.depth < n ∧ d.length ≤ 1000 ∧
  ∀ H', Same H H' → Q (.bl (Ts.matchD fitsS d q)) H'
theorem con_matches (T : Tx K mg) : ∀ n, Con P w K mg base (3 + n) (He.ga K "matches") ["document", "question"] (spMatch n) := by
  intro n
  induction n with
  | zero =>
    obtain ⟨fd, F⟩ := T.d_matches
    exact con_void (F.bindsN fun _ _ _ _ _ _ us hl => match us, hl with | [_, _], _ => rfl) F.kp fun vs H Q E ⟨_, _, _, _, _, _, _, _, h, _⟩ => absurd h (Nat.not_lt_zero _)
  | succ n ih =>
    obtain ⟨fd, F⟩ := T.d_matches
    obtain ⟨fdm, GM, bM, kM⟩ := ih
    obtain ⟨fds, GS, bS, kS⟩ := con_first_standing (P := P) (w := w) (base := base) T
    refine ⟨fd, F.ok sc_matches (fun vs H Q E h => ?_) (fun cdv A outer s H vs Q E hr h => ?_), F.bindsN fun _ _ _ _ _ _ us hl => match us, hl with | [_, _], _ => rfl, F.kp⟩
    · obtain ⟨dv, qv, d, q, rfl, _⟩ := h
      rfl
    · obtain ⟨dv, qv, d, q, rfl, hd, hq, hf, hdep, hlen, k⟩ := h
      have nd := sc_matches.nd
      have hr2 : Room 2 _ := hr.mono (show 2 ≤ 3 + n by omega)
      refine ⟨_, PSs.nox (pss_cons (ps_set (i := 2) nd rfl (.inl rfl) (pe_ix ix_tup (pv 1) pe_int (fun _ _ => rfl)))
        (pss_cons (ps_if (pt_cmpR op_eq (pv 2) pe_str (nomark _)) (pss_one (ps_ret (pe_cmpR op_notN (pe_call GS hr2 (by rfl) T.g_first_standing kS bS .nil pass0 (pa_cons (pv 0) (pa_cons (pv 1) pa_nil))) pe_non (nomark _)))) pss_nil)
        (pss_cons (ps_if (pt_cmpR op_eq (pv 2) pe_str (nomark _)) (pss_one (ps_ret pe_bl)) pss_nil)
        (pss_cons (ps_if (pt_cmpR op_eq (pv 2) pe_str (nomark _)) (pss_one (ps_ret (pe_not (pe_call GM hr (by rfl) T.g_matches kM bM .nil pass0 (pa_cons (pv 0) (pa_cons (pe_ix ix_tup (pv 1) pe_int (fun _ _ => rfl)) pa_nil)))))) pss_nil)
        (pss_cons (ps_if (pt_cmpR op_eq (pv 2) pe_str (nomark _)) (pss_one (ps_ret (pe_callB (cr_all rfl) (by rfl) T.z_all (by decide +kernel) (pa_cons
            (pe_lc (own := [("part", 3)]) (g := gName 3) (tt := tYes) rfl nd (pi_tup (pe_ix ix_tup (pv 1) pe_int (fun _ _ => rfl))) (blkOk_by (own := [("part", 3)]) (N := ["document", "question", "kind", "part"]) (sc := defScope s_matches) (by decide +kernel))
              (fun _ _ _ _ _ => pg_name (i := 3) nd rfl (.inl rfl)) (fun _ _ _ _ _ => pts_nil) (fun _ _ _ _ _ => pe_call GM hr (by rfl) T.g_matches kM bM .nil pass0 (pa_cons (pv 0) (pa_cons (pv 3) pa_nil)))) pa_nil)))) pss_nil)
        (pss_one (ps_ret (pe_callB (cr_any rfl) (by rfl) T.z_any (by decide +kernel) (pa_cons
            (pe_lc (own := [("part", 3)]) (g := gName 3) (tt := tYes) rfl nd (pi_tup (pe_ix ix_tup (pv 1) pe_int (fun _ _ => rfl))) (blkOk_by (own := [("part", 3)]) (N := ["document", "question", "kind", "part"]) (sc := defScope s_matches) (by decide +kernel))
              (fun _ _ _ _ _ => pg_name (i := 3) nd rfl (.inl rfl)) (fun _ _ _ _ _ => pts_nil) (fun _ _ _ _ _ => pe_call GM hr (by rfl) T.g_matches kM bM .nil pass0 (pa_cons (pv 0) (pa_cons (pv 3) pa_nil)))) pa_nil))))))))), ?_⟩
      cases q with
      | row ps g =>
        obtain ⟨ra, u1, u2, u3, rfl, hra, hu1, hu2, hu3⟩ := (show Dt H qv (.tuple [.str "row", .tuple (ps.map ePat), .int g]) from hq).t3
        obtain ⟨rfl, _⟩ := hu1.str_inv
        refine ⟨_, rfl, ra, _, _, _, rfl, rfl, SqT.of hra, atI_nat (j := 0) rfl, ?_⟩
        refine ⟨_, rfl, rfl, _, rfl, ite_eq' ?_⟩
        refine ⟨_, rfl, _, rfl, dv, _, d, ps, g, rfl, hd, hq, hf, hlen, fun v H' s e => ⟨rfl, ?_⟩⟩
        rw [e, Bool.not_not]
        exact k H' s
      | all =>
        obtain ⟨ra, u1, rfl, hra, hu1⟩ := (show Dt H qv (.tuple [.str "all"]) from hq).t1
        obtain ⟨rfl, _⟩ := hu1.str_inv
        refine ⟨_, rfl, ra, _, _, _, rfl, rfl, SqT.of hra, atI_nat (j := 0) rfl, ?_⟩
        refine ⟨_, rfl, rfl, _, rfl, ite_ne (by decide +kernel) ?_⟩
        refine ⟨_, rfl, rfl, _, rfl, ite_eq' ?_⟩
        exact k H (Same.refl H)
      | not q =>
        obtain ⟨ra, u1, u2, rfl, hra, hu1, hu2⟩ := (show Dt H qv (.tuple [.str "not", eQn q]) from hq).t2
        obtain ⟨rfl, _⟩ := hu1.str_inv
        refine ⟨_, rfl, ra, _, _, _, rfl, rfl, SqT.of hra, atI_nat (j := 0) rfl, ?_⟩
        refine ⟨_, rfl, rfl, _, rfl, ite_ne (by decide +kernel) ?_⟩
        refine ⟨_, rfl, rfl, _, rfl, ite_ne (by decide +kernel) ?_⟩
        refine ⟨_, rfl, rfl, _, rfl, ite_eq' ?_⟩
        have hdq : q.depth < n := Nat.lt_of_succ_lt_succ hdep
        exact ⟨_, rfl, _, rfl, ra, _, _, _, rfl, rfl, SqT.of hra, atI_nat (j := 1) rfl, dv, u2, d, q, rfl, hd, hu2, hf, hdq, hlen, fun H' s => ⟨_, rfl, k H' s⟩⟩
      | and a b =>
        obtain ⟨ra, u1, u2, rfl, hra, hu1, hu2⟩ := (show Dt H qv (.tuple [.str "and", .tuple [eQn a, eQn b]]) from hq).t2
        obtain ⟨rfl, _⟩ := hu1.str_inv
        obtain ⟨pa, va, vb, rfl, hpa, hva, hvb⟩ := hu2.t2
        refine ⟨_, rfl, ra, _, _, _, rfl, rfl, SqT.of hra, atI_nat (j := 0) rfl, ?_⟩
        refine ⟨_, rfl, rfl, _, rfl, ite_ne (by decide +kernel) ?_⟩
        refine ⟨_, rfl, rfl, _, rfl, ite_ne (by decide +kernel) ?_⟩
        refine ⟨_, rfl, rfl, _, rfl, ite_ne (by decide +kernel) ?_⟩
        refine ⟨_, rfl, rfl, _, rfl, ite_eq' ?_⟩
        have hda : a.depth < n ∧ b.depth < n := by
          have h1 : max a.depth b.depth + 1 < n + 1 := hdep
          omega
        have hqs : DtAll H [va, vb] ([a, b].map eQn) := .cons hva (.cons hvb .nil)
        have hall : ∀ q ∈ [a, b], fine q ∧ q.depth < n := fun q hq => by
          rcases List.mem_cons.mp hq with rfl | hq
          · exact ⟨hf.1, hda.1⟩
          · rw [List.mem_singleton.mp hq]
            exact ⟨hf.2, hda.2⟩
        refine ⟨_, rfl, ra, _, _, _, rfl, rfl, SqT.of hra, atI_nat (j := 1) rfl, pa, rfl, ⟨_, SqT.of hpa⟩, fun D hD => ?_⟩
        refine lc_tup (K := K) (a := pa) (xs := [va, vb]) (fun i H1 => Same H H1 ∧ H1 D = some (.lst ((([a, b].map (Ts.matchD fitsS d)).take i).map V.bl)))
          ⟨same_new hD, upd_same⟩ (fun i H1 _ ⟨s1, _⟩ => SqT.of (s1 _ _ hpa)) ?_ ?_
        · rintro i x H1 hx ⟨s1, hD1⟩
          obtain ⟨q, hqi, dq⟩ := hqs.mget hx
          obtain ⟨f1, f2⟩ := hall q (List.mem_of_getElem? hqi)
          refine ⟨rfl, ?_⟩
          refine ⟨_, rfl, _, rfl, dv, x, d, q, rfl, hd.tk (tk_same s1), dq.tk (tk_same s1), f1, f2, hlen, fun H2 s2 => ⟨_, s2 _ _ hD1, ?_, ?_, ?_⟩⟩
          · rw [List.length_map, List.length_take]
            refine Nat.lt_of_le_of_lt (Nat.min_le_right _ _) ?_
            rw [List.length_map]
            show 2 < sizeLine
            decide
          · intro b' o e
            by_cases q' : b' = D
            · rw [q', hD] at e; cases e
            · rw [upd_ne q']; exact s2 _ _ (s1 _ _ e)
          · rw [upd_same, take_snoc (show ([a, b].map (Ts.matchD fitsS d))[i]? = some (Ts.matchD fitsS d q) by rw [List.getElem?_map, hqi]; rfl), List.map_append]
            rfl
        · rintro H1 ⟨s1, hD1⟩
          refine ⟨D, _, rfl, SqL.of hD1, ?_⟩
          have e : (([a, b].map (Ts.matchD fitsS d)).take 2).all id = Ts.matchD fitsS d (.and a b) := by
            show (Ts.matchD fitsS d a && (Ts.matchD fitsS d b && true)) = (Ts.matchD fitsS d a && Ts.matchD fitsS d b)
            rw [Bool.and_true]
          show Q (.bl ((([a, b].map (Ts.matchD fitsS d)).take 2).all id)) H1
          rw [e]
          exact k H1 s1
      | or a b =>
        obtain ⟨ra, u1, u2, rfl, hra, hu1, hu2⟩ := (show Dt H qv (.tuple [.str "or", .tuple [eQn a, eQn b]]) from hq).t2
        obtain ⟨rfl, _⟩ := hu1.str_inv
        obtain ⟨pa, va, vb, rfl, hpa, hva, hvb⟩ := hu2.t2
        refine ⟨_, rfl, ra, _, _, _, rfl, rfl, SqT.of hra, atI_nat (j := 0) rfl, ?_⟩
        refine ⟨_, rfl, rfl, _, rfl, ite_ne (by decide +kernel) ?_⟩
        refine ⟨_, rfl, rfl, _, rfl, ite_ne (by decide +kernel) ?_⟩
        refine ⟨_, rfl, rfl, _, rfl, ite_ne (by decide +kernel) ?_⟩
        refine ⟨_, rfl, rfl, _, rfl, ite_ne (by decide +kernel) ?_⟩
        have hda : a.depth < n ∧ b.depth < n := by
          have h1 : max a.depth b.depth + 1 < n + 1 := hdep
          omega
        have hqs : DtAll H [va, vb] ([a, b].map eQn) := .cons hva (.cons hvb .nil)
        have hall : ∀ q ∈ [a, b], fine q ∧ q.depth < n := fun q hq => by
          rcases List.mem_cons.mp hq with rfl | hq
          · exact ⟨hf.1, hda.1⟩
          · rw [List.mem_singleton.mp hq]
            exact ⟨hf.2, hda.2⟩
        refine ⟨_, rfl, ra, _, _, _, rfl, rfl, SqT.of hra, atI_nat (j := 1) rfl, pa, rfl, ⟨_, SqT.of hpa⟩, fun D hD => ?_⟩
        refine lc_tup (K := K) (a := pa) (xs := [va, vb]) (fun i H1 => Same H H1 ∧ H1 D = some (.lst ((([a, b].map (Ts.matchD fitsS d)).take i).map V.bl)))
          ⟨same_new hD, upd_same⟩ (fun i H1 _ ⟨s1, _⟩ => SqT.of (s1 _ _ hpa)) ?_ ?_
        · rintro i x H1 hx ⟨s1, hD1⟩
          obtain ⟨q, hqi, dq⟩ := hqs.mget hx
          obtain ⟨f1, f2⟩ := hall q (List.mem_of_getElem? hqi)
          refine ⟨rfl, ?_⟩
          refine ⟨_, rfl, _, rfl, dv, x, d, q, rfl, hd.tk (tk_same s1), dq.tk (tk_same s1), f1, f2, hlen, fun H2 s2 => ⟨_, s2 _ _ hD1, ?_, ?_, ?_⟩⟩
          · rw [List.length_map, List.length_take]
            refine Nat.lt_of_le_of_lt (Nat.min_le_right _ _) ?_
            rw [List.length_map]
            show 2 < sizeLine
            decide
          · intro b' o e
            by_cases q' : b' = D
            · rw [q', hD] at e; cases e
            · rw [upd_ne q']; exact s2 _ _ (s1 _ _ e)
          · rw [upd_same, take_snoc (show ([a, b].map (Ts.matchD fitsS d))[i]? = some (Ts.matchD fitsS d q) by rw [List.getElem?_map, hqi]; rfl), List.map_append]
            rfl
        · rintro H1 ⟨s1, hD1⟩
          refine ⟨D, _, rfl, SqL.of hD1, ?_⟩
          have e : (([a, b].map (Ts.matchD fitsS d)).take 2).any id = Ts.matchD fitsS d (.or a b) := by
            show (Ts.matchD fitsS d a || (Ts.matchD fitsS d b || false)) = (Ts.matchD fitsS d a || Ts.matchD fitsS d b)
            rw [Bool.or_false]
          show Q (.bl ((([a, b].map (Ts.matchD fitsS d)).take 2).any id)) H1
          rw [e]
          exact k H1 s1
end
end Tsf
/-! times.py -/
namespace Tsf
open PySem PySem.Spec PyProof.Rows L2
theorem jfold_len {a b : List Int} : ∀ (ts : List Int) (s : List Int × Bool), (ts.foldl (Ts.jstep a b) s).1.length ≤ s.1.length + ts.length
  | [], s => Nat.le_refl _
  | t :: ts, s => by
    rw [List.foldl_cons]
    have h := jfold_len (a := a) (b := b) ts (Ts.jstep a b s t)
    have h2 : (Ts.jstep a b s t).1.length ≤ s.1.length + 1 := by
      unfold Ts.jstep
      split
      · simp
      · omega
    rw [List.length_cons]
    omega
theorem PE.imp {X : Cx} {e : Expr} {t t' : TE} (h : PE X e t) (q : ∀ σ H Q, t' σ H Q → t σ H Q) : PE X e t' := ⟨fun pins s σ H Q I hw => h.run pins s σ H Q I (q σ H Q hw)⟩
/-- a or b, two names that hold bools -/
theorem pe_orVV {X : Cx} {a b : Expr} {pos : Pos} (i j : Nat) (ha : PE X a (tVar i)) (hb : PE X b (tVar j)) : PE X (.BoolOp .Or [a, b] pos) (fun σ H Q => ∃ c d, σ[i]? = some (some (.bl c)) ∧ σ[j]? = some (some (.bl d)) ∧ Q (.bl (c || d)) H) :=
  PE.imp (pe_or ha (pe_one hb)) fun σ H Q ⟨c, d, h1, h2, q⟩ => ⟨_, h1, c, rfl, by
    cases c with
    | true => exact q
    | false => exact ⟨_, h2, q⟩⟩
section
variable {P : Program} {w : World} {K : PySem.W.Frag} {mg : Str → Option Value} {base : Heap}
def spIsIn : Sp := fun vs H Q _ => ∃ (tv : V) (t : List Int) (x : Int), vs = [tv, .int x] ∧ Dt H tv (eInts t) ∧ t.length ≤ 1000 ∧ ∀ H', Same H H' → Q (.bl (Ts.isIn t x)) H'
theorem con_is_in (T : Tx K mg) : Con P w K mg base 1 (He.ga K "is_in") ["timeline", "time"] spIsIn := by
  obtain ⟨fd, F⟩ := T.d_is_in
  refine ⟨fd, F.ok sc_is_in (fun vs H Q E h => ?_) (fun cdv A outer s H vs Q E hr h => ?_), F.bindsN fun _ _ _ _ _ _ us hl => match us, hl with | [_, _], _ => rfl, F.kp⟩
  · obtain ⟨tv, t, x, rfl, _⟩ := h
    rfl
  · obtain ⟨tv, t, x, rfl, ht, hlen, k⟩ := h
    obtain ⟨ta, txs, rfl, hta, htx⟩ := ht.tupN
    obtain rfl := dtAll_ints_inv htx
    have nd := sc_is_in.nd
    refine ⟨_, PSs.nox (pss_one (ps_ret (pe_cmpR op_eq (pe_op op_mod (pe_callB call_len_seq (by rfl) T.z_len PySem.boot_len (pa_cons
      (pe_lc (own := [("point", 2)]) (g := gName 2) rfl nd (pi_tup (pv 0)) (blkOk_by (own := [("point", 2)]) (N := ["timeline", "time", "point"]) (sc := defScope s_is_in) (by decide +kernel))
              (fun _ _ _ _ _ => pg_name (i := 2) nd rfl (.inl rfl)) (fun _ _ _ _ _ => pts_one (pt_cmpR op_le (pv 2) (pv 1) (nomark _))) (fun _ _ _ _ _ => pv 2)) pa_nil)) pe_int) pe_int (nomark _)))), ?_⟩
    refine ⟨_, rfl, ta, rfl, ⟨_, SqT.of hta⟩, fun D hD => ?_⟩
    refine lc_tup (K := K) (a := ta) (xs := t.map V.int) (fun i H1 => Same H H1 ∧ H1 D = some (.lst (((t.take i).filter fun p => decide (p ≤ x)).map V.int)))
      ⟨same_new hD, upd_same⟩ (fun i H1 _ ⟨s1, _⟩ => SqT.of (s1 _ _ hta)) ?_ ?_
    · rintro i v H1 hx ⟨s1, hD1⟩
      obtain ⟨p, hp, rfl⟩ : ∃ p, t[i]? = some p ∧ v = V.int p := by
        rw [List.getElem?_map] at hx
        cases e : t[i]? with
        | none => rw [e] at hx; cases hx
        | some p => rw [e] at hx; exact ⟨p, rfl, (Option.some.inj hx).symm⟩
      have et := take_snoc hp
      refine ⟨rfl, ?_⟩
      refine ⟨_, rfl, _, rfl, _, _, rfl, rfl, _, rfl, ?_⟩
      refine ite2 (fun c => ?_) (fun c => ?_)
      · refine ⟨_, rfl, _, hD1, ?_, fun b o e => ?_, ?_⟩
        · rw [List.length_map]
          refine small1000 (Nat.le_trans (List.length_filter_le _ _) ?_)
          rw [List.length_take]; omega
        · rw [upd_ne (ne_of_none e hD)]
          exact s1 _ _ e
        · rw [upd_same, et, List.filter_append, List.map_append]
          have : [p].filter (fun p => decide (p ≤ x)) = [p] := by rw [List.filter_cons, if_pos c]; rfl
          rw [this]
          rfl
      · refine ⟨s1, ?_⟩
        rw [hD1, et, List.filter_append]
        have : [p].filter (fun p => decide (p ≤ x)) = [] := by rw [List.filter_cons, if_neg c]; rfl
        rw [this, List.append_nil]
    · rintro H1 ⟨s1, hD1⟩
      refine ⟨D, _, rfl, .inl (SqL.of hD1), _, _, rfl, rfl, (by show (0 : Int) < 2; decide), rfl, ?_⟩
      have el : ((((t.take (t.map V.int).length).filter fun p => decide (p ≤ x)).map V.int).length : Int) = (Ts.cnt t x : Int) := by
        unfold Ts.cnt
        rw [List.length_map, List.length_map, List.take_length]
      rw [el]
      have e : decide (V.int ((Ts.cnt t x : Int) % 2) = V.int 1) = Ts.isIn t x := by
        unfold Ts.isIn
        by_cases q : Ts.cnt t x % 2 = 1
        · have q2 : ((Ts.cnt t x : Int) % 2) = 1 := by omega
          simp [q, q2]
        · have q2 : ¬ ((Ts.cnt t x : Int) % 2) = 1 := by omega
          simp [q, q2]
      rw [e]
      exact k H1 s1
def spComb : Sp := fun vs H Q _ => ∃ (av bv : V) (a b : List Int), vs = [av, bv, .bl false] ∧ Dt H av (eInts a) ∧ Dt H bv (eInts b) ∧ a.length + b.length ≤ 1000 ∧
  ∀ v H' r, Same H H' → Dt H' v (eInts r) → Ts.Rise r → (∀ x, Ts.isIn r x = (Ts.isIn a x || Ts.isIn b x)) → r.length ≤ a.length + b.length → Q v H'
theorem con_combined (T : Tx K mg) : Con P w K mg base 2 (He.ga K "_combined") ["one", "other", "both"] spComb := by
  obtain ⟨fd, F⟩ := T.d_combined
  obtain ⟨fdi, GI, bI, kI⟩ := con_is_in (P := P) (w := w) (base := base) T
  refine ⟨fd, F.ok sc_combined (fun vs H Q E h => ?_) (fun cdv A outer s H vs Q E hr h => ?_), F.bindsN fun _ _ _ _ _ _ us hl => match us, hl with | [_, _, _], _ => rfl, F.kp⟩
  · obtain ⟨av, bv, a, b, rfl, _⟩ := h
    rfl
  · obtain ⟨av, bv, a, b, rfl, ha, hb, hlen, k⟩ := h
    obtain ⟨aa, axs, rfl, haa, hax⟩ := ha.tupN
    obtain rfl := dtAll_ints_inv hax
    obtain ⟨ba, bxs, rfl, hba, hbx⟩ := hb.tupN
    obtain rfl := dtAll_ints_inv hbx
    have nd := sc_combined.nd
    refine ⟨_, PSs.nox (pss_cons (ps_set (i := 3) nd rfl (.inl rfl) (pe_lst pa_nil))
      (pss_cons (ps_set (i := 4) nd rfl (.inl rfl) pe_bl)
      (pss_cons (ps_for PassesOwn.never rfl (pi_list (pe_callB cr_sortedI (by rfl) T.z_sorted (by decide +kernel) (pa_cons (pe_op op_cat (pe_callTy call_list_of (by rfl) T.z_list (by decide +kernel) (pa_cons (pv 0) pa_nil)) (pe_callTy call_list_of (by rfl) T.z_list (by decide +kernel) (pa_cons (pv 1) pa_nil))) pa_nil)))
        (pg_name (i := 5) nd rfl (.inl rfl))
        (pss_cons (ps_set (i := 6) nd rfl (.inl rfl) (pe_call GI hr (by rfl) T.g_is_in kI bI .nil pass0 (pa_cons (pv 0) (pa_cons (pv 5) pa_nil))))
        (pss_cons (ps_set (i := 7) nd rfl (.inl rfl) (pe_call GI hr (by rfl) T.g_is_in kI bI .nil pass0 (pa_cons (pv 1) (pa_cons (pv 5) pa_nil))))
        (pss_cons (ps_set (i := 8) nd rfl (.inl rfl) (pe_orVV 6 7 (pv 6) (pv 7)))
        (pss_cons (ps_if (pt_val (pv 2)) (pss_one (ps_set (i := 8) nd rfl (.inl rfl) (pe_and (pv 6) (pe_one (pv 7))))) pss_nil)
        (pss_one (ps_if (pt_cmpR op_ne (pv 8) (pv 4) (nomark _)) (pss_cons (ps_expr (pe_bm PySem.F.plainAttrs_list PySem.F.slot_list_append PySem.F.type_list_append mt_append (pv 3) (pa_cons (pv 5) pa_nil)))
          (pss_one (ps_set (i := 4) nd rfl (.inl rfl) (pv 8)))) pss_nil)))))))
      (pss_one (ps_ret (pe_callTy call_tuple_of (by rfl) T.z_tuple (by decide +kernel) (pa_cons (pv 3) pa_nil))))))), ?_⟩
    refine ⟨Nat.zero_le _, fun f hf => ?_⟩
    have s1 : Same H (upd H f (.lst [])) := same_new hf
    refine ⟨_, rfl, aa, _, rfl, .inr (SqT.of (s1 _ _ haa)), fun l1 hl1 => ?_⟩
    have s2 : Same H (upd (upd H f (.lst [])) l1 (.lst (a.map V.int))) := s1.trans (same_new hl1)
    refine ⟨_, rfl, ba, _, rfl, .inr (SqT.of (s2 _ _ hba)), fun l2 hl2 => ?_⟩
    have s3 := s2.trans (same_new (o := .lst (b.map V.int)) hl2)
    refine ⟨l1, l2, _, _, rfl, rfl, same_new hl2 _ _ upd_same, upd_same, by rw [List.length_map, List.length_map]; exact Nat.le_of_lt (small1000 hlen), fun l3 hl3 => ?_⟩
    have s4 := s3.trans (same_new (o := .lst (a.map V.int ++ b.map V.int)) hl3)
    refine ⟨l3, a ++ b, rfl, SqL.of (by rw [upd_same, List.map_append]), fun ts l4 hperm hsort hl4 => ?_⟩
    have s5 := s4.trans (same_new (o := .lst (ts.map V.int)) hl4)
    have htl : ts.length = a.length + b.length := by rw [hperm.length_eq, List.length_append]
    have f5 : (upd (upd (upd (upd (upd H f (.lst [])) l1 (.lst (a.map V.int))) l2 (.lst (b.map V.int))) l3 (.lst (a.map V.int ++ b.map V.int))) l4 (.lst (ts.map V.int))) f = some (.lst []) :=
      same_new hl4 _ _ (same_new hl3 _ _ (same_new hl2 _ _ (same_new hl1 _ _ upd_same)))
    have nf : l4 ≠ f := (ne_of_none (same_new (o := .lst (a.map V.int ++ b.map V.int)) hl3 _ _ (same_new (o := .lst (b.map V.int)) hl2 _ _ (same_new (o := .lst (a.map V.int)) hl1 _ _ (upd_same (H := H) (a := f) (o := .lst []))))) hl4).symm
    refine ⟨l4, rfl, ⟨_, SqL.of upd_same⟩, for_list (K := K) (a := l4) (xs := ts.map V.int) (fun i σ H1 => ∃ (v5 v6 v7 v8 : Option V), σ = [some (.ref aa), some (.ref ba), some (.bl false), some (.ref f), some (.bl ((ts.take i).foldl (Ts.jstep a b) ([], false)).2), v5, v6, v7, v8] ∧
      Same H H1 ∧ H1 l4 = some (.lst (ts.map V.int)) ∧ H1 f = some (.lst ((((ts.take i).foldl (Ts.jstep a b) ([], false)).1).map V.int)))
      ⟨none, none, none, none, rfl, s5, upd_same, f5⟩ (fun i σ H1 _ ⟨_, _, _, _, _, _, h4, _⟩ => SqL.of h4) ?_ ?_⟩
    · rintro i v σ H1 hx ⟨v5, v6, v7, v8, rfl, q1, q2, q3⟩
      obtain ⟨t, ht, rfl⟩ : ∃ t, ts[i]? = some t ∧ v = V.int t := by
        rw [List.getElem?_map] at hx
        cases e : ts[i]? with
        | none => rw [e] at hx; cases hx
        | some p => rw [e] at hx; exact ⟨p, rfl, (Option.some.inj hx).symm⟩
      have et : (ts.take (i + 1)).foldl (Ts.jstep a b) ([], false) = Ts.jstep a b ((ts.take i).foldl (Ts.jstep a b) ([], false)) t := by
        rw [take_snoc ht, List.foldl_append]
        rfl
      have hll : ((ts.take i).foldl (Ts.jstep a b) ([], false)).1.length ≤ 1000 := by
        have h1 := jfold_len (a := a) (b := b) (ts.take i) ([], false)
        rw [List.length_take] at h1
        have h2 : (([], false) : List Int × Bool).1.length = 0 := rfl
        omega
      refine ⟨_, rfl, _, rfl, .ref aa, a, t, rfl, ha.tk (tk_same q1), by omega, fun H2 s2 => ?_⟩
      refine ⟨_, rfl, _, rfl, .ref ba, b, t, rfl, hb.tk (tk_same (q1.trans s2)), by omega, fun H3 s3' => ?_⟩
      refine ⟨_, _, rfl, rfl, ?_⟩
      refine ⟨_, rfl, _, rfl, iteF ?_⟩
      refine ⟨_, rfl, _, rfl, rfl, _, rfl, ?_⟩
      have s13 := s2.trans s3'
      refine ite2 (fun c => ?_) (fun c => ?_)
      · have hne : ((Ts.isIn a t || Ts.isIn b t) != ((ts.take i).foldl (Ts.jstep a b) ([], false)).2) = true := by
          have c' : ¬ (V.bl (Ts.isIn a t || Ts.isIn b t) = V.bl ((ts.take i).foldl (Ts.jstep a b) ([], false)).2) := by simpa using c
          have c2 : ¬ ((Ts.isIn a t || Ts.isIn b t) = ((ts.take i).foldl (Ts.jstep a b) ([], false)).2) := fun z => c' (by rw [z])
          simpa using c2
        have ej : Ts.jstep a b ((ts.take i).foldl (Ts.jstep a b) ([], false)) t = (((ts.take i).foldl (Ts.jstep a b) ([], false)).1 ++ [t], (Ts.isIn a t || Ts.isIn b t)) := by
          show (if _ then _ else _) = _
          rw [if_pos hne]
        refine ⟨_, rfl, .inl ⟨rfl, _, SqL.of (s13 _ _ q3)⟩, _, rfl, f, _, _, rfl, rfl, s13 _ _ q3, by rw [List.length_map]; exact small1000 hll, ?_⟩
        refine ⟨_, rfl, ?_⟩
        refine ⟨some (.int t), some (.bl (Ts.isIn a t)), some (.bl (Ts.isIn b t)), some (.bl (Ts.isIn a t || Ts.isIn b t)), ?_, fun b' o e => ?_, ?_, ?_⟩
        rotate_left 1
        · by_cases z : b' = f
          · rw [z, hf] at e; cases e
          · rw [upd_ne z]; exact (q1.trans s13) _ _ e
        · rw [upd_ne nf]; exact s13 _ _ q2
        · rw [upd_same, et, ej, List.map_append]
          rfl
        · rw [et, ej]
          rfl
      · have hne : ¬ ((Ts.isIn a t || Ts.isIn b t) != ((ts.take i).foldl (Ts.jstep a b) ([], false)).2) = true := by
          have c' : (V.bl (Ts.isIn a t || Ts.isIn b t) = V.bl ((ts.take i).foldl (Ts.jstep a b) ([], false)).2) := by simpa using c
          have c2 := V.bl.inj c'
          rw [c2]
          simp
        have ej : Ts.jstep a b ((ts.take i).foldl (Ts.jstep a b) ([], false)) t = (ts.take i).foldl (Ts.jstep a b) ([], false) := by
          show (if _ then _ else _) = _
          rw [if_neg hne]
        refine ⟨some (.int t), some (.bl (Ts.isIn a t)), some (.bl (Ts.isIn b t)), some (.bl (Ts.isIn a t || Ts.isIn b t)), ?_, q1.trans s13, s13 _ _ q2, ?_⟩
        rotate_left 1
        · rw [et, ej]; exact s13 _ _ q3
        · rw [et, ej]
          rfl
    · rintro σ H1 ⟨v5, v6, v7, v8, rfl, q1, q2, q3⟩
      rw [List.length_map, List.take_length] at q3
      refine ⟨_, rfl, f, _, rfl, .inl ⟨SqL.of q3, fun l hl => ?_⟩⟩
      obtain ⟨r1, r2⟩ := Ts.join_ok (one := a) (other := b) hsort hperm
      refine k _ _ _ (q1.trans (same_new hl)) (.tup upd_same (dtAll_ints _)) r1 r2 ?_
      have h1 := jfold_len (a := a) (b := b) ts ([], false)
      have h2 : (([], false) : List Int × Bool).1.length = 0 := rfl
      omega
end
end Tsf
/-! times.join, of_span; answering.needs_all -/
namespace Tsf
open PySem PySem.Spec PyProof.Rows L2
section
variable {P : Program} {w : World} {K : PySem.W.Frag} {mg : Str → Option Value} {base : Heap}
def spJoin : Sp := fun vs H Q _ => ∃ (av bv : V) (a b : List Int), vs = [av, bv] ∧ Dt H av (eInts a) ∧ Dt H bv (eInts b) ∧ a.length + b.length ≤ 1000 ∧
  ∀ v H' r, Same H H' → Dt H' v (eInts r) → Ts.Rise r → (∀ x, Ts.isIn r x = (Ts.isIn a x || Ts.isIn b x)) → r.length ≤ a.length + b.length → Q v H'
theorem con_join (T : Tx K mg) : Con P w K mg base 3 (He.ga K "join") ["one", "other"] spJoin := by
  obtain ⟨fd, F⟩ := T.d_join
  obtain ⟨fdi, GI, bI, kI⟩ := con_combined (P := P) (w := w) (base := base) T
  refine ⟨fd, F.ok sc_join (fun vs H Q E h => ?_) (fun cdv A outer s H vs Q E hr h => ?_), F.bindsN fun _ _ _ _ _ _ us hl => match us, hl with | [_, _], _ => rfl, F.kp⟩
  · obtain ⟨av, bv, a, b, rfl, _⟩ := h
    rfl
  · obtain ⟨av, bv, a, b, rfl, ha, hb, hlen, k⟩ := h
    refine ⟨_, PSs.nox (pss_one (ps_ret (pe_call GI hr (by rfl) T.g_combined kI bI .nil pass0 (pa_cons (pv 0) (pa_cons (pv 1) (pa_cons pe_bl pa_nil)))))), ?_⟩
    exact ⟨_, rfl, _, rfl, av, bv, a, b, rfl, ha, hb, hlen, k⟩
def spSpan : Sp := fun vs H Q _ => ∃ (s : Int) (e : Option Int), vs = [.int s, oV e] ∧ ∀ v H', Same H H' → Dt H' v (eInts (Ts.ofSpan s e)) → Q v H'
theorem con_of_span (T : Tx K mg) : Con P w K mg base 1 (He.ga K "of_span") ["start", "end"] spSpan := by
  obtain ⟨fd, F⟩ := T.d_of_span
  refine ⟨fd, F.ok sc_of_span (fun vs H Q E h => ?_) (fun cdv A outer s H vs Q E hr h => ?_), F.bindsN fun _ _ _ _ _ _ us hl => match us, hl with | [_, _], _ => rfl, F.kp⟩
  · obtain ⟨s, e, rfl, _⟩ := h
    rfl
  · obtain ⟨st, e, rfl, k⟩ := h
    refine ⟨_, PSs.nox (pss_cons (ps_if (pt_cmpR op_isN (pv 1) pe_non (nomark _)) (pss_one (ps_ret (pe_tup (pa_cons (pv 0) pa_nil)))) pss_nil)
      (pss_one (ps_ret (pe_tup (pa_cons (pv 0) (pa_cons (pv 1) pa_nil)))))), ?_⟩
    cases e with
    | none =>
      refine ⟨_, rfl, rfl, _, rfl, ?_⟩
      refine ⟨_, rfl, (by show 1 ≤ sizeLine; decide), fun p hp => ?_⟩
      exact k _ _ (same_new hp) (.tup upd_same (dtAll_ints [st]))
    | some z =>
      refine ⟨_, rfl, rfl, _, rfl, ?_⟩
      refine ⟨_, rfl, _, rfl, (by show 2 ≤ sizeLine; decide), fun p hp => ?_⟩
      exact k _ _ (same_new hp) (.tup upd_same (dtAll_ints [st, z]))
def spNeeds (n : Nat) : Sp := fun vs H Q _ => ∃ (qv : V) (q : Q_), vs = [qv] ∧ Dt H qv (eQn q) ∧ fine q ∧ q.depth < n ∧ ∀ H', Same H H' → Q (.bl (Ts.matchD fitsS [] q)) H'
theorem con_needs_all (T : Tx K mg) (n : Nat) : Con P w K mg base (4 + n) (He.ga K "needs_all") ["question"] (spNeeds n) := by
  obtain ⟨fd, F⟩ := T.d_needs_all
  obtain ⟨fdm, GM, bM, kM⟩ := con_matches (P := P) (w := w) (base := base) T n
  have e : 4 + n = (3 + n) + 1 := by omega
  rw [e]
  refine ⟨fd, F.ok sc_needs_all (fun vs H Q E h => ?_) (fun cdv A outer s H vs Q E hr h => ?_), F.bindsN fun _ _ _ _ _ _ us hl => match us, hl with | [_], _ => rfl, F.kp⟩
  · obtain ⟨qv, q, rfl, _⟩ := h
    rfl
  · obtain ⟨qv, q, rfl, hq, hf, hd, k⟩ := h
    refine ⟨_, PSs.nox (pss_one (ps_ret (pe_call GM hr (by rfl) T.g_matches kM bM .nil pass0 (pa_cons (pe_tup pa_nil) (pa_cons (pv 0) pa_nil))))), ?_⟩
    refine ⟨Nat.zero_le _, fun p hp => ?_⟩
    exact ⟨_, rfl, .ref p, qv, [], q, rfl, .tup upd_same .nil, hq.tk (tk_new hp), hf, hd, Nat.zero_le _, fun H' s => k H' ((same_new hp).trans s)⟩
end
end Tsf
/-! Dicts as plain rows: keys added one by one; the dict of words. -/
namespace Tsf
open PySem PySem.Spec PyProof.Rows L2
theorem Room.u70 {k : Nat} {A : Around} (r : Room k A) : A.units + 70 < cLine := by have := r.un; omega
theorem Room.u64 {k : Nat} {A : Around} (r : Room k A) : A.units + 64 < cLine := by have := r.un; omega
theorem Room.u1 {k : Nat} {A : Around} (r : Room k A) : A.units + 1 < cLine := by have := r.un; omega
theorem iteN {b : Bool} {A B : Prop} (e : b = false) (h : B) : if b = true then A else B := by
  rw [e, if_neg Bool.false_ne_true]
  exact h
theorem iteY {b : Bool} {A B : Prop} (e : b = true) (h : A) : if b = true then A else B := by
  rw [e, if_pos rfl]
  exact h
theorem same_none {H H' : Hp} {q : Addr} (h : Same H H') (n : H' q = none) : H q = none := by
  cases e : H q with
  | none => rfl
  | some o => rw [h _ _ e] at n; cases n
section
variable {κ : Type} [DecidableEq κ]
def add (l : List κ) (k : κ) : List κ := if k ∈ l then l else l ++ [k]
def addAll (l : List κ) : List κ := l.foldl add []
theorem mem_add {l : List κ} {k x : κ} : x ∈ add l k ↔ x ∈ l ∨ x = k := by
  unfold add
  split
  · rename_i h
    constructor
    · exact .inl
    · rintro (q | q)
      · exact q
      · rw [q]; exact h
  · rw [List.mem_append, List.mem_singleton]
theorem nodup_add {l : List κ} {k : κ} (h : l.Nodup) : (add l k).Nodup := by
  unfold add
  split
  · exact h
  · rename_i n
    refine List.nodup_append.mpr ⟨h, by simp, fun a ha b hb e => n ?_⟩
    rw [← List.mem_singleton.mp hb, ← e]; exact ha
theorem length_add {l : List κ} {k : κ} : (add l k).length ≤ l.length + 1 := by
  unfold add
  split
  · omega
  · rw [List.length_append, List.length_singleton]; exact Nat.le_refl _
theorem addAll_snoc (l : List κ) (x : κ) : addAll (l ++ [x]) = add (addAll l) x := by
  unfold addAll
  rw [List.foldl_append]
  rfl
theorem foldl_add_mem : ∀ (m l : List κ) (x : κ), x ∈ m.foldl add l ↔ x ∈ l ∨ x ∈ m
  | [], l, x => by simp
  | y :: m, l, x => by
    rw [List.foldl_cons, foldl_add_mem m, mem_add, List.mem_cons, or_assoc]
theorem foldl_add_nodup : ∀ (m l : List κ), l.Nodup → (m.foldl add l).Nodup
  | [], l, h => h
  | y :: m, l, h => foldl_add_nodup m _ (nodup_add h)
theorem foldl_add_length : ∀ (m l : List κ), (m.foldl add l).length ≤ l.length + m.length
  | [], l => by simp
  | y :: m, l => by
    rw [List.foldl_cons, List.length_cons]
    have h1 := foldl_add_length m (add l y)
    have h2 := length_add (l := l) (k := y)
    omega
theorem mem_addAll {l : List κ} {x : κ} : x ∈ addAll l ↔ x ∈ l := by
  unfold addAll
  rw [foldl_add_mem]
  simp
theorem nodup_addAll (l : List κ) : (addAll l).Nodup := foldl_add_nodup l [] List.nodup_nil
theorem length_addAll (l : List κ) : (addAll l).length ≤ l.length := by
  have h := foldl_add_length l []
  rw [List.length_nil, Nat.zero_add] at h
  exact h
theorem nodup_le : ∀ {l m : List κ}, l.Nodup → (∀ x ∈ l, x ∈ m) → l.length ≤ m.length
  | [], m, _, _ => Nat.zero_le _
  | x :: l, m, h, hs => by
    have h' := List.nodup_cons.mp h
    have h1 := nodup_le (l := l) (m := m.erase x) h'.2 fun y hy => (List.mem_erase_of_ne (fun e => h'.1 (by rw [← e]; exact hy))).mpr (hs y (List.mem_cons_of_mem _ hy))
    have h2 := hs x (List.mem_cons_self ..)
    have h3 := List.length_erase_of_mem h2
    have h4 : 0 < m.length := List.length_pos_of_mem h2
    rw [List.length_cons]
    omega
/-- the entries, all with one value -/
abbrev cKvs (v : V) (l : List κ) : List (κ × V) := l.map fun k => (k, v)
theorem valV_fn {f : κ → V} : ∀ {l : List κ} {k : κ}, valV (l.map fun k => (k, f k)) k = if k ∈ l then some (f k) else none
  | [], k => rfl
  | x :: l, k => by
    rw [List.map_cons]
    by_cases e : x = k
    · subst e
      rw [valV_pos rfl, if_pos (List.mem_cons_self ..)]
    · rw [valV_neg e, valV_fn]
      by_cases h : k ∈ l
      · rw [if_pos h, if_pos (List.mem_cons_of_mem _ h)]
      · rw [if_neg h, if_neg]
        intro q
        rcases List.mem_cons.mp q with q | q
        · exact e q.symm
        · exact h q
theorem putK_there {f : κ → V} {l : List κ} {k : κ} {v : V} (h : k ∈ l) : putK (l.map fun k => (k, f k)) k v = l.map fun j => (j, if j = k then v else f j) := by
  unfold putK
  rw [if_pos, List.map_map]
  · refine List.map_congr_left fun j _ => ?_
    show (if j = k then (j, v) else (j, f j)) = (j, if j = k then v else f j)
    split <;> rfl
  · rw [valV_any, valV_fn, if_pos h]; rfl
theorem putK_fresh {f : κ → V} {l : List κ} {k : κ} {v : V} (h : k ∉ l) : putK (l.map fun k => (k, f k)) k v = (l ++ [k]).map fun j => (j, if j = k then v else f j) := by
  rw [putK_new v (by rw [valV_fn, if_neg h]), List.map_append]
  congr 1
  · refine List.map_congr_left fun j hj => ?_
    rw [if_neg fun e => h (by rw [← e]; exact hj)]
  · simp
/-- one law for both: the keys grow by add, the values change at k -/
theorem putK_add {f : κ → V} {l : List κ} {k : κ} {v : V} : putK (l.map fun k => (k, f k)) k v = (add l k).map fun j => (j, if j = k then v else f j) := by
  unfold add
  by_cases h : k ∈ l
  · rw [if_pos h, putK_there h]
  · rw [if_neg h, putK_fresh h]
theorem putK_c {v : V} {l : List κ} {k : κ} : putK (cKvs v l) k v = cKvs v (add l k) := by
  have h := putK_add (f := fun _ => v) (l := l) (k := k) (v := v)
  rw [show cKvs v l = l.map fun k => (k, (fun _ => v) k) from rfl, h]
  refine List.map_congr_left fun j _ => ?_
  show (j, if j = k then v else v) = (j, v)
  split <;> rfl
theorem add_map {α : Type} [DecidableEq α] {g : α → κ} (hg : ∀ a b, g a = g b → a = b) {l : List α} {x : α} : add (l.map g) (g x) = (add l x).map g := by
  unfold add
  by_cases h : x ∈ l
  · rw [if_pos h, if_pos (List.mem_map.mpr ⟨x, h, rfl⟩)]
  · rw [if_neg h, if_neg, List.map_append]
    · rfl
    · intro q
      obtain ⟨y, hy, e⟩ := List.mem_map.mp q
      exact h (by rw [← hg _ _ e]; exact hy)
end
/-- int keys, text keys -/
abbrev kI (l : List Int) : List (Key × V) := cKvs (V.bl true) (l.map (Sum.inl : Int → Key))
abbrev kS (l : List Str) : List (Key × V) := cKvs (V.bl true) (l.map (Sum.inr : Str → Key))
theorem putI {l : List Int} {x : Int} : putK (kI l) (Sum.inl x) (V.bl true) = kI (add l x) := by
  rw [putK_c, add_map (g := (Sum.inl : Int → Key)) fun a b e => Sum.inl.inj e]
theorem putS {l : List Str} {x : Str} : putK (kS l) (Sum.inr x) (V.bl true) = kS (add l x) := by
  rw [putK_c, add_map (g := (Sum.inr : Str → Key)) fun a b e => Sum.inr.inj e]
theorem keysI {l : List Int} : (kI l).map (·.1) = l.map Sum.inl := by
  rw [List.map_map]; exact List.map_id' _
theorem keysS {l : List Str} : (kS l).map (·.1) = l.map Sum.inr := by
  rw [List.map_map]; exact List.map_id' _
/-! the dict of words with their places -/
abbrev Ws := List (Str × List Int)
def Ws.keys (ws : Ws) : List Key := ws.map fun p => Sum.inr p.1
theorem Ws.mem_keys {ws : Ws} {p : Str × List Int} (h : p ∈ ws) : (Sum.inr p.1 : Key) ∈ Ws.keys ws := List.mem_map.mpr ⟨p, h, rfl⟩
/-- the words' dict at a; its values are the tuples f w -/
structure WD (H : Hp) (a : Addr) (ws : Ws) (f : Key → V) : Prop where
  d : H a = some (.dK ((Ws.keys ws).map fun k => (k, f k)))
  v : ∀ p ∈ ws, Dt H (f (Sum.inr p.1)) (eInts p.2)
  nd : (Ws.keys ws).Nodup
theorem WD.same {H H' : Hp} {a : Addr} {ws : Ws} {f : Key → V} (w : WD H a ws f) (s : Same H H') : WD H' a ws f := ⟨s _ _ w.d, fun p hp => (w.v p hp).tk (tk_same s), w.nd⟩
def tot (ws : Ws) : Nat := (ws.map fun p => p.2.length).sum
/-- the places of the words that fit, as they come -/
def flat (p : Pat) (ws : Ws) : List Int := ws.flatMap fun w => if fitsS w.1 p then w.2 else []
theorem flat_snoc (p : Pat) (ws : Ws) (w : Str × List Int) : flat p (ws ++ [w]) = flat p ws ++ if fitsS w.1 p then w.2 else [] := by
  unfold flat
  rw [List.flatMap_append]
  simp
theorem flat_le (p : Pat) : ∀ ws : Ws, (flat p ws).length ≤ tot ws
  | [] => Nat.le_refl _
  | w :: ws => by
    have h := flat_le p ws
    show (List.flatMap _ (w :: ws)).length ≤ _
    rw [List.flatMap_cons, List.length_append]
    show _ + (flat p ws).length ≤ w.2.length + tot ws
    split
    · omega
    · simp; omega
def ppOf (ws : Ws) (p : Pat) : List Int := sortI (addAll (flat p ws))
theorem length_ppOf (ws : Ws) (p : Pat) : (ppOf ws p).length ≤ tot ws := by
  unfold ppOf sortI
  rw [List.length_mergeSort]
  exact Nat.le_trans (length_addAll _) (flat_le p ws)
end Tsf
/-! The dict of the places: each place's words. -/
namespace Tsf
open PySem PySem.Spec PyProof.Rows L2
def lf (p : Plc) : List Leaf := [.text p.1, .num p.2.1, match p.2.2 with | none => .none | some z => .num z]
theorem lf_map (p : Plc) : (lf p).map lfV = [.str p.1, .int p.2.1, oV p.2.2] := by
  obtain ⟨a, b, c⟩ := p
  cases c <;> rfl
theorem lf_inj {p q : Plc} (h : lf p = lf q) : p = q := by
  obtain ⟨a, b, c⟩ := p
  obtain ⟨a', b', c'⟩ := q
  cases c <;> cases c' <;> simp_all [lf]
def plcOf (ps : Post) : Plc := (ps.2.1, ps.2.2.1, ps.2.2.2.1)
def wsOf (PS : List Post) (p : Plc) : Ws := (PS.filter fun ps => decide (plcOf ps = p)).map fun ps => (ps.1, ps.2.2.2.2)
theorem wsOf_snoc (PS : List Post) (x : Post) (p : Plc) : wsOf (PS ++ [x]) p = if plcOf x = p then wsOf PS p ++ [(x.1, x.2.2.2.2)] else wsOf PS p := by
  unfold wsOf
  rw [List.filter_append]
  by_cases h : plcOf x = p
  · rw [if_pos h, List.filter_cons, if_pos (by simpa using h)]
    simp
  · rw [if_neg h, List.filter_cons, if_neg (by simpa using h)]
    simp
abbrev nKvs (l : List Plc) (G : Plc → V) : List (List Leaf × V) := l.map fun p => (lf p, G p)
theorem valV_n {G : Plc → V} : ∀ {l : List Plc} {p : Plc}, valV (nKvs l G) (lf p) = if p ∈ l then some (G p) else none
  | [], p => rfl
  | x :: l, p => by
    show valV ((lf x, G x) :: nKvs l G) (lf p) = _
    by_cases e : x = p
    · subst e
      rw [valV_pos rfl, if_pos (List.mem_cons_self ..)]
    · rw [valV_neg fun z => e (lf_inj z), valV_n]
      by_cases h : p ∈ l
      · rw [if_pos h, if_pos (List.mem_cons_of_mem _ h)]
      · rw [if_neg h, if_neg]
        intro q
        rcases List.mem_cons.mp q with q | q
        · exact e q.symm
        · exact h q
theorem putN_fresh {G : Plc → V} {l : List Plc} {p : Plc} {v : V} (h : p ∉ l) : putK (nKvs l G) (lf p) v = nKvs (l ++ [p]) (fun j => if j = p then v else G j) := by
  rw [putK_new v (by rw [valV_n, if_neg h])]
  unfold nKvs
  rw [List.map_append]
  congr 1
  · refine List.map_congr_left fun j hj => ?_
    show (lf j, G j) = (lf j, if j = p then v else G j)
    rw [if_neg fun e => h (by rw [← e]; exact hj)]
  · simp
theorem putN_add {l : List Plc} {p : Plc} {v : V} : putK (nKvs l fun _ => v) (lf p) v = nKvs (add l p) fun _ => v := by
  unfold add
  by_cases h : p ∈ l
  · rw [if_pos h]
    unfold putK
    rw [if_pos]
    · conv => rhs; rw [← List.map_id (nKvs l fun _ => v)]
      refine List.map_congr_left fun kv hkv => ?_
      obtain ⟨j, _, rfl⟩ := List.mem_map.mp hkv
      show (if lf j = lf p then (lf j, v) else (lf j, v)) = (lf j, v)
      split <;> rfl
    · rw [valV_any, valV_n, if_pos h]; rfl
  · rw [if_neg h, putN_fresh h]
    refine List.map_congr_left fun j _ => ?_
    show (lf j, if j = p then v else v) = (lf j, v)
    split <;> rfl
structure WSt (P : Program) (w : World) (H0 H : Hp) (W : Addr) (l : List Plc) (G : Plc → Addr) (ws : Plc → Ws) (F : Plc → Key → V) : Prop where
  d : DicN P w H W (nKvs l fun p => V.ref (G p))
  w : ∀ p ∈ l, WD H (G p) (ws p) (F p)
  new : ∀ p ∈ l, H0 (G p) = none
  inj : ∀ p ∈ l, ∀ p' ∈ l, G p = G p' → p = p'
  newW : H0 W = none
  old : Same H0 H
section
variable {P : Program} {w : World} {H0 H : Hp} {W : Addr} {l : List Plc} {G : Plc → Addr} {ws : Plc → Ws} {F : Plc → Key → V}
theorem WSt.same {H' : Hp} (S : WSt P w H0 H W l G ws F) (s : Same H H') : WSt P w H0 H' W l G ws F := ⟨S.d.same s, fun p hp => (S.w p hp).same s, S.new, S.inj, S.newW, S.old.trans s⟩
theorem WSt.grow {q : Addr} {p : Plc} {o : HO} (S : WSt P w H0 H W l G (fun _ => []) F) (hq : H q = none) (hp : p ∉ l) (hd : DicN P w (upd (upd H q (.dK [])) W o) W (putK (nKvs l fun p => V.ref (G p)) (lf p) (.ref q))) :
    WSt P w H0 (upd (upd H q (.dK [])) W o) W (l ++ [p]) (fun j => if j = p then q else G j) (fun _ => []) F := by
  obtain ⟨φ, hW⟩ := S.d.ex
  have qW : q ≠ W := fun e => by rw [e, hW] at hq; cases hq
  have kept : ∀ b u, H b = some u → b ≠ W → upd (upd H q (.dK [])) W o b = some u := fun b u e hb => by
    rw [upd_ne hb, upd_ne (ne_of_none e hq)]; exact e
  have gW : ∀ j ∈ l, G j ≠ W := fun j hj e => by
    have := (S.w j hj).d
    rw [e, hW] at this
    cases this
  have gq : ∀ j ∈ l, G j ≠ q := fun j hj => ne_of_none (S.w j hj).d hq
  have tk : ∀ b xs, H b = some (.tup xs) → upd (upd H q (.dK [])) W o b = some (.tup xs) := fun b xs e => kept b _ e fun z => by rw [z, hW] at e; cases e
  have nl : ∀ j ∈ l, j ≠ p := fun j hj e => hp (by rw [← e]; exact hj)
  refine ⟨?_, fun j hj => ?_, fun j hj => ?_, fun j hj j' hj' e => ?_, S.newW, fun b u e => ?_⟩
  · rw [putN_fresh hp] at hd
    have e : (nKvs (l ++ [p]) fun j => if j = p then V.ref q else V.ref (G j)) = nKvs (l ++ [p]) fun j => V.ref (if j = p then q else G j) := by
      refine List.map_congr_left fun j _ => ?_
      show (lf j, if j = p then V.ref q else V.ref (G j)) = (lf j, V.ref (if j = p then q else G j))
      split <;> rfl
    rw [← e]
    exact hd
  · rcases List.mem_append.mp hj with hj | hj
    · have S' := S.w j hj
      try dsimp only
      rw [if_neg (nl j hj)]
      exact ⟨kept _ _ S'.d (gW j hj), fun p' hp' => absurd hp' (by simp), S'.nd⟩
    · rw [List.mem_singleton.mp hj]
      try dsimp only
      rw [if_pos rfl]
      refine ⟨?_, fun p' hp' => absurd hp' (by simp), List.nodup_nil⟩
      rw [upd_ne qW, upd_same]
      rfl
  · rcases List.mem_append.mp hj with hj | hj
    · try dsimp only
      rw [if_neg (nl j hj)]
      exact S.new j hj
    · rw [List.mem_singleton.mp hj]
      try dsimp only
      rw [if_pos rfl]
      exact same_none S.old hq
  · rcases List.mem_append.mp hj with hj | hj
    · rcases List.mem_append.mp hj' with hj' | hj'
      · try dsimp only at e
        rw [if_neg (nl j hj), if_neg (nl j' hj')] at e
        exact S.inj j hj j' hj' e
      · rw [List.mem_singleton.mp hj'] at e ⊢
        try dsimp only at e
        rw [if_neg (nl j hj), if_pos rfl] at e
        exact absurd e (gq j hj)
    · rcases List.mem_append.mp hj' with hj' | hj'
      · rw [List.mem_singleton.mp hj] at e ⊢
        try dsimp only at e
        rw [if_pos rfl, if_neg (nl j' hj')] at e
        exact absurd e.symm (gq j' hj')
      · rw [List.mem_singleton.mp hj, List.mem_singleton.mp hj']
  · refine kept b u (S.old b u e) fun z => ?_
    rw [z, S.newW] at e
    cases e
theorem WSt.put {p : Plc} {x : Str} {L : List Int} {v : V} (S : WSt P w H0 H W l G ws F) (hp : p ∈ l) (hx : (Sum.inr x : Key) ∉ Ws.keys (ws p)) (hv : Dt H v (eInts L)) :
    WSt P w H0 (upd H (G p) (.dK (putK ((Ws.keys (ws p)).map fun k => (k, F p k)) (Sum.inr x) v))) W l G (fun j => if j = p then ws p ++ [(x, L)] else ws j) (fun j => if j = p then fun k => if k = Sum.inr x then v else F p k else F j) := by
  obtain ⟨φ, hW⟩ := S.d.ex
  have S' := S.w p hp
  have gW : W ≠ G p := fun e => by
    have := S'.d
    rw [← e, hW] at this
    cases this
  have tk : Tk H (upd H (G p) (.dK (putK ((Ws.keys (ws p)).map fun k => (k, F p k)) (Sum.inr x) v))) := tk_put S'.d fun xs z => nomatch z
  refine ⟨S.d.keep (upd_ne gW) tk, fun j hj => ?_, S.new, S.inj, S.newW, fun b u e => ?_⟩
  · by_cases e : j = p
    · subst e
      try dsimp only
      rw [if_pos rfl, if_pos rfl]
      have ek : Ws.keys (ws j ++ [(x, L)]) = Ws.keys (ws j) ++ [Sum.inr x] := by
        unfold Ws.keys
        rw [List.map_append]
        rfl
      refine ⟨?_, fun p' hp' => ?_, ?_⟩
      · rw [upd_same, putK_fresh hx, ek]
      · rcases List.mem_append.mp hp' with hp' | hp'
        · rw [if_neg fun z => hx (by rw [← z]; exact Ws.mem_keys hp')]
          exact (S'.v p' hp').tk tk
        · rw [List.mem_singleton.mp hp', if_pos rfl]
          exact hv.tk tk
      · rw [ek]
        refine List.nodup_append.mpr ⟨S'.nd, by simp, fun a ha b hb e => hx ?_⟩
        rw [← List.mem_singleton.mp hb, ← e]; exact ha
    · have S2 := S.w j hj
      try dsimp only
      rw [if_neg e, if_neg e]
      exact ⟨by rw [upd_ne fun z => e (S.inj j hj p hp z)]; exact S2.d, fun p' hp' => (S2.v p' hp').tk tk, S2.nd⟩
  · rw [upd_ne fun z => by have := S.new p hp; rw [← z, e] at this; cases this]
    exact S.old b u e
end
end Tsf
/-! answering.pattern_places -/
namespace Tsf
open PySem PySem.Spec PyProof.Rows L2
section
variable {P : Program} {w : World} {K : PySem.W.Frag} {mg : Str → Option Value} {base : Heap}
def spPP : Sp := fun vs H Q _ => ∃ (a : Addr) (pw : V) (ws : Ws) (f : Key → V) (p : Pat), vs = [.ref a, pw] ∧ WD H a ws f ∧ Dt H pw (ePat p) ∧ tot ws ≤ 1000 ∧
  ∀ q H', H q = none → Same H H' → H' q = some (.lst ((ppOf ws p).map V.int)) → Q (.ref q) H'
theorem con_pattern_places (T : Tx K mg) : Con P w K mg base 2 (He.ga K "pattern_places") ["words", "pattern"] spPP := by
  obtain ⟨fd, F⟩ := T.d_pattern_places
  obtain ⟨fdf, GF, bF, kF⟩ := con_fits (P := P) (w := w) (base := base) T
  refine ⟨fd, F.ok sc_pattern_places (fun vs H Q E h => ?_) (fun cdv A outer s H vs Q E hr h => ?_), F.bindsN fun _ _ _ _ _ _ us hl => match us, hl with | [_, _], _ => rfl, F.kp⟩
  · obtain ⟨a, pw, ws, f, p, rfl, _⟩ := h
    rfl
  · obtain ⟨a, pw, ws, f, p, rfl, W, hp, ht, k⟩ := h
    have nd := sc_pattern_places.nd
    refine ⟨_, PSs.nox (pss_cons (ps_set (i := 2) nd rfl (.inl rfl) pe_dnewK)
      (pss_cons (ps_lock (ps_for PassesOwn.never rfl (pi_keys (pv 0)) (pg_name (i := 3) nd rfl (.inl rfl))
        (pss_one (ps_if (pt_val (pe_call GF hr (by rfl) T.g_fits kF bF .nil pass0 (pa_cons (pv 3) (pa_cons (pv 1) pa_nil))))
          (pss_one (ps_for PassesOwn.never rfl (pi_tup (pe_dget (Room.u1 hr) (pv 0) (pv 3) (fun _ _ => rfl))) (pg_name (i := 4) nd rfl (.inl rfl))
            (pss_one (ps_dput (Room.u1 hr) (pv 2) (pv 4) pe_bl rfl)))) pss_nil))))
      (pss_one (ps_ret (pe_callB (call_sortedDIA (by rfl) (Room.u64 hr)) (by rfl) T.z_sorted (by decide +kernel) (pa_cons (pv 2) pa_nil)))))), ?_⟩
    intro d hd
    have s0 : Same H (upd H d (.dK [])) := same_new hd
    have had : a ≠ d := ne_of_none W.d hd
    refine ⟨a, _, s0 _ _ W.d, trivial, fun od => ?_⟩
    refine ⟨_, rfl, a, od, rfl, .inl ⟨_, upd_same, ?_⟩⟩
    refine for_it walk_keys (fun i σ H1 => ∃ v3 v4, σ = [some (.ref a), some pw, some (.ref d), v3, v4] ∧ H1 a = some (.frz od (.dK ((Ws.keys ws).map fun k => (k, f k)))) ∧ H1 d = some (.dK (kI (addAll (flat p (ws.take i))))) ∧ (∀ b o, b ≠ a → H b = some o → H1 b = some o))
      ⟨none, none, rfl, upd_same, by rw [upd_ne had.symm, upd_same]; rfl, fun b o hb e => by rw [upd_ne hb]; exact s0 _ _ e⟩ (fun i σ H1 _ ⟨_, _, _, h1, _⟩ => h1) ?_ ?_
    · rintro i x σ H1 H2 hi ⟨v3, v4, rfl, h1, h2, h3⟩ ⟨rfl, k', v', hk, rfl⟩
      have hi' : i < ws.length := by rw [List.length_map, Ws.keys, List.length_map] at hi; exact hi
      have hwi : ws[i]? = some ws[i] := List.getElem?_eq_getElem hi'
      generalize ws[i] = wp at hwi
      have hk' : (k', v') = ((Sum.inr wp.1 : Key), f (Sum.inr wp.1)) := by
        rw [List.getElem?_map, Ws.keys, List.getElem?_map, hwi] at hk
        exact (Option.some.inj hk).symm
      cases hk'
      have hm : wp ∈ ws := List.mem_of_getElem? hwi
      have tkH : Tk H H2 := fun b xs e => h3 b _ (fun z => by rw [z, W.d] at e; cases e) e
      have et : flat p (ws.take (i + 1)) = flat p (ws.take i) ++ if fitsS wp.1 p then wp.2 else [] := by
        rw [take_snoc hwi, flat_snoc]
      refine ⟨_, rfl, _, rfl, wp.1, pw, p, rfl, hp.tk tkH, _, rfl, ?_⟩
      refine ite2 (fun c => ?_) (fun c => ?_)
      · rw [if_pos c] at et
        obtain ⟨pa, pxs, hfe, hpa, hpx⟩ := ((W.v wp hm).tk tkH).tupN
        obtain rfl := dtAll_ints_inv hpx
        refine ⟨_, rfl, _, rfl, a, _, rfl, .inl ⟨_, Sum.inr wp.1, .inr ⟨_, h1⟩, rfl, by rw [valV_fn, if_pos (Ws.mem_keys hm)]⟩, pa, hfe, ⟨_, SqT.of hpa⟩, ?_⟩
        have hbd : ∀ j, j ≤ wp.2.length → (flat p (ws.take i) ++ wp.2.take j).length ≤ 1000 := fun j hj => by
          have h6 := flat_le p ws
          have h7 : (flat p (ws.take (i + 1))).length ≤ (flat p ws).length := by
            conv => rhs; rw [← List.take_append_drop (i + 1) ws]
            unfold flat
            rw [List.flatMap_append, List.length_append]
            omega
          rw [et, List.length_append] at h7
          rw [List.length_append, List.length_take]
          omega
        refine for_tup (K := K) (a := pa) (xs := wp.2.map V.int) (fun j σ H3 => ∃ v4, σ = [some (.ref a), some pw, some (.ref d), some (.str wp.1), v4] ∧ H3 a = some (.frz od (.dK ((Ws.keys ws).map fun k => (k, f k)))) ∧ H3 d = some (.dK (kI (addAll (flat p (ws.take i) ++ wp.2.take j)))) ∧ (∀ b o, b ≠ a → H b = some o → H3 b = some o) ∧ H3 pa = some (.tup (wp.2.map V.int)))
          ⟨v4, rfl, h1, by rw [List.take_zero, List.append_nil]; exact h2, h3, hpa⟩ (fun j σ H3 _ ⟨_, _, _, _, _, h5⟩ => SqT.of h5) ?_ ?_
        · rintro j x σ H3 hx ⟨v4', rfl, g1, g2, g3, g4⟩
          obtain ⟨z, hz, rfl⟩ : ∃ z, wp.2[j]? = some z ∧ x = V.int z := by
            rw [List.getElem?_map] at hx
            cases e : wp.2[j]? with
            | none => rw [e] at hx; cases hx
            | some z => rw [e] at hx; exact ⟨z, rfl, (Option.some.inj hx).symm⟩
          have hj : j < wp.2.length := (List.getElem?_eq_some_iff.mp hz).1
          refine ⟨_, rfl, _, rfl, d, _, rfl, .inl ⟨_, Sum.inl z, g2, rfl, ?_, rfl⟩, _, rfl, ?_, ?_, fun b o hb e => ?_, ?_⟩
          · rw [List.length_map, List.length_map]
            exact small1000 (Nat.le_trans (length_addAll _) (hbd j (Nat.le_of_lt hj)))
          · rw [upd_ne had]; exact g1
          · rw [upd_same, putI, ← addAll_snoc, List.append_assoc, ← take_snoc hz]
          · rw [upd_ne (ne_of_none e hd)]; exact g3 b o hb e
          · rw [upd_ne (fun z => by rw [z, g2] at g4; cases g4)]; exact g4
        · rintro σ H3 ⟨v4', rfl, g1, g2, g3, g4⟩
          refine ⟨_, _, rfl, g1, ?_, g3⟩
          rw [List.length_map, List.take_length] at g2
          rw [et]; exact g2
      · rw [if_neg c, List.append_nil] at et
        exact ⟨_, _, rfl, h1, by rw [et]; exact h2, h3⟩
    · rintro σ H1 ⟨v3, v4, rfl, h1, h2, h3⟩
      refine ⟨h1, ?_⟩
      have hl : ((Ws.keys ws).map fun k => (k, f k)).length = ws.length := by rw [List.length_map, Ws.keys, List.length_map]
      rw [hl, List.take_length] at h2
      have sF : Same H (upd H1 a (.dK ((Ws.keys ws).map fun k => (k, f k)))) := fun b o e => by
        by_cases hb : b = a
        · rw [hb, upd_same, ← W.d, ← hb]; exact e
        · rw [upd_ne hb]; exact h3 b o hb e
      refine ⟨_, rfl, d, _, addAll (flat p ws), rfl, .inl (by rw [upd_ne had.symm]; exact h2), keysI, fun q hq => ?_⟩
      exact k q _ (same_none sF hq) (sF.trans (same_new hq)) upd_same
end
end Tsf
/-! answering.last_from, row_matches, version_matches -/
namespace Tsf
open PySem PySem.Spec PyProof.Rows L2
/-- the lists of ints that stand at qs -/
def LL (H : Hp) (qs : List Addr) (ls : List (List Int)) : Prop := qs.length = ls.length ∧ ∀ (j : Nat) q L, qs[j]? = some q → ls[j]? = some L → H q = some (.lst (L.map V.int))
theorem LL.same {H H' : Hp} {qs : List Addr} {ls : List (List Int)} (h : LL H qs ls) (s : Same H H') : LL H' qs ls := ⟨h.1, fun j q L a b => s _ _ (h.2 j q L a b)⟩
theorem LL.nil {H : Hp} : LL H [] [] := ⟨rfl, fun j q L a _ => by cases a⟩
theorem LL.snoc {H : Hp} {qs : List Addr} {ls : List (List Int)} {q : Addr} {L : List Int} (h : LL H qs ls) (e : H q = some (.lst (L.map V.int))) : LL H (qs ++ [q]) (ls ++ [L]) := by
  refine ⟨by rw [List.length_append, List.length_append, h.1]; rfl, fun j q' L' a b => ?_⟩
  by_cases hj : j < qs.length
  · rw [List.getElem?_append_left hj] at a
    rw [List.getElem?_append_left (by rw [← h.1]; exact hj)] at b
    exact h.2 j q' L' a b
  · rw [List.getElem?_append_right (by omega)] at a
    rw [List.getElem?_append_right (by rw [← h.1]; omega), ← h.1] at b
    cases z : j - qs.length with
    | zero =>
      rw [z] at a b
      cases a
      cases b
      exact e
    | succ n => rw [z] at a; simp at a
theorem LL.tail {H : Hp} {q : Addr} {qs : List Addr} {L : List Int} {ls : List (List Int)} (h : LL H (q :: qs) (L :: ls)) : LL H qs ls :=
  ⟨by simpa using h.1, fun j q' L' a b => h.2 (j + 1) q' L' (by simpa using a) (by simpa using b)⟩
theorem ints_at1 {L : List Int} {i : Nat} {v : V} (h : (L.map V.int)[i]? = some v) : ∃ z, L[i]? = some z ∧ v = V.int z := by
  rw [List.getElem?_map] at h
  cases e : L[i]? with
  | none => rw [e] at h; cases h
  | some z => rw [e] at h; exact ⟨z, rfl, (Option.some.inj h).symm⟩
theorem refs_at1 {L : List Addr} {i : Nat} {v : V} (h : (L.map V.ref)[i]? = some v) : ∃ z, L[i]? = some z ∧ v = V.ref z := by
  rw [List.getElem?_map] at h
  cases e : L[i]? with
  | none => rw [e] at h; cases h
  | some z => rw [e] at h; exact ⟨z, rfl, (Option.some.inj h).symm⟩
section
variable {P : Program} {w : World} {K : PySem.W.Frag} {mg : Str → Option Value} {base : Heap}
def spLF : Sp := fun vs H Q _ => ∃ (l : Addr) (z : Int) (qs : List Addr) (ls : List (List Int)), vs = [.ref l, .int z] ∧ H l = some (.lst (qs.map V.ref)) ∧ LL H qs ls ∧ (∀ L ∈ ls, L.length ≤ 1000) ∧
  ∀ H', Same H H' → Q (oV (Ts.lastFrom ls z)) H'
theorem con_last_from (T : Tx K mg) : Con P w K mg base 1 (He.ga K "last_from") ["lists", "first"] spLF := by
  obtain ⟨fd, F⟩ := T.d_last_from
  refine ⟨fd, F.ok sc_last_from (fun vs H Q E h => ?_) (fun cdv A outer s H vs Q E hr h => ?_), F.bindsN fun _ _ _ _ _ _ us hl => match us, hl with | [_, _], _ => rfl, F.kp⟩
  · obtain ⟨l, z, qs, ls, rfl, _⟩ := h
    rfl
  · obtain ⟨l, z, qs, ls, rfl, hl, LL0, h1000, k⟩ := h
    have nd := sc_last_from.nd
    refine ⟨_, PSs.nox (pss_cons (ps_set (i := 2) nd rfl (.inr rfl) (pv 1))
      (pss_cons (ps_for PassesOwn.never rfl (pi_list (pv 0)) (pg_name (i := 3) nd rfl (.inl rfl))
        (pss_cons (ps_setLc (i := 4) (own := [("place", 5)]) (g := gName 5) rfl nd rfl rfl (sw_true rfl rfl rfl (by decide +kernel)) (pi_list (pv 3)) (blkOk_by (own := [("place", 5)]) (N := ["lists", "first", "last", "places", "behind", "place"]) (sc := defScope s_last_from) (by decide +kernel))
              (fun _ _ _ _ _ => pg_name (i := 5) nd rfl (.inl rfl)) (fun _ _ _ _ _ => pts_one (pt_cmpR op_gt (pv 5) (pv 2) (nomark _))) (fun _ _ _ _ _ => pv 5))
        (pss_cons (ps_if (pt_cmpR op_eq (pe_callB call_len_seq (by rfl) T.z_len PySem.boot_len (pa_cons (pv 4) pa_nil)) pe_int (nomark _)) (pss_one (ps_ret pe_non)) pss_nil)
        (pss_one (ps_set (i := 2) nd rfl (.inr rfl) (pe_ix ix_list (pv 4) pe_int (fun _ _ => rfl)))))))
      (pss_one (ps_ret (pv 2))))), ?_⟩
    refine ⟨_, rfl, ?_⟩
    refine ⟨_, rfl, l, rfl, ⟨_, SqL.of hl⟩, ?_⟩
    refine for_list (K := K) (a := l) (xs := qs.map V.ref) (fun i σ H1 => ∃ v3 v4 v5 z', σ = [some (.ref l), some (.int z), some (.int z'), v3, v4, v5] ∧ Same H H1 ∧ Ts.lastFrom ls z = Ts.lastFrom (ls.drop i) z')
      ⟨none, none, none, z, rfl, Same.refl H, by rw [List.drop_zero]⟩ (fun i σ H1 _ ⟨_, _, _, _, _, s1, _⟩ => SqL.of (s1 _ _ hl)) ?_ ?_
    · rintro i x σ H1 hx ⟨v3, v4, v5, z', rfl, s1, hz⟩
      obtain ⟨q, hq, rfl⟩ := refs_at1 hx
      have hi : i < ls.length := by rw [← LL0.1]; exact (List.getElem?_eq_some_iff.mp hq).1
      have hL : ls[i]? = some ls[i] := List.getElem?_eq_getElem hi
      have hd : ls.drop i = ls[i] :: ls.drop (i + 1) := List.drop_eq_getElem_cons hi
      have hlen : ls[i].length ≤ 1000 := h1000 _ (List.getElem_mem hi)
      generalize ls[i] = L at hL hd hlen
      have hqL := s1 _ _ (LL0.2 i q L hq hL)
      rw [hd] at hz
      refine ⟨_, rfl, q, rfl, ⟨_, SqL.of hqL⟩, fun D hD => ?_⟩
      have hqD : q ≠ D := ne_of_none hqL hD
      refine lc_list (K := K) (a := q) (xs := L.map V.int) (fun j H2 => Same H1 H2 ∧ H2 D = some (.lst (((L.take j).filter fun p => decide (z' < p)).map V.int)))
        ⟨same_new hD, upd_same⟩ (fun j H2 _ ⟨s2, _⟩ => SqL.of (s2 _ _ hqL)) ?_ ?_
      · rintro j v H2 hv ⟨s2, hD2⟩
        obtain ⟨p, hp, rfl⟩ := ints_at1 hv
        have et := take_snoc hp
        refine ⟨rfl, ?_⟩
        refine ⟨_, rfl, _, rfl, _, _, rfl, rfl, _, rfl, ?_⟩
        refine ite2 (fun c => ?_) (fun c => ?_)
        · refine ⟨_, rfl, _, hD2, ?_, fun b o e => ?_, ?_⟩
          · rw [List.length_map]
            refine small1000 (Nat.le_trans (List.length_filter_le _ _) ?_)
            rw [List.length_take]; omega
          · rw [upd_ne (ne_of_none e hD)]
            exact s2 _ _ e
          · rw [upd_same, et, List.filter_append, List.map_append]
            have : [p].filter (fun p => decide (z' < p)) = [p] := by rw [List.filter_cons, if_pos c]; rfl
            rw [this]
            rfl
        · refine ⟨s2, ?_⟩
          rw [hD2, et, List.filter_append]
          have : [p].filter (fun p => decide (z' < p)) = [] := by rw [List.filter_cons, if_neg c]; rfl
          rw [this, List.append_nil]
      · rintro H2 ⟨s2, hD2⟩
        rw [List.length_map, List.take_length] at hD2
        refine ⟨_, rfl, D, _, rfl, .inl (SqL.of hD2), rfl, _, rfl, ?_⟩
        rw [List.length_map]
        cases hf : L.filter (fun p => decide (z' < p)) with
        | nil =>
          have e : Ts.lastFrom (L :: ls.drop (i + 1)) z' = none := by
            unfold Ts.lastFrom
            rw [hf]
          have kk := k H2 (s1.trans s2)
          rw [hz, e] at kk
          exact kk
        | cons b r =>
          refine iteN (decide_eq_false fun z => by have := V.int.inj z; rw [List.length_cons] at this; omega) ?_
          rw [hf] at hD2
          refine ⟨_, rfl, D, _, _, _, rfl, rfl, SqL.of hD2, atI_nat (j := 0) rfl, _, _, _, _, rfl, s1.trans s2, ?_⟩
          rw [hz]
          conv => lhs; unfold Ts.lastFrom
          rw [hf]
    · rintro σ H1 ⟨v3, v4, v5, z', rfl, s1, hz⟩
      have e : ls.drop (qs.map V.ref).length = [] := by rw [List.length_map, LL0.1, List.drop_length]
      rw [e] at hz
      have kk := k H1 s1
      rw [hz] at kk
      exact ⟨_, rfl, kk⟩
end
end Tsf
/-! answering.row_matches -/
namespace Tsf
open PySem PySem.Spec PyProof.Rows L2
section
variable {P : Program} {w : World} {K : PySem.W.Frag} {mg : Str → Option Value} {base : Heap}
def spRow : Sp := fun vs H Q _ => ∃ (a : Addr) (rv : V) (ws : Ws) (f : Key → V) (ps : List Pat) (g : Int), vs = [.ref a, rv] ∧ WD H a ws f ∧ Dt H rv (eQn (.row ps g)) ∧ fine (.row ps g) ∧ tot ws ≤ 1000 ∧
  ∀ H', Same H H' → Q (.bl (Ts.rowM (ps.map (ppOf ws)) g)) H'
theorem con_row_matches (T : Tx K mg) : Con P w K mg base 3 (He.ga K "row_matches") ["words", "row"] spRow := by
  obtain ⟨fd, F⟩ := T.d_row_matches
  obtain ⟨fdp, GP, bP, kP⟩ := con_pattern_places (P := P) (w := w) (base := base) T
  obtain ⟨fdl, GL, bL, kL⟩ := (con_last_from (P := P) (w := w) (base := base) T).mono (show 1 ≤ 2 by omega)
  refine ⟨fd, F.ok sc_row_matches (fun vs H Q E h => ?_) (fun cdv A outer s H vs Q E hr h => ?_), F.bindsN fun _ _ _ _ _ _ us hl => match us, hl with | [_, _], _ => rfl, F.kp⟩
  · obtain ⟨a, rv, ws, f, ps, g, rfl, _⟩ := h
    rfl
  · obtain ⟨a, rv, ws, f, ps, g, rfl, W, hrow, ⟨hne, h6, hg0, hg9⟩, ht, k⟩ := h
    obtain ⟨ra, u1, u2, u3, rfl, hra, hu1, hu2, hu3⟩ := hrow.t3
    obtain ⟨pa, pvs, rfl, hpa, hpv⟩ := hu2.tupN
    obtain rfl := hu3.int_inv
    have hpl : pvs.length = ps.length := by rw [hpv.length, List.length_map]
    have nd := sc_row_matches.nd
    refine ⟨_, PSs.nox (pss_cons (ps_setLc (i := 2) (own := [("pattern", 5)]) (g := gName 5) (tt := tYes) rfl nd rfl rfl (sw_true rfl rfl rfl (by decide +kernel)) (pi_tup (pe_ix ix_tup (pv 1) pe_int (fun _ _ => rfl))) (blkOk_by (own := [("pattern", 5)]) (N := ["words", "row", "lists", "first", "last", "pattern"]) (sc := defScope s_row_matches) (by decide +kernel))
              (fun _ _ _ _ _ => pg_name (i := 5) nd rfl (.inl rfl)) (fun _ _ _ _ _ => pts_nil) (fun _ _ _ _ _ => pe_call GP hr (by rfl) T.g_pattern_places kP bP .nil pass0 (pa_cons (pv 0) (pa_cons (pv 5) pa_nil))))
      (pss_cons (ps_for PassesOwn.never rfl (pi_list (pe_ix ix_list (pv 2) pe_int (fun _ _ => rfl))) (pg_name (i := 3) nd rfl (.inl rfl))
        (pss_cons (ps_set (i := 4) nd rfl (.inl rfl) (pe_call GL hr (by rfl) T.g_last_from kL bL .nil pass0 (pa_cons (pe_slice sl_list (pv 2) (po_some pe_int) po_none) (pa_cons (pv 3) pa_nil))))
        (pss_one (ps_if (PW.pt (pw_and (pt_cmpR op_notN (pv 4) pe_non (nomark _)) (pw_and1 (pt_cmpR op_le (pe_op op_sub (pe_op op_add (pe_op op_sub (pv 4) (pv 3)) pe_int) (pe_callB call_len_seq (by rfl) T.z_len PySem.boot_len (pa_cons (pv 2) pa_nil))) (pe_ix ix_tup (pv 1) pe_int (fun _ _ => rfl)) (nomark _)))))
          (pss_one (ps_ret pe_bl)) pss_nil))))
      (pss_one (ps_ret pe_bl)))), ?_⟩
    refine ⟨_, rfl, ra, _, _, _, rfl, rfl, SqT.of hra, atI_nat (j := 1) rfl, pa, rfl, ⟨_, SqT.of hpa⟩, fun D hD => ?_⟩
    refine lc_tup (K := K) (a := pa) (xs := pvs) (fun i H1 => ∃ qs, Same H H1 ∧ H1 D = some (.lst (qs.map V.ref)) ∧ LL H1 qs ((ps.take i).map (ppOf ws)) ∧ ∀ q ∈ qs, q ≠ D)
      ⟨[], same_new hD, upd_same, .nil, fun q hq => absurd hq (by simp)⟩ (fun i H1 _ ⟨qs, s1, _⟩ => SqT.of (s1 _ _ hpa)) ?_ ?_
    · rintro i v H1 hv ⟨qs, s1, hD1, ll, hne1⟩
      obtain ⟨p, hp, dp⟩ := hpv.mget hv
      have hi : i < ps.length := (List.getElem?_eq_some_iff.mp hp).1
      refine ⟨rfl, ?_⟩
      refine ⟨_, rfl, _, rfl, a, v, ws, f, p, rfl, W.same s1, dp.tk (tk_same s1), ht, fun q H2 hq s2 e2 => ?_⟩
      have hqD : q ≠ D := (ne_of_none hD1 hq).symm
      have qsl : qs.length ≤ 6 := by
        rw [ll.1, List.length_map, List.length_take]; omega
      refine ⟨_, s2 _ _ hD1, ?_, qs ++ [q], fun b o e => ?_, ?_, ?_, ?_⟩
      · rw [List.length_map]; exact small1000 (by omega)
      · rw [upd_ne (ne_of_none e hD)]
        exact s2 _ _ (s1 _ _ e)
      · rw [upd_same, List.map_append]; rfl
      · rw [take_snoc hp, List.map_append]
        refine LL.snoc ⟨ll.1, fun j q' L h1 h2 => ?_⟩ (by rw [upd_ne hqD]; exact e2)
        rw [upd_ne (hne1 _ (List.mem_of_getElem? h1))]
        exact s2 _ _ (ll.2 j q' L h1 h2)
      · intro q' hq'
        rcases List.mem_append.mp hq' with h | h
        · exact hne1 _ h
        · rw [List.mem_singleton.mp h]; exact hqD
    · rintro H1 ⟨qs, s1, hD1, ll, hne1⟩
      rw [hpl, List.take_length] at ll
      obtain ⟨p0, pr, rfl⟩ : ∃ p r, ps = p :: r := by
        cases ps with
        | nil => exact absurd rfl hne
        | cons p r => exact ⟨p, r, rfl⟩
      obtain ⟨q0, qr, rfl⟩ : ∃ p r, qs = p :: r := by
        cases qs with
        | nil => have := ll.1; simp at this
        | cons p r => exact ⟨p, r, rfl⟩
      have hq0 : H1 q0 = some (.lst ((ppOf ws p0).map V.int)) := ll.2 0 q0 _ rfl rfl
      refine ⟨_, rfl, D, _, _, _, rfl, rfl, SqL.of hD1, atI_nat (j := 0) rfl, q0, rfl, ⟨_, SqL.of hq0⟩, ?_⟩
      refine for_list (K := K) (a := q0) (xs := (ppOf ws p0).map V.int) (fun i σ H2 => ∃ v3 v4, σ = [some (.ref a), some (.ref ra), some (.ref D), v3, v4, none] ∧ Same H1 H2 ∧ ∀ x ∈ (ppOf ws p0).take i, Ts.rowAt ((p0 :: pr).map (ppOf ws)) g x = false)
        ⟨none, none, rfl, Same.refl H1, fun x hx => by simp at hx⟩ (fun i σ H2 _ ⟨_, _, _, s2, _⟩ => SqL.of (s2 _ _ hq0)) ?_ ?_
      · rintro i v σ H2 hv ⟨v3, v4, rfl, s2, hno⟩
        obtain ⟨x, hx, rfl⟩ := ints_at1 hv
        refine ⟨_, rfl, _, rfl, D, _, rfl, SqL.of (s2 _ _ hD1), fun m hm => ?_⟩
        have ec : cutV ((q0 :: qr).map V.ref) (some 1) none = qr.map V.ref := by
          have e1 : HT.sIx ((q0 :: qr).map V.ref).length 0 (some 1) = 1 := by
            rw [List.length_map, List.length_cons]; unfold HT.sIx; simp <;> omega
          have e2 : HT.sIx ((q0 :: qr).map V.ref).length ((q0 :: qr).map V.ref).length none = ((q0 :: qr).map V.ref).length := rfl
          unfold cutV
          rw [e1, e2]
          show List.take (((q0 :: qr).map V.ref).length - 1) (qr.map V.ref) = _
          rw [List.length_map, List.length_cons, Nat.add_sub_cancel]
          exact List.take_of_length_le (by rw [List.length_map]; exact Nat.le_refl _)
        rw [ec]
        refine ⟨_, rfl, m, x, qr, pr.map (ppOf ws), rfl, upd_same, (ll.same (s2.trans (same_new hm))).tail, ?_, fun H3 s3 => ?_⟩
        · intro L hL
          obtain ⟨p, _, rfl⟩ := List.mem_map.mp hL
          exact Nat.le_trans (length_ppOf ws p) ht
        have s13 := (s2.trans (same_new hm)).trans s3
        refine ⟨_, rfl, ?_⟩
        have er : Ts.rowAt ((p0 :: pr).map (ppOf ws)) g x = match Ts.lastFrom (pr.map (ppOf ws)) x with | some l => decide (l - x + 1 - (((p0 :: pr).map (ppOf ws)).length : Int) ≤ g) | none => false := rfl
        cases hlf : Ts.lastFrom (pr.map (ppOf ws)) x with
        | none =>
          rw [hlf] at er
          refine ⟨rfl, false, rfl, ?_⟩
          refine iteF ?_
          refine ⟨_, _, rfl, s13, fun y hy => ?_⟩
          rw [take_snoc hx] at hy
          rcases List.mem_append.mp hy with hy | hy
          · exact hno y hy
          · rw [List.mem_singleton.mp hy]; exact er
        | some z =>
          rw [hlf] at er
          refine ⟨rfl, true, rfl, iteT ?_⟩
          refine ⟨_, rfl, _, rfl, _, _, rfl, rfl, _, _, rfl, rfl, _, rfl, D, _, rfl, .inl (SqL.of (s13 _ _ hD1)), _, _, rfl, rfl, _, rfl, ra, _, _, _, rfl, rfl, SqT.of (s13 _ _ (s1 _ _ hra)), atI_nat (j := 2) rfl, _, _, rfl, rfl, _, rfl, ?_⟩
          have eln : (((q0 :: qr).map V.ref).length : Int) = (((p0 :: pr).map (ppOf ws)).length : Int) := by
            rw [List.length_map, ll.1]
          rw [eln]
          refine ite2 (fun c => ?_) (fun c => ?_)
          · have e : Ts.rowM ((p0 :: pr).map (ppOf ws)) g = true := by
              show (ppOf ws p0).any (Ts.rowAt ((p0 :: pr).map (ppOf ws)) g) = true
              exact List.any_eq_true.mpr ⟨x, List.mem_of_getElem? hx, by rw [er]; exact c⟩
            rw [← e]
            exact k H3 (s1.trans s13)
          · refine ⟨_, _, rfl, s13, fun y hy => ?_⟩
            rw [take_snoc hx] at hy
            rcases List.mem_append.mp hy with hy | hy
            · exact hno y hy
            · rw [List.mem_singleton.mp hy, er]
              simpa using c
      · rintro σ H2 ⟨v3, v4, rfl, s2, hno⟩
        rw [List.length_map, List.take_length] at hno
        have e : Ts.rowM ((p0 :: pr).map (ppOf ws)) g = false := by
          show (ppOf ws p0).any (Ts.rowAt ((p0 :: pr).map (ppOf ws)) g) = false
          rw [List.any_eq_false]
          intro x hx
          rw [hno x hx]
          exact Bool.false_ne_true
        rw [← e]
        exact k H2 (s1.trans s2)
end
end Tsf
/-! answering.version_matches -/
namespace Tsf
open PySem PySem.Spec PyProof.Rows L2
section
variable {P : Program} {w : World} {K : PySem.W.Frag} {mg : Str → Option Value} {base : Heap}
def spVM (n : Nat) : Sp := fun vs H Q _ => ∃ (a : Addr) (qv : V) (ws : Ws) (f : Key → V) (q : Q_), vs = [.ref a, qv] ∧ WD H a ws f ∧ Dt H qv (eQn q) ∧ fine q ∧ q.depth < n ∧ tot ws ≤ 1000 ∧
  ∀ H', Same H H' → Q (.bl (Ts.vmatch (ppOf ws) q)) H'
theorem con_version_matches (T : Tx K mg) : ∀ n, Con P w K mg base (4 + n) (He.ga K "version_matches") ["words", "question"] (spVM n) := by
  intro n
  induction n with
  | zero =>
    obtain ⟨fd, F⟩ := T.d_version_matches
    exact con_void (F.bindsN fun _ _ _ _ _ _ us hl => match us, hl with | [_, _], _ => rfl) F.kp fun vs H Q E ⟨_, _, _, _, _, _, _, _, _, h, _⟩ => absurd h (Nat.not_lt_zero _)
  | succ n ih =>
    obtain ⟨fd, F⟩ := T.d_version_matches
    obtain ⟨fdm, GM, bM, kM⟩ := ih
    obtain ⟨fds, GS, bS, kS⟩ := con_row_matches (P := P) (w := w) (base := base) T
    refine ⟨fd, F.ok sc_version_matches (fun vs H Q E h => ?_) (fun cdv A outer s H vs Q E hr h => ?_), F.bindsN fun _ _ _ _ _ _ us hl => match us, hl with | [_, _], _ => rfl, F.kp⟩
    · obtain ⟨a, qv, ws, f, q, rfl, _⟩ := h
      rfl
    · obtain ⟨da, qv, ws, f, q, rfl, hd, hq, hf, hdep, hlen, k⟩ := h
      have nd := sc_version_matches.nd
      have hr2 : Room 3 _ := hr.mono (show 3 ≤ 4 + n by omega)
      refine ⟨_, PSs.nox (pss_cons (ps_set (i := 2) nd rfl (.inl rfl) (pe_ix ix_tup (pv 1) pe_int (fun _ _ => rfl)))
        (pss_cons (ps_if (pt_cmpR op_eq (pv 2) pe_str (nomark _)) (pss_one (ps_ret (pe_call GS hr2 (by rfl) T.g_row_matches kS bS .nil pass0 (pa_cons (pv 0) (pa_cons (pv 1) pa_nil))))) pss_nil)
        (pss_cons (ps_if (pt_cmpR op_eq (pv 2) pe_str (nomark _)) (pss_one (ps_ret pe_bl)) pss_nil)
        (pss_cons (ps_if (pt_cmpR op_eq (pv 2) pe_str (nomark _)) (pss_one (ps_ret (pe_not (pe_call GM hr (by rfl) T.g_version_matches kM bM .nil pass0 (pa_cons (pv 0) (pa_cons (pe_ix ix_tup (pv 1) pe_int (fun _ _ => rfl)) pa_nil)))))) pss_nil)
        (pss_cons (ps_if (pt_cmpR op_eq (pv 2) pe_str (nomark _)) (pss_one (ps_ret (pe_callB (cr_all rfl) (by rfl) T.z_all (by decide +kernel) (pa_cons
            (pe_lc (own := [("part", 3)]) (g := gName 3) (tt := tYes) rfl nd (pi_tup (pe_ix ix_tup (pv 1) pe_int (fun _ _ => rfl))) (blkOk_by (own := [("part", 3)]) (N := ["words", "question", "kind", "part"]) (sc := defScope s_version_matches) (by decide +kernel))
              (fun _ _ _ _ _ => pg_name (i := 3) nd rfl (.inl rfl)) (fun _ _ _ _ _ => pts_nil) (fun _ _ _ _ _ => pe_call GM hr (by rfl) T.g_version_matches kM bM .nil pass0 (pa_cons (pv 0) (pa_cons (pv 3) pa_nil)))) pa_nil)))) pss_nil)
        (pss_one (ps_ret (pe_callB (cr_any rfl) (by rfl) T.z_any (by decide +kernel) (pa_cons
            (pe_lc (own := [("part", 3)]) (g := gName 3) (tt := tYes) rfl nd (pi_tup (pe_ix ix_tup (pv 1) pe_int (fun _ _ => rfl))) (blkOk_by (own := [("part", 3)]) (N := ["words", "question", "kind", "part"]) (sc := defScope s_version_matches) (by decide +kernel))
              (fun _ _ _ _ _ => pg_name (i := 3) nd rfl (.inl rfl)) (fun _ _ _ _ _ => pts_nil) (fun _ _ _ _ _ => pe_call GM hr (by rfl) T.g_version_matches kM bM .nil pass0 (pa_cons (pv 0) (pa_cons (pv 3) pa_nil)))) pa_nil))))))))), ?_⟩
      cases q with
      | row ps g =>
        obtain ⟨ra, u1, u2, u3, rfl, hra, hu1, hu2, hu3⟩ := (show Dt H qv (.tuple [.str "row", .tuple (ps.map ePat), .int g]) from hq).t3
        obtain ⟨rfl, _⟩ := hu1.str_inv
        refine ⟨_, rfl, ra, _, _, _, rfl, rfl, SqT.of hra, atI_nat (j := 0) rfl, ?_⟩
        refine ⟨_, rfl, rfl, _, rfl, ite_eq' ?_⟩
        exact ⟨_, rfl, _, rfl, da, _, ws, f, ps, g, rfl, hd, hq, hf, hlen, fun H' s => k H' s⟩
      | all =>
        obtain ⟨ra, u1, rfl, hra, hu1⟩ := (show Dt H qv (.tuple [.str "all"]) from hq).t1
        obtain ⟨rfl, _⟩ := hu1.str_inv
        refine ⟨_, rfl, ra, _, _, _, rfl, rfl, SqT.of hra, atI_nat (j := 0) rfl, ?_⟩
        refine ⟨_, rfl, rfl, _, rfl, ite_ne (by decide +kernel) ?_⟩
        refine ⟨_, rfl, rfl, _, rfl, ite_eq' ?_⟩
        exact k H (Same.refl H)
      | not q =>
        obtain ⟨ra, u1, u2, rfl, hra, hu1, hu2⟩ := (show Dt H qv (.tuple [.str "not", eQn q]) from hq).t2
        obtain ⟨rfl, _⟩ := hu1.str_inv
        refine ⟨_, rfl, ra, _, _, _, rfl, rfl, SqT.of hra, atI_nat (j := 0) rfl, ?_⟩
        refine ⟨_, rfl, rfl, _, rfl, ite_ne (by decide +kernel) ?_⟩
        refine ⟨_, rfl, rfl, _, rfl, ite_ne (by decide +kernel) ?_⟩
        refine ⟨_, rfl, rfl, _, rfl, ite_eq' ?_⟩
        have hdq : q.depth < n := Nat.lt_of_succ_lt_succ hdep
        exact ⟨_, rfl, _, rfl, ra, _, _, _, rfl, rfl, SqT.of hra, atI_nat (j := 1) rfl, da, u2, ws, f, q, rfl, hd, hu2, hf, hdq, hlen, fun H' s => ⟨_, rfl, k H' s⟩⟩
      | and a b =>
        obtain ⟨ra, u1, u2, rfl, hra, hu1, hu2⟩ := (show Dt H qv (.tuple [.str "and", .tuple [eQn a, eQn b]]) from hq).t2
        obtain ⟨rfl, _⟩ := hu1.str_inv
        obtain ⟨pa, va, vb, rfl, hpa, hva, hvb⟩ := hu2.t2
        refine ⟨_, rfl, ra, _, _, _, rfl, rfl, SqT.of hra, atI_nat (j := 0) rfl, ?_⟩
        refine ⟨_, rfl, rfl, _, rfl, ite_ne (by decide +kernel) ?_⟩
        refine ⟨_, rfl, rfl, _, rfl, ite_ne (by decide +kernel) ?_⟩
        refine ⟨_, rfl, rfl, _, rfl, ite_ne (by decide +kernel) ?_⟩
        refine ⟨_, rfl, rfl, _, rfl, ite_eq' ?_⟩
        have hda : a.depth < n ∧ b.depth < n := by
          have h1 : max a.depth b.depth + 1 < n + 1 := hdep
          omega
        have hqs : DtAll H [va, vb] ([a, b].map eQn) := .cons hva (.cons hvb .nil)
        have hall : ∀ q ∈ [a, b], fine q ∧ q.depth < n := fun q hq => by
          rcases List.mem_cons.mp hq with rfl | hq
          · exact ⟨hf.1, hda.1⟩
          · rw [List.mem_singleton.mp hq]
            exact ⟨hf.2, hda.2⟩
        refine ⟨_, rfl, ra, _, _, _, rfl, rfl, SqT.of hra, atI_nat (j := 1) rfl, pa, rfl, ⟨_, SqT.of hpa⟩, fun D hD => ?_⟩
        refine lc_tup (K := K) (a := pa) (xs := [va, vb]) (fun i H1 => Same H H1 ∧ H1 D = some (.lst ((([a, b].map (Ts.vmatch (ppOf ws))).take i).map V.bl)))
          ⟨same_new hD, upd_same⟩ (fun i H1 _ ⟨s1, _⟩ => SqT.of (s1 _ _ hpa)) ?_ ?_
        · rintro i x H1 hx ⟨s1, hD1⟩
          obtain ⟨q, hqi, dq⟩ := hqs.mget hx
          obtain ⟨f1, f2⟩ := hall q (List.mem_of_getElem? hqi)
          refine ⟨rfl, ?_⟩
          refine ⟨_, rfl, _, rfl, da, x, ws, f, q, rfl, hd.same s1, dq.tk (tk_same s1), f1, f2, hlen, fun H2 s2 => ⟨_, s2 _ _ hD1, ?_, ?_, ?_⟩⟩
          · rw [List.length_map, List.length_take]
            refine Nat.lt_of_le_of_lt (Nat.min_le_right _ _) ?_
            rw [List.length_map]
            show 2 < sizeLine
            decide
          · intro b' o e
            by_cases q' : b' = D
            · rw [q', hD] at e; cases e
            · rw [upd_ne q']; exact s2 _ _ (s1 _ _ e)
          · rw [upd_same, take_snoc (show ([a, b].map (Ts.vmatch (ppOf ws)))[i]? = some (Ts.vmatch (ppOf ws) q) by rw [List.getElem?_map, hqi]; rfl), List.map_append]
            rfl
        · rintro H1 ⟨s1, hD1⟩
          refine ⟨D, _, rfl, SqL.of hD1, ?_⟩
          have e : (([a, b].map (Ts.vmatch (ppOf ws))).take 2).all id = Ts.vmatch (ppOf ws) (.and a b) := by
            show (Ts.vmatch (ppOf ws) a && (Ts.vmatch (ppOf ws) b && true)) = (Ts.vmatch (ppOf ws) a && Ts.vmatch (ppOf ws) b)
            rw [Bool.and_true]
          show Q (.bl ((([a, b].map (Ts.vmatch (ppOf ws))).take 2).all id)) H1
          rw [e]
          exact k H1 s1
      | or a b =>
        obtain ⟨ra, u1, u2, rfl, hra, hu1, hu2⟩ := (show Dt H qv (.tuple [.str "or", .tuple [eQn a, eQn b]]) from hq).t2
        obtain ⟨rfl, _⟩ := hu1.str_inv
        obtain ⟨pa, va, vb, rfl, hpa, hva, hvb⟩ := hu2.t2
        refine ⟨_, rfl, ra, _, _, _, rfl, rfl, SqT.of hra, atI_nat (j := 0) rfl, ?_⟩
        refine ⟨_, rfl, rfl, _, rfl, ite_ne (by decide +kernel) ?_⟩
        refine ⟨_, rfl, rfl, _, rfl, ite_ne (by decide +kernel) ?_⟩
        refine ⟨_, rfl, rfl, _, rfl, ite_ne (by decide +kernel) ?_⟩
        refine ⟨_, rfl, rfl, _, rfl, ite_ne (by decide +kernel) ?_⟩
        have hda : a.depth < n ∧ b.depth < n := by
          have h1 : max a.depth b.depth + 1 < n + 1 := hdep
          omega
        have hqs : DtAll H [va, vb] ([a, b].map eQn) := .cons hva (.cons hvb .nil)
        have hall : ∀ q ∈ [a, b], fine q ∧ q.depth < n := fun q hq => by
          rcases List.mem_cons.mp hq with rfl | hq
          · exact ⟨hf.1, hda.1⟩
          · rw [List.mem_singleton.mp hq]
            exact ⟨hf.2, hda.2⟩
        refine ⟨_, rfl, ra, _, _, _, rfl, rfl, SqT.of hra, atI_nat (j := 1) rfl, pa, rfl, ⟨_, SqT.of hpa⟩, fun D hD => ?_⟩
        refine lc_tup (K := K) (a := pa) (xs := [va, vb]) (fun i H1 => Same H H1 ∧ H1 D = some (.lst ((([a, b].map (Ts.vmatch (ppOf ws))).take i).map V.bl)))
          ⟨same_new hD, upd_same⟩ (fun i H1 _ ⟨s1, _⟩ => SqT.of (s1 _ _ hpa)) ?_ ?_
        · rintro i x H1 hx ⟨s1, hD1⟩
          obtain ⟨q, hqi, dq⟩ := hqs.mget hx
          obtain ⟨f1, f2⟩ := hall q (List.mem_of_getElem? hqi)
          refine ⟨rfl, ?_⟩
          refine ⟨_, rfl, _, rfl, da, x, ws, f, q, rfl, hd.same s1, dq.tk (tk_same s1), f1, f2, hlen, fun H2 s2 => ⟨_, s2 _ _ hD1, ?_, ?_, ?_⟩⟩
          · rw [List.length_map, List.length_take]
            refine Nat.lt_of_le_of_lt (Nat.min_le_right _ _) ?_
            rw [List.length_map]
            show 2 < sizeLine
            decide
          · intro b' o e
            by_cases q' : b' = D
            · rw [q', hD] at e; cases e
            · rw [upd_ne q']; exact s2 _ _ (s1 _ _ e)
          · rw [upd_same, take_snoc (show ([a, b].map (Ts.vmatch (ppOf ws)))[i]? = some (Ts.vmatch (ppOf ws) q) by rw [List.getElem?_map, hqi]; rfl), List.map_append]
            rfl
        · rintro H1 ⟨s1, hD1⟩
          refine ⟨D, _, rfl, SqL.of hD1, ?_⟩
          have e : (([a, b].map (Ts.vmatch (ppOf ws))).take 2).any id = Ts.vmatch (ppOf ws) (.or a b) := by
            show (Ts.vmatch (ppOf ws) a || (Ts.vmatch (ppOf ws) b || false)) = (Ts.vmatch (ppOf ws) a || Ts.vmatch (ppOf ws) b)
            rw [Bool.or_false]
          show Q (.bl ((([a, b].map (Ts.vmatch (ppOf ws))).take 2).any id)) H1
          rw [e]
          exact k H1 s1
end
end Tsf
/-! answering.answer_by -/
namespace Tsf
open PySem PySem.Spec PyProof.Rows L2
def mt (q : Q_) (PS : List Post) (p : Plc) : Bool := Ts.vmatch (ppOf (wsOf PS p)) q
theorem isIn_nil (x : Int) : Ts.isIn [] x = false := rfl
theorem mem_snoc {α : Type} {P : α → Prop} {l : List α} {a : α} : (∃ x ∈ l ++ [a], P x) ↔ (∃ x ∈ l, P x) ∨ P a := by
  constructor
  · rintro ⟨x, hx, h⟩
    rcases List.mem_append.mp hx with hx | hx
    · exact .inl ⟨x, hx, h⟩
    · rw [List.mem_singleton.mp hx] at h
      exact .inr h
  · rintro (⟨x, hx, h⟩ | h)
    · exact ⟨x, List.mem_append_left _ hx, h⟩
    · exact ⟨a, List.mem_append_right _ (List.mem_singleton.mpr rfl), h⟩
/-- what the answer's dict holds: of the places l those with m -/
structure Ans (H : Hp) (l : List Plc) (m : Plc → Bool) (ks : List Str) (ft : Key → V) : Prop where
  nd : ks.Nodup
  mem : ∀ k, k ∈ ks ↔ ∃ p ∈ l, p.1 = k ∧ m p = true
  tl : ∀ k ∈ ks, ∃ r, Dt H (ft (Sum.inr k)) (eInts r) ∧ Ts.Rise r ∧ r.length ≤ 2 * l.length ∧ ∀ x, Ts.isIn r x = l.any fun p => decide (p.1 = k) && m p && Ts.isIn (Ts.ofSpan p.2.1 p.2.2) x
theorem Ans.tk {H H' : Hp} {l : List Plc} {m : Plc → Bool} {ks : List Str} {ft : Key → V} (A : Ans H l m ks ft) (k : Tk H H') : Ans H' l m ks ft :=
  ⟨A.nd, A.mem, fun x hx => by obtain ⟨r, a, b, c, d⟩ := A.tl x hx; exact ⟨r, a.tk k, b, c, d⟩⟩
theorem any_snoc {α : Type} (l : List α) (a : α) (f : α → Bool) : (l ++ [a]).any f = (l.any f || f a) := by
  rw [List.any_append]; simp
theorem Ans.skip {H : Hp} {l : List Plc} {m : Plc → Bool} {ks : List Str} {ft : Key → V} {p : Plc} (A : Ans H l m ks ft) (h : m p = false) : Ans H (l ++ [p]) m ks ft := by
  refine ⟨A.nd, fun k => ?_, fun k hk => ?_⟩
  · rw [mem_snoc, A.mem]
    constructor
    · exact .inl
    · rintro (q | ⟨_, q⟩)
      · exact q
      · rw [h] at q; cases q
  · obtain ⟨r, a, b, c, d⟩ := A.tl k hk
    refine ⟨r, a, b, by rw [List.length_append]; omega, fun x => ?_⟩
    rw [any_snoc, d, h, Bool.and_false, Bool.false_and, Bool.or_false]
theorem Ans.put {H H' : Hp} {l : List Plc} {m : Plc → Bool} {ks : List Str} {ft : Key → V} {p : Plc} {r0 r : List Int} {v : V} (A : Ans H l m ks ft) (k : Tk H H') (h : m p = true) (hv : Dt H' v (eInts r)) (hr : Ts.Rise r) (hl : r.length ≤ r0.length + 2) (hl0 : r0.length ≤ 2 * l.length)
    (h0 : ∀ x, Ts.isIn r0 x = l.any fun q => decide (q.1 = p.1) && m q && Ts.isIn (Ts.ofSpan q.2.1 q.2.2) x) (hin : ∀ x, Ts.isIn r x = (Ts.isIn r0 x || Ts.isIn (Ts.ofSpan p.2.1 p.2.2) x)) :
    Ans H' (l ++ [p]) m (add ks p.1) (fun j => if j = Sum.inr p.1 then v else ft j) := by
  refine ⟨nodup_add A.nd, fun k => ?_, fun k' hk => ?_⟩
  · rw [mem_snoc, mem_add, A.mem]
    constructor
    · rintro (q | q)
      · exact .inl q
      · exact .inr ⟨q.symm, h⟩
    · rintro (q | ⟨q, _⟩)
      · exact .inl q
      · exact .inr q.symm
  · by_cases e : k' = p.1
    · subst e
      refine ⟨r, by rw [if_pos rfl]; exact hv, hr, by rw [List.length_append, List.length_singleton]; omega, fun x => ?_⟩
      rw [any_snoc, hin, h0, h, decide_eq_true rfl]
      rfl
    · rcases mem_add.mp hk with hk | hk
      · obtain ⟨r', a, b, c, d⟩ := A.tl k' hk
        refine ⟨r', by rw [if_neg fun z => e (Sum.inr.inj z)]; exact a.tk k, b, by rw [List.length_append]; omega, fun x => ?_⟩
        rw [any_snoc, d, decide_eq_false fun z => e z.symm, Bool.false_and, Bool.false_and, Bool.or_false]
      · exact absurd hk e
/-- no key: nothing of it -/
theorem Ans.none {H : Hp} {l : List Plc} {m : Plc → Bool} {ks : List Str} {ft : Key → V} {k : Str} (A : Ans H l m ks ft) (h : k ∉ ks) (x : Int) : (l.any fun q => decide (q.1 = k) && m q && Ts.isIn (Ts.ofSpan q.2.1 q.2.2) x) = false := by
  rw [List.any_eq_false]
  intro q hq e
  rw [Bool.and_eq_true, Bool.and_eq_true, decide_eq_true_eq] at e
  exact h ((A.mem k).mpr ⟨q, hq, e.1.1, e.1.2⟩)
abbrev aKvs (ks : List Str) (ft : Key → V) : List (Key × V) := (ks.map (Sum.inr : Str → Key)).map fun k => (k, ft k)
theorem ofSpan_len (s : Int) (e : Option Int) : (Ts.ofSpan s e).length ≤ 2 := by cases e <;> simp [Ts.ofSpan]
/-- what stands of places and postings -/
structure Pps (H : Hp) (pl po : Addr) (pxs oxs : List V) (PL : List Plc) (PS : List Post) : Prop where
  hpl : H pl = some (.lst pxs)
  dpl : DtAll H pxs (PL.map ePlc)
  ndl : PL.Nodup
  ll : PL.length ≤ 100
  hpo : H po = some (.lst oxs)
  dpo : DtAll H oxs (PS.map ePost)
  ndo : (PS.map fun ps => (ps.1, plcOf ps)).Nodup
  lo : PS.length ≤ 1000
  tt : ∀ p ∈ PL, tot (wsOf PS p) ≤ 1000
section
variable {P : Program} {w : World} {K : PySem.W.Frag} {mg : Str → Option Value} {base : Heap}
def spAB (n : Nat) : Sp := fun vs H Q _ => ∃ (qv : V) (pl po : Addr) (pxs oxs : List V) (q : Q_) (PL : List Plc) (PS : List Post), vs = [qv, .ref pl, .ref po] ∧ Dt H qv (eQn q) ∧ fine q ∧ q.depth < n ∧ Pps H pl po pxs oxs PL PS ∧
  ∀ fa H' ks ft, Same H H' → H fa = none → H' fa = some (.dK (aKvs ks ft)) → Ans H' PL (mt q PS) ks ft → Q (.ref fa) H'
theorem con_answer_by (T : Tx K mg) (n : Nat) : Con P w K mg base (5 + n) (He.ga K "answer_by") ["question", "places", "postings"] (spAB n) := by
  obtain ⟨fd, F⟩ := T.d_answer_by
  obtain ⟨fdm, GM, bM, kM⟩ := con_version_matches (P := P) (w := w) (base := base) T n
  obtain ⟨fdj, GJ, bJ, kJ⟩ := (con_join (P := P) (w := w) (base := base) T).mono (show 3 ≤ 4 + n by omega)
  obtain ⟨fdo, GO, bO, kO⟩ := (con_of_span (P := P) (w := w) (base := base) T).mono (show 1 ≤ 4 + n by omega)
  have e : 5 + n = (4 + n) + 1 := by omega
  rw [e]
  refine ⟨fd, F.ok sc_answer_by (fun vs H Q E h => ?_) (fun cdv A outer s H vs Q E hr h => ?_), F.bindsN fun _ _ _ _ _ _ us hl => match us, hl with | [_, _, _], _ => rfl, F.kp⟩
  · obtain ⟨qv, pl, po, pxs, oxs, q, PL, PS, rfl, _⟩ := h
    rfl
  · obtain ⟨qv, pl, po, pxs, oxs, q, PL, PS, rfl, hq, hf, hdq, Z, k⟩ := h
    have nd := sc_answer_by.nd
    refine ⟨_, PSs.nox (pss_cons (ps_set (i := 3) nd rfl (.inl rfl) pe_dnewN)
      (pss_cons (ps_for PassesOwn.never rfl (pi_list (pv 1)) (pg_name (i := 4) nd rfl (.inl rfl)) (pss_one (ps_dputN (Room.u1 hr) (pv 3) (pv 4) pe_dnewK rfl)))
      (pss_cons (ps_for PassesOwn.never rfl (pi_list (pv 2)) (pg_name (i := 5) nd rfl (.inl rfl))
        (pss_one (ps_if (pt_cmp (pc_dinN (Room.u1 hr) (pe_slice sl_tup (pv 5) (po_some pe_int) (po_some pe_int)) (pv 3)))
          (pss_one (ps_dput (Room.u1 hr) (pe_dgetN (Room.u1 hr) (pv 3) (pe_slice sl_tup (pv 5) (po_some pe_int) (po_some pe_int)) (fun _ _ => rfl)) (pe_ix ix_tup (pv 5) pe_int (fun _ _ => rfl)) (pe_ix ix_tup (pv 5) pe_int (fun _ _ => rfl)) rfl)) pss_nil)))
      (pss_cons (ps_set (i := 6) nd rfl (.inl rfl) pe_dnewK)
      (pss_cons (ps_for PassesOwn.never rfl (pi_list (pv 1)) (pg_name (i := 4) nd rfl (.inl rfl))
        (pss_one (ps_if (pt_val (pe_call GM hr (by rfl) T.g_version_matches kM bM .nil pass0 (pa_cons (pe_dgetN (Room.u1 hr) (pv 3) (pv 4) (fun _ _ => rfl)) (pa_cons (pv 0) pa_nil))))
          (pss_cons (ps_set (i := 7) nd rfl (.inl rfl) (pe_ix ix_tup (pv 4) pe_int (fun _ _ => rfl)))
          (pss_one (ps_dput (Room.u1 hr) (pv 6) (pv 7) (pe_call GJ hr (by rfl) T.g_join kJ bJ .nil pass0 (pa_cons (pe_dget2 (Room.u1 hr) (pv 6) (pv 7) (pe_tup pa_nil) ⟨rfl, rfl, rfl, rfl⟩)
            (pa_cons (pe_call GO hr (by rfl) T.g_of_span kO bO .nil pass0 (pa_cons (pe_ix ix_tup (pv 4) pe_int (fun _ _ => rfl)) (pa_cons (pe_ix ix_tup (pv 4) pe_int (fun _ _ => rfl)) pa_nil))) pa_nil))) rfl))) pss_nil)))
      (pss_one (ps_ret (pv 6)))))))), ?_⟩
    intro W oW hW dW
    have sW : Same H (upd H W oW) := same_new hW
    -- the places
    refine ⟨_, rfl, pl, rfl, ⟨_, SqL.of (sW _ _ Z.hpl)⟩, ?_⟩
    refine for_list (K := K) (a := pl) (xs := pxs) (fun i σ H1 => ∃ v4 G, σ = [some qv, some (.ref pl), some (.ref po), some (.ref W), v4, none, none, none] ∧ WSt P w H H1 W (PL.take i) G (fun _ => []) (fun _ _ => V.non))
      ⟨none, fun _ => 0, rfl, ⟨dW, fun p hp => absurd hp (by simp), fun p hp => absurd hp (by simp), fun p hp => absurd hp (by simp), hW, sW⟩⟩ (fun i σ H1 _ ⟨_, _, _, S⟩ => SqL.of (S.old _ _ Z.hpl)) ?_ ?_
    · rintro i x σ H1 hx ⟨v4, G, rfl, S⟩
      obtain ⟨p, hp, dp⟩ := Z.dpl.mget hx
      obtain ⟨b, u1, u2, u3, rfl, hb, hu1, hu2, hu3⟩ := (show Dt H x (.tuple [.str p.1, .int p.2.1, eOpt p.2.2]) from dp).t3
      obtain ⟨rfl, _⟩ := hu1.str_inv
      obtain rfl := hu2.int_inv
      obtain rfl := hu3.opt_inv
      have hn : p ∉ PL.take i := fun hm => by
        obtain ⟨j, hj⟩ := List.getElem?_of_mem hm
        have hj1 : j < i := by
          have := (List.getElem?_eq_some_iff.mp hj).1
          rw [List.length_take] at this; omega
        rw [List.getElem?_take, if_pos hj1] at hj
        have hjl := (List.getElem?_eq_some_iff.mp hj).1
        have := (List.getElem?_inj hjl Z.ndl).mp (hj.trans hp.symm)
        omega
      intro qd hqd
      refine ⟨_, rfl, _, rfl, W, b, _, lf p, rfl, rfl, S.d.same (same_new hqd), by rw [lf_map]; exact same_new hqd _ _ (S.old _ _ hb), ?_, fun o hd => ?_⟩
      · rw [List.length_map, List.length_take]
        exact small1000 (Nat.le_trans (Nat.min_le_right _ _) (by have := Z.ll; omega))
      · refine ⟨_, fun j => if j = p then qd else G j, rfl, ?_⟩
        rw [take_snoc hp]
        exact S.grow hqd hn hd
    · rintro σ H1 ⟨v4, G, rfl, S⟩
      have el : pxs.length = PL.length := by rw [Z.dpl.length, List.length_map]
      rw [el, List.take_length] at S
      -- the postings
      refine ⟨_, rfl, po, rfl, ⟨_, SqL.of (S.old _ _ Z.hpo)⟩, ?_⟩
      refine for_list (K := K) (a := po) (xs := oxs) (fun i σ H2 => ∃ v5 F, σ = [some qv, some (.ref pl), some (.ref po), some (.ref W), v4, v5, none, none] ∧ WSt P w H H2 W PL G (wsOf (PS.take i)) F)
        ⟨none, fun _ _ => V.non, rfl, S⟩ (fun i σ H2 _ ⟨_, _, _, S⟩ => SqL.of (S.old _ _ Z.hpo)) ?_ ?_
      · rintro i x σ H2 hx ⟨v5, F, rfl, S⟩
        obtain ⟨ps, hp, dp⟩ := Z.dpo.mget hx
        obtain ⟨b, u1, u2, u3, u4, u5, rfl, hb, hu1, hu2, hu3, hu4, hu5⟩ := (show Dt H x (.tuple [.str ps.1, .str ps.2.1, .int ps.2.2.1, eOpt ps.2.2.2.1, eInts ps.2.2.2.2]) from dp).t5
        obtain ⟨rfl, _⟩ := hu1.str_inv
        obtain ⟨rfl, _⟩ := hu2.str_inv
        obtain rfl := hu3.int_inv
        obtain rfl := hu4.opt_inv
        have hcut : ∀ (c : List V), c = [V.str ps.1, .str ps.2.1, .int ps.2.2.1, oV ps.2.2.2.1, u5] → cutV c (some 1) (some 4) = (lf (plcOf ps)).map lfV := by
          rintro c rfl
          rw [lf_map]
          rfl
        have hnw : ∀ (c : List V), c = [V.str ps.1, .str ps.2.1, .int ps.2.2.1, oV ps.2.2.2.1, u5] → ¬ (HT.sIx c.length 0 (some 1) = 0 ∧ HT.sIx c.length c.length (some 4) = c.length) := by
          rintro c rfl ⟨z, _⟩
          exact absurd (show (1 : Nat) = 0 from z) (by decide)
        refine ⟨_, rfl, _, rfl, _, rfl, b, _, rfl, SqT.of (S.old _ _ hb), hnw _ rfl, fun t1 ht1 => ?_⟩
        rw [hcut _ rfl]
        have S1 := S.same (same_new (o := .tup ((lf (plcOf ps)).map lfV)) ht1)
        refine ⟨_, rfl, W, t1, _, lf (plcOf ps), rfl, rfl, S1.d, upd_same, _, rfl, ?_⟩
        rw [valV_n]
        by_cases hm : plcOf ps ∈ PL
        · rw [if_pos hm]
          refine iteT ?_
          refine ⟨_, rfl, b, _, _, _, rfl, rfl, SqT.of (S1.old _ _ hb), atI_nat (j := 4) rfl, ?_⟩
          refine ⟨_, rfl, _, rfl, _, rfl, _, rfl, b, _, rfl, SqT.of (S1.old _ _ hb), hnw _ rfl, fun t2 ht2 => ?_⟩
          rw [hcut _ rfl]
          have S2 := S1.same (same_new (o := .tup ((lf (plcOf ps)).map lfV)) ht2)
          refine ⟨W, t2, _, lf (plcOf ps), _, rfl, rfl, S2.d, upd_same, by rw [valV_n, if_pos hm], ?_⟩
          have hw := S2.w _ hm
          have hx' : (Sum.inr ps.1 : Key) ∉ Ws.keys (wsOf (PS.take i) (plcOf ps)) := by
            intro hk
            obtain ⟨wp, hwp, e1⟩ := List.mem_map.mp hk
            obtain ⟨ps', hps', rfl⟩ := List.mem_map.mp hwp
            have e1' : ps'.1 = ps.1 := Sum.inr.inj e1
            have hf' := List.mem_filter.mp hps'
            have e2 : plcOf ps' = plcOf ps := of_decide_eq_true hf'.2
            obtain ⟨j, hj⟩ := List.getElem?_of_mem hf'.1
            have hj1 : j < i := by
              have := (List.getElem?_eq_some_iff.mp hj).1
              rw [List.length_take] at this; omega
            rw [List.getElem?_take, if_pos hj1] at hj
            have hjl := (List.getElem?_eq_some_iff.mp hj).1
            have ej : (PS.map fun ps => (ps.1, plcOf ps))[j]? = (PS.map fun ps => (ps.1, plcOf ps))[i]? := by
              rw [List.getElem?_map, List.getElem?_map, hj, hp]
              show some (ps'.1, plcOf ps') = some (ps.1, plcOf ps)
              rw [e1', e2]
            have := (List.getElem?_inj (by rw [List.length_map]; exact hjl) Z.ndo).mp ej
            omega
          refine ⟨_, rfl, b, _, _, _, rfl, rfl, SqT.of (S2.old _ _ hb), atI_nat (j := 0) rfl, ?_⟩
          refine ⟨G (plcOf ps), _, rfl, .inl ⟨_, Sum.inr ps.1, hw.d, rfl, ?_, rfl⟩, _, fun j => if j = plcOf ps then fun k => if k = Sum.inr ps.1 then u5 else F (plcOf ps) k else F j, rfl, ?_⟩
          · rw [List.length_map, Ws.keys, List.length_map, wsOf, List.length_map]
            refine small1000 (Nat.le_trans (List.length_filter_le _ _) ?_)
            rw [List.length_take]
            have := Z.lo
            omega
          · have S3 := S2.put hm hx' (hu5.tk (tk_same S2.old))
            have ew : wsOf (PS.take (i + 1)) = fun j => if j = plcOf ps then wsOf (PS.take i) (plcOf ps) ++ [(ps.1, ps.2.2.2.2)] else wsOf (PS.take i) j := by
              funext j
              rw [take_snoc hp, wsOf_snoc]
              by_cases e : plcOf ps = j
              · subst e
                simp
              · rw [if_neg e]
                exact (if_neg fun z => e z.symm).symm
            rw [ew]
            exact S3
        · rw [if_neg hm]
          refine iteF ?_
          refine ⟨_, F, rfl, ⟨S1.d, fun p hp' => ?_, S1.new, S1.inj, S1.newW, S1.old⟩⟩
          have S1' := S1.w p hp'
          rw [take_snoc hp, wsOf_snoc, if_neg fun z => hm (by rw [z]; exact hp')]
          exact S1'
      · rintro σ H2 ⟨v5, F, rfl, S⟩
        have el2 : oxs.length = PS.length := by rw [Z.dpo.length, List.length_map]
        rw [el2, List.take_length] at S
        intro fa hfa
        have S0 := S.same (same_new (o := .dK []) hfa)
        have fW : fa ≠ W := fun z => by
          obtain ⟨φ, e⟩ := S.d.ex
          rw [← z, hfa] at e; cases e
        refine ⟨_, rfl, pl, rfl, ⟨_, SqL.of (S0.old _ _ Z.hpl)⟩, ?_⟩
        have nfa : H fa = none := same_none S.old hfa
        refine for_list (K := K) (a := pl) (xs := pxs) (fun i σ H3 => ∃ v4 v7 ks ft, σ = [some qv, some (.ref pl), some (.ref po), some (.ref W), v4, v5, some (.ref fa), v7] ∧ Same H2 H3 ∧ H3 fa = some (.dK (aKvs ks ft)) ∧ Ans H3 (PL.take i) (mt q PS) ks ft)
          ⟨v4, none, [], fun _ => V.non, rfl, same_new hfa, upd_same, ⟨List.nodup_nil, fun k => by simp, fun k hk => absurd hk (by simp)⟩⟩ ?_ ?_ ?_
        · rintro i σ H3 _ ⟨_, _, _, _, _, s3, _⟩
          exact SqL.of (s3 _ _ (S.old _ _ Z.hpl))
        · rintro i x σ H3 hx ⟨v4', v7, ks, ft, rfl, s3, hfa3, A3⟩
          have S3 := S.same s3
          obtain ⟨p, hp, dp⟩ := Z.dpl.mget hx
          obtain ⟨b, u1, u2, u3, rfl, hb, hu1, hu2, hu3⟩ := (show Dt H x (.tuple [.str p.1, .int p.2.1, eOpt p.2.2]) from dp).t3
          obtain ⟨rfl, _⟩ := hu1.str_inv
          obtain rfl := hu2.int_inv
          obtain rfl := hu3.opt_inv
          have hpm : p ∈ PL := List.mem_of_getElem? hp
          have hi : i < PL.length := (List.getElem?_eq_some_iff.mp hp).1
          have hti : (PL.take i).length = i := by rw [List.length_take]; omega
          refine ⟨_, rfl, _, rfl, W, b, _, lf p, _, rfl, rfl, S3.d, by rw [lf_map]; exact S3.old _ _ hb, by rw [valV_n, if_pos hpm], ?_⟩
          refine ⟨_, rfl, G p, qv, wsOf PS p, F p, q, rfl, S3.w p hpm, hq.tk (tk_same S3.old), hf, hdq, Z.tt p hpm, fun H4 s4 => ⟨_, rfl, ?_⟩⟩
          have old4 := S3.old.trans s4
          refine ite2 (fun c => ?_) (fun c => ?_)
          · refine ⟨_, rfl, b, _, _, _, rfl, rfl, SqT.of (old4 _ _ hb), atI_nat (j := 0) rfl, ?_⟩
            refine ⟨_, rfl, fa, rfl, .inl ⟨_, .inl (s4 _ _ hfa3)⟩, _, rfl, Nat.zero_le _, fun tp htp => ?_⟩
            have s45 := s4.trans (same_new (o := .tup []) htp)
            refine ⟨_, .inl ⟨_, Sum.inr p.1, .inl (s45 _ _ hfa3), rfl, rfl⟩, ?_⟩
            refine ⟨_, rfl, b, _, _, _, rfl, rfl, SqT.of ((S3.old.trans s45) _ _ hb), atI_nat (j := 1) rfl, _, rfl, b, _, _, _, rfl, rfl, SqT.of ((S3.old.trans s45) _ _ hb), atI_nat (j := 2) rfl, ?_⟩
            refine ⟨p.2.1, p.2.2, rfl, fun v6 H6 s6 dv6 => ?_⟩
            have s36 := s45.trans s6
            -- what stood there
            have before : ∃ r0, Dt H6 ((valV (aKvs ks ft) (Sum.inr p.1)).getD (.ref tp)) (eInts r0) ∧ r0.length ≤ 2 * (PL.take i).length ∧ ∀ x, Ts.isIn r0 x = (PL.take i).any fun q' => decide (q'.1 = p.1) && mt q PS q' && Ts.isIn (Ts.ofSpan q'.2.1 q'.2.2) x := by
              rw [valV_fn]
              by_cases hk : p.1 ∈ ks
              · rw [if_pos (List.mem_map.mpr ⟨_, hk, rfl⟩)]
                obtain ⟨r, a, b', c', d⟩ := A3.tl _ hk
                exact ⟨r, a.tk (tk_same s36), c', d⟩
              · rw [if_neg fun z => by obtain ⟨y, hy, e'⟩ := List.mem_map.mp z; exact hk (by rw [← Sum.inr.inj e']; exact hy)]
                exact ⟨[], .tup (s6 _ _ upd_same) .nil, Nat.zero_le _, fun x => by rw [A3.none hk]; rfl⟩
            obtain ⟨r0, d0, l0, h0⟩ := before
            have l2 := ofSpan_len p.2.1 p.2.2
            refine ⟨_, _, r0, _, rfl, d0, dv6, by have := Z.ll; omega, fun v7' H7 r s7 dv7 hr7 hin hl7 => ?_⟩
            have s37 := s36.trans s7
            refine ⟨_, rfl, _, rfl, fa, _, rfl, .inl ⟨_, Sum.inr p.1, s37 _ _ hfa3, rfl, ?_, rfl⟩, _, _, add ks p.1, (fun j => if j = Sum.inr p.1 then v7' else ft j), rfl, fun b' o e' => ?_, ?_, ?_⟩
            · rw [List.length_map, List.length_map]
              have h1 : ks.length ≤ (PL.take i).length := by
                have h2 := nodup_le (m := (PL.take i).map (·.1)) A3.nd fun k' hk' => by
                  obtain ⟨p', hp', e', _⟩ := (A3.mem k').mp hk'
                  exact List.mem_map.mpr ⟨p', hp', e'⟩
                rwa [List.length_map] at h2
              have := Z.ll
              exact small1000 (by omega)
            · rw [upd_ne (ne_of_none e' hfa)]
              exact s37 _ _ (s3 _ _ e')
            · rw [upd_same, putK_add, add_map (g := (Sum.inr : Str → Key)) fun a b e => Sum.inr.inj e]
            · rw [take_snoc hp]
              have tk7 : Tk H7 (upd H7 fa (.dK (putK (aKvs ks ft) (Sum.inr p.1) v7'))) := tk_put (s37 _ _ hfa3) fun xs z => nomatch z
              exact (A3.tk (tk_same s37)).put tk7 c (dv7.tk tk7) hr7 (by omega) l0 h0 hin
          · refine ⟨_, _, ks, ft, rfl, s3.trans s4, s4 _ _ hfa3, ?_⟩
            rw [take_snoc hp]
            have c' : mt q PS p = false := by
              cases z : mt q PS p with
              | false => rfl
              | true => exact absurd z c
            exact (A3.tk (tk_same s4)).skip c'
        · rintro σ H3 ⟨v4', v7, ks, ft, rfl, s3, hfa3, A3⟩
          rw [el, List.take_length] at A3
          exact ⟨_, rfl, k fa H3 ks ft (S.old.trans s3) nfa hfa3 A3⟩
end
end Tsf
/-! The order in which tuples are sorted here: texts and ints. -/
namespace Tsf
open PySem PySem.Spec PyProof.Rows L2
theorem ll_irr : ∀ a : List Nat, ¬ a < a
  | [], h => by cases h
  | x :: a, h => by
    rcases List.cons_lt_cons_iff.mp h with h | ⟨_, h⟩
    · omega
    · exact ll_irr a h
theorem ll_tr : ∀ {a b c : List Nat}, a < b → b < c → a < c
  | [], [], _, h, _ => by cases h
  | [], _ :: _, [], _, h => by cases h
  | [], _ :: _, _ :: _, _, _ => List.nil_lt_cons _ _
  | _ :: _, [], _, h, _ => by cases h
  | _ :: _, _ :: _, [], _, h => by cases h
  | x :: a, y :: b, z :: c, h1, h2 => by
    rw [List.cons_lt_cons_iff] at h1 h2 ⊢
    rcases h1 with h1 | ⟨e1, h1⟩
    · rcases h2 with h2 | ⟨e2, h2⟩
      · exact .inl (by omega)
      · exact .inl (by omega)
    · rcases h2 with h2 | ⟨e2, h2⟩
      · exact .inl (by omega)
      · exact .inr ⟨by omega, ll_tr h1 h2⟩
theorem ll_tri : ∀ a b : List Nat, a < b ∨ a = b ∨ b < a
  | [], [] => .inr (.inl rfl)
  | [], _ :: _ => .inl (List.nil_lt_cons _ _)
  | _ :: _, [] => .inr (.inr (List.nil_lt_cons _ _))
  | x :: a, y :: b => by
    rw [List.cons_lt_cons_iff, List.cons_lt_cons_iff]
    rcases Nat.lt_trichotomy x y with h | h | h
    · exact .inl (.inl h)
    · subst h
      rcases ll_tri a b with h | h | h
      · exact .inl (.inr ⟨rfl, h⟩)
      · subst h; exact .inr (.inl rfl)
      · exact .inr (.inr (.inr ⟨rfl, h⟩))
    · exact .inr (.inr (.inl h))
theorem str_ext {a b : Str} (h : a.cps.toList = b.cps.toList) : a = b := by
  cases a; cases b
  congr 1
  exact Array.toList_inj.mp h
abbrev SK := List Nat × List Nat × Int
def SkLt (x y : SK) : Prop := x.1 < y.1 ∨ (x.1 = y.1 ∧ (x.2.1 < y.2.1 ∨ (x.2.1 = y.2.1 ∧ x.2.2 < y.2.2)))
instance (x y : SK) : Decidable (SkLt x y) := by unfold SkLt; infer_instance
theorem sk_irr (x : SK) : ¬ SkLt x x := by
  rintro (h | ⟨_, h | ⟨_, h⟩⟩)
  · exact ll_irr _ h
  · exact ll_irr _ h
  · omega
theorem sk_tr {x y z : SK} (h1 : SkLt x y) (h2 : SkLt y z) : SkLt x z := by
  unfold SkLt at *
  rcases h1 with h1 | ⟨e1, h1⟩
  · rcases h2 with h2 | ⟨e2, h2⟩
    · exact .inl (ll_tr h1 h2)
    · exact .inl (by rw [← e2]; exact h1)
  · rcases h2 with h2 | ⟨e2, h2⟩
    · exact .inl (by rw [e1]; exact h2)
    · refine .inr ⟨e1.trans e2, ?_⟩
      rcases h1 with h1 | ⟨e3, h1⟩
      · rcases h2 with h2 | ⟨e4, h2⟩
        · exact .inl (ll_tr h1 h2)
        · exact .inl (by rw [← e4]; exact h1)
      · rcases h2 with h2 | ⟨e4, h2⟩
        · exact .inl (by rw [e3]; exact h2)
        · exact .inr ⟨e3.trans e4, by omega⟩
theorem sk_tri (x y : SK) : SkLt x y ∨ x = y ∨ SkLt y x := by
  obtain ⟨a, b, c⟩ := x
  obtain ⟨a', b', c'⟩ := y
  unfold SkLt
  dsimp only
  rcases ll_tri a a' with h | h | h
  · exact .inl (.inl h)
  · subst h
    rcases ll_tri b b' with h | h | h
    · exact .inl (.inr ⟨rfl, .inl h⟩)
    · subst h
      rcases Int.lt_trichotomy c c' with h | h | h
      · exact .inl (.inr ⟨rfl, .inr ⟨rfl, h⟩⟩)
      · subst h; exact .inr (.inl rfl)
      · exact .inr (.inr (.inr ⟨rfl, .inr ⟨rfl, h⟩⟩))
    · exact .inr (.inr (.inr ⟨rfl, .inl h⟩))
  · exact .inr (.inr (.inl h))
def skey : PyData → SK
  | .tuple (.str a :: .str b :: .int c :: _) => (a.cps.toList, b.cps.toList, c)
  | .tuple (.str a :: .str b :: _) => (a.cps.toList, b.cps.toList, 0)
  | .tuple (.str a :: .int c :: _) => (a.cps.toList, [], c)
  | _ => ([], [], 0)
def ltD (d e : PyData) : Bool := decide (SkLt (skey d) (skey e))
theorem ltD_swo : SrtO.Swo ltD := by
  refine ⟨fun x y h => ?_, fun x y z h1 h2 => ?_⟩
  · have h' := of_decide_eq_true h
    exact decide_eq_false fun q => sk_irr _ (sk_tr h' q)
  · have h1' := of_decide_eq_false h1
    have h2' := of_decide_eq_false h2
    refine decide_eq_false fun q => ?_
    rcases sk_tri (skey x) (skey y) with h | h | h
    · rcases sk_tri (skey y) (skey z) with g | g | g
      · exact sk_irr _ (sk_tr (sk_tr h g) q)
      · rw [g] at h; exact sk_irr _ (sk_tr h q)
      · exact h2' g
    · rw [h] at q; exact h2' q
    · exact h1' h
/-- what a posting is sorted by -/
def pk (p : Post) : Str × Str × Int := (p.1, p.2.1, p.2.2.1)
theorem ltD_post (p q : Post) : ltD (ePost p) (ePost q) = decide (SkLt (p.1.cps.toList, p.2.1.cps.toList, p.2.2.1) (q.1.cps.toList, q.2.1.cps.toList, q.2.2.1)) := rfl
theorem ltOk_post {l : List Post} (hu : ∀ p ∈ l, ∀ q ∈ l, pk p = pk q → p = q) : LtOk ltD (l.map ePost) := by
  refine ⟨ltD_swo, fun d hd => ?_, fun d hd e he => ?_, fun d hd => ?_⟩
  · obtain ⟨p, _, rfl⟩ := List.mem_map.mp hd
    exact ⟨_, _, rfl⟩
  · obtain ⟨p, hp, rfl⟩ := List.mem_map.mp hd
    obtain ⟨q, hq, rfl⟩ := List.mem_map.mp he
    refine ⟨_, _, rfl, rfl, ?_⟩
    have h := hu p hp q hq
    rw [ltD_post]
    obtain ⟨a, b, c, d, e⟩ := p
    obtain ⟨a', b', c', d', e'⟩ := q
    dsimp only [pk] at h ⊢
    by_cases h1 : a = a'
    · subst h1
      refine LexD.yes ?_
      by_cases h2 : b = b'
      · subst h2
        refine LexD.yes ?_
        by_cases h3 : c = c'
        · subst h3
          have e0 := h rfl
          have : ¬ SkLt (a.cps.toList, b.cps.toList, c) (a.cps.toList, b.cps.toList, c) := sk_irr _
          rw [decide_eq_false this]
          injection e0 with _ e0
          injection e0 with _ e0
          injection e0 with _ e0
          injection e0 with e1 e2
          rw [e1, e2]
          exact LexD.same _
        · have : decide (SkLt (a.cps.toList, b.cps.toList, c) (a.cps.toList, b.cps.toList, c')) = decide (c < c') := by
            unfold SkLt
            refine decide_eq_decide.mpr ⟨?_, fun h => .inr ⟨rfl, .inr ⟨rfl, h⟩⟩⟩
            rintro (h | ⟨_, h | ⟨_, h⟩⟩)
            · exact absurd h (ll_irr _)
            · exact absurd h (ll_irr _)
            · exact h
          rw [this]
          exact LexD.int h3 rfl
      · have : decide (SkLt (a.cps.toList, b.cps.toList, c) (a.cps.toList, b'.cps.toList, c')) = decide (b.cps.toList < b'.cps.toList) := by
          unfold SkLt
          refine decide_eq_decide.mpr ⟨?_, fun h => .inr ⟨rfl, .inl h⟩⟩
          rintro (h | ⟨_, h | ⟨h, _⟩⟩)
          · exact absurd h (ll_irr _)
          · exact h
          · exact absurd (str_ext h) h2
        rw [this]
        exact LexD.str h2 rfl
    · have : decide (SkLt (a.cps.toList, b.cps.toList, c) (a'.cps.toList, b'.cps.toList, c')) = decide (a.cps.toList < a'.cps.toList) := by
        unfold SkLt
        refine decide_eq_decide.mpr ⟨?_, fun h => .inl h⟩
        rintro (h | ⟨h, _⟩)
        · exact h
        · exact absurd (str_ext h) h1
      rw [this]
      exact LexD.str h1 rfl
  · obtain ⟨p, _, rfl⟩ := List.mem_map.mp hd
    exact depth_post p
theorem ltOk_pat (l : List Pat) : LtOk ltD (l.map ePat) := by
  refine ⟨ltD_swo, fun d hd => ?_, fun d hd e he => ?_, fun d hd => ?_⟩
  · obtain ⟨p, _, rfl⟩ := List.mem_map.mp hd
    exact ⟨_, _, rfl⟩
  · obtain ⟨⟨a, b⟩, hp, rfl⟩ := List.mem_map.mp hd
    obtain ⟨⟨a', b'⟩, hq, rfl⟩ := List.mem_map.mp he
    refine ⟨_, _, rfl, rfl, ?_⟩
    have e0 : ltD (ePat (a, b)) (ePat (a', b')) = decide (SkLt (a.cps.toList, b.cps.toList, 0) (a'.cps.toList, b'.cps.toList, 0)) := rfl
    rw [e0]
    by_cases h1 : a = a'
    · subst h1
      refine LexD.yes ?_
      by_cases h2 : b = b'
      · subst h2
        rw [decide_eq_false (sk_irr _)]
        exact LexD.same _
      · have : decide (SkLt (a.cps.toList, b.cps.toList, 0) (a.cps.toList, b'.cps.toList, 0)) = decide (b.cps.toList < b'.cps.toList) := by
          unfold SkLt
          refine decide_eq_decide.mpr ⟨?_, fun h => .inr ⟨rfl, .inl h⟩⟩
          rintro (h | ⟨_, h | ⟨h, _⟩⟩)
          · exact absurd h (ll_irr _)
          · exact h
          · exact absurd (str_ext h) h2
        rw [this]
        exact LexD.str h2 rfl
    · have : decide (SkLt (a.cps.toList, b.cps.toList, 0) (a'.cps.toList, b'.cps.toList, 0)) = decide (a.cps.toList < a'.cps.toList) := by
        unfold SkLt
        refine decide_eq_decide.mpr ⟨?_, fun h => .inl h⟩
        rintro (h | ⟨h, _⟩)
        · exact h
        · exact absurd (str_ext h) h1
      rw [this]
      exact LexD.str h1 rfl
  · obtain ⟨p, _, rfl⟩ := List.mem_map.mp hd
    exact depth_pat p
/-- key, time -/
def eKT (p : Str × Int) : PyData := .tuple [.str p.1, .int p.2]
theorem ltOk_kt (l : List (Str × Int)) : LtOk ltD (l.map eKT) := by
  refine ⟨ltD_swo, fun d hd => ?_, fun d hd e he => ?_, fun d hd => ?_⟩
  · obtain ⟨p, _, rfl⟩ := List.mem_map.mp hd
    exact ⟨_, _, rfl⟩
  · obtain ⟨⟨a, b⟩, hp, rfl⟩ := List.mem_map.mp hd
    obtain ⟨⟨a', b'⟩, hq, rfl⟩ := List.mem_map.mp he
    refine ⟨_, _, rfl, rfl, ?_⟩
    have e0 : ltD (eKT (a, b)) (eKT (a', b')) = decide (SkLt (a.cps.toList, [], b) (a'.cps.toList, [], b')) := rfl
    rw [e0]
    by_cases h1 : a = a'
    · subst h1
      refine LexD.yes ?_
      by_cases h2 : b = b'
      · subst h2
        rw [decide_eq_false (sk_irr _)]
        exact LexD.same _
      · have : decide (SkLt (a.cps.toList, [], b) (a.cps.toList, [], b')) = decide (b < b') := by
          unfold SkLt
          refine decide_eq_decide.mpr ⟨?_, fun h => .inr ⟨rfl, .inr ⟨rfl, h⟩⟩⟩
          rintro (h | ⟨_, h | ⟨_, h⟩⟩)
          · exact absurd h (ll_irr _)
          · exact absurd h (ll_irr _)
          · exact h
        rw [this]
        exact LexD.int h2 rfl
    · have : decide (SkLt (a.cps.toList, [], b) (a'.cps.toList, [], b')) = decide (a.cps.toList < a'.cps.toList) := by
        unfold SkLt
        refine decide_eq_decide.mpr ⟨?_, fun h => .inl h⟩
        rintro (h | ⟨h, _⟩)
        · exact h
        · exact absurd (str_ext h) h1
      rw [this]
      exact LexD.str h1 rfl
  · obtain ⟨p, _, rfl⟩ := List.mem_map.mp hd
    simp [eKT, PyData.depth, PyData.depthAll]
theorem kt_le {k : Str} {a b : Int} (h : ltD (eKT (k, b)) (eKT (k, a)) = false) : a ≤ b := by
  have h' := of_decide_eq_false h
  by_cases q : b < a
  · exact absurd (show SkLt (k.cps.toList, [], b) (k.cps.toList, [], a) from .inr ⟨rfl, .inr ⟨rfl, q⟩⟩) h'
  · omega
theorem eKT_inj {p q : Str × Int} (h : eKT p = eKT q) : p = q := by
  obtain ⟨a, b⟩ := p
  obtain ⟨a', b'⟩ := q
  simp only [eKT, PyData.tuple.injEq, List.cons.injEq, PyData.str.injEq, PyData.int.injEq, and_true] at h
  rw [h.1, h.2]
/-- a list of data that is an arrangement of things is a list of things -/
theorem perm_map {α : Type} {e : α → PyData} (he : ∀ x y, e x = e y → x = y) {l : List α} {es : List PyData} (h : es.Perm (l.map e)) : ∃ m : List α, es = m.map e ∧ m.Perm l := by
  obtain ⟨m, h1, h2⟩ := perm_lift e h l rfl
  exact ⟨m, h2.symm, h1⟩
end Tsf
/-! postings.py -/
namespace Tsf
open PySem PySem.Spec PyProof.Rows L2
/-- where a word stands -/
def occ (d : Doc) (x : Str) : List Int := ((List.range d.length).filter fun i => decide (d[i]? = some x)).map fun i => ((i : Nat) : Int)
theorem occ_len (d : Doc) (x : Str) : (occ d x).length ≤ d.length := by
  unfold occ
  rw [List.length_map]
  refine Nat.le_trans (List.length_filter_le _ _) ?_
  rw [List.length_range]
  exact Nat.le_refl _
theorem occ_snoc (d : Doc) (y x : Str) : occ (d ++ [y]) x = if y = x then occ d x ++ [((d.length : Nat) : Int)] else occ d x := by
  unfold occ
  rw [List.length_append, List.length_singleton, List.range_succ, List.filter_append, List.map_append]
  have e1 : (List.range d.length).filter (fun i => decide ((d ++ [y])[i]? = some x)) = (List.range d.length).filter (fun i => decide (d[i]? = some x)) := by
    refine List.filter_congr fun i hi => ?_
    rw [List.getElem?_append_left (List.mem_range.mp hi)]
  have e2 : (d ++ [y])[d.length]? = some y := by simp
  rw [e1]
  by_cases h : y = x
  · subst h
    rw [if_pos rfl, List.filter_cons, if_pos (by rw [e2]; simp)]
    rfl
  · rw [if_neg h, List.filter_cons, if_neg (by rw [e2]; simpa using h)]
    simp
theorem occ_mem {d : Doc} {x : Str} {i : Int} : i ∈ occ d x ↔ ∃ n : Nat, i = (n : Int) ∧ d[n]? = some x := by
  unfold occ
  rw [List.mem_map]
  constructor
  · rintro ⟨n, hn, rfl⟩
    exact ⟨n, rfl, of_decide_eq_true (List.mem_filter.mp hn).2⟩
  · rintro ⟨n, rfl, h⟩
    exact ⟨n, List.mem_filter.mpr ⟨List.mem_range.mpr (List.getElem?_eq_some_iff.mp h).1, decide_eq_true h⟩, rfl⟩
theorem occ_none {d : Doc} {x : Str} (h : x ∉ d) : occ d x = [] := by
  cases e : occ d x with
  | nil => rfl
  | cons a l =>
    obtain ⟨n, _, hn⟩ := occ_mem.mp (show a ∈ occ d x by rw [e]; exact List.mem_cons_self ..)
    exact absurd (List.mem_of_getElem? hn) h
/-- the postings of a version, of a history -/
def postsV (key : Str) (v : Ver_) : List Post := (addAll v.2.2).map fun x => (x, key, v.1, v.2.1, occ v.2.2 x)
def posts (key : Str) (vs : List Ver_) : List Post := vs.flatMap (postsV key)
def plcs (key : Str) (vs : List Ver_) : List Plc := vs.map fun v => (key, v.1, v.2.1)
def words_n (vs : List Ver_) : Nat := (vs.map fun v => v.2.2.length).sum
theorem posts_snoc (key : Str) (vs : List Ver_) (v : Ver_) : posts key (vs ++ [v]) = posts key vs ++ postsV key v := by
  unfold posts
  rw [List.flatMap_append]
  simp
theorem postsV_len (key : Str) (v : Ver_) : (postsV key v).length ≤ v.2.2.length := by
  unfold postsV
  rw [List.length_map]
  exact length_addAll _
theorem posts_len (key : Str) : ∀ vs : List Ver_, (posts key vs).length ≤ words_n vs
  | [] => Nat.le_refl _
  | v :: vs => by
    have h1 := posts_len key vs
    have h2 := postsV_len key v
    show (List.flatMap (postsV key) (v :: vs)).length ≤ v.2.2.length + words_n vs
    rw [List.flatMap_cons, List.length_append]
    show _ + (posts key vs).length ≤ _
    omega
theorem words_n_snoc (vs : List Ver_) (v : Ver_) : words_n (vs ++ [v]) = words_n vs + v.2.2.length := by
  unfold words_n
  rw [List.map_append, List.sum_append]
  simp
theorem words_n_take (vs : List Ver_) (i : Nat) : words_n (vs.take i) ≤ words_n vs := by
  conv => rhs; rw [← List.take_append_drop i vs]
  unfold words_n
  rw [List.map_append, List.sum_append]
  omega
theorem posts_mem {key : Str} {vs : List Ver_} {p : Post} : p ∈ posts key vs ↔ ∃ v ∈ vs, ∃ x ∈ v.2.2, p = (x, key, v.1, v.2.1, occ v.2.2 x) := by
  unfold posts
  rw [List.mem_flatMap]
  constructor
  · rintro ⟨v, hv, h⟩
    obtain ⟨x, hx, rfl⟩ := List.mem_map.mp h
    exact ⟨v, hv, x, mem_addAll.mp hx, rfl⟩
  · rintro ⟨v, hv, x, hx, rfl⟩
    exact ⟨v, hv, List.mem_map.mpr ⟨x, mem_addAll.mpr hx, rfl⟩⟩
/-- the start tells the version -/
def StartsTell (vs : List Ver_) : Prop := ∀ u ∈ vs, ∀ v ∈ vs, u.1 = v.1 → u = v
theorem posts_pk {key : Str} {vs : List Ver_} (h : StartsTell vs) : ∀ p ∈ posts key vs, ∀ q ∈ posts key vs, pk p = pk q → p = q := by
  intro p hp q hq e
  obtain ⟨v, hv, x, hx, rfl⟩ := posts_mem.mp hp
  obtain ⟨v', hv', x', hx', rfl⟩ := posts_mem.mp hq
  injection e with e1 e
  injection e with _ e
  have := h v hv v' hv' e
  subst this
  have e1' : x = x' := e1
  subst e1'
  rfl
section
variable {P : Program} {w : World} {K : PySem.W.Frag} {mg : Str → Option Value} {base : Heap}
def spPlcs : Sp := fun vs H Q _ => ∃ (h : Addr) (key : Str) (vxs : List V) (hv : List Ver_), vs = [.ref h, .str key] ∧ PyData.strOk key = true ∧ H h = some (.lst vxs) ∧ DtAll H vxs (hv.map eVer) ∧ hv.length ≤ 1000 ∧
  ∀ q H' pxs, H q = none → Same H H' → H' q = some (.lst pxs) → DtAll H' pxs ((plcs key hv).map ePlc) → Q (.ref q) H'
theorem con_places_of (T : Tx K mg) : Con P w K mg base 1 (He.ga K "places_of") ["history", "key"] spPlcs := by
  obtain ⟨fd, F⟩ := T.d_places_of
  refine ⟨fd, F.ok sc_places_of (fun vs H Q E h => ?_) (fun cdv A outer s H vs Q E hr h => ?_), F.bindsN fun _ _ _ _ _ _ us hl => match us, hl with | [_, _], _ => rfl, F.kp⟩
  · obtain ⟨h, key, vxs, hv, rfl, _⟩ := h
    rfl
  · obtain ⟨h, key, vxs, hv, rfl, hk, hh, hd, hl, k⟩ := h
    have nd := sc_places_of.nd
    refine ⟨_, PSs.nox (pss_one (ps_ret (pe_lc (own := [("version", 2)]) (g := gName 2) (tt := tYes) rfl nd (pi_list (pv 0)) (blkOk_by (own := [("version", 2)]) (N := ["history", "key", "version"]) (sc := defScope s_places_of) (by decide +kernel))
              (fun _ _ _ _ _ => pg_name (i := 2) nd rfl (.inl rfl)) (fun _ _ _ _ _ => pts_nil) (fun _ _ _ _ _ => pe_tup (pa_cons (pv 1) (pa_cons (pe_ix (show IxR _ (rIxT K) from ix_tup) (pv 2) pe_int (fun _ _ => rfl)) (pa_cons (pe_ix (show IxR _ (rIxT K) from ix_tup) (pv 2) pe_int (fun _ _ => rfl)) pa_nil))))))), ?_⟩
    refine ⟨_, rfl, h, rfl, ⟨_, SqL.of hh⟩, fun D hD => ?_⟩
    refine lc_list (K := K) (a := h) (xs := vxs) (fun i H1 => ∃ acc, Same H H1 ∧ H1 D = some (.lst acc) ∧ DtAll H1 acc ((plcs key (hv.take i)).map ePlc))
      ⟨[], same_new hD, upd_same, .nil⟩ (fun i H1 _ ⟨acc, s1, _⟩ => SqL.of (s1 _ _ hh)) ?_ ?_
    · rintro i x H1 hx ⟨acc, s1, hD1, da⟩
      obtain ⟨v, hv', dv⟩ := hd.mget hx
      obtain ⟨b, u1, u2, u3, rfl, hb, hu1, hu2, hu3⟩ := (show Dt H x (.tuple [.int v.1, eOpt v.2.1, eDoc v.2.2]) from dv).t3
      obtain rfl := hu1.int_inv
      obtain rfl := hu2.opt_inv
      refine ⟨rfl, ?_⟩
      refine ⟨_, rfl, _, rfl, b, _, _, _, rfl, rfl, SqT.of (s1 _ _ hb), atI_nat (j := 0) rfl, _, rfl, b, _, _, _, rfl, rfl, SqT.of (s1 _ _ hb), atI_nat (j := 1) rfl, (by show 3 ≤ sizeLine; decide), fun p hp => ?_⟩
      refine ⟨acc, same_new hp _ _ hD1, ?_, acc ++ [.ref p], fun b o e => ?_, upd_same, ?_⟩
      · rw [da.length, List.length_map, plcs, List.length_map, List.length_take]
        exact small1000 (by omega)
      · rw [upd_ne (ne_of_none e hD)]
        exact same_new hp _ _ (s1 _ _ e)
      · have tk : Tk H1 (upd (upd H1 p (.tup [.str key, .int v.1, oV v.2.1])) D (.lst (acc ++ [.ref p]))) := (tk_new hp).trans (tk_put (same_new hp _ _ hD1) fun xs z => nomatch z)
        rw [take_snoc hv', plcs, List.map_append, List.map_append]
        refine (da.tk tk).append (.cons ?_ .nil)
        refine .tup (xs := [.str key, .int v.1, oV v.2.1]) ?_ (.cons (.str _ hk) (.cons (.int _) (.cons (dt_opt _) .nil)))
        rw [upd_ne (fun z => by rw [z, hD1] at hp; cases hp)]
        exact upd_same
    · rintro H1 ⟨acc, s1, hD1, da⟩
      rw [hd.length, List.length_map, List.take_length] at da
      exact k D H1 acc hD s1 hD1 da
def spWWP : Sp := fun vs H Q _ => ∃ (dv : V) (d : Doc), vs = [dv] ∧ Dt H dv (eDoc d) ∧ d.length ≤ 1000 ∧
  ∀ f H' (G : Key → Addr), H f = none → Same H H' → H' f = some (.dK (((addAll d).map (Sum.inr : Str → Key)).map fun k => (k, V.ref (G k)))) → (∀ x ∈ addAll d, H' (G (Sum.inr x)) = some (.lst ((occ d x).map V.int)) ∧ H (G (Sum.inr x)) = none) → Q (.ref f) H'
theorem con_words_with_places (T : Tx K mg) : Con P w K mg base 1 (He.ga K "words_with_places") ["document"] spWWP := by
  obtain ⟨fd, F⟩ := T.d_words_with_places
  refine ⟨fd, F.ok sc_words_with_places (fun vs H Q E h => ?_) (fun cdv A outer s H vs Q E hr h => ?_), F.bindsN fun _ _ _ _ _ _ us hl => match us, hl with | [_], _ => rfl, F.kp⟩
  · obtain ⟨dv, d, rfl, _⟩ := h
    rfl
  · obtain ⟨dv, d, rfl, hd, hlen, k⟩ := h
    obtain ⟨da, dxs, rfl, hda, hdx⟩ := hd.tupN
    obtain ⟨rfl, hstr⟩ := dtAll_strs_inv hdx
    have nd := sc_words_with_places.nd
    refine ⟨_, PSs.nox (pss_cons (ps_set (i := 1) nd rfl (.inl rfl) pe_dnewK)
      (pss_cons (ps_for PassesOwn.never rfl (pi_range1 (by rfl) T.z_range (pa_cons (pe_callB call_len_seq (by rfl) T.z_len PySem.boot_len (pa_cons (pv 0) pa_nil)) pa_nil)) (pg_name (i := 2) nd rfl (.inl rfl))
        (pss_one (ps_expr (pe_bm PySem.F.plainAttrs_list PySem.F.slot_list_append PySem.F.type_list_append mt_append (pe_dsetd (pv 1) (pe_ix ix_tup (pv 0) (pv 2) (fun _ _ => rfl)) (pe_lst pa_nil) ⟨rfl, rfl, rfl, rfl⟩) (pa_cons (pv 2) pa_nil)))))
      (pss_one (ps_ret (pv 1))))), ?_⟩
    intro f hf
    have s0 : Same H (upd H f (.dK [])) := same_new hf
    refine ⟨_, rfl, da, _, rfl, .inr (SqT.of (s0 _ _ hda)), _, rfl, by rw [List.length_map]; omega, by rw [List.length_map]; omega, ?_⟩
    have hn : (((d.map V.str).length : Nat) : Int).toNat = d.length := by rw [List.length_map]; omega
    refine for_range (lo := 0) (n := (((d.map V.str).length : Nat) : Int).toNat) (fun i σ H1 => ∃ (v2 : Option V) (G : Key → Addr), σ = [some (.ref da), some (.ref f), v2] ∧ Same H H1 ∧
        H1 f = some (.dK (((addAll (d.take i)).map (Sum.inr : Str → Key)).map fun k => (k, V.ref (G k)))) ∧ (∀ x ∈ addAll (d.take i), H1 (G (Sum.inr x)) = some (.lst ((occ (d.take i) x).map V.int)) ∧ H (G (Sum.inr x)) = none) ∧ (∀ x ∈ addAll (d.take i), ∀ y ∈ addAll (d.take i), G (Sum.inr x) = G (Sum.inr y) → x = y))
      ⟨none, fun _ => 0, rfl, s0, upd_same, fun x hx => absurd hx (by simp [addAll]), fun x hx => absurd hx (by simp [addAll])⟩ ?_ ?_
    · rintro i σ H1 hi ⟨v2, G, rfl, s1, hf1, hG, hinj⟩
      rw [hn] at hi
      have ez : (0 : Int) + (i : Nat) = ((i : Nat) : Int) := Int.zero_add _
      have hx : d[i]? = some d[i] := List.getElem?_eq_getElem hi
      generalize d[i] = x at hx
      have hdi : (d.map V.str)[i]? = some (V.str x) := by rw [List.getElem?_map, hx]; rfl
      have eti : (d.take i).length = i := by rw [List.length_take]; omega
      have ets := take_snoc hx
      have ea : addAll (d.take (i + 1)) = add (addAll (d.take i)) x := by rw [ets, addAll_snoc]
      have eo : ∀ y, occ (d.take (i + 1)) y = if x = y then occ (d.take i) y ++ [((i : Nat) : Int)] else occ (d.take i) y := fun y => by
        rw [ets, occ_snoc, eti]
      have gf : ∀ y ∈ addAll (d.take i), G (Sum.inr y) ≠ f := fun y hy e => by
        have := (hG y hy).1
        rw [e, hf1] at this; cases this
      refine ⟨_, rfl, f, rfl, .inl ⟨_, .inl hf1⟩, _, rfl, _, rfl, da, _, _, _, rfl, rfl, SqT.of (s1 _ _ hda), at_of ez hdi, Nat.zero_le _, fun q hq => ?_⟩
      have s12 : Same H1 (upd H1 q (.lst [])) := same_new hq
      have hnq : H q = none := same_none s1 hq
      refine ⟨_, Sum.inr x, s12 _ _ hf1, rfl, ?_, fun v hv => ?_, fun hv => ?_⟩
      · rw [List.length_map, List.length_map]
        have := length_addAll (d.take i)
        exact small1000 (by omega)
      · rw [valV_fn] at hv
        by_cases hm : (Sum.inr x : Key) ∈ (addAll (d.take i)).map (Sum.inr : Str → Key)
        · rw [if_pos hm] at hv
          cases hv
          have hxm : x ∈ addAll (d.take i) := by
            obtain ⟨y, hy, e⟩ := List.mem_map.mp hm
            rw [← Sum.inr.inj e]; exact hy
          have hgx := (hG x hxm).1
          have eadd : add (addAll (d.take i)) x = addAll (d.take i) := if_pos hxm
          refine ⟨.inl ⟨rfl, _, SqL.of (s12 _ _ hgx)⟩, _, rfl, G (Sum.inr x), _, _, rfl, rfl, s12 _ _ hgx, ?_, ?_⟩
          · rw [List.length_map]
            have := occ_len (d.take i) x
            exact small1000 (by omega)
          · refine ⟨_, G, rfl, fun b o e => ?_, ?_, fun y hy => ?_, fun y hy z hz => ?_⟩
            · rw [upd_ne fun z => by have := (hG x hxm).2; rw [← z, e] at this; cases this]
              exact s12 _ _ (s1 _ _ e)
            · rw [upd_ne (gf x hxm).symm, ea, eadd]
              exact s12 _ _ hf1
            · rw [ea, eadd] at hy
              refine ⟨?_, (hG y hy).2⟩
              rw [eo]
              by_cases e : x = y
              · subst e
                rw [if_pos rfl, upd_same, List.map_append, ez]
                rfl
              · rw [if_neg e, upd_ne fun z => e (hinj y hy x hxm z).symm]
                exact s12 _ _ (hG y hy).1
            · rw [ea, eadd] at hy hz
              exact hinj y hy z hz
        · rw [if_neg hm] at hv
          cases hv
      · rw [valV_fn] at hv
        have hm : (Sum.inr x : Key) ∉ (addAll (d.take i)).map (Sum.inr : Str → Key) := fun hm => by
          rw [if_pos hm] at hv; cases hv
        have hxm : x ∉ addAll (d.take i) := fun h => hm (List.mem_map.mpr ⟨x, h, rfl⟩)
        have eadd : add (addAll (d.take i)) x = addAll (d.take i) ++ [x] := if_neg hxm
        have qf : q ≠ f := fun z => by rw [z, hf1] at hq; cases hq
        refine ⟨.inl ⟨rfl, [], SqL.of (by rw [upd_ne qf]; exact upd_same)⟩, _, rfl, q, [], _, rfl, rfl, by rw [upd_ne qf]; exact upd_same, by show 0 < sizeLine; decide, ?_⟩
        have gq : ∀ y ∈ addAll (d.take i), G (Sum.inr y) ≠ q := fun y hy => ne_of_none (hG y hy).1 hq
        refine ⟨_, fun j => if j = Sum.inr x then q else G j, rfl, fun b o e => ?_, ?_, fun y hy => ?_, fun y hy z hz e => ?_⟩
        · rw [upd_ne (ne_of_none e hnq), upd_ne (ne_of_none e hf)]
          exact s12 _ _ (s1 _ _ e)
        · have em : (addAll (d.take i) ++ [x]).map (Sum.inr : Str → Key) = (addAll (d.take i)).map Sum.inr ++ [Sum.inr x] := by
            rw [List.map_append]
            rfl
          rw [upd_ne qf.symm, upd_same, putK_fresh hm, ea, eadd, em]
          congr 2
          refine List.map_congr_left fun j _ => ?_
          show (j, if j = Sum.inr x then V.ref q else V.ref (G j)) = (j, V.ref (if j = Sum.inr x then q else G j))
          split <;> rfl
        · rw [ea, eadd] at hy
          rw [eo]
          dsimp only
          rcases List.mem_append.mp hy with hy | hy
          · have ne : y ≠ x := fun z => hxm (by rw [← z]; exact hy)
            rw [if_neg fun z => ne (Sum.inr.inj z), if_neg fun z => ne z.symm]
            refine ⟨?_, (hG y hy).2⟩
            rw [upd_ne (gq y hy), upd_ne (gf y hy)]
            exact s12 _ _ (hG y hy).1
          · rw [List.mem_singleton.mp hy, if_pos rfl, if_pos rfl]
            refine ⟨?_, hnq⟩
            rw [upd_same, occ_none fun h => hxm (mem_addAll.mpr h), ez]
            rfl
        · rw [ea, eadd] at hy hz
          dsimp only at e
          rcases List.mem_append.mp hy with hy | hy
          · have ne : y ≠ x := fun z => hxm (by rw [← z]; exact hy)
            rcases List.mem_append.mp hz with hz | hz
            · have ne' : z ≠ x := fun z' => hxm (by rw [← z']; exact hz)
              rw [if_neg fun z => ne (Sum.inr.inj z), if_neg fun z => ne' (Sum.inr.inj z)] at e
              exact hinj y hy z hz e
            · rw [List.mem_singleton.mp hz] at e ⊢
              rw [if_neg fun z => ne (Sum.inr.inj z), if_pos rfl] at e
              exact absurd e (gq y hy)
          · rcases List.mem_append.mp hz with hz | hz
            · have ne' : z ≠ x := fun z' => hxm (by rw [← z']; exact hz)
              rw [List.mem_singleton.mp hy] at e ⊢
              rw [if_pos rfl, if_neg fun z => ne' (Sum.inr.inj z)] at e
              exact absurd e.symm (gq z hz)
            · rw [List.mem_singleton.mp hy, List.mem_singleton.mp hz]
    · rintro σ H1 ⟨v2, G, rfl, s1, hf1, hG, _⟩
      rw [hn, List.take_length] at hf1 hG
      exact ⟨_, rfl, k f H1 G hf s1 hf1 hG⟩
end
end Tsf
/-! postings.postings_of -/
namespace Tsf
open PySem PySem.Spec PyProof.Rows L2
section
variable {P : Program} {w : World} {K : PySem.W.Frag} {mg : Str → Option Value} {base : Heap}
def spPosts : Sp := fun vs H Q _ => ∃ (h : Addr) (key : Str) (vxs : List V) (hv : List Ver_), vs = [.ref h, .str key] ∧ PyData.strOk key = true ∧ H h = some (.lst vxs) ∧ DtAll H vxs (hv.map eVer) ∧ words_n hv ≤ 1000 ∧ StartsTell hv ∧
  ∀ q H' (pxs : List V) (ps : List Post), H q = none → Same H H' → H' q = some (.lst pxs) → DtAll H' pxs (ps.map ePost) → ps.Perm (posts key hv) → Q (.ref q) H'
theorem con_postings_of (T : Tx K mg) : Con P w K mg base 2 (He.ga K "postings_of") ["history", "key"] spPosts := by
  obtain ⟨fd, F⟩ := T.d_postings_of
  obtain ⟨fdw, GW, bW, kW⟩ := con_words_with_places (P := P) (w := w) (base := base) T
  refine ⟨fd, F.ok sc_postings_of (fun vs H Q E h => ?_) (fun cdv A outer s H vs Q E hr h => ?_), F.bindsN fun _ _ _ _ _ _ us hl => match us, hl with | [_, _], _ => rfl, F.kp⟩
  · obtain ⟨h, key, vxs, hv, rfl, _⟩ := h
    rfl
  · obtain ⟨h, key, vxs, hv, rfl, hk, hh, hd, hl, hst, k⟩ := h
    have nd := sc_postings_of.nd
    refine ⟨_, PSs.nox (pss_cons (ps_set (i := 2) nd rfl (.inl rfl) (pe_lst pa_nil))
      (pss_cons (ps_for PassesOwn.never rfl (pi_list (pv 0)) (pg_name (i := 3) nd rfl (.inl rfl))
        (pss_cons (ps_set (i := 4) nd rfl (.inl rfl) (pe_call GW hr (by rfl) T.g_words_with_places kW bW .nil pass0 (pa_cons (pe_ix ix_tup (pv 3) pe_int (fun _ _ => rfl)) pa_nil)))
        (pss_one (ps_lock (ps_for PassesOwn.never rfl (pi_keys (pv 4)) (pg_name (i := 5) nd rfl (.inl rfl))
          (pss_one (ps_expr (pe_bm PySem.F.plainAttrs_list PySem.F.slot_list_append PySem.F.type_list_append mt_append (pv 2)
            (pa_cons (pe_tup (pa_cons (pv 5) (pa_cons (pv 1) (pa_cons (pe_ix ix_tup (pv 3) pe_int (fun _ _ => rfl)) (pa_cons (pe_ix ix_tup (pv 3) pe_int (fun _ _ => rfl)) (pa_cons (pe_callTy call_tuple_of (by rfl) T.z_tuple (by decide +kernel) (pa_cons (pe_dget (Room.u1 hr) (pv 4) (pv 5) (fun _ _ => rfl)) pa_nil)) pa_nil)))))) pa_nil)))))))))
      (pss_one (ps_ret (pe_callB (cr_sortT (Room.u70 hr)) (by rfl) T.z_sorted (by decide +kernel) (pa_cons (pv 2) pa_nil)))))), ?_⟩
    refine ⟨Nat.zero_le _, fun l hl0 => ?_⟩
    have s0 : Same H (upd H l (.lst [])) := same_new hl0
    refine ⟨_, rfl, h, rfl, ⟨_, SqL.of (s0 _ _ hh)⟩, ?_⟩
    refine for_list (K := K) (a := h) (xs := vxs) (fun i σ H1 => ∃ v3 v4 v5 acc, σ = [some (.ref h), some (.str key), some (.ref l), v3, v4, v5] ∧ Same H H1 ∧ H1 l = some (.lst acc) ∧ DtAll H1 acc ((posts key (hv.take i)).map ePost))
      ⟨none, none, none, [], rfl, s0, upd_same, .nil⟩ (fun i σ H1 _ ⟨_, _, _, _, _, s1, _⟩ => SqL.of (s1 _ _ hh)) ?_ ?_
    · rintro i x σ H1 hx ⟨v3, v4, v5, acc, rfl, s1, hl1, da⟩
      obtain ⟨v, hv', dv⟩ := hd.mget hx
      obtain ⟨b, u1, u2, u3, rfl, hb, hu1, hu2, hu3⟩ := (show Dt H x (.tuple [.int v.1, eOpt v.2.1, eDoc v.2.2]) from dv).t3
      obtain rfl := hu1.int_inv
      obtain rfl := hu2.opt_inv
      obtain ⟨dda, ddx, _, _, ddx2⟩ := hu3.tupN
      obtain ⟨_, hstr⟩ := dtAll_strs_inv ddx2
      have hi : i < hv.length := (List.getElem?_eq_some_iff.mp hv').1
      have hwn : words_n (hv.take i) + v.2.2.length ≤ 1000 := by
        have h1 := words_n_take hv (i + 1)
        rw [take_snoc hv', words_n_snoc] at h1
        omega
      refine ⟨_, rfl, b, _, _, _, rfl, rfl, SqT.of (s1 _ _ hb), atI_nat (j := 2) rfl, u3, v.2.2, rfl, hu3.tk (tk_same s1), by omega, fun f H2 G hf1 s2 hf2 hG2 => ?_⟩
      have hlf : l ≠ f := ne_of_none hl1 hf1
      refine ⟨f, _, hf2, trivial, fun od => ?_⟩
      refine ⟨_, rfl, f, od, rfl, .inl ⟨_, upd_same, ?_⟩⟩
      have hG1 : ∀ y ∈ addAll v.2.2, G (Sum.inr y) ≠ f := fun y hy e => by
        have := (hG2 y hy).1
        rw [e, hf2] at this; cases this
      refine for_it walk_keys (fun j σ H3 => ∃ v5 acc, σ = [some (.ref h), some (.str key), some (.ref l), some (.ref b), some (.ref f), v5] ∧ H3 f = some (.frz od (.dK (((addAll v.2.2).map (Sum.inr : Str → Key)).map fun k => (k, V.ref (G k))))) ∧ (∀ a o, a ≠ f → a ≠ l → H2 a = some o → H3 a = some o) ∧ H3 l = some (.lst acc) ∧ DtAll H3 acc ((posts key (hv.take i) ++ (postsV key v).take j).map ePost))
        ⟨v5, acc, rfl, upd_same, fun a o ha _ e => by rw [upd_ne ha]; exact e, by rw [upd_ne hlf]; exact s2 _ _ hl1, ?_⟩ (fun j σ H3 _ ⟨_, _, _, h1, _⟩ => h1) ?_ ?_
      · rw [List.take_zero, List.append_nil]
        refine da.tk ((tk_same s2).trans (tk_put hf2 fun xs z => nomatch z))
      · rintro j y σ H3 H3' hj ⟨v5', acc', rfl, h1, h2, h3, h4⟩ ⟨rfl, k', v', hk', rfl⟩
        have hj' : j < (addAll v.2.2).length := by rw [List.length_map, List.length_map] at hj; exact hj
        have hyj : (addAll v.2.2)[j]? = some (addAll v.2.2)[j] := List.getElem?_eq_getElem hj'
        generalize (addAll v.2.2)[j] = y at hyj
        have ek : (k', v') = ((Sum.inr y : Key), V.ref (G (Sum.inr y))) := by
          rw [List.getElem?_map, List.getElem?_map, hyj] at hk'
          exact (Option.some.inj hk').symm
        cases ek
        have hym : y ∈ addAll v.2.2 := List.mem_of_getElem? hyj
        have hgl : G (Sum.inr y) ≠ l := fun z => by
          have h5 := (hG2 y hym).2
          rw [z, hl1] at h5; cases h5
        have hgy : H3' (G (Sum.inr y)) = some (.lst ((occ v.2.2 y).map V.int)) := h2 _ _ (hG1 y hym) hgl (hG2 y hym).1
        have hb3 : H3' b = some (.tup [.int v.1, oV v.2.1, u3]) := h2 _ _ (ne_of_none (s1 _ _ hb) hf1) (ne_of_none hb hl0) (s2 _ _ (s1 _ _ hb))
        refine ⟨_, rfl, .inl ⟨rfl, _, SqL.of h3⟩, ?_⟩
        refine ⟨_, rfl, _, rfl, _, rfl, b, _, _, _, rfl, rfl, SqT.of hb3, atI_nat (j := 0) rfl, _, rfl, b, _, _, _, rfl, rfl, SqT.of hb3, atI_nat (j := 1) rfl, ?_⟩
        refine ⟨_, rfl, _, rfl, f, _, rfl, .inl ⟨_, Sum.inr y, .inr ⟨_, h1⟩, rfl, by rw [valV_fn, if_pos (List.mem_map.mpr ⟨y, hym, rfl⟩)]⟩, ?_⟩
        refine ⟨G (Sum.inr y), _, rfl, .inl ⟨SqL.of hgy, fun t1 ht1 => ?_⟩⟩
        refine ⟨(by show 5 ≤ sizeLine; decide), fun t2 ht2 => ?_⟩
        have n1l : l ≠ t1 := ne_of_none h3 ht1
        have s34 : Same H3' (upd H3' t1 (.tup ((occ v.2.2 y).map V.int))) := same_new ht1
        have s35 := s34.trans (same_new (o := .tup [.str y, .str key, .int v.1, oV v.2.1, .ref t1]) ht2)
        refine ⟨l, acc', _, rfl, rfl, s35 _ _ h3, ?_, ?_⟩
        · rw [h4.length, List.length_map, List.length_append, List.length_take]
          have h5 := posts_len key (hv.take i)
          have h6 := postsV_len key v
          exact small1000 (by omega)
        · have tk : Tk H3' (upd (upd (upd H3' t1 (.tup ((occ v.2.2 y).map V.int))) t2 (.tup [.str y, .str key, .int v.1, oV v.2.1, .ref t1])) l (.lst (acc' ++ [.ref t2]))) := (tk_same s35).trans (tk_put (s35 _ _ h3) fun xs z => nomatch z)
          have n2l : t2 ≠ l := fun z => by rw [z, s34 _ _ h3] at ht2; cases ht2
          refine ⟨_, acc' ++ [.ref t2], rfl, ?_, fun a o ha hal e => ?_, upd_same, ?_⟩
          · rw [upd_ne hlf.symm]
            exact s35 _ _ h1
          · rw [upd_ne hal]
            exact s35 _ _ (h2 a o ha hal e)
          · have epv : (postsV key v)[j]? = some (y, key, v.1, v.2.1, occ v.2.2 y) := by
              unfold postsV
              rw [List.getElem?_map, hyj]; rfl
            rw [take_snoc epv, ← List.append_assoc, List.map_append]
            refine (h4.tk tk).append (.cons ?_ .nil)
            refine .tup (xs := [.str y, .str key, .int v.1, oV v.2.1, .ref t1]) ?_ (.cons (.str _ (hstr y (mem_addAll.mp hym))) (.cons (.str _ hk) (.cons (.int _) (.cons (dt_opt _) (.cons ?_ .nil)))))
            · rw [upd_ne n2l]; exact upd_same
            · refine .tup (xs := (occ v.2.2 y).map V.int) ?_ (dtAll_ints _)
              rw [upd_ne n1l.symm]
              exact same_new ht2 _ _ upd_same
      · rintro σ H3 ⟨v5', acc', rfl, h1, h2, h3, h4⟩
        refine ⟨h1, ?_⟩
        have el : (((addAll v.2.2).map (Sum.inr : Str → Key)).map fun k => (k, V.ref (G k))).length = (postsV key v).length := by
          rw [List.length_map, List.length_map, postsV, List.length_map]
        rw [el, List.take_length, ← posts_snoc, ← take_snoc hv'] at h4
        refine ⟨_, _, _, acc', rfl, fun a o e => ?_, by rw [upd_ne hlf]; exact h3, h4.tk (tk_put h1 fun xs z => nomatch z)⟩
        have haf : a ≠ f := fun z => by rw [z, same_none s1 hf1] at e; cases e
        rw [upd_ne haf]
        exact h2 a o haf (ne_of_none e hl0) (s2 _ _ (s1 _ _ e))
    · rintro σ H1 ⟨v3, v4, v5, acc, rfl, s1, hl1, da⟩
      rw [hd.length, List.length_map, List.take_length] at da
      refine ⟨_, rfl, l, acc, _, ltD, rfl, SqL.of hl1, da, ltOk_post (posts_pk hst), fun ys es p dy hp _ hpn => ?_⟩
      obtain ⟨ps, rfl, hps⟩ := perm_map (fun x y => ePost_inj) hp
      exact k p _ ys ps (same_none s1 hpn) (s1.trans (same_new hpn)) upd_same (dy.tk (tk_new hpn)) hps
end
end Tsf
/-! words.py -/
namespace Tsf
open PySem PySem.Spec PyProof.Rows L2
def CAP : Str := "ABCDEFGHIJKLMNOPQRSTUVWXYZ"
def SML : Str := "abcdefghijklmnopqrstuvwxyz"
def DIG : Str := "0123456789"
def hasC (z c : Str) : Bool := !(Builtin.Str.occurrences z c 0 z.length 1).isEmpty
def capIx (c : Str) : Nat := (Builtin.Str.occurrences CAP c 0 CAP.length 1).headD 0
def lowOf (c : Str) : Str := ⟨#[SML.cps.toList.getD (capIx c) 0]⟩
def wstep (s : List Str × Str) (c : Str) : List Str × Str :=
  if hasC CAP c then (s.1, s.2 ++ lowOf c) else if (hasC SML c || hasC DIG c) then (s.1, s.2 ++ c) else if s.2 = ("" : Str) then s else (s.1 ++ [cutS s.2 none (some 12)], ("" : Str))
def wloop (l : List Nat) : List Str × Str := l.foldl (fun s c => wstep s ⟨#[c]⟩) ([], ("" : Str))
def wordsOf (t : Str) : List Str := (wloop (t ++ (" " : Str)).cps.toList).1
theorem wloop_snoc (l : List Nat) (c : Nat) : wloop (l ++ [c]) = wstep (wloop l) ⟨#[c]⟩ := by
  unfold wloop
  rw [List.foldl_append]
  rfl
theorem ok_append {a b : Str} (ha : PyData.strOk a = true) (hb : PyData.strOk b = true) : PyData.strOk (a ++ b) = true := by
  have ha' : a.cps.all (· < 0x110000) = true := ha
  have hb' : b.cps.all (· < 0x110000) = true := hb
  show (a.cps ++ b.cps).all (· < 0x110000) = true
  rw [Array.all_append, ha', hb']
  rfl
theorem len_append (a b : Str) : (a ++ b).length = a.length + b.length := by
  show (a.cps ++ b.cps).size = a.cps.size + b.cps.size
  exact Array.size_append
theorem ok_cut {z : Str} (lo hi : Option Int) (h : PyData.strOk z = true) : PyData.strOk (cutS z lo hi) = true := by
  have h' : z.cps.all (· < 0x110000) = true := h
  rw [← Array.all_toList] at h'
  show (cutS z lo hi).cps.all (· < 0x110000) = true
  rw [← Array.all_toList]
  unfold cutS
  rw [List.all_eq_true] at h' ⊢
  intro x hx
  exact h' x (List.mem_of_mem_drop (List.mem_of_mem_take (by simpa using hx)))
theorem ok_low (c : Str) : PyData.strOk (lowOf c) = true := by
  have key : ∀ i : Nat, (SML.cps.toList.getD i 0) < 0x110000 := fun i => by
    by_cases h : i < 26
    · have : ∀ i : Fin 26, (SML.cps.toList.getD i.1 0) < 0x110000 := by decide +kernel
      exact this ⟨i, h⟩
    · rw [List.getD_eq_getElem?_getD, List.getElem?_eq_none (by show SML.cps.toList.length ≤ i; rw [show SML.cps.toList.length = 26 by decide +kernel]; omega)]
      decide
  show (#[SML.cps.toList.getD (capIx c) 0] : Array Nat).all (· < 0x110000) = true
  simp
  simpa using key (capIx c)
/-- what holds of the words behind n characters -/
structure WInv (n : Nat) (s : List Str × Str) : Prop where
  count : s.1.length + s.2.length ≤ n
  run : PyData.strOk s.2 = true
  ok : ∀ x ∈ s.1, PyData.strOk x = true
theorem winv_step {n : Nat} {s : List Str × Str} {c : Nat} (hc : c < 0x110000) (I : WInv n s) : WInv (n + 1) (wstep s ⟨#[c]⟩) := by
  have okc : PyData.strOk ⟨#[c]⟩ = true := by
    show (#[c] : Array Nat).all (· < 0x110000) = true
    simpa using hc
  have h := I.count
  unfold wstep
  by_cases h1 : hasC CAP ⟨#[c]⟩ = true
  · rw [if_pos h1]
    refine ⟨?_, ok_append I.run (ok_low _), I.ok⟩
    rw [len_append]
    show s.1.length + (s.2.length + 1) ≤ n + 1
    omega
  · rw [if_neg h1]
    by_cases h2 : (hasC SML ⟨#[c]⟩ || hasC DIG ⟨#[c]⟩) = true
    · rw [if_pos h2]
      refine ⟨?_, ok_append I.run okc, I.ok⟩
      rw [len_append]
      show s.1.length + (s.2.length + 1) ≤ n + 1
      omega
    · rw [if_neg h2]
      by_cases h3 : s.2 = ("" : Str)
      · rw [if_pos h3]
        exact ⟨by omega, I.run, I.ok⟩
      · rw [if_neg h3]
        refine ⟨?_, (by decide +kernel : PyData.strOk ("" : Str) = true), fun x hx => ?_⟩
        · rw [List.length_append]
          show s.1.length + 1 + 0 ≤ n + 1
          omega
        · rcases List.mem_append.mp hx with hx | hx
          · exact I.ok x hx
          · rw [List.mem_singleton.mp hx]
            exact ok_cut _ _ I.run
theorem winv_loop {l : List Nat} (h : ∀ c ∈ l, c < 0x110000) : WInv l.length (wloop l) := by
  induction l using Ts.snoc_ind with
  | h0 => exact ⟨Nat.le_refl _, (by decide +kernel : PyData.strOk ("" : Str) = true), fun x hx => absurd hx (by simp [wloop])⟩
  | h1 l c ih =>
    rw [wloop_snoc, List.length_append]
    exact winv_step (h c (by simp)) (ih fun x hx => h x (by simp [hx]))
theorem ok_mem {t : Str} (h : PyData.strOk t = true) : ∀ c ∈ t.cps.toList, c < 0x110000 := by
  have h' : t.cps.all (· < 0x110000) = true := h
  rw [← Array.all_toList, List.all_eq_true] at h'
  intro c hc
  simpa using h' c hc
theorem wordsOf_inv {t : Str} (h : PyData.strOk t = true) : (wordsOf t).length ≤ t.length + 1 ∧ ∀ x ∈ wordsOf t, PyData.strOk x = true := by
  have I := winv_loop (ok_mem (ok_append h (show PyData.strOk (" " : Str) = true by decide +kernel)))
  refine ⟨?_, I.ok⟩
  have h1 := I.count
  have h2 : (t ++ (" " : Str)).cps.toList.length = t.length + 1 := by
    rw [Array.length_toList]
    exact len_append t " "
  unfold wordsOf
  omega
section
variable {P : Program} {w : World} {K : PySem.W.Frag} {mg : Str → Option Value} {base : Heap}
theorem small_le {n : Nat} (h : n ≤ 1000) : n ≤ sizeLine := Nat.le_of_lt (small1000 h)
theorem gcS {x s : Str} (h : ∃ t, mg x = some (.str s t)) : ∃ u, mg x = some u ∧ RelV (.str s) u := by
  obtain ⟨t, e⟩ := h
  exact ⟨_, e, t, rfl⟩
theorem gcI {x : Str} {s : Int} (h : ∃ t, mg x = some (.int s t)) : ∃ u, mg x = some u ∧ RelV (.int s) u := by
  obtain ⟨t, e⟩ := h
  exact ⟨_, e, t, rfl⟩
def spWO : Sp := fun vs H Q _ => ∃ (t : Str), vs = [.str t] ∧ PyData.strOk t = true ∧ t.length ≤ 100 ∧ ∀ q H', H q = none → Same H H' → H' q = some (.lst ((wordsOf t).map V.str)) → Q (.ref q) H'
theorem con_words_of (T : Tx K mg) : Con P w K mg base 1 (He.ga K "words_of") ["text"] spWO := by
  obtain ⟨fd, F⟩ := T.d_words_of
  refine ⟨fd, F.ok sc_words_of (fun vs H Q E h => ?_) (fun cdv A outer s H vs Q E hr h => ?_), F.bindsN fun _ _ _ _ _ _ us hl => match us, hl with | [_], _ => rfl, F.kp⟩
  · obtain ⟨t, rfl, _⟩ := h
    rfl
  · obtain ⟨t, rfl, hok, hlen, k⟩ := h
    have nd := sc_words_of.nd
    have gcap := gcS T.i_CAPITALS
    have gsml := gcS T.i_SMALLS
    have gdig := gcS T.i_DIGITS
    have gwl := gcI T.i_WORD_LENGTH
    refine ⟨_, PSs.nox (pss_cons (ps_set (i := 1) nd rfl (.inl rfl) (pe_lst pa_nil))
      (pss_cons (ps_set (i := 2) nd rfl (.inl rfl) pe_str)
      (pss_cons (ps_for PassesOwn.never rfl (pi_str (pe_op op_add_str (pv 0) pe_str)) (pg_name (i := 3) nd rfl (.inl rfl))
        (pss_one (ps_if (pt_cmpR op_in_str (pv 3) (C8.pe_gc (by rfl) gcap) (by rfl))
          (pss_one (ps_set (i := 2) nd rfl (.inl rfl) (pe_op op_add_str (pv 2) (pe_ix ix_str (C8.pe_gc (by rfl) gsml) (pe_m1 PySem.F.slot_str_index PySem.F.type_str_index mt_sindex (C8.pe_gc (by rfl) gcap) (pv 3)) (fun _ _ => rfl)))))
          (pss_one (ps_if (PW.pt (pw_or (pt_cmpR op_in_str (pv 3) (C8.pe_gc (by rfl) gsml) (by rfl)) (pw_or1 (pt_cmpR op_in_str (pv 3) (C8.pe_gc (by rfl) gdig) (by rfl)))))
            (pss_one (ps_set (i := 2) nd rfl (.inl rfl) (pe_op op_add_str (pv 2) (pv 3))))
            (pss_one (ps_if (pt_cmpR op_ne (pv 2) pe_str (nomark _))
              (pss_cons (ps_expr (pe_bm PySem.F.plainAttrs_list PySem.F.slot_list_append PySem.F.type_list_append mt_append (pv 1) (pa_cons (pe_slice sl_str (pv 2) po_none (po_some (C8.pe_gc (by rfl) gwl))) pa_nil)))
              (pss_one (ps_set (i := 2) nd rfl (.inl rfl) pe_str))) pss_nil)))))))
      (pss_one (ps_ret (pv 1)))))), ?_⟩
    refine ⟨Nat.zero_le _, fun l hl => ?_⟩
    have s0 : Same H (upd H l (.lst [])) := same_new hl
    refine ⟨_, rfl, _, _, rfl, rfl, small_le (by show t.length + 1 ≤ 1000; omega), _, rfl, ?_⟩
    have e2 : (t ++ (" " : Str)).cps.toList.length = t.length + 1 := by
      rw [Array.length_toList]
      exact len_append t " "
    have hall := ok_mem (ok_append hok (show PyData.strOk (" " : Str) = true by decide +kernel))
    refine for_it walk_str (fun i σ H1 => ∃ v3, σ = [some (.str t), some (.ref l), some (.str (wloop ((t ++ (" " : Str)).cps.toList.take i)).2), v3] ∧ Same H H1 ∧ H1 l = some (.lst ((wloop ((t ++ (" " : Str)).cps.toList.take i)).1.map V.str)))
      ⟨none, rfl, s0, upd_same⟩ (fun i σ H1 _ _ => trivial) ?_ ?_
    · rintro i x σ H1 H2 hi ⟨v3, rfl, s1, hl1⟩ ⟨rfl, c, hc, rfl⟩
      have hc' : (t ++ (" " : Str)).cps.toList[i]? = some c := by rw [Array.getElem?_toList]; exact hc
      have I := winv_loop (l := (t ++ (" " : Str)).cps.toList.take i) fun x hx => hall x (List.mem_of_mem_take hx)
      have hn : ((t ++ (" " : Str)).cps.toList.take i).length ≤ 101 := by rw [List.length_take, e2]; omega
      have ets : wloop ((t ++ (" " : Str)).cps.toList.take (i + 1)) = wstep (wloop ((t ++ (" " : Str)).cps.toList.take i)) ⟨#[c]⟩ := by rw [take_snoc hc', wloop_snoc]
      generalize hS : wloop ((t ++ (" " : Str)).cps.toList.take i) = S at I hl1 ets
      have hcount := I.count
      refine ⟨_, rfl, _, _, rfl, rfl, _, rfl, ?_⟩
      refine ite2 (fun c1 => ?_) (fun c1 => ?_)
      · have eS : wstep S ⟨#[c]⟩ = (S.1, S.2 ++ lowOf ⟨#[c]⟩) := if_pos c1
        have hne : ∃ r, Builtin.Str.occurrences CAP ⟨#[c]⟩ 0 CAP.length 1 = capIx ⟨#[c]⟩ :: r := by
          unfold capIx
          cases q : Builtin.Str.occurrences CAP ⟨#[c]⟩ 0 CAP.length 1 with
          | nil =>
            have c1' : (!(Builtin.Str.occurrences CAP ⟨#[c]⟩ 0 CAP.length 1).isEmpty) = true := c1
            rw [q] at c1'
            cases c1'
          | cons a r => exact ⟨r, rfl⟩
        obtain ⟨r, hr'⟩ := hne
        have hb : capIx ⟨#[c]⟩ + 1 ≤ 26 := (PySem.StrLaws.occ_spec CAP ⟨#[c]⟩ 0 CAP.length 1 _ (by rw [hr']; exact List.mem_cons_self ..)).1
        have h26 : SML.cps.toList.length = 26 := by decide +kernel
        have hat : atI SML.cps.toList ((capIx ⟨#[c]⟩ : Nat) : Int) = some (SML.cps.toList.getD (capIx ⟨#[c]⟩) 0) := by
          refine atI_nat ?_
          rw [List.getD_eq_getElem?_getD, List.getElem?_eq_getElem (by omega)]
          rfl
        refine ⟨_, rfl, ⟨_, rfl⟩, _, rfl, CAP, _, _, r, rfl, rfl, hr', SML, _, _, rfl, rfl, (by decide +kernel), hat, _, _, rfl, rfl, ?_, ?_⟩
        · show S.2.length + 1 ≤ sizeLine
          exact small_le (by omega)
        · rw [ets, eS]
          exact ⟨_, rfl, s1, hl1⟩
      · have c1' : ¬ hasC CAP ⟨#[c]⟩ = true := c1
        have eS1 : wstep S ⟨#[c]⟩ = if (hasC SML ⟨#[c]⟩ || hasC DIG ⟨#[c]⟩) then (S.1, S.2 ++ ⟨#[c]⟩) else if S.2 = ("" : Str) then S else (S.1 ++ [cutS S.2 none (some 12)], ("" : Str)) := if_neg c1'
        have go2 : (hasC SML ⟨#[c]⟩ || hasC DIG ⟨#[c]⟩) = true → ∃ v3 : Option V, [some (V.str t), some (.ref l), some (.str (S.2 ++ ⟨#[c]⟩)), some (V.str ⟨#[c]⟩)] = [some (.str t), some (.ref l), some (.str (wstep S ⟨#[c]⟩).2), v3] ∧ Same H H2 ∧ H2 l = some (.lst ((wstep S ⟨#[c]⟩).1.map V.str)) := fun hb => by
          rw [eS1, if_pos hb]
          exact ⟨_, rfl, s1, hl1⟩
        rw [ets]
        refine ⟨_, rfl, _, _, rfl, rfl, _, rfl, ?_⟩
        refine ite2 (fun c2 => ?_) (fun c2 => ?_)
        · have c2' : hasC SML ⟨#[c]⟩ = true := c2
          refine ⟨_, rfl, _, rfl, _, _, rfl, rfl, ?_, go2 (by rw [c2']; rfl)⟩
          show S.2.length + 1 ≤ sizeLine
          exact small_le (by omega)
        · have c2' : ¬ hasC SML ⟨#[c]⟩ = true := c2
          refine ⟨_, rfl, _, _, rfl, rfl, _, rfl, ?_⟩
          refine ite2 (fun c3 => ?_) (fun c3 => ?_)
          · have c3' : hasC DIG ⟨#[c]⟩ = true := c3
            refine ⟨_, rfl, _, rfl, _, _, rfl, rfl, ?_, go2 (by rw [c3', Bool.or_true])⟩
            show S.2.length + 1 ≤ sizeLine
            exact small_le (by omega)
          · have c3' : ¬ hasC DIG ⟨#[c]⟩ = true := c3
            have hno : ¬ (hasC SML ⟨#[c]⟩ || hasC DIG ⟨#[c]⟩) = true := fun z => by
              rcases (Bool.or_eq_true _ _).mp z with z | z
              · exact c2' z
              · exact c3' z
            rw [eS1, if_neg hno]
            refine ⟨_, rfl, rfl, _, rfl, ?_⟩
            refine ite2 (fun c4 => ?_) (fun c4 => ?_)
            · have hne : ¬ S.2 = ("" : Str) := fun z => by
                rw [z] at c4
                simp at c4
              rw [if_neg hne]
              refine ⟨_, rfl, .inl ⟨rfl, _, SqL.of hl1⟩, _, rfl, _, rfl, _, rfl, small_le (by omega), l, _, _, rfl, rfl, hl1, by rw [List.length_map]; exact small1000 (by omega), ?_⟩
              refine ⟨_, rfl, fun b o e => ?_, ?_⟩
              · rw [upd_ne (ne_of_none e hl)]
                exact s1 _ _ e
              · rw [upd_same, List.map_append]
                rfl
            · have he : S.2 = ("" : Str) := by
                by_cases z : S.2 = ("" : Str)
                · exact z
                · exact absurd (by simpa using fun q : V.str S.2 = V.str ("" : Str) => z (V.str.inj q)) c4
              rw [if_pos he]
              exact ⟨_, rfl, s1, hl1⟩
    · rintro σ H1 ⟨v3, rfl, s1, hl1⟩
      have el : (t ++ (" " : Str)).cps.size = (t ++ (" " : Str)).cps.toList.length := (Array.length_toList).symm
      rw [el, List.take_length] at hl1
      exact ⟨_, rfl, k l H1 hl s1 hl1⟩
end
end Tsf
/-! words.cut, document_of -/
namespace Tsf
open PySem PySem.Spec PyProof.Rows L2
abbrev Ends := List (Str × Int)
def eEnd (e : Str × Int) : PyData := .tuple [.str e.1, .int e.2]
def eEnds (es : Ends) : PyData := .tuple (es.map eEnd)
def bstep (w : Str) (b : Int) (e : Str × Int) : Int := if (Txt.endswith w e.1 && decide (((w.length : Nat) : Int) - ((e.1.length : Nat) : Int) ≥ e.2)) = true then (if ((e.1.length : Nat) : Int) > b then ((e.1.length : Nat) : Int) else b) else b
def bestOf (w : Str) (es : Ends) : Int := es.foldl (bstep w) 0
def cutW (es : Ends) (w : Str) : Str := cutS w none (some (((w.length : Nat) : Int) - bestOf w es))
def docOf (es : Ends) (t : Str) : Doc := (wordsOf t).map (cutW es)
theorem bestOf_snoc (w : Str) (es : Ends) (e : Str × Int) : bestOf w (es ++ [e]) = bstep w (bestOf w es) e := by
  unfold bestOf
  rw [List.foldl_append]
  rfl
theorem docOf_len (es : Ends) {t : Str} (h : PyData.strOk t = true) : (docOf es t).length ≤ t.length + 1 := by
  unfold docOf
  rw [List.length_map]
  exact (wordsOf_inv h).1
section
variable {P : Program} {w : World} {K : PySem.W.Frag} {mg : Str → Option Value} {base : Heap}
def spCut : Sp := fun vs H Q _ => ∃ (x : Str) (ev : V) (es : Ends), vs = [.str x, ev] ∧ Dt H ev (eEnds es) ∧ (∀ e ∈ es, e.1.length ≤ 10) ∧ x.length ≤ 1000 ∧ Q (.str (cutW es x)) H
theorem con_cut (T : Tx K mg) : Con P w K mg base 1 (He.ga K "cut") ["word", "endings"] spCut := by
  obtain ⟨fd, F⟩ := T.d_cut
  refine ⟨fd, F.ok sc_cut (fun vs H Q E h => ?_) (fun cdv A outer s H vs Q E hr h => ?_), F.bindsN fun _ _ _ _ _ _ us hl => match us, hl with | [_, _], _ => rfl, F.kp⟩
  · obtain ⟨x, ev, es, rfl, _⟩ := h
    rfl
  · obtain ⟨x, ev, es, rfl, he, h10, hlen, k⟩ := h
    obtain ⟨ea, exs, rfl, hea, hex⟩ := he.tupN
    have nd := sc_cut.nd
    refine ⟨_, PSs.nox (pss_cons (ps_set (i := 2) nd rfl (.inl rfl) pe_int)
      (pss_cons (ps_for PassesOwn.never rfl (pi_tup (pv 1)) (pg_tup rfl (pgs_cons (pg_name (i := 3) nd rfl (.inl rfl)) (pgs_cons (pg_name (i := 4) nd rfl (.inl rfl)) pgs_nil)))
        (pss_one (ps_if (PW.pt (pw_and (pt_val (pe_m1 PySem.F.slot_str_endswith PySem.F.type_str_endswith mt_endswith (pv 0) (pv 3)))
            (pw_and1 (pt_cmpR op_ge (pe_op op_sub (pe_callB call_len_str (by rfl) T.z_len PySem.boot_len (pa_cons (pv 0) pa_nil)) (pe_callB call_len_str (by rfl) T.z_len PySem.boot_len (pa_cons (pv 3) pa_nil))) (pv 4) (nomark _)))))
          (pss_one (ps_set (i := 2) nd rfl (.inl rfl) (pe_callB (call_max2 rfl) (by rfl) T.z_max (by decide +kernel) (pa_cons (pv 2) (pa_cons (pe_callB call_len_str (by rfl) T.z_len PySem.boot_len (pa_cons (pv 3) pa_nil)) pa_nil))))) pss_nil)))
      (pss_one (ps_ret (pe_slice sl_str (pv 0) po_none (po_some (pe_op op_sub (pe_callB call_len_str (by rfl) T.z_len PySem.boot_len (pa_cons (pv 0) pa_nil)) (pv 2)))))))), ?_⟩
    refine ⟨_, rfl, ea, rfl, ⟨_, SqT.of hea⟩, ?_⟩
    refine for_tup (K := K) (a := ea) (xs := exs) (fun i σ H1 => ∃ v3 v4, σ = [some (.str x), some (.ref ea), some (.int (bestOf x (es.take i))), v3, v4] ∧ H1 = H)
      ⟨none, none, rfl, rfl⟩ (fun i σ H1 _ ⟨_, _, _, e⟩ => by rw [e]; exact SqT.of hea) ?_ ?_
    · rintro i y σ H1 hy ⟨v3, v4, rfl, rfl⟩
      obtain ⟨en, hen, de⟩ := hex.mget hy
      obtain ⟨b, u1, u2, rfl, hb, hu1, hu2⟩ := (show Dt H1 y (.tuple [.str en.1, .int en.2]) from de).t2
      obtain ⟨rfl, _⟩ := hu1.str_inv
      obtain rfl := hu2.int_inv
      refine ⟨b, _, rfl, SqT.of hb, rfl, _, _, rfl, _, _, rfl, rfl, ?_⟩
      have et : bestOf x (es.take (i + 1)) = bstep x (bestOf x (es.take i)) en := by rw [take_snoc hen, bestOf_snoc]
      have eb : bstep x (bestOf x (es.take i)) en = if (Txt.endswith x en.1 && decide (((x.length : Nat) : Int) - ((en.1.length : Nat) : Int) ≥ en.2)) = true then (if ((en.1.length : Nat) : Int) > bestOf x (es.take i) then ((en.1.length : Nat) : Int) else bestOf x (es.take i)) else bestOf x (es.take i) := rfl
      rw [et]
      refine ⟨_, rfl, ⟨_, rfl⟩, _, rfl, x, en.1, rfl, rfl, _, rfl, ?_⟩
      refine ite2 (fun c => ?_) (fun c => ?_)
      · have hel : en.1.length ≤ 1000 := by have := h10 en (List.mem_of_getElem? hen); omega
        refine ⟨_, rfl, x, rfl, small_le hlen, _, rfl, en.1, rfl, small_le hel, _, _, rfl, rfl, _, rfl, _, _, rfl, rfl, _, rfl, ?_⟩
        refine ite2 (fun c2 => ?_) (fun c2 => ?_)
        · rw [if_pos (by rw [c]; exact c2)] at eb
          refine ⟨_, rfl, _, rfl, en.1, rfl, small_le hel, _, _, rfl, ?_⟩
          rw [eb]
          exact ⟨_, _, rfl, rfl⟩
        · rw [if_neg (by rw [c]; exact c2)] at eb
          rw [eb]
          exact ⟨_, _, rfl, rfl⟩
      · rw [if_neg (by rw [Bool.and_eq_true]; exact fun z => c z.1)] at eb
        rw [eb]
        exact iteF ⟨_, _, rfl, rfl⟩
    · rintro σ H1 ⟨v3, v4, rfl, rfl⟩
      rw [hex.length, List.length_map, List.take_length]
      exact ⟨_, rfl, _, rfl, x, rfl, small_le hlen, _, rfl, _, _, rfl, rfl, _, rfl, x, rfl, small_le hlen, k⟩
def spDoc : Sp := fun vs H Q _ => ∃ (t : Str) (ev : V) (es : Ends), vs = [.str t, ev] ∧ Dt H ev (eEnds es) ∧ (∀ e ∈ es, e.1.length ≤ 10) ∧ PyData.strOk t = true ∧ t.length ≤ 60 ∧ ∀ v H', Same H H' → Dt H' v (eDoc (docOf es t)) → Q v H'
theorem wlen_cut (z : Str) (lo hi : Option Int) : (cutS z lo hi).length ≤ z.length := by
  unfold cutS
  show ((z.cps.toList.drop _).take _).toArray.size ≤ z.cps.size
  rw [List.size_toArray, List.length_take, List.length_drop, Array.length_toList]
  omega
theorem wordsOf_short {t : Str} (h : PyData.strOk t = true) : ∀ x ∈ wordsOf t, x.length ≤ t.length + 1 := by
  have key : ∀ l : List Nat, (∀ c ∈ l, c < 0x110000) → ∀ x ∈ (wloop l).1, x.length ≤ l.length := by
    intro l
    induction l using Ts.snoc_ind with
    | h0 => intro _ x hx; exact absurd hx (by simp [wloop])
    | h1 l c ih =>
      intro hl x hx
      have I := winv_loop (l := l) fun x hx => hl x (by simp [hx])
      have ih' := ih fun x hx => hl x (by simp [hx])
      rw [List.length_append, List.length_singleton]
      rw [wloop_snoc] at hx
      unfold wstep at hx
      have old : ∀ x ∈ (wloop l).1, x.length ≤ l.length + 1 := fun x hx => Nat.le_succ_of_le (ih' x hx)
      split at hx
      · exact old x hx
      · split at hx
        · exact old x hx
        · split at hx
          · exact old x hx
          · rcases List.mem_append.mp hx with hx | hx
            · exact old x hx
            · rw [List.mem_singleton.mp hx]
              have h1 := wlen_cut (wloop l).2 none (some 12)
              have h2 := I.count
              omega
  intro x hx
  have h1 := key _ (ok_mem (ok_append h (show PyData.strOk (" " : Str) = true by decide +kernel))) x hx
  have h2 : (t ++ (" " : Str)).cps.toList.length = t.length + 1 := by
    rw [Array.length_toList]
    exact len_append t " "
  omega
theorem con_document_of (T : Tx K mg) : Con P w K mg base 2 (He.ga K "document_of") ["text", "endings"] spDoc := by
  obtain ⟨fd, F⟩ := T.d_document_of
  obtain ⟨fdw, GW, bW, kW⟩ := con_words_of (P := P) (w := w) (base := base) T
  obtain ⟨fdc, GC, bC, kC⟩ := con_cut (P := P) (w := w) (base := base) T
  refine ⟨fd, F.ok sc_document_of (fun vs H Q E h => ?_) (fun cdv A outer s H vs Q E hr h => ?_), F.bindsN fun _ _ _ _ _ _ us hl => match us, hl with | [_, _], _ => rfl, F.kp⟩
  · obtain ⟨t, ev, es, rfl, _⟩ := h
    rfl
  · obtain ⟨t, ev, es, rfl, he, h10, hok, hlen, k⟩ := h
    have nd := sc_document_of.nd
    refine ⟨_, PSs.nox (pss_one (ps_ret (pe_callTy call_tuple_of (by rfl) T.z_tuple (by decide +kernel) (pa_cons
      (pe_lc (own := [("word", 2)]) (g := gName 2) (tt := tYes) rfl nd (pi_list (pe_call GW hr (by rfl) T.g_words_of kW bW .nil pass0 (pa_cons (pv 0) pa_nil))) (blkOk_by (own := [("word", 2)]) (N := ["text", "endings", "word"]) (sc := defScope s_document_of) (by decide +kernel))
              (fun _ _ _ _ _ => pg_name (i := 2) nd rfl (.inl rfl)) (fun _ _ _ _ _ => pts_nil) (fun _ _ _ _ _ => pe_call GC hr (by rfl) T.g_cut kC bC .nil pass0 (pa_cons (pv 2) (pa_cons (pv 1) pa_nil)))) pa_nil)))), ?_⟩
    obtain ⟨hwl, hwo⟩ := wordsOf_inv hok
    have hws := wordsOf_short hok
    refine ⟨_, rfl, t, rfl, hok, by omega, fun q H1 hq s1 hq1 => ?_⟩
    refine ⟨q, rfl, ⟨_, SqL.of hq1⟩, fun D hD => ?_⟩
    refine lc_list (K := K) (a := q) (xs := (wordsOf t).map V.str) (fun i H2 => Same H1 H2 ∧ H2 D = some (.lst ((((wordsOf t).take i).map (cutW es)).map V.str)))
      ⟨same_new hD, upd_same⟩ (fun i H2 _ ⟨s2, _⟩ => SqL.of (s2 _ _ hq1)) ?_ ?_
    · rintro i v H2 hv ⟨s2, hD2⟩
      obtain ⟨x, hx, rfl⟩ : ∃ x, (wordsOf t)[i]? = some x ∧ v = V.str x := by
        rw [List.getElem?_map] at hv
        cases e : (wordsOf t)[i]? with
        | none => rw [e] at hv; cases hv
        | some z => rw [e] at hv; exact ⟨z, rfl, (Option.some.inj hv).symm⟩
      have hxm := List.mem_of_getElem? hx
      have := hws x hxm
      refine ⟨rfl, ?_⟩
      refine ⟨_, rfl, _, rfl, x, ev, es, rfl, he.tk (tk_same (s1.trans s2)), h10, by omega, _, hD2, ?_, fun b o e => ?_, ?_⟩
      · rw [List.length_map, List.length_map, List.length_take]
        exact small1000 (by omega)
      · rw [upd_ne (ne_of_none e hD)]
        exact s2 _ _ e
      · rw [upd_same, take_snoc hx, List.map_append, List.map_append]
        rfl
    · rintro H2 ⟨s2, hD2⟩
      rw [List.length_map, List.take_length] at hD2
      refine ⟨D, _, rfl, .inl ⟨SqL.of hD2, fun p hp => ?_⟩⟩
      refine k _ _ ((s1.trans s2).trans (same_new hp)) (.tup upd_same (dtAll_strs fun y hy => ?_))
      obtain ⟨x, hx, rfl⟩ := List.mem_map.mp hy
      exact ok_cut _ _ (hwo x hx)
end
end Tsf
/-! questions._all_patterns, patterns_of -/
namespace Tsf
open PySem PySem.Spec PyProof.Rows L2
section
variable {P : Program} {w : World} {K : PySem.W.Frag} {mg : Str → Option Value} {base : Heap}
def spAP (n : Nat) : Sp := fun vs H Q _ => ∃ (qv : V) (q : Q_), vs = [qv] ∧ Dt H qv (eQn q) ∧ q.depth < n ∧ q.pats.length ≤ 1000 ∧
  ∀ l H' (xs : List V), H l = none → Same H H' → H' l = some (.lst xs) → DtAll H' xs (q.pats.map ePat) → Q (.ref l) H'
theorem con_all_patterns (T : Tx K mg) : ∀ n, Con P w K mg base n (He.ga K "_all_patterns") ["question"] (spAP n) := by
  intro n
  induction n with
  | zero =>
    obtain ⟨fd, F⟩ := T.d_all_patterns
    exact con_void (F.bindsN fun _ _ _ _ _ _ us hl => match us, hl with | [_], _ => rfl) F.kp fun vs H Q E ⟨_, _, _, _, h, _⟩ => absurd h (Nat.not_lt_zero _)
  | succ n ih =>
    obtain ⟨fd, F⟩ := T.d_all_patterns
    obtain ⟨fdm, GM, bM, kM⟩ := ih
    refine ⟨fd, F.ok sc_all_patterns (fun vs H Q E h => ?_) (fun cdv A outer s H vs Q E hr h => ?_), F.bindsN fun _ _ _ _ _ _ us hl => match us, hl with | [_], _ => rfl, F.kp⟩
    · obtain ⟨qv, q, rfl, _⟩ := h
      rfl
    · obtain ⟨qv, q, rfl, hq, hdep, hlen, k⟩ := h
      have nd := sc_all_patterns.nd
      refine ⟨_, PSs.nox (pss_cons (ps_if (pt_cmpR op_eq (pe_ix ix_tup (pv 0) pe_int (fun _ _ => rfl)) pe_str (nomark _)) (pss_one (ps_ret (pe_callTy call_list_of (by rfl) T.z_list (by decide +kernel) (pa_cons (pe_ix ix_tup (pv 0) pe_int (fun _ _ => rfl)) pa_nil)))) pss_nil)
        (pss_cons (ps_if (pt_cmpR op_eq (pe_ix ix_tup (pv 0) pe_int (fun _ _ => rfl)) pe_str (nomark _)) (pss_one (ps_ret (pe_call GM hr (by rfl) T.g_all_patterns kM bM .nil pass0 (pa_cons (pe_ix ix_tup (pv 0) pe_int (fun _ _ => rfl)) pa_nil)))) pss_nil)
        (pss_cons (ps_set (i := 1) nd rfl (.inl rfl) (pe_lst pa_nil))
        (pss_cons (ps_if (pt_cmpR op_in_seq (pe_ix ix_tup (pv 0) pe_int (fun _ _ => rfl)) (pe_tup (pa_cons pe_str (pa_cons pe_str pa_nil))) (by rfl))
          (pss_one (ps_for PassesOwn.never rfl (pi_tup (pe_ix ix_tup (pv 0) pe_int (fun _ _ => rfl))) (pg_name (i := 2) nd rfl (.inl rfl))
            (pss_one (ps_expr (pe_bm PySem.F.plainAttrs_list PySem.F.slot_list_extend PySem.F.type_list_extend mt_extend (pv 1) (pa_cons (pe_call GM hr (by rfl) T.g_all_patterns kM bM .nil pass0 (pa_cons (pv 2) pa_nil)) pa_nil)))))) pss_nil)
        (pss_one (ps_ret (pv 1))))))), ?_⟩
      have two : ∀ (a b : Q_) (ra pa : Addr) (va vb : V) (kw : Str), (kw = "and" ∨ kw = "or") → H ra = some (.tup [.str kw, .ref pa]) → H pa = some (.tup [va, vb]) → Dt H va (eQn a) → Dt H vb (eQn b) → a.depth < n ∧ b.depth < n → a.pats.length + b.pats.length ≤ 1000 →
          (∀ l H' (xs : List V), H l = none → Same H H' → H' l = some (.lst xs) → DtAll H' xs ((a.pats ++ b.pats).map ePat) → Q (.ref l) H') → True := fun _ _ _ _ _ _ _ _ _ _ _ _ _ _ _ => trivial
      cases q with
      | row ps g =>
        obtain ⟨ra, u1, u2, u3, rfl, hra, hu1, hu2, hu3⟩ := (show Dt H qv (.tuple [.str "row", .tuple (ps.map ePat), .int g]) from hq).t3
        obtain ⟨rfl, _⟩ := hu1.str_inv
        obtain ⟨pa, pvs, rfl, hpa, hpv⟩ := hu2.tupN
        refine ⟨_, rfl, ra, _, _, _, rfl, rfl, SqT.of hra, atI_nat (j := 0) rfl, rfl, _, rfl, ite_eq' ?_⟩
        refine ⟨_, rfl, ra, _, _, _, rfl, rfl, SqT.of hra, atI_nat (j := 1) rfl, pa, pvs, rfl, .inr (SqT.of hpa), fun l hl => ?_⟩
        exact k l _ pvs hl (same_new hl) upd_same (hpv.tk (tk_new hl))
      | all =>
        obtain ⟨ra, u1, rfl, hra, hu1⟩ := (show Dt H qv (.tuple [.str "all"]) from hq).t1
        obtain ⟨rfl, _⟩ := hu1.str_inv
        refine ⟨_, rfl, ra, _, _, _, rfl, rfl, SqT.of hra, atI_nat (j := 0) rfl, rfl, _, rfl, ite_ne (by decide +kernel) ?_⟩
        refine ⟨_, rfl, ra, _, _, _, rfl, rfl, SqT.of hra, atI_nat (j := 0) rfl, rfl, _, rfl, ite_ne (by decide +kernel) ?_⟩
        refine ⟨Nat.zero_le _, fun l hl => ?_⟩
        refine ⟨_, rfl, ra, _, _, _, rfl, rfl, SqT.of (same_new hl _ _ hra), atI_nat (j := 0) rfl, (by show 2 ≤ sizeLine; decide), fun t ht => ?_⟩
        refine ⟨t, _, rfl, .inr (SqT.of upd_same), rfl, rfl, _, rfl, ?_⟩
        refine iteN (by decide +kernel) ?_
        exact ⟨_, rfl, k l _ [] hl ((same_new hl).trans (same_new ht)) (same_new ht _ _ upd_same) .nil⟩
      | not q =>
        obtain ⟨ra, u1, u2, rfl, hra, hu1, hu2⟩ := (show Dt H qv (.tuple [.str "not", eQn q]) from hq).t2
        obtain ⟨rfl, _⟩ := hu1.str_inv
        refine ⟨_, rfl, ra, _, _, _, rfl, rfl, SqT.of hra, atI_nat (j := 0) rfl, rfl, _, rfl, ite_ne (by decide +kernel) ?_⟩
        refine ⟨_, rfl, ra, _, _, _, rfl, rfl, SqT.of hra, atI_nat (j := 0) rfl, rfl, _, rfl, ite_eq' ?_⟩
        have hdq : q.depth < n := Nat.lt_of_succ_lt_succ hdep
        exact ⟨_, rfl, ra, _, _, _, rfl, rfl, SqT.of hra, atI_nat (j := 1) rfl, u2, q, rfl, hu2, hdq, hlen, fun l H' xs a b c d => k l H' xs a b c d⟩
      | and a b =>
        obtain ⟨ra, u1, u2, rfl, hra, hu1, hu2⟩ := (show Dt H qv (.tuple [.str "and", .tuple [eQn a, eQn b]]) from hq).t2
        obtain ⟨rfl, _⟩ := hu1.str_inv
        obtain ⟨pa, va, vb, rfl, hpa, hva, hvb⟩ := hu2.t2
        have hda : a.depth < n ∧ b.depth < n := by
          have h1 : max a.depth b.depth + 1 < n + 1 := hdep
          omega
        have hqs : DtAll H [va, vb] ([a, b].map eQn) := .cons hva (.cons hvb .nil)
        have hpl : a.pats.length + b.pats.length ≤ 1000 := by
          have h1 : (a.pats ++ b.pats).length ≤ 1000 := hlen
          rwa [List.length_append] at h1
        have hall : ∀ q ∈ [a, b], q.depth < n ∧ q.pats.length ≤ 1000 := fun q hq => by
          rcases List.mem_cons.mp hq with rfl | hq
          · exact ⟨hda.1, by omega⟩
          · rw [List.mem_singleton.mp hq]
            exact ⟨hda.2, by omega⟩
        refine ⟨_, rfl, ra, _, _, _, rfl, rfl, SqT.of hra, atI_nat (j := 0) rfl, rfl, _, rfl, ite_ne (by decide +kernel) ?_⟩
        refine ⟨_, rfl, ra, _, _, _, rfl, rfl, SqT.of hra, atI_nat (j := 0) rfl, rfl, _, rfl, ite_ne (by decide +kernel) ?_⟩
        refine ⟨Nat.zero_le _, fun l hl => ?_⟩
        refine ⟨_, rfl, ra, _, _, _, rfl, rfl, SqT.of (same_new hl _ _ hra), atI_nat (j := 0) rfl, (by show 2 ≤ sizeLine; decide), fun t ht => ?_⟩
        refine ⟨t, _, rfl, .inr (SqT.of upd_same), rfl, rfl, _, rfl, ?_⟩
        refine iteY (by decide +kernel) ?_
        have s0 : Same H _ := (same_new (o := .lst []) hl).trans (same_new (o := .tup [V.str ("and" : Str), V.str ("or" : Str)]) ht)
        refine ⟨_, rfl, ra, _, _, _, rfl, rfl, SqT.of (s0 _ _ hra), atI_nat (j := 1) rfl, pa, rfl, ⟨_, SqT.of (s0 _ _ hpa)⟩, ?_⟩
        refine for_tup (K := K) (a := pa) (xs := [va, vb]) (fun i σ H1 => ∃ v2 acc, σ = [some (.ref ra), some (.ref l), v2] ∧ Same H H1 ∧ H1 l = some (.lst acc) ∧ DtAll H1 acc ((([a, b].take i).flatMap Ts.Qn.pats).map ePat))
          ⟨none, [], rfl, s0, same_new ht _ _ upd_same, .nil⟩ (fun i σ H1 _ ⟨_, _, _, s1, _⟩ => SqT.of (s1 _ _ hpa)) ?_ ?_
        · rintro i x σ H1 hx ⟨v2, acc, rfl, s1, hl1, da⟩
          obtain ⟨q, hqi, dq⟩ := hqs.mget hx
          obtain ⟨f1, f2⟩ := hall q (List.mem_of_getElem? hqi)
          refine ⟨_, rfl, .inl ⟨rfl, _, SqL.of hl1⟩, _, rfl, x, q, rfl, dq.tk (tk_same s1), f1, f2, fun l2 H2 xs hl2 s2 h2 d2 => ?_⟩
          have n2 : l ≠ l2 := ne_of_none hl1 hl2
          have hsz : acc.length + xs.length ≤ 1000 := by
            have e1 : acc.length = (([a, b].take i).flatMap Ts.Qn.pats).length := by rw [da.length, List.length_map]
            have e2 : xs.length = q.pats.length := by rw [d2.length, List.length_map]
            rw [e1, e2]
            match i, hqi with
            | 0, hqi =>
              cases hqi
              show 0 + a.pats.length ≤ 1000
              omega
            | 1, hqi =>
              cases hqi
              show (a.pats ++ []).length + b.pats.length ≤ 1000
              rw [List.append_nil]
              exact hpl
            | i + 2, hqi => simp at hqi
          refine ⟨l, l2, acc, xs, rfl, rfl, s2 _ _ hl1, h2, small_le hsz, ?_⟩
          have tk : Tk H1 (upd H2 l (.lst (acc ++ xs))) := (tk_same s2).trans (tk_put (s2 _ _ hl1) fun xs z => nomatch z)
          have tk2 : Tk H2 (upd H2 l (.lst (acc ++ xs))) := tk_put (s2 _ _ hl1) fun xs z => nomatch z
          refine ⟨_, acc ++ xs, rfl, fun b' o e => ?_, upd_same, ?_⟩
          · rw [upd_ne (ne_of_none e hl)]
            exact s2 _ _ (s1 _ _ e)
          · rw [take_snoc hqi, List.flatMap_append, List.map_append]
            refine (da.tk tk).append ?_
            have e : [q].flatMap Ts.Qn.pats = q.pats := by simp
            rw [e]
            exact d2.tk tk2
        · rintro σ H1 ⟨v2, acc, rfl, s1, hl1, da⟩
          have e : (([a, b].take 2).flatMap Ts.Qn.pats) = a.pats ++ b.pats := by simp
          refine ⟨_, rfl, k l H1 acc hl s1 hl1 ?_⟩
          show DtAll H1 acc ((a.pats ++ b.pats).map ePat)
          rw [← e]
          exact da
      | or a b =>
        obtain ⟨ra, u1, u2, rfl, hra, hu1, hu2⟩ := (show Dt H qv (.tuple [.str "or", .tuple [eQn a, eQn b]]) from hq).t2
        obtain ⟨rfl, _⟩ := hu1.str_inv
        obtain ⟨pa, va, vb, rfl, hpa, hva, hvb⟩ := hu2.t2
        have hda : a.depth < n ∧ b.depth < n := by
          have h1 : max a.depth b.depth + 1 < n + 1 := hdep
          omega
        have hqs : DtAll H [va, vb] ([a, b].map eQn) := .cons hva (.cons hvb .nil)
        have hpl : a.pats.length + b.pats.length ≤ 1000 := by
          have h1 : (a.pats ++ b.pats).length ≤ 1000 := hlen
          rwa [List.length_append] at h1
        have hall : ∀ q ∈ [a, b], q.depth < n ∧ q.pats.length ≤ 1000 := fun q hq => by
          rcases List.mem_cons.mp hq with rfl | hq
          · exact ⟨hda.1, by omega⟩
          · rw [List.mem_singleton.mp hq]
            exact ⟨hda.2, by omega⟩
        refine ⟨_, rfl, ra, _, _, _, rfl, rfl, SqT.of hra, atI_nat (j := 0) rfl, rfl, _, rfl, ite_ne (by decide +kernel) ?_⟩
        refine ⟨_, rfl, ra, _, _, _, rfl, rfl, SqT.of hra, atI_nat (j := 0) rfl, rfl, _, rfl, ite_ne (by decide +kernel) ?_⟩
        refine ⟨Nat.zero_le _, fun l hl => ?_⟩
        refine ⟨_, rfl, ra, _, _, _, rfl, rfl, SqT.of (same_new hl _ _ hra), atI_nat (j := 0) rfl, (by show 2 ≤ sizeLine; decide), fun t ht => ?_⟩
        refine ⟨t, _, rfl, .inr (SqT.of upd_same), rfl, rfl, _, rfl, ?_⟩
        refine iteY (by decide +kernel) ?_
        have s0 : Same H _ := (same_new (o := .lst []) hl).trans (same_new (o := .tup [V.str ("and" : Str), V.str ("or" : Str)]) ht)
        refine ⟨_, rfl, ra, _, _, _, rfl, rfl, SqT.of (s0 _ _ hra), atI_nat (j := 1) rfl, pa, rfl, ⟨_, SqT.of (s0 _ _ hpa)⟩, ?_⟩
        refine for_tup (K := K) (a := pa) (xs := [va, vb]) (fun i σ H1 => ∃ v2 acc, σ = [some (.ref ra), some (.ref l), v2] ∧ Same H H1 ∧ H1 l = some (.lst acc) ∧ DtAll H1 acc ((([a, b].take i).flatMap Ts.Qn.pats).map ePat))
          ⟨none, [], rfl, s0, same_new ht _ _ upd_same, .nil⟩ (fun i σ H1 _ ⟨_, _, _, s1, _⟩ => SqT.of (s1 _ _ hpa)) ?_ ?_
        · rintro i x σ H1 hx ⟨v2, acc, rfl, s1, hl1, da⟩
          obtain ⟨q, hqi, dq⟩ := hqs.mget hx
          obtain ⟨f1, f2⟩ := hall q (List.mem_of_getElem? hqi)
          refine ⟨_, rfl, .inl ⟨rfl, _, SqL.of hl1⟩, _, rfl, x, q, rfl, dq.tk (tk_same s1), f1, f2, fun l2 H2 xs hl2 s2 h2 d2 => ?_⟩
          have n2 : l ≠ l2 := ne_of_none hl1 hl2
          have hsz : acc.length + xs.length ≤ 1000 := by
            have e1 : acc.length = (([a, b].take i).flatMap Ts.Qn.pats).length := by rw [da.length, List.length_map]
            have e2 : xs.length = q.pats.length := by rw [d2.length, List.length_map]
            rw [e1, e2]
            match i, hqi with
            | 0, hqi =>
              cases hqi
              show 0 + a.pats.length ≤ 1000
              omega
            | 1, hqi =>
              cases hqi
              show (a.pats ++ []).length + b.pats.length ≤ 1000
              rw [List.append_nil]
              exact hpl
            | i + 2, hqi => simp at hqi
          refine ⟨l, l2, acc, xs, rfl, rfl, s2 _ _ hl1, h2, small_le hsz, ?_⟩
          have tk : Tk H1 (upd H2 l (.lst (acc ++ xs))) := (tk_same s2).trans (tk_put (s2 _ _ hl1) fun xs z => nomatch z)
          have tk2 : Tk H2 (upd H2 l (.lst (acc ++ xs))) := tk_put (s2 _ _ hl1) fun xs z => nomatch z
          refine ⟨_, acc ++ xs, rfl, fun b' o e => ?_, upd_same, ?_⟩
          · rw [upd_ne (ne_of_none e hl)]
            exact s2 _ _ (s1 _ _ e)
          · rw [take_snoc hqi, List.flatMap_append, List.map_append]
            refine (da.tk tk).append ?_
            have e : [q].flatMap Ts.Qn.pats = q.pats := by simp
            rw [e]
            exact d2.tk tk2
        · rintro σ H1 ⟨v2, acc, rfl, s1, hl1, da⟩
          have e : (([a, b].take 2).flatMap Ts.Qn.pats) = a.pats ++ b.pats := by simp
          refine ⟨_, rfl, k l H1 acc hl s1 hl1 ?_⟩
          show DtAll H1 acc ((a.pats ++ b.pats).map ePat)
          rw [← e]
          exact da
def spPO (n : Nat) : Sp := fun vs H Q _ => ∃ (qv : V) (q : Q_), vs = [qv] ∧ Dt H qv (eQn q) ∧ q.depth < n ∧ q.pats.length ≤ 1000 ∧
  ∀ l H' (xs : List V) (pl : List Pat), H l = none → Same H H' → H' l = some (.lst xs) → DtAll H' xs (pl.map ePat) → (∀ p, p ∈ pl ↔ p ∈ q.pats) → pl.length ≤ q.pats.length → Q (.ref l) H'
theorem con_patterns_of (T : Tx K mg) (n : Nat) : Con P w K mg base (n + 1) (He.ga K "patterns_of") ["question"] (spPO n) := by
  obtain ⟨fd, F⟩ := T.d_patterns_of
  obtain ⟨fdm, GM, bM, kM⟩ := con_all_patterns (P := P) (w := w) (base := base) T n
  refine ⟨fd, F.ok sc_patterns_of (fun vs H Q E h => ?_) (fun cdv A outer s H vs Q E hr h => ?_), F.bindsN fun _ _ _ _ _ _ us hl => match us, hl with | [_], _ => rfl, F.kp⟩
  · obtain ⟨qv, q, rfl, _⟩ := h
    rfl
  · obtain ⟨qv, q, rfl, hq, hdep, hlen, k⟩ := h
    have nd := sc_patterns_of.nd
    refine ⟨_, PSs.nox (pss_cons (ps_set (i := 1) nd rfl (.inl rfl) (pe_lst pa_nil))
      (pss_cons (ps_for PassesOwn.never rfl (pi_list (pe_callB (cr_sortT (Room.u70 hr)) (by rfl) T.z_sorted (by decide +kernel) (pa_cons (pe_call GM hr (by rfl) T.g_all_patterns kM bM .nil pass0 (pa_cons (pv 0) pa_nil)) pa_nil))) (pg_name (i := 2) nd rfl (.inl rfl))
        (pss_one (ps_if (PW.pt (pw_or (pt_cmpR op_eq (pe_callB call_len_seq (by rfl) T.z_len PySem.boot_len (pa_cons (pv 1) pa_nil)) pe_int (nomark _)) (pw_or1 (pt_cmpR (op_neT (Room.u64 hr)) (pe_ix ix_list (pv 1) (pe_un un_neg pe_int) (fun _ _ => rfl)) (pv 2) (nomark _)))))
          (pss_one (ps_expr (pe_bm PySem.F.plainAttrs_list PySem.F.slot_list_append PySem.F.type_list_append mt_append (pv 1) (pa_cons (pv 2) pa_nil)))) pss_nil)))
      (pss_one (ps_ret (pv 1))))), ?_⟩
    refine ⟨Nat.zero_le _, fun l hl => ?_⟩
    have s0 : Same H (upd H l (.lst [])) := same_new hl
    refine ⟨_, rfl, qv, q, rfl, hq.tk (tk_same s0), hdep, hlen, fun l2 H2 xs hl2 s2 h2 d2 => ?_⟩
    have n2 : l ≠ l2 := ne_of_none (upd_same (H := H) (a := l) (o := .lst [])) hl2
    refine ⟨l2, xs, _, ltD, rfl, SqL.of h2, d2, ltOk_pat _, fun ys es l3 dy hp _ hl3 => ?_⟩
    obtain ⟨pl, rfl, hpl⟩ := perm_map (fun x y => ePat_inj) hp
    have s3 : Same H (upd H2 l3 (.lst ys)) := (s0.trans s2).trans (same_new hl3)
    have hl' : H2 l = some (.lst []) := s2 _ _ upd_same
    have n3 : l ≠ l3 := ne_of_none hl' hl3
    have dy3 := dy.tk (tk_new (o := .lst ys) hl3)
    refine ⟨l3, rfl, ⟨_, SqL.of upd_same⟩, ?_⟩
    refine for_list (K := K) (a := l3) (xs := ys) (fun i σ H1 => ∃ (v2 : Option V) (acc : List V) (fl : List Pat), σ = [some qv, some (.ref l), v2] ∧ (∀ b o, b ≠ l → upd H2 l3 (.lst ys) b = some o → H1 b = some o) ∧ H1 l = some (.lst acc) ∧ DtAll H1 acc (fl.map ePat) ∧ (∀ p, p ∈ fl ↔ p ∈ pl.take i) ∧ fl.length ≤ i)
      ⟨none, [], [], rfl, fun b o _ e => e, by rw [upd_ne n3]; exact hl', .nil, fun p => by simp, Nat.le_refl _⟩ (fun i σ H1 _ ⟨_, _, _, _, s1, _⟩ => SqL.of (s1 _ _ n3.symm upd_same)) ?_ ?_
    · rintro i x σ H1 hx ⟨v2, acc, fl, rfl, s1, hl1, da, hm, hfl⟩
      obtain ⟨p, hpi, dp⟩ := dy3.mget hx
      have hi : i < pl.length := (List.getElem?_eq_some_iff.mp hpi).1
      have tk1 : Tk (upd H2 l3 (.lst ys)) H1 := fun b zs e => s1 b _ (fun z => by rw [z, upd_ne n3, hl'] at e; cases e) e
      have hsz : acc.length ≤ 1000 := by
        have := hpl.length_eq
        rw [da.length, List.length_map]
        omega
      have grow : ∃ (v2 : Option V) (acc' : List V) (fl' : List Pat), [some qv, some (V.ref l), some x] = [some qv, some (V.ref l), v2] ∧ (∀ b o, b ≠ l → upd H2 l3 (.lst ys) b = some o → upd H1 l (.lst (acc ++ [x])) b = some o) ∧ upd H1 l (.lst (acc ++ [x])) l = some (.lst acc') ∧ DtAll (upd H1 l (.lst (acc ++ [x]))) acc' (fl'.map ePat) ∧ (∀ p, p ∈ fl' ↔ p ∈ pl.take (i + 1)) ∧ fl'.length ≤ i + 1 := by
        have tk : Tk H1 (upd H1 l (.lst (acc ++ [x]))) := tk_put hl1 fun xs z => nomatch z
        refine ⟨_, acc ++ [x], fl ++ [p], rfl, fun b o hb e => by rw [upd_ne hb]; exact s1 b o hb e, upd_same, ?_, fun p' => ?_, ?_⟩
        · rw [List.map_append]
          exact (da.tk tk).append (.cons ((dp.tk tk1).tk tk) .nil)
        · rw [take_snoc hpi, List.mem_append, List.mem_append, hm]
        · rw [List.length_append, List.length_singleton]; omega
      refine ⟨_, rfl, l, acc, rfl, .inl (SqL.of hl1), rfl, _, rfl, ?_⟩
      refine ite2 (fun c => ?_) (fun c => ?_)
      · exact ⟨_, rfl, .inl ⟨rfl, _, SqL.of hl1⟩, _, rfl, l, acc, x, rfl, rfl, hl1, small1000 hsz, grow⟩
      · rcases List.eq_nil_or_concat fl with rfl | ⟨fl', p', rfl⟩
        · have : acc.length = 0 := by rw [da.length]; rfl
          rw [this] at c
          exact absurd (by decide) c
        · rw [List.concat_eq_append] at da hm hfl
          have hal : acc.length = fl'.length + 1 := by rw [da.length, List.length_map, List.length_append]; rfl
          obtain ⟨v', hv', dv'⟩ := da.mat (x := p') (i := fl'.length) (by simp)
          have hat : atI acc (-1) = some v' := by
            unfold atI ixN
            rw [if_neg (by omega), if_pos (by omega)]
            have : ((-1 : Int) + (acc.length : Nat)).toNat = fl'.length := by omega
            rw [this]
            exact hv'
          refine ⟨_, rfl, 1, rfl, l, acc, -1, v', rfl, rfl, SqL.of hl1, hat, _, rfl, _, _, dv', dp.tk tk1, Nat.le_trans (depth_pat p') (by decide), Nat.le_trans (depth_pat p) (by decide), _, rfl, ?_⟩
          refine ite2 (fun c2 => ?_) (fun c2 => ?_)
          · exact ⟨_, rfl, .inl ⟨rfl, _, SqL.of hl1⟩, _, rfl, l, acc, x, rfl, rfl, hl1, small1000 hsz, grow⟩
          · have e : PyData.eqv (ePat p') (ePat p) = true := by
              cases z : PyData.eqv (ePat p') (ePat p) with
              | true => rfl
              | false => rw [z] at c2; exact absurd rfl c2
            have e2 : p' = p := ePat_inj ((eqv_iff dv' (dp.tk tk1)).mp e)
            refine ⟨_, acc, fl' ++ [p'], rfl, s1, hl1, da, fun p2 => ?_, by omega⟩
            rw [take_snoc hpi]
            refine Iff.trans ?_ List.mem_append.symm
            rw [← hm, List.mem_singleton]
            constructor
            · exact .inl
            · rintro (h | h)
              · exact h
              · rw [h, ← e2]; simp
    · rintro σ H1 ⟨v2, acc, fl, rfl, s1, hl1, da, hm, hfl⟩
      have el : ys.length = pl.length := by rw [dy.length, List.length_map]
      rw [el, List.take_length] at hm
      rw [el] at hfl
      refine ⟨_, rfl, k l H1 acc fl hl (fun b o e => s1 b o (ne_of_none e hl) (s3 _ _ e)) hl1 da (fun p => by rw [hm]; exact hpl.mem_iff) (by rw [← hpl.length_eq]; exact hfl)⟩
end
end Tsf
/-! changes._is_key, _is_text, check_change -/
namespace Tsf
open PySem PySem.Spec PyProof.Rows L2
def okKey (k : Str) : Prop := 1 ≤ k.length ∧ k.length ≤ 8 ∧ ∀ c ∈ k.cps.toList, c ∈ (SML ++ DIG).cps.toList
def okText (t : Str) : Prop := t.length ≤ 60 ∧ ∀ c ∈ t.cps.toList, c = 10 ∨ (32 ≤ c ∧ c ≤ 126 ∧ c ≠ 37)
def okTxt : Option Str → Prop
  | none => True
  | some t => okText t
theorem okText.str {t : Str} (h : okText t) : PyData.strOk t = true := by
  show t.cps.all (· < 0x110000) = true
  rw [← Array.all_toList, List.all_eq_true]
  intro c hc
  rcases h.2 c hc with e | ⟨_, e, _⟩ <;> simp <;> omega
theorem okKey.str {t : Str} (h : okKey t) : PyData.strOk t = true := by
  show t.cps.all (· < 0x110000) = true
  rw [← Array.all_toList, List.all_eq_true]
  intro c hc
  have key : ∀ c ∈ (SML ++ DIG).cps.toList, decide (c < 0x110000) = true := by decide +kernel
  exact key c (h.2.2 c hc)
theorem all_rep (n : Nat) : ((List.replicate n true).all id) = true := by
  rw [List.all_eq_true]
  intro x hx
  rw [(List.mem_replicate.mp hx).2]
  rfl
section
variable {P : Program} {w : World} {K : PySem.W.Frag} {mg : Str → Option Value} {base : Heap}
def spKey : Sp := fun vs H Q _ => ∃ k : Str, vs = [.str k] ∧ okKey k ∧ ∀ H', Same H H' → Q (.bl true) H'
theorem con_is_key (T : Tx K mg) : Con P w K mg base 1 (He.ga K "_is_key") ["key"] spKey := by
  obtain ⟨fd, F⟩ := T.d_is_key
  refine ⟨fd, F.ok sc_is_key (fun vs H Q E h => ?_) (fun cdv A outer s H vs Q E hr h => ?_), F.bindsN fun _ _ _ _ _ _ us hl => match us, hl with | [_], _ => rfl, F.kp⟩
  · obtain ⟨k, rfl, _⟩ := h
    rfl
  · obtain ⟨key, rfl, hok, k⟩ := h
    have nd := sc_is_key.nd
    refine ⟨_, PSs.nox (pss_cons (ps_if (PW.pt (pw_or (pt_not (pt_val (pe_callB call_isi (by rfl) T.z_isinstance (by decide +kernel) (pa_cons (pv 0) (pa_cons (pe_bltn (v := .ty "str") (by rfl) T.z_str (by decide +kernel) rfl) pa_nil)))))
        (pw_or (pt_cmpR op_lt (pe_callB call_len_str (by rfl) T.z_len PySem.boot_len (pa_cons (pv 0) pa_nil)) pe_int (nomark _)) (pw_or1 (pt_cmpR op_gt (pe_callB call_len_str (by rfl) T.z_len PySem.boot_len (pa_cons (pv 0) pa_nil)) (C8.pe_gc (by rfl) (gcI T.i_MOST_KEY)) (nomark _)))))) (pss_one ps_never) pss_nil)
      (pss_one (ps_ret (pe_callB (cr_all rfl) (by rfl) T.z_all (by decide +kernel) (pa_cons
            (pe_lc (own := [("char", 1)]) (g := gName 1) (tt := tYes) rfl nd (pi_str (pv 0)) (blkOk_by (own := [("char", 1)]) (N := ["key", "char"]) (sc := defScope s_is_key) (by decide +kernel))
              (fun _ _ _ _ _ => pg_name (i := 1) nd rfl (.inl rfl)) (fun _ _ _ _ _ => pts_nil) (fun _ _ _ _ _ => pe_cmpR op_in_sign (pv 1) (pe_op op_add_str (C8.pe_gc (by rfl) (gcS T.i_SMALLS)) (C8.pe_gc (by rfl) (gcS T.i_DIGITS))) (by rfl))) pa_nil))))), ?_⟩
    obtain ⟨h1, h2, h3⟩ := hok
    refine ⟨_, rfl, _, _, _, _, true, rfl, .ty _, .base (.str _), kit_ty (by decide +kernel), _, rfl, ?_⟩
    refine iteF ?_
    refine ⟨_, rfl, key, rfl, small_le (by omega), _, _, rfl, rfl, _, rfl, ?_⟩
    refine iteN (decide_eq_false (by omega)) ?_
    refine ⟨_, rfl, key, rfl, small_le (by omega), _, _, rfl, rfl, _, rfl, ?_⟩
    refine iteN (decide_eq_false (by omega)) ?_
    refine ⟨_, rfl, key, rfl, fun D hD => ?_⟩
    refine lc_it walk_str (fun i H1 => Same H H1 ∧ H1 D = some (.lst ((List.replicate i true).map V.bl)) ∧ i ≤ 8 + 1) ⟨same_new hD, upd_same, by omega⟩ (fun i H1 _ _ => trivial) ?_ ?_
    · rintro i x H1 H2 hi ⟨s1, hD1, _⟩ ⟨rfl, c, hc, rfl⟩
      have hi8 : i < 8 := by
        have : key.cps.size ≤ 8 := h2
        omega
      have hcm : c ∈ (SML ++ DIG).cps.toList := h3 c (List.mem_of_getElem? (by rw [Array.getElem?_toList]; exact hc))
      refine ⟨rfl, ?_⟩
      refine ⟨_, rfl, _, _, rfl, rfl, (by decide +kernel), c, _, rfl, rfl, _, hD1, ?_, fun b o e => ?_, ?_, by omega⟩
      · rw [List.length_map, List.length_replicate]
        exact small1000 (by omega)
      · rw [upd_ne (ne_of_none e hD)]
        exact s1 _ _ e
      · have e : decide (c ∈ (SML ++ DIG).cps.toList) = true := decide_eq_true hcm
        rw [upd_same]
        show some (HO.lst ((List.replicate i true).map V.bl ++ [V.bl (decide (c ∈ (SML ++ DIG).cps.toList))])) = _
        rw [e, List.replicate_succ', List.map_append]
        rfl
    · rintro H1 ⟨s1, hD1, _⟩
      refine ⟨D, _, rfl, SqL.of hD1, ?_⟩
      rw [all_rep]
      exact k H1 s1
def oS : Option Str → V
  | none => .non
  | some t => .str t
theorem Dt.txt_inv {H : Hp} {v : V} {o : Option Str} (h : Dt H v (eTxt o)) : v = oS o := by
  cases o with
  | none => exact h.non_inv
  | some z => exact h.str_inv.1
theorem dt_txt {H : Hp} {o : Option Str} (h : okTxt o) : Dt H (oS o) (eTxt o) := by
  cases o with
  | none => exact .non
  | some z => exact .str z (okText.str h)
def spText : Sp := fun vs H Q _ => ∃ t : Option Str, vs = [oS t] ∧ okTxt t ∧ ∀ H', Same H H' → Q (.bl true) H'
theorem con_is_text (T : Tx K mg) : Con P w K mg base 1 (He.ga K "_is_text") ["text"] spText := by
  obtain ⟨fd, F⟩ := T.d_is_text
  refine ⟨fd, F.ok sc_is_text (fun vs H Q E h => ?_) (fun cdv A outer s H vs Q E hr h => ?_), F.bindsN fun _ _ _ _ _ _ us hl => match us, hl with | [_], _ => rfl, F.kp⟩
  · obtain ⟨k, rfl, _⟩ := h
    rfl
  · obtain ⟨t, rfl, hok, k⟩ := h
    have nd := sc_is_text.nd
    refine ⟨_, PSs.nox (pss_cons (ps_if (pt_cmpR op_isN (pv 0) pe_non (nomark _)) (pss_one (ps_ret pe_bl)) pss_nil)
      (pss_cons (ps_if (PW.pt (pw_or (pt_not (pt_val (pe_callB call_isi (by rfl) T.z_isinstance (by decide +kernel) (pa_cons (pv 0) (pa_cons (pe_bltn (v := .ty "str") (by rfl) T.z_str (by decide +kernel) rfl) pa_nil)))))
        (pw_or1 (pt_cmpR op_gt (pe_callB call_len_str (by rfl) T.z_len PySem.boot_len (pa_cons (pv 0) pa_nil)) (C8.pe_gc (by rfl) (gcI T.i_MOST_TEXT)) (nomark _))))) (pss_one ps_never) pss_nil)
      (pss_one (ps_ret (pe_callB (cr_all rfl) (by rfl) T.z_all (by decide +kernel) (pa_cons
            (pe_lc (own := [("char", 1)]) (g := gName 1) (tt := tYes) rfl nd (pi_str (pv 0)) (blkOk_by (own := [("char", 1)]) (N := ["text", "char"]) (sc := defScope s_is_text) (by decide +kernel))
              (fun _ _ _ _ _ => pg_name (i := 1) nd rfl (.inl rfl)) (fun _ _ _ _ _ => pts_nil) (fun _ _ _ _ _ => pe_or (pe_cmpR op_eq (pv 1) pe_str (nomark _)) (pe_one (pe_and (pe_cmpR op_le_str pe_str (pv 1) (nomark _)) (pe_and (pe_cmpR op_le_str (pv 1) pe_str (nomark _)) (pe_one (pe_cmpR op_ne (pe_callB call_ord (by rfl) T.z_ord (by decide +kernel) (pa_cons (pv 1) pa_nil)) pe_int (nomark _)))))))) pa_nil)))))), ?_⟩
    cases t with
    | none =>
      refine ⟨_, rfl, rfl, _, rfl, ?_⟩
      exact k H (Same.refl H)
    | some t =>
      obtain ⟨h1, h2⟩ := (show okText t from hok)
      refine ⟨_, rfl, rfl, _, rfl, ?_⟩
      refine iteN (by simp [oS]) ?_
      refine ⟨_, rfl, _, _, _, _, true, rfl, .ty _, .base (.str _), kit_ty (by decide +kernel), _, rfl, ?_⟩
      refine iteF ?_
      refine ⟨_, rfl, t, rfl, small_le (by omega), _, _, rfl, rfl, _, rfl, ?_⟩
      refine iteN (decide_eq_false (by omega)) ?_
      refine ⟨_, rfl, t, rfl, fun D hD => ?_⟩
      refine lc_it walk_str (fun i H1 => Same H H1 ∧ H1 D = some (.lst ((List.replicate i true).map V.bl)) ∧ i ≤ 60 + 1) ⟨same_new hD, upd_same, by omega⟩ (fun i H1 _ _ => trivial) ?_ ?_
      · rintro i x H1 H2 hi ⟨s1, hD1, _⟩ ⟨rfl, c, hc, rfl⟩
        have hi8 : i < 60 := by
          have : t.cps.size ≤ 60 := h1
          omega
        have hcm := h2 c (List.mem_of_getElem? (by rw [Array.getElem?_toList]; exact hc))
        have done : ∀ b : Bool, b = true → ∃ acc, H2 D = some (.lst acc) ∧ acc.length < sizeLine ∧ Same H (upd H2 D (.lst (acc ++ [V.bl b]))) ∧ upd H2 D (.lst (acc ++ [V.bl b])) D = some (.lst ((List.replicate (i + 1) true).map V.bl)) ∧ i + 1 ≤ 60 + 1 := by
          rintro b rfl
          refine ⟨_, hD1, ?_, fun b o e => ?_, ?_, by omega⟩
          · rw [List.length_map, List.length_replicate]
            exact small1000 (by omega)
          · rw [upd_ne (ne_of_none e hD)]
            exact s1 _ _ e
          · rw [upd_same, List.replicate_succ', List.map_append]
            rfl
        refine ⟨rfl, ?_⟩
        refine ⟨_, rfl, rfl, _, rfl, ?_⟩
        rcases hcm with rfl | ⟨g1, g2, g3⟩
        · refine iteY (by decide +kernel) ?_
          exact done _ rfl
        · refine ite2 (fun c1 => done _ rfl) (fun c1 => ?_)
          have l1 : ¬ (([c] : List Nat) < (" " : Str).cps.toList) := by
            show ¬ (([c] : List Nat) < [32])
            rw [List.cons_lt_cons_iff]
            rintro (z | ⟨_, z⟩)
            · omega
            · cases z
          have l2 : ¬ ((("~" : Str).cps.toList) < ([c] : List Nat)) := by
            show ¬ (([126] : List Nat) < [c])
            rw [List.cons_lt_cons_iff]
            rintro (z | ⟨_, z⟩)
            · omega
            · cases z
          refine ⟨_, rfl, _, _, rfl, rfl, _, rfl, ?_⟩
          refine iteY (by simpa using l1) ?_
          refine ⟨_, rfl, _, _, rfl, rfl, _, rfl, ?_⟩
          refine iteY (by simpa using l2) ?_
          refine ⟨_, rfl, _, rfl, rfl, rfl, ?_⟩
          exact done _ (by simp; omega)
      · rintro H1 ⟨s1, hD1, _⟩
        refine ⟨D, _, rfl, SqL.of hD1, ?_⟩
        rw [all_rep]
        exact k H1 s1
/-- a change as it must be -/
def okChg (c : Chg_) : Prop := 0 ≤ c.1 ∧ c.1 ≤ 100 ∧ okKey c.2.1 ∧ okTxt c.2.2
def spChk : Sp := fun vs H Q _ => ∃ (cv : V) (c : Chg_), vs = [cv] ∧ Dt H cv (eChg c) ∧ okChg c ∧ ∀ H', Same H H' → Q .non H'
theorem con_check_change (T : Tx K mg) : Con P w K mg base 2 (He.ga K "check_change") ["change"] spChk := by
  obtain ⟨fd, F⟩ := T.d_check_change
  obtain ⟨fdk, GK, bK, kK⟩ := con_is_key (P := P) (w := w) (base := base) T
  obtain ⟨fdt, GT, bT, kT⟩ := con_is_text (P := P) (w := w) (base := base) T
  refine ⟨fd, F.ok sc_check_change (fun vs H Q E h => ?_) (fun cdv A outer s H vs Q E hr h => ?_), F.bindsN fun _ _ _ _ _ _ us hl => match us, hl with | [_], _ => rfl, F.kp⟩
  · obtain ⟨cv, c, rfl, _⟩ := h
    rfl
  · obtain ⟨cv, c, rfl, hc, ⟨h1, h2, h3, h4⟩, k⟩ := h
    obtain ⟨b, u1, u2, u3, rfl, hb, hu1, hu2, hu3⟩ := (show Dt H cv (.tuple [.int c.1, .str c.2.1, eTxt c.2.2]) from hc).t3
    obtain rfl := hu1.int_inv
    obtain ⟨rfl, _⟩ := hu2.str_inv
    obtain rfl := hu3.txt_inv
    have nd := sc_check_change.nd
    refine ⟨_, PSs.nox (pss_cons (ps_asg (pv 0) (pg_tup rfl (pgs_cons (pg_name (i := 1) nd rfl (.inl rfl)) (pgs_cons (pg_name (i := 2) nd rfl (.inl rfl)) (pgs_cons (pg_name (i := 3) nd rfl (.inl rfl)) pgs_nil)))))
      (pss_cons (ps_if (PW.pt (pw_or (pt_not (pt_val (pe_callB call_isi (by rfl) T.z_isinstance (by decide +kernel) (pa_cons (pv 1) (pa_cons (pe_bltn (v := .ty "int") (by rfl) T.z_int (by decide +kernel) rfl) pa_nil)))))
        (pw_or (pt_val (pe_callB call_isi (by rfl) T.z_isinstance (by decide +kernel) (pa_cons (pv 1) (pa_cons (pe_bltn (v := .ty "bool") (by rfl) T.z_bool (by decide +kernel) rfl) pa_nil))))
        (pw_or (pt_cmpR op_lt (pv 1) pe_int (nomark _)) (pw_or1 (pt_cmpR op_gt (pv 1) (C8.pe_gc (by rfl) (gcI T.i_MOST_TIME)) (nomark _))))))) (pss_one ps_never) pss_nil)
      (pss_cons (ps_if (pt_not (pt_val (pe_call GK hr (by rfl) T.g_is_key kK bK .nil pass0 (pa_cons (pv 2) pa_nil)))) (pss_one ps_never) pss_nil)
      (pss_one (ps_if (pt_not (pt_val (pe_call GT hr (by rfl) T.g_is_text kT bT .nil pass0 (pa_cons (pv 3) pa_nil)))) (pss_one ps_never) pss_nil))))), ?_⟩
    refine ⟨_, rfl, b, _, rfl, SqT.of hb, rfl, _, _, rfl, _, _, rfl, _, _, rfl, rfl, ?_⟩
    refine ⟨_, rfl, _, _, _, _, true, rfl, .ty _, .base (.int _), kit_ty (by decide +kernel), _, rfl, ?_⟩
    refine iteF ?_
    refine ⟨_, rfl, _, _, _, _, false, rfl, .ty _, .base (.int _), kit_ty (by decide +kernel), _, rfl, ?_⟩
    refine iteF ?_
    refine ⟨_, rfl, _, _, rfl, rfl, _, rfl, ?_⟩
    refine iteN (decide_eq_false (by omega)) ?_
    refine ⟨_, rfl, _, _, rfl, rfl, _, rfl, ?_⟩
    refine iteN (decide_eq_false (by omega)) ?_
    refine ⟨_, rfl, _, rfl, h3, fun H1 s1 => ⟨_, rfl, ?_⟩⟩
    refine iteF ?_
    refine ⟨_, rfl, _, rfl, h4, fun H2 s2 => ⟨_, rfl, ?_⟩⟩
    refine iteF ?_
    exact k H2 (s1.trans s2)
end
end Tsf
/-! changes.counted -/
namespace Tsf
open PySem PySem.Spec PyProof.Rows L2
def kk (p : Str × Int) : List Key := [Sum.inr p.1, Sum.inl p.2]
theorem kk_inj : ∀ p q : Str × Int, kk p = kk q → p = q := by
  rintro ⟨a, b⟩ ⟨a', b'⟩ h
  simp only [kk, List.cons.injEq, Sum.inr.injEq, Sum.inl.injEq, and_true] at h
  rw [h.1, h.2]
theorem kk_map (p : Str × Int) : (kk p).map kV = [.str p.1, .int p.2] := rfl
/-- key and time of the changes, each once -/
def kts (cs : List Chg_) : List (Str × Int) := addAll (cs.map fun c => (c.2.1, c.1))
theorem kts_snoc (cs : List Chg_) (c : Chg_) : kts (cs ++ [c]) = add (kts cs) (c.2.1, c.1) := by
  unfold kts
  rw [List.map_append]
  exact addAll_snoc _ _
theorem kts_len (cs : List Chg_) : (kts cs).length ≤ cs.length := by
  have := length_addAll (cs.map fun c => (c.2.1, c.1))
  rw [List.length_map] at this
  exact this
theorem kts_mem {cs : List Chg_} {k : Str} {t : Int} : (k, t) ∈ kts cs ↔ ∃ x, Ts.lastOf cs k t = some x := by
  unfold kts
  rw [mem_addAll, List.mem_map]
  constructor
  · rintro ⟨c, hc, e⟩
    have e1 : c.2.1 = k := congrArg Prod.fst e
    have e2 : c.1 = t := congrArg Prod.snd e
    obtain ⟨x, hx⟩ := Ts.lastOf_there hc
    rw [e1, e2] at hx
    exact ⟨x, hx⟩
  · rintro ⟨x, hx⟩
    exact ⟨_, Ts.lastOf_some hx, rfl⟩
theorem paired_dt {H : Hp} {f : List Key → V} : ∀ {ps : List (Str × Int)} {as : List Addr}, Paired (fun c (kv : List Key × V) => H c = some (.tup (kv.1.map kV))) as ((ps.map kk).map fun k => (k, f k)) → (∀ p ∈ ps, PyData.strOk p.1 = true) → DtAll H (as.map V.ref) (ps.map eKT)
  | [], _, h, _ => by cases h; exact .nil
  | p :: ps, _, h, hs => by
    rw [List.map_cons, List.map_cons] at h
    cases h with
    | cons h1 h2 =>
      refine .cons ?_ (paired_dt h2 fun q hq => hs q (List.mem_cons_of_mem _ hq))
      exact .tup (xs := [.str p.1, .int p.2]) h1 (.cons (.str _ (hs p (List.mem_cons_self ..))) (.cons (.int _) .nil))
/-- what counted gives -/
structure Counted (cs out : List Chg_) : Prop where
  at_ : ∀ k, (out.filter fun c => decide (c.2.1 = k)).map (fun c => (c.1, c.2.2)) = Ts.ckey cs k
  len : out.length ≤ cs.length
theorem counted_ok {cs : List Chg_} {ps : List (Str × Int)} (hp : ps.Perm (kts cs)) (hs : (ps.map eKT).Pairwise fun x y => ltD y x = false) : Counted cs (ps.map fun p => (p.2, p.1, (Ts.lastOf cs p.1 p.2).getD none)) := by
  refine ⟨fun k => Ts.ckey_of ?_ fun t x => ?_, by rw [List.length_map, hp.length_eq]; exact kts_len cs⟩
  · rw [List.pairwise_map] at hs
    have hnd : ps.Nodup := hp.nodup_iff.mpr (nodup_addAll _)
    have hb : ps.Pairwise fun a b => a.1 = b.1 → a.2 < b.2 := by
      refine (hs.and hnd).imp fun {a b} ⟨h1, h2⟩ e => ?_
      obtain ⟨a1, a2⟩ := a
      obtain ⟨b1, b2⟩ := b
      dsimp only at e
      subst e
      have h3 := kt_le h1
      have h4 : a2 ≠ b2 := fun z => h2 (by rw [z])
      show a2 < b2
      omega
    unfold Ts.Up
    rw [List.pairwise_map, List.filter_map, List.pairwise_map]
    refine (hb.filter _).imp_of_mem fun {a b} ha hb h => ?_
    have h1 : a.1 = k := of_decide_eq_true (List.mem_filter.mp ha).2
    have h2 : b.1 = k := of_decide_eq_true (List.mem_filter.mp hb).2
    exact h (by rw [h1, h2])
  · rw [List.mem_map]
    constructor
    · rintro ⟨c, hc, e⟩
      obtain ⟨hc1, hc2⟩ := List.mem_filter.mp hc
      obtain ⟨p, hpm, rfl⟩ := List.mem_map.mp hc1
      have e1 : p.1 = k := of_decide_eq_true hc2
      have e2 : p.2 = t := congrArg Prod.fst e
      have e3 : (Ts.lastOf cs p.1 p.2).getD none = x := congrArg Prod.snd e
      obtain ⟨y, hy⟩ := kts_mem.mp (hp.mem_iff.mp hpm)
      rw [hy] at e3
      rw [← e1, ← e2, hy, ← e3]
      rfl
    · intro h
      have hm : (k, t) ∈ ps := hp.mem_iff.mpr (kts_mem.mpr ⟨x, h⟩)
      refine ⟨(t, k, x), List.mem_filter.mpr ⟨List.mem_map.mpr ⟨(k, t), hm, ?_⟩, by simp⟩, rfl⟩
      show (t, k, (Ts.lastOf cs k t).getD none) = (t, k, x)
      rw [h]
      rfl
section
variable {P : Program} {w : World} {K : PySem.W.Frag} {mg : Str → Option Value} {base : Heap}
def spCounted : Sp := fun vs H Q _ => ∃ (l : Addr) (cxs : List V) (cs : List Chg_), vs = [.ref l] ∧ H l = some (.lst cxs) ∧ DtAll H cxs (cs.map eChg) ∧ cs.length ≤ 80 ∧
  ∀ q H' (ys : List V) (out : List Chg_), H q = none → Same H H' → H' q = some (.lst ys) → DtAll H' ys (out.map eChg) → Counted cs out → Q (.ref q) H'
theorem con_counted (T : Tx K mg) : Con P w K mg base 1 (He.ga K "counted") ["changes"] spCounted := by
  obtain ⟨fd, F⟩ := T.d_counted
  refine ⟨fd, F.ok sc_counted (fun vs H Q E h => ?_) (fun cdv A outer s H vs Q E hr h => ?_), F.bindsN fun _ _ _ _ _ _ us hl => match us, hl with | [_], _ => rfl, F.kp⟩
  · obtain ⟨l, cxs, cs, rfl, _⟩ := h
    rfl
  · obtain ⟨l, cxs, cs, rfl, hl, dc, hlen, k⟩ := h
    have nd := sc_counted.nd
    refine ⟨_, PSs.nox (pss_cons (ps_set (i := 1) nd rfl (.inr rfl) pe_dnewT)
      (pss_cons (ps_for PassesOwn.never rfl (pi_list (pv 0)) (pg_tup rfl (pgs_cons (pg_name (i := 2) nd rfl (.inl rfl)) (pgs_cons (pg_name (i := 3) nd rfl (.inl rfl)) (pgs_cons (pg_name (i := 4) nd rfl (.inl rfl)) pgs_nil))))
        (pss_one (ps_dput (Room.u1 hr) (pv 1) (pe_tup (pa_cons (pv 3) (pa_cons (pv 2) pa_nil))) (pv 4) rfl)))
      (pss_one (ps_ret (pe_lc (own := [("key", 3), ("time", 2)]) (g := gTup K 2 (gCons (gName 3) (gCons (gName 2) gNil))) (tt := tYes) rfl nd
          (pi_list (pe_callB (cr_sortT (Room.u70 hr)) (by rfl) T.z_sorted (by decide +kernel) (pa_cons (pe_callTy (call_listKeysT rfl) (by rfl) T.z_list (by decide +kernel) (pa_cons (pe_bm0 PySem.F.plainAttrs_dict PySem.F.slot_dict_keys PySem.F.type_dict_keys mt_keysT (pv 1)) pa_nil)) pa_nil)))
          (blkOk_by (own := [("key", 3), ("time", 2)]) (N := ["changes", "last", "time", "key", "text"]) (sc := defScope s_counted) (by decide +kernel))
          (fun _ _ _ _ _ => pg_tup rfl (pgs_cons (pg_name (i := 3) nd rfl (.inl rfl)) (pgs_cons (pg_name (i := 2) nd rfl (.inl rfl)) pgs_nil))) (fun _ _ _ _ _ => pts_nil)
          (fun _ _ _ _ _ => pe_tup (pa_cons (pv 2) (pa_cons (pv 3) (pa_cons (pe_dget (Room.u1 hr) (pv 1) (pe_tup (pa_cons (pv 3) (pa_cons (pv 2) pa_nil))) (fun _ _ => rfl)) pa_nil))))))))), ?_⟩
    intro d hd
    have s0 : Same H (upd H d (.dT [])) := same_new hd
    refine ⟨_, rfl, l, rfl, ⟨_, SqL.of (s0 _ _ hl)⟩, ?_⟩
    refine for_list (K := K) (a := l) (xs := cxs) (fun i σ H1 => ∃ (v2 v3 v4 : Option V) (f : List Key → V), σ = [some (.ref l), some (.ref d), v2, v3, v4] ∧ Same H H1 ∧ H1 d = some (.dT (((kts (cs.take i)).map kk).map fun k => (k, f k))) ∧
        ∀ kx t x, Ts.lastOf (cs.take i) kx t = some x → Dt H1 (f (kk (kx, t))) (eTxt x))
      ⟨none, none, none, fun _ => .non, rfl, s0, upd_same, fun kx t x h => by cases h⟩ (fun i σ H1 _ ⟨_, _, _, _, _, s1, _⟩ => SqL.of (s1 _ _ hl)) ?_ ?_
    · rintro i x σ H1 hx ⟨v2, v3, v4, f, rfl, s1, hd1, hf⟩
      obtain ⟨c, hc, dch⟩ := dc.mget hx
      obtain ⟨b, u1, u2, u3, rfl, hb, hu1, hu2, hu3⟩ := (show Dt H x (.tuple [.int c.1, .str c.2.1, eTxt c.2.2]) from dch).t3
      obtain rfl := hu1.int_inv
      obtain ⟨rfl, _⟩ := hu2.str_inv
      have hi : i < cs.length := (List.getElem?_eq_some_iff.mp hc).1
      refine ⟨b, _, rfl, SqT.of (s1 _ _ hb), rfl, _, _, rfl, _, _, rfl, _, _, rfl, rfl, ?_⟩
      refine ⟨_, rfl, _, rfl, _, rfl, _, rfl, (by show 2 ≤ sizeLine; decide), fun p hp => ?_⟩
      have s2 : Same H1 (upd H1 p (.tup [.str c.2.1, .int c.1])) := same_new hp
      refine ⟨d, _, rfl, .inr ⟨_, kk (c.2.1, c.1), p, s2 _ _ hd1, rfl, upd_same, ?_, rfl⟩, _, _, _, (fun j => if j = kk (c.2.1, c.1) then u3 else f j), rfl, fun b' o e => ?_, ?_, ?_⟩
      · rw [List.length_map, List.length_map]
        have := kts_len (cs.take i)
        rw [List.length_take] at this
        exact small1000 (by omega)
      · rw [upd_ne (ne_of_none e hd)]
        exact s2 _ _ (s1 _ _ e)
      · rw [upd_same, putK_add, add_map (g := kk) kk_inj, take_snoc hc, kts_snoc]
      · intro kx t x' hx'
        have tk : Tk H1 (upd (upd H1 p (.tup [.str c.2.1, .int c.1])) d (.dT (putK (((kts (cs.take i)).map kk).map fun k => (k, f k)) (kk (c.2.1, c.1)) u3))) := (tk_same s2).trans (tk_put (s2 _ _ hd1) fun xs z => nomatch z)
        rw [take_snoc hc, Ts.lastOf_snoc] at hx'
        dsimp only
        by_cases e : c.2.1 = kx ∧ c.1 = t
        · rw [if_pos e] at hx'
          rw [if_pos (by rw [e.1, e.2]), ← Option.some.inj hx']
          exact (hu3.tk (tk_same s1)).tk tk
        · rw [if_neg e] at hx'
          rw [if_neg fun z => e (by have := kk_inj _ _ z; exact ⟨(congrArg Prod.fst this).symm, (congrArg Prod.snd this).symm⟩)]
          exact (hf kx t x' hx').tk tk
    · rintro σ H1 ⟨v2, v3, v4, f, rfl, s1, hd1, hf⟩
      have el : cxs.length = cs.length := by rw [dc.length, List.length_map]
      rw [el, List.take_length] at hd1 hf
      have hso : ∀ p ∈ kts cs, PyData.strOk p.1 = true := fun p hp => by
        obtain ⟨c, hc, rfl⟩ := List.mem_map.mp (mem_addAll.mp hp)
        obtain ⟨i, hi⟩ := List.getElem?_of_mem hc
        obtain ⟨v, _, dv⟩ := dc.mat hi
        obtain ⟨b, u1, u2, u3, rfl, hb, hu1, hu2, hu3⟩ := (show Dt H v (.tuple [.int c.1, .str c.2.1, eTxt c.2.2]) from dv).t3
        exact hu2.str_inv.2
      refine ⟨_, rfl, .inr (.inr (.inl ⟨rfl, .inr ⟨_, hd1⟩⟩)), d, _, rfl, rfl, hd1, fun kv hkv => ?_⟩
      have s2 := s1.trans (same_new (o := keysO kv d) hkv)
      refine ⟨kv, d, _, rfl, upd_same, same_new hkv _ _ hd1, fun as l2 hpa hl2 => ?_⟩
      have das := paired_dt hpa hso
      have s3 := s2.trans (same_new (o := .lst (as.map V.ref)) hl2)
      refine ⟨l2, _, _, ltD, rfl, SqL.of upd_same, das.tk (tk_new hl2), ltOk_kt _, fun ys es l3 dy hp hsrt hl3 => ?_⟩
      obtain ⟨ps, rfl, hps⟩ := perm_map (fun x y => eKT_inj) hp
      have s4 := s3.trans (same_new (o := .lst ys) hl3)
      have hd4 : upd (upd (upd H1 kv (keysO kv d)) l2 (.lst (as.map V.ref))) l3 (.lst ys) d = some (.dT (((kts cs).map kk).map fun k => (k, f k))) := same_new hl3 _ _ (same_new hl2 _ _ (same_new hkv _ _ hd1))
      have tk14 : Tk H1 (upd (upd (upd H1 kv (keysO kv d)) l2 (.lst (as.map V.ref))) l3 (.lst ys)) := (tk_new hkv).trans ((tk_new hl2).trans (tk_new hl3))
      have dy4 := dy.tk (tk_new (o := .lst ys) hl3)
      have hl4 : upd (upd (upd H1 kv (keysO kv d)) l2 (.lst (as.map V.ref))) l3 (.lst ys) l3 = some (.lst ys) := upd_same
      generalize upd (upd (upd H1 kv (keysO kv d)) l2 (.lst (as.map V.ref))) l3 (.lst ys) = H4 at s4 hd4 tk14 dy4 hl4
      refine ⟨l3, rfl, ⟨_, SqL.of hl4⟩, fun D hD => ?_⟩
      have nl3 : l3 ≠ D := ne_of_none hl4 hD
      have hnD : H D = none := same_none s4 hD
      have hout := counted_ok hps hsrt
      have hpsl : ps.length ≤ 80 := by
        have := kts_len cs
        rw [hps.length_eq]; omega
      refine lc_list (K := K) (a := l3) (xs := ys) (fun i H5 => ∃ acc, Same H4 H5 ∧ H5 D = some (.lst acc) ∧ DtAll H5 acc (((ps.take i).map fun p => (p.2, p.1, (Ts.lastOf cs p.1 p.2).getD none)).map eChg))
        ⟨[], same_new hD, upd_same, .nil⟩ (fun i H5 _ ⟨_, s5, _⟩ => SqL.of (s5 _ _ hl4)) ?_ ?_
      · rintro i y H5 hy ⟨acc, s5, hD5, da⟩
        obtain ⟨p, hp', dp⟩ := dy4.mget hy
        obtain ⟨b, u1, u2, rfl, hb, hu1, hu2⟩ := (show Dt H4 y (.tuple [.str p.1, .int p.2]) from dp).t2
        obtain ⟨rfl, hsp⟩ := hu1.str_inv
        obtain rfl := hu2.int_inv
        obtain ⟨x, hx⟩ := kts_mem.mp (hps.mem_iff.mp (List.mem_of_getElem? hp'))
        have hpm : kk p ∈ (kts cs).map kk := List.mem_map.mpr ⟨p, hps.mem_iff.mp (List.mem_of_getElem? hp'), rfl⟩
        refine ⟨b, _, rfl, SqT.of (s5 _ _ hb), rfl, _, _, rfl, _, _, rfl, rfl, rfl, ?_⟩
        refine ⟨_, rfl, _, rfl, _, rfl, _, rfl, _, rfl, (by show 2 ≤ sizeLine; decide), fun t1 ht1 => ?_⟩
        have s6 : Same H5 (upd H5 t1 (.tup [.str p.1, .int p.2])) := same_new ht1
        refine ⟨d, f (kk p), rfl, .inr ⟨_, kk p, t1, .inl (s6 _ _ (s5 _ _ hd4)), rfl, upd_same, by rw [valV_fn, if_pos hpm]⟩, (by show 3 ≤ sizeLine; decide), fun t2 ht2 => ?_⟩
        have s7 : Same H5 (upd (upd H5 t1 (.tup [.str p.1, .int p.2])) t2 (.tup [.int p.2, .str p.1, f (kk p)])) := s6.trans (same_new ht2)
        refine ⟨acc, s7 _ _ hD5, ?_, acc ++ [.ref t2], fun b' o e => ?_, upd_same, ?_⟩
        · rw [da.length, List.length_map, List.length_map, List.length_take]
          exact small1000 (by omega)
        · rw [upd_ne (ne_of_none e hD)]
          exact s7 _ _ (s5 _ _ e)
        · have n2 : t2 ≠ D := fun z => by
            rw [z, s6 _ _ hD5] at ht2; cases ht2
          have tkD : Tk (upd (upd H5 t1 (.tup [.str p.1, .int p.2])) t2 (.tup [.int p.2, .str p.1, f (kk p)])) (upd (upd (upd H5 t1 (.tup [.str p.1, .int p.2])) t2 (.tup [.int p.2, .str p.1, f (kk p)])) D (.lst (acc ++ [.ref t2]))) := tk_put (s7 _ _ hD5) fun xs z => nomatch z
          rw [take_snoc hp', List.map_append, List.map_append]
          refine (da.tk ((tk_same s7).trans tkD)).append (.cons ?_ .nil)
          refine .tup (xs := [.int p.2, .str p.1, f (kk p)]) ?_ (.cons (.int _) (.cons (.str _ hsp) (.cons ?_ .nil)))
          · rw [upd_ne n2]; exact upd_same
          · dsimp only
            rw [hx]
            exact ((hf p.1 p.2 x hx).tk tk14).tk ((tk_same s5).trans ((tk_same s7).trans tkD))
      · rintro H5 ⟨acc, s5, hD5, da⟩
        rw [dy4.length, List.length_map, List.take_length] at da
        exact k D H5 acc _ hnD (s4.trans s5) hD5 da hout
end
end Tsf
/-! shelves.Shelf: __init__, endings, changes, known_keys, tell -/
namespace Tsf
open PySem PySem.Spec PyProof.Rows L2
theorem dc_list {K : PySem.W.Frag} {a : Addr} {xs : List V} {g : TG} {tt : TT} {tk tv : TE} {vs : List Nat} {σ : L2.St} {H1 : Hp} {D : Addr} {Qd : Hp → Prop} (Pv : Nat → Hp → Prop) (h0 : Pv 0 (upd H1 D (.dK []))) (hl : ∀ i H, i ≤ xs.length → Pv i H → SqL K H a xs)
    (hs : ∀ i x H, xs[i]? = some x → Pv i H → g x (wipe σ vs) H fun σ2 H2 => wipe σ2 vs = wipe σ vs ∧ tt σ2 H2 fun b H3 =>
      if b = true then tk σ2 H3 fun y H4 => tv σ2 H4 fun z H5 => ∃ kvs k, y = kV k ∧ H5 D = some (.dK kvs) ∧ kvs.length < sizeLine ∧ Pv (i + 1) (upd H5 D (.dK (putK kvs k z))) else Pv (i + 1) H3) (hd : ∀ H, Pv xs.length H → Qd H) :
    ∃ W : Nat → Nat → Hp → Prop, (∃ m, W 0 m (upd H1 D (.dK []))) ∧ ∀ i m H, W i m H →
      ((Itl K a).stop i H ∧ Qd H) ∨ ((Itl K a).go i H ∧ ∃ Nx : Hp → Prop, (∀ H', Nx H' → ∃ m', m' < m ∧ W (i + 1) m' H') ∧ ∀ x H', (Itl K a).yld i H x H' → g x (wipe σ vs) H' fun σ2 H2 => wipe σ2 vs = wipe σ vs ∧ tt σ2 H2 fun b H3 =>
        if b = true then tk σ2 H3 fun y H4 => tv σ2 H4 fun z H5 => ∃ kvs k, y = kV k ∧ H5 D = some (.dK kvs) ∧ kvs.length < sizeLine ∧ Nx (upd H5 D (.dK (putK kvs k z))) else Nx H3) := by
  refine ⟨fun i m H => m = xs.length - i ∧ i ≤ xs.length ∧ Pv i H, ⟨xs.length, by simp, Nat.zero_le _, h0⟩, ?_⟩
  rintro i m H ⟨rfl, hi, p⟩
  have q := hl i H hi p
  by_cases hlt : i < xs.length
  · refine .inr ⟨⟨xs, xs[i], q, by simp [hlt]⟩, Pv (i + 1), fun H' p' => ⟨xs.length - (i + 1), by omega, rfl, hlt, p'⟩, fun x H' y => ?_⟩
    obtain ⟨e, y⟩ := y
    subst e
    exact hs i x _ (y xs q) p
  · have e : i = xs.length := by omega
    subst e
    exact .inl ⟨⟨xs, q, Nat.le_refl _⟩, hd H p⟩
/-- a shelf at a: its changes stand at ca -/
structure Sh (K : PySem.W.Frag) (H : Hp) (a ca : Addr) (es : Ends) (cs : List Chg_) : Prop where
  obj : ∃ dx ea, H a = some (.ins (He.ga K "Shelf") dx [("_endings", .ref ea), ("_changes", .ref ca)]) ∧ Dt H (.ref ea) (eEnds es)
  chg : ∃ cxs, H ca = some (.lst cxs) ∧ DtAll H cxs (cs.map eChg)
  e10 : ∀ e ∈ es, e.1.length ≤ 10
  ok : ∀ c ∈ cs, okChg c
  len : cs.length ≤ 9
theorem Sh.keep {K : PySem.W.Frag} {H H' : Hp} {a ca : Addr} {es : Ends} {cs : List Chg_} (S : Sh K H a ca es cs) (k : ∀ b o, b = a ∨ b = ca → H b = some o → H' b = some o) (tk : Tk H H') : Sh K H' a ca es cs := by
  obtain ⟨dx, ea, h1, h2⟩ := S.obj
  obtain ⟨cxs, h3, h4⟩ := S.chg
  exact ⟨⟨dx, ea, k _ _ (.inl rfl) h1, h2.tk tk⟩, ⟨cxs, k _ _ (.inr rfl) h3, h4.tk tk⟩, S.e10, S.ok, S.len⟩
theorem Sh.same {K : PySem.W.Frag} {H H' : Hp} {a ca : Addr} {es : Ends} {cs : List Chg_} (S : Sh K H a ca es cs) (s : Same H H') : Sh K H' a ca es cs :=
  S.keep (fun b o _ e => s b o e) (tk_same s)
def kset (cs : List Chg_) : List Str := addAll (cs.map fun c => c.2.1)
theorem kset_mem {cs : List Chg_} {k : Str} : k ∈ kset cs ↔ ∃ c ∈ cs, c.2.1 = k := by
  unfold kset
  rw [mem_addAll, List.mem_map]
theorem kset_snoc (cs : List Chg_) (c : Chg_) : kset (cs ++ [c]) = add (kset cs) c.2.1 := by
  unfold kset
  rw [List.map_append]
  exact addAll_snoc _ _
theorem kset_len (cs : List Chg_) : (kset cs).length ≤ cs.length := by
  have := length_addAll (cs.map fun c => c.2.1)
  rw [List.length_map] at this
  exact this
section
variable {P : Program} {w : World} {K : PySem.W.Frag} {mg : Str → Option Value} {base : Heap}
def spShInit : Sp := fun vs H Q _ => ∃ (a dx ea : Addr) (es : Ends), vs = [.ref a, .ref ea] ∧ H a = some (.ins (He.ga K "Shelf") dx []) ∧ Dt H (.ref ea) (eEnds es) ∧ (∀ e ∈ es, e.1.length ≤ 10) ∧
  ∀ ca H', H ca = none → (∀ b o, b ≠ a → H b = some o → H' b = some o) → Sh K H' a ca es [] → Q .non H'
theorem con_Shelf_init (T : Tx K mg) : Con P w K mg base 1 (He.ma K (He.ga K "Shelf") "__init__") ["self", "endings"] (spShInit (K := K)) := by
  obtain ⟨fd, F⟩ := T.d_Shelf_init
  refine ⟨fd, F.ok sc_Shelf_init (fun vs H Q E h => ?_) (fun cdv A outer s H vs Q E hr h => ?_), F.bindsN fun _ _ _ _ _ _ us hl => match us, hl with | [_, _], _ => rfl, F.kp⟩
  · obtain ⟨a, dx, ea, es, rfl, _⟩ := h
    rfl
  · obtain ⟨a, dx, ea, es, rfl, ha, he, h10, k⟩ := h
    obtain ⟨_, exs, hee, hea, hex⟩ := he.tupN
    cases hee
    have nd := sc_Shelf_init.nd
    refine ⟨_, PSs.nox (pss_cons (ps_fld (pv 0) (pe_callTy call_tuple_of (by rfl) T.z_tuple (by decide +kernel) (pa_cons (pv 1) pa_nil)) rfl)
      (pss_one (ps_fld (pv 0) (pe_lst pa_nil) rfl))), ?_⟩
    have nae : a ≠ ea := fun z => by rw [z, hea] at ha; cases ha
    refine ⟨_, rfl, ea, _, rfl, .inr ⟨SqT.of hea, ?_⟩⟩
    refine ⟨_, rfl, a, _, dx, _, rfl, ha, T.c_Shelf, T.n_Shelf_endings, by decide, ?_⟩
    refine ⟨Nat.zero_le _, fun ca hca => ?_⟩
    have hca0 : H ca = none := by
      cases e : H ca with
      | none => rfl
      | some o =>
        by_cases z : ca = a
        · rw [z, upd_same] at hca; cases hca
        · rw [upd_ne z, e] at hca; cases hca
    have nac : a ≠ ca := ne_of_none ha hca0
    refine ⟨_, rfl, a, _, dx, _, rfl, by rw [upd_ne nac]; exact upd_same, T.c_Shelf, T.n_Shelf_changes, (by show 1 < 1000; decide), ?_⟩
    refine k ca _ hca0 (fun b o hb e => ?_) ⟨⟨dx, ea, ?_, ?_⟩, ⟨[], ?_, .nil⟩, h10, fun c hc => absurd hc (by simp), Nat.zero_le _⟩
    · rw [upd_ne hb, upd_ne (ne_of_none e hca0), upd_ne hb]
      exact e
    · rw [upd_same]; rfl
    · refine he.tk fun b xs e => ?_
      have hb : b ≠ a := fun z => by rw [z, ha] at e; cases e
      rw [upd_ne hb, upd_ne (ne_of_none e hca0), upd_ne hb]
      exact e
    · rw [upd_ne nac.symm]; exact upd_same
def spShEnd : Sp := fun vs H Q _ => ∃ (a ca : Addr) (es : Ends) (cs : List Chg_), vs = [.ref a] ∧ Sh K H a ca es cs ∧ ∀ ea, Dt H (.ref ea) (eEnds es) → Q (.ref ea) H
theorem con_Shelf_endings (T : Tx K mg) : Con P w K mg base 1 (He.ma K (He.ga K "Shelf") "endings") ["self"] (spShEnd (K := K)) := by
  obtain ⟨fd, F⟩ := T.d_Shelf_endings
  refine ⟨fd, F.ok sc_Shelf_endings (fun vs H Q E h => ?_) (fun cdv A outer s H vs Q E hr h => ?_), F.bindsN fun _ _ _ _ _ _ us hl => match us, hl with | [_], _ => rfl, F.kp⟩
  · obtain ⟨a, ca, es, cs, rfl, _⟩ := h
    rfl
  · obtain ⟨a, ca, es, cs, rfl, S, k⟩ := h
    obtain ⟨dx, ea, h1, h2⟩ := S.obj
    have nd := sc_Shelf_endings.nd
    refine ⟨_, PSs.nox (pss_one (ps_ret (pe_fld (pv 0) rfl))), ?_⟩
    exact ⟨_, rfl, a, _, dx, _, _, rfl, h1, T.c_Shelf, T.n_Shelf_endings, rfl, k ea h2⟩
def spShChg : Sp := fun vs H Q _ => ∃ (a ca : Addr) (es : Ends) (cs : List Chg_), vs = [.ref a] ∧ Sh K H a ca es cs ∧ ∀ q (cxs : List V), H q = none → DtAll H cxs (cs.map eChg) → Q (.ref q) (upd H q (.lst cxs))
theorem con_Shelf_changes (T : Tx K mg) : Con P w K mg base 1 (He.ma K (He.ga K "Shelf") "changes") ["self"] (spShChg (K := K)) := by
  obtain ⟨fd, F⟩ := T.d_Shelf_changes
  refine ⟨fd, F.ok sc_Shelf_changes (fun vs H Q E h => ?_) (fun cdv A outer s H vs Q E hr h => ?_), F.bindsN fun _ _ _ _ _ _ us hl => match us, hl with | [_], _ => rfl, F.kp⟩
  · obtain ⟨a, ca, es, cs, rfl, _⟩ := h
    rfl
  · obtain ⟨a, ca, es, cs, rfl, S, k⟩ := h
    obtain ⟨dx, ea, h1, h2⟩ := S.obj
    obtain ⟨cxs, h3, h4⟩ := S.chg
    have nd := sc_Shelf_changes.nd
    refine ⟨_, PSs.nox (pss_one (ps_ret (pe_callTy call_list_of (by rfl) T.z_list (by decide +kernel) (pa_cons (pe_fld (pv 0) rfl) pa_nil)))), ?_⟩
    exact ⟨_, rfl, a, _, dx, _, _, rfl, h1, T.c_Shelf, T.n_Shelf_changes, rfl, ca, cxs, rfl, .inl (SqL.of h3), fun q hq => k q cxs hq h4⟩
def spKeys : Sp := fun vs H Q _ => ∃ (a ca : Addr) (es : Ends) (cs : List Chg_), vs = [.ref a] ∧ Sh K H a ca es cs ∧ ∀ q H' (ks : List Str), H q = none → Same H H' → H' q = some (.lst (ks.map V.str)) → ks.Perm (kset cs) → Q (.ref q) H'
theorem con_known_keys (T : Tx K mg) : Con P w K mg base 1 (He.ma K (He.ga K "Shelf") "known_keys") ["self"] (spKeys (K := K)) := by
  obtain ⟨fd, F⟩ := T.d_Shelf_known_keys
  refine ⟨fd, F.ok sc_Shelf_known_keys (fun vs H Q E h => ?_) (fun cdv A outer s H vs Q E hr h => ?_), F.bindsN fun _ _ _ _ _ _ us hl => match us, hl with | [_], _ => rfl, F.kp⟩
  · obtain ⟨a, ca, es, cs, rfl, _⟩ := h
    rfl
  · obtain ⟨a, ca, es, cs, rfl, S, k⟩ := h
    obtain ⟨dx, ea, h1, h2⟩ := S.obj
    obtain ⟨cxs, h3, h4⟩ := S.chg
    have nd := sc_Shelf_known_keys.nd
    refine ⟨_, PSs.nox (pss_one (ps_ret (pe_callB cr_sortedS (by rfl) T.z_sorted (by decide +kernel) (pa_cons (pe_callTy (call_listD rfl) (by rfl) T.z_list (by decide +kernel) (pa_cons
      (pe_dc (own := [("change", 1)]) (g := gName 1) (tt := tYes) rfl nd (pi_list (pe_fld (pv 0) rfl)) (blkOk_by (own := [("change", 1)]) (N := ["self", "change"]) (sc := defScope s_Shelf_known_keys) (by decide +kernel))
        (fun _ _ _ _ _ => pg_name (i := 1) nd rfl (.inl rfl)) (fun _ _ _ _ _ => pts_nil) (fun _ _ _ _ _ => pe_ix (show IxR _ (rIxT K) from ix_tup) (pv 1) pe_int (fun _ _ => rfl)) (fun _ _ _ _ _ => pe_bl)) pa_nil)) pa_nil)))), ?_⟩
    refine ⟨_, rfl, a, _, dx, _, _, rfl, h1, T.c_Shelf, T.n_Shelf_changes, rfl, ca, rfl, ⟨_, SqL.of h3⟩, fun D hD => ?_⟩
    have nD : ca ≠ D := ne_of_none h3 hD
    refine dc_list (K := K) (a := ca) (xs := cxs) (fun i H1 => Same H H1 ∧ H1 D = some (.dK (kS (kset (cs.take i))))) ⟨same_new hD, upd_same⟩ (fun i H1 _ ⟨s1, _⟩ => SqL.of (s1 _ _ h3)) ?_ ?_
    · rintro i x H1 hx ⟨s1, hD1⟩
      obtain ⟨c, hc, dch⟩ := h4.mget hx
      obtain ⟨b, u1, u2, u3, rfl, hb, hu1, hu2, hu3⟩ := (show Dt H x (.tuple [.int c.1, .str c.2.1, eTxt c.2.2]) from dch).t3
      obtain ⟨rfl, _⟩ := hu2.str_inv
      refine ⟨rfl, ?_⟩
      refine ⟨_, rfl, b, _, _, _, rfl, rfl, SqT.of (s1 _ _ hb), atI_nat (j := 1) rfl, _, Sum.inr c.2.1, rfl, hD1, ?_, fun b' o e => ?_, ?_⟩
      · rw [List.length_map, List.length_map]
        have h5 := kset_len (cs.take i)
        rw [List.length_take] at h5
        have h6 := S.len
        exact small1000 (by omega)
      · rw [upd_ne (ne_of_none e hD)]
        exact s1 _ _ e
      · rw [upd_same, putS, take_snoc hc, kset_snoc]
    · rintro H1 ⟨s1, hD1⟩
      have el : cxs.length = cs.length := by rw [h4.length, List.length_map]
      rw [el, List.take_length] at hD1
      refine ⟨D, _, rfl, .inl hD1, fun l hl => ?_⟩
      have e1 : ((kS (kset cs)).map fun kv => kV kv.1) = (kset cs).map V.str := by
        rw [List.map_map, List.map_map]; rfl
      refine ⟨l, kset cs, rfl, SqL.of (by rw [upd_same, e1]), ?_, fun ks p hp _ hpn => ?_⟩
      · have h5 := kset_len cs
        have h6 := S.len
        omega
      · have s2 := s1.trans (same_new (o := .lst ((kS (kset cs)).map fun kv => kV kv.1)) hl)
        exact k p _ ks (same_none s2 hpn) (s2.trans (same_new hpn)) upd_same hp
def spTell : Sp := fun vs H Q _ => ∃ (a ca : Addr) (es : Ends) (cs : List Chg_) (c : Chg_), vs = [.ref a, .int c.1, .str c.2.1, oS c.2.2] ∧ Sh K H a ca es cs ∧ okChg c ∧ cs.length ≤ 8 ∧
  ∀ H', Sh K H' a ca es (cs ++ [c]) → (∀ b o, b ≠ ca → H b = some o → H' b = some o) → Q .non H'
theorem con_Shelf_tell (T : Tx K mg) : Con P w K mg base 3 (He.ma K (He.ga K "Shelf") "tell") ["self", "time", "key", "text"] (spTell (K := K)) := by
  obtain ⟨fd, F⟩ := T.d_Shelf_tell
  obtain ⟨fdc, GC, bC, kC⟩ := con_check_change (P := P) (w := w) (base := base) T
  obtain ⟨fdk, GK, bK, kK⟩ := (con_known_keys (P := P) (w := w) (base := base) T).mono (show 1 ≤ 2 by omega)
  refine ⟨fd, F.ok sc_Shelf_tell (fun vs H Q E h => ?_) (fun cdv A outer s H vs Q E hr h => ?_), F.bindsN fun _ _ _ _ _ _ us hl => match us, hl with | [_, _, _, _], _ => rfl, F.kp⟩
  · obtain ⟨a, ca, es, cs, c, rfl, _⟩ := h
    rfl
  · obtain ⟨a, ca, es, cs, c, rfl, S, hok, h8, k⟩ := h
    obtain ⟨dx, ea, h1, h2⟩ := S.obj
    obtain ⟨cxs, h3, h4⟩ := S.chg
    have nd := sc_Shelf_tell.nd
    refine ⟨_, PSs.nox (pss_cons (ps_expr (pe_call GC hr (by rfl) T.g_check_change kC bC .nil pass0 (pa_cons (pe_tup (pa_cons (pv 1) (pa_cons (pv 2) (pa_cons (pv 3) pa_nil)))) pa_nil)))
      (pss_cons (ps_if (pt_cmpR op_eq (pe_callB call_len_seq (by rfl) T.z_len PySem.boot_len (pa_cons (pe_fld (pv 0) rfl) pa_nil)) (C8.pe_gc (by rfl) (gcI T.i_MOST_CHANGES)) (nomark _)) (pss_one ps_never) pss_nil)
      (pss_cons (ps_set (i := 4) nd rfl (.inl rfl) (pe_meth0 (pv 0) T.c_Shelf T.m_Shelf_known_keys GK hr bK .nil pass0))
      (pss_cons (ps_if (PW.pt (pw_and (pt_cmpR op_notIn_seq (pv 2) (pv 4) (by rfl)) (pw_and1 (pt_cmpR op_eq (pe_callB call_len_seq (by rfl) T.z_len PySem.boot_len (pa_cons (pv 4) pa_nil)) (C8.pe_gc (by rfl) (gcI T.i_MOST_KEYS)) (nomark _))))) (pss_one ps_never) pss_nil)
      (pss_one (ps_expr (pe_bm PySem.F.plainAttrs_list PySem.F.slot_list_append PySem.F.type_list_append mt_append (pe_fld (pv 0) rfl) (pa_cons (pe_tup (pa_cons (pv 1) (pa_cons (pv 2) (pa_cons (pv 3) pa_nil)))) pa_nil)))))))), ?_⟩
    have dtc : ∀ {H' : Hp} {p : Addr}, H' p = some (.tup [.int c.1, .str c.2.1, oS c.2.2]) → Dt H' (.ref p) (eChg c) := fun {H' p} e =>
      .tup e (.cons (.int _) (.cons (.str _ (okKey.str hok.2.2.1)) (.cons (dt_txt hok.2.2.2) .nil)))
    refine ⟨_, rfl, _, rfl, _, rfl, (by show 3 ≤ sizeLine; decide), fun p hp => ?_⟩
    have s1 : Same H (upd H p (.tup [.int c.1, .str c.2.1, oS c.2.2])) := same_new hp
    refine ⟨_, c, rfl, dtc upd_same, hok, fun H1 s2 => ?_⟩
    have s12 := s1.trans s2
    have el : cxs.length = cs.length := by rw [h4.length, List.length_map]
    refine ⟨_, rfl, a, _, dx, _, _, rfl, s12 _ _ h1, T.c_Shelf, T.n_Shelf_changes, rfl, ca, _, rfl, .inl (SqL.of (s12 _ _ h3)), rfl, _, rfl, ?_⟩
    refine iteN (decide_eq_false fun z => by have := V.int.inj z; omega) ?_
    refine ⟨_, rfl, a, dx, _, rfl, s12 _ _ h1, rfl, a, ca, es, cs, rfl, S.same s12, fun q H2 ks hq s3 hq2 hks => ?_⟩
    have s13 := s12.trans s3
    have hkl : ks.length ≤ 9 := by
      have h5 := kset_len cs
      rw [hks.length_eq]; omega
    have last : ∀ t H3, Same H H3 → H3 t = none → Q .non (upd (upd H3 t (.tup [.int c.1, .str c.2.1, oS c.2.2])) ca (.lst (cxs ++ [.ref t]))) := by
      intro t H3 s3' ht
      have nct : ca ≠ t := ne_of_none (s3' _ _ h3) ht
      have nac : a ≠ ca := fun z => by rw [z, h3] at h1; cases h1
      have nat : a ≠ t := ne_of_none (s3' _ _ h1) ht
      have tk : Tk H (upd (upd H3 t (.tup [.int c.1, .str c.2.1, oS c.2.2])) ca (.lst (cxs ++ [.ref t]))) := fun b xs e => by
        have nb : b ≠ ca := fun z => by rw [z, h3] at e; cases e
        rw [upd_ne nb]
        exact same_new ht _ _ (s3' _ _ e)
      refine k _ ⟨⟨dx, ea, ?_, h2.tk tk⟩, ⟨cxs ++ [.ref t], upd_same, ?_⟩, S.e10, fun c' hc' => ?_, ?_⟩ (fun b o hb e => ?_)
      · rw [upd_ne nac]
        exact same_new ht _ _ (s3' _ _ h1)
      · rw [List.map_append]
        exact (h4.tk tk).append (.cons (dtc (by rw [upd_ne nct.symm]; exact upd_same)) .nil)
      · rcases List.mem_append.mp hc' with h | h
        · exact S.ok c' h
        · rw [List.mem_singleton.mp h]; exact hok
      · rw [List.length_append, List.length_singleton]; omega
      · rw [upd_ne hb]
        exact same_new ht _ _ (s3' _ _ e)
    refine ⟨_, rfl, _, rfl, q, _, rfl, .inl (SqL.of hq2), rfl, ?_, _, rfl, ?_⟩
    · rw [List.all_eq_true]
      intro x hx
      obtain ⟨y, _, rfl⟩ := List.mem_map.mp hx
      rfl
    · refine ite2 (fun c1 => ?_) (fun c1 => ?_)
      · refine ⟨_, rfl, q, _, rfl, .inl (SqL.of hq2), rfl, _, rfl, ?_⟩
        refine iteN (decide_eq_false fun z => by have := V.int.inj z; rw [List.length_map] at this; omega) ?_
        refine ⟨_, rfl, a, _, dx, _, _, rfl, s13 _ _ h1, T.c_Shelf, T.n_Shelf_changes, rfl, .inl ⟨rfl, _, SqL.of (s13 _ _ h3)⟩, _, rfl, _, rfl, _, rfl, (by show 3 ≤ sizeLine; decide), fun t ht => ?_⟩
        exact ⟨ca, cxs, _, rfl, rfl, same_new ht _ _ (s13 _ _ h3), small1000 (by omega), last t H2 s13 ht⟩
      · refine iteF ?_
        refine ⟨_, rfl, a, _, dx, _, _, rfl, s13 _ _ h1, T.c_Shelf, T.n_Shelf_changes, rfl, .inl ⟨rfl, _, SqL.of (s13 _ _ h3)⟩, _, rfl, _, rfl, _, rfl, (by show 3 ≤ sizeLine; decide), fun t ht => ?_⟩
        exact ⟨ca, cxs, _, rfl, rfl, same_new ht _ _ (s13 _ _ h3), small1000 (by omega), last t H2 s13 ht⟩
end
end Tsf
/-! shelves.Shelf.history -/
namespace Tsf
open PySem PySem.Spec PyProof.Rows L2
def hL (es : Ends) (l : List (Int × Option Str)) : List (Int × Option Doc) := l.map fun p => (p.1, p.2.map (docOf es))
def histOf (es : Ends) (cs : List Chg_) (key : Str) : List Ver_ := Ts.hist (hL es (Ts.ckey cs key))
theorem set_last {α : Type} (l : List α) (a b : α) : (l ++ [a]).set l.length b = l ++ [b] := by
  rw [List.set_append]
  simp
theorem ixN_last (n : Nat) : ixN (n + 1) (-1) = some n := by
  unfold ixN
  rw [if_neg (by omega), if_pos (by omega)]
  congr 1
  omega
theorem hstep_none (vs : List Ver_) (t : Int) (e : Option Int) : Ts.hstep vs t e none = vs := rfl
theorem hstep_nil (t : Int) (e : Option Int) (d : Doc) : Ts.hstep [] t e (some d) = [(t, e, d)] := rfl
theorem hstep_snoc (vs : List Ver_) (v : Ver_) (t : Int) (e : Option Int) (d : Doc) : Ts.hstep (vs ++ [v]) t e (some d) = if v.2.1 = some t ∧ v.2.2 = d then vs ++ [(v.1, e, d)] else vs ++ [v] ++ [(t, e, d)] := by
  unfold Ts.hstep
  rw [List.getLast?_concat, List.dropLast_concat]
theorem hstep_len (vs : List Ver_) (t : Int) (e : Option Int) (x : Option Doc) : (Ts.hstep vs t e x).length ≤ vs.length + 1 := by
  unfold Ts.hstep
  split
  · omega
  · split
    · split
      · rw [List.length_append, List.length_dropLast, List.length_singleton]; omega
      · simp
    · simp
/-- behind i turns of history's loop -/
def hisInv (a D V0 : Addr) (key : Str) (H2 : Hp) (L : List (Int × Option Doc)) (R : List Ver_) (i : Nat) (σ : L2.St) (H3 : Hp) : Prop :=
  ∃ (v4 v5 v6 v7 v8 v9 v10 : Option V) (acc : List V) (vs : List Ver_), σ = [some (.ref a), some (.str key), some (.ref D), some (.ref V0), v4, v5, v6, v7, v8, v9, v10] ∧
    (∀ b o, b ≠ V0 → H2 b = some o → H3 b = some o) ∧ H3 V0 = some (.lst acc) ∧ DtAll H3 acc (vs.map eVer) ∧ vs.length ≤ i ∧ Ts.hloop vs (L.drop i) = R
theorem his_app {a D V0 p : Addr} {key : Str} {H2 H4 : Hp} {L : List (Int × Option Doc)} {R vs : List Ver_} {i : Nat} {acc : List V} {ve dv : V} {e : Option Int} {d : Doc} {t : Int} {v4 v5 v6 v7 v8 v9 v10 : Option V}
    (k4 : ∀ b o, b ≠ V0 → H2 b = some o → H4 b = some o) (hV4 : H4 V0 = some (.lst acc)) (da : DtAll H4 acc (vs.map eVer)) (hp : H4 p = none) (dtE : ∀ H, Dt H ve (eOpt e)) (ddv : Dt H4 dv (eDoc d)) (hl : vs.length + 1 ≤ i)
    (hR : Ts.hloop (vs ++ [(t, e, d)]) (L.drop i) = R) :
    hisInv a D V0 key H2 L R i [some (.ref a), some (.str key), some (.ref D), some (.ref V0), v4, v5, v6, v7, v8, v9, v10] (upd (upd H4 p (.tup [.int t, ve, dv])) V0 (.lst (acc ++ [.ref p]))) := by
  have nV : p ≠ V0 := fun z => by rw [z, hV4] at hp; cases hp
  have tk : Tk H4 (upd (upd H4 p (.tup [.int t, ve, dv])) V0 (.lst (acc ++ [.ref p]))) := (tk_new hp).trans (tk_put (same_new hp _ _ hV4) fun xs z => nomatch z)
  refine ⟨_, _, _, _, _, _, _, acc ++ [.ref p], vs ++ [(t, e, d)], rfl, fun b o hb e => ?_, upd_same, ?_, by simpa using hl, hR⟩
  · rw [upd_ne hb]
    exact same_new hp _ _ (k4 b o hb e)
  · rw [List.map_append]
    exact (da.tk tk).append (.cons (.tup (xs := [.int t, ve, dv]) (by rw [upd_ne nV]; exact upd_same) (.cons (.int _) (.cons (dtE _) (.cons (ddv.tk tk) .nil)))) .nil)
theorem his_rep {a D V0 p : Addr} {key : Str} {H2 H4 : Hp} {L : List (Int × Option Doc)} {R vs : List Ver_} {v : Ver_} {i : Nat} {acc : List V} {ve dv : V} {e : Option Int} {d : Doc} {v4 v5 v6 v7 v8 v9 v10 : Option V}
    (k4 : ∀ b o, b ≠ V0 → H2 b = some o → H4 b = some o) (hV4 : H4 V0 = some (.lst acc)) (da : DtAll H4 acc ((vs ++ [v]).map eVer)) (hp : H4 p = none) (dtE : ∀ H, Dt H ve (eOpt e)) (ddv : Dt H4 dv (eDoc d)) (hl : vs.length + 1 ≤ i)
    (hR : Ts.hloop (vs ++ [(v.1, e, d)]) (L.drop i) = R) :
    hisInv a D V0 key H2 L R i [some (.ref a), some (.str key), some (.ref D), some (.ref V0), v4, v5, v6, v7, v8, v9, v10] (upd (upd H4 p (.tup [.int v.1, ve, dv])) V0 (.lst (acc.set vs.length (.ref p)))) := by
  have nV : p ≠ V0 := fun z => by rw [z, hV4] at hp; cases hp
  have tk : Tk H4 (upd (upd H4 p (.tup [.int v.1, ve, dv])) V0 (.lst (acc.set vs.length (.ref p)))) := (tk_new hp).trans (tk_put (same_new hp _ _ hV4) fun xs z => nomatch z)
  refine ⟨_, _, _, _, _, _, _, acc.set vs.length (.ref p), vs ++ [(v.1, e, d)], rfl, fun b o hb e => ?_, upd_same, ?_, by simpa using hl, hR⟩
  · rw [upd_ne hb]
    exact same_new hp _ _ (k4 b o hb e)
  · have h1 := (da.tk tk).set vs.length (v := .ref p) (d := eVer (v.1, e, d)) (.tup (xs := [.int v.1, ve, dv]) (by rw [upd_ne nV]; exact upd_same) (.cons (.int _) (.cons (dtE _) (.cons (ddv.tk tk) .nil))))
    have h2 : ((vs ++ [v]).map eVer).set vs.length (eVer (v.1, e, d)) = (vs ++ [(v.1, e, d)]).map eVer := by
      rw [← List.map_set, set_last]
    rw [h2] at h1
    exact h1
theorem eqOpt (o : Option Int) (t : Int) : decide (oV o = V.int t) = decide (o = some t) := by
  cases o with
  | none => rfl
  | some z =>
    by_cases h : z = t
    · subst h; simp [oV]
    · simp [oV, h]
section
variable {P : Program} {w : World} {K : PySem.W.Frag} {mg : Str → Option Value} {base : Heap}
def spHist : Sp := fun vs H Q _ => ∃ (a ca : Addr) (es : Ends) (cs : List Chg_) (key : Str), vs = [.ref a, .str key] ∧ Sh K H a ca es cs ∧ key ∈ kset cs ∧
  ∀ q H' (vxs : List V), H q = none → Same H H' → H' q = some (.lst vxs) → DtAll H' vxs ((histOf es cs key).map eVer) → Q (.ref q) H'
theorem con_history (T : Tx K mg) : Con P w K mg base 3 (He.ma K (He.ga K "Shelf") "history") ["self", "key"] (spHist (K := K)) := by
  obtain ⟨fd, F⟩ := T.d_Shelf_history
  obtain ⟨fdc, GC, bC, kC⟩ := (con_counted (P := P) (w := w) (base := base) T).mono (show 1 ≤ 2 by omega)
  obtain ⟨fdd, GD, bD, kD⟩ := con_document_of (P := P) (w := w) (base := base) T
  refine ⟨fd, F.ok sc_Shelf_history (fun vs H Q E h => ?_) (fun cdv A outer s H vs Q E hr h => ?_), F.bindsN fun _ _ _ _ _ _ us hl => match us, hl with | [_, _], _ => rfl, F.kp⟩
  · obtain ⟨a, ca, es, cs, key, rfl, _⟩ := h
    rfl
  · obtain ⟨a, ca, es, cs, key, rfl, S, hkey, k⟩ := h
    obtain ⟨dx, ea, h1, h2⟩ := S.obj
    obtain ⟨cxs, h3, h4⟩ := S.chg
    have nd := sc_Shelf_history.nd
    refine ⟨_, PSs.nox (pss_cons (ps_setLc (i := 2) (own := [("change", 10)]) (g := gName 10) rfl nd rfl rfl (sw_true rfl rfl rfl (by decide +kernel)) (pi_list (pe_call GC hr (by rfl) T.g_counted kC bC .nil pass0 (pa_cons (pe_fld (pv 0) rfl) pa_nil)))
          (blkOk_by (own := [("change", 10)]) (N := ["self", "key", "changes", "versions", "at", "time", "name", "text", "end", "document", "change"]) (sc := defScope s_Shelf_history) (by decide +kernel))
              (fun _ _ _ _ _ => pg_name (i := 10) nd rfl (.inl rfl)) (fun _ _ _ _ _ => pts_one (pt_cmpR op_eq (pe_ix (show IxR _ (rIxT K) from ix_tup) (pv 10) pe_int (fun _ _ => rfl)) (pv 1) (nomark _))) (fun _ _ _ _ _ => pv 10))
      (pss_cons (ps_if (pt_cmpR op_eq (pe_callB call_len_seq (by rfl) T.z_len PySem.boot_len (pa_cons (pv 2) pa_nil)) pe_int (nomark _)) (pss_one ps_never) pss_nil)
      (pss_cons (ps_set (i := 3) nd rfl (.inl rfl) (pe_lst pa_nil))
      (pss_cons (ps_for PassesOwn.never rfl (pi_range1 (by rfl) T.z_range (pa_cons (pe_callB call_len_seq (by rfl) T.z_len PySem.boot_len (pa_cons (pv 2) pa_nil)) pa_nil)) (pg_name (i := 4) nd rfl (.inl rfl))
        (pss_cons (ps_asg (pe_ix ix_list (pv 2) (pv 4) (fun _ _ => rfl)) (pg_tup rfl (pgs_cons (pg_name (i := 5) nd rfl (.inl rfl)) (pgs_cons (pg_name (i := 6) nd rfl (.inl rfl)) (pgs_cons (pg_name (i := 7) nd rfl (.inl rfl)) pgs_nil)))))
        (pss_cons (ps_set (i := 8) nd rfl (.inl rfl) pe_non)
        (pss_cons (ps_if (pt_cmpR op_lt (pe_op op_add (pv 4) pe_int) (pe_callB call_len_seq (by rfl) T.z_len PySem.boot_len (pa_cons (pv 2) pa_nil)) (nomark _))
          (pss_one (ps_set (i := 8) nd rfl (.inl rfl) (pe_ix ix_tup (pe_ix ix_list (pv 2) (pe_op op_add (pv 4) pe_int) (fun _ _ => rfl)) pe_int (fun _ _ => rfl)))) pss_nil)
        (pss_one (ps_if (pt_cmpR op_notN (pv 7) pe_non (nomark _))
          (pss_cons (ps_set (i := 9) nd rfl (.inl rfl) (pe_call GD hr (by rfl) T.g_document_of kD bD .nil pass0 (pa_cons (pv 7) (pa_cons (pe_fld (pv 0) rfl) pa_nil))))
          (pss_one (ps_if (PW.pt (pw_and (pt_cmpR op_gt (pe_callB call_len_seq (by rfl) T.z_len PySem.boot_len (pa_cons (pv 3) pa_nil)) pe_int (nomark _))
              (pw_and (pt_cmpR op_eq (pe_ix ix_tup (pe_ix ix_list (pv 3) (pe_un un_neg pe_int) (fun _ _ => rfl)) pe_int (fun _ _ => rfl)) (pv 5) (nomark _))
              (pw_and1 (pt_cmpR (op_eqT (Room.u64 hr)) (pe_ix ix_tup (pe_ix ix_list (pv 3) (pe_un un_neg pe_int) (fun _ _ => rfl)) pe_int (fun _ _ => rfl)) (pv 9) (nomark _))))))
            (pss_one (ps_asg (pe_tup (pa_cons (pe_ix ix_tup (pe_ix ix_list (pv 3) (pe_un un_neg pe_int) (fun _ _ => rfl)) pe_int (fun _ _ => rfl)) (pa_cons (pv 8) (pa_cons (pv 9) pa_nil)))) (pg_sub (pv 3) (pe_un un_neg pe_int) set_list)))
            (pss_one (ps_expr (pe_bm PySem.F.plainAttrs_list PySem.F.slot_list_append PySem.F.type_list_append mt_append (pv 3) (pa_cons (pe_tup (pa_cons (pv 5) (pa_cons (pv 8) (pa_cons (pv 9) pa_nil)))) pa_nil))))))) pss_nil))))))
      (pss_one (ps_ret (pv 3))))))), ?_⟩
    refine ⟨_, rfl, a, _, dx, _, _, rfl, h1, T.c_Shelf, T.n_Shelf_changes, rfl, ?_⟩
    have h9 := S.len
    refine ⟨ca, cxs, cs, rfl, h3, h4, by omega, fun q H1 ys out hq s1 hq1 dout hC => ?_⟩
    refine ⟨q, rfl, ⟨_, SqL.of hq1⟩, fun D hD => ?_⟩
    have nqD : q ≠ D := ne_of_none hq1 hD
    refine lc_list (K := K) (a := q) (xs := ys) (fun i H2 => ∃ acc, Same H1 H2 ∧ H2 D = some (.lst acc) ∧ DtAll H2 acc (((out.take i).filter fun c => decide (c.2.1 = key)).map eChg))
      ⟨[], same_new hD, upd_same, .nil⟩ (fun i H2 _ ⟨_, s2, _⟩ => SqL.of (s2 _ _ hq1)) ?_ ?_
    · rintro i x H2 hx ⟨acc, s2, hD2, da⟩
      obtain ⟨c, hc, dch⟩ := dout.mget hx
      obtain ⟨b, u1, u2, u3, rfl, hb, hu1, hu2, hu3⟩ := (show Dt H1 x (.tuple [.int c.1, .str c.2.1, eTxt c.2.2]) from dch).t3
      obtain ⟨rfl, _⟩ := hu2.str_inv
      refine ⟨rfl, ?_⟩
      have hol := hC.len
      refine ⟨_, rfl, b, _, _, _, rfl, rfl, SqT.of (s2 _ _ hb), atI_nat (j := 1) rfl, _, rfl, rfl, _, rfl, ?_⟩
      have et := take_snoc hc
      refine ite2 (fun c1 => ?_) (fun c1 => ?_)
      · have e1 : c.2.1 = key := V.str.inj (of_decide_eq_true c1)
        have ef : [c].filter (fun c => decide (c.2.1 = key)) = [c] := by rw [List.filter_cons, if_pos (decide_eq_true e1)]; rfl
        refine ⟨_, rfl, acc, hD2, ?_, acc ++ [.ref b], fun b' o e => ?_, upd_same, ?_⟩
        · have z := da.length
          have y := List.length_filter_le (fun c : Chg_ => decide (c.2.1 = key)) (out.take i)
          rw [List.length_map] at z
          rw [List.length_take] at y
          exact small1000 (by omega)
        · rw [upd_ne (ne_of_none e hD)]
          exact s2 _ _ e
        · have tk : Tk H2 (upd H2 D (.lst (acc ++ [.ref b]))) := tk_put hD2 fun xs z => nomatch z
          rw [et, List.filter_append, ef, List.map_append]
          exact (da.tk tk).append (.cons ((dch.tk (tk_same s2)).tk tk) .nil)
      · have e1 : ¬ c.2.1 = key := fun z => c1 (decide_eq_true (by rw [z]))
        have ef : [c].filter (fun c => decide (c.2.1 = key)) = [] := by rw [List.filter_cons, if_neg (by simpa using e1)]; rfl
        refine ⟨acc, s2, hD2, ?_⟩
        rw [et, List.filter_append, ef, List.append_nil]
        exact da
    · rintro H2 ⟨fxs, s2, hD2, df⟩
      rw [dout.length, List.length_map, List.take_length] at df
      have hF := hC.at_ key
      have hol := hC.len
      have hflt := List.length_filter_le (fun c : Chg_ => decide (c.2.1 = key)) out
      generalize hFe : out.filter (fun c => decide (c.2.1 = key)) = Fl at df hF hflt
      have s02 := s1.trans s2
      have hnD : H D = none := same_none s1 hD
      have okF : ∀ c ∈ Fl, okTxt c.2.2 := fun c hc => by
        have hm : (c.1, c.2.2) ∈ Ts.ckey cs key := by rw [← hF]; exact List.mem_map.mpr ⟨c, hc, rfl⟩
        exact (S.ok _ (Ts.lastOf_some ((Ts.ckey_mem _ _ _ _).mp hm))).2.2.2
      have hFne : Fl.length ≠ 0 := fun z => by
        obtain ⟨c, hc, e⟩ := kset_mem.mp hkey
        have := Ts.ckey_ne hc
        rw [e, ← hF, List.length_eq_zero_iff.mp z] at this
        exact this rfl
      have hfl : fxs.length = Fl.length := by rw [df.length, List.length_map]
      refine ⟨_, rfl, D, _, rfl, .inl (SqL.of hD2), rfl, _, rfl, ?_⟩
      refine iteN (decide_eq_false fun z => by have := V.int.inj z; omega) ?_
      refine ⟨Nat.zero_le _, fun V0 hV0 => ?_⟩
      have nDV : D ≠ V0 := ne_of_none hD2 hV0
      have hV0' := hV0
      have s3 : Same H2 (upd H2 V0 (.lst [])) := same_new hV0
      have hnV : H V0 = none := same_none s02 hV0
      refine ⟨_, rfl, D, _, rfl, .inl (SqL.of (s3 _ _ hD2)), _, rfl, by omega, by omega, ?_⟩
      have eL : hL es (Ts.ckey cs key) = Fl.map fun c => (c.1, c.2.2.map (docOf es)) := by
        rw [← hF]
        unfold hL
        rw [List.map_map]
        rfl
      have hn : ((fxs.length : Nat) : Int).toNat = Fl.length := by omega
      refine for_range (lo := 0) (n := ((fxs.length : Nat) : Int).toNat) (hisInv a D V0 key H2 (hL es (Ts.ckey cs key)) (histOf es cs key))
        ⟨none, none, none, none, none, none, none, [], [], rfl, fun b o hb e => by rw [upd_ne hb]; exact e, upd_same, .nil, Nat.le_refl _, by rw [List.drop_zero]; rfl⟩ ?_ ?_
      · rintro i σ H3 hi ⟨v4, v5, v6, v7, v8, v9, v10, acc, vs, rfl, k3, hV3, da, hvl, hlp⟩
        rw [hn] at hi
        have ez : (0 : Int) + (i : Nat) = ((i : Nat) : Int) := Int.zero_add _
        obtain ⟨y, hy, dy⟩ := df.mat (List.getElem?_eq_getElem hi)
        have hci : Fl[i]? = some Fl[i] := List.getElem?_eq_getElem hi
        have hokc := okF _ (List.getElem_mem hi)
        have hdrop : (hL es (Ts.ckey cs key)).drop i = (Fl[i].1, Fl[i].2.2.map (docOf es)) :: (hL es (Ts.ckey cs key)).drop (i + 1) := by
          rw [eL, List.drop_eq_getElem_cons (by rw [List.length_map]; exact hi), List.getElem_map]
        generalize Fl[i] = c at hy dy hci hokc hdrop
        obtain ⟨b, u1, u2, u3, rfl, hb, hu1, hu2, hu3⟩ := (show Dt H2 y (.tuple [.int c.1, .str c.2.1, eTxt c.2.2]) from dy).t3
        obtain rfl := hu1.int_inv
        obtain ⟨rfl, _⟩ := hu2.str_inv
        obtain rfl := hu3.txt_inv
        have kt : ∀ {b xs}, H2 b = some (.tup xs) → H3 b = some (.tup xs) := fun {b xs} e => k3 _ _ (ne_of_none e hV0) e
        have hD3 : H3 D = some (.lst fxs) := k3 _ _ nDV hD2
        have k03 : ∀ b o, H b = some o → H3 b = some o := fun b o e => k3 b o (ne_of_none e hnV) (s02 _ _ e)
        rw [hdrop] at hlp
        obtain ⟨e, he⟩ : ∃ e, e = ((hL es (Ts.ckey cs key)).drop (i + 1)).head?.map (·.1) := ⟨_, rfl⟩
        have hlp' : Ts.hloop (Ts.hstep vs c.1 e (c.2.2.map (docOf es))) ((hL es (Ts.ckey cs key)).drop (i + 1)) = histOf es cs key := by
          rw [he]; exact hlp
        have hsl := hstep_len vs c.1 e (c.2.2.map (docOf es))
        obtain ⟨ct, ck, cx⟩ := c
        dsimp only at hb hy dy hci hokc hdrop hlp hlp' hu1 hu2 hu3 hsl
        refine ⟨_, rfl, _, rfl, D, _, _, _, rfl, rfl, SqL.of hD3, at_of ez hy, ?_⟩
        refine ⟨b, _, rfl, SqT.of (kt hb), rfl, _, _, rfl, _, _, rfl, _, _, rfl, rfl, ?_⟩
        refine ⟨_, rfl, _, _, rfl, rfl, _, rfl, D, _, rfl, .inl (SqL.of hD3), _, _, rfl, rfl, _, rfl, ?_⟩
        refine ite2 (fun cc => ?br1) (fun cc => ?br2)
        case' br1 =>
          have cc' : i + 1 < Fl.length := by
            have := of_decide_eq_true cc
            omega
          obtain ⟨y2, hy2, dy2⟩ := df.mat (List.getElem?_eq_getElem cc')
          have hel : e = some Fl[i + 1].1 := by
            rw [he, eL, List.drop_eq_getElem_cons (by rw [List.length_map]; exact cc'), List.getElem_map]
            rfl
          obtain ⟨b2, w1, w2, w3, rfl, hb2, hw1, hw2, hw3⟩ := (show Dt H2 y2 (.tuple [.int Fl[i + 1].1, .str Fl[i + 1].2.1, eTxt Fl[i + 1].2.2]) from dy2).t3
          obtain rfl := hw1.int_inv
          have dtE : ∀ H, Dt H (V.int Fl[i + 1].1) (eOpt e) := fun H => by rw [hel]; exact .int _
          have ez2 : (0 : Int) + (i : Nat) + 1 = ((i + 1 : Nat) : Int) := by omega
          refine ⟨_, rfl, _, rfl, _, _, rfl, rfl, D, _, _, _, rfl, rfl, SqL.of hD3, at_of ez2 hy2, b2, _, _, _, rfl, rfl, SqT.of (kt hb2), atI_nat (j := 0) rfl, ?_⟩
        case' br2 =>
          have cc' : ¬ i + 1 < Fl.length := fun z => cc (decide_eq_true (by omega))
          have hel : e = none := by
            rw [he, eL, List.drop_eq_nil_of_le (by rw [List.length_map]; omega)]
            rfl
          have dtE : ∀ H, Dt H V.non (eOpt e) := fun H => by rw [hel]; exact .non
        all_goals
          cases cx with
          | none =>
            refine ⟨_, rfl, ?_⟩
            refine ⟨rfl, false, rfl, iteF ?_⟩
            exact ⟨_, _, _, _, _, _, _, acc, vs, rfl, k3, hV3, da, by omega, hlp'⟩
          | some t =>
            have hokt : okText t := hokc
            refine ⟨_, rfl, ?_⟩
            refine ⟨rfl, true, rfl, iteT ?_⟩
            refine ⟨_, rfl, _, rfl, a, _, dx, _, _, rfl, k03 _ _ h1, T.c_Shelf, T.n_Shelf_endings, rfl, t, .ref ea, es, rfl, h2.tk (fun b xs e => k03 b _ e), S.e10, okText.str hokt, hokt.1, fun dv H4 s4 ddv => ?_⟩
            have hV4 := s4 _ _ hV3
            have da4 := da.tk (tk_same s4)
            have k4 : ∀ b o, b ≠ V0 → H2 b = some o → H4 b = some o := fun b o hb e => s4 _ _ (k3 b o hb e)
            have haccl : acc.length ≤ 100 := by rw [da.length, List.length_map]; omega
            refine ⟨_, rfl, V0, _, rfl, .inl (SqL.of hV4), _, _, rfl, rfl, _, rfl, ?_⟩
            rcases List.eq_nil_or_concat vs with rfl | ⟨vs', v, rfl⟩
            · have hacc0 : acc.length = 0 := by rw [da.length]; rfl
              refine iteN (decide_eq_false (by omega)) ?_
              refine iteF ?_
              refine ⟨_, rfl, .inl ⟨rfl, _, SqL.of hV4⟩, _, rfl, _, rfl, _, rfl, (by show 3 ≤ sizeLine; decide), fun p hp => ?_⟩
              exact ⟨V0, acc, _, rfl, rfl, same_new hp _ _ hV4, small1000 (by omega), his_app k4 hV4 da4 hp dtE ddv (by simp) hlp'⟩
            · rw [List.concat_eq_append] at da4 hvl hlp'
              rw [Option.map_some] at hlp'
              have hal : acc.length = vs'.length + 1 := by rw [da4.length, List.length_map, List.length_append]; rfl
              obtain ⟨y', hy', dy'⟩ := da4.mat (x := v) (i := vs'.length) (by simp)
              have hat : atI acc (-1) = some y' := by
                unfold atI
                rw [hal, ixN_last]
                exact hy'
              rw [hstep_snoc] at hlp'
              obtain ⟨b3, x1, x2, x3, rfl, hb3, hx1, hx2, hx3⟩ := (show Dt H4 y' (.tuple [.int v.1, eOpt v.2.1, eDoc v.2.2]) from dy').t3
              obtain rfl := hx1.int_inv
              obtain rfl := hx2.opt_inv
              refine iteY (decide_eq_true (by omega)) ?_
              refine ⟨_, rfl, 1, rfl, V0, acc, -1, _, rfl, rfl, SqL.of hV4, hat, b3, _, _, _, rfl, rfl, SqT.of hb3, atI_nat (j := 1) rfl, _, rfl, by cases v.2.1 <;> rfl, _, rfl, ?_⟩
              rw [eqOpt]
              refine ite2 (fun c2 => ?_) (fun c2 => ?_)
              · have c2' : v.2.1 = some ct := of_decide_eq_true c2
                refine ⟨_, rfl, 1, rfl, V0, acc, -1, _, rfl, rfl, SqL.of hV4, hat, b3, _, _, _, rfl, rfl, SqT.of hb3, atI_nat (j := 2) rfl, _, rfl, _, _, hx3, ddv, Nat.le_trans (depth_doc _) (by decide), Nat.le_trans (depth_doc _) (by decide), _, rfl, ?_⟩
                refine ite2 (fun c3 => ?_) (fun c3 => ?_)
                · have c3' : v.2.2 = docOf es t := eDoc_inj ((eqv_iff hx3 ddv).mp c3)
                  rw [if_pos ⟨c2', c3'⟩] at hlp'
                  refine ⟨_, rfl, 1, rfl, V0, acc, -1, _, rfl, rfl, SqL.of hV4, hat, b3, _, _, _, rfl, rfl, SqT.of hb3, atI_nat (j := 0) rfl, _, rfl, _, rfl, (by show 3 ≤ sizeLine; decide), fun p hp => ?_⟩
                  exact ⟨_, rfl, 1, rfl, V0, acc, -1, vs'.length, rfl, rfl, same_new hp _ _ hV4, by rw [hal]; exact ixN_last _, his_rep k4 hV4 da4 hp dtE ddv (by rw [List.length_append] at hvl; exact Nat.le_trans hvl (Nat.le_succ _)) hlp'⟩
                · have c3' : ¬ (v.2.1 = some ct ∧ v.2.2 = docOf es t) := fun z => c3 ((eqv_iff hx3 ddv).mpr (by rw [z.2]))
                  rw [if_neg c3'] at hlp'
                  refine ⟨_, rfl, .inl ⟨rfl, _, SqL.of hV4⟩, _, rfl, _, rfl, _, rfl, (by show 3 ≤ sizeLine; decide), fun p hp => ?_⟩
                  exact ⟨V0, acc, _, rfl, rfl, same_new hp _ _ hV4, small1000 (by omega), his_app k4 hV4 da4 hp dtE ddv (by omega) hlp'⟩
              · have c3' : ¬ (v.2.1 = some ct ∧ v.2.2 = docOf es t) := fun z => c2 (decide_eq_true z.1)
                rw [if_neg c3'] at hlp'
                refine iteF ?_
                refine ⟨_, rfl, .inl ⟨rfl, _, SqL.of hV4⟩, _, rfl, _, rfl, _, rfl, (by show 3 ≤ sizeLine; decide), fun p hp => ?_⟩
                exact ⟨V0, acc, _, rfl, rfl, same_new hp _ _ hV4, small1000 (by omega), his_app k4 hV4 da4 hp dtE ddv (by omega) hlp'⟩
      · rintro σ H3 ⟨v4, v5, v6, v7, v8, v9, v10, acc, vs, rfl, k3, hV3, da, hvl, hlp⟩
        rw [hn, eL, List.drop_eq_nil_of_le (by rw [List.length_map]; exact Nat.le_refl _)] at hlp
        have e : vs = histOf es cs key := hlp
        rw [e] at da
        exact ⟨_, rfl, k V0 H3 acc hnV (fun b o e => k3 b o (ne_of_none e hnV) (s02 _ _ e)) hV3 da⟩
end
end Tsf
/-! shelves.Shelf.plain_answer -/
namespace Tsf
open PySem PySem.Spec PyProof.Rows L2
theorem hloop_docs : ∀ {l : List (Int × Option Doc)} {vs : List Ver_} {v : Ver_}, v ∈ Ts.hloop vs l → (∃ u ∈ vs, u.2.2 = v.2.2) ∨ ∃ t, (t, some v.2.2) ∈ l
  | [], vs, v, h => .inl ⟨v, h, rfl⟩
  | (t, x) :: r, vs, v, h => by
    rcases hloop_docs (l := r) h with ⟨u, hu, e⟩ | ⟨t', h'⟩
    · cases x with
      | none => exact .inl ⟨u, hu, e⟩
      | some d =>
        have key : u.2.2 = d ∨ u ∈ vs := by
          unfold Ts.hstep at hu
          dsimp only at hu
          split at hu
          · split at hu
            · rcases List.mem_append.mp hu with hu | hu
              · exact .inr ((List.dropLast_sublist _).mem hu)
              · rw [List.mem_singleton.mp hu]; exact .inl rfl
            · rcases List.mem_append.mp hu with hu | hu
              · exact .inr hu
              · rw [List.mem_singleton.mp hu]; exact .inl rfl
          · rcases List.mem_append.mp hu with hu | hu
            · exact .inr hu
            · rw [List.mem_singleton.mp hu]; exact .inl rfl
        rcases key with e' | hu
        · refine .inr ⟨t, ?_⟩
          rw [← e, e']
          exact List.mem_cons_self ..
        · exact .inl ⟨u, hu, e⟩
    · exact .inr ⟨t', List.mem_cons_of_mem _ h'⟩
theorem hloop_len : ∀ (l : List (Int × Option Doc)) (vs : List Ver_), (Ts.hloop vs l).length ≤ vs.length + l.length
  | [], vs => Nat.le_refl _
  | (t, x) :: r, vs => by
    have h1 := hloop_len r (Ts.hstep vs t (r.head?.map (·.1)) x)
    have h2 := hstep_len vs t (r.head?.map (·.1)) x
    rw [List.length_cons]
    show (Ts.hloop (Ts.hstep vs t (r.head?.map (·.1)) x) r).length ≤ _
    omega
theorem ins_len {α : Type} (t : Int) (x : α) : ∀ l : List (Int × α), (Ts.ins t x l).length ≤ l.length + 1
  | [] => Nat.le_refl _
  | (u, y) :: r => by
    unfold Ts.ins
    split
    · rw [List.length_cons, List.length_cons]; omega
    · split
      · rw [List.length_cons, List.length_cons]; omega
      · rw [List.length_cons, List.length_cons]
        have := ins_len t x r
        omega
theorem ckey_len (cs : List Chg_) (k : Str) : (Ts.ckey cs k).length ≤ (cs.filter fun c => decide (c.2.1 = k)).length := by
  induction cs using Ts.snoc_ind with
  | h0 => exact Nat.le_refl _
  | h1 l c ih =>
    rw [Ts.ckey_snoc, List.filter_append, List.length_append]
    by_cases h : c.2.1 = k
    · rw [if_pos h, List.filter_cons, if_pos (by simpa using h)]
      have := ins_len c.1 c.2.2 (Ts.ckey l k)
      simp
      omega
    · rw [if_neg h]
      omega
theorem hL_up {es : Ends} {l : List (Int × Option Str)} (h : Ts.Up l) : Ts.Up (hL es l) := by
  unfold Ts.Up hL
  rw [List.pairwise_map]
  exact h
/-- what is known of a history -/
structure HistOk (es : Ends) (cs : List Chg_) (key : Str) (vs : List Ver_) : Prop where
  docs : ∀ v ∈ vs, ∃ t, okText t ∧ v.2.2 = docOf es t
  len : vs.length ≤ (cs.filter fun c => decide (c.2.1 = key)).length
  ends : ∀ v ∈ vs, ∀ z, v.2.1 = some z → v.1 < z
  start : StartsTell vs
theorem hist_ok {es : Ends} {cs : List Chg_} (ok : ∀ c ∈ cs, okChg c) (key : Str) : HistOk es cs key (histOf es cs key) := by
  have up := hL_up (es := es) (Ts.ckey_up cs key)
  refine ⟨fun v hv => ?_, ?_, fun v hv z e => (Ts.hist_inv up).ends v hv z e, fun u hu v hv e => Ts.hist_start up hu hv e⟩
  · rcases hloop_docs hv with ⟨u, hu, _⟩ | ⟨t, ht⟩
    · cases hu
    · obtain ⟨p, hp, e⟩ := List.mem_map.mp ht
      have hok := (ok _ (Ts.lastOf_some ((Ts.ckey_mem _ _ _ _).mp hp))).2.2.2
      obtain ⟨a, b⟩ := p
      cases b with
      | none => cases congrArg Prod.snd e
      | some x =>
        have e2 : some (docOf es x) = some v.2.2 := congrArg Prod.snd e
        exact ⟨x, hok, (Option.some.inj e2).symm⟩
  · have h1 := hloop_len (hL es (Ts.ckey cs key)) []
    have h2 := ckey_len cs key
    have h3 : (hL es (Ts.ckey cs key)).length = (Ts.ckey cs key).length := List.length_map _
    rw [h3] at h1
    have h4 : ([] : List Ver_).length = 0 := rfl
    show (Ts.hloop [] (hL es (Ts.ckey cs key))).length ≤ _
    omega
theorem doc_len {es : Ends} {t : Str} (h : okText t) : (docOf es t).length ≤ 61 := by
  have h1 := docOf_len es (okText.str h)
  have h2 := h.1
  omega
/-- what the plain answer's dict holds of the keys l -/
structure PAns (H : Hp) (es : Ends) (cs : List Chg_) (q : Q_) (l : List Str) (ks : List Str) (ft : Key → V) : Prop where
  nd : ks.Nodup
  mem : ∀ k, k ∈ ks ↔ k ∈ l ∧ ∃ v ∈ histOf es cs k, Ts.matchD fitsS v.2.2 q = true
  tl : ∀ k ∈ ks, ∃ r, Dt H (ft (Sum.inr k)) (eInts r) ∧ Ts.Rise r ∧ ∀ x, Ts.isIn r x = (histOf es cs k).any fun v => Ts.matchD fitsS v.2.2 q && Ts.isIn (Ts.ofSpan v.1 v.2.1) x
theorem PAns.tk {H H' : Hp} {es : Ends} {cs : List Chg_} {q : Q_} {l ks : List Str} {ft : Key → V} (A : PAns H es cs q l ks ft) (k : Tk H H') : PAns H' es cs q l ks ft :=
  ⟨A.nd, A.mem, fun x hx => by obtain ⟨r, a, b, c⟩ := A.tl x hx; exact ⟨r, a.tk k, b, c⟩⟩
theorem span_start {v : Ver_} (h : ∀ z, v.2.1 = some z → v.1 < z) : Ts.isIn (Ts.ofSpan v.1 v.2.1) v.1 = true := by
  rw [Ts.ofSpan_in h]
  unfold Ts.inSpan
  cases e : v.2.1 with
  | none => simp
  | some z =>
    have := h z e
    simp [this]
section
variable {P : Program} {w : World} {K : PySem.W.Frag} {mg : Str → Option Value} {base : Heap}
def spPlain (n : Nat) : Sp := fun vs H Q _ => ∃ (a ca : Addr) (es : Ends) (cs : List Chg_) (qv : V) (q : Q_), vs = [.ref a, qv] ∧ Sh K H a ca es cs ∧ Dt H qv (eQn q) ∧ fine q ∧ q.depth < n ∧
  ∀ ad H' ks ft, H ad = none → Same H H' → H' ad = some (.dK (aKvs ks ft)) → PAns H' es cs q (kset cs) ks ft → Q (.ref ad) H'
theorem con_plain (T : Tx K mg) (n : Nat) : Con P w K mg base (4 + n) (He.ma K (He.ga K "Shelf") "plain_answer") ["self", "question"] (spPlain (K := K) n) := by
  obtain ⟨fd, F⟩ := T.d_Shelf_plain_answer
  obtain ⟨fdm, GM, bM, kM⟩ := con_matches (P := P) (w := w) (base := base) T n
  obtain ⟨fdk, GK, bK, kK⟩ := (con_known_keys (P := P) (w := w) (base := base) T).mono (show 1 ≤ 3 + n by omega)
  obtain ⟨fdh, GH, bH, kH⟩ := (con_history (P := P) (w := w) (base := base) T).mono (show 3 ≤ 3 + n by omega)
  obtain ⟨fdj, GJ, bJ, kJ⟩ := (con_join (P := P) (w := w) (base := base) T).mono (show 3 ≤ 3 + n by omega)
  obtain ⟨fdo, GO, bO, kO⟩ := (con_of_span (P := P) (w := w) (base := base) T).mono (show 1 ≤ 3 + n by omega)
  have e : 4 + n = (3 + n) + 1 := by omega
  rw [e]
  refine ⟨fd, F.ok sc_Shelf_plain_answer (fun vs H Q E h => ?_) (fun cdv A outer s H vs Q E hr h => ?_), F.bindsN fun _ _ _ _ _ _ us hl => match us, hl with | [_, _], _ => rfl, F.kp⟩
  · obtain ⟨a, ca, es, cs, qv, q, rfl, _⟩ := h
    rfl
  · obtain ⟨a, ca, es, cs, qv, q, rfl, S, hq, hf, hd, k⟩ := h
    obtain ⟨dx, ea, h1, h2⟩ := S.obj
    have nd := sc_Shelf_plain_answer.nd
    refine ⟨_, PSs.nox (pss_cons (ps_set (i := 2) nd rfl (.inl rfl) pe_dnewK)
      (pss_cons (ps_for PassesOwn.never rfl (pi_list (pe_meth0 (pv 0) T.c_Shelf T.m_Shelf_known_keys GK hr bK .nil pass0)) (pg_name (i := 3) nd rfl (.inl rfl))
        (pss_cons (ps_set (i := 4) nd rfl (.inl rfl) (pe_tup pa_nil))
        (pss_cons (ps_for PassesOwn.never rfl (pi_list (pe_meth (pv 0) T.c_Shelf T.m_Shelf_history GH hr bH .nil pass0 (pa_cons (pv 3) pa_nil))) (pg_tup rfl (pgs_cons (pg_name (i := 5) nd rfl (.inl rfl)) (pgs_cons (pg_name (i := 6) nd rfl (.inl rfl)) (pgs_cons (pg_name (i := 7) nd rfl (.inl rfl)) pgs_nil))))
          (pss_one (ps_if (pt_val (pe_call GM hr (by rfl) T.g_matches kM bM .nil pass0 (pa_cons (pv 7) (pa_cons (pv 1) pa_nil))))
            (pss_one (ps_set (i := 4) nd rfl (.inl rfl) (pe_call GJ hr (by rfl) T.g_join kJ bJ .nil pass0 (pa_cons (pv 4) (pa_cons (pe_call GO hr (by rfl) T.g_of_span kO bO .nil pass0 (pa_cons (pv 5) (pa_cons (pv 6) pa_nil))) pa_nil))))) pss_nil)))
        (pss_one (ps_if (pt_cmpR op_gt (pe_callB call_len_seq (by rfl) T.z_len PySem.boot_len (pa_cons (pv 4) pa_nil)) pe_int (nomark _))
          (pss_one (ps_dput (Room.u1 hr) (pv 2) (pv 3) (pv 4) rfl)) pss_nil)))))
      (pss_one (ps_ret (pv 2))))), ?_⟩
    intro ad had
    have s0 : Same H (upd H ad (.dK [])) := same_new had
    refine ⟨_, rfl, a, dx, _, rfl, s0 _ _ h1, rfl, a, ca, es, cs, rfl, S.same s0, fun kq H1 kl hkq s1 hkl hperm => ?_⟩
    have s01 := s0.trans s1
    have had1 : H1 ad = some (.dK []) := s1 _ _ upd_same
    have nad : ad ≠ kq := ne_of_none (upd_same (H := H) (a := ad) (o := .dK [])) hkq
    have hset : ∀ k ∈ kl, k ∈ kset cs := fun k hk => hperm.mem_iff.mp hk
    have hkll : kl.length ≤ 9 := by
      have h3 := kset_len cs
      have h4 := S.len
      rw [hperm.length_eq]; omega
    refine ⟨kq, rfl, ⟨_, SqL.of hkl⟩, ?_⟩
    refine for_list (K := K) (a := kq) (xs := kl.map V.str) (fun i σ H2 => ∃ (v3 v4 v5 v6 v7 : Option V) (ks : List Str) (ft : Key → V), σ = [some (.ref a), some qv, some (.ref ad), v3, v4, v5, v6, v7] ∧ (∀ b o, b ≠ ad → H1 b = some o → H2 b = some o) ∧ H2 ad = some (.dK (aKvs ks ft)) ∧ PAns H2 es cs q (kl.take i) ks ft)
      ⟨none, none, none, none, none, [], fun _ => .non, rfl, fun b o _ e => e, had1, ⟨List.nodup_nil, fun k => by simp, fun k hk => absurd hk (by simp)⟩⟩ (fun i σ H2 _ ⟨_, _, _, _, _, _, _, _, s2, _⟩ => SqL.of (s2 _ _ nad.symm hkl)) ?_ ?_
    · rintro i x σ H2 hx ⟨v3, v4, v5, v6, v7, ks, ft, rfl, s2, had2, A2⟩
      obtain ⟨key, hkey, rfl⟩ : ∃ z, kl[i]? = some z ∧ x = V.str z := by
        rw [List.getElem?_map] at hx
        cases e : kl[i]? with
        | none => rw [e] at hx; cases hx
        | some z => rw [e] at hx; exact ⟨z, rfl, (Option.some.inj hx).symm⟩
      have hkm := hset key (List.mem_of_getElem? hkey)
      have hi : i < kl.length := (List.getElem?_eq_some_iff.mp hkey).1
      have S02 : Same H H2 := fun b o e => s2 b o (ne_of_none e had) (s01 _ _ e)
      have HK := hist_ok (es := es) S.ok key
      have hvl : (histOf es cs key).length ≤ 9 := by
        have h3 := List.length_filter_le (fun c : Chg_ => decide (c.2.1 = key)) cs
        have h4 := S.len
        have h5 := HK.len
        omega
      refine ⟨Nat.zero_le _, fun tp htp => ?_⟩
      have s3 : Same H2 (upd H2 tp (.tup [])) := same_new htp
      refine ⟨_, rfl, a, dx, _, rfl, s3 _ _ (S02 _ _ h1), rfl, _, rfl, a, ca, es, cs, key, rfl, S.same (S02.trans s3), hkm, fun hq' H4 vxs hhq s4 hh4 dh => ?_⟩
      have s24 := s3.trans s4
      refine ⟨hq', rfl, ⟨_, SqL.of hh4⟩, ?_⟩
      refine for_list (K := K) (a := hq') (xs := vxs) (fun j σ H5 => ∃ (tv : V) (v5 v6 v7 : Option V) (r : List Int), σ = [some (.ref a), some qv, some (.ref ad), some (.str key), some tv, v5, v6, v7] ∧ Same H4 H5 ∧ Dt H5 tv (eInts r) ∧ Ts.Rise r ∧ r.length ≤ 2 * j ∧
          ∀ x, Ts.isIn r x = ((histOf es cs key).take j).any fun v => Ts.matchD fitsS v.2.2 q && Ts.isIn (Ts.ofSpan v.1 v.2.1) x)
        ⟨.ref tp, v5, v6, v7, [], rfl, Same.refl H4, .tup (s4 _ _ upd_same) .nil, List.Pairwise.nil, Nat.zero_le _, fun x => rfl⟩ (fun j σ H5 _ ⟨_, _, _, _, _, _, s5, _⟩ => SqL.of (s5 _ _ hh4)) ?_ ?_
      · rintro j y σ H5 hy ⟨tv, v5', v6', v7', r, rfl, s5, dtv, hr5, hl5, hin5⟩
        obtain ⟨v, hv, dv⟩ := dh.mget hy
        obtain ⟨b, u1, u2, u3, rfl, hb, hu1, hu2, hu3⟩ := (show Dt H4 y (.tuple [.int v.1, eOpt v.2.1, eDoc v.2.2]) from dv).t3
        obtain rfl := hu1.int_inv
        obtain rfl := hu2.opt_inv
        have hvm := List.mem_of_getElem? hv
        have hj : j < (histOf es cs key).length := (List.getElem?_eq_some_iff.mp hv).1
        obtain ⟨t, hokt, edoc⟩ := HK.docs v hvm
        have hdl : v.2.2.length ≤ 61 := by rw [edoc]; exact doc_len hokt
        refine ⟨b, _, rfl, SqT.of (s5 _ _ hb), rfl, _, _, rfl, _, _, rfl, _, _, rfl, rfl, ?_⟩
        refine ⟨_, rfl, _, rfl, u3, qv, v.2.2, q, rfl, hu3.tk (tk_same s5), hq.tk (tk_same ((S02.trans s24).trans s5)), hf, hd, by omega, fun H6 s6 => ⟨_, rfl, ?_⟩⟩
        refine ite2 (fun c => ?_) (fun c => ?_)
        · refine ⟨_, rfl, _, rfl, _, rfl, v.1, v.2.1, rfl, fun sv H7 s7 dsv => ?_⟩
          have l2 := ofSpan_len v.1 v.2.1
          refine ⟨tv, sv, r, _, rfl, dtv.tk (tk_same (s6.trans s7)), dsv, by omega, fun jv H8 r' s8 djv hr8 hin8 hl8 => ?_⟩
          refine ⟨jv, _, _, _, r', rfl, ((s5.trans s6).trans s7).trans s8, djv, hr8, by omega, fun x => ?_⟩
          rw [hin8, hin5, take_snoc hv, List.any_append]
          simp [c]
        · refine ⟨tv, _, _, _, r, rfl, s5.trans s6, dtv.tk (tk_same s6), hr5, by omega, fun x => ?_⟩
          have c' : Ts.matchD fitsS v.2.2 q = false := by
            cases z : Ts.matchD fitsS v.2.2 q with
            | false => rfl
            | true => exact absurd z c
          rw [hin5, take_snoc hv, List.any_append]
          simp [c']
      · rintro σ H5 ⟨tv, v5', v6', v7', r, rfl, s5, dtv, hr5, hl5, hin5⟩
        rw [dh.length, List.length_map, List.take_length] at hin5
        obtain ⟨ta, txs, rfl, hta, htx⟩ := dtv.tupN
        have htl : txs.length = r.length := by rw [htx.length, List.length_map]
        have s25 := s24.trans s5
        have had5 : H5 ad = some (.dK (aKvs ks ft)) := s25 _ _ had2
        have fr : ∀ b o, b ≠ ad → H1 b = some o → H5 b = some o := fun b o hb e => s25 _ _ (s2 b o hb e)
        have A5 := A2.tk (tk_same s25)
        refine ⟨_, rfl, ta, _, rfl, .inr (SqT.of hta), _, _, rfl, rfl, _, rfl, ?_⟩
        refine ite2 (fun c => ?_) (fun c => ?_)
        · have hpos : 0 < r.length := by
            have := of_decide_eq_true c
            omega
          have hex : ∃ v ∈ histOf es cs key, Ts.matchD fitsS v.2.2 q = true := by
            cases hr' : r with
            | nil => rw [hr'] at hpos; exact absurd hpos (by decide)
            | cons z rr =>
              have e1 : Ts.isIn r z = true := by
                rw [hr'] at hr5 ⊢
                have h3 := List.pairwise_cons.mp hr5
                have e : Ts.cnt (z :: rr) z = 1 := by
                  rw [Ts.cnt_cons, if_pos (Int.le_refl _), Ts.cnt_none h3.1]
                unfold Ts.isIn
                rw [e]
                rfl
              rw [hin5, List.any_eq_true] at e1
              obtain ⟨v, hv, h3⟩ := e1
              exact ⟨v, hv, ((Bool.and_eq_true _ _).mp h3).1⟩
          have tkp : Tk H5 (upd H5 ad (.dK (putK (aKvs ks ft) (Sum.inr key) (.ref ta)))) := tk_put had5 fun xs z => nomatch z
          refine ⟨_, rfl, _, rfl, _, rfl, ad, _, rfl, .inl ⟨_, Sum.inr key, had5, rfl, ?_, rfl⟩, _, _, _, _, _, add ks key, (fun j => if j = Sum.inr key then .ref ta else ft j), rfl, fun b o hb e => by rw [upd_ne hb]; exact fr b o hb e, ?_, ?_⟩
          · rw [List.length_map, List.length_map]
            have h3 := nodup_le (m := kl.take i) A2.nd fun k' hk' => ((A2.mem k').mp hk').1
            rw [List.length_take] at h3
            exact small1000 (by omega)
          · rw [upd_same, putK_add, add_map (g := (Sum.inr : Str → Key)) fun a b e => Sum.inr.inj e]
          · rw [take_snoc hkey]
            refine ⟨nodup_add A2.nd, fun k' => ?_, fun k' hk' => ?_⟩
            · rw [mem_add, A2.mem, List.mem_append, List.mem_singleton]
              constructor
              · rintro (⟨h3, h4⟩ | rfl)
                · exact ⟨.inl h3, h4⟩
                · exact ⟨.inr rfl, hex⟩
              · rintro ⟨h3 | h3, h4⟩
                · exact .inl ⟨h3, h4⟩
                · exact .inr h3
            · by_cases e : k' = key
              · subst e
                rw [if_pos rfl]
                exact ⟨r, dtv.tk tkp, hr5, hin5⟩
              · rcases mem_add.mp hk' with h3 | h3
                · obtain ⟨r', a', b', c'⟩ := A5.tl k' h3
                  rw [if_neg fun z => e (Sum.inr.inj z)]
                  exact ⟨r', a'.tk tkp, b', c'⟩
                · exact absurd h3 e
        · have hnil : ∀ v ∈ histOf es cs key, ¬ Ts.matchD fitsS v.2.2 q = true := fun v hv hm => by
            have e1 : Ts.isIn r v.1 = true := by
              rw [hin5, List.any_eq_true]
              exact ⟨v, hv, by rw [hm, span_start (HK.ends v hv)]; rfl⟩
            have h3 := Ts.rise_ne_nil e1
            have h4 : 0 < r.length := List.length_pos_iff.mpr h3
            exact c (decide_eq_true (by omega))
          refine ⟨_, _, _, _, _, ks, ft, rfl, fr, had5, ?_⟩
          rw [take_snoc hkey]
          refine ⟨A5.nd, fun k' => ?_, A5.tl⟩
          rw [A5.mem, List.mem_append, List.mem_singleton]
          constructor
          · rintro ⟨h3, h4⟩
            exact ⟨.inl h3, h4⟩
          · rintro ⟨h3 | h3, v, hv, h4⟩
            · exact ⟨h3, v, hv, h4⟩
            · rw [h3] at hv
              exact absurd h4 (hnil v hv)
    · rintro σ H2 ⟨v3, v4, v5, v6, v7, ks, ft, rfl, s2, had2, A2⟩
      rw [List.length_map, List.take_length] at A2
      refine ⟨_, rfl, k ad H2 ks ft had (fun b o e => s2 b o (ne_of_none e had) (s01 _ _ e)) had2 ⟨A2.nd, fun k => ?_, A2.tl⟩⟩
      rw [A2.mem, hperm.mem_iff]
end
end Tsf
/-! The postings and places of all keys, plain. -/
namespace Tsf
open PySem PySem.Spec PyProof.Rows L2
theorem nodup_flatMap {α β : Type} {f : α → List β} : ∀ {l : List α}, l.Nodup → (∀ a ∈ l, (f a).Nodup) → (∀ a ∈ l, ∀ b ∈ l, ∀ x, x ∈ f a → x ∈ f b → a = b) → (l.flatMap f).Nodup
  | [], _, _, _ => List.nodup_nil
  | a :: l, h, h1, h2 => by
    have h' := List.nodup_cons.mp h
    rw [List.flatMap_cons]
    refine List.nodup_append.mpr ⟨h1 a (List.mem_cons_self ..), nodup_flatMap h'.2 (fun b hb => h1 b (List.mem_cons_of_mem _ hb)) (fun b hb c hc => h2 b (List.mem_cons_of_mem _ hb) c (List.mem_cons_of_mem _ hc)), fun x hx y hy e => ?_⟩
    subst e
    obtain ⟨b, hb, hxb⟩ := List.mem_flatMap.mp hy
    have := h2 a (List.mem_cons_self ..) b (List.mem_cons_of_mem _ hb) x hx hxb
    subst this
    exact h'.1 hb
theorem sum_zero : ∀ ks : List Str, (ks.map fun k => (([] : List Chg_).filter fun c => decide (c.2.1 = k)).length).sum = 0
  | [] => rfl
  | k :: ks => by rw [List.map_cons, List.sum_cons, sum_zero ks]; rfl
theorem sum_keys (cs : List Chg_) : ∀ {ks : List Str}, ks.Nodup → (ks.map fun k => (cs.filter fun c => decide (c.2.1 = k)).length).sum ≤ cs.length := by
  induction cs with
  | nil =>
    intro ks _
    exact Nat.le_of_eq (sum_zero ks)
  | cons c cs ih =>
    intro ks h
    have h1 := ih h
    have key : ∀ {ks : List Str}, ks.Nodup → (ks.map fun k => ((c :: cs).filter fun c => decide (c.2.1 = k)).length).sum ≤ (ks.map fun k => (cs.filter fun c => decide (c.2.1 = k)).length).sum + (if c.2.1 ∈ ks then 1 else 0) := by
      intro ks
      induction ks with
      | nil => intro _; exact Nat.le_refl _
      | cons k ks ih2 =>
        intro hn
        have hn' := List.nodup_cons.mp hn
        have h2 := ih2 hn'.2
        rw [List.map_cons, List.sum_cons, List.map_cons, List.sum_cons]
        by_cases e : c.2.1 = k
        · have e1 : ¬ c.2.1 ∈ ks := by rw [e]; exact hn'.1
          rw [if_neg e1] at h2
          rw [if_pos (by rw [e]; exact List.mem_cons_self ..), List.filter_cons, if_pos (by simpa using e), List.length_cons]
          omega
        · rw [List.filter_cons, if_neg (by simpa using e)]
          by_cases e1 : c.2.1 ∈ ks
          · rw [if_pos e1] at h2
            rw [if_pos (List.mem_cons_of_mem _ e1)]
            omega
          · rw [if_neg e1] at h2
            rw [if_neg fun z => by
              rcases List.mem_cons.mp z with z | z
              · exact e z
              · exact e1 z]
            omega
    have h2 := key h
    rw [List.length_cons]
    split at h2 <;> omega
def allP (es : Ends) (cs : List Chg_) : List Post := (kset cs).flatMap fun k => posts k (histOf es cs k)
def allV (es : Ends) (cs : List Chg_) : List Plc := (kset cs).flatMap fun k => plcs k (histOf es cs k)
theorem hist_none {es : Ends} {cs : List Chg_} {k : Str} (h : k ∉ kset cs) : histOf es cs k = [] := by
  have e : Ts.ckey cs k = [] := by
    cases e : Ts.ckey cs k with
    | nil => rfl
    | cons p r =>
      have h1 : (p.1, p.2) ∈ Ts.ckey cs k := by rw [e]; exact List.mem_cons_self ..
      have h2 := Ts.lastOf_some ((Ts.ckey_mem _ _ _ _).mp h1)
      exact absurd (kset_mem.mpr ⟨_, h2, rfl⟩) h
  unfold histOf
  rw [e]
  rfl
theorem hist_other {es : Ends} {cs : List Chg_} {c : Chg_} {k : Str} (h : c.2.1 ≠ k) : histOf es (cs ++ [c]) k = histOf es cs k := by
  unfold histOf
  rw [Ts.ckey_other _ _ h]
theorem hist_key {es : Ends} {cs : List Chg_} {k : Str} {v : Ver_} (h : v ∈ histOf es cs k) : k ∈ kset cs := by
  by_cases q : k ∈ kset cs
  · exact q
  · rw [hist_none q] at h; cases h
theorem mem_allP {es : Ends} {cs : List Chg_} {p : Post} : p ∈ allP es cs ↔ p ∈ posts p.2.1 (histOf es cs p.2.1) := by
  unfold allP
  rw [List.mem_flatMap]
  constructor
  · rintro ⟨k, hk, h⟩
    obtain ⟨v, hv, x, hx, e⟩ := posts_mem.mp h
    have : p.2.1 = k := by rw [e]
    rw [this]
    exact h
  · intro h
    obtain ⟨v, hv, _⟩ := posts_mem.mp h
    exact ⟨_, hist_key hv, h⟩
theorem posts_key {k : Str} {vs : List Ver_} {p : Post} (h : p ∈ posts k vs) : p.2.1 = k := by
  obtain ⟨v, hv, x, hx, e⟩ := posts_mem.mp h
  rw [e]
theorem mem_allV {es : Ends} {cs : List Chg_} {p : Plc} : p ∈ allV es cs ↔ ∃ v ∈ histOf es cs p.1, p = (p.1, v.1, v.2.1) := by
  unfold allV
  rw [List.mem_flatMap]
  constructor
  · rintro ⟨k, hk, h⟩
    obtain ⟨v, hv, rfl⟩ := List.mem_map.mp h
    exact ⟨v, hv, rfl⟩
  · rintro ⟨v, hv, e⟩
    exact ⟨_, hist_key hv, List.mem_map.mpr ⟨v, hv, e.symm⟩⟩
theorem allP_pk {es : Ends} {cs : List Chg_} (ok : ∀ c ∈ cs, okChg c) {p q : Post} (hp : p ∈ allP es cs) (hq : q ∈ allP es cs) (e : pk p = pk q) : p = q := by
  have h1 := mem_allP.mp hp
  have h2 := mem_allP.mp hq
  have ek : p.2.1 = q.2.1 := by
    injection e with _ e
    injection e with e _
  rw [← ek] at h2
  exact posts_pk (hist_ok ok _).start p h1 q h2 e
theorem hist_nodup {es : Ends} {cs : List Chg_} {k : Str} : (histOf es cs k).Nodup := Ts.hist_nodup (hL_up (Ts.ckey_up cs k))
theorem posts_nodup {es : Ends} {cs : List Chg_} (ok : ∀ c ∈ cs, okChg c) (k : Str) : (posts k (histOf es cs k)).Nodup := by
  refine nodup_flatMap hist_nodup (fun v hv => ?_) (fun u hu v hv p h1 h2 => ?_)
  · unfold postsV
    refine List.Pairwise.map _ (fun a b h e => h ?_) (nodup_addAll v.2.2)
    exact congrArg Prod.fst e
  · obtain ⟨x, _, e1⟩ := List.mem_map.mp h1
    obtain ⟨y, _, e2⟩ := List.mem_map.mp h2
    refine (hist_ok ok k).start u hu v hv ?_
    rw [← e1] at e2
    have := congrArg (fun p : Post => p.2.2.1) e2
    exact this.symm
theorem allV_nodup {es : Ends} {cs : List Chg_} (ok : ∀ c ∈ cs, okChg c) {ks : List Str} (hk : ks.Nodup) : (ks.flatMap fun k => plcs k (histOf es cs k)).Nodup := by
  refine nodup_flatMap hk (fun k _ => ?_) (fun a _ b _ p h1 h2 => ?_)
  · unfold plcs List.Nodup
    rw [List.pairwise_map]
    refine (Ts.hist_inv (hL_up (es := es) (Ts.ckey_up cs k))).up.imp fun {u v} h e => ?_
    have := congrArg (fun p : Plc => p.2.1) e
    dsimp only at this
    omega
  · obtain ⟨v, _, e1⟩ := List.mem_map.mp h1
    obtain ⟨u, _, e2⟩ := List.mem_map.mp h2
    rw [← e2] at e1
    exact congrArg Prod.fst e1
theorem plcs_len (k : Str) (vs : List Ver_) : (plcs k vs).length = vs.length := List.length_map _
theorem flat_len {es : Ends} {cs : List Chg_} (ok : ∀ c ∈ cs, okChg c) {ks : List Str} (hk : ks.Nodup) : (ks.flatMap fun k => plcs k (histOf es cs k)).length ≤ cs.length := by
  have h1 := sum_keys cs hk
  have h2 : ∀ ks : List Str, (ks.flatMap fun k => plcs k (histOf es cs k)).length ≤ (ks.map fun k => (cs.filter fun c => decide (c.2.1 = k)).length).sum := by
    intro ks
    induction ks with
    | nil => exact Nat.le_refl _
    | cons k ks ih =>
      rw [List.flatMap_cons, List.length_append, List.map_cons, List.sum_cons, plcs_len]
      have := (hist_ok (es := es) ok k).len
      omega
  exact Nat.le_trans (h2 ks) h1
theorem words_n_le {es : Ends} {cs : List Chg_} (ok : ∀ c ∈ cs, okChg c) (k : Str) : words_n (histOf es cs k) ≤ 61 * (histOf es cs k).length := by
  have h := (hist_ok (es := es) ok k).docs
  generalize histOf es cs k = vs at h
  induction vs with
  | nil => exact Nat.le_refl _
  | cons v vs ih =>
    obtain ⟨t, ht, e⟩ := h v (List.mem_cons_self ..)
    have h1 := doc_len (es := es) ht
    rw [← e] at h1
    have h2 := ih fun u hu => h u (List.mem_cons_of_mem _ hu)
    show v.2.2.length + words_n vs ≤ 61 * (vs.length + 1)
    omega
theorem allP_len {es : Ends} {cs : List Chg_} (ok : ∀ c ∈ cs, okChg c) : (allP es cs).length ≤ 61 * cs.length := by
  have h1 := sum_keys cs (nodup_addAll (cs.map fun c => c.2.1))
  have h2 : ∀ ks : List Str, (ks.flatMap fun k => posts k (histOf es cs k)).length ≤ 61 * (ks.map fun k => (cs.filter fun c => decide (c.2.1 = k)).length).sum := by
    intro ks
    induction ks with
    | nil => exact Nat.le_refl _
    | cons k ks ih =>
      rw [List.flatMap_cons, List.length_append, List.map_cons, List.sum_cons]
      have h3 := (hist_ok (es := es) ok k).len
      have h4 := words_n_le (es := es) ok k
      have h5 := posts_len k (histOf es cs k)
      omega
  have h3 := h2 (kset cs)
  have h4 : (kset cs).flatMap (fun k => posts k (histOf es cs k)) = allP es cs := rfl
  rw [h4] at h3
  have h5 : ((kset cs).map fun k => (cs.filter fun c => decide (c.2.1 = k)).length).sum ≤ cs.length := h1
  omega
/-- the postings of a word, each once -/
structure Good (PS : Str → List Post) (A : Post → Prop) : Prop where
  nd : ∀ x, (PS x).Nodup
  mem : ∀ x p, p ∈ PS x ↔ p.1 = x ∧ A p
theorem Good.mono {PS : Str → List Post} {A B : Post → Prop} (g : Good PS A) (h : ∀ p, A p ↔ B p) : Good PS B := ⟨g.nd, fun x p => by rw [g.mem, h]⟩
theorem Good.out {PS : Str → List Post} {A : Post → Prop} (g : Good PS A) (p : Post) : Good (fun x => if x = p.1 then (PS x).filter fun q => decide (q ≠ p) else PS x) (fun q => A q ∧ q ≠ p) := by
  refine ⟨fun x => ?_, fun x q => ?_⟩
  · try dsimp only
    split
    · exact (g.nd x).filter _
    · exact g.nd x
  · try dsimp only
    by_cases e : x = p.1
    · rw [if_pos e, List.mem_filter, g.mem, decide_eq_true_eq, and_assoc]
    · rw [if_neg e, g.mem]
      constructor
      · rintro ⟨h1, h2⟩
        exact ⟨h1, h2, fun z => e (by rw [← h1, z])⟩
      · rintro ⟨h1, h2, _⟩
        exact ⟨h1, h2⟩
theorem Good.in_ {PS : Str → List Post} {A : Post → Prop} (g : Good PS A) {p : Post} {l : List Post} (hp : ¬ A p) (hl : l.Perm (PS p.1 ++ [p])) : Good (fun x => if x = p.1 then l else PS x) (fun q => A q ∨ q = p) := by
  refine ⟨fun x => ?_, fun x q => ?_⟩
  · try dsimp only
    split
    · refine hl.nodup_iff.mpr (List.nodup_append.mpr ⟨g.nd _, by simp, fun a ha b hb e => hp ?_⟩)
      rw [← List.mem_singleton.mp hb, ← e]
      exact ((g.mem _ _).mp ha).2
    · exact g.nd x
  · try dsimp only
    by_cases e : x = p.1
    · rw [if_pos e, hl.mem_iff, List.mem_append, List.mem_singleton, g.mem, e]
      constructor
      · rintro (⟨h1, h2⟩ | rfl)
        · exact ⟨h1, .inl h2⟩
        · exact ⟨rfl, .inr rfl⟩
      · rintro ⟨h1, h2 | h2⟩
        · exact .inl ⟨h1, h2⟩
        · exact .inr h2
    · rw [if_neg e, g.mem]
      constructor
      · rintro ⟨h1, h2⟩
        exact ⟨h1, .inl h2⟩
      · rintro ⟨h1, h2 | h2⟩
        · exact ⟨h1, h2⟩
        · exact absurd (by rw [← h1, h2]) e
theorem Good.len {PS : Str → List Post} {A : Post → Prop} (g : Good PS A) {L : List Post} (h : ∀ p, A p → p ∈ L) (x : Str) : (PS x).length ≤ L.length :=
  nodup_le (g.nd x) fun p hp => h p ((g.mem x p).mp hp).2
end Tsf
/-! The answers are equal, plain. -/
namespace Tsf
open PySem PySem.Spec PyProof.Rows L2
theorem sum_occ0 : ∀ xs : List Str, (xs.map fun x => (occ [] x).length).sum = 0
  | [] => rfl
  | x :: xs => by rw [List.map_cons, List.sum_cons, sum_occ0 xs]; rfl
theorem sum_occ (d : Doc) : ∀ {xs : List Str}, xs.Nodup → (xs.map fun x => (occ d x).length).sum ≤ d.length := by
  induction d using Ts.snoc_ind with
  | h0 =>
    intro xs _
    exact Nat.le_of_eq (sum_occ0 xs)
  | h1 d y ih =>
    have key : ∀ {xs : List Str}, xs.Nodup → (xs.map fun x => (occ (d ++ [y]) x).length).sum ≤ (xs.map fun x => (occ d x).length).sum + (if y ∈ xs then 1 else 0) := by
      intro xs
      induction xs with
      | nil => intro _; exact Nat.le_refl _
      | cons x xs ih2 =>
        intro hn
        have hn' := List.nodup_cons.mp hn
        have h2 := ih2 hn'.2
        rw [List.map_cons, List.sum_cons, List.map_cons, List.sum_cons, occ_snoc]
        by_cases e : y = x
        · have e1 : ¬ y ∈ xs := by rw [e]; exact hn'.1
          rw [if_neg e1] at h2
          rw [if_pos e, if_pos (by rw [e]; exact List.mem_cons_self ..), List.length_append, List.length_singleton]
          omega
        · rw [if_neg e]
          by_cases e1 : y ∈ xs
          · rw [if_pos e1] at h2
            rw [if_pos (List.mem_cons_of_mem _ e1)]
            omega
          · rw [if_neg e1] at h2
            rw [if_neg fun z => by
              rcases List.mem_cons.mp z with z | z
              · exact e z
              · exact e1 z]
            omega
    intro xs h
    have h1 := ih h
    have h2 := key h
    rw [List.length_append, List.length_singleton]
    split at h2 <;> omega
theorem post_ver {es : Ends} {cs : List Chg_} {ps : Post} (h : ps ∈ allP es cs) : ∃ v ∈ histOf es cs ps.2.1, plcOf ps = (ps.2.1, v.1, v.2.1) ∧ ps.1 ∈ v.2.2 ∧ ps.2.2.2.2 = occ v.2.2 ps.1 := by
  obtain ⟨v, hv, x, hx, e⟩ := posts_mem.mp (mem_allP.mp h)
  refine ⟨v, hv, ?_, ?_, ?_⟩
  · unfold plcOf
    rw [e]
  · rw [e]; exact hx
  · rw [e]
theorem ver_post {es : Ends} {cs : List Chg_} {k : Str} {v : Ver_} {x : Str} (hv : v ∈ histOf es cs k) (hx : x ∈ v.2.2) : (x, k, v.1, v.2.1, occ v.2.2 x) ∈ allP es cs :=
  mem_allP.mpr (posts_mem.mpr ⟨v, hv, x, hx, rfl⟩)
section
variable {es : Ends} {cs : List Chg_} {W : List Post}
theorem wplc_nodup (ok : ∀ c ∈ cs, okChg c) (hn : W.Nodup) (hs : ∀ p ∈ W, p ∈ allP es cs) : (W.map fun ps => (ps.1, plcOf ps)).Nodup := by
  unfold List.Nodup
  rw [List.pairwise_map]
  refine List.Pairwise.imp_of_mem (fun {p q} hp hq h e => h ?_) hn
  refine allP_pk ok (hs p hp) (hs q hq) ?_
  have e1 : p.1 = q.1 := congrArg (fun z : Str × Plc => z.1) e
  have e2 : plcOf p = plcOf q := congrArg (fun z : Str × Plc => z.2) e
  have e3 : p.2.1 = q.2.1 := congrArg (fun z : Plc => z.1) e2
  have e4 : p.2.2.1 = q.2.2.1 := congrArg (fun z : Plc => z.2.1) e2
  unfold pk
  rw [e1, e3, e4]
theorem tot_le (ok : ∀ c ∈ cs, okChg c) (hn : W.Nodup) (hs : ∀ p ∈ W, p ∈ allP es cs) (p : Plc) : tot (wsOf W p) ≤ 1000 := by
  have e1 : tot (wsOf W p) = ((W.filter fun ps => decide (plcOf ps = p)).map fun ps => ps.2.2.2.2.length).sum := by
    unfold tot wsOf
    rw [List.map_map]
    rfl
  have hF : ∀ ps ∈ W.filter fun ps => decide (plcOf ps = p), ps ∈ allP es cs ∧ plcOf ps = p := fun ps h => ⟨hs ps (List.mem_filter.mp h).1, of_decide_eq_true (List.mem_filter.mp h).2⟩
  have hFn : ((W.filter fun ps => decide (plcOf ps = p)).map fun ps => ps.1).Nodup := by
    unfold List.Nodup
    rw [List.pairwise_map]
    have h2 := wplc_nodup ok hn hs
    unfold List.Nodup at h2
    rw [List.pairwise_map] at h2
    refine List.Pairwise.imp_of_mem (fun {a b} ha hb h e => h ?_) (h2.filter _)
    show (a.1, plcOf a) = (b.1, plcOf b)
    rw [e, (hF a ha).2, (hF b hb).2]
  rw [e1]
  generalize W.filter (fun ps => decide (plcOf ps = p)) = F at hF hFn
  cases F with
  | nil => exact Nat.zero_le _
  | cons f F =>
    obtain ⟨v, hv, h1, _, _⟩ := post_ver (hF f (List.mem_cons_self ..)).1
    have hp := (hF f (List.mem_cons_self ..)).2
    have same : ∀ ps ∈ f :: F, ps.2.2.2.2.length = (occ v.2.2 ps.1).length := fun ps hps => by
      obtain ⟨h3, h4⟩ := hF ps hps
      obtain ⟨u, hu, h5, _, h7⟩ := post_ver h3
      rw [h7]
      rw [h4, ← hp, h1] at h5
      have ek : f.2.1 = ps.2.1 := congrArg (fun z : Plc => z.1) h5
      have est : v.1 = u.1 := congrArg (fun z : Plc => z.2.1) h5
      rw [← ek] at hu
      rw [(hist_ok (es := es) ok f.2.1).start v hv u hu est]
    have e2 : ((f :: F).map fun ps => ps.2.2.2.2.length) = (((f :: F).map fun ps => ps.1).map fun x => (occ v.2.2 x).length) := by
      rw [List.map_map]
      exact List.map_congr_left fun ps hps => same ps hps
    rw [e2]
    have h8 := sum_occ v.2.2 hFn
    obtain ⟨t, ht, hd⟩ := (hist_ok (es := es) ok f.2.1).docs v hv
    have h9 := doc_len (es := es) ht
    rw [← hd] at h9
    omega
theorem ppOf_mem {ws : Ws} {p : Pat} {i : Int} : i ∈ ppOf ws p ↔ ∃ e ∈ ws, fitsS e.1 p = true ∧ i ∈ e.2 := by
  unfold ppOf
  rw [(List.mergeSort_perm _ _).mem_iff, mem_addAll]
  unfold flat
  rw [List.mem_flatMap]
  constructor
  · rintro ⟨e, he, h⟩
    by_cases c : fitsS e.1 p = true
    · rw [if_pos c] at h
      exact ⟨e, he, c, h⟩
    · rw [if_neg c] at h
      cases h
  · rintro ⟨e, he, c, h⟩
    exact ⟨e, he, by rw [if_pos c]; exact h⟩
theorem ppOf_up (ws : Ws) (p : Pat) : (ppOf ws p).Pairwise (· < ·) := by
  unfold ppOf sortI
  rw [PySem.W.dataLe_int (fun x : Int => x)]
  have h1 := List.pairwise_mergeSort (le := fun a b : Int => decide (a ≤ b)) (fun a b c h1 h2 => by
    have h1' := of_decide_eq_true h1
    have h2' := of_decide_eq_true h2
    exact decide_eq_true (by omega)) (fun a b => by
    by_cases h : a ≤ b
    · simp [h]
    · have : b ≤ a := by omega
      simp [this]) (addAll (flat p ws))
  have h2 : ((addAll (flat p ws)).mergeSort fun a b : Int => decide (a ≤ b)).Nodup := (List.mergeSort_perm _ _).nodup_iff.mpr (nodup_addAll _)
  refine (h1.and h2).imp fun {a b} ⟨h3, h4⟩ => ?_
  have h3' : a ≤ b := of_decide_eq_true h3
  have h4' : a ≠ b := h4
  omega
/-- the postings wanted: those of the words that fit one of the patterns -/
def WantedP (es : Ends) (cs : List Chg_) (q : Q_) (W : List Post) : Prop := ∀ p, p ∈ W ↔ p ∈ allP es cs ∧ ∃ pat ∈ q.pats, fitsS p.1 pat = true
theorem ws_mem {q : Q_} (ok : ∀ c ∈ cs, okChg c) (hW : WantedP es cs q W) {k : Str} {v : Ver_} (hv : v ∈ histOf es cs k) {e : Str × List Int} :
    e ∈ wsOf W (k, v.1, v.2.1) ↔ e.1 ∈ v.2.2 ∧ e.2 = occ v.2.2 e.1 ∧ ∃ pat ∈ q.pats, fitsS e.1 pat = true := by
  unfold wsOf
  rw [List.mem_map]
  constructor
  · rintro ⟨ps, hps, rfl⟩
    obtain ⟨h1, h2⟩ := List.mem_filter.mp hps
    have h2' : plcOf ps = (k, v.1, v.2.1) := of_decide_eq_true h2
    obtain ⟨h3, h4⟩ := (hW ps).mp h1
    obtain ⟨u, hu, h5, h6, h7⟩ := post_ver h3
    rw [h2'] at h5
    have ek : k = ps.2.1 := congrArg (fun z : Plc => z.1) h5
    have est : v.1 = u.1 := congrArg (fun z : Plc => z.2.1) h5
    rw [← ek] at hu
    have := (hist_ok (es := es) ok k).start v hv u hu est
    subst this
    exact ⟨h6, h7, h4⟩
  · rintro ⟨h1, h2, h3⟩
    refine ⟨(e.1, k, v.1, v.2.1, occ v.2.2 e.1), List.mem_filter.mpr ⟨(hW _).mpr ⟨ver_post hv h1, h3⟩, decide_eq_true rfl⟩, ?_⟩
    show (e.1, occ v.2.2 e.1) = e
    rw [← h2]
theorem mt_eq {q : Q_} (ok : ∀ c ∈ cs, okChg c) (hW : WantedP es cs q W) (hq : q.well) {k : Str} {v : Ver_} (hv : v ∈ histOf es cs k) : mt q W (k, v.1, v.2.1) = Ts.matchD fitsS v.2.2 q := by
  unfold mt
  refine Ts.vmatch_eq hq fun pat hpat => ⟨ppOf_up _ _, fun i => ?_⟩
  rw [ppOf_mem]
  constructor
  · rintro ⟨e, he, hf, hi⟩
    obtain ⟨h1, h2, _⟩ := (ws_mem ok hW hv).mp he
    rw [h2] at hi
    obtain ⟨n, rfl, hn⟩ := occ_mem.mp hi
    refine ⟨n, rfl, ?_⟩
    unfold Ts.fitAt
    rw [hn]
    exact hf
  · rintro ⟨n, rfl, hn⟩
    unfold Ts.fitAt at hn
    cases hd : v.2.2[n]? with
    | none => rw [hd] at hn; cases hn
    | some x =>
      rw [hd] at hn
      exact ⟨(x, occ v.2.2 x), (ws_mem ok hW hv).mpr ⟨List.mem_of_getElem? hd, rfl, pat, hpat, hn⟩, hn, occ_mem.mpr ⟨n, rfl, hd⟩⟩
/-- a version none of whose words is wanted -/
theorem mt_skip {q : Q_} (hW : WantedP es cs q W) {k : Str} {v : Ver_} (hv : v ∈ histOf es cs k) (hn : (k, v.1, v.2.1) ∉ W.map plcOf) : Ts.matchD fitsS v.2.2 q = Ts.matchD fitsS [] q := by
  refine Ts.match_none fun pat hpat x hx => ?_
  cases h : fitsS x pat with
  | false => rfl
  | true => exact absurd (List.mem_map.mpr ⟨(x, k, v.1, v.2.1, occ v.2.2 x), (hW _).mpr ⟨ver_post hv hx, pat, hpat, h⟩, rfl⟩) hn
/-- the places that the index asks: all that may match -/
structure PlOk (es : Ends) (cs : List Chg_) (q : Q_) (PL : List Plc) : Prop where
  sub : ∀ p ∈ PL, p ∈ allV es cs
  all : ∀ k v, v ∈ histOf es cs k → (k, v.1, v.2.1) ∉ PL → Ts.matchD fitsS v.2.2 q = false
theorem any_eq {q : Q_} {PL : List Plc} (ok : ∀ c ∈ cs, okChg c) (hW : WantedP es cs q W) (hq : q.well) (hP : PlOk es cs q PL) (k : Str) (f : Plc → Bool) :
    (PL.any fun p => decide (p.1 = k) && mt q W p && f p) = (histOf es cs k).any fun v => Ts.matchD fitsS v.2.2 q && f (k, v.1, v.2.1) := by
  rw [Bool.eq_iff_iff, List.any_eq_true, List.any_eq_true]
  constructor
  · rintro ⟨p, hp, h⟩
    rw [Bool.and_eq_true, Bool.and_eq_true, decide_eq_true_eq] at h
    obtain ⟨⟨h1, h2⟩, h3⟩ := h
    obtain ⟨v, hv, e⟩ := mem_allV.mp (hP.sub p hp)
    rw [h1] at hv e
    rw [e, mt_eq ok hW hq hv] at h2
    rw [e] at h3
    exact ⟨v, hv, by rw [h2, h3]; rfl⟩
  · rintro ⟨v, hv, h⟩
    rw [Bool.and_eq_true] at h
    refine ⟨(k, v.1, v.2.1), ?_, ?_⟩
    · by_cases hm : (k, v.1, v.2.1) ∈ PL
      · exact hm
      · have := hP.all k v hv hm
        rw [this] at h
        cases h.1
    · rw [mt_eq ok hW hq hv, h.1, h.2, decide_eq_true rfl]
      rfl
/-- the two answers hold the same timelines under the same keys -/
theorem ans_same {q : Q_} {PL : List Plc} {H1 H2 : Hp} {ks1 ks2 : List Str} {f1 f2 : Key → V} (ok : ∀ c ∈ cs, okChg c) (hW : WantedP es cs q W) (hq : q.well) (hP : PlOk es cs q PL)
    (A : Ans H1 PL (mt q W) ks1 f1) (B : PAns H2 es cs q (kset cs) ks2 f2) : (∀ k, k ∈ ks1 ↔ k ∈ ks2) ∧ ∀ k ∈ ks1, ∃ r, Dt H1 (f1 (Sum.inr k)) (eInts r) ∧ Dt H2 (f2 (Sum.inr k)) (eInts r) := by
  have hk : ∀ k, k ∈ ks1 ↔ k ∈ ks2 := fun k => by
    rw [A.mem, B.mem]
    have h := any_eq (W := W) ok hW hq hP k fun _ => true
    rw [Bool.eq_iff_iff, List.any_eq_true, List.any_eq_true] at h
    constructor
    · rintro ⟨p, hp, h1, h2⟩
      obtain ⟨v, hv, h3⟩ := h.mp ⟨p, hp, by rw [h2, decide_eq_true h1]; rfl⟩
      rw [Bool.and_true] at h3
      exact ⟨hist_key hv, v, hv, h3⟩
    · rintro ⟨_, v, hv, h3⟩
      obtain ⟨p, hp, h4⟩ := h.mpr ⟨v, hv, by rw [h3]; rfl⟩
      rw [Bool.and_true, Bool.and_eq_true, decide_eq_true_eq] at h4
      exact ⟨p, hp, h4.1, h4.2⟩
  refine ⟨hk, fun k h => ?_⟩
  obtain ⟨r1, d1, up1, _, in1⟩ := A.tl k h
  obtain ⟨r2, d2, up2, in2⟩ := B.tl k ((hk k).mp h)
  have e : r1 = r2 := Ts.rise_unique up1 up2 fun x => by
    rw [in1, in2]
    exact any_eq ok hW hq hP k fun p => Ts.isIn (Ts.ofSpan p.2.1 p.2.2) x
  subst e
  exact ⟨r1, d1, d2⟩
end
end Tsf
/-! index.Index: what reads it -/
namespace Tsf
open PySem PySem.Spec PyProof.Rows L2
structure IxD where
  ix : Addr
  sh : Addr
  ca : Addr
  pl : Addr
  bw : Addr
  es : Ends
  cs : List Chg_
  PS : Str → List Post
  wks : List Str
  wf : Key → Addr
  pks : List Str
  pf : Key → Addr
abbrev rKvs (ks : List Str) (f : Key → Addr) : List (Key × V) := (ks.map (Sum.inr : Str → Key)).map fun k => (k, V.ref (f k))
structure BW (H : Hp) (bw ca : Addr) (PS : Str → List Post) (wks : List Str) (wf : Key → Addr) : Prop where
  d : H bw = some (.dK (rKvs wks wf))
  nd : wks.Nodup
  l : ∀ x ∈ wks, wf (Sum.inr x) ≠ ca ∧ ∃ oxs, H (wf (Sum.inr x)) = some (.lst oxs) ∧ DtAll H oxs ((PS x).map ePost)
  ne : ∀ x, x ∈ wks ↔ PS x ≠ []
structure PLs (H : Hp) (pl ca : Addr) (es : Ends) (cs : List Chg_) (pks : List Str) (pf : Key → Addr) : Prop where
  d : H pl = some (.dK (rKvs pks pf))
  nd : pks.Nodup
  mem : ∀ k, k ∈ pks ↔ k ∈ kset cs
  l : ∀ k ∈ pks, pf (Sum.inr k) ≠ ca ∧ ∃ pxs, H (pf (Sum.inr k)) = some (.lst pxs) ∧ DtAll H pxs ((plcs k (histOf es cs k)).map ePlc)
structure IxP (K : PySem.W.Frag) (H : Hp) (I : IxD) : Prop where
  obj : ∃ dx lt, H I.ix = some (.ins (He.ga K "Index") dx [("told", .ref I.sh), ("places", .ref I.pl), ("by_word", .ref I.bw), ("last", lt)])
  sh : Sh K H I.sh I.ca I.es I.cs
  pw : PLs H I.pl I.ca I.es I.cs I.pks I.pf
  bw : BW H I.bw I.ca I.PS I.wks I.wf
  good : Good I.PS (· ∈ allP I.es I.cs)
  npb : I.pl ≠ I.bw
theorem BW.same {H H' : Hp} {bw ca : Addr} {PS : Str → List Post} {wks : List Str} {wf : Key → Addr} (b : BW H bw ca PS wks wf) (s : Same H H') : BW H' bw ca PS wks wf :=
  ⟨s _ _ b.d, b.nd, fun x hx => by obtain ⟨n, o, h1, h2⟩ := b.l x hx; exact ⟨n, o, s _ _ h1, h2.tk (tk_same s)⟩, b.ne⟩
theorem PLs.same {H H' : Hp} {pl ca : Addr} {es : Ends} {cs : List Chg_} {pks : List Str} {pf : Key → Addr} (b : PLs H pl ca es cs pks pf) (s : Same H H') : PLs H' pl ca es cs pks pf :=
  ⟨s _ _ b.d, b.nd, b.mem, fun x hx => by obtain ⟨n, o, h1, h2⟩ := b.l x hx; exact ⟨n, o, s _ _ h1, h2.tk (tk_same s)⟩⟩
theorem IxP.same {K : PySem.W.Frag} {H H' : Hp} {I : IxD} (x : IxP K H I) (s : Same H H') : IxP K H' I :=
  ⟨by obtain ⟨dx, lt, h⟩ := x.obj; exact ⟨dx, lt, s _ _ h⟩, x.sh.same s, x.pw.same s, x.bw.same s, x.good, x.npb⟩
theorem val_r {ks : List Str} {f : Key → Addr} {k : Str} : valV (rKvs ks f) (Sum.inr k) = if k ∈ ks then some (V.ref (f (Sum.inr k))) else none := by
  rw [valV_fn]
  by_cases h : k ∈ ks
  · rw [if_pos h, if_pos (List.mem_map.mpr ⟨k, h, rfl⟩)]
  · rw [if_neg h, if_neg fun z => by obtain ⟨y, hy, e⟩ := List.mem_map.mp z; exact h (by rw [← Sum.inr.inj e]; exact hy)]
theorem sortS_perm (ks : List Str) : (sortS ks).Perm ks := List.mergeSort_perm _ _
theorem str_at1 {L : List Str} {i : Nat} {v : V} (h : (L.map V.str)[i]? = some v) : ∃ z, L[i]? = some z ∧ v = V.str z := by
  rw [List.getElem?_map] at h
  cases e : L[i]? with
  | none => rw [e] at h; cases h
  | some z => rw [e] at h; exact ⟨z, rfl, (Option.some.inj h).symm⟩
theorem flat_nodup {PS : Str → List Post} {A : Post → Prop} (g : Good PS A) {ww : List Str} (h : ww.Nodup) : (ww.flatMap PS).Nodup :=
  nodup_flatMap h (fun x _ => g.nd x) fun a _ b _ p h1 h2 => by rw [← ((g.mem a p).mp h1).1, ((g.mem b p).mp h2).1]
theorem flat_mem {PS : Str → List Post} {A : Post → Prop} (g : Good PS A) {ww : List Str} {p : Post} : p ∈ ww.flatMap PS ↔ p.1 ∈ ww ∧ A p := by
  rw [List.mem_flatMap]
  constructor
  · rintro ⟨x, hx, h⟩
    obtain ⟨h1, h2⟩ := (g.mem x p).mp h
    rw [h1]
    exact ⟨hx, h2⟩
  · rintro ⟨h1, h2⟩
    exact ⟨_, h1, (g.mem _ p).mpr ⟨rfl, h2⟩⟩
theorem flat_le549 {es : Ends} {cs : List Chg_} {PS : Str → List Post} (g : Good PS (· ∈ allP es cs)) (ok : ∀ c ∈ cs, okChg c) (h9 : cs.length ≤ 9) {ww : List Str} (h : ww.Nodup) : (ww.flatMap PS).length ≤ 549 := by
  have h1 := nodup_le (flat_nodup g h) (m := allP es cs) fun p hp => ((flat_mem g).mp hp).2
  have h2 := allP_len (es := es) ok
  omega
/-- the words of an index that a question wants -/
structure Wanted (I : IxD) (q : Q_) (ww : List Str) : Prop where
  nd : ww.Nodup
  mem : ∀ x, x ∈ ww ↔ x ∈ I.wks ∧ ∃ p ∈ q.pats, fitsS x p = true
def vlist (I : IxD) : List Plc := (sortS I.pks).flatMap fun k => plcs k (histOf I.es I.cs k)
section
variable {P : Program} {w : World} {K : PySem.W.Frag} {mg : Str → Option Value} {base : Heap}
def spPost : Sp := fun vs H Q _ => ∃ (I : IxD) (x : Str), vs = [.ref I.ix, .str x] ∧ IxP K H I ∧ ∀ q H' (oxs : List V), H q = none → Same H H' → H' q = some (.lst oxs) → DtAll H' oxs ((I.PS x).map ePost) → Q (.ref q) H'
theorem con_postings (T : Tx K mg) : Con P w K mg base 1 (He.ma K (He.ga K "Index") "postings") ["self", "word"] (spPost (K := K)) := by
  obtain ⟨fd, F⟩ := T.d_Index_postings
  refine ⟨fd, F.ok sc_Index_postings (fun vs H Q E h => ?_) (fun cdv A outer s H vs Q E hr h => ?_), F.bindsN fun _ _ _ _ _ _ us hl => match us, hl with | [_, _], _ => rfl, F.kp⟩
  · obtain ⟨I, x, rfl, _⟩ := h
    rfl
  · obtain ⟨I, x, rfl, X, k⟩ := h
    obtain ⟨dx, lt, ho⟩ := X.obj
    have nd := sc_Index_postings.nd
    refine ⟨_, PSs.nox (pss_one (ps_ret (pe_callTy call_list_of (by rfl) T.z_list (by decide +kernel) (pa_cons (pe_dget2 (Room.u1 hr) (pe_fld (pv 0) rfl) (pv 1) (pe_lst pa_nil) ⟨rfl, rfl, rfl, rfl⟩) pa_nil)))), ?_⟩
    refine ⟨_, rfl, I.ix, _, dx, _, _, rfl, ho, T.c_Index, T.n_Index_by_word, rfl, I.bw, rfl, .inl ⟨_, .inl X.bw.d⟩, _, rfl, Nat.zero_le _, fun z hz => ?_⟩
    have s1 : Same H (upd H z (.lst [])) := same_new hz
    refine ⟨_, .inl ⟨_, Sum.inr x, .inl (s1 _ _ X.bw.d), rfl, rfl⟩, ?_⟩
    rw [val_r]
    by_cases h : x ∈ I.wks
    · rw [if_pos h]
      obtain ⟨_, oxs, h1, h2⟩ := X.bw.l x h
      refine ⟨I.wf (Sum.inr x), oxs, rfl, .inl (SqL.of (s1 _ _ h1)), fun q hq => ?_⟩
      have s2 := s1.trans (same_new (o := .lst oxs) hq)
      exact k q _ oxs (same_none s1 hq) s2 upd_same (h2.tk (tk_same s2))
    · rw [if_neg h]
      have e : I.PS x = [] := by
        by_cases q : I.PS x = []
        · exact q
        · exact absurd ((X.bw.ne x).mpr q) h
      refine ⟨z, [], rfl, .inl (SqL.of upd_same), fun q hq => ?_⟩
      exact k q _ [] (same_none s1 hq) (s1.trans (same_new hq)) upd_same (by rw [e]; exact .nil)
def spWords : Sp := fun vs H Q _ => ∃ (I : IxD), vs = [.ref I.ix] ∧ IxP K H I ∧ ∀ q, H q = none → Q (.ref q) (upd H q (.lst ((sortS I.wks).map V.str)))
theorem con_words (T : Tx K mg) : Con P w K mg base 1 (He.ma K (He.ga K "Index") "words") ["self"] (spWords (K := K)) := by
  obtain ⟨fd, F⟩ := T.d_Index_words
  refine ⟨fd, F.ok sc_Index_words (fun vs H Q E h => ?_) (fun cdv A outer s H vs Q E hr h => ?_), F.bindsN fun _ _ _ _ _ _ us hl => match us, hl with | [_], _ => rfl, F.kp⟩
  · obtain ⟨I, rfl, _⟩ := h
    rfl
  · obtain ⟨I, rfl, X, k⟩ := h
    obtain ⟨dx, lt, ho⟩ := X.obj
    have nd := sc_Index_words.nd
    refine ⟨_, PSs.nox (pss_one (ps_ret (pe_callB (call_sortedDA (by rfl) (Room.u64 hr)) (by rfl) T.z_sorted (by decide +kernel) (pa_cons (pe_fld (pv 0) rfl) pa_nil)))), ?_⟩
    exact ⟨_, rfl, I.ix, _, dx, _, _, rfl, ho, T.c_Index, T.n_Index_by_word, rfl, I.bw, _, I.wks, rfl, .inl X.bw.d, by rw [List.map_map]; exact List.map_id' _, k⟩
def spVers : Sp := fun vs H Q _ => ∃ (I : IxD), vs = [.ref I.ix] ∧ IxP K H I ∧ ∀ q H' (pxs : List V), H q = none → Same H H' → H' q = some (.lst pxs) → DtAll H' pxs ((vlist I).map ePlc) → Q (.ref q) H'
theorem con_versions (T : Tx K mg) : Con P w K mg base 1 (He.ma K (He.ga K "Index") "versions") ["self"] (spVers (K := K)) := by
  obtain ⟨fd, F⟩ := T.d_Index_versions
  refine ⟨fd, F.ok sc_Index_versions (fun vs H Q E h => ?_) (fun cdv A outer s H vs Q E hr h => ?_), F.bindsN fun _ _ _ _ _ _ us hl => match us, hl with | [_], _ => rfl, F.kp⟩
  · obtain ⟨I, rfl, _⟩ := h
    rfl
  · obtain ⟨I, rfl, X, k⟩ := h
    obtain ⟨dx, lt, ho⟩ := X.obj
    have nd := sc_Index_versions.nd
    refine ⟨_, PSs.nox (pss_cons (ps_set (i := 1) nd rfl (.inl rfl) (pe_lst pa_nil))
      (pss_cons (ps_for PassesOwn.never rfl (pi_list (pe_callB (call_sortedDA (by rfl) (Room.u64 hr)) (by rfl) T.z_sorted (by decide +kernel) (pa_cons (pe_fld (pv 0) rfl) pa_nil))) (pg_name (i := 2) nd rfl (.inl rfl))
        (pss_one (ps_expr (pe_bm PySem.F.plainAttrs_list PySem.F.slot_list_extend PySem.F.type_list_extend mt_extend (pv 1) (pa_cons (pe_dget (Room.u1 hr) (pe_fld (pv 0) rfl) (pv 2) (fun _ _ => rfl)) pa_nil)))))
      (pss_one (ps_ret (pv 1))))), ?_⟩
    refine ⟨Nat.zero_le _, fun l hl => ?_⟩
    have s0 : Same H (upd H l (.lst [])) := same_new hl
    refine ⟨_, rfl, I.ix, _, dx, _, _, rfl, s0 _ _ ho, T.c_Index, T.n_Index_places, rfl, I.pl, _, I.pks, rfl, .inl (s0 _ _ X.pw.d), by rw [List.map_map]; exact List.map_id' _, fun kq hkq => ?_⟩
    have s1 : Same H (upd (upd H l (.lst [])) kq (.lst ((sortS I.pks).map V.str))) := s0.trans (same_new hkq)
    have nlk : l ≠ kq := ne_of_none (upd_same (H := H) (a := l) (o := .lst [])) hkq
    have hlen : ∀ j, (((sortS I.pks).take j).flatMap fun k => plcs k (histOf I.es I.cs k)).length ≤ 9 := fun j => by
      have h1 : ((sortS I.pks).take j).Nodup := ((sortS_perm I.pks).nodup_iff.mpr X.pw.nd).sublist (List.take_sublist _ _)
      have h2 := flat_len (es := I.es) X.sh.ok h1
      have h3 := X.sh.len
      omega
    refine ⟨kq, rfl, ⟨_, SqL.of upd_same⟩, ?_⟩
    refine for_list (K := K) (a := kq) (xs := (sortS I.pks).map V.str) (fun i σ H1 => ∃ (v2 : Option V) (acc : List V), σ = [some (.ref I.ix), some (.ref l), v2] ∧ Same H H1 ∧ H1 kq = some (.lst ((sortS I.pks).map V.str)) ∧ H1 l = some (.lst acc) ∧ DtAll H1 acc ((((sortS I.pks).take i).flatMap fun k => plcs k (histOf I.es I.cs k)).map ePlc))
      ⟨none, [], rfl, s1, upd_same, by rw [upd_ne nlk]; exact upd_same, .nil⟩ (fun i σ H1 _ ⟨_, _, _, _, h, _⟩ => SqL.of h) ?_ ?_
    · rintro i x σ H1 hx ⟨v2, acc, rfl, s2, hk1, hl1, da⟩
      obtain ⟨key, hkey, rfl⟩ := str_at1 hx
      have hkm : key ∈ I.pks := (sortS_perm _).mem_iff.mp (List.mem_of_getElem? hkey)
      obtain ⟨_, pxs, hp1, hp2⟩ := X.pw.l key hkm
      have hsz : acc.length + pxs.length ≤ 9 := by
        have h1 := hlen (i + 1)
        rw [take_snoc hkey, List.flatMap_append, List.length_append] at h1
        have h2 : acc.length = (((sortS I.pks).take i).flatMap fun k => plcs k (histOf I.es I.cs k)).length := by rw [da.length, List.length_map]
        have h3 : pxs.length = (plcs key (histOf I.es I.cs key)).length := by rw [hp2.length, List.length_map]
        have h4 : ([key].flatMap fun k => plcs k (histOf I.es I.cs k)).length = (plcs key (histOf I.es I.cs key)).length := by simp
        omega
      refine ⟨_, rfl, .inl ⟨rfl, _, SqL.of hl1⟩, _, rfl, I.ix, _, dx, _, _, rfl, s2 _ _ ho, T.c_Index, T.n_Index_places, rfl, _, rfl, I.pl, _, rfl, .inl ⟨_, Sum.inr key, .inl (s2 _ _ X.pw.d), rfl, by rw [val_r, if_pos hkm]⟩, ?_⟩
      refine ⟨l, I.pf (Sum.inr key), acc, pxs, rfl, rfl, hl1, s2 _ _ hp1, small_le (by omega), ?_⟩
      have tk : Tk H1 (upd H1 l (.lst (acc ++ pxs))) := tk_put hl1 fun xs z => nomatch z
      refine ⟨_, acc ++ pxs, rfl, fun b o e => by rw [upd_ne (ne_of_none e hl)]; exact s2 _ _ e, by rw [upd_ne nlk.symm]; exact hk1, upd_same, ?_⟩
      rw [take_snoc hkey, List.flatMap_append, List.map_append]
      refine (da.tk tk).append ?_
      have e : ([key].flatMap fun k => plcs k (histOf I.es I.cs k)) = plcs key (histOf I.es I.cs key) := by simp
      rw [e]
      exact (hp2.tk (tk_same s2)).tk tk
    · rintro σ H1 ⟨v2, acc, rfl, s2, hk1, hl1, da⟩
      rw [List.length_map, List.take_length] at da
      exact ⟨_, rfl, k l H1 acc hl s2 hl1 da⟩
def spWF : Sp := fun vs H Q _ => ∃ (I : IxD) (pw : V) (p : Pat), vs = [.ref I.ix, pw] ∧ IxP K H I ∧ Dt H pw (ePat p) ∧ I.wks.length ≤ 1000 ∧ ∀ q H', H q = none → Same H H' → H' q = some (.lst (((sortS I.wks).filter fun x => fitsS x p).map V.str)) → Q (.ref q) H'
theorem con_words_for (T : Tx K mg) : Con P w K mg base 2 (He.ma K (He.ga K "Index") "words_for") ["self", "pattern"] (spWF (K := K)) := by
  obtain ⟨fd, F⟩ := T.d_Index_words_for
  obtain ⟨fdf, GF, bF, kF⟩ := con_fits (P := P) (w := w) (base := base) T
  obtain ⟨fdw, GW, bW, kW⟩ := con_words (P := P) (w := w) (base := base) T
  refine ⟨fd, F.ok sc_Index_words_for (fun vs H Q E h => ?_) (fun cdv A outer s H vs Q E hr h => ?_), F.bindsN fun _ _ _ _ _ _ us hl => match us, hl with | [_, _], _ => rfl, F.kp⟩
  · obtain ⟨I, pw, p, rfl, _⟩ := h
    rfl
  · obtain ⟨I, pw, p, rfl, X, hp, hwl, k⟩ := h
    obtain ⟨dx, lt, ho⟩ := X.obj
    have nd := sc_Index_words_for.nd
    refine ⟨_, PSs.nox (pss_one (ps_ret (pe_lc (own := [("word", 2)]) (g := gName 2) rfl nd (pi_list (pe_meth0 (pv 0) T.c_Index T.m_Index_words GW hr bW .nil pass0)) (blkOk_by (own := [("word", 2)]) (N := ["self", "pattern", "word"]) (sc := defScope s_Index_words_for) (by decide +kernel))
              (fun _ _ _ _ _ => pg_name (i := 2) nd rfl (.inl rfl)) (fun _ _ _ _ _ => pts_one (pt_val (pe_call GF hr (by rfl) T.g_fits kF bF .nil pass0 (pa_cons (pv 2) (pa_cons (pv 1) pa_nil))))) (fun _ _ _ _ _ => pv 2)))), ?_⟩
    refine ⟨_, rfl, I.ix, dx, _, rfl, ho, rfl, I, rfl, X, fun q hq => ?_⟩
    have s0 : Same H (upd H q (.lst ((sortS I.wks).map V.str))) := same_new hq
    refine ⟨q, rfl, ⟨_, SqL.of upd_same⟩, fun D hD => ?_⟩
    have nqD : q ≠ D := ne_of_none (upd_same (H := H) (a := q) (o := .lst ((sortS I.wks).map V.str))) hD
    refine lc_list (K := K) (a := q) (xs := (sortS I.wks).map V.str) (fun i H1 => Same (upd H q (.lst ((sortS I.wks).map V.str))) H1 ∧ H1 D = some (.lst ((((sortS I.wks).take i).filter fun x => fitsS x p).map V.str)))
      ⟨same_new hD, upd_same⟩ (fun i H1 _ ⟨s1, _⟩ => SqL.of (s1 _ _ upd_same)) ?_ ?_
    · rintro i v H1 hv ⟨s1, hD1⟩
      obtain ⟨x, hx, rfl⟩ := str_at1 hv
      have et := take_snoc hx
      refine ⟨rfl, ?_⟩
      refine ⟨_, rfl, _, rfl, x, pw, p, rfl, hp.tk (tk_same (s0.trans s1)), _, rfl, ?_⟩
      refine ite2 (fun c => ?_) (fun c => ?_)
      · have ef : [x].filter (fun x => fitsS x p) = [x] := by rw [List.filter_cons, if_pos c]; rfl
        refine ⟨_, rfl, _, hD1, ?_, fun b o e => ?_, ?_⟩
        · rw [List.length_map]
          refine small1000 (Nat.le_trans (List.length_filter_le _ _) ?_)
          have : (sortS I.wks).length = I.wks.length := List.length_mergeSort _
          rw [List.length_take]; omega
        · rw [upd_ne (ne_of_none e hD)]
          exact s1 _ _ e
        · rw [upd_same, et, List.filter_append, ef, List.map_append]
          rfl
      · have ef : [x].filter (fun x => fitsS x p) = [] := by rw [List.filter_cons, if_neg c]; rfl
        refine ⟨s1, ?_⟩
        rw [hD1, et, List.filter_append, ef, List.append_nil]
    · rintro H1 ⟨s1, hD1⟩
      rw [List.length_map, List.take_length] at hD1
      exact k D H1 (same_none s0 hD) (s0.trans s1) hD1
end
end Tsf
/-! index.Index: wanted -/
namespace Tsf
open PySem PySem.Spec PyProof.Rows L2
theorem wks_len {K : PySem.W.Frag} {H : Hp} {I : IxD} (X : IxP K H I) : I.wks.length ≤ 549 := by
  have h1 := nodup_le X.bw.nd (m := (allP I.es I.cs).map fun p => p.1) fun x hx => by
    have h2 := (X.bw.ne x).mp hx
    cases e : I.PS x with
    | nil => exact absurd e h2
    | cons p r =>
      have h3 := (X.good.mem x p).mp (by rw [e]; exact List.mem_cons_self ..)
      exact List.mem_map.mpr ⟨p, h3.2, h3.1⟩
  have h2 := allP_len (es := I.es) X.sh.ok
  have h3 := X.sh.len
  rw [List.length_map] at h1
  omega
def wfl (I : IxD) (pl : List Pat) : List Str := pl.flatMap fun p => (sortS I.wks).filter fun x => fitsS x p
theorem wfl_sub {I : IxD} {pl : List Pat} {x : Str} : x ∈ wfl I pl ↔ x ∈ I.wks ∧ ∃ p ∈ pl, fitsS x p = true := by
  unfold wfl
  rw [List.mem_flatMap]
  constructor
  · rintro ⟨p, hp, h⟩
    obtain ⟨h1, h2⟩ := List.mem_filter.mp h
    exact ⟨(sortS_perm _).mem_iff.mp h1, p, hp, h2⟩
  · rintro ⟨h1, p, hp, h2⟩
    exact ⟨p, hp, List.mem_filter.mpr ⟨(sortS_perm _).mem_iff.mpr h1, h2⟩⟩
section
variable {P : Program} {w : World} {K : PySem.W.Frag} {mg : Str → Option Value} {base : Heap}
def spWanted (n : Nat) : Sp := fun vs H Q _ => ∃ (I : IxD) (qv : V) (q : Q_), vs = [.ref I.ix, qv] ∧ IxP K H I ∧ Dt H qv (eQn q) ∧ q.depth < n ∧ q.pats.length ≤ 1000 ∧
  ∀ r H' (oxs : List V) (ww : List Str), H r = none → Same H H' → H' r = some (.lst oxs) → DtAll H' oxs ((ww.flatMap I.PS).map ePost) → Wanted I q ww → Q (.ref r) H'
theorem con_wanted (T : Tx K mg) (n : Nat) : Con P w K mg base (3 + n) (He.ma K (He.ga K "Index") "wanted") ["self", "question"] (spWanted (K := K) n) := by
  obtain ⟨fd, F⟩ := T.d_Index_wanted
  obtain ⟨fdp, GP, bP, kP⟩ := (con_patterns_of (P := P) (w := w) (base := base) T n).mono (show n + 1 ≤ 2 + n by omega)
  obtain ⟨fdw, GW, bW, kW⟩ := (con_words_for (P := P) (w := w) (base := base) T).mono (show 2 ≤ 2 + n by omega)
  obtain ⟨fdo, GO, bO, kO⟩ := (con_postings (P := P) (w := w) (base := base) T).mono (show 1 ≤ 2 + n by omega)
  have e : 3 + n = (2 + n) + 1 := by omega
  rw [e]
  refine ⟨fd, F.ok sc_Index_wanted (fun vs H Q E h => ?_) (fun cdv A outer s H vs Q E hr h => ?_), F.bindsN fun _ _ _ _ _ _ us hl => match us, hl with | [_, _], _ => rfl, F.kp⟩
  · obtain ⟨I, qv, q, rfl, _⟩ := h
    rfl
  · obtain ⟨I, qv, q, rfl, X, hq, hd, hpl, k⟩ := h
    obtain ⟨dx, lt, ho⟩ := X.obj
    have hwl := wks_len X
    have nd := sc_Index_wanted.nd
    refine ⟨_, PSs.nox (pss_cons (ps_set (i := 2) nd rfl (.inl rfl) pe_dnewK)
      (pss_cons (ps_for PassesOwn.never rfl (pi_list (pe_call GP hr (by rfl) T.g_patterns_of kP bP .nil pass0 (pa_cons (pv 1) pa_nil))) (pg_name (i := 3) nd rfl (.inl rfl))
        (pss_one (ps_for PassesOwn.never rfl (pi_list (pe_meth (pv 0) T.c_Index T.m_Index_words_for GW hr bW .nil pass0 (pa_cons (pv 3) pa_nil))) (pg_name (i := 4) nd rfl (.inl rfl))
          (pss_one (ps_dput (Room.u1 hr) (pv 2) (pv 4) pe_bl rfl)))))
      (pss_cons (ps_set (i := 5) nd rfl (.inl rfl) (pe_lst pa_nil))
      (pss_cons (ps_for PassesOwn.never rfl (pi_list (pe_callB (call_sortedDA (by rfl) (Room.u64 hr)) (by rfl) T.z_sorted (by decide +kernel) (pa_cons (pv 2) pa_nil))) (pg_name (i := 4) nd rfl (.inl rfl))
        (pss_one (ps_expr (pe_bm PySem.F.plainAttrs_list PySem.F.slot_list_extend PySem.F.type_list_extend mt_extend (pv 5) (pa_cons (pe_meth (pv 0) T.c_Index T.m_Index_postings GO hr bO .nil pass0 (pa_cons (pv 4) pa_nil)) pa_nil)))))
      (pss_one (ps_ret (pv 5))))))), ?_⟩
    intro wd hwd
    have s0 : Same H (upd H wd (.dK [])) := same_new hwd
    refine ⟨_, rfl, qv, q, rfl, hq.tk (tk_same s0), hd, hpl, fun pq H1 pxs pl hpq s1 hpq1 dp hmem hpll => ?_⟩
    have s01 := s0.trans s1
    have hwd1 : H1 wd = some (.dK []) := s1 _ _ upd_same
    have npw : pq ≠ wd := (ne_of_none (upd_same (H := H) (a := wd) (o := .dK [])) hpq).symm
    have hsz : ∀ l : List Pat, (addAll (wfl I l)).length ≤ 549 := fun l => by
      have h1 := nodup_le (nodup_addAll (wfl I l)) (m := I.wks) fun x hx => (wfl_sub.mp (mem_addAll.mp hx)).1
      omega
    refine ⟨pq, rfl, ⟨_, SqL.of hpq1⟩, ?_⟩
    refine for_list (K := K) (a := pq) (xs := pxs) (fun i σ H2 => ∃ (v3 v4 : Option V), σ = [some (.ref I.ix), some qv, some (.ref wd), v3, v4, none] ∧ (∀ b o, b ≠ wd → H1 b = some o → H2 b = some o) ∧ H2 wd = some (.dK (kS (addAll (wfl I (pl.take i))))))
      ⟨none, none, rfl, fun b o _ e => e, hwd1⟩ (fun i σ H2 _ ⟨_, _, _, s2, _⟩ => SqL.of (s2 _ _ npw hpq1)) ?_ ?_
    · rintro i x σ H2 hx ⟨v3, v4, rfl, s2, hw2⟩
      obtain ⟨p, hp, dpp⟩ := dp.mget hx
      have S02 : Same H H2 := fun b o e => s2 b o (ne_of_none e hwd) (s01 _ _ e)
      have tk12 : Tk H1 H2 := fun b xs e => s2 b _ (fun z => by rw [z, hwd1] at e; cases e) e
      refine ⟨_, rfl, I.ix, dx, _, rfl, S02 _ _ ho, rfl, _, rfl, I, x, p, rfl, X.same S02, dpp.tk tk12, by omega, fun wq H3 hwq s3 hw3 => ?_⟩
      have hwd3 := s3 _ _ hw2
      have nwq : wq ≠ wd := (ne_of_none hw2 hwq).symm
      refine ⟨wq, rfl, ⟨_, SqL.of hw3⟩, ?_⟩
      refine for_list (K := K) (a := wq) (xs := ((sortS I.wks).filter fun x => fitsS x p).map V.str) (fun j σ H4 => ∃ (v4 : Option V), σ = [some (.ref I.ix), some qv, some (.ref wd), some x, v4, none] ∧ (∀ b o, b ≠ wd → H3 b = some o → H4 b = some o) ∧ H4 wd = some (.dK (kS (addAll (wfl I (pl.take i) ++ ((sortS I.wks).filter fun x => fitsS x p).take j)))))
        ⟨v4, rfl, fun b o _ e => e, by rw [List.take_zero, List.append_nil]; exact hwd3⟩ (fun j σ H4 _ ⟨_, _, s4, _⟩ => SqL.of (s4 _ _ nwq hw3)) ?_ ?_
      · rintro j v σ H4 hv ⟨v4', rfl, s4, hw4⟩
        obtain ⟨y, hy, rfl⟩ := str_at1 hv
        refine ⟨_, rfl, _, rfl, wd, _, rfl, .inl ⟨_, Sum.inr y, hw4, rfl, ?_, rfl⟩, _, rfl, fun b o hb e => by rw [upd_ne hb]; exact s4 b o hb e, ?_⟩
        · rw [List.length_map, List.length_map]
          have h1 := nodup_le (nodup_addAll (wfl I (pl.take i) ++ ((sortS I.wks).filter fun x => fitsS x p).take j)) (m := I.wks) fun z hz => by
            rcases List.mem_append.mp (mem_addAll.mp hz) with hz | hz
            · exact (wfl_sub.mp hz).1
            · exact (sortS_perm _).mem_iff.mp (List.mem_filter.mp (List.mem_of_mem_take hz)).1
          exact small1000 (by omega)
        · rw [upd_same, putS, take_snoc hy, ← List.append_assoc, addAll_snoc]
      · rintro σ H4 ⟨v4', rfl, s4, hw4⟩
        rw [List.length_map, List.take_length] at hw4
        refine ⟨_, _, rfl, fun b o hb e => s4 b o hb (s3 _ _ (s2 b o hb e)), ?_⟩
        have ef : wfl I (pl.take (i + 1)) = wfl I (pl.take i) ++ (sortS I.wks).filter fun x => fitsS x p := by
          rw [take_snoc hp]
          unfold wfl
          rw [List.flatMap_append]
          simp
        rw [ef]
        exact hw4
    · rintro σ H2 ⟨v3, v4, rfl, s2, hw2⟩
      have el : pxs.length = pl.length := by rw [dp.length, List.length_map]
      rw [el, List.take_length] at hw2
      have S02 : Same H H2 := fun b o e => s2 b o (ne_of_none e hwd) (s01 _ _ e)
      have hW : Wanted I q (sortS (addAll (wfl I pl))) := by
        refine ⟨(sortS_perm _).nodup_iff.mpr (nodup_addAll _), fun x => ?_⟩
        rw [(sortS_perm _).mem_iff, mem_addAll, wfl_sub]
        constructor
        · rintro ⟨h1, p, hp, h2⟩
          exact ⟨h1, p, (hmem p).mp hp, h2⟩
        · rintro ⟨h1, p, hp, h2⟩
          exact ⟨h1, p, (hmem p).mpr hp, h2⟩
      refine ⟨Nat.zero_le _, fun fl hfl => ?_⟩
      have nfH : H fl = none := same_none S02 hfl
      have s3 : Same H2 (upd H2 fl (.lst [])) := same_new hfl
      refine ⟨_, rfl, wd, _, addAll (wfl I pl), rfl, .inl (s3 _ _ hw2), keysS, fun kq hkq => ?_⟩
      have s4 := s3.trans (same_new (o := .lst ((sortS (addAll (wfl I pl))).map V.str)) hkq)
      have S04 := S02.trans s4
      generalize hww : sortS (addAll (wfl I pl)) = ww at hW hkq s4 S04
      have nfk : fl ≠ kq := ne_of_none (upd_same (H := H2) (a := fl) (o := .lst [])) hkq
      refine ⟨kq, rfl, ⟨_, SqL.of upd_same⟩, ?_⟩
      refine for_list (K := K) (a := kq) (xs := ww.map V.str) (fun i σ H5 => ∃ (v4 : Option V) (acc : List V), σ = [some (.ref I.ix), some qv, some (.ref wd), v3, v4, some (.ref fl)] ∧ Same H H5 ∧ H5 kq = some (.lst (ww.map V.str)) ∧ H5 fl = some (.lst acc) ∧ DtAll H5 acc (((ww.take i).flatMap I.PS).map ePost))
        ⟨v4, [], rfl, S04, upd_same, by rw [upd_ne nfk]; exact upd_same, .nil⟩ (fun i σ H5 _ ⟨_, _, _, _, h, _⟩ => SqL.of h) ?_ ?_
      · rintro i v σ H5 hv ⟨v4', acc, rfl, s5, hk5, hf5, da⟩
        obtain ⟨x, hx, rfl⟩ := str_at1 hv
        refine ⟨_, rfl, .inl ⟨rfl, _, SqL.of hf5⟩, _, rfl, I.ix, dx, _, rfl, s5 _ _ ho, rfl, _, rfl, I, x, rfl, X.same s5, fun oq H6 oxs hoq s6 ho6 do6 => ?_⟩
        have hsz2 : acc.length + oxs.length ≤ 549 := by
          have hnd : (ww.take (i + 1)).Nodup := hW.nd.sublist (List.take_sublist _ _)
          have h1 := flat_le549 X.good X.sh.ok X.sh.len hnd
          rw [take_snoc hx, List.flatMap_append, List.length_append] at h1
          have h2 : acc.length = ((ww.take i).flatMap I.PS).length := by rw [da.length, List.length_map]
          have h3 : oxs.length = (I.PS x).length := by rw [do6.length, List.length_map]
          have h4 : ([x].flatMap I.PS).length = (I.PS x).length := by simp
          omega
        have nof : fl ≠ oq := ne_of_none hf5 hoq
        refine ⟨fl, oq, acc, oxs, rfl, rfl, s6 _ _ hf5, ho6, small_le (by omega), ?_⟩
        have tk : Tk H6 (upd H6 fl (.lst (acc ++ oxs))) := tk_put (s6 _ _ hf5) fun xs z => nomatch z
        refine ⟨_, acc ++ oxs, rfl, fun b o e => by rw [upd_ne (ne_of_none e nfH)]; exact s6 _ _ (s5 _ _ e), by rw [upd_ne nfk.symm]; exact s6 _ _ hk5, upd_same, ?_⟩
        rw [take_snoc hx, List.flatMap_append, List.map_append]
        refine ((da.tk (tk_same s6)).tk tk).append ?_
        have e : [x].flatMap I.PS = I.PS x := by simp
        rw [e]
        exact do6.tk tk
      · rintro σ H5 ⟨v4', acc, rfl, s5, hk5, hf5, da⟩
        rw [List.length_map, List.take_length] at da
        exact ⟨_, rfl, k fl H5 acc ww nfH s5 hf5 da hW⟩
end
end Tsf
/-! index.Index: versions_for, answer, read, shelf -/
namespace Tsf
open PySem PySem.Spec PyProof.Rows L2
theorem Wanted.p {K : PySem.W.Frag} {H : Hp} {I : IxD} {q : Q_} {ww : List Str} (X : IxP K H I) (w : Wanted I q ww) : WantedP I.es I.cs q (ww.flatMap I.PS) := fun p => by
  rw [flat_mem X.good, w.mem]
  constructor
  · rintro ⟨⟨_, h1⟩, h2⟩
    exact ⟨h2, h1⟩
  · rintro ⟨h1, h2⟩
    refine ⟨⟨(X.bw.ne _).mpr fun e => ?_, h2⟩, h1⟩
    have := (X.good.mem p.1 p).mpr ⟨rfl, h1⟩
    rw [e] at this
    cases this
theorem vlist_ok {K : PySem.W.Frag} {H : Hp} {I : IxD} (X : IxP K H I) (q : Q_) : PlOk I.es I.cs q (vlist I) := by
  refine ⟨fun p hp => ?_, fun k v hv hn => ?_⟩
  · obtain ⟨k, _, h⟩ := List.mem_flatMap.mp hp
    obtain ⟨v, hv, rfl⟩ := List.mem_map.mp h
    exact mem_allV.mpr ⟨v, hv, rfl⟩
  · refine absurd (List.mem_flatMap.mpr ⟨k, (sortS_perm _).mem_iff.mpr ((X.pw.mem k).mpr (hist_key hv)), List.mem_map.mpr ⟨v, hv, rfl⟩⟩) hn
theorem vlist_nd {K : PySem.W.Frag} {H : Hp} {I : IxD} (X : IxP K H I) : (vlist I).Nodup := allV_nodup X.sh.ok ((sortS_perm _).nodup_iff.mpr X.pw.nd)
theorem vlist_len {K : PySem.W.Frag} {H : Hp} {I : IxD} (X : IxP K H I) : (vlist I).length ≤ 9 := by
  have h1 := flat_len (es := I.es) X.sh.ok ((sortS_perm I.pks).nodup_iff.mpr X.pw.nd)
  have h2 := X.sh.len
  unfold vlist
  omega
theorem paired_plc {H : Hp} {g : Plc → V} : ∀ {ps : List Plc} {as : List Addr}, Paired (fun c (kv : List Leaf × V) => H c = some (.tup (kv.1.map lfV))) as (nKvs ps g) → (∀ p ∈ ps, PyData.strOk p.1 = true) → DtAll H (as.map V.ref) (ps.map ePlc)
  | [], _, h, _ => by cases h; exact .nil
  | p :: ps, _, h, hs => by
    cases h with
    | cons h1 h2 =>
      refine .cons ?_ (paired_plc h2 fun q hq => hs q (List.mem_cons_of_mem _ hq))
      have h1' := h1
      dsimp only at h1'
      rw [lf_map] at h1'
      exact .tup h1' (.cons (.str _ (hs p (List.mem_cons_self ..))) (.cons (.int _) (.cons (dt_opt _) .nil)))
section
variable {P : Program} {w : World} {K : PySem.W.Frag} {mg : Str → Option Value} {base : Heap}
def spVF (n : Nat) : Sp := fun vs H Q _ => ∃ (I : IxD) (qv : V) (q : Q_) (po : Addr) (oxs : List V) (W : List Post), vs = [.ref I.ix, qv, .ref po] ∧ IxP K H I ∧ Dt H qv (eQn q) ∧ fine q ∧ q.depth < n ∧ H po = some (.lst oxs) ∧ DtAll H oxs (W.map ePost) ∧ WantedP I.es I.cs q W ∧
  ∀ r H' (pxs : List V) (PL : List Plc), H r = none → Same H H' → H' r = some (.lst pxs) → DtAll H' pxs (PL.map ePlc) → PlOk I.es I.cs q PL → PL.Nodup → PL.length ≤ 9 → Q (.ref r) H'
theorem con_versions_for (T : Tx K mg) (n : Nat) : Con P w K mg base (5 + n) (He.ma K (He.ga K "Index") "versions_for") ["self", "question", "postings"] (spVF (K := K) n) := by
  obtain ⟨fd, F⟩ := T.d_Index_versions_for
  obtain ⟨fdn, GN, bN, kN⟩ := con_needs_all (P := P) (w := w) (base := base) T n
  obtain ⟨fdv, GV, bV, kV⟩ := (con_versions (P := P) (w := w) (base := base) T).mono (show 1 ≤ 4 + n by omega)
  have e : 5 + n = (4 + n) + 1 := by omega
  rw [e]
  refine ⟨fd, F.ok sc_Index_versions_for (fun vs H Q E h => ?_) (fun cdv A outer s H vs Q E hr h => ?_), F.bindsN fun _ _ _ _ _ _ us hl => match us, hl with | [_, _, _], _ => rfl, F.kp⟩
  · obtain ⟨I, qv, q, po, oxs, W, rfl, _⟩ := h
    rfl
  · obtain ⟨I, qv, q, po, oxs, W, rfl, X, hq, hf, hd, hpo, dpo, hW, k⟩ := h
    obtain ⟨dx, lt, ho⟩ := X.obj
    have nd := sc_Index_versions_for.nd
    refine ⟨_, PSs.nox (pss_cons (ps_if (pt_val (pe_call GN hr (by rfl) T.g_needs_all kN bN .nil pass0 (pa_cons (pv 1) pa_nil))) (pss_one (ps_ret (pe_meth0 (pv 0) T.c_Index T.m_Index_versions GV hr bV .nil pass0))) pss_nil)
      (pss_cons (ps_set (i := 3) nd rfl (.inl rfl) pe_dnewN)
      (pss_cons (ps_for PassesOwn.never rfl (pi_list (pv 2)) (pg_name (i := 4) nd rfl (.inl rfl)) (pss_one (ps_dputN (Room.u1 hr) (pv 3) (pe_slice sl_tup (pv 4) (po_some pe_int) (po_some pe_int)) pe_bl rfl)))
      (pss_one (ps_ret (pe_callTy (call_listN rfl) (by rfl) T.z_list (by decide +kernel) (pa_cons (pv 3) pa_nil))))))), ?_⟩
    refine ⟨_, rfl, qv, q, rfl, hq, hf, hd, fun H1 s1 => ⟨_, rfl, ?_⟩⟩
    refine ite2 (fun c => ?_) (fun c => ?_)
    · exact ⟨_, rfl, I.ix, dx, _, rfl, s1 _ _ ho, rfl, I, rfl, X.same s1, fun r H2 pxs hr1 s2 h2 d2 => k r H2 pxs (vlist I) (same_none s1 hr1) (s1.trans s2) h2 d2 (vlist_ok X q) (vlist_nd X) (vlist_len X)⟩
    · have c' : Ts.matchD fitsS [] q = false := by
        cases z : Ts.matchD fitsS [] q with
        | false => rfl
        | true => exact absurd z c
      intro d od hd0 hD
      have hdH : H d = none := same_none s1 hd0
      have s2 : Same H (upd H1 d od) := s1.trans (same_new hd0)
      have hVsub : ∀ ps ∈ W, plcOf ps ∈ allV I.es I.cs := fun ps hps => by
        obtain ⟨v, hv, h1, _⟩ := post_ver ((hW ps).mp hps).1
        rw [h1]
        exact mem_allV.mpr ⟨v, hv, rfl⟩
      have hVlen : (allV I.es I.cs).length ≤ 9 := by
        have h1 := flat_len (es := I.es) X.sh.ok (nodup_addAll (I.cs.map fun c => c.2.1))
        have h2 := X.sh.len
        exact Nat.le_trans h1 h2
      have hsz : ∀ l : List Post, (∀ p ∈ l, p ∈ W) → (addAll (l.map plcOf)).length ≤ 9 := fun l hl => by
        have h1 := nodup_le (nodup_addAll (l.map plcOf)) (m := allV I.es I.cs) fun x hx => by
          obtain ⟨ps, hps, rfl⟩ := List.mem_map.mp (mem_addAll.mp hx)
          exact hVsub ps (hl ps hps)
        omega
      refine ⟨_, rfl, po, rfl, ⟨_, SqL.of (s2 _ _ hpo)⟩, ?_⟩
      refine for_list (K := K) (a := po) (xs := oxs) (fun i σ H3 => ∃ v4, σ = [some (.ref I.ix), some qv, some (.ref po), some (.ref d), v4] ∧ Same H H3 ∧ DicN P w H3 d (nKvs (addAll ((W.take i).map plcOf)) fun _ => V.bl true))
        ⟨none, rfl, s2, hD⟩ (fun i σ H3 _ ⟨_, _, s3, _⟩ => SqL.of (s3 _ _ hpo)) ?_ ?_
      · rintro i x σ H3 hx ⟨v4, rfl, s3, D3⟩
        obtain ⟨ps, hp, dp⟩ := dpo.mget hx
        obtain ⟨b, u1, u2, u3, u4, u5, rfl, hb, hu1, hu2, hu3, hu4, hu5⟩ := (show Dt H x (.tuple [.str ps.1, .str ps.2.1, .int ps.2.2.1, eOpt ps.2.2.2.1, eInts ps.2.2.2.2]) from dp).t5
        obtain ⟨rfl, _⟩ := hu1.str_inv
        obtain ⟨rfl, _⟩ := hu2.str_inv
        obtain rfl := hu3.int_inv
        obtain rfl := hu4.opt_inv
        have hcut : ∀ (c : List V), c = [V.str ps.1, .str ps.2.1, .int ps.2.2.1, oV ps.2.2.2.1, u5] → cutV c (some 1) (some 4) = (lf (plcOf ps)).map lfV := by
          rintro c rfl
          rw [lf_map]
          rfl
        have hnw : ∀ (c : List V), c = [V.str ps.1, .str ps.2.1, .int ps.2.2.1, oV ps.2.2.2.1, u5] → ¬ (HT.sIx c.length 0 (some 1) = 0 ∧ HT.sIx c.length c.length (some 4) = c.length) := by
          rintro c rfl ⟨z, _⟩
          exact absurd (show (1 : Nat) = 0 from z) (by decide)
        refine ⟨_, rfl, _, rfl, _, rfl, _, rfl, b, _, rfl, SqT.of (s3 _ _ hb), hnw _ rfl, fun t1 ht1 => ?_⟩
        rw [hcut _ rfl]
        have s4 := s3.trans (same_new (o := .tup ((lf (plcOf ps)).map lfV)) ht1)
        have D4 := D3.same (same_new (o := .tup ((lf (plcOf ps)).map lfV)) ht1)
        refine ⟨d, t1, _, lf (plcOf ps), rfl, rfl, D4, upd_same, ?_, fun o hDo => ?_⟩
        · rw [List.length_map]
          have := hsz (W.take i) fun p hp => List.mem_of_mem_take hp
          exact small1000 (by omega)
        · refine ⟨_, rfl, fun b' o' e => by rw [upd_ne (ne_of_none e hdH)]; exact s4 _ _ e, ?_⟩
          rw [take_snoc hp, List.map_append]
          show DicN P w _ d (nKvs (addAll ((W.take i).map plcOf ++ [plcOf ps])) fun _ => V.bl true)
          rw [addAll_snoc, ← putN_add]
          exact hDo
      · rintro σ H3 ⟨v4, rfl, s3, D3⟩
        have el : oxs.length = W.length := by rw [dpo.length, List.length_map]
        rw [el, List.take_length] at D3
        refine ⟨_, rfl, d, _, rfl, D3, fun as r hpa hr1 => ?_⟩
        have hso : ∀ p ∈ addAll (W.map plcOf), PyData.strOk p.1 = true := fun p hp => by
          obtain ⟨ps, hps, rfl⟩ := List.mem_map.mp (mem_addAll.mp hp)
          obtain ⟨i, hi⟩ := List.getElem?_of_mem hps
          obtain ⟨x, _, dp⟩ := dpo.mat hi
          obtain ⟨b, u1, u2, u3, u4, u5, rfl, hb, hu1, hu2, hu3, hu4, hu5⟩ := (show Dt H x (.tuple [.str ps.1, .str ps.2.1, .int ps.2.2.1, eOpt ps.2.2.2.1, eInts ps.2.2.2.2]) from dp).t5
          exact hu2.str_inv.2
        refine k r _ _ (addAll (W.map plcOf)) (same_none s3 hr1) (s3.trans (same_new hr1)) upd_same ((paired_plc hpa hso).tk (tk_new hr1)) ⟨fun p hp => ?_, fun kx v hv hn => ?_⟩ (nodup_addAll _) (hsz W fun _ h => h)
        · obtain ⟨ps, hps, rfl⟩ := List.mem_map.mp (mem_addAll.mp hp)
          exact hVsub ps hps
        · rw [mt_skip hW hv fun h => hn (mem_addAll.mpr h)]
          exact c'
def spAns (n : Nat) : Sp := fun vs H Q _ => ∃ (I : IxD) (qv : V) (q : Q_), vs = [.ref I.ix, qv] ∧ IxP K H I ∧ Dt H qv (eQn q) ∧ fine q ∧ q.depth < n ∧ q.pats.length ≤ 1000 ∧
  ∀ fa H' ks ft W PL, H fa = none → Same H H' → H' fa = some (.dK (aKvs ks ft)) → WantedP I.es I.cs q W → PlOk I.es I.cs q PL → Ans H' PL (mt q W) ks ft → Q (.ref fa) H'
theorem con_answer (T : Tx K mg) (n : Nat) : Con P w K mg base (6 + n) (He.ma K (He.ga K "Index") "answer") ["self", "question"] (spAns (K := K) n) := by
  obtain ⟨fd, F⟩ := T.d_Index_answer
  obtain ⟨fdw, GW, bW, kW⟩ := (con_wanted (P := P) (w := w) (base := base) T n).mono (show 3 + n ≤ 5 + n by omega)
  obtain ⟨fdv, GV, bV, kV⟩ := con_versions_for (P := P) (w := w) (base := base) T n
  obtain ⟨fda, GA, bA, kA⟩ := con_answer_by (P := P) (w := w) (base := base) T n
  have e : 6 + n = (5 + n) + 1 := by omega
  rw [e]
  refine ⟨fd, F.ok sc_Index_answer (fun vs H Q E h => ?_) (fun cdv A outer s H vs Q E hr h => ?_), F.bindsN fun _ _ _ _ _ _ us hl => match us, hl with | [_, _], _ => rfl, F.kp⟩
  · obtain ⟨I, qv, q, rfl, _⟩ := h
    rfl
  · obtain ⟨I, qv, q, rfl, X, hq, hf, hd, hpl, k⟩ := h
    obtain ⟨dx, lt, ho⟩ := X.obj
    have nd := sc_Index_answer.nd
    refine ⟨_, PSs.nox (pss_cons (ps_set (i := 2) nd rfl (.inl rfl) (pe_meth (pv 0) T.c_Index T.m_Index_wanted GW hr bW .nil pass0 (pa_cons (pv 1) pa_nil)))
      (pss_one (ps_ret (pe_call GA hr (by rfl) T.g_answer_by kA bA .nil pass0 (pa_cons (pv 1) (pa_cons (pe_meth (pv 0) T.c_Index T.m_Index_versions_for GV hr bV .nil pass0 (pa_cons (pv 1) (pa_cons (pv 2) pa_nil))) (pa_cons (pv 2) pa_nil))))))), ?_⟩
    refine ⟨_, rfl, I.ix, dx, _, rfl, ho, rfl, _, rfl, I, qv, q, rfl, X, hq, hd, hpl, fun po H1 oxs ww hpo s1 h1 d1 hW => ?_⟩
    have X1 := X.same s1
    have hWP := hW.p X
    refine ⟨_, rfl, _, rfl, I.ix, dx, _, rfl, s1 _ _ ho, rfl, _, rfl, _, rfl, I, qv, q, po, oxs, _, rfl, X1, hq.tk (tk_same s1), hf, hd, h1, d1, hWP, fun pl H2 pxs PL hpl2 s2 h2 d2 hP hn hl => ?_⟩
    have s12 := s1.trans s2
    have hWn := flat_nodup X.good hW.nd
    have hWs : ∀ p ∈ ww.flatMap I.PS, p ∈ allP I.es I.cs := fun p hp => ((hWP p).mp hp).1
    have hWl := flat_le549 X.good X.sh.ok X.sh.len hW.nd
    refine ⟨_, rfl, qv, pl, po, pxs, oxs, q, PL, ww.flatMap I.PS, rfl, hq.tk (tk_same s12), hf, hd, ⟨h2, d2, hn, by omega, s2 _ _ h1, d1.tk (tk_same s2), wplc_nodup X.sh.ok hWn hWs, by omega, fun p _ => tot_le X.sh.ok hWn hWs p⟩, fun fa H3 ks ft s3 hfa h3 A3 => ?_⟩
    exact k fa H3 ks ft _ PL (same_none s12 hfa) (s12.trans s3) h3 hWP hP A3
def spRead (n : Nat) : Sp := fun vs H Q _ => ∃ (I : IxD) (qv : V) (q : Q_), vs = [.ref I.ix, qv] ∧ IxP K H I ∧ Dt H qv (eQn q) ∧ fine q ∧ q.depth < n ∧ q.pats.length ≤ 1000 ∧
  ∀ H' ww, Same H H' → Wanted I q ww → Q (.int ((((ww.flatMap I.PS).length : Nat) : Int) + (if Ts.matchD fitsS [] q then (((vlist I).length : Nat) : Int) else 0))) H'
theorem con_read (T : Tx K mg) (n : Nat) : Con P w K mg base (6 + n) (He.ma K (He.ga K "Index") "read") ["self", "question"] (spRead (K := K) n) := by
  obtain ⟨fd, F⟩ := T.d_Index_read
  obtain ⟨fdw, GW, bW, kW⟩ := (con_wanted (P := P) (w := w) (base := base) T n).mono (show 3 + n ≤ 5 + n by omega)
  obtain ⟨fdv, GV, bV, kV⟩ := (con_versions (P := P) (w := w) (base := base) T).mono (show 1 ≤ 5 + n by omega)
  obtain ⟨fdn, GN, bN, kN⟩ := (con_needs_all (P := P) (w := w) (base := base) T n).mono (show 4 + n ≤ 5 + n by omega)
  have e : 6 + n = (5 + n) + 1 := by omega
  rw [e]
  refine ⟨fd, F.ok sc_Index_read (fun vs H Q E h => ?_) (fun cdv A outer s H vs Q E hr h => ?_), F.bindsN fun _ _ _ _ _ _ us hl => match us, hl with | [_, _], _ => rfl, F.kp⟩
  · obtain ⟨I, qv, q, rfl, _⟩ := h
    rfl
  · obtain ⟨I, qv, q, rfl, X, hq, hf, hd, hpl, k⟩ := h
    obtain ⟨dx, lt, ho⟩ := X.obj
    have nd := sc_Index_read.nd
    refine ⟨_, PSs.nox (pss_cons (ps_set (i := 2) nd rfl (.inl rfl) (pe_callB call_len_seq (by rfl) T.z_len PySem.boot_len (pa_cons (pe_meth (pv 0) T.c_Index T.m_Index_wanted GW hr bW .nil pass0 (pa_cons (pv 1) pa_nil)) pa_nil)))
      (pss_cons (ps_if (pt_val (pe_call GN hr (by rfl) T.g_needs_all kN bN .nil pass0 (pa_cons (pv 1) pa_nil)))
        (pss_one (ps_set (i := 2) nd rfl (.inl rfl) (pe_op op_add (pv 2) (pe_callB call_len_seq (by rfl) T.z_len PySem.boot_len (pa_cons (pe_meth0 (pv 0) T.c_Index T.m_Index_versions GV hr bV .nil pass0) pa_nil))))) pss_nil)
      (pss_one (ps_ret (pv 2))))), ?_⟩
    refine ⟨_, rfl, I.ix, dx, _, rfl, ho, rfl, _, rfl, I, qv, q, rfl, X, hq, hd, hpl, fun po H1 oxs ww hpo s1 h1 d1 hW => ?_⟩
    refine ⟨po, oxs, rfl, .inl (SqL.of h1), ?_⟩
    have el : oxs.length = (ww.flatMap I.PS).length := by rw [d1.length, List.length_map]
    refine ⟨_, rfl, qv, q, rfl, hq.tk (tk_same s1), hf, hd, fun H2 s2 => ⟨_, rfl, ?_⟩⟩
    refine ite2 (fun c => ?_) (fun c => ?_)
    · have s12 := s1.trans s2
      refine ⟨_, rfl, _, rfl, I.ix, dx, _, rfl, s12 _ _ ho, rfl, I, rfl, X.same s12, fun vq H3 pxs hvq s3 h3 d3 => ?_⟩
      refine ⟨vq, pxs, rfl, .inl (SqL.of h3), _, _, rfl, rfl, ?_⟩
      have el2 : pxs.length = (vlist I).length := by rw [d3.length, List.length_map]
      have kk := k H3 ww (s12.trans s3) hW
      rw [if_pos c] at kk
      refine ⟨_, rfl, ?_⟩
      rw [el, el2]
      exact kk
    · have kk := k H2 ww (s1.trans s2) hW
      rw [if_neg c, Int.add_zero] at kk
      refine ⟨_, rfl, ?_⟩
      rw [el]
      exact kk
def spShelf : Sp := fun vs H Q _ => ∃ (I : IxD), vs = [.ref I.ix] ∧ IxP K H I ∧ ∀ fa ca2 H', H fa = none → Same H H' → Sh K H' fa ca2 I.es I.cs → Q (.ref fa) H'
theorem con_shelf (T : Tx K mg) : Con P w K mg base 4 (He.ma K (He.ga K "Index") "shelf") ["self"] (spShelf (K := K)) := by
  obtain ⟨fd, F⟩ := T.d_Index_shelf
  obtain ⟨fdi, GI, bI, kI⟩ := con_Shelf_init (P := P) (w := w) (base := base) T
  obtain ⟨fde, GE, bE, kE⟩ := (con_Shelf_endings (P := P) (w := w) (base := base) T).mono (show 1 ≤ 3 by omega)
  obtain ⟨fdc, GC, bC, kC⟩ := (con_Shelf_changes (P := P) (w := w) (base := base) T).mono (show 1 ≤ 3 by omega)
  obtain ⟨fdt, GT, bT, kT⟩ := con_Shelf_tell (P := P) (w := w) (base := base) T
  refine ⟨fd, F.ok sc_Index_shelf (fun vs H Q E h => ?_) (fun cdv A outer s H vs Q E hr h => ?_), F.bindsN fun _ _ _ _ _ _ us hl => match us, hl with | [_], _ => rfl, F.kp⟩
  · obtain ⟨I, rfl, _⟩ := h
    rfl
  · obtain ⟨I, rfl, X, k⟩ := h
    obtain ⟨dx, lt, ho⟩ := X.obj
    obtain ⟨dxs, eas, hos, hes⟩ := X.sh.obj
    have nd := sc_Index_shelf.nd
    have hr2 : Room (1 + 1) _ := hr.mono (show 1 + 1 ≤ 3 by omega)
    refine ⟨_, PSs.nox (pss_cons (ps_set (i := 1) nd rfl (.inl rfl) (pe_make T.k_Shelf GI hr2 (by rfl) T.g_Shelf bI .nil pass0 (pa_cons (pe_meth0 (pe_fld (pv 0) rfl) T.c_Shelf T.m_Shelf_endings GE hr bE .nil pass0) pa_nil)))
      (pss_cons (ps_for PassesOwn.never rfl (pi_list (pe_meth0 (pe_fld (pv 0) rfl) T.c_Shelf T.m_Shelf_changes GC hr bC .nil pass0)) (pg_tup rfl (pgs_cons (pg_name (i := 2) nd rfl (.inl rfl)) (pgs_cons (pg_name (i := 3) nd rfl (.inl rfl)) (pgs_cons (pg_name (i := 4) nd rfl (.inl rfl)) pgs_nil))))
        (pss_one (ps_expr (pe_meth (pv 1) T.c_Shelf T.m_Shelf_tell GT hr bT .nil pass0 (pa_cons (pv 2) (pa_cons (pv 3) (pa_cons (pv 4) pa_nil)))))))
      (pss_one (ps_ret (pv 1))))), ?_⟩
    refine ⟨_, rfl, I.ix, _, dx, _, _, rfl, ho, T.c_Index, T.n_Index_told, rfl, I.sh, dxs, _, rfl, hos, rfl, I.sh, I.ca, I.es, I.cs, rfl, X.sh, fun ea hea => ?_⟩
    intro x dx2 hx hdx2 hne
    have s0 : Same H (upd (upd H dx2 (.own x)) x (.ins (He.ga K "Shelf") dx2 [])) := fun b o e => by
      rw [upd_ne (ne_of_none e hx), upd_ne (ne_of_none e hdx2)]; exact e
    refine ⟨x, dx2, ea, I.es, rfl, upd_same, hea.tk (tk_same s0), X.sh.e10, fun ca2 H1 hca k1 S1 => ⟨rfl, ?_⟩⟩
    have s1 : Same H H1 := fun b o e => k1 b o (ne_of_none e hx) (s0 _ _ e)
    have hcaH : H ca2 = none := same_none s0 hca
    refine ⟨_, rfl, I.ix, _, dx, _, _, rfl, s1 _ _ ho, T.c_Index, T.n_Index_told, rfl, I.sh, dxs, _, rfl, s1 _ _ hos, rfl, I.sh, I.ca, I.es, I.cs, rfl, X.sh.same s1, fun q cxs hq dcx => ?_⟩
    have hqH : H q = none := same_none s1 hq
    obtain ⟨_, hc1, _⟩ := S1.chg
    have ncq : q ≠ ca2 := (ne_of_none hc1 hq).symm
    refine ⟨q, rfl, ⟨_, SqL.of upd_same⟩, ?_⟩
    have h9 := X.sh.len
    refine for_list (K := K) (a := q) (xs := cxs) (fun i σ H2 => ∃ (v2 v3 v4 : Option V), σ = [some (.ref I.ix), some (.ref x), v2, v3, v4] ∧ Same H H2 ∧ Tk H1 H2 ∧ H2 q = some (.lst cxs) ∧ Sh K H2 x ca2 I.es (I.cs.take i))
      ⟨none, none, none, rfl, s1.trans (same_new hq), tk_new hq, upd_same, S1.same (same_new hq)⟩ (fun i σ H2 _ ⟨_, _, _, _, _, _, h, _⟩ => SqL.of h) ?_ ?_
    · rintro i y σ H2 hy ⟨v2, v3, v4, rfl, s2, tk2, hq2, S2⟩
      obtain ⟨c, hc, dch⟩ := dcx.mget hy
      obtain ⟨b, u1, u2, u3, rfl, hb, hu1, hu2, hu3⟩ := (show Dt H1 y (.tuple [.int c.1, .str c.2.1, eTxt c.2.2]) from dch).t3
      obtain rfl := hu1.int_inv
      obtain ⟨rfl, _⟩ := hu2.str_inv
      obtain rfl := hu3.txt_inv
      have hi : i < I.cs.length := (List.getElem?_eq_some_iff.mp hc).1
      obtain ⟨dx3, ea3, ho3, _⟩ := S2.obj
      refine ⟨b, _, rfl, SqT.of (tk2 _ _ hb), rfl, _, _, rfl, _, _, rfl, _, _, rfl, rfl, ?_⟩
      refine ⟨_, rfl, x, dx3, _, rfl, ho3, rfl, _, rfl, _, rfl, _, rfl, x, ca2, I.es, I.cs.take i, c, rfl, S2, X.sh.ok c (List.mem_of_getElem? hc), by rw [List.length_take]; omega, fun H3 S3 k3 => ?_⟩
      refine ⟨_, _, _, rfl, fun b o e => k3 b o (ne_of_none e hcaH) (s2 _ _ e), fun b xs e => ?_, k3 _ _ ncq hq2, by rw [take_snoc hc]; exact S3⟩
      refine k3 b _ (fun z => ?_) (tk2 _ _ e)
      rw [z, hc1] at e
      cases e
    · rintro σ H2 ⟨v2, v3, v4, rfl, s2, tk2, hq2, S2⟩
      rw [dcx.length, List.length_map, List.take_length] at S2
      exact ⟨_, rfl, k x ca2 H2 hx s2 S2⟩
end
end Tsf
/-! index: without, Index.take_out, postings (of any row of postings), Index.__init__ -/
namespace Tsf
open PySem PySem.Spec PyProof.Rows L2
theorem any_eqv {H H' : Hp} {x : V} {p : Post} (hp : Dt H' x (ePost p)) : ∀ {xs : List V} {l : List Post}, DtAll H xs (l.map ePost) → ((l.map ePost).any fun z => PyData.eqv z (ePost p)) = decide (p ∈ l)
  | [], [], _ => rfl
  | [], _ :: _, h => by cases h
  | y :: xs, [], h => by cases h
  | y :: xs, q :: l, h => by
    rw [List.map_cons] at h ⊢
    cases h with
    | cons h1 h2 =>
      rw [List.any_cons, any_eqv hp h2, Bool.eq_iff_iff, Bool.or_eq_true, decide_eq_true_eq, decide_eq_true_eq, eqv_iff h1 hp, List.mem_cons]
      constructor
      · rintro (e | e)
        · exact .inl (ePost_inj e).symm
        · exact .inr e
      · rintro (e | e)
        · exact .inl (by rw [e])
        · exact .inr e
theorem rKvs_put {ks : List Str} {f : Key → Addr} {x : Str} {q : Addr} : putK (rKvs ks f) (Sum.inr x) (V.ref q) = rKvs (add ks x) fun j => if j = Sum.inr x then q else f j := by
  rw [putK_add, add_map (g := (Sum.inr : Str → Key)) fun a b e => Sum.inr.inj e]
  refine List.map_congr_left fun j _ => ?_
  show (j, if j = Sum.inr x then V.ref q else V.ref (f j)) = (j, V.ref (if j = Sum.inr x then q else f j))
  split <;> rfl
theorem rKvs_drop {ks : List Str} {f : Key → Addr} {x : Str} : dropK (rKvs ks f) (Sum.inr x) = rKvs (ks.filter fun y => decide (y ≠ x)) f := by
  unfold dropK rKvs
  rw [List.filter_map, List.filter_map]
  congr 2
  refine List.filter_congr fun y _ => ?_
  show decide ((Sum.inr y : Key) ≠ Sum.inr x) = decide (y ≠ x)
  refine decide_eq_decide.mpr ⟨fun h e => h (by rw [e]), fun h e => h (Sum.inr.inj e)⟩
theorem BW.put {H H1 : Hp} {bw ca : Addr} {PS : Str → List Post} {wks : List Str} {wf : Key → Addr} {x : Str} {q : Addr} {oxs : List V} {L : List Post} (B : BW H bw ca PS wks wf) (s : Same H H1) (hq : H1 q = some (.lst oxs)) (nq : q ≠ ca) (dq : DtAll H1 oxs (L.map ePost)) (hL : L ≠ []) :
    BW (upd H1 bw (.dK (putK (rKvs wks wf) (Sum.inr x) (V.ref q)))) bw ca (fun y => if y = x then L else PS y) (add wks x) (fun j => if j = Sum.inr x then q else wf j) := by
  have hb := s _ _ B.d
  have tk : Tk H1 (upd H1 bw (.dK (putK (rKvs wks wf) (Sum.inr x) (V.ref q)))) := tk_put hb fun xs z => nomatch z
  have nb : ∀ {a : Addr} {xs : List V}, H1 a = some (.lst xs) → a ≠ bw := fun {a xs} h z => by rw [z, hb] at h; cases h
  refine ⟨by rw [upd_same, rKvs_put], nodup_add B.nd, fun y hy => ?_, fun y => ?_⟩
  · by_cases e : y = x
    · subst e
      try dsimp only
      rw [if_pos rfl, if_pos rfl]
      exact ⟨nq, oxs, by rw [upd_ne (nb hq)]; exact hq, dq.tk tk⟩
    · rcases mem_add.mp hy with hy | hy
      · obtain ⟨n, o, h1, h2⟩ := B.l y hy
        try dsimp only
        rw [if_neg fun z => e (Sum.inr.inj z), if_neg e]
        exact ⟨n, o, by rw [upd_ne (nb (s _ _ h1))]; exact s _ _ h1, (h2.tk (tk_same s)).tk tk⟩
      · exact absurd hy e
  · rw [mem_add, B.ne]
    try dsimp only
    by_cases e : y = x
    · rw [if_pos e]
      exact ⟨fun _ => hL, fun _ => .inr e⟩
    · rw [if_neg e]
      exact ⟨fun h => h.elim id fun z => absurd z e, .inl⟩
theorem BW.drop {H H1 : Hp} {bw ca : Addr} {PS : Str → List Post} {wks : List Str} {wf : Key → Addr} {x : Str} (B : BW H bw ca PS wks wf) (s : Same H H1) :
    BW (upd H1 bw (.dK (dropK (rKvs wks wf) (Sum.inr x)))) bw ca (fun y => if y = x then [] else PS y) (wks.filter fun y => decide (y ≠ x)) wf := by
  have hb := s _ _ B.d
  have tk : Tk H1 (upd H1 bw (.dK (dropK (rKvs wks wf) (Sum.inr x)))) := tk_put hb fun xs z => nomatch z
  have nb : ∀ {a : Addr} {xs : List V}, H1 a = some (.lst xs) → a ≠ bw := fun {a xs} h z => by rw [z, hb] at h; cases h
  refine ⟨by rw [upd_same, rKvs_drop], B.nd.filter _, fun y hy => ?_, fun y => ?_⟩
  · obtain ⟨h1, h2⟩ := List.mem_filter.mp hy
    have e : y ≠ x := of_decide_eq_true h2
    obtain ⟨n, o, h3, h4⟩ := B.l y h1
    try dsimp only
    rw [if_neg e]
    exact ⟨n, o, by rw [upd_ne (nb (s _ _ h3))]; exact s _ _ h3, (h4.tk (tk_same s)).tk tk⟩
  · rw [List.mem_filter, B.ne, decide_eq_true_eq]
    try dsimp only
    by_cases e : y = x
    · rw [if_pos e]
      exact ⟨fun h => absurd e h.2, fun h => absurd rfl h⟩
    · rw [if_neg e]
      exact ⟨fun h => h.1, fun h => ⟨h, e⟩⟩
theorem Room.u65 {k : Nat} {A : Around} (r : Room k A) : A.units + 65 < cLine := by have := r.un; omega
theorem wks_le {H : Hp} {bw ca : Addr} {PS : Str → List Post} {wks : List Str} {wf : Key → Addr} {A : Post → Prop} {L : List Post} (B : BW H bw ca PS wks wf) (g : Good PS A) (h : ∀ p, A p → p ∈ L) : wks.length ≤ L.length := by
  have h1 := nodup_le B.nd (m := L.map fun p => p.1) fun x hx => by
    have h2 := (B.ne x).mp hx
    cases e : PS x with
    | nil => exact absurd e h2
    | cons p r =>
      have h3 := (g.mem x p).mp (by rw [e]; exact List.mem_cons_self ..)
      exact List.mem_map.mpr ⟨p, h _ h3.2, h3.1⟩
  rw [List.length_map] at h1
  exact h1
/-- an index's object -/
def IxObj (K : PySem.W.Frag) (H : Hp) (ix sh pl bw : Addr) : Prop := ∃ dx lt, H ix = some (.ins (He.ga K "Index") dx [("told", .ref sh), ("places", .ref pl), ("by_word", .ref bw), ("last", lt)])
section
variable {P : Program} {w : World} {K : PySem.W.Frag} {mg : Str → Option Value} {base : Heap}
def spWithout : Sp := fun vs H Q _ => ∃ (a b : Addr) (axs bxs : List V) (A B : List Post), vs = [.ref a, .ref b] ∧ H a = some (.lst axs) ∧ DtAll H axs (A.map ePost) ∧ H b = some (.lst bxs) ∧ DtAll H bxs (B.map ePost) ∧ A.length ≤ 1000 ∧
  ∀ q H' (xs : List V), H q = none → Same H H' → H' q = some (.lst xs) → DtAll H' xs ((A.filter fun p => decide (p ∉ B)).map ePost) → Q (.ref q) H'
theorem con_without (T : Tx K mg) : Con P w K mg base 1 (He.ga K "without") ["one", "other"] (spWithout) := by
  obtain ⟨fd, F⟩ := T.d_without
  refine ⟨fd, F.ok sc_without (fun vs H Q E h => ?_) (fun cdv A outer s H vs Q E hr h => ?_), F.bindsN fun _ _ _ _ _ _ us hl => match us, hl with | [_, _], _ => rfl, F.kp⟩
  · obtain ⟨a, b, axs, bxs, A, B, rfl, _⟩ := h
    rfl
  · obtain ⟨a, b, axs, bxs, A, B, rfl, ha, da, hb, db, hlen, k⟩ := h
    have nd := sc_without.nd
    refine ⟨_, PSs.nox (pss_one (ps_ret (pe_lc (own := [("item", 2)]) (g := gName 2) rfl nd (pi_list (pv 0)) (blkOk_by (own := [("item", 2)]) (N := ["one", "other", "item"]) (sc := defScope s_without) (by decide +kernel))
              (fun _ _ _ _ _ => pg_name (i := 2) nd rfl (.inl rfl)) (fun _ _ _ _ _ => pts_one (pt_cmpR (show OpR _ _ (rNotInT K) from op_notInT (Room.u65 hr)) (pv 2) (pv 1) (by rfl))) (fun _ _ _ _ _ => pv 2)))), ?_⟩
    refine ⟨_, rfl, a, rfl, ⟨_, SqL.of ha⟩, fun D hD => ?_⟩
    refine lc_list (K := K) (a := a) (xs := axs) (fun i H1 => ∃ acc, Same H H1 ∧ H1 D = some (.lst acc) ∧ DtAll H1 acc (((A.take i).filter fun p => decide (p ∉ B)).map ePost))
      ⟨[], same_new hD, upd_same, .nil⟩ (fun i H1 _ ⟨_, s1, _⟩ => SqL.of (s1 _ _ ha)) ?_ ?_
    · rintro i x H1 hx ⟨acc, s1, hD1, dacc⟩
      obtain ⟨p, hp, dp⟩ := da.mget hx
      have et := take_snoc hp
      have hi : i < A.length := (List.getElem?_eq_some_iff.mp hp).1
      refine ⟨rfl, ?_⟩
      refine ⟨_, rfl, _, rfl, b, bxs, ePost p, B.map ePost, rfl, SqL.of (s1 _ _ hb), db.tk (tk_same s1), dp.tk (tk_same s1), Nat.le_trans (depth_post p) (by decide), fun z hz => ?_, _, rfl, ?_⟩
      · obtain ⟨q, _, rfl⟩ := List.mem_map.mp hz
        exact depth_post q
      · rw [any_eqv (dp.tk (tk_same s1)) (db.tk (tk_same s1))]
        refine ite2 (fun c => ?_) (fun c => ?_)
        · have hn : p ∉ B := by simpa using c
          have ef : [p].filter (fun p => decide (p ∉ B)) = [p] := by rw [List.filter_cons, if_pos (decide_eq_true hn)]; rfl
          refine ⟨_, rfl, acc, hD1, ?_, acc ++ [x], fun b' o e => ?_, upd_same, ?_⟩
          · have z := dacc.length
            have y := List.length_filter_le (fun p => decide (p ∉ B)) (A.take i)
            rw [List.length_map] at z
            rw [List.length_take] at y
            exact small1000 (by omega)
          · rw [upd_ne (ne_of_none e hD)]
            exact s1 _ _ e
          · have tk : Tk H1 (upd H1 D (.lst (acc ++ [x]))) := tk_put hD1 fun xs z => nomatch z
            rw [et, List.filter_append, ef, List.map_append]
            exact (dacc.tk tk).append (.cons ((dp.tk (tk_same s1)).tk tk) .nil)
        · have hn : ¬ p ∉ B := fun z => c (by simpa using z)
          have ef : [p].filter (fun p => decide (p ∉ B)) = [] := by rw [List.filter_cons, if_neg (by simpa using hn)]; rfl
          refine ⟨acc, s1, hD1, ?_⟩
          rw [et, List.filter_append, ef, List.append_nil]
          exact dacc
    · rintro H1 ⟨acc, s1, hD1, dacc⟩
      rw [da.length, List.length_map, List.take_length] at dacc
      exact k D H1 acc hD s1 hD1 dacc
def spPostB : Sp := fun vs H Q _ => ∃ (ix sh pl bw ca : Addr) (PS : Str → List Post) (wks : List Str) (wf : Key → Addr) (x : Str), vs = [.ref ix, .str x] ∧ IxObj K H ix sh pl bw ∧ BW H bw ca PS wks wf ∧ ∀ q H' (oxs : List V), H q = none → Same H H' → H' q = some (.lst oxs) → DtAll H' oxs ((PS x).map ePost) → Q (.ref q) H'
theorem con_postingsB (T : Tx K mg) : Con P w K mg base 1 (He.ma K (He.ga K "Index") "postings") ["self", "word"] (spPostB (K := K)) := by
  obtain ⟨fd, F⟩ := T.d_Index_postings
  refine ⟨fd, F.ok sc_Index_postings (fun vs H Q E h => ?_) (fun cdv A outer s H vs Q E hr h => ?_), F.bindsN fun _ _ _ _ _ _ us hl => match us, hl with | [_, _], _ => rfl, F.kp⟩
  · obtain ⟨ix, sh, pl, bw, ca, PS, wks, wf, x, rfl, _⟩ := h
    rfl
  · obtain ⟨ix, sh, pl, bw, ca, PS, wks, wf, x, rfl, ⟨dx, lt, ho⟩, B, k⟩ := h
    have nd := sc_Index_postings.nd
    refine ⟨_, PSs.nox (pss_one (ps_ret (pe_callTy call_list_of (by rfl) T.z_list (by decide +kernel) (pa_cons (pe_dget2 (Room.u1 hr) (pe_fld (pv 0) rfl) (pv 1) (pe_lst pa_nil) ⟨rfl, rfl, rfl, rfl⟩) pa_nil)))), ?_⟩
    refine ⟨_, rfl, ix, _, dx, _, _, rfl, ho, T.c_Index, T.n_Index_by_word, rfl, bw, rfl, .inl ⟨_, .inl B.d⟩, _, rfl, Nat.zero_le _, fun z hz => ?_⟩
    have s1 : Same H (upd H z (.lst [])) := same_new hz
    refine ⟨_, .inl ⟨_, Sum.inr x, .inl (s1 _ _ B.d), rfl, rfl⟩, ?_⟩
    rw [val_r]
    by_cases h : x ∈ wks
    · rw [if_pos h]
      obtain ⟨_, oxs, h1, h2⟩ := B.l x h
      refine ⟨wf (Sum.inr x), oxs, rfl, .inl (SqL.of (s1 _ _ h1)), fun q hq => ?_⟩
      have s2 := s1.trans (same_new (o := .lst oxs) hq)
      exact k q _ oxs (same_none s1 hq) s2 upd_same (h2.tk (tk_same s2))
    · rw [if_neg h]
      have e : PS x = [] := by
        by_cases q : PS x = []
        · exact q
        · exact absurd ((B.ne x).mpr q) h
      refine ⟨z, [], rfl, .inl (SqL.of upd_same), fun q hq => ?_⟩
      exact k q _ [] (same_none s1 hq) (s1.trans (same_new hq)) upd_same (by rw [e]; exact .nil)
def spOut : Sp := fun vs H Q _ => ∃ (ix sh pl bw ca : Addr) (PS : Str → List Post) (wks : List Str) (wf : Key → Addr) (pw : V) (p : Post), vs = [.ref ix, pw] ∧ IxObj K H ix sh pl bw ∧ BW H bw ca PS wks wf ∧ Dt H pw (ePost p) ∧ p ∈ PS p.1 ∧ (PS p.1).length ≤ 1000 ∧ wks.length ≤ 1000 ∧ (∃ o, H ca = some o) ∧
  ∀ H' wks' wf', BW H' bw ca (fun x => if x = p.1 then (PS x).filter fun q => decide (q ≠ p) else PS x) wks' wf' → (∀ b o, b ≠ bw → H b = some o → H' b = some o) → Q .non H'
theorem con_take_out (T : Tx K mg) : Con P w K mg base 1 (He.ma K (He.ga K "Index") "take_out") ["self", "posting"] (spOut (K := K)) := by
  obtain ⟨fd, F⟩ := T.d_Index_take_out
  refine ⟨fd, F.ok sc_Index_take_out (fun vs H Q E h => ?_) (fun cdv A outer s H vs Q E hr h => ?_), F.bindsN fun _ _ _ _ _ _ us hl => match us, hl with | [_, _], _ => rfl, F.kp⟩
  · obtain ⟨ix, sh, pl, bw, ca, PS, wks, wf, pw, p, rfl, _⟩ := h
    rfl
  · obtain ⟨ix, sh, pl, bw, ca, PS, wks, wf, pw, p, rfl, ⟨dx, lt, ho⟩, B, hp, hpm, hlen, hwl, ⟨oca, hca⟩, k⟩ := h
    obtain ⟨b, u1, u2, u3, u4, u5, rfl, hb, hu1, _, _, _, _⟩ := (show Dt H pw (.tuple [.str p.1, .str p.2.1, .int p.2.2.1, eOpt p.2.2.2.1, eInts p.2.2.2.2]) from hp).t5
    obtain ⟨rfl, _⟩ := hu1.str_inv
    have hw : p.1 ∈ wks := (B.ne _).mpr fun e => by rw [e] at hpm; cases hpm
    obtain ⟨_, oxs, h1, h2⟩ := B.l p.1 hw
    have nd := sc_Index_take_out.nd
    refine ⟨_, PSs.nox (pss_cons (ps_setLc (i := 2) (own := [("other", 3)]) (g := gName 3) rfl nd rfl rfl (sw_true rfl rfl rfl (by decide +kernel)) (pi_list (pe_dget (Room.u1 hr) (pe_fld (pv 0) rfl) (pe_ix ix_tup (pv 1) pe_int (fun _ _ => rfl)) (fun _ _ => rfl))) (blkOk_by (own := [("other", 3)]) (N := ["self", "posting", "rest", "other"]) (sc := defScope s_Index_take_out) (by decide +kernel))
              (fun _ _ _ _ _ => pg_name (i := 3) nd rfl (.inl rfl)) (fun _ _ _ _ _ => pts_one (pt_cmpR (op_neT (Room.u64 hr)) (pv 3) (pv 1) (nomark _))) (fun _ _ _ _ _ => pv 3))
      (pss_one (ps_if (pt_cmpR op_gt (pe_callB call_len_seq (by rfl) T.z_len PySem.boot_len (pa_cons (pv 2) pa_nil)) pe_int (nomark _))
        (pss_one (ps_dput (Room.u1 hr) (pe_fld (pv 0) rfl) (pe_ix ix_tup (pv 1) pe_int (fun _ _ => rfl)) (pv 2) rfl))
        (pss_one (ps_ddel (pe_fld (pv 0) rfl) (pe_ix ix_tup (pv 1) pe_int (fun _ _ => rfl))))))), ?_⟩
    refine ⟨_, rfl, ix, _, dx, _, _, rfl, ho, T.c_Index, T.n_Index_by_word, rfl, _, rfl, b, _, _, _, rfl, rfl, SqT.of hb, atI_nat (j := 0) rfl, bw, _, rfl, .inl ⟨_, Sum.inr p.1, .inl B.d, rfl, by rw [val_r, if_pos hw]⟩, ?_⟩
    refine ⟨wf (Sum.inr p.1), rfl, ⟨_, SqL.of h1⟩, fun D hD => ?_⟩
    refine lc_list (K := K) (a := wf (Sum.inr p.1)) (xs := oxs) (fun i H1 => ∃ acc, Same H H1 ∧ H1 D = some (.lst acc) ∧ DtAll H1 acc ((((PS p.1).take i).filter fun q => decide (q ≠ p)).map ePost))
      ⟨[], same_new hD, upd_same, .nil⟩ (fun i H1 _ ⟨_, s1, _⟩ => SqL.of (s1 _ _ h1)) ?_ ?_
    · rintro i x H1 hx ⟨acc, s1, hD1, dacc⟩
      obtain ⟨q, hq, dq⟩ := h2.mget hx
      have et := take_snoc hq
      have hi : i < (PS p.1).length := (List.getElem?_eq_some_iff.mp hq).1
      refine ⟨rfl, ?_⟩
      refine ⟨_, rfl, _, rfl, ePost q, ePost p, dq.tk (tk_same s1), hp.tk (tk_same s1), Nat.le_trans (depth_post q) (by decide), Nat.le_trans (depth_post p) (by decide), _, rfl, ?_⟩
      have hev : PyData.eqv (ePost q) (ePost p) = true ↔ q = p := ⟨fun z => ePost_inj ((eqv_iff dq hp).mp z), fun z => (eqv_iff dq hp).mpr (by rw [z])⟩
      refine ite2 (fun c => ?_) (fun c => ?_)
      · have hn : q ≠ p := fun z => by rw [hev.mpr z] at c; cases c
        have ef : [q].filter (fun q => decide (q ≠ p)) = [q] := by rw [List.filter_cons, if_pos (decide_eq_true hn)]; rfl
        refine ⟨_, rfl, acc, hD1, ?_, acc ++ [x], fun b' o e => ?_, upd_same, ?_⟩
        · have z := dacc.length
          have y := List.length_filter_le (fun q => decide (q ≠ p)) ((PS p.1).take i)
          rw [List.length_map] at z
          rw [List.length_take] at y
          exact small1000 (by omega)
        · rw [upd_ne (ne_of_none e hD)]
          exact s1 _ _ e
        · have tk : Tk H1 (upd H1 D (.lst (acc ++ [x]))) := tk_put hD1 fun xs z => nomatch z
          rw [et, List.filter_append, ef, List.map_append]
          exact (dacc.tk tk).append (.cons ((dq.tk (tk_same s1)).tk tk) .nil)
      · have hn : q = p := by
          cases z : PyData.eqv (ePost q) (ePost p) with
          | true => exact hev.mp z
          | false => rw [z] at c; exact absurd rfl c
        have ef : [q].filter (fun q => decide (q ≠ p)) = [] := by rw [List.filter_cons, if_neg (by simpa using hn)]; rfl
        refine ⟨acc, s1, hD1, ?_⟩
        rw [et, List.filter_append, ef, List.append_nil]
        exact dacc
    · rintro H1 ⟨acc, s1, hD1, dacc⟩
      rw [h2.length, List.length_map, List.take_length] at dacc
      have hal : acc.length = ((PS p.1).filter fun q => decide (q ≠ p)).length := by rw [dacc.length, List.length_map]
      have fr : ∀ o', ∀ b o, b ≠ bw → H b = some o → upd H1 bw o' b = some o := fun o' b o hb e => by rw [upd_ne hb]; exact s1 _ _ e
      refine ⟨_, rfl, D, _, rfl, .inl (SqL.of hD1), _, _, rfl, rfl, _, rfl, ?_⟩
      refine ite2 (fun c => ?_) (fun c => ?_)
      · have hne : ((PS p.1).filter fun q => decide (q ≠ p)) ≠ [] := fun z => by
          rw [z] at hal
          have := of_decide_eq_true c
          rw [hal] at this
          exact absurd this (by decide)
        have nDca : D ≠ ca := (ne_of_none hca hD).symm
        have B' := B.put (x := p.1) s1 hD1 nDca dacc hne
        refine ⟨_, rfl, _, rfl, ix, _, dx, _, _, rfl, s1 _ _ ho, T.c_Index, T.n_Index_by_word, rfl, _, rfl, b, _, _, _, rfl, rfl, SqT.of (s1 _ _ hb), atI_nat (j := 0) rfl, bw, _, rfl, .inl ⟨_, Sum.inr p.1, s1 _ _ B.d, rfl, ?_, rfl⟩, ?_⟩
        · rw [List.length_map, List.length_map]
          exact small1000 hwl
        · refine k _ (add wks p.1) (fun j => if j = Sum.inr p.1 then D else wf j) ?_ (fr _)
          have e : (fun x => if x = p.1 then (PS x).filter fun q => decide (q ≠ p) else PS x) = fun y => if y = p.1 then (PS p.1).filter (fun q => decide (q ≠ p)) else PS y := by
            funext y
            by_cases z : y = p.1
            · rw [if_pos z, if_pos z, z]
            · rw [if_neg z, if_neg z]
          rw [e]
          exact B'
      · have hnil : ((PS p.1).filter fun q => decide (q ≠ p)) = [] := by
          refine List.length_eq_zero_iff.mp ?_
          rw [← hal]
          have : ¬ (0 : Int) < (acc.length : Nat) := fun z => c (decide_eq_true z)
          omega
        have B' := B.drop (x := p.1) s1
        refine ⟨_, rfl, ix, _, dx, _, _, rfl, s1 _ _ ho, T.c_Index, T.n_Index_by_word, rfl, _, rfl, b, _, _, _, rfl, rfl, SqT.of (s1 _ _ hb), atI_nat (j := 0) rfl, bw, _, Sum.inr p.1, rfl, s1 _ _ B.d, rfl, by rw [val_r, if_pos hw]; rfl, ?_⟩
        refine k _ (wks.filter fun y => decide (y ≠ p.1)) wf ?_ (fr _)
        have e : (fun x => if x = p.1 then (PS x).filter fun q => decide (q ≠ p) else PS x) = fun y => if y = p.1 then [] else PS y := by
          funext y
          by_cases z : y = p.1
          · rw [if_pos z, if_pos z, z, hnil]
          · rw [if_neg z, if_neg z]
        rw [e]
        exact B'
end
end Tsf
/-! index.Index: __init__, tell -/
namespace Tsf
open PySem PySem.Spec PyProof.Rows L2
section
variable {P : Program} {w : World} {K : PySem.W.Frag} {mg : Str → Option Value} {base : Heap}
def spIxInit : Sp := fun vs H Q _ => ∃ (x dx ea : Addr) (es : Ends), vs = [.ref x, .ref ea] ∧ H x = some (.ins (He.ga K "Index") dx []) ∧ Dt H (.ref ea) (eEnds es) ∧ (∀ e ∈ es, e.1.length ≤ 10) ∧
  ∀ (I : IxD) H', I.ix = x → I.es = es → I.cs = [] → IxP K H' I → (∀ b o, b ≠ x → H b = some o → H' b = some o) → H I.ca = none → H I.pl = none → H I.bw = none → Q .non H'
theorem con_Index_init (T : Tx K mg) : Con P w K mg base 3 (He.ma K (He.ga K "Index") "__init__") ["self", "endings"] (spIxInit (K := K)) := by
  obtain ⟨fd, F⟩ := T.d_Index_init
  obtain ⟨fdi, GI, bI, kI⟩ := con_Shelf_init (P := P) (w := w) (base := base) T
  refine ⟨fd, F.ok sc_Index_init (fun vs H Q E h => ?_) (fun cdv A outer s H vs Q E hr h => ?_), F.bindsN fun _ _ _ _ _ _ us hl => match us, hl with | [_, _], _ => rfl, F.kp⟩
  · obtain ⟨x, dx, ea, es, rfl, _⟩ := h
    rfl
  · obtain ⟨x, dx, ea, es, rfl, hx, hea, h10, k⟩ := h
    have nd := sc_Index_init.nd
    have hr2 : Room (1 + 1) _ := hr
    refine ⟨_, PSs.nox (pss_cons (ps_fld (pv 0) (pe_make T.k_Shelf GI hr2 (by rfl) T.g_Shelf bI .nil pass0 (pa_cons (pv 1) pa_nil)) rfl)
      (pss_cons (ps_fld (pv 0) pe_dnewK rfl)
      (pss_cons (ps_fld (pv 0) pe_dnewK rfl)
      (pss_one (ps_fld (pv 0) (pe_tup (pa_cons pe_int (pa_cons pe_int pa_nil))) rfl))))), ?_⟩
    refine ⟨_, rfl, fun sh dxs hsh hdxs hne => ?_⟩
    have s0 : Same H (upd (upd H dxs (.own sh)) sh (.ins (He.ga K "Shelf") dxs [])) := fun b o e => by
      rw [upd_ne (ne_of_none e hsh), upd_ne (ne_of_none e hdxs)]; exact e
    refine ⟨sh, dxs, ea, es, rfl, upd_same, hea.tk (tk_same s0), h10, fun ca H1 hca k1 S1 => ⟨rfl, ?_⟩⟩
    have s1 : Same H H1 := fun b o e => k1 b o (ne_of_none e hsh) (s0 _ _ e)
    have hcaH : H ca = none := same_none s0 hca
    obtain ⟨dx1, ea1, ho1, hes1⟩ := S1.obj
    obtain ⟨cxs, hc1, dc1⟩ := S1.chg
    have nxs : x ≠ sh := ne_of_none hx hsh
    have nxc : x ≠ ca := ne_of_none hx hcaH
    refine ⟨_, rfl, x, _, dx, _, rfl, s1 _ _ hx, T.c_Index, T.n_Index_told, (by decide), ?_⟩
    intro pl hpl
    have tk2 : Tk H1 (upd H1 x (.ins (He.ga K "Index") dx (putF "told" (.ref sh) []))) := tk_put (s1 _ _ hx) fun xs z => nomatch z
    have npx : pl ≠ x := fun z => by rw [z, upd_same] at hpl; cases hpl
    have hplH1 : H1 pl = none := by rw [upd_ne npx] at hpl; exact hpl
    refine ⟨_, rfl, x, _, dx, _, rfl, by rw [upd_ne npx.symm]; exact upd_same, T.c_Index, T.n_Index_places, (by show 1 < 1000; decide), ?_⟩
    intro bw hbw
    have nbx : bw ≠ x := fun z => by rw [z, upd_same] at hbw; cases hbw
    rw [upd_ne nbx] at hbw
    have nbp : bw ≠ pl := fun z => by rw [z, upd_same] at hbw; cases hbw
    rw [upd_ne nbp, upd_ne nbx] at hbw
    refine ⟨_, rfl, x, _, dx, _, rfl, by rw [upd_ne nbx.symm]; exact upd_same, T.c_Index, T.n_Index_by_word, (by show 2 < 1000; decide), ?_⟩
    refine ⟨(by show 2 ≤ sizeLine; decide), fun lt hlt => ?_⟩
    have nltx : lt ≠ x := fun z => by rw [z, upd_same] at hlt; cases hlt
    rw [upd_ne nltx] at hlt
    have nltb : lt ≠ bw := fun z => by rw [z, upd_same] at hlt; cases hlt
    rw [upd_ne nltb, upd_ne nltx] at hlt
    have nltp : lt ≠ pl := fun z => by rw [z, upd_same] at hlt; cases hlt
    rw [upd_ne nltp, upd_ne nltx] at hlt
    refine ⟨_, rfl, x, _, dx, _, rfl, by rw [upd_ne nltx.symm]; exact upd_same, T.c_Index, T.n_Index_last, (by show 3 < 1000; decide), ?_⟩
    have hplH : H pl = none := same_none s1 hplH1
    have hbwH : H bw = none := same_none s1 hbw
    have fr : ∀ (F3 F2 F1 F0 : HO) b o, b ≠ x → H1 b = some o → upd (upd (upd (upd (upd (upd (upd H1 x F0) pl (.dK [])) x F1) bw (.dK [])) x F2) lt (.tup [.int 0, .int 0])) x F3 b = some o := fun F3 F2 F1 F0 b o hb e => by
      rw [upd_ne hb, upd_ne (ne_of_none e hlt), upd_ne hb, upd_ne (ne_of_none e hbw), upd_ne hb, upd_ne (ne_of_none e hplH1), upd_ne hb]
      exact e
    refine k ⟨x, sh, ca, pl, bw, es, [], fun _ => [], [], fun _ => 0, [], fun _ => 0⟩ _ rfl rfl rfl ⟨⟨dx, .ref lt, ?_⟩, S1.keep (fun b o hb e => fr _ _ _ _ b o ?_ e) (fun b xs e => fr _ _ _ _ b _ (fun z => ?_) e), ⟨?_, List.nodup_nil, fun k => ?_, fun k hk => absurd hk (by simp)⟩, ⟨?_, List.nodup_nil, fun k hk => absurd hk (by simp), fun x => by simp⟩, ⟨fun _ => List.nodup_nil, fun x p => ?_⟩, nbp.symm⟩ (fun b o hb e => fr _ _ _ _ b o hb (s1 _ _ e)) hcaH hplH hbwH
    · rw [upd_same]; rfl
    · rcases hb with rfl | rfl
      · exact nxs.symm
      · exact nxc.symm
    · rw [z, s1 _ _ hx] at e; cases e
    · show upd _ _ _ pl = _
      rw [upd_ne npx, upd_ne nltp.symm, upd_ne npx, upd_ne nbp.symm, upd_ne npx, upd_same]
      rfl
    · show k ∈ [] ↔ k ∈ kset []
      simp [kset, addAll]
    · show upd _ _ _ bw = _
      rw [upd_ne nbx, upd_ne nltb.symm, upd_ne nbx, upd_same]
      rfl
    · show p ∈ [] ↔ p.1 = x ∧ p ∈ allP es []
      simp [allP, kset, addAll]
end
end Tsf
/-! index.Index.tell -/
namespace Tsf
open PySem PySem.Spec PyProof.Rows L2
theorem inV_str (x : Str) (l : List Str) : inV (V.str x) (l.map V.str) = decide (x ∈ l) := by
  unfold inV
  rw [Bool.eq_iff_iff, List.any_eq_true, decide_eq_true_eq]
  constructor
  · rintro ⟨y, hy, h⟩
    obtain ⟨z, hz, rfl⟩ := List.mem_map.mp hy
    have : z = x := by simpa [eqV] using h
    rw [← this]; exact hz
  · intro h
    exact ⟨V.str x, List.mem_map.mpr ⟨x, h, rfl⟩, by simp [eqV]⟩
theorem nodup_at {α : Type} {l : List α} {j : Nat} {p : α} (hn : l.Nodup) (hp : l[j]? = some p) : p ∉ l.take j := fun hm => by
  obtain ⟨i, hi⟩ := List.getElem?_of_mem hm
  have hij : i < j := by
    have := (List.getElem?_eq_some_iff.mp hi).1
    rw [List.length_take] at this; omega
  rw [List.getElem?_take, if_pos hij] at hi
  have := (List.getElem?_inj (List.getElem?_eq_some_iff.mp hi).1 hn).mp (hi.trans hp.symm)
  omega
theorem BW.fr {H H' : Hp} {bw ca : Addr} {PS : Str → List Post} {wks : List Str} {wf : Key → Addr} (B : BW H bw ca PS wks wf) (k : ∀ b o, b ≠ ca → H b = some o → H' b = some o) (hca : ∃ xs, H ca = some (.lst xs)) : BW H' bw ca PS wks wf := by
  obtain ⟨cxs, hca⟩ := hca
  have nb : bw ≠ ca := fun z => by have := B.d; rw [z, hca] at this; cases this
  have tk : Tk H H' := fun b xs e => k b _ (fun z => by rw [z, hca] at e; cases e) e
  exact ⟨k _ _ nb B.d, B.nd, fun x hx => by obtain ⟨n, o, h1, h2⟩ := B.l x hx; exact ⟨n, o, k _ _ n h1, h2.tk tk⟩, B.ne⟩
/-- what came of the postings -/
def after (es : Ends) (cs : List Chg_) (G N : List Post) (p : Post) : Prop := (p ∈ allP es cs ∧ p ∉ G) ∨ p ∈ N
theorem after_iff {es : Ends} {cs : List Chg_} {c : Chg_} {B A : List Post} (hB : B.Perm (posts c.2.1 (histOf es cs c.2.1))) (hA : A.Perm (posts c.2.1 (histOf es (cs ++ [c]) c.2.1))) (p : Post) :
    after es cs (B.filter fun p => decide (p ∉ A)) (A.filter fun p => decide (p ∉ B)) p ↔ p ∈ allP es (cs ++ [c]) := by
  unfold after
  rw [List.mem_filter, List.mem_filter, decide_eq_true_eq, decide_eq_true_eq, mem_allP, mem_allP]
  by_cases e : p.2.1 = c.2.1
  · rw [e, ← hB.mem_iff, ← hA.mem_iff]
    by_cases h1 : p ∈ B <;> by_cases h2 : p ∈ A <;> simp [h1, h2]
  · have h1 : p ∉ B := fun h => e (posts_key (hB.mem_iff.mp h))
    have h2 : p ∉ A := fun h => e (posts_key (hA.mem_iff.mp h))
    rw [hist_other fun z => e z.symm]
    simp [h1, h2]
section
variable {P : Program} {w : World} {K : PySem.W.Frag} {mg : Str → Option Value} {base : Heap}
def spIxTell : Sp := fun vs H Q _ => ∃ (I : IxD) (c : Chg_), vs = [.ref I.ix, .int c.1, .str c.2.1, oS c.2.2] ∧ IxP K H I ∧ okChg c ∧ I.cs.length ≤ 8 ∧
  ∀ H' PS wks wf pks pf, IxP K H' { I with cs := I.cs ++ [c], PS := PS, wks := wks, wf := wf, pks := pks, pf := pf } → (∀ b o, b ≠ I.ix → b ≠ I.ca → b ≠ I.pl → b ≠ I.bw → H b = some o → H' b = some o) → Q .non H'
theorem con_Index_tell (T : Tx K mg) : Con P w K mg base 4 (He.ma K (He.ga K "Index") "tell") ["self", "time", "key", "text"] (spIxTell (K := K)) := by
  obtain ⟨fd, F⟩ := T.d_Index_tell
  obtain ⟨fdk, GK, bK, kK⟩ := (con_known_keys (P := P) (w := w) (base := base) T).mono (show 1 ≤ 3 by omega)
  obtain ⟨fdh, GH, bH, kH⟩ := con_history (P := P) (w := w) (base := base) T
  obtain ⟨fdp, GP, bP, kP⟩ := (con_postings_of (P := P) (w := w) (base := base) T).mono (show 2 ≤ 3 by omega)
  obtain ⟨fdt, GT, bT, kT⟩ := con_Shelf_tell (P := P) (w := w) (base := base) T
  obtain ⟨fdw, GW, bW, kW⟩ := (con_without (P := P) (w := w) (base := base) T).mono (show 1 ≤ 3 by omega)
  obtain ⟨fdo, GO, bO, kO⟩ := (con_take_out (P := P) (w := w) (base := base) T).mono (show 1 ≤ 3 by omega)
  obtain ⟨fdb, GB, bB, kB⟩ := (con_postingsB (P := P) (w := w) (base := base) T).mono (show 1 ≤ 3 by omega)
  obtain ⟨fdl, GL, bL, kL⟩ := (con_places_of (P := P) (w := w) (base := base) T).mono (show 1 ≤ 3 by omega)
  refine ⟨fd, F.ok sc_Index_tell (fun vs H Q E h => ?_) (fun cdv Ar outer s H vs Q E hr h => ?_), F.bindsN fun _ _ _ _ _ _ us hl => match us, hl with | [_, _, _, _], _ => rfl, F.kp⟩
  · obtain ⟨I, c, rfl, _⟩ := h
    rfl
  · obtain ⟨I, c, rfl, X, hok, h8, k⟩ := h
    obtain ⟨dx, lt, ho⟩ := X.obj
    obtain ⟨dxs, eas, hos, hes⟩ := X.sh.obj
    obtain ⟨cxs, hca, dca⟩ := X.sh.chg
    have hkey := okKey.str hok.2.2.1
    have nd := sc_Index_tell.nd
    refine ⟨_, PSs.nox (pss_cons (ps_set (i := 4) nd rfl (.inl rfl) (pe_lst pa_nil))
      (pss_cons (ps_if (pt_cmpR op_in_seq (pv 2) (pe_meth0 (pe_fld (pv 0) rfl) T.c_Shelf T.m_Shelf_known_keys GK hr bK .nil pass0) (by rfl))
        (pss_one (ps_set (i := 4) nd rfl (.inl rfl) (pe_call GP hr (by rfl) T.g_postings_of kP bP .nil pass0 (pa_cons (pe_meth (pe_fld (pv 0) rfl) T.c_Shelf T.m_Shelf_history GH hr bH .nil pass0 (pa_cons (pv 2) pa_nil)) (pa_cons (pv 2) pa_nil))))) pss_nil)
      (pss_cons (ps_expr (pe_meth (pe_fld (pv 0) rfl) T.c_Shelf T.m_Shelf_tell GT hr bT .nil pass0 (pa_cons (pv 1) (pa_cons (pv 2) (pa_cons (pv 3) pa_nil)))))
      (pss_cons (ps_set (i := 5) nd rfl (.inl rfl) (pe_call GP hr (by rfl) T.g_postings_of kP bP .nil pass0 (pa_cons (pe_meth (pe_fld (pv 0) rfl) T.c_Shelf T.m_Shelf_history GH hr bH .nil pass0 (pa_cons (pv 2) pa_nil)) (pa_cons (pv 2) pa_nil))))
      (pss_cons (ps_set (i := 6) nd rfl (.inl rfl) (pe_call GW hr (by rfl) T.g_without kW bW .nil pass0 (pa_cons (pv 4) (pa_cons (pv 5) pa_nil))))
      (pss_cons (ps_set (i := 7) nd rfl (.inl rfl) (pe_call GW hr (by rfl) T.g_without kW bW .nil pass0 (pa_cons (pv 5) (pa_cons (pv 4) pa_nil))))
      (pss_cons (ps_for PassesOwn.never rfl (pi_list (pv 6)) (pg_name (i := 8) nd rfl (.inl rfl)) (pss_one (ps_expr (pe_meth (pv 0) T.c_Index T.m_Index_take_out GO hr bO .nil pass0 (pa_cons (pv 8) pa_nil)))))
      (pss_cons (ps_for PassesOwn.never rfl (pi_list (pv 7)) (pg_name (i := 8) nd rfl (.inl rfl))
        (pss_one (ps_dput (Room.u1 hr) (pe_fld (pv 0) rfl) (pe_ix ix_tup (pv 8) pe_int (fun _ _ => rfl)) (pe_callB (cr_sortT (Room.u70 hr)) (by rfl) T.z_sorted (by decide +kernel)
          (pa_cons (pe_op op_cat (pe_meth (pv 0) T.c_Index T.m_Index_postings GB hr bB .nil pass0 (pa_cons (pe_ix ix_tup (pv 8) pe_int (fun _ _ => rfl)) pa_nil)) (pe_lst (pa_cons (pv 8) pa_nil))) pa_nil)) rfl)))
      (pss_cons (ps_dput (Room.u1 hr) (pe_fld (pv 0) rfl) (pv 2) (pe_call GL hr (by rfl) T.g_places_of kL bL .nil pass0 (pa_cons (pe_meth (pe_fld (pv 0) rfl) T.c_Shelf T.m_Shelf_history GH hr bH .nil pass0 (pa_cons (pv 2) pa_nil)) (pa_cons (pv 2) pa_nil))) rfl)
      (pss_one (ps_fld (pv 0) (pe_tup (pa_cons (pe_callB call_len_seq (by rfl) T.z_len PySem.boot_len (pa_cons (pv 6) pa_nil)) (pa_cons (pe_callB call_len_seq (by rfl) T.z_len PySem.boot_len (pa_cons (pv 7) pa_nil)) pa_nil))) rfl))))))))))), ?_⟩
    have okc : ∀ c' ∈ I.cs ++ [c], okChg c' := fun c' hc' => by
      rcases List.mem_append.mp hc' with h | h
      · exact X.sh.ok c' h
      · rw [List.mem_singleton.mp h]; exact hok
    have hks : c.2.1 ∈ kset (I.cs ++ [c]) := by
      rw [kset_snoc]
      exact mem_add.mpr (.inr rfl)
    have H1k := hist_ok (es := I.es) X.sh.ok c.2.1
    have H2k := hist_ok (es := I.es) okc c.2.1
    have hfl : ∀ l : List Chg_, (l.filter fun c' => decide (c'.2.1 = c.2.1)).length ≤ l.length := fun l => List.length_filter_le _ _
    have h1l := hfl I.cs
    have h2l := hfl (I.cs ++ [c])
    rw [List.length_append, List.length_singleton] at h2l
    have wn1 : words_n (histOf I.es I.cs c.2.1) ≤ 549 := by
      have h1 := words_n_le (es := I.es) X.sh.ok c.2.1
      have h2 := H1k.len
      omega
    have wn2 : words_n (histOf I.es (I.cs ++ [c]) c.2.1) ≤ 549 := by
      have h1 := words_n_le (es := I.es) okc c.2.1
      have h2 := H2k.len
      omega
    have nix : I.ix ≠ I.ca := fun z => by rw [z, hca] at ho; cases ho
    have nixb : I.ix ≠ I.bw := fun z => by have := X.bw.d; rw [← z, ho] at this; cases this
    have nixp : I.ix ≠ I.pl := fun z => by have := X.pw.d; rw [← z, ho] at this; cases this
    have nshc : I.sh ≠ I.ca := fun z => by rw [z, hca] at hos; cases hos
    have nshb : I.sh ≠ I.bw := fun z => by have := X.bw.d; rw [← z, hos] at this; cases this
    have nshp : I.sh ≠ I.pl := fun z => by have := X.pw.d; rw [← z, hos] at this; cases this
    have nshi : I.sh ≠ I.ix := fun z => by
      rw [z, ho] at hos
      have h := congrArg (fun o : Option HO => match o with | some (.ins _ _ fs) => fs.length | _ => 0) hos
      exact absurd (show (4 : Nat) = 2 from h) (by decide)
    have ncb : I.ca ≠ I.bw := fun z => by have := X.bw.d; rw [← z, hca] at this; cases this
    have ncp : I.ca ≠ I.pl := fun z => by have := X.pw.d; rw [← z, hca] at this; cases this
    refine ⟨Nat.zero_le _, fun bq hbq => ?_⟩
    have s0 : Same H (upd H bq (.lst [])) := same_new hbq
    refine ⟨_, rfl, _, rfl, I.ix, _, dx, _, _, rfl, s0 _ _ ho, T.c_Index, T.n_Index_told, rfl, I.sh, dxs, _, rfl, s0 _ _ hos, rfl, I.sh, I.ca, I.es, I.cs, rfl, X.sh.same s0, fun kq HX kl hkq s1 hkl hperm => ?_⟩
    have S0X := s0.trans s1
    have hbX := s1 _ _ (upd_same (H := H) (a := bq) (o := .lst []))
    have nbqca : bq ≠ I.ca := (ne_of_none hca hbq).symm
    refine ⟨kq, _, rfl, .inl (SqL.of hkl), rfl, ?_, _, rfl, ?_⟩
    · rw [List.all_eq_true]
      intro x hx
      obtain ⟨y, _, rfl⟩ := List.mem_map.mp hx
      rfl
    have eIn : (if false = true then !inV (V.str c.2.1) (kl.map V.str) else inV (V.str c.2.1) (kl.map V.str)) = decide (c.2.1 ∈ kl) := inV_str _ _
    rw [eIn]
    refine ite2 (fun cc => ?br1) (fun cc => ?br2)
    case' br1 =>
      have hkm : c.2.1 ∈ kset I.cs := hperm.mem_iff.mp (of_decide_eq_true cc)
      refine ⟨_, rfl, I.ix, _, dx, _, _, rfl, S0X _ _ ho, T.c_Index, T.n_Index_told, rfl, I.sh, dxs, _, rfl, S0X _ _ hos, rfl, _, rfl, I.sh, I.ca, I.es, I.cs, c.2.1, rfl, X.sh.same S0X, hkm, fun hq H2 vxs hhq s2 hh2 dh => ?_⟩
      refine ⟨_, rfl, hq, c.2.1, vxs, _, rfl, hkey, hh2, dh, by omega, H1k.start, fun bq HX bxs B hbq s3 hbX dB hB => ?_⟩
      have nbqca : bq ≠ I.ca := (ne_of_none ((S0X.trans s2) _ _ hca) hbq).symm
      have S0X := (S0X.trans s2).trans s3
    case' br2 =>
      have hkm : c.2.1 ∉ kset I.cs := fun z => cc (decide_eq_true (hperm.mem_iff.mpr z))
      obtain ⟨bxs, hbxs⟩ : ∃ bxs : List V, bxs = [] := ⟨_, rfl⟩
      rw [← hbxs] at hbX
      obtain ⟨B, hBe⟩ : ∃ B : List Post, B = [] := ⟨_, rfl⟩
      have dB : DtAll HX bxs (B.map ePost) := by rw [hbxs, hBe]; exact .nil
      have hB : B.Perm (posts c.2.1 (histOf I.es I.cs c.2.1)) := by rw [hist_none hkm, hBe]; exact List.Perm.refl _
    all_goals
      have SX := X.sh.same S0X
      refine ⟨_, rfl, I.ix, _, dx, _, _, rfl, S0X _ _ ho, T.c_Index, T.n_Index_told, rfl, I.sh, dxs, _, rfl, S0X _ _ hos, rfl, _, rfl, _, rfl, _, rfl, I.sh, I.ca, I.es, I.cs, c, rfl, SX, hok, h8, fun H4 S4 k4 => ?_⟩
      have hcaX := S0X _ _ hca
      have ho4 := k4 _ _ nix (S0X _ _ ho)
      have tkX4 : Tk HX H4 := fun b xs e => k4 b _ (fun z => by rw [z, hcaX] at e; cases e) e
      have hb4 := k4 _ _ nbqca hbX
      have dB4 := dB.tk tkX4
      have bw4 := (X.bw.same S0X).fr k4 ⟨_, hcaX⟩
      have pl4 := k4 _ _ ncp.symm ((X.pw.same S0X).d)
      obtain ⟨dx4, ea4, hos4, hes4⟩ := S4.obj
      refine ⟨_, rfl, I.ix, _, dx, _, _, rfl, ho4, T.c_Index, T.n_Index_told, rfl, I.sh, dx4, _, rfl, hos4, rfl, _, rfl, I.sh, I.ca, I.es, I.cs ++ [c], c.2.1, rfl, S4, hks, fun hq5 H5 vxs5 hhq5 s5 hh5 dh5 => ?_⟩
      refine ⟨_, rfl, hq5, c.2.1, vxs5, _, rfl, hkey, hh5, dh5, by omega, H2k.start, fun aq H6 axs A haq s6 ha6 dA hA => ?_⟩
      have s46 := s5.trans s6
      have hBl : B.length ≤ 549 := by
        rw [hB.length_eq]
        exact Nat.le_trans (posts_len _ _) wn1
      have hAl : A.length ≤ 549 := by
        rw [hA.length_eq]
        exact Nat.le_trans (posts_len _ _) wn2
      refine ⟨_, rfl, _, rfl, bq, aq, bxs, axs, B, A, rfl, s46 _ _ hb4, dB4.tk (tk_same s46), ha6, dA, by omega, fun gq H7 gxs hgq s7 hg7 dG => ?_⟩
      have s47 := s46.trans s7
      refine ⟨_, rfl, _, rfl, aq, bq, axs, bxs, A, B, rfl, s7 _ _ ha6, dA.tk (tk_same s7), s47 _ _ hb4, dB4.tk (tk_same s47), by omega, fun nq H8 nxs hnq s8 hn8 dN => ?_⟩
      have s48 := s47.trans s8
      have hg8 := s8 _ _ hg7
      have dG8 := dG.tk (tk_same s8)
      have hBn : B.Nodup := hB.nodup_iff.mpr (posts_nodup X.sh.ok _)
      have hAn : A.Nodup := hA.nodup_iff.mpr (posts_nodup okc _)
      have hAft := after_iff (es := I.es) (cs := I.cs) (c := c) hB hA
      have hGn : (B.filter fun p => decide (p ∉ A)).Nodup := hBn.filter _
      have hNn : (A.filter fun p => decide (p ∉ B)).Nodup := hAn.filter _
      have hGA : ∀ p ∈ B.filter (fun p => decide (p ∉ A)), p ∈ allP I.es I.cs := fun p hp => by
        have h1 := hB.mem_iff.mp (List.mem_filter.mp hp).1
        exact mem_allP.mpr (by rw [posts_key h1]; exact h1)
      have hNew : ∀ p ∈ A.filter (fun p => decide (p ∉ B)), p ∉ allP I.es I.cs := fun p hp h => by
        obtain ⟨h1, h2⟩ := List.mem_filter.mp hp
        have h3 := posts_key (hA.mem_iff.mp h1)
        have h4 := mem_allP.mp h
        rw [h3] at h4
        exact (of_decide_eq_true h2) (hB.mem_iff.mpr h4)
      have hPl := allP_len (es := I.es) X.sh.ok
      have hPl2 := allP_len (es := I.es) okc
      rw [List.length_append, List.length_singleton] at hPl2
      generalize hGe : B.filter (fun p => decide (p ∉ A)) = G at dG8 hAft hGn hGA
      generalize hNe : A.filter (fun p => decide (p ∉ B)) = N at dN hAft hNn hNew
      have ho8 := s48 _ _ ho4
      have bw8 := bw4.same s48
      obtain ⟨cx4, hca4, _⟩ := S4.chg
      have hca8 := s48 _ _ hca4
      have ngb : gq ≠ I.bw := fun z => by have := bw8.d; rw [← z, hg8] at this; cases this
      have nnb : nq ≠ I.bw := fun z => by have := bw8.d; rw [← z, hn8] at this; cases this
      have tkb : ∀ {H9 : Hp}, (∀ b o, b ≠ I.bw → H8 b = some o → H9 b = some o) → Tk H8 H9 := fun {H9} k9 b xs e => k9 b _ (fun z => by rw [z, bw8.d] at e; cases e) e
      refine ⟨_, rfl, gq, rfl, ⟨_, SqL.of hg8⟩, ?_⟩
      refine for_list (K := K) (a := gq) (xs := gxs) (fun j σ H9 => ∃ (v8 : Option V) (PS : Str → List Post) (wks : List Str) (wf : Key → Addr), σ = [some (.ref I.ix), some (.int c.1), some (.str c.2.1), some (oS c.2.2), some (.ref bq), some (.ref aq), some (.ref gq), some (.ref nq), v8] ∧
          (∀ b o, b ≠ I.bw → H8 b = some o → H9 b = some o) ∧ BW H9 I.bw I.ca PS wks wf ∧ Good PS (fun p => p ∈ allP I.es I.cs ∧ p ∉ G.take j))
        ⟨none, I.PS, I.wks, I.wf, rfl, fun b o _ e => e, bw8, X.good.mono fun p => by simp⟩ (fun j σ H9 _ ⟨_, _, _, _, _, k9, _⟩ => SqL.of (k9 _ _ ngb hg8)) ?_ ?_
      · rintro j y σ H9 hy ⟨v8, PS, wks, wf, rfl, k9, B9, g9⟩
        obtain ⟨p, hp, dp⟩ := dG8.mget hy
        have hpG := List.mem_of_getElem? hp
        have hpm : p ∈ PS p.1 := (g9.mem _ p).mpr ⟨rfl, hGA p hpG, nodup_at hGn hp⟩
        have hl1 := g9.len (L := allP I.es I.cs) (fun p h => h.1) p.1
        have hl2 := wks_le B9 g9 (L := allP I.es I.cs) fun p h => h.1
        refine ⟨_, rfl, I.ix, dx, _, rfl, k9 _ _ nixb ho8, rfl, _, rfl, I.ix, I.sh, I.pl, I.bw, I.ca, PS, wks, wf, y, p, rfl, ⟨dx, _, k9 _ _ nixb ho8⟩, B9, dp.tk (tkb k9), hpm, by omega, by omega, ⟨_, k9 _ _ ncb hca8⟩, fun H10 wks' wf' B10 k10 => ?_⟩
        refine ⟨_, _, wks', wf', rfl, fun b o hb e => k10 b o hb (k9 b o hb e), B10, (g9.out p).mono fun q => ?_⟩
        rw [take_snoc hp]
        constructor
        · rintro ⟨⟨h1, h2⟩, h3⟩
          exact ⟨h1, fun h => by
            rcases List.mem_append.mp h with h | h
            · exact h2 h
            · exact h3 (List.mem_singleton.mp h)⟩
        · rintro ⟨h1, h2⟩
          exact ⟨⟨h1, fun h => h2 (List.mem_append_left _ h)⟩, fun h => h2 (List.mem_append_right _ (List.mem_singleton.mpr h))⟩
      · rintro σ H9 ⟨v8, PS9, wks9, wf9, rfl, k9, B9, g9⟩
        rw [dG8.length, List.length_map, List.take_length] at g9
        refine ⟨_, rfl, nq, rfl, ⟨_, SqL.of (k9 _ _ nnb hn8)⟩, ?_⟩
        refine for_list (K := K) (a := nq) (xs := nxs) (fun j σ H9 => ∃ (v8 : Option V) (PS : Str → List Post) (wks : List Str) (wf : Key → Addr), σ = [some (.ref I.ix), some (.int c.1), some (.str c.2.1), some (oS c.2.2), some (.ref bq), some (.ref aq), some (.ref gq), some (.ref nq), v8] ∧
            (∀ b o, b ≠ I.bw → H8 b = some o → H9 b = some o) ∧ BW H9 I.bw I.ca PS wks wf ∧ Good PS (after I.es I.cs G (N.take j)))
          ⟨v8, PS9, wks9, wf9, rfl, k9, B9, g9.mono fun p => by unfold after; simp⟩ (fun j σ H9 _ ⟨_, _, _, _, _, k9, _⟩ => SqL.of (k9 _ _ nnb hn8)) ?_ ?_
        · rintro j y σ H9 hy ⟨v8, PS, wks, wf, rfl, k9, B9, g9⟩
          obtain ⟨p, hp, dp⟩ := dN.mget hy
          have hpN := List.mem_of_getElem? hp
          obtain ⟨b, u1, u2, u3, u4, u5, rfl, hb, hu1, _, _, _, _⟩ := (show Dt H8 y (.tuple [.str p.1, .str p.2.1, .int p.2.2.1, eOpt p.2.2.2.1, eInts p.2.2.2.2]) from dp).t5
          obtain ⟨rfl, _⟩ := hu1.str_inv
          have ho9 := k9 _ _ nixb ho8
          have hb9 := tkb k9 _ _ hb
          have hin : ∀ q, after I.es I.cs G (N.take j) q → q ∈ allP I.es (I.cs ++ [c]) := fun q h => (hAft q).mp (h.elim .inl fun z => .inr (List.mem_of_mem_take z))
          have hpA : p ∈ allP I.es (I.cs ++ [c]) := (hAft p).mp (.inr hpN)
          have hl1 := g9.len hin p.1
          have hl2 := wks_le B9 g9 hin
          refine ⟨_, rfl, I.ix, dx, _, rfl, ho9, rfl, _, rfl, b, _, _, _, rfl, rfl, SqT.of hb9, atI_nat (j := 0) rfl, I.ix, I.sh, I.pl, I.bw, I.ca, PS, wks, wf, p.1, rfl, ⟨dx, _, ho9⟩, B9, fun oq H10 oxs hoq s10 ho10 do10 => ?_⟩
          refine ⟨_, rfl, (by show 1 ≤ sizeLine; decide), fun l1 hl1' => ?_⟩
          have hol : oxs.length = (PS p.1).length := by rw [do10.length, List.length_map]
          refine ⟨oq, l1, oxs, _, rfl, rfl, same_new hl1' _ _ ho10, upd_same, small_le (by rw [List.length_singleton]; omega), fun l2 hl2' => ?_⟩
          have s11 := s10.trans (same_new (o := .lst [V.ref b]) hl1')
          have s12 := s11.trans (same_new (o := .lst (oxs ++ [V.ref b])) hl2')
          have dsum : DtAll (upd (upd H10 l1 (.lst [V.ref b])) l2 (.lst (oxs ++ [V.ref b]))) (oxs ++ [V.ref b]) ((PS p.1 ++ [p]).map ePost) := by
            rw [List.map_append]
            exact (do10.tk ((tk_new hl1').trans (tk_new hl2'))).append (.cons (dp.tk ((tkb k9).trans (tk_same s12))) .nil)
          have hu : ∀ x ∈ PS p.1 ++ [p], x ∈ allP I.es (I.cs ++ [c]) := fun x hx => by
            rcases List.mem_append.mp hx with h | h
            · exact hin x ((g9.mem _ x).mp h).2
            · rw [List.mem_singleton.mp h]; exact hpA
          refine ⟨l2, _, (PS p.1 ++ [p]).map ePost, ltD, rfl, SqL.of upd_same, dsum, ltOk_post (fun x hx y hy e => allP_pk okc (hu x hx) (hu y hy) e), fun ys es' l3 dy hperm2 _ hl3 => ?_⟩
          obtain ⟨L, rfl, hL⟩ := perm_map (fun x y => ePost_inj) hperm2
          have s13 := s12.trans (same_new (o := .lst ys) hl3)
          have hca9 := k9 _ _ ncb hca8
          have nl3 : l3 ≠ I.ca := (ne_of_none (s12 _ _ hca9) hl3).symm
          have hLne : L ≠ [] := fun z => by
            have := hL.length_eq
            rw [z, List.length_append] at this
            simp at this
          have B13 := B9.put (x := p.1) s13 upd_same nl3 (dy.tk (tk_new hl3)) hLne
          refine ⟨_, rfl, I.ix, _, dx, _, _, rfl, s13 _ _ ho9, T.c_Index, T.n_Index_by_word, rfl, _, rfl, b, _, _, _, rfl, rfl, SqT.of (s13 _ _ hb9), atI_nat (j := 0) rfl, I.bw, _, rfl, .inl ⟨_, Sum.inr p.1, s13 _ _ B9.d, rfl, ?_, rfl⟩, ?_⟩
          · rw [List.length_map, List.length_map]
            exact small1000 (by omega)
          · refine ⟨_, (fun x => if x = p.1 then L else PS x), add wks p.1, (fun j => if j = Sum.inr p.1 then l3 else wf j), rfl, fun b' o hb' e => by rw [upd_ne hb']; exact s13 _ _ (k9 b' o hb' e), B13, (g9.in_ (fun h => ?_) hL).mono fun q => ?_⟩
            · rcases h with h | h
              · exact hNew p hpN h.1
              · exact nodup_at hNn hp h
            · unfold after
              rw [take_snoc hp, List.mem_append, List.mem_singleton, or_assoc]
        · rintro σ H9 ⟨v8, PS, wks, wf, rfl, k9, B9, g9⟩
          rw [dN.length, List.length_map, List.take_length] at g9
          have gF : Good PS (· ∈ allP I.es (I.cs ++ [c])) := g9.mono hAft
          have hca9 := k9 _ _ ncb hca8
          have S8 := S4.same s48
          have S9 : Sh K H9 I.sh I.ca I.es (I.cs ++ [c]) := S8.keep (fun b o hb e => k9 b o (by rcases hb with h | h <;> rw [h] <;> assumption) e) (tkb k9)
          have hos9 := k9 _ _ nshb (s48 _ _ hos4)
          have ho9 := k9 _ _ nixb ho8
          have k49 : ∀ b o, b ≠ I.bw → H4 b = some o → H9 b = some o := fun b o hb e => k9 b o hb (s48 _ _ e)
          have kX9 : ∀ b o, b ≠ I.ca → b ≠ I.bw → H b = some o → H9 b = some o := fun b o h1 h2 e => k49 b o h2 (k4 b o h1 (S0X _ _ e))
          have pl9 := k49 _ _ X.npb pl4
          refine ⟨_, rfl, I.ix, _, dx, _, _, rfl, ho9, T.c_Index, T.n_Index_told, rfl, I.sh, dx4, _, rfl, hos9, rfl, _, rfl, I.sh, I.ca, I.es, I.cs ++ [c], c.2.1, rfl, S9, hks, fun hq9 H10 vxs9 hhq9 s10 hh10 dh10 => ?_⟩
          have hvl : (histOf I.es (I.cs ++ [c]) c.2.1).length ≤ 1000 := by
            have := H2k.len
            omega
          refine ⟨_, rfl, hq9, c.2.1, vxs9, _, rfl, hkey, hh10, dh10, hvl, fun pq H11 pxs hpq s11 hp11 dp11 => ?_⟩
          have s911 := s10.trans s11
          have npqca : pq ≠ I.ca := (ne_of_none (s10 _ _ hca9) hpq).symm
          have hpl11 := s911 _ _ pl9
          have hpkl : I.pks.length ≤ 9 := by
            have h1 := nodup_le X.pw.nd fun k hk => (X.pw.mem k).mp hk
            have h2 := kset_len I.cs
            omega
          refine ⟨_, rfl, I.ix, _, dx, _, _, rfl, s911 _ _ ho9, T.c_Index, T.n_Index_places, rfl, _, rfl, I.pl, _, rfl, .inl ⟨_, Sum.inr c.2.1, hpl11, rfl, by rw [List.length_map, List.length_map]; exact small1000 (by omega), rfl⟩, ?_⟩
          have tk12 : Tk H11 (upd H11 I.pl (.dK (putK (rKvs I.pks I.pf) (Sum.inr c.2.1) (V.ref pq)))) := tk_put hpl11 fun xs z => nomatch z
          have nl : ∀ {a : Addr} {xs : List V}, H11 a = some (.lst xs) → a ≠ I.pl := fun {a xs} h z => by rw [z, hpl11] at h; cases h
          have hg12 : upd H11 I.pl (.dK (putK (rKvs I.pks I.pf) (Sum.inr c.2.1) (V.ref pq))) gq = some (.lst gxs) := by
            have h1 := s911 _ _ (k9 _ _ ngb hg8)
            rw [upd_ne (nl h1)]; exact h1
          have hn12 : upd H11 I.pl (.dK (putK (rKvs I.pks I.pf) (Sum.inr c.2.1) (V.ref pq))) nq = some (.lst nxs) := by
            have h1 := s911 _ _ (k9 _ _ nnb hn8)
            rw [upd_ne (nl h1)]; exact h1
          have ho12 : upd H11 I.pl (.dK (putK (rKvs I.pks I.pf) (Sum.inr c.2.1) (V.ref pq))) I.ix = some (.ins (He.ga K "Index") dx [("told", .ref I.sh), ("places", .ref I.pl), ("by_word", .ref I.bw), ("last", lt)]) := by
            rw [upd_ne nixp]; exact s911 _ _ ho9
          refine ⟨_, rfl, gq, gxs, rfl, .inl (SqL.of hg12), _, rfl, nq, nxs, rfl, .inl (SqL.of hn12), (by show 2 ≤ sizeLine; decide), fun tp htp => ?_⟩
          have s13 : Same (upd H11 I.pl (.dK (putK (rKvs I.pks I.pf) (Sum.inr c.2.1) (V.ref pq)))) _ := same_new (o := .tup [.int (gxs.length : Nat), .int (nxs.length : Nat)]) htp
          refine ⟨_, rfl, I.ix, _, dx, _, rfl, s13 _ _ ho12, T.c_Index, T.n_Index_last, (by show 4 < 1000; decide), ?_⟩
          have tk14 : Tk H11 (upd (upd (upd H11 I.pl (.dK (putK (rKvs I.pks I.pf) (Sum.inr c.2.1) (V.ref pq)))) tp (.tup [.int (gxs.length : Nat), .int (nxs.length : Nat)])) I.ix (.ins (He.ga K "Index") dx (putF "last" (.ref tp) [("told", .ref I.sh), ("places", .ref I.pl), ("by_word", .ref I.bw), ("last", lt)]))) := tk12.trans ((tk_same s13).trans (tk_put (s13 _ _ ho12) fun xs z => nomatch z))
          have k14 : ∀ b o, b ≠ I.ix → b ≠ I.pl → H11 b = some o → upd (upd (upd H11 I.pl (.dK (putK (rKvs I.pks I.pf) (Sum.inr c.2.1) (V.ref pq)))) tp (.tup [.int (gxs.length : Nat), .int (nxs.length : Nat)])) I.ix (.ins (He.ga K "Index") dx (putF "last" (.ref tp) [("told", .ref I.sh), ("places", .ref I.pl), ("by_word", .ref I.bw), ("last", lt)])) b = some o := fun b o h1 h2 e => by
            rw [upd_ne h1]
            exact s13 _ _ (by rw [upd_ne h2]; exact e)
          have hpl14 : upd (upd (upd H11 I.pl (.dK (putK (rKvs I.pks I.pf) (Sum.inr c.2.1) (V.ref pq)))) tp (.tup [.int (gxs.length : Nat), .int (nxs.length : Nat)])) I.ix (.ins (He.ga K "Index") dx (putF "last" (.ref tp) [("told", .ref I.sh), ("places", .ref I.pl), ("by_word", .ref I.bw), ("last", lt)])) I.pl = some (.dK (putK (rKvs I.pks I.pf) (Sum.inr c.2.1) (V.ref pq))) := by
            rw [upd_ne nixp.symm]
            exact s13 _ _ upd_same
          have nixL : ∀ {a : Addr} {xs : List V}, H11 a = some (.lst xs) → a ≠ I.ix := fun {a xs} h z => by rw [z, s911 _ _ ho9] at h; cases h
          have hix14 : upd (upd (upd H11 I.pl (.dK (putK (rKvs I.pks I.pf) (Sum.inr c.2.1) (V.ref pq)))) tp (.tup [.int (gxs.length : Nat), .int (nxs.length : Nat)])) I.ix (.ins (He.ga K "Index") dx (putF "last" (.ref tp) [("told", .ref I.sh), ("places", .ref I.pl), ("by_word", .ref I.bw), ("last", lt)])) I.ix = some (.ins (He.ga K "Index") dx (putF "last" (.ref tp) [("told", .ref I.sh), ("places", .ref I.pl), ("by_word", .ref I.bw), ("last", lt)])) := upd_same
          generalize upd (upd (upd H11 I.pl (.dK (putK (rKvs I.pks I.pf) (Sum.inr c.2.1) (V.ref pq)))) tp (.tup [.int (gxs.length : Nat), .int (nxs.length : Nat)])) I.ix (.ins (He.ga K "Index") dx (putF "last" (.ref tp) [("told", .ref I.sh), ("places", .ref I.pl), ("by_word", .ref I.bw), ("last", lt)])) = HF at tk14 k14 hpl14 hix14
          have lst14 : ∀ {a : Addr} {xs : List V}, H11 a = some (.lst xs) → HF a = some (.lst xs) := fun {a xs} h => k14 _ _ (nixL h) (nl h) h
          have tkX9 : Tk H H9 := fun b xs e => kX9 b _ (fun z => by rw [z, hca] at e; cases e) (fun z => by rw [z, X.bw.d] at e; cases e) e
          refine k HF PS wks wf (add I.pks c.2.1) (fun j => if j = Sum.inr c.2.1 then pq else I.pf j) ⟨⟨dx, .ref tp, hix14⟩, S9.keep (fun b o hb e => k14 b o ?_ ?_ (s911 _ _ e)) (fun b xs e => tk14 _ _ (s911 _ _ e)), ⟨?_, nodup_add X.pw.nd, fun k' => ?_, fun k' hk' => ?_⟩, ⟨?_, B9.nd, fun x hx => ?_, B9.ne⟩, gF, X.npb⟩ (fun b o h1 h2 h3 h4 e => k14 b o h1 h3 (s911 _ _ (kX9 b o h2 h4 e)))
          · rcases hb with h | h <;> rw [h]
            · exact nshi
            · exact nix.symm
          · rcases hb with h | h <;> rw [h] <;> assumption
          · show HF I.pl = _
            rw [hpl14, rKvs_put]
          · show k' ∈ add I.pks c.2.1 ↔ k' ∈ kset (I.cs ++ [c])
            rw [kset_snoc, mem_add, mem_add, X.pw.mem]
          · by_cases e : k' = c.2.1
            · subst e
              dsimp only
              rw [if_pos rfl]
              exact ⟨npqca, pxs, lst14 hp11, dp11.tk tk14⟩
            · rcases mem_add.mp hk' with h | h
              · obtain ⟨n, o, h1, h2⟩ := X.pw.l k' h
                dsimp only
                rw [if_neg fun z => e (Sum.inr.inj z), hist_other fun z => e z.symm]
                refine ⟨n, o, lst14 (s911 _ _ (kX9 _ _ n (fun z => by rw [z, X.bw.d] at h1; cases h1) h1)), ?_⟩
                exact (h2.tk tkX9).tk ((tk_same s911).trans tk14)
              · exact absurd h e
          · exact k14 _ _ nixb.symm X.npb.symm (s911 _ _ B9.d)
          · obtain ⟨n, o, h1, h2⟩ := B9.l x hx
            exact ⟨n, o, lst14 (s911 _ _ h1), h2.tk ((tk_same s911).trans tk14)⟩
end
end Tsf
/-! the law's own defs: _law_cell, _law_digits, _law_padded -/
namespace Tsf
open PySem PySem.Spec PyProof.Rows L2
/-- a list of ints that stands in the frame or in the heap stays -/
theorem sql_same {K : PySem.W.Frag} {H H' : Hp} {a : Addr} {xs : List V} (h : SqL K H a xs) (s : Same H H') : SqL K H' a xs := by
  rcases h with h | h
  · rcases h with h | ⟨o, h⟩
    · exact .inl (.inl (s _ _ h))
    · exact .inl (.inr ⟨o, s _ _ h⟩)
  · exact .inr h
section
variable {P : Program} {w : World} {K : PySem.W.Frag} {mg : Str → Option Value} {base : Heap}
def spCellT : Sp := fun vs H Q _ => ∃ (a : Addr) (ns : List Int) (k : Nat), vs = [.ref a, .int (k : Nat)] ∧ SqL K H a (ns.map V.int) ∧ ∀ n : Int, Q (.int n) H
theorem con_law_cell (T : Tx K mg) : Con P w K mg base 1 (He.ga K "_law_cell") ["_law_script", "_law_k"] (spCellT (K := K)) := by
  obtain ⟨fd, F⟩ := T.d_law_cell
  refine ⟨fd, F.ok sc_law_cell (fun vs H Q E h => ?_) (fun cdv A outer s H vs Q E hr h => ?_), F.bindsN fun _ _ _ _ _ _ us hl => match us, hl with | [_, _], _ => rfl, F.kp⟩
  · obtain ⟨a, ns, k, rfl, _⟩ := h
    rfl
  · obtain ⟨a, ns, k, rfl, ha, q⟩ := h
    refine ⟨_, PSs.nox (pss_cons (ps_if (pt_cmpR op_lt (pv 1) (pe_callB call_len_seq (by rfl) T.z_len PySem.boot_len (pa_cons (pv 0) pa_nil)) (nomark _)) (pss_one (ps_ret (pe_ix ix_list (pv 0) (pv 1) (fun _ _ => rfl)))) pss_nil) (pss_one (ps_ret pe_int))), ?_⟩
    refine ⟨_, rfl, _, rfl, a, _, rfl, .inl ha, _, _, rfl, rfl, _, rfl, ?_⟩
    refine ite2 (fun c => ?_) (fun c => ?_)
    · have hk : k < ns.length := by
        have := of_decide_eq_true c
        rw [List.length_map] at this
        omega
      refine ⟨_, rfl, _, rfl, a, _, _, _, rfl, rfl, ha, atI_nat (j := k) (by rw [List.getElem?_map, List.getElem?_eq_getElem hk]; rfl), q _⟩
    · exact q 0
def spDigits : Sp := fun vs H Q _ => ∃ (n k : Int), vs = [.int n, .int k, .int 20] ∧ ∀ q H' (ds : List Int), H q = none → Same H H' → H' q = some (.lst (ds.map V.int)) → ds.length ≤ 20 → Q (.ref q) H'
theorem con_law_digits (T : Tx K mg) : Con P w K mg base 1 (He.ga K "_law_digits") ["_law_cell_here", "_law_k", "_law_most"] (spDigits) := by
  obtain ⟨fd, F⟩ := T.d_law_digits
  refine ⟨fd, F.ok sc_law_digits (fun vs H Q E h => ?_) (fun cdv A outer s H vs Q E hr h => ?_), F.bindsN fun _ _ _ _ _ _ us hl => match us, hl with | [_, _, _], _ => rfl, F.kp⟩
  · obtain ⟨n, k, rfl, _⟩ := h
    rfl
  · obtain ⟨n, k, rfl, q⟩ := h
    have nd := sc_law_digits.nd
    refine ⟨_, PSs.nox (pss_cons (ps_set (i := 3) nd rfl (.inl rfl) (pe_lst pa_nil))
      (pss_cons (ps_if (pt_cmpR op_lt (pv 0) pe_int (nomark _)) (pss_one (ps_set (i := 0) nd rfl (.inl rfl) (pe_op op_sub (pe_un un_neg pe_int) (pv 0)))) pss_nil)
      (pss_cons (ps_if (pt_cmpR op_ge (pv 0) (pe_op op_pow pe_int pe_int) (nomark _))
        (pss_one (ps_for PassesOwn.never rfl (pi_range1 (by rfl) T.z_range (pa_cons pe_int pa_nil)) (pg_name (i := 4) nd rfl (.inl rfl))
          (pss_one (ps_if (PW.pt (pw_and (pt_cmpR op_gt (pv 0) pe_int (nomark _)) (pw_and1 (pt_cmpR op_lt (pe_callB call_len_seq (by rfl) T.z_len PySem.boot_len (pa_cons (pv 3) pa_nil)) (pv 2) (nomark _)))))
            (pss_cons (ps_expr (pe_bm PySem.F.plainAttrs_list PySem.F.slot_list_append PySem.F.type_list_append mt_append (pv 3) (pa_cons (pe_op op_mod (pe_callTy call_int1 (by rfl) T.z_int (by decide +kernel) (pa_cons (pv 0) pa_nil)) pe_int) pa_nil)))
            (pss_one (ps_set (i := 0) nd rfl (.inl rfl) (pe_op op_fdiv (pv 0) pe_int)))) pss_nil))))
        (pss_cons (ps_set (i := 5) nd rfl (.inl rfl) (pe_op op_mod (pe_callTy call_int1 (by rfl) T.z_int (by decide +kernel) (pa_cons (pe_op op_add (pe_op op_add (pe_op op_mul (pv 0) pe_int) (pe_op op_mul (pv 1) pe_int)) pe_int) pa_nil)) pe_int))
        (pss_one (ps_for PassesOwn.never rfl (pi_range1 (by rfl) T.z_range (pa_cons (pv 2) pa_nil)) (pg_name (i := 4) nd rfl (.inl rfl))
          (pss_cons (ps_set (i := 5) nd rfl (.inl rfl) (pe_op op_mod (pe_callTy call_int1 (by rfl) T.z_int (by decide +kernel) (pa_cons (pe_op op_add (pe_op op_add (pe_op op_mul (pv 5) pe_int) (pe_op op_mul pe_int (pv 4))) pe_int) pa_nil)) pe_int))
          (pss_one (ps_expr (pe_bm PySem.F.plainAttrs_list PySem.F.slot_list_append PySem.F.type_list_append mt_append (pv 3) (pa_cons (pe_op op_mod (pe_callTy call_int1 (by rfl) T.z_int (by decide +kernel) (pa_cons (pe_op op_fdiv (pv 5) pe_int) pa_nil)) pe_int) pa_nil)))))))))
      (pss_one (ps_ret (pv 3)))))), ?_⟩
    refine ⟨Nat.zero_le _, fun l hl => ?_⟩
    have s0 : Same H (upd H l (.lst [])) := same_new hl
    refine ⟨_, rfl, _, _, rfl, rfl, _, rfl, ?_⟩
    refine ite2 (fun c => ?br1) (fun c => ?br2)
    case' br1 =>
      refine ⟨1, rfl, _, rfl, _, _, rfl, rfl, ?_⟩
    all_goals
      refine ⟨_, rfl, _, _, rfl, rfl, ⟨by decide, by decide, by decide⟩, _, _, rfl, rfl, _, rfl, ?_⟩
      refine ite2 (fun c2 => ?_) (fun c2 => ?_)
      · refine ⟨60, rfl, by decide, by decide, ?_⟩
        refine for_range (lo := 0) (n := (60 : Int).toNat) (fun i σ H1 => ∃ (m : Int) (v4 : Option V) (ds : List Int), σ = [some (.int m), some (.int k), some (.int 20), some (.ref l), v4, none] ∧ Same H H1 ∧ H1 l = some (.lst (ds.map V.int)) ∧ ds.length ≤ 20)
          ⟨_, none, [], rfl, s0, upd_same, Nat.zero_le _⟩ ?_ ?_
        · rintro i σ H1 hi ⟨m, v4, ds, rfl, s1, hl1, hd⟩
          refine ⟨_, rfl, _, _, rfl, rfl, _, rfl, ?_⟩
          refine ite2 (fun c3 => ?_) (fun c3 => ?_)
          · refine ⟨_, rfl, l, _, rfl, .inl (SqL.of hl1), _, rfl, _, _, rfl, rfl, _, rfl, ?_⟩
            refine ite2 (fun c4 => ?_) (fun c4 => ?_)
            · have hlt : ds.length < 20 := by
                have := of_decide_eq_true c4
                rw [List.length_map] at this
                omega
              refine ⟨_, rfl, .inl ⟨rfl, _, SqL.of hl1⟩, _, rfl, .inl ⟨_, rfl, _, _, rfl, rfl, (by show (0 : Int) < 1000; decide), ?_⟩⟩
              refine ⟨l, _, _, rfl, rfl, hl1, small1000 (by rw [List.length_map]; omega), ?_⟩
              refine ⟨_, rfl, _, _, rfl, rfl, ⟨by decide, by decide⟩, _, _, ds ++ [m % 1000], rfl, fun b o e => by rw [upd_ne (ne_of_none e hl)]; exact s1 _ _ e, by rw [upd_same, List.map_append]; rfl, by rw [List.length_append, List.length_singleton]; omega⟩
            · exact ⟨_, _, ds, rfl, s1, hl1, hd⟩
          · exact iteF ⟨_, _, ds, rfl, s1, hl1, hd⟩
        · rintro σ H1 ⟨m, v4, ds, rfl, s1, hl1, hd⟩
          exact ⟨_, rfl, q l H1 ds hl s1 hl1 hd⟩
      · refine ⟨_, rfl, _, _, rfl, rfl, .inr ⟨by decide, by decide⟩, _, rfl, _, _, rfl, rfl, .inr ⟨by decide, by decide⟩, _, _, rfl, rfl, _, _, rfl, rfl, .inl ⟨_, rfl, _, _, rfl, rfl, (by show (0 : Int) < 2147483647; decide), ?_⟩⟩
        refine ⟨_, rfl, 20, rfl, by decide, by decide, ?_⟩
        refine for_range (lo := 0) (n := (20 : Int).toNat) (fun i σ H1 => ∃ (m sd : Int) (v4 : Option V) (ds : List Int), σ = [some (.int m), some (.int k), some (.int 20), some (.ref l), v4, some (.int sd)] ∧ Same H H1 ∧ H1 l = some (.lst (ds.map V.int)) ∧ ds.length = i)
          ⟨_, _, none, [], rfl, s0, upd_same, rfl⟩ ?_ ?_
        · rintro i σ H1 hi ⟨m, sd, v4, ds, rfl, s1, hl1, hd⟩
          have hi' : i < 20 := hi
          refine ⟨_, rfl, _, _, rfl, rfl, .inr ⟨by decide, by decide⟩, _, rfl, _, _, rfl, rfl, .inl ⟨by decide, by decide⟩, _, _, rfl, rfl, _, _, rfl, rfl, .inl ⟨_, rfl, _, _, rfl, rfl, (by show (0 : Int) < 2147483647; decide), ?_⟩⟩
          refine ⟨_, rfl, .inl ⟨rfl, _, SqL.of hl1⟩, _, rfl, _, _, rfl, rfl, ⟨by decide, by decide⟩, .inl ⟨_, rfl, _, _, rfl, rfl, (by show (0 : Int) < 1000; decide), ?_⟩⟩
          refine ⟨l, _, _, rfl, rfl, hl1, small1000 (by rw [List.length_map]; omega), ?_⟩
          exact ⟨_, _, _, ds ++ [_], rfl, fun b o e => by rw [upd_ne (ne_of_none e hl)]; exact s1 _ _ e, by rw [upd_same, List.map_append]; rfl, by rw [List.length_append, List.length_singleton]; omega⟩
        · rintro σ H1 ⟨m, sd, v4, ds, rfl, s1, hl1, hd⟩
          exact ⟨_, rfl, q l H1 ds hl s1 hl1 (by rw [hd]; decide)⟩
def spPad : Sp := fun vs H Q _ => ∃ (n k : Int), vs = [.int n, .int k] ∧ ∀ q H' (ds : List Int), H q = none → Same H H' → H' q = some (.lst (ds.map V.int)) → 20 ≤ ds.length → ds.length ≤ 40 → Q (.ref q) H'
theorem con_law_padded (T : Tx K mg) : Con P w K mg base 2 (He.ga K "_law_padded") ["_law_cell_here", "_law_k"] (spPad) := by
  obtain ⟨fd, F⟩ := T.d_law_padded
  obtain ⟨fdd, GD, bD, kD⟩ := con_law_digits (P := P) (w := w) (base := base) T
  refine ⟨fd, F.ok sc_law_padded (fun vs H Q E h => ?_) (fun cdv A outer s H vs Q E hr h => ?_), F.bindsN fun _ _ _ _ _ _ us hl => match us, hl with | [_, _], _ => rfl, F.kp⟩
  · obtain ⟨n, k, rfl, _⟩ := h
    rfl
  · obtain ⟨n, k, rfl, q⟩ := h
    have nd := sc_law_padded.nd
    refine ⟨_, PSs.nox (pss_cons (ps_set (i := 2) nd rfl (.inl rfl) (pe_call GD hr (by rfl) T.g_law_digits kD bD .nil pass0 (pa_cons (pv 0) (pa_cons (pv 1) (pa_cons pe_int pa_nil)))))
      (pss_cons (ps_for PassesOwn.never rfl (pi_range1 (by rfl) T.z_range (pa_cons pe_int pa_nil)) (pg_name (i := 3) nd rfl (.inl rfl))
        (pss_one (ps_expr (pe_bm PySem.F.plainAttrs_list PySem.F.slot_list_append PySem.F.type_list_append mt_append (pv 2) (pa_cons (pv 3) pa_nil)))))
      (pss_one (ps_ret (pv 2))))), ?_⟩
    refine ⟨_, rfl, _, rfl, n, k, rfl, fun l H1 ds hl s1 hl1 hd => ?_⟩
    refine ⟨20, rfl, by decide, by decide, ?_⟩
    refine for_range (lo := 0) (n := (20 : Int).toNat) (fun i σ H2 => ∃ (v3 : Option V) (ds' : List Int), σ = [some (.int n), some (.int k), some (.ref l), v3] ∧ Same H H2 ∧ H2 l = some (.lst (ds'.map V.int)) ∧ ds'.length = ds.length + i)
      ⟨none, ds, rfl, s1, hl1, rfl⟩ ?_ ?_
    · rintro i σ H2 hi ⟨v3, ds', rfl, s2, hl2, hd2⟩
      have hi' : i < 20 := hi
      refine ⟨_, rfl, .inl ⟨rfl, _, SqL.of hl2⟩, _, rfl, l, _, _, rfl, rfl, hl2, small1000 (by rw [List.length_map]; omega), ?_⟩
      exact ⟨_, ds' ++ [_], rfl, fun b o e => by rw [upd_ne (ne_of_none e hl)]; exact s2 _ _ e, by rw [upd_same, List.map_append]; rfl, by rw [List.length_append, List.length_singleton]; omega⟩
    · rintro σ H2 ⟨v3, ds', rfl, s2, hl2, hd2⟩
      have : ds'.length = ds.length + 20 := hd2
      exact ⟨_, rfl, q l H2 ds' hl s2 hl2 (by omega) (by omega)⟩
end
end Tsf
/-! the law's own defs: _law_text, _law_endings, _law_change, _law_changes -/
namespace Tsf
open PySem PySem.Spec PyProof.Rows L2
def okc (c : Nat) : Prop := c = 10 ∨ (32 ≤ c ∧ c ≤ 126 ∧ c ≠ 37)
instance (c : Nat) : Decidable (okc c) := by unfold okc; infer_instance
theorem at_mod {xs : List V} {x : Int} {m : Nat} (h : xs.length = m) (hm : 0 < m) : ∃ v, atI xs (x % (m : Int)) = some v ∧ v ∈ xs := by
  have h1 : 0 ≤ x % (m : Int) := Int.emod_nonneg _ (by omega)
  have h2 : x % (m : Int) < m := Int.emod_lt_of_pos _ (by omega)
  have h3 : (x % (m : Int)).toNat < xs.length := by omega
  refine ⟨xs[(x % (m : Int)).toNat], ?_, List.getElem_mem h3⟩
  have h4 : x % (m : Int) = ((x % (m : Int)).toNat : Int) := by omega
  have h5 := atI_nat (List.getElem?_eq_getElem h3)
  rw [← h4] at h5
  exact h5
def lawWords : List Str := ["old", "mill", "mills", "weir", "the", "Miller", "a1", "Old-mill", "by"]
def lawSeps : List Str := [" ", ", ", "\n"]
theorem strs_ok {l : List Str} {n : Nat} (h : (l.all fun t => decide (t.length ≤ n) && t.cps.toList.all fun c => decide (okc c)) = true) {v : V} (hv : v ∈ l.map V.str) : ∃ t, v = .str t ∧ t.length ≤ n ∧ ∀ c ∈ t.cps.toList, okc c := by
  obtain ⟨t, ht, rfl⟩ := List.mem_map.mp hv
  have h1 := List.all_eq_true.mp h t ht
  rw [Bool.and_eq_true, decide_eq_true_eq, List.all_eq_true] at h1
  exact ⟨t, rfl, h1.1, fun c hc => of_decide_eq_true (h1.2 c hc)⟩
theorem okc_append {a b : Str} (ha : ∀ c ∈ a.cps.toList, okc c) (hb : ∀ c ∈ b.cps.toList, okc c) : ∀ c ∈ (a ++ b).cps.toList, okc c := by
  intro c hc
  have e : (a ++ b).cps.toList = a.cps.toList ++ b.cps.toList := Array.toList_append
  rw [e] at hc
  rcases List.mem_append.mp hc with h | h
  · exact ha c h
  · exact hb c h
section
variable {P : Program} {w : World} {K : PySem.W.Frag} {mg : Str → Option Value} {base : Heap}
def spLText : Sp := fun vs H Q _ => ∃ (l : Addr) (ds : List Int), vs = [.ref l] ∧ H l = some (.lst (ds.map V.int)) ∧ 20 ≤ ds.length ∧ ∀ t H', Same H H' → okText t → Q (.str t) H'
theorem con_law_text (T : Tx K mg) : Con P w K mg base 1 (He.ga K "_law_text") ["_law_d"] (spLText) := by
  obtain ⟨fd, F⟩ := T.d_law_text
  refine ⟨fd, F.ok sc_law_text (fun vs H Q E h => ?_) (fun cdv A outer s H vs Q E hr h => ?_), F.bindsN fun _ _ _ _ _ _ us hl => match us, hl with | [_], _ => rfl, F.kp⟩
  · obtain ⟨l, ds, rfl, _⟩ := h
    rfl
  · obtain ⟨l, ds, rfl, hl, h20, q⟩ := h
    have nd := sc_law_text.nd
    refine ⟨_, PSs.nox (pss_cons (ps_set (i := 1) nd rfl (.inl rfl) (pe_lst (pa_cons pe_str (pa_cons pe_str (pa_cons pe_str (pa_cons pe_str (pa_cons pe_str (pa_cons pe_str (pa_cons pe_str (pa_cons pe_str (pa_cons pe_str pa_nil)))))))))))
      (pss_cons (ps_set (i := 2) nd rfl (.inl rfl) pe_str)
      (pss_cons (ps_for PassesOwn.never rfl (pi_range1 (by rfl) T.z_range (pa_cons (pe_op op_mod (pe_callTy call_int1 (by rfl) T.z_int (by decide +kernel) (pa_cons (pe_ix ix_list (pv 0) pe_int (fun _ _ => rfl)) pa_nil)) pe_int) pa_nil)) (pg_name (i := 3) nd rfl (.inl rfl))
        (pss_one (ps_set (i := 2) nd rfl (.inl rfl) (pe_op op_add_str (pe_op op_add_str (pv 2) (pe_ix ix_list (pv 1) (pe_op op_mod (pe_callTy call_int1 (by rfl) T.z_int (by decide +kernel) (pa_cons (pe_ix ix_list (pv 0) (pe_op op_add pe_int (pv 3)) (fun _ _ => rfl)) pa_nil)) pe_int) (fun _ _ => rfl)))
          (pe_ix ix_list (pe_lst (pa_cons pe_str (pa_cons pe_str (pa_cons pe_str pa_nil)))) (pe_op op_mod (pe_callTy call_int1 (by rfl) T.z_int (by decide +kernel) (pa_cons (pe_ix ix_list (pv 0) (pe_op op_add pe_int (pv 3)) (fun _ _ => rfl)) pa_nil)) pe_int) (fun _ _ => rfl))))))
      (pss_one (ps_ret (pv 2)))))), ?_⟩
    have dat : ∀ {j : Nat}, j < 20 → ∃ z, (ds.map V.int)[j]? = some (V.int z) := fun {j} hj => ⟨ds[j], by rw [List.getElem?_map, List.getElem?_eq_getElem (by omega)]; rfl⟩
    refine ⟨(by show 9 ≤ sizeLine; decide), fun wl hwl => ?_⟩
    have s0 : Same H (upd H wl (.lst (lawWords.map V.str))) := same_new hwl
    obtain ⟨z0, hz0⟩ := dat (j := 0) (by decide)
    refine ⟨_, rfl, l, _, _, _, rfl, rfl, SqL.of (s0 _ _ hl), atI_nat (j := 0) hz0, .inl ⟨_, rfl, _, _, rfl, rfl, (by show (0 : Int) < 6; decide), ?_⟩⟩
    have hm0 : 0 ≤ z0 % 6 := Int.emod_nonneg _ (by decide)
    have hm6 : z0 % 6 < 6 := Int.emod_lt_of_pos _ (by decide)
    refine ⟨_, rfl, by omega, by omega, ?_⟩
    refine for_range (lo := 0) (n := (z0 % 6).toNat) (fun i σ H1 => ∃ (v3 : Option V) (t : Str), σ = [some (.ref l), some (.ref wl), some (.str t), v3] ∧ Same H H1 ∧ H1 wl = some (.lst (lawWords.map V.str)) ∧ t.length ≤ 10 * i ∧ ∀ c ∈ t.cps.toList, okc c)
      ⟨none, "", rfl, s0, upd_same, Nat.le_refl _, fun c hc => absurd hc (by decide +revert)⟩ ?_ ?_
    · rintro i σ H1 hi ⟨v3, t, rfl, s1, hw1, htl, htc⟩
      have hi5 : i < 6 := by omega
      have hl1 := s1 _ _ hl
      obtain ⟨z1, hz1⟩ := dat (j := 1 + i) (by omega)
      obtain ⟨z7, hz7⟩ := dat (j := 7 + i) (by omega)
      have e1 : (1 : Int) + (0 + (i : Nat)) = ((1 + i : Nat) : Int) := by omega
      have e7 : (7 : Int) + (0 + (i : Nat)) = ((7 + i : Nat) : Int) := by omega
      obtain ⟨wv, hwv, hwm⟩ := at_mod (xs := lawWords.map V.str) (x := z1) (m := 9) (by decide) (by decide)
      obtain ⟨wt, rfl, hwl1, hwc⟩ := strs_ok (l := lawWords) (n := 8) (by decide +kernel) hwm
      obtain ⟨sv, hsv, hsm⟩ := at_mod (xs := lawSeps.map V.str) (x := z7) (m := 3) (by decide) (by decide)
      obtain ⟨st, rfl, hsl1, hsc⟩ := strs_ok (l := lawSeps) (n := 2) (by decide +kernel) hsm
      refine ⟨_, rfl, _, rfl, _, rfl, _, rfl, _, _, rfl, rfl, l, _, _, _, rfl, rfl, SqL.of hl1, at_of e1 hz1, .inl ⟨_, rfl, _, _, rfl, rfl, (by show (0 : Int) < 9; decide), wl, _, _, _, rfl, rfl, SqL.of hw1, hwv, _, _, rfl, rfl, small_le (by omega), ?_⟩⟩
      refine ⟨(by show 3 ≤ sizeLine; decide), fun sl hsl => ?_⟩
      have s2 : Same H1 (upd H1 sl (.lst (lawSeps.map V.str))) := same_new hsl
      refine ⟨_, rfl, _, rfl, _, _, rfl, rfl, l, _, _, _, rfl, rfl, SqL.of (s2 _ _ hl1), at_of e7 hz7, .inl ⟨_, rfl, _, _, rfl, rfl, (by show (0 : Int) < 3; decide), sl, _, _, _, rfl, rfl, SqL.of upd_same, hsv, _, _, rfl, rfl, small_le (by rw [len_append]; omega), ?_⟩⟩
      refine ⟨_, _, rfl, s1.trans s2, s2 _ _ hw1, by rw [len_append, len_append]; omega, okc_append (okc_append htc hwc) hsc⟩
    · rintro σ H1 ⟨v3, t, rfl, s1, hw1, htl, htc⟩
      exact ⟨_, rfl, q t H1 s1 ⟨by omega, htc⟩⟩
def spLEnds : Sp := fun vs H Q _ => ∃ (a : Addr) (ns : List Int), vs = [.ref a] ∧ SqL K H a (ns.map V.int) ∧ ∀ ea H' es, Same H H' → Dt H' (.ref ea) (eEnds es) → (∀ e ∈ es, e.1.length ≤ 10) → Q (.ref ea) H'
theorem con_law_endings (T : Tx K mg) : Con P w K mg base 2 (He.ga K "_law_endings") ["_law_script"] (spLEnds (K := K)) := by
  obtain ⟨fd, F⟩ := T.d_law_endings
  obtain ⟨fdc, GC, bC, kC⟩ := con_law_cell (P := P) (w := w) (base := base) T
  refine ⟨fd, F.ok sc_law_endings (fun vs H Q E h => ?_) (fun cdv A outer s H vs Q E hr h => ?_), F.bindsN fun _ _ _ _ _ _ us hl => match us, hl with | [_], _ => rfl, F.kp⟩
  · obtain ⟨a, ns, rfl, _⟩ := h
    rfl
  · obtain ⟨a, ns, rfl, ha, q⟩ := h
    refine ⟨_, PSs.nox (pss_one (ps_ret (pe_ix ix_list (pe_lst (pa_cons (pe_tup pa_nil) (pa_cons (pe_tup (pa_cons (pe_tup (pa_cons pe_str (pa_cons pe_int pa_nil))) pa_nil)) (pa_cons (pe_tup (pa_cons (pe_tup (pa_cons pe_str (pa_cons pe_int pa_nil))) (pa_cons (pe_tup (pa_cons pe_str (pa_cons pe_int pa_nil))) pa_nil))) pa_nil))))
      (pe_op op_mod (pe_callTy call_int1 (by rfl) T.z_int (by decide +kernel) (pa_cons (pe_call GC hr (by rfl) T.g_law_cell kC bC .nil pass0 (pa_cons (pv 0) (pa_cons pe_int pa_nil))) pa_nil)) pe_int) (fun _ _ => rfl)))), ?_⟩
    refine ⟨Nat.zero_le _, fun t0 h0 => ⟨(by show 2 ≤ sizeLine; decide), fun t1 h1 => ⟨(by show 1 ≤ sizeLine; decide), fun t2 h2 => ⟨(by show 2 ≤ sizeLine; decide), fun t3 h3 => ⟨(by show 2 ≤ sizeLine; decide), fun t4 h4 => ⟨(by show 2 ≤ sizeLine; decide), fun t5 h5 => ⟨(by show 3 ≤ sizeLine; decide), fun t6 h6 => ?_⟩⟩⟩⟩⟩⟩⟩
    have s0 : Same H _ := same_new (o := .tup []) h0
    have s1 := s0.trans (same_new (o := .tup [.str ("s" : Str), .int 3]) h1)
    have s2 := s1.trans (same_new (o := .tup [.ref t1]) h2)
    have s3 := s2.trans (same_new (o := .tup [.str ("s" : Str), .int 3]) h3)
    have s4 := s3.trans (same_new (o := .tup [.str ("er" : Str), .int 3]) h4)
    have s5 := s4.trans (same_new (o := .tup [.ref t3, .ref t4]) h5)
    have s6 := s5.trans (same_new (o := .lst [.ref t0, .ref t2, .ref t5]) h6)
    have ok3 : PyData.strOk ("s" : Str) = true := by decide +kernel
    have oker : PyData.strOk ("er" : Str) = true := by decide +kernel
    refine ⟨_, rfl, a, ns, 0, rfl, sql_same ha s6, fun n => .inl ⟨n, rfl, _, _, rfl, rfl, (by show (0 : Int) < 3; decide), ?_⟩⟩
    obtain ⟨v, hv, hvm⟩ := at_mod (xs := [V.ref t0, .ref t2, .ref t5]) (x := n) (m := 3) rfl (by decide)
    refine ⟨t6, _, _, v, rfl, rfl, SqL.of upd_same, hv, ?_⟩
    have n6 := same_new (o := .lst [.ref t0, .ref t2, .ref t5]) h6
    have n5 := same_new (o := .tup [.ref t3, .ref t4]) h5
    have n4 := same_new (o := .tup [.str ("er" : Str), .int 3]) h4
    have n3 := same_new (o := .tup [.str ("s" : Str), .int 3]) h3
    have n2 := same_new (o := .tup [.ref t1]) h2
    have n1 := same_new (o := .tup [.str ("s" : Str), .int 3]) h1
    rcases List.mem_cons.mp hvm with rfl | hvm
    · exact q t0 _ [] s6 (.tup (n6 _ _ (n5 _ _ (n4 _ _ (n3 _ _ (n2 _ _ (n1 _ _ upd_same)))))) .nil) (fun e he => absurd he (by simp))
    · rcases List.mem_cons.mp hvm with rfl | hvm
      · refine q t2 _ [("s", 3)] s6 (.tup (n6 _ _ (n5 _ _ (n4 _ _ (n3 _ _ upd_same)))) (.cons (.tup (n6 _ _ (n5 _ _ (n4 _ _ (n3 _ _ (n2 _ _ upd_same))))) (.cons (.str _ ok3) (.cons (.int _) .nil))) .nil)) (fun e he => ?_)
        rw [List.mem_singleton.mp he]
        decide
      · rw [List.mem_singleton.mp hvm]
        refine q t5 _ [("s", 3), ("er", 3)] s6 (.tup (n6 _ _ upd_same) (.cons (.tup (n6 _ _ (n5 _ _ (n4 _ _ upd_same))) (.cons (.str _ ok3) (.cons (.int _) .nil))) (.cons (.tup (n6 _ _ (n5 _ _ upd_same)) (.cons (.str _ oker) (.cons (.int _) .nil))) .nil))) (fun e he => ?_)
        rcases List.mem_cons.mp he with rfl | he
        · decide
        · rw [List.mem_singleton.mp he]; decide
end
end Tsf
/-! the law's own defs: _law_change, _law_changes, _law_pattern, _law_row, _law_question -/
namespace Tsf
open PySem PySem.Spec PyProof.Rows L2
def lawKeys : List Str := ["a", "b", "k9"]
def lawKinds : List Str := ["word", "start"]
def lawPats : List Str := ["old", "mill", "mi", "weir", "the", "a", "by", "zoo"]
instance (k : Str) : Decidable (okKey k) := by unfold okKey; infer_instance
theorem key_of {v : V} (hv : v ∈ lawKeys.map V.str) : ∃ t, v = .str t ∧ okKey t := by
  obtain ⟨t, ht, rfl⟩ := List.mem_map.mp hv
  have h : (lawKeys.all fun t => decide (okKey t)) = true := by decide +kernel
  exact ⟨t, rfl, of_decide_eq_true (List.all_eq_true.mp h t ht)⟩
theorem str_of {l : List Str} (h : (l.all PyData.strOk) = true) {v : V} (hv : v ∈ l.map V.str) : ∃ t, v = .str t ∧ PyData.strOk t = true := by
  obtain ⟨t, ht, rfl⟩ := List.mem_map.mp hv
  exact ⟨t, rfl, List.all_eq_true.mp h t ht⟩
section
variable {P : Program} {w : World} {K : PySem.W.Frag} {mg : Str → Option Value} {base : Heap}
def spLChg : Sp := fun vs H Q _ => ∃ (n k : Int), vs = [.int n, .int k] ∧ ∀ v H' c, Same H H' → Dt H' v (eChg c) → okChg c → Q v H'
theorem con_law_change (T : Tx K mg) : Con P w K mg base 3 (He.ga K "_law_change") ["_law_cell_here", "_law_k"] (spLChg) := by
  obtain ⟨fd, F⟩ := T.d_law_change
  obtain ⟨fdp, GP, bP, kP⟩ := con_law_padded (P := P) (w := w) (base := base) T
  obtain ⟨fdt, GT, bT, kT⟩ := (con_law_text (P := P) (w := w) (base := base) T).mono (show 1 ≤ 2 by omega)
  refine ⟨fd, F.ok sc_law_change (fun vs H Q E h => ?_) (fun cdv A outer s H vs Q E hr h => ?_), F.bindsN fun _ _ _ _ _ _ us hl => match us, hl with | [_, _], _ => rfl, F.kp⟩
  · obtain ⟨n, k, rfl, _⟩ := h
    rfl
  · obtain ⟨n, k, rfl, q⟩ := h
    have nd := sc_law_change.nd
    refine ⟨_, PSs.nox (pss_cons (ps_set (i := 2) nd rfl (.inl rfl) (pe_call GP hr (by rfl) T.g_law_padded kP bP .nil pass0 (pa_cons (pv 0) (pa_cons (pv 1) pa_nil))))
      (pss_cons (ps_set (i := 3) nd rfl (.inl rfl) (pe_op op_mod (pe_callTy call_int1 (by rfl) T.z_int (by decide +kernel) (pa_cons (pe_op op_fdiv (pv 0) pe_int) pa_nil)) pe_int))
      (pss_cons (ps_set (i := 4) nd rfl (.inl rfl) (pe_ix ix_list (pe_lst (pa_cons pe_str (pa_cons pe_str (pa_cons pe_str pa_nil)))) (pe_op op_mod (pe_callTy call_int1 (by rfl) T.z_int (by decide +kernel) (pa_cons (pv 0) pa_nil)) pe_int) (fun _ _ => rfl)))
      (pss_cons (ps_if (pt_cmpR op_eq (pe_op op_mod (pe_callTy call_int1 (by rfl) T.z_int (by decide +kernel) (pa_cons (pe_ix ix_list (pv 2) pe_int (fun _ _ => rfl)) pa_nil)) pe_int) pe_int (nomark _))
        (pss_one (ps_ret (pe_tup (pa_cons (pv 3) (pa_cons (pv 4) (pa_cons pe_non pa_nil)))))) pss_nil)
      (pss_one (ps_ret (pe_tup (pa_cons (pv 3) (pa_cons (pv 4) (pa_cons (pe_call GT hr (by rfl) T.g_law_text kT bT .nil pass0 (pa_cons (pv 2) pa_nil)) pa_nil)))))))))), ?_⟩
    refine ⟨_, rfl, _, rfl, n, k, rfl, fun l H1 ds hl s1 hl1 h20 h40 => ?_⟩
    refine ⟨_, rfl, _, _, rfl, rfl, ⟨by decide, by decide⟩, .inl ⟨_, rfl, _, _, rfl, rfl, (by show (0 : Int) < 12; decide), ?_⟩⟩
    have ht0 : 0 ≤ n / 3 % 12 := Int.emod_nonneg _ (by decide)
    have ht12 : n / 3 % 12 < 12 := Int.emod_lt_of_pos _ (by decide)
    refine ⟨(by show 3 ≤ sizeLine; decide), fun kl hkl => ?_⟩
    have s2 := s1.trans (same_new (o := .lst (lawKeys.map V.str)) hkl)
    obtain ⟨kv, hkv, hkm⟩ := at_mod (xs := lawKeys.map V.str) (x := n) (m := 3) (by decide) (by decide)
    obtain ⟨key, rfl, hkey⟩ := key_of hkm
    have hl2 := same_new (o := .lst (lawKeys.map V.str)) hkl _ _ hl1
    have h15 : (ds.map V.int)[15]? = some (V.int ds[15]) := by rw [List.getElem?_map, List.getElem?_eq_getElem (by omega)]; rfl
    refine ⟨_, rfl, .inl ⟨_, rfl, _, _, rfl, rfl, (by show (0 : Int) < 3; decide), kl, _, _, _, rfl, rfl, SqL.of upd_same, hkv, ?_⟩⟩
    refine ⟨_, rfl, l, _, _, _, rfl, rfl, SqL.of hl2, atI_nat (j := 15) h15, .inl ⟨_, rfl, _, _, rfl, rfl, (by show (0 : Int) < 6; decide), rfl, _, rfl, ?_⟩⟩
    refine ite2 (fun c => ?_) (fun c => ?_)
    · refine ⟨_, rfl, _, rfl, (by show 3 ≤ sizeLine; decide), fun p hp => ?_⟩
      exact q _ _ (n / 3 % 12, key, none) (s2.trans (same_new hp)) (.tup upd_same (.cons (.int _) (.cons (.str _ (okKey.str hkey)) (.cons .non .nil)))) ⟨ht0, by show n / 3 % 12 ≤ 100; omega, hkey, trivial⟩
    · refine ⟨_, rfl, _, rfl, _, rfl, l, ds, rfl, hl2, h20, fun t H3 s3 hok => ?_⟩
      refine ⟨(by show 3 ≤ sizeLine; decide), fun p hp => ?_⟩
      exact q _ _ (n / 3 % 12, key, some t) ((s2.trans s3).trans (same_new hp)) (.tup upd_same (.cons (.int _) (.cons (.str _ (okKey.str hkey)) (.cons (.str _ (okText.str hok)) .nil)))) ⟨ht0, by show n / 3 % 12 ≤ 100; omega, hkey, hok⟩
def spLChgs : Sp := fun vs H Q _ => ∃ (a : Addr) (ns : List Int), vs = [.ref a, .int 2, .int 9] ∧ SqL K H a (ns.map V.int) ∧ ∀ q H' (cxs : List V) (cs : List Chg_), H q = none → Same H H' → H' q = some (.lst cxs) → DtAll H' cxs (cs.map eChg) → (∀ c ∈ cs, okChg c) → cs.length ≤ 9 → Q (.ref q) H'
theorem con_law_changes (T : Tx K mg) : Con P w K mg base 4 (He.ga K "_law_changes") ["_law_script", "_law_first", "_law_most"] (spLChgs (K := K)) := by
  obtain ⟨fd, F⟩ := T.d_law_changes
  obtain ⟨fdc, GC, bC, kC⟩ := (con_law_cell (P := P) (w := w) (base := base) T).mono (show 1 ≤ 3 by omega)
  obtain ⟨fdh, GH, bH, kH⟩ := con_law_change (P := P) (w := w) (base := base) T
  refine ⟨fd, F.ok sc_law_changes (fun vs H Q E h => ?_) (fun cdv A outer s H vs Q E hr h => ?_), F.bindsN fun _ _ _ _ _ _ us hl => match us, hl with | [_, _, _], _ => rfl, F.kp⟩
  · obtain ⟨a, ns, rfl, _⟩ := h
    rfl
  · obtain ⟨a, ns, rfl, ha, q⟩ := h
    have nd := sc_law_changes.nd
    refine ⟨_, PSs.nox (pss_cons (ps_set (i := 3) nd rfl (.inl rfl) (pe_lst pa_nil))
      (pss_cons (ps_for PassesOwn.never rfl (pi_range2 (by rfl) T.z_range (pa_cons (pv 1) (pa_cons (pe_op op_add (pv 1) (pe_op op_mod (pe_callTy call_int1 (by rfl) T.z_int (by decide +kernel) (pa_cons (pe_call GC hr (by rfl) T.g_law_cell kC bC .nil pass0 (pa_cons (pv 0) (pa_cons pe_int pa_nil))) pa_nil)) (pe_op op_add (pv 2) pe_int))) pa_nil))) (pg_name (i := 4) nd rfl (.inl rfl))
        (pss_one (ps_expr (pe_bm PySem.F.plainAttrs_list PySem.F.slot_list_append PySem.F.type_list_append mt_append (pv 3) (pa_cons (pe_call GH hr (by rfl) T.g_law_change kH bH .nil pass0 (pa_cons (pe_call GC hr (by rfl) T.g_law_cell kC bC .nil pass0 (pa_cons (pv 0) (pa_cons (pv 4) pa_nil))) (pa_cons (pv 4) pa_nil))) pa_nil)))))
      (pss_one (ps_ret (pv 3))))), ?_⟩
    refine ⟨Nat.zero_le _, fun l hl => ?_⟩
    have s0 : Same H (upd H l (.lst [])) := same_new hl
    refine ⟨_, rfl, _, rfl, _, rfl, a, ns, 1, rfl, sql_same ha s0, fun n => .inl ⟨n, rfl, _, rfl, _, _, rfl, rfl, _, _, rfl, rfl, (by show (0 : Int) < 9 + 1; decide), _, _, rfl, rfl, ?_⟩⟩
    have h0 : 0 ≤ n % (9 + 1) := Int.emod_nonneg _ (by decide)
    have h10 : n % (9 + 1) < 9 + 1 := Int.emod_lt_of_pos _ (by decide)
    refine ⟨_, _, rfl, ⟨by decide, by decide, by omega, by omega⟩, ?_⟩
    refine for_range (lo := 2) (n := (2 + n % (9 + 1) - 2).toNat) (fun i σ H1 => ∃ (v4 : Option V) (cxs : List V) (cs : List Chg_), σ = [some (.ref a), some (.int 2), some (.int 9), some (.ref l), v4] ∧ Same H H1 ∧ H1 l = some (.lst cxs) ∧ DtAll H1 cxs (cs.map eChg) ∧ (∀ c ∈ cs, okChg c) ∧ cs.length = i)
      ⟨none, [], [], rfl, s0, upd_same, .nil, fun c hc => absurd hc (by simp), rfl⟩ ?_ ?_
    · rintro i σ H1 hi ⟨v4, cxs, cs, rfl, s1, hl1, dc, hok, hcl⟩
      have hi9 : i < 10 := by omega
      have ek : (2 : Int) + (i : Nat) = ((2 + i : Nat) : Int) := by omega
      refine ⟨_, rfl, .inl ⟨rfl, _, SqL.of hl1⟩, _, rfl, _, rfl, a, ns, 2 + i, by rw [ek]; rfl, sql_same ha s1, fun n2 => ⟨_, rfl, n2, _, rfl, fun v H2 c s2 dv hc => ?_⟩⟩
      have hcl2 : cxs.length = i := by rw [dc.length, List.length_map, hcl]
      refine ⟨l, cxs, v, rfl, rfl, s2 _ _ hl1, small1000 (by omega), ?_⟩
      have tk : Tk H2 (upd H2 l (.lst (cxs ++ [v]))) := tk_put (s2 _ _ hl1) fun xs z => nomatch z
      refine ⟨_, cxs ++ [v], cs ++ [c], rfl, fun b o e => by rw [upd_ne (ne_of_none e hl)]; exact s2 _ _ (s1 _ _ e), upd_same, ?_, fun c' hc' => ?_, by rw [List.length_append, List.length_singleton, hcl]⟩
      · rw [List.map_append]
        exact ((dc.tk (tk_same s2)).tk tk).append (.cons (dv.tk tk) .nil)
      · rcases List.mem_append.mp hc' with h | h
        · exact hok c' h
        · rw [List.mem_singleton.mp h]; exact hc
    · rintro σ H1 ⟨v4, cxs, cs, rfl, s1, hl1, dc, hok, hcl⟩
      exact ⟨_, rfl, q l H1 cxs cs hl s1 hl1 dc hok (by omega)⟩
def spLPat : Sp := fun vs H Q _ => ∃ (n : Int), vs = [.int n] ∧ ∀ v H' (p : Pat), Same H H' → Dt H' v (ePat p) → Q v H'
theorem con_law_pattern (T : Tx K mg) : Con P w K mg base 1 (He.ga K "_law_pattern") ["_law_digit"] (spLPat) := by
  obtain ⟨fd, F⟩ := T.d_law_pattern
  refine ⟨fd, F.ok sc_law_pattern (fun vs H Q E h => ?_) (fun cdv A outer s H vs Q E hr h => ?_), F.bindsN fun _ _ _ _ _ _ us hl => match us, hl with | [_], _ => rfl, F.kp⟩
  · obtain ⟨n, rfl, _⟩ := h
    rfl
  · obtain ⟨n, rfl, q⟩ := h
    have nd := sc_law_pattern.nd
    refine ⟨_, PSs.nox (pss_cons (ps_set (i := 1) nd rfl (.inl rfl) (pe_lst (pa_cons pe_str (pa_cons pe_str (pa_cons pe_str (pa_cons pe_str (pa_cons pe_str (pa_cons pe_str (pa_cons pe_str (pa_cons pe_str pa_nil))))))))))
      (pss_one (ps_ret (pe_tup (pa_cons (pe_ix ix_list (pe_lst (pa_cons pe_str (pa_cons pe_str pa_nil))) (pe_op op_mod (pe_callTy call_int1 (by rfl) T.z_int (by decide +kernel) (pa_cons (pv 0) pa_nil)) pe_int) (fun _ _ => rfl))
        (pa_cons (pe_ix ix_list (pv 1) (pe_op op_mod (pe_callTy call_int1 (by rfl) T.z_int (by decide +kernel) (pa_cons (pe_op op_fdiv (pv 0) pe_int) pa_nil)) pe_int) (fun _ _ => rfl)) pa_nil)))))), ?_⟩
    refine ⟨(by show 8 ≤ sizeLine; decide), fun wl hwl => ?_⟩
    refine ⟨(by show 2 ≤ sizeLine; decide), fun kl hkl => ?_⟩
    have s1 : Same H _ := (same_new (o := .lst (lawPats.map V.str)) hwl).trans (same_new (o := .lst (lawKinds.map V.str)) hkl)
    obtain ⟨kv, hkv, hkm⟩ := at_mod (xs := lawKinds.map V.str) (x := n) (m := 2) (by decide) (by decide)
    obtain ⟨kt, rfl, hkt⟩ := str_of (l := lawKinds) (by decide +kernel) hkm
    obtain ⟨wv, hwv, hwm⟩ := at_mod (xs := lawPats.map V.str) (x := n / 2) (m := 8) (by decide) (by decide)
    obtain ⟨wt, rfl, hwt⟩ := str_of (l := lawPats) (by decide +kernel) hwm
    refine ⟨_, rfl, .inl ⟨_, rfl, _, _, rfl, rfl, (by show (0 : Int) < 2; decide), kl, _, _, _, rfl, rfl, SqL.of upd_same, hkv, ?_⟩⟩
    refine ⟨_, rfl, _, rfl, _, _, rfl, rfl, ⟨by decide, by decide⟩, .inl ⟨_, rfl, _, _, rfl, rfl, (by show (0 : Int) < 8; decide), wl, _, _, _, rfl, rfl, SqL.of (same_new hkl _ _ upd_same), hwv, ?_⟩⟩
    refine ⟨(by show 2 ≤ sizeLine; decide), fun p hp => ?_⟩
    exact q _ _ (kt, wt) (s1.trans (same_new hp)) (.tup upd_same (.cons (.str _ hkt) (.cons (.str _ hwt) .nil)))
def spLRow : Sp := fun vs H Q _ => ∃ (l : Addr) (ds : List Int), vs = [.ref l] ∧ H l = some (.lst (ds.map V.int)) ∧ 6 ≤ ds.length ∧ ∀ v H' (ps : List Pat) (g : Int), Same H H' → Dt H' v (eQn (.row ps g)) → ps ≠ [] → ps.length ≤ 3 → 0 ≤ g → g ≤ 9 → Q v H'
theorem con_law_row (T : Tx K mg) : Con P w K mg base 2 (He.ga K "_law_row") ["_law_d"] (spLRow) := by
  obtain ⟨fd, F⟩ := T.d_law_row
  obtain ⟨fdp, GP, bP, kP⟩ := con_law_pattern (P := P) (w := w) (base := base) T
  refine ⟨fd, F.ok sc_law_row (fun vs H Q E h => ?_) (fun cdv A outer s H vs Q E hr h => ?_), F.bindsN fun _ _ _ _ _ _ us hl => match us, hl with | [_], _ => rfl, F.kp⟩
  · obtain ⟨l, ds, rfl, _⟩ := h
    rfl
  · obtain ⟨l, ds, rfl, hl, h6, q⟩ := h
    have nd := sc_law_row.nd
    refine ⟨_, PSs.nox (pss_cons (ps_set (i := 1) nd rfl (.inl rfl) (pe_callTy call_tuple_of (by rfl) T.z_tuple (by decide +kernel) (pa_cons
        (pe_lc (own := [("_law_j", 2)]) (g := gName 2) (tt := tYes) rfl nd (pi_range1 (by rfl) T.z_range (pa_cons (pe_op op_add pe_int (pe_op op_mod (pe_callTy call_int1 (by rfl) T.z_int (by decide +kernel) (pa_cons (pe_ix ix_list (pv 0) pe_int (fun _ _ => rfl)) pa_nil)) pe_int)) pa_nil)) (blkOk_by (own := [("_law_j", 2)]) (N := ["_law_d", "_law_patterns", "_law_j"]) (sc := defScope s_law_row) (by decide +kernel))
              (fun _ _ _ _ _ => pg_name (i := 2) nd rfl (.inl rfl)) (fun _ _ _ _ _ => pts_nil) (fun _ _ _ _ _ => pe_call GP hr (by rfl) T.g_law_pattern kP bP .nil pass0 (pa_cons (pe_ix (show IxR _ (rIxL K) from ix_list) (pv 0) (pe_op op_add pe_int (pv 2)) (fun _ _ => rfl)) pa_nil))) pa_nil)))
      (pss_one (ps_ret (pe_tup (pa_cons pe_str (pa_cons (pv 1) (pa_cons (pe_op op_mod (pe_callTy call_int1 (by rfl) T.z_int (by decide +kernel) (pa_cons (pe_ix ix_list (pv 0) pe_int (fun _ _ => rfl)) pa_nil)) pe_int) pa_nil))))))), ?_⟩
    have dat : ∀ {j : Nat}, j < 6 → ∃ z, (ds.map V.int)[j]? = some (V.int z) := fun {j} hj => ⟨ds[j], by rw [List.getElem?_map, List.getElem?_eq_getElem (by omega)]; rfl⟩
    obtain ⟨z0, hz0⟩ := dat (j := 0) (by decide)
    obtain ⟨z5, hz5⟩ := dat (j := 5) (by decide)
    have hm0 : 0 ≤ z0 % 3 := Int.emod_nonneg _ (by decide)
    have hm3 : z0 % 3 < 3 := Int.emod_lt_of_pos _ (by decide)
    have hg0 : 0 ≤ z5 % 3 := Int.emod_nonneg _ (by decide)
    have hg3 : z5 % 3 < 3 := Int.emod_lt_of_pos _ (by decide)
    refine ⟨_, rfl, l, _, _, _, rfl, rfl, SqL.of hl, atI_nat (j := 0) hz0, .inl ⟨_, rfl, _, _, rfl, rfl, (by show (0 : Int) < 3; decide), _, _, rfl, rfl, ?_⟩⟩
    refine ⟨_, rfl, by omega, by omega, fun D hD => ?_⟩
    refine lc_it walk_range (fun i H1 => ∃ (acc : List V) (ps : List Pat), Same H H1 ∧ H1 D = some (.lst acc) ∧ DtAll H1 acc (ps.map ePat) ∧ ps.length = i) ⟨[], [], same_new hD, upd_same, .nil, rfl⟩ (fun i H1 _ _ => trivial) ?_ ?_
    · rintro i x H1 H2 hi ⟨acc, ps, s1, hD1, da, hpl⟩ ⟨rfl, rfl⟩
      have hi3 : i < 3 := by omega
      obtain ⟨z, hz⟩ := dat (j := 1 + i) (by omega)
      have e1 : (1 : Int) + (0 + (i : Nat)) = ((1 + i : Nat) : Int) := by omega
      refine ⟨rfl, ?_⟩
      refine ⟨_, rfl, _, rfl, _, _, rfl, rfl, l, _, _, _, rfl, rfl, SqL.of (s1 _ _ hl), at_of e1 hz, z, rfl, fun v H3 p s3 dp => ?_⟩
      have hal : acc.length = i := by rw [da.length, List.length_map, hpl]
      have tk : Tk H3 (upd H3 D (.lst (acc ++ [v]))) := tk_put (s3 _ _ hD1) fun xs z => nomatch z
      refine ⟨acc, s3 _ _ hD1, small1000 (by omega), acc ++ [v], ps ++ [p], fun b o e => by rw [upd_ne (ne_of_none e hD)]; exact s3 _ _ (s1 _ _ e), upd_same, ?_, by rw [List.length_append, List.length_singleton, hpl]⟩
      rw [List.map_append]
      exact ((da.tk (tk_same s3)).tk tk).append (.cons (dp.tk tk) .nil)
    · rintro H1 ⟨acc, ps, s1, hD1, da, hpl⟩
      refine ⟨D, acc, rfl, .inl ⟨SqL.of hD1, fun p hp => ?_⟩⟩
      have s2 := s1.trans (same_new (o := .tup acc) hp)
      have hpn : ps ≠ [] := fun z => by
        rw [z] at hpl
        have : 0 = (1 + z0 % 3).toNat := hpl
        omega
      refine ⟨_, rfl, _, rfl, l, _, _, _, rfl, rfl, SqL.of (s2 _ _ hl), atI_nat (j := 5) hz5, .inl ⟨_, rfl, _, _, rfl, rfl, (by show (0 : Int) < 3; decide), (by show 3 ≤ sizeLine; decide), fun r hr' => ?_⟩⟩
      have n2 := same_new (o := .tup [.str ("row" : Str), .ref p, .int (z5 % 3)]) hr'
      exact q _ _ ps (z5 % 3) (s2.trans n2) (.tup upd_same (.cons (.str _ (by decide +kernel)) (.cons (.tup (n2 _ _ upd_same) ((da.tk (tk_new hp)).tk (tk_same n2))) (.cons (.int _) .nil)))) hpn (by omega) hg0 (by omega)
end
end Tsf
/-! the law's own defs: _law_question, _law_read -/
namespace Tsf
open PySem PySem.Spec PyProof.Rows L2
theorem cut6 (ds : List Int) (h : 6 ≤ ds.length) : cutV (ds.map V.int) (some 6) none = (ds.drop 6).map V.int := by
  have e1 : HT.sIx (ds.map V.int).length 0 (some 6) = 6 := by
    have := HT.sIx_nat (ds.map V.int).length 0 6
    rw [List.length_map] at this ⊢
    have e : ((6 : Nat) : Int) = 6 := rfl
    rw [e] at this
    rw [this]
    omega
  unfold cutV
  rw [e1, HT.sIx_none, ← List.map_drop]
  exact List.take_of_length_le (by rw [List.length_map, List.length_map, List.length_drop]; exact Nat.le_refl _)
theorem wanted_len {K : PySem.W.Frag} {H : Hp} {I : IxD} {q : Q_} {a b : List Str} (X : IxP K H I) (ha : Wanted I q a) (hb : Wanted I q b) : (a.flatMap I.PS).length = (b.flatMap I.PS).length := by
  have hm : ∀ p, p ∈ a.flatMap I.PS ↔ p ∈ b.flatMap I.PS := fun p => by rw [flat_mem X.good, flat_mem X.good, ha.mem, hb.mem]
  exact Nat.le_antisymm (nodup_le (flat_nodup X.good ha.nd) fun p hp => (hm p).mp hp) (nodup_le (flat_nodup X.good hb.nd) fun p hp => (hm p).mpr hp)
section
variable {P : Program} {w : World} {K : PySem.W.Frag} {mg : Str → Option Value} {base : Heap}
def spLQ : Sp := fun vs H Q _ => ∃ (a : Addr) (ns : List Int) (k : Nat), vs = [.ref a, .int (k : Nat)] ∧ SqL K H a (ns.map V.int) ∧ ∀ v H' (q : Q_), Same H H' → Dt H' v (eQn q) → fine q → q.depth < 4 → q.pats.length ≤ 6 → Q v H'
theorem con_law_question (T : Tx K mg) : Con P w K mg base 3 (He.ga K "_law_question") ["_law_script", "_law_k"] (spLQ (K := K)) := by
  obtain ⟨fd, F⟩ := T.d_law_question
  obtain ⟨fdc, GC, bC, kC⟩ := (con_law_cell (P := P) (w := w) (base := base) T).mono (show 1 ≤ 2 by omega)
  obtain ⟨fdp, GP, bP, kP⟩ := con_law_padded (P := P) (w := w) (base := base) T
  obtain ⟨fdr, GR, bR, kR⟩ := con_law_row (P := P) (w := w) (base := base) T
  refine ⟨fd, F.ok sc_law_question (fun vs H Q E h => ?_) (fun cdv A outer s H vs Q E hr h => ?_), F.bindsN fun _ _ _ _ _ _ us hl => match us, hl with | [_, _], _ => rfl, F.kp⟩
  · obtain ⟨a, ns, k, rfl, _⟩ := h
    rfl
  · obtain ⟨a, ns, k, rfl, ha, q⟩ := h
    have nd := sc_law_question.nd
    refine ⟨_, PSs.nox (pss_cons (ps_set (i := 2) nd rfl (.inl rfl) (pe_call GP hr (by rfl) T.g_law_padded kP bP .nil pass0 (pa_cons (pe_call GC hr (by rfl) T.g_law_cell kC bC .nil pass0 (pa_cons (pv 0) (pa_cons (pv 1) pa_nil))) (pa_cons (pv 1) pa_nil))))
      (pss_cons (ps_set (i := 3) nd rfl (.inl rfl) (pe_call GR hr (by rfl) T.g_law_row kR bR .nil pass0 (pa_cons (pv 2) pa_nil)))
      (pss_cons (ps_set (i := 4) nd rfl (.inl rfl) (pe_call GR hr (by rfl) T.g_law_row kR bR .nil pass0 (pa_cons (pe_slice sl_list (pv 2) (po_some pe_int) po_none) pa_nil)))
      (pss_cons (ps_set (i := 5) nd rfl (.inl rfl) (pe_op op_mod (pe_callTy call_int1 (by rfl) T.z_int (by decide +kernel) (pa_cons (pe_ix ix_list (pv 2) pe_int (fun _ _ => rfl)) pa_nil)) pe_int))
      (pss_cons (ps_if (pt_cmpR op_eq (pv 5) pe_int (nomark _)) (pss_one (ps_ret (pe_tup (pa_cons pe_str (pa_cons (pv 3) pa_nil))))) pss_nil)
      (pss_cons (ps_if (pt_cmpR op_eq (pv 5) pe_int (nomark _)) (pss_one (ps_ret (pe_tup (pa_cons pe_str (pa_cons (pe_tup (pa_cons (pv 3) (pa_cons (pv 4) pa_nil))) pa_nil))))) pss_nil)
      (pss_cons (ps_if (pt_cmpR op_eq (pv 5) pe_int (nomark _)) (pss_one (ps_ret (pe_tup (pa_cons pe_str (pa_cons (pe_tup (pa_cons (pv 3) (pa_cons (pv 4) pa_nil))) pa_nil))))) pss_nil)
      (pss_cons (ps_if (pt_cmpR op_eq (pv 5) pe_int (nomark _)) (pss_one (ps_ret (pe_tup (pa_cons pe_str (pa_cons (pe_tup (pa_cons (pv 3) (pa_cons (pe_tup (pa_cons pe_str (pa_cons (pv 4) pa_nil))) pa_nil))) pa_nil))))) pss_nil)
      (pss_cons (ps_if (pt_cmpR op_eq (pv 5) pe_int (nomark _)) (pss_one (ps_ret (pe_tup (pa_cons pe_str (pa_cons (pe_tup (pa_cons (pe_tup (pa_cons pe_str (pa_cons (pv 3) pa_nil))) (pa_cons (pv 4) pa_nil))) pa_nil))))) pss_nil)
      (pss_cons (ps_if (pt_cmpR op_eq (pv 5) pe_int (nomark _)) (pss_one (ps_ret (pe_tup (pa_cons pe_str pa_nil)))) pss_nil)
      (pss_cons (ps_if (pt_cmpR op_eq (pv 5) pe_int (nomark _)) (pss_one (ps_ret (pe_tup (pa_cons pe_str (pa_cons (pe_tup (pa_cons pe_str (pa_cons (pe_tup (pa_cons (pv 3) (pa_cons (pe_tup (pa_cons pe_str (pa_cons (pe_tup (pa_cons (pv 4) (pa_cons (pe_tup (pa_cons pe_str pa_nil)) pa_nil))) pa_nil))) pa_nil))) pa_nil))) pa_nil))))) pss_nil)
      (pss_one (ps_ret (pv 3)))))))))))))), ?_⟩
    have okn : PyData.strOk ("not" : Str) = true := by decide +kernel
    have oka : PyData.strOk ("and" : Str) = true := by decide +kernel
    have oko : PyData.strOk ("or" : Str) = true := by decide +kernel
    have okl : PyData.strOk ("all" : Str) = true := by decide +kernel
    refine ⟨_, rfl, _, rfl, a, ns, k, rfl, ha, fun n => ⟨_, rfl, n, _, rfl, fun l H1 ds hl s1 hl1 h20 h40 => ?_⟩⟩
    refine ⟨_, rfl, l, ds, rfl, hl1, by omega, fun v1 H2 ps1 g1 s2 d1 hn1 hl3 hg0 hg9 => ?_⟩
    refine ⟨_, rfl, _, rfl, l, _, rfl, SqL.of (s2 _ _ hl1), fun m hm => ?_⟩
    rw [cut6 ds (by omega)]
    have s3 := s2.trans (same_new (o := .lst ((ds.drop 6).map V.int)) hm)
    refine ⟨m, ds.drop 6, rfl, upd_same, by rw [List.length_drop]; omega, fun v2 H4 ps2 g2 s4 d2 hn2 hl4 hg0' hg9' => ?_⟩
    have s14 := s3.trans s4
    have S4 := s1.trans s14
    have e1 := d1.tk (tk_same ((same_new (o := .lst ((ds.drop 6).map V.int)) hm).trans s4))
    have f1 : fine (.row ps1 g1) := ⟨hn1, by omega, hg0, hg9⟩
    have f2 : fine (.row ps2 g2) := ⟨hn2, by omega, hg0', hg9'⟩
    have h12 : (ds.map V.int)[12]? = some (V.int ds[12]) := by rw [List.getElem?_map, List.getElem?_eq_getElem (by omega)]; rfl
    refine ⟨_, rfl, l, _, _, _, rfl, rfl, SqL.of (s14 _ _ hl1), atI_nat (j := 12) h12, .inl ⟨_, rfl, _, _, rfl, rfl, (by show (0 : Int) < 9; decide), ?_⟩⟩
    have p1 : (Ts.Qn.pats (.row ps1 g1)).length ≤ 3 := hl3
    have p2 : (Ts.Qn.pats (.row ps2 g2)).length ≤ 3 := hl4
    have pp : ((Ts.Qn.pats (.row ps1 g1)) ++ (Ts.Qn.pats (.row ps2 g2))).length ≤ 6 := by rw [List.length_append]; omega
    refine ⟨_, rfl, rfl, _, rfl, ?_⟩
    refine ite2 (fun _ => ?_) (fun _ => ?_)
    · refine ⟨_, rfl, (by show 2 ≤ sizeLine; decide), fun t1 h1 => ?_⟩
      have n1 := same_new (o := .tup [.str ("not" : Str), v1]) h1
      exact q _ _ (.not (.row ps1 g1)) (S4.trans n1) (.tup upd_same (.cons (.str _ okn) (.cons (e1.tk (tk_same n1)) .nil))) f1 (by show 0 + 1 < 4; decide) (Nat.le_trans p1 (by decide))
    refine ⟨_, rfl, rfl, _, rfl, ?_⟩
    refine ite2 (fun _ => ?_) (fun _ => ?_)
    · refine ⟨_, rfl, _, rfl, (by show 2 ≤ sizeLine; decide), fun t1 h1 => ⟨(by show 2 ≤ sizeLine; decide), fun t2 h2 => ?_⟩⟩
      have n1 := same_new (o := .tup [v1, v2]) h1
      have n2 := same_new (o := .tup [.str ("and" : Str), .ref t1]) h2
      have n12 := n1.trans n2
      exact q _ _ (.and (.row ps1 g1) (.row ps2 g2)) (S4.trans n12) (.tup upd_same (.cons (.str _ oka) (.cons (.tup (n2 _ _ upd_same) (.cons (e1.tk (tk_same n12)) (.cons (d2.tk (tk_same n12)) .nil))) .nil))) ⟨f1, f2⟩ (by show max 0 0 + 1 < 4; decide) pp
    refine ⟨_, rfl, rfl, _, rfl, ?_⟩
    refine ite2 (fun _ => ?_) (fun _ => ?_)
    · refine ⟨_, rfl, _, rfl, (by show 2 ≤ sizeLine; decide), fun t1 h1 => ⟨(by show 2 ≤ sizeLine; decide), fun t2 h2 => ?_⟩⟩
      have n1 := same_new (o := .tup [v1, v2]) h1
      have n2 := same_new (o := .tup [.str ("or" : Str), .ref t1]) h2
      have n12 := n1.trans n2
      exact q _ _ (.or (.row ps1 g1) (.row ps2 g2)) (S4.trans n12) (.tup upd_same (.cons (.str _ oko) (.cons (.tup (n2 _ _ upd_same) (.cons (e1.tk (tk_same n12)) (.cons (d2.tk (tk_same n12)) .nil))) .nil))) ⟨f1, f2⟩ (by show max 0 0 + 1 < 4; decide) pp
    refine ⟨_, rfl, rfl, _, rfl, ?_⟩
    refine ite2 (fun _ => ?_) (fun _ => ?_)
    · refine ⟨_, rfl, _, rfl, (by show 2 ≤ sizeLine; decide), fun t0 h0 => ⟨(by show 2 ≤ sizeLine; decide), fun t1 h1 => ⟨(by show 2 ≤ sizeLine; decide), fun t2 h2 => ?_⟩⟩⟩
      have n0 := same_new (o := .tup [.str ("not" : Str), v2]) h0
      have n1 := same_new (o := .tup [v1, .ref t0]) h1
      have n2 := same_new (o := .tup [.str ("and" : Str), .ref t1]) h2
      have n12 := (n0.trans n1).trans n2
      exact q _ _ (.and (.row ps1 g1) (.not (.row ps2 g2))) (S4.trans n12) (.tup upd_same (.cons (.str _ oka) (.cons (.tup (n2 _ _ upd_same) (.cons (e1.tk (tk_same n12)) (.cons (.tup (n2 _ _ (n1 _ _ upd_same)) (.cons (.str _ okn) (.cons (d2.tk (tk_same n12)) .nil))) .nil))) .nil))) ⟨f1, f2⟩ (by show max 0 1 + 1 < 4; decide) pp
    refine ⟨_, rfl, rfl, _, rfl, ?_⟩
    refine ite2 (fun _ => ?_) (fun _ => ?_)
    · refine ⟨_, rfl, (by show 2 ≤ sizeLine; decide), fun t0 h0 => ⟨_, rfl, (by show 2 ≤ sizeLine; decide), fun t1 h1 => ⟨(by show 2 ≤ sizeLine; decide), fun t2 h2 => ?_⟩⟩⟩
      have n0 := same_new (o := .tup [.str ("not" : Str), v1]) h0
      have n1 := same_new (o := .tup [.ref t0, v2]) h1
      have n2 := same_new (o := .tup [.str ("or" : Str), .ref t1]) h2
      have n12 := (n0.trans n1).trans n2
      exact q _ _ (.or (.not (.row ps1 g1)) (.row ps2 g2)) (S4.trans n12) (.tup upd_same (.cons (.str _ oko) (.cons (.tup (n2 _ _ upd_same) (.cons (.tup (n2 _ _ (n1 _ _ upd_same)) (.cons (.str _ okn) (.cons (e1.tk (tk_same n12)) .nil))) (.cons (d2.tk (tk_same n12)) .nil))) .nil))) ⟨f1, f2⟩ (by show max 1 0 + 1 < 4; decide) pp
    refine ⟨_, rfl, rfl, _, rfl, ?_⟩
    refine ite2 (fun _ => ?_) (fun _ => ?_)
    · refine ⟨(by show 1 ≤ sizeLine; decide), fun t1 h1 => ?_⟩
      exact q _ _ .all (S4.trans (same_new h1)) (.tup upd_same (.cons (.str _ okl) .nil)) trivial (by decide) (Nat.zero_le _)
    refine ⟨_, rfl, rfl, _, rfl, ?_⟩
    refine ite2 (fun _ => ?_) (fun _ => ?_)
    · refine ⟨_, rfl, _, rfl, (by show 1 ≤ sizeLine; decide), fun t0 h0 => ⟨(by show 2 ≤ sizeLine; decide), fun t1 h1 => ⟨(by show 2 ≤ sizeLine; decide), fun t2 h2 => ⟨(by show 2 ≤ sizeLine; decide), fun t3 h3 => ⟨(by show 2 ≤ sizeLine; decide), fun t4 h4 => ⟨(by show 2 ≤ sizeLine; decide), fun t5 h5 => ?_⟩⟩⟩⟩⟩⟩
      have n0 := same_new (o := .tup [.str ("all" : Str)]) h0
      have n1 := same_new (o := .tup [v2, .ref t0]) h1
      have n2 := same_new (o := .tup [.str ("and" : Str), .ref t1]) h2
      have n3 := same_new (o := .tup [v1, .ref t2]) h3
      have n4 := same_new (o := .tup [.str ("or" : Str), .ref t3]) h4
      have n5 := same_new (o := .tup [.str ("not" : Str), .ref t4]) h5
      have n15 := (((n0.trans n1).trans n2).trans n3).trans (n4.trans n5)
      refine q _ _ (.not (.or (.row ps1 g1) (.and (.row ps2 g2) .all))) (S4.trans n15) (.tup upd_same (.cons (.str _ okn) (.cons (.tup (n5 _ _ upd_same) (.cons (.str _ oko) (.cons (.tup (n5 _ _ (n4 _ _ upd_same)) (.cons (e1.tk (tk_same n15)) (.cons (.tup (n5 _ _ (n4 _ _ (n3 _ _ upd_same))) (.cons (.str _ oka) (.cons (.tup (n5 _ _ (n4 _ _ (n3 _ _ (n2 _ _ upd_same)))) (.cons (d2.tk (tk_same n15)) (.cons (.tup (n5 _ _ (n4 _ _ (n3 _ _ (n2 _ _ (n1 _ _ upd_same))))) (.cons (.str _ okl) .nil)) .nil))) .nil))) .nil))) .nil))) .nil))) ⟨f1, f2, trivial⟩ (by show max 0 (max 0 0 + 1) + 1 + 1 < 4; decide) ?_
      show (ps1 ++ (ps2 ++ [])).length ≤ 6
      rw [List.append_nil]
      exact pp
    exact ⟨_, rfl, q v1 _ (.row ps1 g1) S4 e1 f1 (by show 0 < 4; decide) (Nat.le_trans p1 (by decide))⟩
end
end Tsf
/-! the law's own defs: _law_read -/
namespace Tsf
open PySem PySem.Spec PyProof.Rows L2
theorem len_flat (PS : Str → List Post) : ∀ l : List Str, ((l.map fun x => (((PS x).length : Nat) : Int)).sum) = (((l.flatMap PS).length : Nat) : Int)
  | [] => rfl
  | x :: l => by
    rw [List.map_cons, List.sum_cons, len_flat PS l, List.flatMap_cons, List.length_append]
    omega
section
variable {P : Program} {w : World} {K : PySem.W.Frag} {mg : Str → Option Value} {base : Heap}
def spLRead : Sp := fun vs H Q _ => ∃ (I : IxD) (qv : V) (q : Q_), vs = [.ref I.ix, qv] ∧ IxP K H I ∧ Dt H qv (eQn q) ∧ fine q ∧ q.depth < 4 ∧ q.pats.length ≤ 1000 ∧
  ∀ H' ww, Same H H' → Wanted I q ww → Q (.int ((((ww.flatMap I.PS).length : Nat) : Int) + (if Ts.matchD fitsS [] q then (((vlist I).length : Nat) : Int) else 0))) H'
theorem con_law_read (T : Tx K mg) : Con P w K mg base 8 (He.ga K "_law_read") ["_law_index", "_law_question_here"] (spLRead (K := K)) := by
  obtain ⟨fd, F⟩ := T.d_law_read
  obtain ⟨fdp, GP, bP, kP⟩ := (con_patterns_of (P := P) (w := w) (base := base) T 4).mono (show 4 + 1 ≤ 7 by omega)
  obtain ⟨fdw, GW, bW, kW⟩ := (con_words (P := P) (w := w) (base := base) T).mono (show 1 ≤ 7 by omega)
  obtain ⟨fdf, GF, bF, kF⟩ := (con_fits (P := P) (w := w) (base := base) T).mono (show 1 ≤ 7 by omega)
  obtain ⟨fdo, GO, bO, kO⟩ := (con_postings (P := P) (w := w) (base := base) T).mono (show 1 ≤ 7 by omega)
  obtain ⟨fdm, GM, bM, kM⟩ := (con_matches (P := P) (w := w) (base := base) T 4).mono (show 3 + 4 ≤ 7 by omega)
  obtain ⟨fdv, GV, bV, kV⟩ := (con_versions (P := P) (w := w) (base := base) T).mono (show 1 ≤ 7 by omega)
  refine ⟨fd, F.ok sc_law_read (fun vs H Q E h => ?_) (fun cdv A outer s H vs Q E hr h => ?_), F.bindsN fun _ _ _ _ _ _ us hl => match us, hl with | [_, _], _ => rfl, F.kp⟩
  · obtain ⟨I, qv, q, rfl, _⟩ := h
    rfl
  · obtain ⟨I, qv, q, rfl, X, hq, hf, hd, hpl, k⟩ := h
    obtain ⟨dx, lt, ho⟩ := X.obj
    have hwl := wks_len X
    have hsl : (sortS I.wks).length = I.wks.length := List.length_mergeSort _
    have nd := sc_law_read.nd
    refine ⟨_, PSs.nox (pss_cons (ps_set (i := 2) nd rfl (.inl rfl) (pe_lst pa_nil))
      (pss_cons (ps_for PassesOwn.never rfl (pi_list (pe_call GP hr (by rfl) T.g_patterns_of kP bP .nil pass0 (pa_cons (pv 1) pa_nil))) (pg_name (i := 3) nd rfl (.inl rfl))
        (pss_one (ps_for PassesOwn.never rfl (pi_list (pe_meth0 (pv 0) T.c_Index T.m_Index_words GW hr bW .nil pass0)) (pg_name (i := 4) nd rfl (.inl rfl))
          (pss_one (ps_if (PW.pt (pw_and (pt_val (pe_call GF hr (by rfl) T.g_fits kF bF .nil pass0 (pa_cons (pv 4) (pa_cons (pv 3) pa_nil)))) (pw_and1 (pt_cmpR op_notIn_seq (pv 4) (pv 2) (by rfl)))))
            (pss_one (ps_expr (pe_bm PySem.F.plainAttrs_list PySem.F.slot_list_append PySem.F.type_list_append mt_append (pv 2) (pa_cons (pv 4) pa_nil)))) pss_nil)))))
      (pss_cons (ps_set (i := 5) nd rfl (.inl rfl) (pe_callB (cr_sum rfl) (by rfl) T.z_sum (by decide +kernel) (pa_cons
        (pe_lc (own := [("_law_word", 4)]) (g := gName 4) (tt := tYes) rfl nd (pi_list (pv 2)) (blkOk_by (own := [("_law_word", 4)]) (N := ["_law_index", "_law_question_here", "_law_words", "_law_pattern_here", "_law_word", "_law_count"]) (sc := defScope s_law_read) (by decide +kernel))
              (fun _ _ _ _ _ => pg_name (i := 4) nd rfl (.inl rfl)) (fun _ _ _ _ _ => pts_nil) (fun _ _ _ _ _ => pe_callB (show CallR _ _ (fun xs H Q => ∃ p ys, xs = [.ref p] ∧ (SqL K H p ys ∨ SqT K H p ys) ∧ Q (.int ys.length) H) from call_len_seq) (by rfl) T.z_len PySem.boot_len (pa_cons (pe_meth (pv 0) T.c_Index T.m_Index_postings GO hr bO .nil pass0 (pa_cons (pv 4) pa_nil)) pa_nil))) pa_nil)))
      (pss_cons (ps_if (pt_val (pe_call GM hr (by rfl) T.g_matches kM bM .nil pass0 (pa_cons (pe_tup pa_nil) (pa_cons (pv 1) pa_nil))))
        (pss_one (ps_set (i := 5) nd rfl (.inl rfl) (pe_op op_add (pv 5) (pe_callB call_len_seq (by rfl) T.z_len PySem.boot_len (pa_cons (pe_meth0 (pv 0) T.c_Index T.m_Index_versions GV hr bV .nil pass0) pa_nil))))) pss_nil)
      (pss_one (ps_ret (pv 5))))))), ?_⟩
    refine ⟨Nat.zero_le _, fun l hl => ?_⟩
    have s0 : Same H (upd H l (.lst [])) := same_new hl
    refine ⟨_, rfl, qv, q, rfl, hq.tk (tk_same s0), hd, hpl, fun pq H1 pxs pl hpq s1 hpq1 dp hmem hpll => ?_⟩
    have s01 := s0.trans s1
    have hl1 : H1 l = some (.lst []) := s1 _ _ upd_same
    have npl : pq ≠ l := (ne_of_none (upd_same (H := H) (a := l) (o := .lst [])) hpq).symm
    have hsz : ∀ m : List Str, (∀ x ∈ m, x ∈ I.wks) → (addAll m).length ≤ 549 := fun m hm => by
      have h1 := nodup_le (nodup_addAll m) (m := I.wks) fun x hx => hm x (mem_addAll.mp hx)
      omega
    refine ⟨pq, rfl, ⟨_, SqL.of hpq1⟩, ?_⟩
    refine for_list (K := K) (a := pq) (xs := pxs) (fun i σ H2 => ∃ (v3 v4 : Option V), σ = [some (.ref I.ix), some qv, some (.ref l), v3, v4, none] ∧ (∀ b o, b ≠ l → H1 b = some o → H2 b = some o) ∧ H2 l = some (.lst ((addAll (wfl I (pl.take i))).map V.str)))
      ⟨none, none, rfl, fun b o _ e => e, hl1⟩ (fun i σ H2 _ ⟨_, _, _, s2, _⟩ => SqL.of (s2 _ _ npl hpq1)) ?_ ?_
    · rintro i x σ H2 hx ⟨v3, v4, rfl, s2, hl2⟩
      obtain ⟨p, hp, dpp⟩ := dp.mget hx
      have S02 : Same H H2 := fun b o e => s2 b o (ne_of_none e hl) (s01 _ _ e)
      have tk12 : Tk H1 H2 := fun b xs e => s2 b _ (fun z => by rw [z, hl1] at e; cases e) e
      have ef : ∀ j, (((sortS I.wks).take j).filter fun x => fitsS x p) = ((sortS I.wks).take j).filter fun x => fitsS x p := fun _ => rfl
      refine ⟨_, rfl, I.ix, dx, _, rfl, S02 _ _ ho, rfl, I, rfl, X.same S02, fun wq hwq => ?_⟩
      have nwl : wq ≠ l := (ne_of_none hl2 hwq).symm
      have s3 : Same H2 (upd H2 wq (.lst ((sortS I.wks).map V.str))) := same_new hwq
      have hw3 : upd H2 wq (.lst ((sortS I.wks).map V.str)) wq = some (.lst ((sortS I.wks).map V.str)) := upd_same
      generalize upd H2 wq (.lst ((sortS I.wks).map V.str)) = H3 at s3 hw3
      refine ⟨wq, rfl, ⟨_, SqL.of hw3⟩, ?_⟩
      refine for_list (K := K) (a := wq) (xs := (sortS I.wks).map V.str) (fun j σ H4 => ∃ (v4 : Option V), σ = [some (.ref I.ix), some qv, some (.ref l), some x, v4, none] ∧ (∀ b o, b ≠ l → H3 b = some o → H4 b = some o) ∧ H4 l = some (.lst ((addAll (wfl I (pl.take i) ++ (((sortS I.wks).take j).filter fun x => fitsS x p))).map V.str)))
        ⟨v4, rfl, fun b o _ e => e, by rw [List.take_zero]; simp; exact s3 _ _ hl2⟩ (fun j σ H4 _ ⟨_, _, s4, _⟩ => SqL.of (s4 _ _ nwl hw3)) ?_ ?_
      · rintro j v σ H4 hv ⟨v4', rfl, s4, hl4⟩
        obtain ⟨y, hy, rfl⟩ := str_at1 hv
        have tk34 : Tk H3 H4 := fun b xs e => s4 b _ (fun z => by rw [z, s3 _ _ hl2] at e; cases e) e
        have hsub : ∀ x ∈ wfl I (pl.take i) ++ (((sortS I.wks).take j).filter fun x => fitsS x p), x ∈ I.wks := fun z hz => by
          rcases List.mem_append.mp hz with hz | hz
          · exact (wfl_sub.mp hz).1
          · exact (sortS_perm _).mem_iff.mp (List.mem_of_mem_take (List.mem_filter.mp hz).1)
        have h549 := hsz _ hsub
        refine ⟨_, rfl, _, rfl, y, x, p, rfl, ((dpp.tk tk12).tk (tk_same s3)).tk tk34, _, rfl, ?_⟩
        refine ite2 (fun c => ?_) (fun c => ?_)
        · have efy : (((sortS I.wks).take (j + 1)).filter fun x => fitsS x p) = (((sortS I.wks).take j).filter fun x => fitsS x p) ++ [y] := by
            rw [take_snoc hy, List.filter_append]
            congr 1
            rw [List.filter_cons, if_pos c]
            rfl
          refine ⟨_, rfl, _, rfl, l, _, rfl, .inl (SqL.of hl4), rfl, ?_, _, rfl, ?_⟩
          · rw [List.all_eq_true]
            intro z hz
            obtain ⟨z', _, rfl⟩ := List.mem_map.mp hz
            rfl
          · have eN : (if true = true then !inV (V.str y) ((addAll (wfl I (pl.take i) ++ (((sortS I.wks).take j).filter fun x => fitsS x p))).map V.str) else inV (V.str y) ((addAll (wfl I (pl.take i) ++ (((sortS I.wks).take j).filter fun x => fitsS x p))).map V.str)) = !decide (y ∈ addAll (wfl I (pl.take i) ++ (((sortS I.wks).take j).filter fun x => fitsS x p))) := by
              rw [← inV_str]; rfl
            rw [eN]
            refine ite2 (fun c2 => ?_) (fun c2 => ?_)
            · have hn : y ∉ addAll (wfl I (pl.take i) ++ (((sortS I.wks).take j).filter fun x => fitsS x p)) := by simpa using c2
              refine ⟨_, rfl, .inl ⟨rfl, _, SqL.of hl4⟩, _, rfl, l, _, _, rfl, rfl, hl4, small1000 (by rw [List.length_map]; omega), ?_⟩
              refine ⟨_, rfl, fun b o hb e => by rw [upd_ne hb]; exact s4 b o hb e, ?_⟩
              rw [upd_same, efy, ← List.append_assoc, addAll_snoc]
              unfold add
              rw [if_neg hn, List.map_append]
              rfl
            · have hn : y ∈ addAll (wfl I (pl.take i) ++ (((sortS I.wks).take j).filter fun x => fitsS x p)) := by simpa using c2
              refine ⟨_, rfl, s4, ?_⟩
              rw [hl4, efy, ← List.append_assoc, addAll_snoc]
              unfold add
              rw [if_pos hn]
        · have efy : (((sortS I.wks).take (j + 1)).filter fun x => fitsS x p) = (((sortS I.wks).take j).filter fun x => fitsS x p) := by
            rw [take_snoc hy, List.filter_append, List.filter_cons, if_neg c]
            exact List.append_nil _
          refine iteF ?_
          exact ⟨_, rfl, s4, by rw [efy]; exact hl4⟩
      · rintro σ H4 ⟨v4', rfl, s4, hl4⟩
        rw [List.length_map, List.take_length] at hl4
        have ef : wfl I (pl.take (i + 1)) = wfl I (pl.take i) ++ (sortS I.wks).filter fun x => fitsS x p := by
          rw [take_snoc hp]
          unfold wfl
          rw [List.flatMap_append]
          simp
        exact ⟨_, _, rfl, fun b o hb e => s4 b o hb (s3 _ _ (s2 b o hb e)), by rw [ef]; exact hl4⟩
    · rintro σ H2 ⟨v3, v4, rfl, s2, hl2⟩
      have el : pxs.length = pl.length := by rw [dp.length, List.length_map]
      rw [el, List.take_length] at hl2
      have S02 : Same H H2 := fun b o e => s2 b o (ne_of_none e hl) (s01 _ _ e)
      have hW : Wanted I q (addAll (wfl I pl)) := by
        refine ⟨nodup_addAll _, fun x => ?_⟩
        rw [mem_addAll, wfl_sub]
        constructor
        · rintro ⟨h1, p, hp, h2⟩
          exact ⟨h1, p, (hmem p).mp hp, h2⟩
        · rintro ⟨h1, p, hp, h2⟩
          exact ⟨h1, p, (hmem p).mpr hp, h2⟩
      have h549 := hsz (wfl I pl) fun x hx => (wfl_sub.mp hx).1
      generalize addAll (wfl I pl) = ww at hl2 hW h549
      refine ⟨_, rfl, l, rfl, ⟨_, SqL.of hl2⟩, fun D hD => ?_⟩
      refine lc_list (K := K) (a := l) (xs := ww.map V.str) (fun i H3 => Same H2 H3 ∧ H3 D = some (.lst ((((ww.take i).map fun x => (((I.PS x).length : Nat) : Int))).map V.int)))
        ⟨same_new hD, upd_same⟩ (fun i H3 _ ⟨s3, _⟩ => SqL.of (s3 _ _ hl2)) ?_ ?_
      · rintro i v H3 hv ⟨s3, hD3⟩
        obtain ⟨x, hx, rfl⟩ := str_at1 hv
        have hi : i < ww.length := (List.getElem?_eq_some_iff.mp hx).1
        refine ⟨rfl, ?_⟩
        refine ⟨_, rfl, I.ix, dx, _, rfl, s3 _ _ (S02 _ _ ho), rfl, _, rfl, I, x, rfl, X.same (S02.trans s3), fun oq H4 oxs hoq s4 ho4 do4 => ?_⟩
        refine ⟨oq, oxs, rfl, .inl (SqL.of ho4), _, s4 _ _ hD3, ?_, fun b o e => by rw [upd_ne (ne_of_none e hD)]; exact s4 _ _ (s3 _ _ e), ?_⟩
        · rw [List.length_map, List.length_map, List.length_take]
          exact small1000 (by omega)
        · have eo : oxs.length = (I.PS x).length := by rw [do4.length, List.length_map]
          rw [upd_same, take_snoc hx, List.map_append, List.map_append, eo]
          rfl
      · rintro H3 ⟨s3, hD3⟩
        rw [List.length_map, List.take_length] at hD3
        refine ⟨D, _, rfl, SqL.of hD3, ?_⟩
        rw [len_flat]
        have S03 := S02.trans s3
        refine ⟨Nat.zero_le _, fun tp htp => ?_⟩
        have S04 := S03.trans (same_new (o := .tup []) htp)
        refine ⟨_, rfl, .ref tp, qv, [], q, rfl, .tup upd_same .nil, hq.tk (tk_same S04), hf, hd, Nat.zero_le _, fun H5 s5 => ⟨_, rfl, ?_⟩⟩
        have S05 := S04.trans s5
        refine ite2 (fun c => ?_) (fun c => ?_)
        · refine ⟨_, rfl, _, rfl, I.ix, dx, _, rfl, S05 _ _ ho, rfl, I, rfl, X.same S05, fun vq H6 vxs hvq s6 hv6 dv6 => ?_⟩
          refine ⟨vq, vxs, rfl, .inl (SqL.of hv6), _, _, rfl, rfl, ?_⟩
          have el2 : vxs.length = (vlist I).length := by rw [dv6.length, List.length_map]
          have kk := k H6 ww (S05.trans s6) hW
          rw [if_pos c] at kk
          refine ⟨_, rfl, ?_⟩
          rw [el2]
          exact kk
        · have kk := k H5 ww S05 hW
          rw [if_neg c, Int.add_zero] at kk
          exact ⟨_, rfl, kk⟩
end
end Tsf
/-! law -/
namespace Tsf
open PySem PySem.Spec PyProof.Rows L2
abbrev mkI (I : IxD) (cs : List Chg_) (PS : Str → List Post) (wks : List Str) (wf : Key → Addr) (pks : List Str) (pf : Key → Addr) : IxD := { I with cs := cs, PS := PS, wks := wks, wf := wf, pks := pks, pf := pf }
theorem wks_ok {K : PySem.W.Frag} {H : Hp} {I : IxD} (X : IxP K H I) : ∀ x ∈ I.wks, PyData.strOk x = true := fun x hx => by
  obtain ⟨_, oxs, _, h2⟩ := X.bw.l x hx
  have h3 := (X.bw.ne x).mp hx
  cases e : I.PS x with
  | nil => exact absurd e h3
  | cons p r =>
    have h4 := (X.good.mem x p).mp (by rw [e]; exact List.mem_cons_self ..)
    rw [e, List.map_cons] at h2
    cases h2 with
    | cons h5 _ =>
      obtain ⟨b, u1, u2, u3, u4, u5, _, _, hu1, _⟩ := (show Dt H _ (.tuple [.str p.1, .str p.2.1, .int p.2.2.1, eOpt p.2.2.2.1, eInts p.2.2.2.2]) from h5).t5
      rw [← h4.1]
      exact hu1.str_inv.2
section
variable {P : Program} {w : World} {K : PySem.W.Frag} {mg : Str → Option Value} {base : Heap}
def spLaw : Sp := fun vs H Q _ => ∃ (a : Addr) (ns : List Int), vs = [.ref a] ∧ SqL K H a (ns.map V.int) ∧ ∀ H', Q (.bl true) H'
theorem law_ok (T : Tx K mg) {fd : FuncData} (F : FnP K "law" "law" s_law (He.ga K "law") fd) : FnOk P w K mg base CX0 11 (He.ga K "law") fd ["_law_script"] (spLaw (K := K)) := by
  obtain ⟨fde, GE, bE, kE⟩ := (con_law_endings (P := P) (w := w) (base := base) T).mono (show 2 ≤ 10 by omega)
  obtain ⟨fdi, GI, bI, kI⟩ := con_Index_init (P := P) (w := w) (base := base) T
  obtain ⟨fdc, GC, bC, kC⟩ := (con_law_changes (P := P) (w := w) (base := base) T).mono (show 4 ≤ 10 by omega)
  obtain ⟨fdt, GT, bT, kT⟩ := (con_Index_tell (P := P) (w := w) (base := base) T).mono (show 4 ≤ 10 by omega)
  obtain ⟨fdq, GQ, bQ, kQ⟩ := (con_law_question (P := P) (w := w) (base := base) T).mono (show 3 ≤ 10 by omega)
  obtain ⟨fda, GA, bA, kA⟩ := con_answer (P := P) (w := w) (base := base) T 4
  obtain ⟨fdh, GH, bH, kH⟩ := (con_shelf (P := P) (w := w) (base := base) T).mono (show 4 ≤ 10 by omega)
  obtain ⟨fdn, GN, bN, kN⟩ := (con_plain (P := P) (w := w) (base := base) T 4).mono (show 4 + 4 ≤ 10 by omega)
  obtain ⟨fdr, GR, bR, kR⟩ := con_read (P := P) (w := w) (base := base) T 4
  obtain ⟨fdl, GL, bL, kL⟩ := (con_law_read (P := P) (w := w) (base := base) T).mono (show 8 ≤ 10 by omega)
  obtain ⟨fdp, GP, bP, kP⟩ := (con_patterns_of (P := P) (w := w) (base := base) T 4).mono (show 4 + 1 ≤ 10 by omega)
  obtain ⟨fdf, GF, bF, kF⟩ := (con_words_for (P := P) (w := w) (base := base) T).mono (show 2 ≤ 10 by omega)
  obtain ⟨fdw, GW, bW, kW⟩ := (con_words (P := P) (w := w) (base := base) T).mono (show 1 ≤ 10 by omega)
  obtain ⟨fdx, GX, bX, kX⟩ := (con_fits (P := P) (w := w) (base := base) T).mono (show 1 ≤ 10 by omega)
  refine F.ok sc_law (fun vs H Q E h => ?_) (fun cdv A outer s H vs Q E hr h => ?_)
  · obtain ⟨a, ns, rfl, _⟩ := h
    rfl
  · obtain ⟨a, ns, rfl, ha, q⟩ := h
    have nd := sc_law.nd
    have hr4 : Room (3 + 1) _ := hr.mono (show 3 + 1 ≤ 10 by omega)
    refine ⟨_, PSs.nox (pss_cons (ps_set (i := 1) nd rfl (.inl rfl) (pe_make T.k_Index GI hr4 (by rfl) T.g_Index bI .nil pass0 (pa_cons (pe_call GE hr (by rfl) T.g_law_endings kE bE .nil pass0 (pa_cons (pv 0) pa_nil)) pa_nil)))
      (pss_cons (ps_set (i := 2) nd rfl (.inl rfl) pe_int)
      (pss_cons (ps_for PassesOwn.never rfl (pi_list (pe_call GC hr (by rfl) T.g_law_changes kC bC .nil pass0 (pa_cons (pv 0) (pa_cons pe_int (pa_cons pe_int pa_nil))))) (pg_name (i := 3) nd rfl (.inl rfl))
        (pss_cons (ps_expr (pe_meth (pv 1) T.c_Index T.m_Index_tell GT hr bT .nil pass0 (pa_cons (pe_ix ix_tup (pv 3) pe_int (fun _ _ => rfl)) (pa_cons (pe_ix ix_tup (pv 3) pe_int (fun _ _ => rfl)) (pa_cons (pe_ix ix_tup (pv 3) pe_int (fun _ _ => rfl)) pa_nil)))))
        (pss_cons (ps_set (i := 4) nd rfl (.inl rfl) (pe_call GQ hr (by rfl) T.g_law_question kQ bQ .nil pass0 (pa_cons (pv 0) (pa_cons (pv 2) pa_nil))))
        (pss_cons (ps_set (i := 2) nd rfl (.inl rfl) (pe_op op_add (pv 2) pe_int))
        (pss_cons (ps_if (pt_cmpR (op_neDT (Room.u70 hr)) (pe_meth (pv 1) T.c_Index T.m_Index_answer GA hr bA .nil pass0 (pa_cons (pv 4) pa_nil)) (pe_meth (pe_meth0 (pv 1) T.c_Index T.m_Index_shelf GH hr bH .nil pass0) T.c_Shelf T.m_Shelf_plain_answer GN hr bN .nil pass0 (pa_cons (pv 4) pa_nil)) (nomark _)) (pss_one (ps_ret pe_bl)) pss_nil)
        (pss_cons (ps_if (pt_cmpR op_ne (pe_meth (pv 1) T.c_Index T.m_Index_read GR hr bR .nil pass0 (pa_cons (pv 4) pa_nil)) (pe_call GL hr (by rfl) T.g_law_read kL bL .nil pass0 (pa_cons (pv 1) (pa_cons (pv 4) pa_nil))) (nomark _)) (pss_one (ps_ret pe_bl)) pss_nil)
        (pss_one (ps_for PassesOwn.never rfl (pi_list (pe_call GP hr (by rfl) T.g_patterns_of kP bP .nil pass0 (pa_cons (pv 4) pa_nil))) (pg_name (i := 5) nd rfl (.inr rfl))
          (pss_one (ps_if (pt_cmpR (op_neLT (Room.u70 hr)) (pe_callTy call_list_of (by rfl) T.z_list (by decide +kernel) (pa_cons (pe_meth (pv 1) T.c_Index T.m_Index_words_for GF hr bF .nil pass0 (pa_cons (pv 5) pa_nil)) pa_nil))
              (pe_lc (own := [("_law_word", 6)]) (g := gName 6) rfl nd (pi_list (pe_meth0 (pv 1) T.c_Index T.m_Index_words GW hr bW .nil pass0)) (blkOk_by (own := [("_law_word", 6)]) (N := ["_law_script", "_law_index", "_law_turn", "_law_change_here", "_law_question_here", "_law_pattern_here", "_law_word"]) (sc := defScope s_law) (by decide +kernel))
                (fun _ _ _ _ _ => pg_name (i := 6) nd rfl (.inl rfl)) (fun _ _ _ _ _ => pts_one (pt_val (pe_call GX hr (by rfl) T.g_fits kX bX .nil pass0 (pa_cons (pv 6) (pa_cons (pv 5) pa_nil))))) (fun _ _ _ _ _ => pv 6)) (nomark _))
            (pss_one (ps_ret pe_bl)) pss_nil))))))))))
      (pss_one (ps_ret pe_bl))))), ?_⟩
    refine ⟨_, rfl, a, ns, rfl, ha, fun ea H1 es s1 dea h10 => ?_⟩
    intro ix dx hix hdx hne
    have sm : Same H1 (upd (upd H1 dx (.own ix)) ix (.ins (He.ga K "Index") dx [])) := fun b o e => by
      rw [upd_ne (ne_of_none e hix), upd_ne (ne_of_none e hdx)]; exact e
    refine ⟨ix, dx, ea, es, rfl, upd_same, dea.tk (tk_same sm), h10, fun I H2 hI hes hcs X k2 hca hpl hbw => ⟨rfl, ?_⟩⟩
    subst hI
    subst hes
    have S02 : Same H H2 := fun b o e => k2 b o (ne_of_none (s1 _ _ e) hix) (sm _ _ (s1 _ _ e))
    have nix : H I.ix = none := same_none s1 hix
    have nca : H I.ca = none := same_none s1 (same_none sm hca)
    have npl : H I.pl = none := same_none s1 (same_none sm hpl)
    have nbw : H I.bw = none := same_none s1 (same_none sm hbw)
    refine ⟨_, rfl, a, ns, rfl, sql_same ha S02, fun lq H3 cxs cs hlq s3 hlq3 dcx hokc h9 => ?_⟩
    have S03 := S02.trans s3
    obtain ⟨dx2, lt2, hix2⟩ := X.obj
    obtain ⟨cca, hca2, _⟩ := X.sh.chg
    have hpl2 := X.pw.d
    have hbw2 := X.bw.d
    have hix3 := s3 _ _ hix2
    have hca3 := s3 _ _ hca2
    have hpl3 := s3 _ _ hpl2
    have hbw3 := s3 _ _ hbw2
    have m1 : lq ≠ I.ix := (ne_of_none hix2 hlq).symm
    have m2 : lq ≠ I.ca := (ne_of_none hca2 hlq).symm
    have m3 : lq ≠ I.pl := (ne_of_none hpl2 hlq).symm
    have m4 : lq ≠ I.bw := (ne_of_none hbw2 hlq).symm
    have eI : mkI I (cs.take 0) I.PS I.wks I.wf I.pks I.pf = I := by
      rw [List.take_zero, ← hcs]
    refine ⟨lq, rfl, ⟨_, SqL.of hlq3⟩, ?_⟩
    refine for_list (K := K) (a := lq) (xs := cxs) (fun i σ H4 => ∃ (t : Int) (v3 v4 v5 : Option V) (PS : Str → List Post) (wks : List Str) (wf : Key → Addr) (pks : List Str) (pf : Key → Addr), σ = [some (.ref a), some (.ref I.ix), some (.int t), v3, v4, v5, none] ∧ t = 20 + (i : Nat) ∧
        IxP K H4 (mkI I (cs.take i) PS wks wf pks pf) ∧ (∀ b o, b ≠ I.ix → b ≠ I.ca → b ≠ I.pl → b ≠ I.bw → H3 b = some o → H4 b = some o))
      ⟨20, none, none, none, I.PS, I.wks, I.wf, I.pks, I.pf, rfl, rfl, by rw [eI]; exact X.same s3, fun b o _ _ _ _ e => e⟩ (fun i σ H4 _ ⟨_, _, _, _, _, _, _, _, _, _, _, _, k4⟩ => SqL.of (k4 _ _ m1 m2 m3 m4 hlq3)) ?_ ?_
    · rintro i y σ H4 hy ⟨t, v3, v4, v5, PS, wks, wf, pks, pf, rfl, ht, X4, k4⟩
      obtain ⟨c, hc, dch⟩ := dcx.mget hy
      have hi : i < cs.length := (List.getElem?_eq_some_iff.mp hc).1
      obtain ⟨b, u1, u2, u3, rfl, hb, hu1, hu2, hu3⟩ := (show Dt H3 y (.tuple [.int c.1, .str c.2.1, eTxt c.2.2]) from dch).t3
      obtain rfl := hu1.int_inv
      obtain ⟨rfl, _⟩ := hu2.str_inv
      obtain rfl := hu3.txt_inv
      have hb4 : H4 b = some (.tup [.int c.1, .str c.2.1, oS c.2.2]) := k4 _ _ (fun z => by rw [z, hix3] at hb; cases hb) (fun z => by rw [z, hca3] at hb; cases hb) (fun z => by rw [z, hpl3] at hb; cases hb) (fun z => by rw [z, hbw3] at hb; cases hb) hb
      obtain ⟨dx4, lt4, ho4⟩ := X4.obj
      refine ⟨_, rfl, I.ix, dx4, _, rfl, ho4, rfl, _, rfl, b, _, _, _, rfl, rfl, SqT.of hb4, atI_nat (j := 0) rfl, _, rfl, b, _, _, _, rfl, rfl, SqT.of hb4, atI_nat (j := 1) rfl, _, rfl, b, _, _, _, rfl, rfl, SqT.of hb4, atI_nat (j := 2) rfl, ?_⟩
      refine ⟨mkI I (cs.take i) PS wks wf pks pf, c, rfl, X4, hokc c (List.mem_of_getElem? hc), by show (cs.take i).length ≤ 8; rw [List.length_take]; omega, fun H5 PS' wks' wf' pks' pf' X5 k5 => ?_⟩
      have X5' : IxP K H5 (mkI I (cs.take (i + 1)) PS' wks' wf' pks' pf') := by
        rw [take_snoc hc]
        exact X5
      have S05 : Same H H5 := fun b o e => by
        have g1 := ne_of_none e nix
        have g2 := ne_of_none e nca
        have g3 := ne_of_none e npl
        have g4 := ne_of_none e nbw
        exact k5 b o g1 g2 g3 g4 (k4 b o g1 g2 g3 g4 (S03 _ _ e))
      have ek : t = ((20 + i : Nat) : Int) := by omega
      refine ⟨_, rfl, _, rfl, a, ns, 20 + i, by rw [ek]; rfl, sql_same ha S05, fun qv H6 qq s6 dq hf hdp hpp => ?_⟩
      have X6 := X5'.same s6
      obtain ⟨dx6, lt6, ho6⟩ := X6.obj
      refine ⟨_, rfl, _, _, rfl, rfl, ?_⟩
      -- the answers
      refine ⟨_, rfl, I.ix, dx6, _, rfl, ho6, rfl, _, rfl, mkI I (cs.take (i + 1)) PS' wks' wf' pks' pf', qv, qq, rfl, X6, dq, hf, hdp, by omega, fun fa H7 ks ft W PL hfa s7 hfa7 hW hP A7 => ?_⟩
      have X7 := X6.same s7
      refine ⟨_, rfl, I.ix, dx6, _, rfl, s7 _ _ ho6, rfl, mkI I (cs.take (i + 1)) PS' wks' wf' pks' pf', rfl, X7, fun sa ca2 H8 hsa s8 S8 => ?_⟩
      obtain ⟨dxs8, eas8, hos8, _⟩ := S8.obj
      refine ⟨sa, dxs8, _, rfl, hos8, rfl, _, rfl, sa, ca2, _, _, qv, qq, rfl, S8, dq.tk (tk_same (s7.trans s8)), hf, hdp, fun ad H9 ks2 ft2 had s9 had9 B9 => ?_⟩
      have s79 := s8.trans s9
      obtain ⟨hkk, hvv⟩ := ans_same X6.sh.ok hW (fine_well hf) hP (A7.tk (tk_same s79)) B9
      have hkl : ks.length = ks2.length := Nat.le_antisymm (nodup_le A7.nd fun k hk => (hkk k).mp hk) (nodup_le B9.nd fun k hk => (hkk k).mpr hk)
      refine ⟨fa, ad, aKvs ks ft, aKvs ks2 ft2, rfl, rfl, s79 _ _ hfa7, had9, by rw [List.length_map, List.length_map, List.length_map, List.length_map, hkl], fun p hp => ?_, _, rfl, iteF ?_⟩
      · obtain ⟨kx, hkx, rfl⟩ := List.mem_map.mp hp
        obtain ⟨k, hk, rfl⟩ := List.mem_map.mp hkx
        obtain ⟨r, d1, d2⟩ := hvv k hk
        exact ⟨_, _, by rw [valV_fn, if_pos (List.mem_map.mpr ⟨k, (hkk k).mp hk, rfl⟩)], d1, d2, depth_ints' r⟩
      have s69 := s7.trans s79
      have X9 := X6.same s69
      have dq9 := dq.tk (tk_same s69)
      -- what is read
      refine ⟨_, rfl, I.ix, dx6, _, rfl, s69 _ _ ho6, rfl, _, rfl, mkI I (cs.take (i + 1)) PS' wks' wf' pks' pf', qv, qq, rfl, X9, dq9, hf, hdp, by omega, fun H10 ww1 s10 hw1 => ?_⟩
      refine ⟨_, rfl, _, rfl, mkI I (cs.take (i + 1)) PS' wks' wf' pks' pf', qv, qq, rfl, X9.same s10, dq9.tk (tk_same s10), hf, hdp, by omega, fun H11 ww2 s11 hw2 => ?_⟩
      refine ⟨rfl, _, rfl, iteN ?_ ?_⟩
      · rw [wanted_len X9 hw1 hw2]
        simp
      have s6b := s69.trans (s10.trans s11)
      have X11 := X6.same s6b
      refine ⟨_, rfl, qv, qq, rfl, dq.tk (tk_same s6b), hdp, by omega, fun pq H12 pxs pl hpq s12 hpq12 dp hmem hpll => ?_⟩
      have s6c := s6b.trans s12
      refine ⟨pq, rfl, ⟨_, SqL.of hpq12⟩, ?_⟩
      refine for_list (K := K) (a := pq) (xs := pxs) (fun j σ H13 => ∃ (v5 : Option V), σ = [some (.ref a), some (.ref I.ix), some (.int (t + 1)), some (.ref b), some qv, v5, none] ∧ Same H12 H13)
        ⟨v5, rfl, Same.refl H12⟩ (fun j σ H13 _ ⟨_, _, s13⟩ => SqL.of (s13 _ _ hpq12)) ?_ ?_
      · rintro j x σ H13 hx ⟨v5', rfl, s13⟩
        obtain ⟨p, hp, dpp⟩ := dp.mget hx
        have s613 := s6c.trans s13
        have X13 := X6.same s613
        have hwl := wks_len X13
        refine ⟨_, rfl, I.ix, dx6, _, rfl, s613 _ _ ho6, rfl, _, rfl, mkI I (cs.take (i + 1)) PS' wks' wf' pks' pf', x, p, rfl, X13, dpp.tk (tk_same s13), Nat.le_trans hwl (by decide), fun fq H14 hfq s14 hfq14 => ?_⟩
        refine ⟨fq, _, rfl, .inl (SqL.of hfq14), fun l2 hl2 => ?_⟩
        have s15 := s14.trans (same_new (o := .lst (((sortS wks').filter fun x => fitsS x p).map V.str)) hl2)
        have hl15 : upd H14 l2 (.lst (((sortS wks').filter fun x => fitsS x p).map V.str)) l2 = some (.lst (((sortS wks').filter fun x => fitsS x p).map V.str)) := upd_same
        generalize upd H14 l2 (.lst (((sortS wks').filter fun x => fitsS x p).map V.str)) = H15 at s15 hl15
        have s615 := s613.trans s15
        refine ⟨_, rfl, I.ix, dx6, _, rfl, s615 _ _ ho6, rfl, mkI I (cs.take (i + 1)) PS' wks' wf' pks' pf', rfl, X6.same s615, fun wq hwq => ?_⟩
        have s16 : Same H15 (upd H15 wq (.lst ((sortS wks').map V.str))) := same_new hwq
        have hw16 : upd H15 wq (.lst ((sortS wks').map V.str)) wq = some (.lst ((sortS wks').map V.str)) := upd_same
        generalize upd H15 wq (.lst ((sortS wks').map V.str)) = H16 at s16 hw16
        refine ⟨wq, rfl, ⟨_, SqL.of hw16⟩, fun D hD => ?_⟩
        refine lc_list (K := K) (a := wq) (xs := (sortS wks').map V.str) (fun m H17 => Same H16 H17 ∧ H17 D = some (.lst ((((sortS wks').take m).filter fun x => fitsS x p).map V.str)))
          ⟨same_new hD, upd_same⟩ (fun m H17 _ ⟨s17, _⟩ => SqL.of (s17 _ _ hw16)) ?_ ?_
        · rintro m v H17 hv ⟨s17, hD17⟩
          obtain ⟨z, hz, rfl⟩ := str_at1 hv
          have et := take_snoc hz
          refine ⟨rfl, ?_⟩
          refine ⟨_, rfl, _, rfl, z, x, p, rfl, (dpp.tk (tk_same s13)).tk (tk_same (s15.trans (s16.trans s17))), _, rfl, ?_⟩
          refine ite2 (fun cc => ?_) (fun cc => ?_)
          · have ef : [z].filter (fun x => fitsS x p) = [z] := by rw [List.filter_cons, if_pos cc]; rfl
            refine ⟨_, rfl, _, hD17, ?_, fun b o e => by rw [upd_ne (ne_of_none e hD)]; exact s17 _ _ e, ?_⟩
            · rw [List.length_map]
              refine small1000 (Nat.le_trans (List.length_filter_le _ _) ?_)
              have h1 : (sortS wks').length = wks'.length := List.length_mergeSort _
              have h2 : wks'.length ≤ 549 := hwl
              rw [List.length_take]; omega
            · rw [upd_same, et, List.filter_append, ef, List.map_append]
              rfl
          · have ef : [z].filter (fun x => fitsS x p) = [] := by rw [List.filter_cons, if_neg cc]; rfl
            refine ⟨s17, ?_⟩
            rw [hD17, et, List.filter_append, ef, List.append_nil]
        · rintro H17 ⟨s17, hD17⟩
          rw [List.length_map, List.take_length] at hD17
          have s1517 := s16.trans s17
          have hok : ∀ z ∈ (sortS wks').filter (fun x => fitsS x p), PyData.strOk z = true := fun z hz => wks_ok X13 z ((sortS_perm _).mem_iff.mp (List.mem_filter.mp hz).1)
          refine ⟨l2, D, _, _, _, rfl, rfl, SqL.of (s1517 _ _ hl15), SqL.of hD17, dtAll_strs hok, dtAll_strs hok, fun d hd => ?_, _, rfl, iteF ?_⟩
          · obtain ⟨z, _, rfl⟩ := List.mem_map.mp hd
            exact Nat.zero_le _
          · exact ⟨_, rfl, s13.trans (s15.trans s1517)⟩
      · rintro σ H13 ⟨v5', rfl, s13⟩
        have s513 := s6.trans (s6c.trans s13)
        exact ⟨t + 1, _, _, _, PS', wks', wf', pks', pf', rfl, by omega, X5'.same s513, fun b o g1 g2 g3 g4 e => s513 _ _ (k5 b o g1 g2 g3 g4 (k4 b o g1 g2 g3 g4 e))⟩
    · rintro σ H4 ⟨t, v3, v4, v5, PS, wks, wf, pks, pf, rfl, ht, X4, k4⟩
      exact q _
end
end Tsf
/-! the end -/
namespace Tsf
open PySem PySem.Spec PyProof.Rows L2
theorem law_facts {P : Program} {w : World} {K : PySem.W.Frag} {h : Heap} {mg : Str → Option Value} {f : Addr} (X : K.In h) (G : h.Ns mainGlobals mg) (hfa : mg ("law" : Str) = some (.ref f)) (c : He.SaysD fa fn K) :
    ∃ fd : FuncData, (∀ (s : Shared) (v : Value), BindsTo s fd ⟨[v], []⟩ [("_law_script", v)]) ∧ ∀ base : Heap, K.In base → base.Ns mainGlobals mg → FnOk P w K mg base CX0 11 f fd ["_law_script"] (spLaw (K := K)) := by
  have T := tx_of X G c
  obtain ⟨fd, F⟩ := T.d_law
  have e := hfa.symm.trans T.g_law
  cases e
  have b := FunD.bindsA (ps := ["_law_script"]) F fun _ _ _ _ _ _ us hl => match us, hl with | [_], _ => rfl
  exact ⟨fd, fun s v => b s [v] rfl, fun base _ _ => law_ok T F⟩
end Tsf
open PySem PySem.W PySem.Calls PyProof.Rows
theorem PySem.Challenge.cw_timeshelf_k35_whole_index_answers_holds : PySem.Challenge.rw_timeshelf_k35_whole_index_answers.Holds := by
  w_on; o_law
  refine HandSHeadRun.head_any (r := Tsf.R) (q := view Tsf.R.prog [64]) (H := Tsf.hk) (ob := Tsf.ob) (M := 6000) (loose := Tsf.loose) (d := HandSHeadRun.topDef Tsf.R.prog 64) (kwd := []) Tsf.ob_eq
    (by kernel_rfl) (fun s => by kernel_rfl) Tsf.run (by kernel_rfl) (by kernel_rfl) (by kernel_rfl) (by rfl) (by first | assumption | decide +kernel) (by decide +kernel) ⟨rfl, rfl, rfl, rfl, rfl, by decide +kernel⟩ ?hw ?hc
  case hw => w_witness2
  case hc =>
    refine L2.walk_ofE (l := PySem.Challenge.rw_timeshelf_k35_whole_index_answers) (n := 63) (k := 11) (x := "_law_script") (CX := L2.CX0) rfl (by decide) (by kernel_rfl) ⟨rfl, by decide, by decide⟩ ?F (fun _ _ _ _ z => z)
    intro w mg fa h Y G hmg0
    obtain ⟨K, KX, c⟩ := Y
    have hmg : mg ("law" : PySem.Str) = some (.ref fa) := by
      have e : (HandSHeadRun.topDef Tsf.R.prog 64).name = ("law" : PySem.Str) := by kernel_rfl
      rw [← e]
      exact hmg0
    obtain ⟨fd, hb, hF⟩ := Tsf.law_facts (P := (PySem.Challenge.rw_timeshelf_k35_whole_index_answers).prog) (w := w) KX G hmg c
    exact ⟨K, fd, Tsf.spLaw (K := K), KX, hb, fun H a ns hl _ hS => ⟨a, ns, rfl, hS, fun _ => rfl⟩, hF⟩
