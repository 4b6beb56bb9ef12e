import PyProof.Rows.All
import Wide.All
import OpenK.AllK
import Wide.FinOn
import HandS.ForMost
import HandS.Deep
import HandS.TupAny
import HandS.SortInts
import HandS.IsInst
import HandS.Star
import HandS.WideBits
import HandS.Zip
import HandS.TupMul
import HandS.Walk
import HandS.Conv
import KE.GoesEnum
import KE.GoesMore
import KE.KDictKeyed
import PyProof.ReprRoads
import KE.KSortTup
import PyProof.SeqIndex
import KE.KDictDisplayH
import KE.GoesComp
import PyProof.Rows.TupTab
import PyProof.ReprLen
import PySem.Challenge.RW_trialground_k31_whole_pieces_told_from_o
/-! K31: runs, effects, words, pieces: the plain mathematics of the law. Core Lean alone. -/
set_option linter.all false
namespace K31

/-! ### sorting, orders -/
/-- the order of tuples of whole numbers -/
def lexLt : List Int → List Int → Bool
  | _, [] => false
  | [], _ :: _ => true
  | a :: as, b :: bs => if a = b then lexLt as bs else decide (a < b)
def ins {α : Type} (lt : α → α → Bool) (x : α) : List α → List α
  | [] => [x]
  | y :: ys => if lt y x then y :: ins lt x ys else x :: y :: ys
def isort {α : Type} (lt : α → α → Bool) : List α → List α
  | [] => []
  | x :: xs => ins lt x (isort lt xs)
def ltI (a b : Int) : Bool := decide (a < b)

theorem lexLt_irrefl : ∀ a : List Int, lexLt a a = false
  | [] => rfl
  | a :: as => by simp [lexLt, lexLt_irrefl as]
theorem lexLt_trans : ∀ {a b c : List Int}, lexLt a b = true → lexLt b c = true → lexLt a c = true
  | _, [], _, h, _ => by cases ‹List Int› <;> simp [lexLt] at h
  | _, _ :: _, [], _, h => by simp [lexLt] at h
  | [], _ :: _, _ :: _, _, _ => by simp [lexLt]
  | a :: as, b :: bs, c :: cs, h1, h2 => by
    simp only [lexLt] at h1 h2 ⊢
    by_cases e1 : a = b
    · subst e1
      rw [if_pos rfl] at h1
      by_cases e2 : a = c
      · subst e2
        rw [if_pos rfl] at h2 ⊢
        exact lexLt_trans h1 h2
      · rw [if_neg e2] at h2 ⊢
        exact h2
    · rw [if_neg e1] at h1
      have l1 : a < b := of_decide_eq_true h1
      by_cases e2 : b = c
      · subst e2
        rw [if_neg e1]
        exact h1
      · rw [if_neg e2] at h2
        have l2 : b < c := of_decide_eq_true h2
        have : a ≠ c := by omega
        rw [if_neg this]
        exact decide_eq_true (by omega)
theorem lexLt_tri : ∀ {a b : List Int}, lexLt a b = false → lexLt b a = false → a = b
  | [], [], _, _ => rfl
  | [], _ :: _, h, _ => by simp [lexLt] at h
  | _ :: _, [], _, h => by simp [lexLt] at h
  | a :: as, b :: bs, h1, h2 => by
    simp only [lexLt] at h1 h2
    by_cases e : a = b
    · subst e
      rw [if_pos rfl] at h1 h2
      rw [lexLt_tri h1 h2]
    · rw [if_neg e] at h1
      rw [if_neg (fun z => e z.symm)] at h2
      have l1 := of_decide_eq_false h1
      have l2 := of_decide_eq_false h2
      omega

/-- a strict total order -/
structure Sto {α : Type} (lt : α → α → Bool) : Prop where
  irr : ∀ a, lt a a = false
  tr : ∀ {a b c}, lt a b = true → lt b c = true → lt a c = true
  tri : ∀ {a b}, lt a b = false → lt b a = false → a = b
theorem sto_lex : Sto lexLt := ⟨lexLt_irrefl, lexLt_trans, lexLt_tri⟩
theorem sto_int : Sto ltI := ⟨fun a => by simp [ltI], fun h1 h2 => by simp [ltI] at *; omega, fun h1 h2 => by simp [ltI] at *; omega⟩

section
variable {α : Type} {lt : α → α → Bool}
theorem ins_perm (x : α) : ∀ l : List α, (ins lt x l).Perm (x :: l)
  | [] => List.Perm.refl _
  | y :: ys => by
    unfold ins
    split
    · exact (List.Perm.cons y (ins_perm x ys)).trans (List.Perm.swap x y ys)
    · exact List.Perm.refl _
theorem isort_perm : ∀ l : List α, (isort lt l).Perm l
  | [] => List.Perm.refl _
  | x :: xs => (ins_perm x _).trans (List.Perm.cons x (isort_perm xs))
/-- none is less than one before it -/
abbrev Srt (lt : α → α → Bool) (l : List α) : Prop := l.Pairwise fun a b => lt b a = false
theorem ins_srt (O : Sto lt) (x : α) : ∀ l : List α, Srt lt l → Srt lt (ins lt x l)
  | [], _ => List.pairwise_singleton _ _
  | y :: ys, h => by
    have hy := List.pairwise_cons.mp h
    unfold ins
    split
    · rename_i c
      refine List.pairwise_cons.mpr ⟨fun z hz => ?_, ins_srt O x ys hy.2⟩
      rcases List.mem_cons.mp ((ins_perm x ys).mem_iff.mp hz) with rfl | hz
      · cases e : lt z y with
        | false => rfl
        | true =>
          have := O.tr c e
          rw [O.irr] at this
          cases this
      · exact hy.1 z hz
    · rename_i c
      have c' : lt y x = false := by simpa using c
      refine List.pairwise_cons.mpr ⟨fun z hz => ?_, h⟩
      rcases List.mem_cons.mp hz with rfl | hz
      · exact c'
      · cases e : lt z x with
        | false => rfl
        | true =>
          have q := hy.1 z hz
          -- y ≤ z < x and not y < x
          cases e2 : lt y z with
          | true =>
            have := O.tr e2 e
            rw [c'] at this
            cases this
          | false =>
            have : y = z := O.tri e2 q
            subst this
            rw [c'] at e
            cases e
theorem isort_srt (O : Sto lt) : ∀ l : List α, Srt lt (isort lt l)
  | [] => List.Pairwise.nil
  | x :: xs => ins_srt O x _ (isort_srt O xs)
theorem srt_unique (O : Sto lt) : ∀ {l m : List α}, l.Perm m → Srt lt l → Srt lt m → l = m
  | [], m, p, _, _ => p.nil_eq
  | x :: xs, [], p, _, _ => absurd p.symm.nil_eq (by simp)
  | x :: xs, y :: ys, p, h1, h2 => by
    have e : x = y := by
      have a1 := List.pairwise_cons.mp h1
      have a2 := List.pairwise_cons.mp h2
      have mx : x ∈ y :: ys := p.mem_iff.mp List.mem_cons_self
      have my : y ∈ x :: xs := p.mem_iff.mpr List.mem_cons_self
      rcases List.mem_cons.mp mx with rfl | mx
      · rfl
      · rcases List.mem_cons.mp my with rfl | my
        · rfl
        · exact O.tri (a2.1 x mx |> fun q => q) (a1.1 y my) |> fun q => q
    subst e
    rw [srt_unique O (List.Perm.cons_inv p) (List.pairwise_cons.mp h1).2 (List.pairwise_cons.mp h2).2]
theorem isort_eq (O : Sto lt) {l m : List α} (p : l.Perm m) (h : Srt lt l) : l = isort lt m := srt_unique O (p.trans (isort_perm m).symm) h (isort_srt O m)
theorem isort_congr (O : Sto lt) {l m : List α} (p : l.Perm m) : isort lt l = isort lt m := isort_eq O ((isort_perm l).trans p) (isort_srt O l)
theorem isort_of_srt (O : Sto lt) {l : List α} (h : Srt lt l) : isort lt l = l := (isort_eq O (List.Perm.refl l) h).symm
theorem isort_length (l : List α) : (isort lt l).length = l.length := (isort_perm l).length_eq
end

/-! ### lists without repetition -/
theorem sub_len {α : Type} [DecidableEq α] : ∀ {l m : List α}, l.Nodup → (∀ x ∈ l, x ∈ m) → l.length ≤ m.length
  | [], m, _, _ => Nat.zero_le _
  | x :: xs, m, h, s => by
    have hx := List.nodup_cons.mp h
    have mx : x ∈ m := s x List.mem_cons_self
    have := sub_len (l := xs) (m := m.erase x) hx.2 (fun y hy => (List.mem_erase_of_ne (fun e => hx.1 (by rw [← e]; exact hy))).mpr (s y (List.mem_cons_of_mem _ hy)))
    rw [List.length_erase_of_mem mx] at this
    have : 0 < m.length := List.length_pos_of_mem mx
    simp only [List.length_cons]
    omega
theorem sub_perm {α : Type} [DecidableEq α] : ∀ {l m : List α}, l.Nodup → (∀ x ∈ l, x ∈ m) → m.length ≤ l.length → l.Perm m
  | [], m, _, _, h => by
    have : m = [] := List.eq_nil_of_length_eq_zero (by simpa using h)
    subst this
    exact List.Perm.refl _
  | x :: xs, m, h, s, hl => by
    have hx := List.nodup_cons.mp h
    have mx : x ∈ m := s x List.mem_cons_self
    have p := sub_perm (l := xs) (m := m.erase x) hx.2 (fun y hy => (List.mem_erase_of_ne (fun e => hx.1 (by rw [← e]; exact hy))).mpr (s y (List.mem_cons_of_mem _ hy))) (by
      rw [List.length_erase_of_mem mx]
      simp only [List.length_cons] at hl
      omega)
    exact (List.Perm.cons x p).trans (List.perm_cons_erase mx).symm

/-! ### effects -/
def rng (n : Nat) : List Int := (List.range n).map fun (i : Nat) => (i : Int)
structure IsEff (n : Nat) (e : List Int) : Prop where
  asc : e.Pairwise (· < ·)
  lo : ∀ x ∈ e, 0 ≤ x
  hi : ∀ x ∈ e, x < (n : Int)
theorem asc_ext : ∀ {l m : List Int}, l.Pairwise (· < ·) → m.Pairwise (· < ·) → (∀ x, x ∈ l ↔ x ∈ m) → l = m
  | [], [], _, _, _ => rfl
  | [], y :: ys, _, _, h => absurd ((h y).mpr List.mem_cons_self) (by simp)
  | x :: xs, [], _, _, h => absurd ((h x).mp List.mem_cons_self) (by simp)
  | x :: xs, y :: ys, h1, h2, h => by
    have a1 := List.pairwise_cons.mp h1
    have a2 := List.pairwise_cons.mp h2
    have e : x = y := by
      rcases List.mem_cons.mp ((h x).mp List.mem_cons_self) with e | m1
      · exact e
      · rcases List.mem_cons.mp ((h y).mpr List.mem_cons_self) with e | m2
        · exact e.symm
        · have := a2.1 x m1
          have := a1.1 y m2
          omega
    subst e
    rw [asc_ext a1.2 a2.2 fun z => ?_]
    constructor
    · intro hz
      rcases List.mem_cons.mp ((h z).mp (List.mem_cons_of_mem _ hz)) with e | m
      · have := a1.1 z hz
        omega
      · exact m
    · intro hz
      rcases List.mem_cons.mp ((h z).mpr (List.mem_cons_of_mem _ hz)) with e | m
      · have := a2.1 z hz
        omega
      · exact m
theorem asc_nodup {l : List Int} (h : l.Pairwise (· < ·)) : l.Nodup := h.imp fun {a b} z e => by omega
theorem mem_rng {n : Nat} {x : Int} : x ∈ rng n ↔ 0 ≤ x ∧ x < (n : Int) := by
  unfold rng
  rw [List.mem_map]
  constructor
  · rintro ⟨i, hi, rfl⟩
    have := List.mem_range.mp hi
    omega
  · rintro ⟨h1, h2⟩
    exact ⟨x.toNat, List.mem_range.mpr (by omega), by omega⟩
theorem rng_asc (n : Nat) : (rng n).Pairwise (· < ·) := by
  unfold rng
  rw [List.pairwise_map]
  exact List.pairwise_lt_range.imp fun h => by omega
theorem IsEff.nil (n : Nat) : IsEff n [] := ⟨List.Pairwise.nil, fun _ h => by simp at h, fun _ h => by simp at h⟩
theorem IsEff.mem_rng {n : Nat} {e : List Int} (h : IsEff n e) {x : Int} (hx : x ∈ e) : x ∈ rng n := K31.mem_rng.mpr ⟨h.lo x hx, h.hi x hx⟩
theorem effOf_isEff (n : Nat) (p : Int → Bool) : IsEff n ((rng n).filter p) :=
  ⟨(rng_asc n).filter p, fun x hx => (mem_rng.mp (List.mem_filter.mp hx).1).1, fun x hx => (mem_rng.mp (List.mem_filter.mp hx).1).2⟩
theorem IsEff.ext {n : Nat} {e f : List Int} (h1 : IsEff n e) (h2 : IsEff n f) (h : ∀ x, x ∈ e ↔ x ∈ f) : e = f := asc_ext h1.asc h2.asc h
theorem IsEff.eq_filter {n : Nat} {e : List Int} (h : IsEff n e) : e = (rng n).filter fun i => decide (i ∈ e) :=
  h.ext (effOf_isEff n _) fun x => ⟨fun hx => List.mem_filter.mpr ⟨h.mem_rng hx, decide_eq_true hx⟩, fun hx => of_decide_eq_true (List.mem_filter.mp hx).2⟩

/-- the odd lot of two effects -/
def oddRaw (e f : List Int) : List Int := (e ++ f).filter fun i => (decide (i ∈ e)) != (decide (i ∈ f))
def odd (e f : List Int) : List Int := isort ltI (oddRaw e f)
theorem mem_oddRaw {e f : List Int} {x : Int} : x ∈ oddRaw e f ↔ ¬ (x ∈ e ↔ x ∈ f) := by
  unfold oddRaw
  rw [List.mem_filter, List.mem_append]
  by_cases h1 : x ∈ e <;> by_cases h2 : x ∈ f <;> simp [h1, h2]
theorem mem_odd {e f : List Int} {x : Int} : x ∈ odd e f ↔ ¬ (x ∈ e ↔ x ∈ f) := ((isort_perm _).mem_iff).trans mem_oddRaw
theorem oddRaw_nodup {e f : List Int} (h1 : e.Nodup) (h2 : f.Nodup) : (oddRaw e f).Nodup := by
  unfold oddRaw
  rw [List.filter_append]
  refine List.nodup_append.mpr ⟨h1.filter _, h2.filter _, fun a ha b hb => ?_⟩
  rintro rfl
  have a1 := List.mem_filter.mp ha
  have b1 := List.mem_filter.mp hb
  simp [a1.1, b1.1] at a1
theorem srt_asc {l : List Int} (h : Srt ltI l) (hn : l.Nodup) : l.Pairwise (· < ·) := by
  refine (List.Pairwise.and h hn).imp fun {a b} z => ?_
  have : ¬ b < a := by simpa [ltI] using z.1
  have := z.2
  omega
theorem asc_srt {l : List Int} (h : l.Pairwise (· < ·)) : Srt ltI l := h.imp fun {a b} z => by simp [ltI]; omega
theorem odd_isEff {n : Nat} {e f : List Int} (h1 : IsEff n e) (h2 : IsEff n f) : IsEff n (odd e f) := by
  refine ⟨srt_asc (isort_srt sto_int _) (((isort_perm _).nodup_iff).mpr (oddRaw_nodup (asc_nodup h1.asc) (asc_nodup h2.asc))), fun x hx => ?_, fun x hx => ?_⟩
  all_goals
    have hm := mem_odd.mp hx
    by_cases q : x ∈ e
    · first | exact h1.lo x q | exact h1.hi x q
    · by_cases q2 : x ∈ f
      · first | exact h2.lo x q2 | exact h2.hi x q2
      · exact absurd (by simp [q, q2]) hm
section
variable {n : Nat} {e f g : List Int}
theorem odd_comm (h1 : IsEff n e) (h2 : IsEff n f) : odd e f = odd f e := (odd_isEff h1 h2).ext (odd_isEff h2 h1) fun x => by
  rw [mem_odd, mem_odd]
  by_cases a : x ∈ e <;> by_cases b : x ∈ f <;> simp [a, b]
theorem odd_assoc (h1 : IsEff n e) (h2 : IsEff n f) (h3 : IsEff n g) : odd (odd e f) g = odd e (odd f g) := (odd_isEff (odd_isEff h1 h2) h3).ext (odd_isEff h1 (odd_isEff h2 h3)) fun x => by
  rw [mem_odd, mem_odd, mem_odd, mem_odd]
  by_cases a : x ∈ e <;> by_cases b : x ∈ f <;> by_cases c : x ∈ g <;> simp [a, b, c]
theorem odd_self (h1 : IsEff n e) : odd e e = [] := (odd_isEff h1 h1).ext (.nil n) fun x => by
  rw [mem_odd]
  simp
theorem odd_nil (h1 : IsEff n e) : odd e [] = e := (odd_isEff h1 (.nil n)).ext h1 fun x => by
  rw [mem_odd]
  by_cases a : x ∈ e <;> simp [a]
theorem nil_odd (h1 : IsEff n e) : odd [] e = e := by rw [odd_comm (.nil n) h1, odd_nil h1]
theorem odd_back (h1 : IsEff n e) (h2 : IsEff n f) : odd (odd e f) f = e := by rw [odd_assoc h1 h2 h2, odd_self h2, odd_nil h1]
theorem odd_inj (h1 : IsEff n e) (h2 : IsEff n f) (h3 : IsEff n g) (h : odd e g = odd f g) : e = f := by
  rw [← odd_back h1 h3, h, odd_back h2 h3]
theorem odd_eq_nil (h1 : IsEff n e) (h2 : IsEff n f) (h : odd e f = []) : e = f := by
  have := odd_back h1 h2
  rw [h, nil_odd h2] at this
  exact this.symm
end

/-! ### signs -/
def sgn (r e : List Int) : Int := e.foldl (fun a i => a * r.getD i.toNat 0) 1
def pr (l : List Int) (f : Int → Int) : Int := l.foldr (fun i a => f i * a) 1
theorem foldl_pr (f : Int → Int) : ∀ (l : List Int) (c : Int), l.foldl (fun a i => a * f i) c = c * pr l f
  | [], c => by simp [pr]
  | x :: xs, c => by
    rw [List.foldl_cons, foldl_pr f xs]
    show c * f x * pr xs f = c * (f x * pr xs f)
    rw [Int.mul_assoc]
theorem sgn_pr (r e : List Int) : sgn r e = pr e fun i => r.getD i.toNat 0 := by
  unfold sgn
  rw [foldl_pr, Int.one_mul]
theorem pr_filter (p : Int → Bool) (f : Int → Int) : ∀ l : List Int, pr (l.filter p) f = pr l fun i => if p i then f i else 1
  | [] => rfl
  | x :: xs => by
    rw [List.filter_cons]
    have ih := pr_filter p f xs
    by_cases h : p x = true
    · rw [if_pos h]
      show f x * pr (xs.filter p) f = (if p x = true then f x else 1) * pr xs _
      rw [if_pos h, ih]
    · rw [if_neg h]
      show pr (xs.filter p) f = (if p x = true then f x else 1) * pr xs _
      rw [if_neg h, ih, Int.one_mul]
theorem pr_mul (f g : Int → Int) : ∀ l : List Int, pr l f * pr l g = pr l fun i => f i * g i
  | [] => rfl
  | x :: xs => by
    show (f x * pr xs f) * (g x * pr xs g) = f x * g x * pr xs _
    rw [← pr_mul f g xs]
    generalize pr xs f = a
    generalize pr xs g = b
    rw [Int.mul_assoc, Int.mul_assoc, ← Int.mul_assoc a, Int.mul_comm a, Int.mul_assoc]
theorem pr_congr {f g : Int → Int} : ∀ {l : List Int}, (∀ x ∈ l, f x = g x) → pr l f = pr l g
  | [], _ => rfl
  | x :: xs, h => by
    show f x * pr xs f = g x * pr xs g
    rw [h x List.mem_cons_self, pr_congr fun y hy => h y (List.mem_cons_of_mem _ hy)]

structure IsRun (n : Nat) (r : List Int) : Prop where
  len : r.length = n
  pm : ∀ x ∈ r, x = 1 ∨ x = -1
theorem IsRun.at {n : Nat} {r : List Int} (h : IsRun n r) {i : Int} (h0 : 0 ≤ i) (h1 : i < (n : Int)) : r.getD i.toNat 0 = 1 ∨ r.getD i.toNat 0 = -1 := by
  have hl : i.toNat < r.length := by rw [h.len]; omega
  rw [List.getD_eq_getElem?_getD, List.getElem?_eq_getElem hl]
  exact h.pm _ (List.getElem_mem hl)
theorem pm_sq {x : Int} (h : x = 1 ∨ x = -1) : x * x = 1 := by rcases h with rfl | rfl <;> rfl
theorem pm_mul {x y : Int} (h : x = 1 ∨ x = -1) (h2 : y = 1 ∨ y = -1) : x * y = 1 ∨ x * y = -1 := by
  rcases h with rfl | rfl <;> rcases h2 with rfl | rfl <;> decide
theorem pr_pm {f : Int → Int} : ∀ {l : List Int}, (∀ x ∈ l, f x = 1 ∨ f x = -1) → pr l f = 1 ∨ pr l f = -1
  | [], _ => .inl rfl
  | x :: xs, h => pm_mul (h x List.mem_cons_self) (pr_pm fun y hy => h y (List.mem_cons_of_mem _ hy))
theorem sgn_pm {n : Nat} {r e : List Int} (h : IsRun n r) (he : IsEff n e) : sgn r e = 1 ∨ sgn r e = -1 := by
  rw [sgn_pr]
  exact pr_pm fun x hx => h.at (he.lo x hx) (he.hi x hx)
theorem sgn_nil (r : List Int) : sgn r [] = 1 := rfl
theorem sgn_odd {n : Nat} {r e f : List Int} (h : IsRun n r) (h1 : IsEff n e) (h2 : IsEff n f) : sgn r (odd e f) = sgn r e * sgn r f := by
  have e0 : odd e f = (rng n).filter fun i => (decide (i ∈ e)) != (decide (i ∈ f)) := (odd_isEff h1 h2).ext (effOf_isEff n _) fun x => by
    rw [mem_odd, List.mem_filter]
    by_cases a : x ∈ e <;> by_cases b : x ∈ f <;> simp [a, b]
    · exact h1.mem_rng a
    · exact h2.mem_rng b
  rw [e0, h1.eq_filter, h2.eq_filter, sgn_pr, sgn_pr, sgn_pr, pr_filter, pr_filter, pr_filter, pr_mul]
  refine pr_congr fun x hx => ?_
  have hx' := mem_rng.mp hx
  have sq := pm_sq (h.at hx'.1 hx'.2)
  simp only [← h1.eq_filter, ← h2.eq_filter]
  by_cases a : x ∈ e <;> by_cases b : x ∈ f <;> simp [a, b]
  exact sq.symm

/-! ### the product of runs -/
def mul (a b : List Int) : List Int := List.zipWith (· * ·) a b
def prod3 (a b c : List Int) : List Int := mul (mul a b) c
theorem mul_isRun {n : Nat} {a b : List Int} (h1 : IsRun n a) (h2 : IsRun n b) : IsRun n (mul a b) := by
  refine ⟨by unfold mul; rw [List.length_zipWith, h1.len, h2.len, Nat.min_self], fun x hx => ?_⟩
  unfold mul at hx
  rw [List.mem_iff_getElem] at hx
  obtain ⟨i, hi, rfl⟩ := hx
  rw [List.getElem_zipWith]
  exact pm_mul (h1.pm _ (List.getElem_mem _)) (h2.pm _ (List.getElem_mem _))
theorem prod3_isRun {n : Nat} {a b c : List Int} (h1 : IsRun n a) (h2 : IsRun n b) (h3 : IsRun n c) : IsRun n (prod3 a b c) := mul_isRun (mul_isRun h1 h2) h3
theorem mul_at {n : Nat} {a b : List Int} (h1 : IsRun n a) (h2 : IsRun n b) {i : Nat} (hi : i < n) : (mul a b).getD i 0 = a.getD i 0 * b.getD i 0 := by
  have l1 : i < a.length := by rw [h1.len]; exact hi
  have l2 : i < b.length := by rw [h2.len]; exact hi
  unfold mul
  simp [List.getD_eq_getElem?_getD, List.getElem?_zipWith, List.getElem?_eq_getElem l1, List.getElem?_eq_getElem l2]
theorem sgn_mul {n : Nat} {a b e : List Int} (h1 : IsRun n a) (h2 : IsRun n b) (he : IsEff n e) : sgn (mul a b) e = sgn a e * sgn b e := by
  rw [sgn_pr, sgn_pr, sgn_pr, pr_mul]
  refine pr_congr fun x hx => mul_at h1 h2 ?_
  have := he.lo x hx
  have := he.hi x hx
  omega
theorem run_ext {n : Nat} {a b : List Int} (h1 : IsRun n a) (h2 : IsRun n b) (h : ∀ i, i < n → a.getD i 0 = b.getD i 0) : a = b := by
  refine List.ext_getElem (h1.len.trans h2.len.symm) fun i l1 l2 => ?_
  have := h i (by rw [← h1.len]; exact l1)
  simpa [List.getD_eq_getElem?_getD, List.getElem?_eq_getElem l1, List.getElem?_eq_getElem l2] using this
theorem getD_pm {n : Nat} {a : List Int} (h : IsRun n a) {i : Nat} (hi : i < n) : a.getD i 0 = 1 ∨ a.getD i 0 = -1 := by
  have := h.at (i := (i : Int)) (by omega) (by omega)
  simpa using this
theorem mul_self {n : Nat} {a : List Int} (h : IsRun n a) : mul a a = List.replicate n 1 := by
  have h1 : IsRun n (List.replicate n 1) := ⟨List.length_replicate, fun x hx => .inl (List.eq_of_mem_replicate hx)⟩
  refine run_ext (mul_isRun h h) h1 fun i hi => ?_
  rw [mul_at h h hi, pm_sq (getD_pm h hi)]
  simp [List.getD_eq_getElem?_getD, List.getElem?_replicate, hi]
theorem mul_comm {n : Nat} {a b : List Int} (h1 : IsRun n a) (h2 : IsRun n b) : mul a b = mul b a := run_ext (mul_isRun h1 h2) (mul_isRun h2 h1) fun i hi => by
  rw [mul_at h1 h2 hi, mul_at h2 h1 hi, Int.mul_comm]
theorem mul_assoc {n : Nat} {a b c : List Int} (h1 : IsRun n a) (h2 : IsRun n b) (h3 : IsRun n c) : mul (mul a b) c = mul a (mul b c) := run_ext (mul_isRun (mul_isRun h1 h2) h3) (mul_isRun h1 (mul_isRun h2 h3)) fun i hi => by
  rw [mul_at (mul_isRun h1 h2) h3 hi, mul_at h1 h2 hi, mul_at h1 (mul_isRun h2 h3) hi, mul_at h2 h3 hi, Int.mul_assoc]
theorem ones_isRun (n : Nat) : IsRun n (List.replicate n 1) := ⟨List.length_replicate, fun x hx => .inl (List.eq_of_mem_replicate hx)⟩
theorem mul_ones {n : Nat} {a : List Int} (h : IsRun n a) : mul a (List.replicate n 1) = a := run_ext (mul_isRun h (ones_isRun n)) h fun i hi => by
  rw [mul_at h (ones_isRun n) hi]
  simp [List.getD_eq_getElem?_getD, List.getElem?_replicate, hi]
theorem ones_mul {n : Nat} {a : List Int} (h : IsRun n a) : mul (List.replicate n 1) a = a := by rw [mul_comm (ones_isRun n) h, mul_ones h]
theorem mul_back {n : Nat} {a b : List Int} (h1 : IsRun n a) (h2 : IsRun n b) : mul (mul a b) b = a := by rw [mul_assoc h1 h2 h2, mul_self h2, mul_ones h1]
theorem mul_eq_ones {n : Nat} {a b : List Int} (h1 : IsRun n a) (h2 : IsRun n b) (h : mul a b = List.replicate n 1) : a = b := by
  have := mul_back h1 h2
  rw [h, ones_mul h2] at this
  exact this.symm
end K31
/-! K31: pieces, fixed words, closed plans: the core theorem. Core Lean alone. -/
set_option linter.all false
set_option Elab.async false
set_option maxRecDepth 100000
namespace K31

/-! ### all runs, all effects -/
def choices : Nat → List (List Int)
  | 0 => [[]]
  | k + 1 => choices k ++ (choices k).map fun e => e ++ [(k : Int)]
def allRuns : Nat → List (List Int)
  | 0 => [[]]
  | k + 1 => (allRuns k).flatMap fun r => [r ++ [-1], r ++ [1]]
def allEff (n : Nat) : List (List Int) := isort lexLt (choices n)

theorem mem_dl {α : Type} {x : α} {l : List α} (h : x ∈ l.dropLast) : x ∈ l := (List.dropLast_sublist l).subset h
theorem isRun_nil : IsRun 0 [] := ⟨rfl, fun _ h => by simp at h⟩
theorem mem_allRuns : ∀ {n : Nat} {r : List Int}, r ∈ allRuns n ↔ IsRun n r
  | 0, r => by
    show r ∈ [[]] ↔ _
    rw [List.mem_singleton]
    exact ⟨fun e => by rw [e]; exact isRun_nil, fun h => List.eq_nil_of_length_eq_zero h.len⟩
  | n + 1, r => by
    show r ∈ (allRuns n).flatMap _ ↔ _
    rw [List.mem_flatMap]
    constructor
    · rintro ⟨q, hq, hr⟩
      have hq' := mem_allRuns.mp hq
      have : r = q ++ [-1] ∨ r = q ++ [1] := by simpa using hr
      rcases this with rfl | rfl
      · exact ⟨by simp [hq'.len], fun x hx => by
          rcases List.mem_append.mp hx with h | h
          · exact hq'.pm x h
          · exact .inr (by simpa using h)⟩
      · exact ⟨by simp [hq'.len], fun x hx => by
          rcases List.mem_append.mp hx with h | h
          · exact hq'.pm x h
          · exact .inl (by simpa using h)⟩
    · intro h
      have hne : r ≠ [] := fun e => by have := h.len; rw [e] at this; simp at this
      refine ⟨r.dropLast, mem_allRuns.mpr ⟨by rw [List.length_dropLast, h.len]; rfl, fun x hx => h.pm x (mem_dl hx)⟩, ?_⟩
      have e := List.dropLast_concat_getLast hne
      rcases h.pm _ (List.getLast_mem hne) with q | q
      · rw [q] at e
        simp only [List.mem_cons]
        exact .inr (.inl e.symm)
      · rw [q] at e
        simp only [List.mem_cons]
        exact .inl e.symm
theorem mem_choices : ∀ {n : Nat} {e : List Int}, e ∈ choices n ↔ IsEff n e
  | 0, e => by
    show e ∈ [[]] ↔ _
    rw [List.mem_singleton]
    refine ⟨fun q => by rw [q]; exact .nil 0, fun h => ?_⟩
    cases e with
    | nil => rfl
    | cons x xs =>
      have := h.lo x List.mem_cons_self
      have := h.hi x List.mem_cons_self
      omega
  | n + 1, e => by
    show e ∈ choices n ++ (choices n).map _ ↔ _
    rw [List.mem_append, List.mem_map]
    constructor
    · rintro (h | ⟨f, hf, rfl⟩)
      · have h := mem_choices.mp h
        exact ⟨h.asc, h.lo, fun x hx => by have := h.hi x hx; omega⟩
      · have h := mem_choices.mp hf
        refine ⟨List.pairwise_append.mpr ⟨h.asc, List.pairwise_singleton _ _, fun a ha b hb => ?_⟩, fun x hx => ?_, fun x hx => ?_⟩
        · have := h.hi a ha
          have : b = (n : Int) := by simpa using hb
          omega
        · rcases List.mem_append.mp hx with q | q
          · exact h.lo x q
          · have : x = (n : Int) := by simpa using q
            omega
        · rcases List.mem_append.mp hx with q | q
          · have := h.hi x q
            omega
          · have : x = (n : Int) := by simpa using q
            omega
    · intro h
      by_cases hm : (n : Int) ∈ e
      · refine .inr ?_
        have hne : e ≠ [] := fun z => by rw [z] at hm; simp at hm
        have ec := List.dropLast_concat_getLast hne
        have hp : (e.dropLast ++ [e.getLast hne]).Pairwise (· < ·) := by rw [ec]; exact h.asc
        have hp' := List.pairwise_append.mp hp
        have el : e.getLast hne = (n : Int) := by
          have hm' : (n : Int) ∈ e.dropLast ++ [e.getLast hne] := by rw [ec]; exact hm
          rcases List.mem_append.mp hm' with q | q
          · have := hp'.2.2 _ q _ List.mem_cons_self
            have := h.hi _ (List.getLast_mem hne)
            omega
          · simpa using (List.mem_singleton.mp q).symm
        refine ⟨e.dropLast, mem_choices.mpr ⟨hp'.1, fun x hx => h.lo x (mem_dl hx), fun x hx => ?_⟩, by rw [el] at ec; exact ec⟩
        have := hp'.2.2 x hx _ List.mem_cons_self
        omega
      · refine .inl (mem_choices.mpr ⟨h.asc, h.lo, fun x hx => ?_⟩)
        have := h.hi x hx
        have : x ≠ (n : Int) := fun z => hm (z ▸ hx)
        omega
theorem mem_allEff {n : Nat} {e : List Int} : e ∈ allEff n ↔ IsEff n e := ((isort_perm _).mem_iff).trans mem_choices

/-- what is reckoned of all pieces of one to six factors -/
def pm6 : List Nat := [1, 2, 3, 4, 5, 6]
theorem mem_pm6 {n : Nat} (h1 : 1 ≤ n) (h6 : n ≤ 6) : n ∈ pm6 := by
  unfold pm6
  have : n = 1 ∨ n = 2 ∨ n = 3 ∨ n = 4 ∨ n = 5 ∨ n = 6 := by omega
  rcases this with rfl | rfl | rfl | rfl | rfl | rfl <;> decide
def srtB (l : List (List Int)) : Bool := match l with
  | [] => true
  | x :: xs => xs.all (fun y => lexLt x y) && srtB xs
theorem srtB_pw : ∀ {l : List (List Int)}, srtB l = true → l.Pairwise fun a b => lexLt a b = true
  | [], _ => List.Pairwise.nil
  | x :: xs, h => by
    unfold srtB at h
    rw [Bool.and_eq_true] at h
    exact List.pairwise_cons.mpr ⟨fun y hy => List.all_eq_true.mp h.1 y hy, srtB_pw h.2⟩
theorem chk_runs : pm6.all (fun n => srtB (allRuns n) && ((allRuns n).length == 2 ^ n)) = true := by decide +kernel
theorem chk_eff : pm6.all (fun n => srtB (allEff n)) = true := by decide +kernel
theorem chk_orth1 : pm6.all (fun n => (allEff n).all fun f => f.isEmpty || (((allRuns n).map fun r => sgn r f).sum == 0)) = true := by decide +kernel
theorem chk_orth2 : pm6.all (fun n => (allRuns n).all fun r => (r == List.replicate n 1) || (((allEff n).map fun f => sgn r f).sum == 0)) = true := by decide +kernel

section
variable {n : Nat} (h1 : 1 ≤ n) (h6 : n ≤ 6)
include h1 h6
theorem allRuns_asc : (allRuns n).Pairwise fun a b => lexLt a b = true := by
  have := List.all_eq_true.mp chk_runs n (mem_pm6 h1 h6)
  rw [Bool.and_eq_true] at this
  exact srtB_pw this.1
theorem allRuns_len : (allRuns n).length = 2 ^ n := by
  have := List.all_eq_true.mp chk_runs n (mem_pm6 h1 h6)
  rw [Bool.and_eq_true] at this
  exact of_decide_eq_true (by simpa using this.2)
theorem allEff_asc : (allEff n).Pairwise fun a b => lexLt a b = true := srtB_pw (List.all_eq_true.mp chk_eff n (mem_pm6 h1 h6))
theorem orth1 {f : List Int} (hf : IsEff n f) (hne : f ≠ []) : ((allRuns n).map fun r => sgn r f).sum = 0 := by
  have := List.all_eq_true.mp (List.all_eq_true.mp chk_orth1 n (mem_pm6 h1 h6)) f (mem_allEff.mpr hf)
  rw [Bool.or_eq_true] at this
  rcases this with q | q
  · exact absurd (List.isEmpty_iff.mp q) hne
  · simpa using q
theorem orth2 {r : List Int} (hr : IsRun n r) (hne : r ≠ List.replicate n 1) : ((allEff n).map fun f => sgn r f).sum = 0 := by
  have := List.all_eq_true.mp (List.all_eq_true.mp chk_orth2 n (mem_pm6 h1 h6)) r (mem_allRuns.mpr hr)
  rw [Bool.or_eq_true] at this
  rcases this with q | q
  · exact absurd (by simpa using q) hne
  · simpa using q
end
theorem asc_srtL {l : List (List Int)} (h : l.Pairwise fun a b => lexLt a b = true) : Srt lexLt l := h.imp fun {a b} z => by
  cases e : lexLt b a with
  | false => rfl
  | true =>
    have := lexLt_trans z e
    rw [lexLt_irrefl] at this
    cases this
theorem asc_nodupL {l : List (List Int)} (h : l.Pairwise fun a b => lexLt a b = true) : l.Nodup := h.imp fun {a b} z e => by
  rw [e, lexLt_irrefl] at z
  cases z

/-! ### sums -/
def sm {α : Type} (l : List α) (f : α → Int) : Int := (l.map f).sum
section
variable {α β : Type}
theorem sm_nil (f : α → Int) : sm [] f = 0 := rfl
theorem sm_cons (x : α) (l : List α) (f : α → Int) : sm (x :: l) f = f x + sm l f := by unfold sm; rw [List.map_cons, List.sum_cons]
theorem sm_add (f g : α → Int) : ∀ l : List α, sm l f + sm l g = sm l fun x => f x + g x
  | [] => rfl
  | x :: xs => by
    rw [sm_cons, sm_cons, sm_cons, ← sm_add f g xs]
    omega
theorem sm_mulc (c : Int) (f : α → Int) : ∀ l : List α, c * sm l f = sm l fun x => c * f x
  | [] => by simp [sm_nil]
  | x :: xs => by rw [sm_cons, sm_cons, Int.mul_add, sm_mulc c f xs]
theorem sm_congr {f g : α → Int} : ∀ {l : List α}, (∀ x ∈ l, f x = g x) → sm l f = sm l g
  | [], _ => rfl
  | x :: xs, h => by rw [sm_cons, sm_cons, h x List.mem_cons_self, sm_congr fun y hy => h y (List.mem_cons_of_mem _ hy)]
theorem sm_filter (p : α → Bool) (f : α → Int) : ∀ l : List α, sm (l.filter p) f = sm l fun x => if p x then f x else 0
  | [] => rfl
  | x :: xs => by
    rw [List.filter_cons, sm_cons, ← sm_filter p f xs]
    by_cases h : p x = true
    · rw [if_pos h, if_pos h, sm_cons]
    · rw [if_neg h, if_neg h, Int.zero_add]
theorem sm_const (c : Int) : ∀ l : List α, sm l (fun _ => c) = c * l.length
  | [] => by simp [sm_nil]
  | x :: xs => by
    rw [sm_cons, sm_const c xs, List.length_cons, Int.natCast_add, Int.mul_add]
    omega
theorem sm_zero {f : α → Int} {l : List α} (h : ∀ x ∈ l, f x = 0) : sm l f = 0 := by
  rw [sm_congr h, sm_const, Int.zero_mul]
theorem sm_swap (f : α → β → Int) (m : List β) : ∀ l : List α, sm l (fun x => sm m fun y => f x y) = sm m fun y => sm l fun x => f x y
  | [] => (sm_zero fun _ _ => rfl).symm
  | x :: xs => by
    rw [sm_cons, sm_swap f m xs, sm_add]
    exact sm_congr fun y _ => (sm_cons x xs fun z => f z y).symm
theorem sm_perm {f : α → Int} {l m : List α} (p : l.Perm m) : sm l f = sm m f := by
  induction p with
  | nil => rfl
  | cons x _ ih => rw [sm_cons, sm_cons, ih]
  | swap x y l => rw [sm_cons, sm_cons, sm_cons, sm_cons]; omega
  | trans _ _ h1 h2 => exact h1.trans h2
theorem sm_map (g : α → β) (f : β → Int) (l : List α) : sm (l.map g) f = sm l fun x => f (g x) := by
  unfold sm
  rw [List.map_map]
  rfl
theorem sm_le {f : α → Int} : ∀ {l : List α}, (∀ x ∈ l, f x ≤ 1) → sm l f ≤ l.length
  | [], _ => Int.le_refl _
  | x :: xs, h => by
    rw [sm_cons, List.length_cons]
    have := h x List.mem_cons_self
    have := sm_le (l := xs) fun y hy => h y (List.mem_cons_of_mem _ hy)
    omega
theorem sm_all {f : α → Int} : ∀ {l : List α}, (∀ x ∈ l, f x ≤ 1) → sm l f = l.length → ∀ x ∈ l, f x = 1
  | [], _, _, x, hx => by simp at hx
  | y :: ys, h, e, x, hx => by
    rw [sm_cons, List.length_cons] at e
    have a := h y List.mem_cons_self
    have b := sm_le (l := ys) fun z hz => h z (List.mem_cons_of_mem _ hz)
    rcases List.mem_cons.mp hx with rfl | hx
    · omega
    · exact sm_all (fun z hz => h z (List.mem_cons_of_mem _ hz)) (by omega) x hx
end

/-! ### words, pieces -/
def agree (r : List Int) (ws : List (List Int × Int)) : Bool := ws.all fun w => sgn r w.1 == w.2
def piece (n : Nat) (ws : List (List Int × Int)) : List (List Int) := (allRuns n).filter fun r => agree r ws
def eSum (R : List (List Int)) (e : List Int) : Int := (R.map fun r => sgn r e).sum
/-- all runs share a sign of e -/
def fix (R : List (List Int)) (e : List Int) : Bool := decide (((eSum R e).natAbs : Int) = (R.length : Int))
def put (t : List (List Int)) (k : List Int) : List (List Int) := if k ∈ t then t else t ++ [k]
def addW (t : List (List Int)) (e : List Int) : List (List Int) := t.foldl (fun u o => put u (odd o e)) t
def fwStep (R : List (List Int)) (st : List (List Int × Int) × List (List Int)) (e : List Int) : List (List Int × Int) × List (List Int) :=
  if ¬ e ∈ st.2 ∧ fix R e = true then (st.1 ++ [(e, sgn (R.headD []) e)], addW st.2 e) else st
def fixedW (n : Nat) (R : List (List Int)) : List (List Int × Int) := ((allEff n).foldl (fwStep R) ([], [[]])).1

theorem fix_iff {n : Nat} {R : List (List Int)} {e : List Int} (hR : ∀ r ∈ R, IsRun n r) (he : IsEff n e) (hne : R ≠ []) : fix R e = true ↔ ∀ r ∈ R, sgn r e = sgn (R.headD []) e := by
  obtain ⟨q, Q, rfl⟩ : ∃ q Q, R = q :: Q := by
    cases R with
    | nil => exact absurd rfl hne
    | cons q Q => exact ⟨q, Q, rfl⟩
  show fix (q :: Q) e = true ↔ ∀ r ∈ q :: Q, sgn r e = sgn q e
  have hq := sgn_pm (hR q List.mem_cons_self) he
  have up : ∀ r ∈ q :: Q, sgn r e ≤ 1 := fun r hr => by rcases sgn_pm (hR r hr) he with z | z <;> omega
  have dn : ∀ r ∈ q :: Q, (-1) * sgn r e ≤ 1 := fun r hr => by rcases sgn_pm (hR r hr) he with z | z <;> omega
  have E : eSum (q :: Q) e = sm (q :: Q) fun r => sgn r e := rfl
  unfold fix
  rw [decide_eq_true_iff]
  constructor
  · intro h r hr
    rcases Int.natAbs_eq (eSum (q :: Q) e) with z | z
    · have all := sm_all up (by rw [← E, z, h])
      rw [all r hr, all q List.mem_cons_self]
    · have e2 : (-1) * sm (q :: Q) (fun r => sgn r e) = ((q :: Q).length : Int) := by rw [← E, z, h]; omega
      rw [sm_mulc] at e2
      have all := sm_all dn e2
      have a1 := all r hr
      have a2 := all q List.mem_cons_self
      omega
  · intro h
    have e1 : eSum (q :: Q) e = sgn q e * ((q :: Q).length : Int) := by
      rw [E, sm_congr h, sm_const]
    rw [e1, Int.natAbs_mul]
    rcases hq with z | z <;> rw [z] <;> simp only [Int.natAbs_natCast, Int.natAbs_neg, Int.natAbs_one, Nat.one_mul]

/-! ### the words that are fixed -/
structure FW (n : Nat) (R : List (List Int)) (done : List (List Int)) (W : List (List Int × Int)) (T : List (List Int)) : Prop where
  nd : T.Nodup
  eff : ∀ t ∈ T, IsEff n t
  nil : [] ∈ T
  cl : ∀ t ∈ T, ∀ u ∈ T, odd t u ∈ T
  len : T.length = 2 ^ W.length
  cst : ∀ t ∈ T, ∃ s, ∀ r ∈ piece n W, sgn r t = s
  orth : ∀ f, IsEff n f → f ∉ T → sm (piece n W) (fun r => sgn r f) = 0
  cnt : (piece n W).length * 2 ^ W.length = 2 ^ n
  all : ∀ e ∈ done, IsEff n e → fix R e = true → e ∈ T
  wok : ∀ w ∈ W, IsEff n w.1 ∧ w.1 ≠ [] ∧ (w.2 = 1 ∨ w.2 = -1)
  sub : ∀ r ∈ R, r ∈ piece n W

theorem mem_piece {n : Nat} {W : List (List Int × Int)} {r : List Int} : r ∈ piece n W ↔ IsRun n r ∧ ∀ w ∈ W, sgn r w.1 = w.2 := by
  unfold piece agree
  rw [List.mem_filter, mem_allRuns, List.all_eq_true]
  constructor
  · rintro ⟨a, b⟩
    exact ⟨a, fun w hw => by simpa using b w hw⟩
  · rintro ⟨a, b⟩
    exact ⟨a, fun w hw => by simpa using b w hw⟩
theorem piece_snoc (n : Nat) (W : List (List Int × Int)) (e : List Int) (s : Int) : piece n (W ++ [(e, s)]) = (piece n W).filter fun r => sgn r e == s := by
  unfold piece
  rw [List.filter_filter]
  congr 1
  funext r
  unfold agree
  rw [List.all_append, Bool.and_comm]
  simp
theorem addW_eq {T : List (List Int)} {n : Nat} {e : List Int} (nd : T.Nodup) (eff : ∀ t ∈ T, IsEff n t) (he : IsEff n e) (hn : ∀ t ∈ T, odd t e ∉ T) : addW T e = T ++ T.map fun t => odd t e := by
  have go : ∀ (l d : List (List Int)), d ++ l = T → l.foldl (fun u o => put u (odd o e)) (T ++ d.map fun t => odd t e) = T ++ T.map fun t => odd t e := by
    intro l
    induction l with
    | nil =>
      intro d hd
      rw [List.append_nil] at hd
      rw [hd]
      rfl
    | cons x l ih =>
      intro d hd
      rw [List.foldl_cons]
      have hx : x ∈ T := by rw [← hd]; exact List.mem_append_right _ List.mem_cons_self
      have hnot : odd x e ∉ T ++ d.map fun t => odd t e := by
        intro h
        rcases List.mem_append.mp h with h | h
        · exact hn x hx h
        · obtain ⟨y, hy, q⟩ := List.mem_map.mp h
          have hyT : y ∈ T := by rw [← hd]; exact List.mem_append_left _ hy
          have : y = x := odd_inj (eff y hyT) (eff x hx) he q
          subst this
          rw [← hd] at nd
          exact (List.nodup_append.mp nd).2.2 y hy y List.mem_cons_self rfl
      have : put (T ++ d.map fun t => odd t e) (odd x e) = T ++ (d ++ [x]).map fun t => odd t e := by
        unfold put
        rw [if_neg hnot, List.map_append, List.append_assoc]
        rfl
      rw [this]
      exact ih (d ++ [x]) (by rw [List.append_assoc]; exact hd)
  have := go T [] rfl
  rw [List.map_nil, List.append_nil] at this
  exact this

theorem FW.start {n : Nat} (h1 : 1 ≤ n) (h6 : n ≤ 6) {R : List (List Int)} (hR : ∀ r ∈ R, IsRun n r) : FW n R [] [] [[]] where
  nd := by simp
  eff := fun t h => by rw [List.mem_singleton.mp h]; exact .nil n
  nil := List.mem_cons_self
  cl := fun t h u g => by
    rw [List.mem_singleton.mp h, List.mem_singleton.mp g]
    exact List.mem_cons_self
  len := rfl
  cst := fun t h => ⟨1, fun r _ => by rw [List.mem_singleton.mp h]; rfl⟩
  orth := fun f hf hn => by
    have e : piece n [] = allRuns n := by
      unfold piece agree
      simp
    rw [e]
    exact orth1 h1 h6 hf fun z => hn (by rw [z]; exact List.mem_cons_self)
  cnt := by
    have e : piece n [] = allRuns n := by
      unfold piece agree
      simp
    rw [e, allRuns_len h1 h6]
    simp
  all := fun e h => by simp at h
  wok := fun w h => by simp at h
  sub := fun r hr => mem_piece.mpr ⟨hR r hr, fun w h => by simp at h⟩

theorem pow_ne (k : Nat) : 0 < 2 ^ k := Nat.two_pow_pos k
theorem FW.add {n : Nat} {R done : List (List Int)} {W : List (List Int × Int)} {T : List (List Int)} (F : FW n R done W T) (hR : ∀ r ∈ R, IsRun n r) (hne : R ≠ []) {e : List Int} (he : IsEff n e) (hn : e ∉ T) (hf : fix R e = true) :
    FW n R (done ++ [e]) (W ++ [(e, sgn (R.headD []) e)]) (addW T e) := by
  have hnT : ∀ t ∈ T, odd t e ∉ T := fun t ht h => hn (by
    have := F.cl _ ht _ h
    rwa [odd_comm (F.eff t ht) (F.eff _ h), odd_comm (F.eff t ht) he, odd_back he (F.eff t ht)] at this)
  have eT := addW_eq F.nd F.eff he hnT
  rw [eT]
  have hs : sgn (R.headD []) e = 1 ∨ sgn (R.headD []) e = -1 := by
    cases R with
    | nil => exact absurd rfl hne
    | cons q Q => exact sgn_pm (hR q List.mem_cons_self) he
  have hshare := (fix_iff hR he hne).mp hf
  generalize hsd : sgn (R.headD []) e = s at *
  have memT : ∀ {t : List Int}, t ∈ T ++ T.map (fun t => odd t e) ↔ t ∈ T ∨ ∃ u ∈ T, odd u e = t := by
    intro t
    rw [List.mem_append, List.mem_map]
  have hP : ∀ r ∈ piece n W, IsRun n r := fun r hr => (mem_piece.mp hr).1
  -- twice the sum over the new piece
  have two : ∀ f, IsEff n f → 2 * sm (piece n (W ++ [(e, s)])) (fun r => sgn r f) = sm (piece n W) (fun r => sgn r f) + s * sm (piece n W) (fun r => sgn r (odd e f)) := by
    intro f hf
    rw [piece_snoc, sm_filter, sm_mulc, sm_mulc, sm_add]
    refine sm_congr fun r hr => ?_
    rw [sgn_odd (hP r hr) he hf]
    have h1 := sgn_pm (hP r hr) he
    generalize sgn r e = a at *
    generalize sgn r f = b at *
    rcases h1 with rfl | rfl <;> rcases hs with rfl | rfl <;> simp <;> omega
  have sub' : ∀ r ∈ piece n (W ++ [(e, s)]), r ∈ piece n W ∧ sgn r e = s := fun r hr => by
    rw [piece_snoc] at hr
    have := List.mem_filter.mp hr
    exact ⟨this.1, by simpa using this.2⟩
  refine ⟨?_, ?_, List.mem_append_left _ F.nil, ?_, ?_, ?_, ?_, ?_, ?_, ?_, ?_⟩
  · refine List.nodup_append.mpr ⟨F.nd, ?_, fun a ha b hb => ?_⟩
    · rw [List.Nodup, List.pairwise_map]
      refine List.Pairwise.imp_of_mem (fun {a b} ha hb h z => h ?_) F.nd
      exact odd_inj (F.eff a ha) (F.eff b hb) he z
    · obtain ⟨u, hu, rfl⟩ := List.mem_map.mp hb
      rintro rfl
      exact hnT u hu ha
  · intro t ht
    rcases memT.mp ht with h | ⟨u, hu, rfl⟩
    · exact F.eff t h
    · exact odd_isEff (F.eff u hu) he
  · intro t ht u hu
    rcases memT.mp ht with h | ⟨t', ht', rfl⟩
    · rcases memT.mp hu with g | ⟨u', hu', rfl⟩
      · exact memT.mpr (.inl (F.cl t h u g))
      · exact memT.mpr (.inr ⟨odd t u', F.cl t h u' hu', odd_assoc (F.eff t h) (F.eff u' hu') he⟩)
    · have t1 := F.eff t' ht'
      rcases memT.mp hu with g | ⟨u', hu', rfl⟩
      · have u1 := F.eff u g
        refine memT.mpr (.inr ⟨odd t' u, F.cl t' ht' u g, ?_⟩)
        rw [odd_assoc t1 u1 he, odd_comm u1 he, ← odd_assoc t1 he u1]
      · have u1 := F.eff u' hu'
        refine memT.mpr (.inl ?_)
        have : odd (odd t' e) (odd u' e) = odd t' u' := by
          rw [odd_comm u1 he, ← odd_assoc (odd_isEff t1 he) he u1, odd_back t1 he]
        rw [this]
        exact F.cl t' ht' u' hu'
  · rw [List.length_append, List.length_map, F.len, List.length_append]
    show _ = 2 ^ (W.length + 1)
    rw [Nat.pow_succ]
    omega
  · intro t ht
    rcases memT.mp ht with h | ⟨u, hu, rfl⟩
    · obtain ⟨c, hc⟩ := F.cst t h
      exact ⟨c, fun r hr => hc r (sub' r hr).1⟩
    · obtain ⟨c, hc⟩ := F.cst u hu
      refine ⟨c * s, fun r hr => ?_⟩
      obtain ⟨m1, m2⟩ := sub' r hr
      rw [sgn_odd (hP r m1) (F.eff u hu) he, hc r m1, m2]
  · intro f hf hfn
    have a : f ∉ T := fun h => hfn (memT.mpr (.inl h))
    have b : odd e f ∉ T := fun h => hfn (memT.mpr (.inr ⟨odd e f, h, by
      rw [odd_comm he hf, odd_back hf he]⟩))
    have := two f hf
    rw [F.orth f hf a, F.orth _ (odd_isEff he hf) b] at this
    omega
  · have := two [] (.nil n)
    rw [odd_nil he, F.orth e he hn] at this
    have c1 : sm (piece n (W ++ [(e, s)])) (fun r => sgn r []) = ((piece n (W ++ [(e, s)])).length : Int) := by
      rw [show (fun r : List Int => sgn r []) = fun _ => (1 : Int) from rfl, sm_const, Int.one_mul]
    have c2 : sm (piece n W) (fun r => sgn r []) = ((piece n W).length : Int) := by
      rw [show (fun r : List Int => sgn r []) = fun _ => (1 : Int) from rfl, sm_const, Int.one_mul]
    rw [c1, c2] at this
    have h2 : 2 * (piece n (W ++ [(e, s)])).length = (piece n W).length := by omega
    have c := F.cnt
    rw [← h2] at c
    rw [List.length_append]
    show _ * 2 ^ (W.length + 1) = _
    rw [Nat.pow_succ, ← c]
    rw [Nat.mul_comm (2 ^ W.length) 2, ← Nat.mul_assoc, Nat.mul_comm _ 2]
  · intro x hx hxe hfx
    rcases List.mem_append.mp hx with h | h
    · exact memT.mpr (.inl (F.all x h hxe hfx))
    · rw [List.mem_singleton.mp h]
      exact memT.mpr (.inr ⟨[], F.nil, nil_odd he⟩)
  · intro w hw
    rcases List.mem_append.mp hw with h | h
    · exact F.wok w h
    · rw [List.mem_singleton.mp h]
      exact ⟨he, fun z => hn (by rw [show e = [] from z]; exact F.nil), hs⟩
  · intro r hr
    refine mem_piece.mpr ⟨hR r hr, fun w hw => ?_⟩
    rcases List.mem_append.mp hw with h | h
    · exact (mem_piece.mp (F.sub r hr)).2 w h
    · rw [List.mem_singleton.mp h]
      exact hshare r hr
theorem FW.pass {n : Nat} {R done : List (List Int)} {W : List (List Int × Int)} {T : List (List Int)} (F : FW n R done W T) {e : List Int} (h : ¬ (¬ e ∈ T ∧ fix R e = true)) : FW n R (done ++ [e]) W T := by
  refine ⟨F.nd, F.eff, F.nil, F.cl, F.len, F.cst, F.orth, F.cnt, fun x hx hxe hfx => ?_, F.wok, F.sub⟩
  rcases List.mem_append.mp hx with g | g
  · exact F.all x g hxe hfx
  · have := List.mem_singleton.mp g
    subst this
    by_cases q : x ∈ T
    · exact q
    · exact absurd ⟨q, hfx⟩ h
theorem FW.run {n : Nat} {R : List (List Int)} (hR : ∀ r ∈ R, IsRun n r) (hne : R ≠ []) : ∀ (l done : List (List Int)) (st : List (List Int × Int) × List (List Int)), (∀ e ∈ l, IsEff n e) → FW n R done st.1 st.2 →
    FW n R (done ++ l) (l.foldl (fwStep R) st).1 (l.foldl (fwStep R) st).2
  | [], done, st, _, F => by rw [List.append_nil]; exact F
  | e :: l, done, st, he, F => by
    rw [List.foldl_cons]
    have e1 : done ++ e :: l = (done ++ [e]) ++ l := by rw [List.append_assoc]; rfl
    rw [e1]
    refine FW.run hR hne l _ _ (fun x hx => he x (List.mem_cons_of_mem _ hx)) ?_
    unfold fwStep
    by_cases h : ¬ e ∈ st.2 ∧ fix R e = true
    · rw [if_pos h]
      exact F.add hR hne (he e List.mem_cons_self) h.1 h.2
    · rw [if_neg h]
      exact F.pass h
end K31
/-! K31: what the program and the law answer, in plain functions; the law's truth. Core Lean alone. -/
set_option linter.all false
set_option Elab.async false
set_option maxRecDepth 100000
namespace K31

/-! ### the law's own lists -/
def lRunsRaw : Nat → List (List Int)
  | 0 => [[]]
  | k + 1 => (lRunsRaw k).map (fun r => r ++ [-1]) ++ (lRunsRaw k).map fun r => r ++ [1]
def lRuns (n : Nat) : List (List Int) := isort lexLt (lRunsRaw n)
def lEff1 (n b : Nat) : List Int := (rng n).filter fun a => decide ((b / 2 ^ a.toNat) % 2 = 1)
def lEffs (n : Nat) : List (List Int) := isort lexLt ((List.range (2 ^ n)).map fun b => lEff1 n b)
theorem chk_lruns : pm6.all (fun n => lRuns n == allRuns n) = true := by decide +kernel
theorem chk_leffs : pm6.all (fun n => lEffs n == allEff n) = true := by decide +kernel
theorem lRuns_eq {n : Nat} (h1 : 1 ≤ n) (h6 : n ≤ 6) : lRuns n = allRuns n := by simpa using List.all_eq_true.mp chk_lruns n (mem_pm6 h1 h6)
theorem lEffs_eq {n : Nat} (h1 : 1 ≤ n) (h6 : n ≤ 6) : lEffs n = allEff n := by simpa using List.all_eq_true.mp chk_leffs n (mem_pm6 h1 h6)
def fitL (n : Nat) (ws : List (List Int × Int)) : List (List Int) := ws.foldl (fun found w => found.filter fun r => decide (sgn r w.1 = w.2)) (lRuns n)
theorem fold_filter : ∀ (ws : List (List Int × Int)) (l : List (List Int)), ws.foldl (fun found w => found.filter fun r => decide (sgn r w.1 = w.2)) l = l.filter fun r => agree r ws
  | [], l => by
    show l = _
    rw [List.filter_eq_self.mpr]
    intro r _
    rfl
  | w :: ws, l => by
    rw [List.foldl_cons, fold_filter ws, List.filter_filter]
    congr 1
    funext r
    unfold agree
    rw [List.all_cons, Bool.and_comm]
    congr 1
theorem fitL_eq {n : Nat} (h1 : 1 ≤ n) (h6 : n ≤ 6) (ws : List (List Int × Int)) : fitL n ws = piece n ws := by
  unfold fitL piece
  rw [fold_filter, lRuns_eq h1 h6]

/-! ### what the program answers -/
def wordsOf (n : Nat) (R : List (List Int)) : Option (List (List Int × Int)) := if isort lexLt R = piece n (fixedW n R) then some (fixedW n R) else none
def likeAt (R : List (List Int)) (i : Nat) : Option (List Int) := if R.getD i [] ∈ R.take i then some [((R.idxOf (R.getD i []) : Nat) : Int), (i : Int)] else none
def likeRuns (R : List (List Int)) : Option (List Int) := (List.range R.length).findSome? (likeAt R)
def miss1 (R : List (List Int)) (c b a : Nat) : Option (List Int) := if prod3 (R.getD a []) (R.getD b []) (R.getD c []) ∈ R then none else some [(a : Int), (b : Int), (c : Int)]
def miss2 (R : List (List Int)) (c b : Nat) : Option (List Int) := (List.range b).findSome? (miss1 R c b)
def miss3 (R : List (List Int)) (c : Nat) : Option (List Int) := (List.range c).findSome? (miss2 R c)
def missing (R : List (List Int)) : Option (List Int) := match likeRuns R with
  | some p => some p
  | none => (List.range R.length).findSome? (miss3 R)

/-! ### what the law asks -/
def dup (R : List (List Int)) : Bool := (List.range R.length).any fun i => decide (R.getD i [] ∈ R.take i)
def isClosed (n : Nat) (R : List (List Int)) : Bool := if dup R = true then false else decide (R.length * ((lEffs n).filter (fix R)).length = 2 ^ n)
structure WordsOk (n : Nat) (W : List (List Int × Int)) : Prop where
  len : W.length ≤ 6
  ok : ∀ w ∈ W, IsEff n w.1 ∧ w.1 ≠ [] ∧ (w.2 = 1 ∨ w.2 = -1)
inductive PaperOk (R : List (List Int)) : List Int → Prop
  | two (i j : Nat) : i < j → j < R.length → R.getD i [] = R.getD j [] → PaperOk R [(i : Int), (j : Int)]
  | three (a b c : Nat) : a < b → b < c → c < R.length → prod3 (R.getD a []) (R.getD b []) (R.getD c []) ∉ R → PaperOk R [(a : Int), (b : Int), (c : Int)]

theorem likeAt_none {R : List (List Int)} : (likeRuns R = none) ↔ dup R = false := by
  unfold likeRuns dup
  rw [List.findSome?_eq_none_iff, List.any_eq_false]
  refine forall_congr' fun i => forall_congr' fun _ => ?_
  unfold likeAt
  split
  · rename_i h
    rw [decide_eq_true h]
    constructor
    · intro z
      cases z
    · intro z
      exact absurd rfl z
  · rename_i h
    rw [decide_eq_false h]
    constructor
    · intro _ z
      cases z
    · intro _
      rfl
theorem dup_nodup {R : List (List Int)} : dup R = false ↔ R.Nodup := by
  unfold dup
  rw [List.any_eq_false]
  constructor
  · intro h
    rw [List.Nodup, List.pairwise_iff_getElem]
    intro i j hi hj hij e
    have := h j (List.mem_range.mpr hj)
    refine this (decide_eq_true ?_)
    rw [List.getD_eq_getElem?_getD, List.getElem?_eq_getElem hj, Option.getD_some, ← e]
    exact List.mem_iff_getElem.mpr ⟨i, by rw [List.length_take]; omega, by rw [List.getElem_take]⟩
  · intro h i hi hm
    have hi' := List.mem_range.mp hi
    have hm' := of_decide_eq_true hm
    rw [List.getD_eq_getElem?_getD, List.getElem?_eq_getElem hi', Option.getD_some] at hm'
    obtain ⟨j, hj, e⟩ := List.mem_iff_getElem.mp hm'
    rw [List.length_take] at hj
    rw [List.getElem_take] at e
    have := List.pairwise_iff_getElem.mp h j i (by omega) hi' (by omega)
    exact this e
theorem likeRuns_ok {R : List (List Int)} {p : List Int} (h : likeRuns R = some p) : PaperOk R p := by
  unfold likeRuns at h
  obtain ⟨i, hi, hp⟩ := List.exists_of_findSome?_eq_some h
  have hi' := List.mem_range.mp hi
  unfold likeAt at hp
  split at hp
  · rename_i hm
    cases hp
    have e0 : R.getD i [] = R[i] := by rw [List.getD_eq_getElem?_getD, List.getElem?_eq_getElem hi', Option.getD_some]
    rw [e0] at hm ⊢
    obtain ⟨j, hj, e⟩ := List.mem_iff_getElem.mp hm
    rw [List.length_take] at hj
    rw [List.getElem_take] at e
    have hmem : R[i] ∈ R := List.getElem_mem hi'
    have hlt := List.idxOf_lt_length_of_mem hmem
    have hle : R.idxOf R[i] ≤ j := by
      rcases Nat.lt_or_ge j (R.idxOf R[i]) with q | q
      · exact absurd e (by
          have := List.not_of_lt_findIdx (p := fun x => x == R[i]) (xs := R) (i := j) q
          simpa using this)
      · exact q
    refine .two _ _ (by omega) hi' ?_
    rw [List.getD_eq_getElem?_getD, List.getElem?_eq_getElem hlt, Option.getD_some, List.getElem_idxOf, e0]
  · cases hp

/-! ### the sentence -/
section
variable {n : Nat} {R : List (List Int)} (h1 : 1 ≤ n) (h6 : n ≤ 6) (hR : ∀ r ∈ R, IsRun n r) (hne : R ≠ [])
include h1 h6 hR hne
theorem fw_end : ∃ T, FW n R (allEff n) (fixedW n R) T := by
  have := FW.run hR hne (allEff n) [] ([], [[]]) (fun e he => mem_allEff.mp he) (FW.start h1 h6 hR)
  rw [List.nil_append] at this
  exact ⟨_, this⟩
theorem shared_len {T : List (List Int)} {W : List (List Int × Int)} (F : FW n R (allEff n) W T) : ((lEffs n).filter (fix R)).length = 2 ^ W.length := by
  rw [lEffs_eq h1 h6, ← F.len]
  have ndS : ((allEff n).filter (fix R)).Nodup := (asc_nodupL (allEff_asc h1 h6)).filter _
  refine Nat.le_antisymm (sub_len ndS fun e he => ?_) (sub_len F.nd fun t ht => ?_)
  · have := List.mem_filter.mp he
    exact F.all e this.1 (mem_allEff.mp this.1) this.2
  · refine List.mem_filter.mpr ⟨mem_allEff.mpr (F.eff t ht), ?_⟩
    obtain ⟨s, hs⟩ := F.cst t ht
    refine (fix_iff hR (F.eff t ht) hne).mpr fun r hr => ?_
    rw [hs r (F.sub r hr)]
    cases R with
    | nil => exact absurd rfl hne
    | cons q Q => exact (hs q (F.sub q List.mem_cons_self)).symm
theorem piece_srt (W : List (List Int × Int)) : (piece n W).Pairwise fun a b => lexLt a b = true := (allRuns_asc h1 h6).filter _
theorem closed_iff : isClosed n R = true ↔ isort lexLt R = piece n (fixedW n R) := by
  obtain ⟨T, F⟩ := fw_end h1 h6 hR hne
  have hs := shared_len h1 h6 hR hne F
  have hp := piece_srt h1 h6 hR hne (fixedW n R)
  unfold isClosed
  constructor
  · intro h
    by_cases hd : dup R = true
    · rw [if_pos hd] at h
      cases h
    · rw [if_neg hd] at h
      have h' := of_decide_eq_true h
      have nd : R.Nodup := dup_nodup.mp (by simpa using hd)
      rw [hs, ← F.cnt] at h'
      have hl : R.length = (piece n (fixedW n R)).length := Nat.eq_of_mul_eq_mul_right (pow_ne _) h'
      have p : R.Perm (piece n (fixedW n R)) := sub_perm nd F.sub (by omega)
      rw [isort_congr sto_lex p, isort_of_srt sto_lex (asc_srtL hp)]
  · intro h
    have p : R.Perm (piece n (fixedW n R)) := (isort_perm R).symm.trans (by rw [h])
    have nd : R.Nodup := p.nodup_iff.mpr (asc_nodupL hp)
    rw [if_neg (by rw [dup_nodup.mpr nd]; decide), hs, p.length_eq]
    exact decide_eq_true F.cnt
theorem words_ok : WordsOk n (fixedW n R) := by
  obtain ⟨T, F⟩ := fw_end h1 h6 hR hne
  refine ⟨?_, F.wok⟩
  rcases Nat.lt_or_ge 6 (fixedW n R).length with q | q
  · have c := F.cnt
    have p0 : 0 < (piece n (fixedW n R)).length := by
      cases R with
      | nil => exact absurd rfl hne
      | cons r Q => exact List.length_pos_of_mem (F.sub r List.mem_cons_self)
    have : 2 ^ 7 ≤ 2 ^ (fixedW n R).length := Nat.pow_le_pow_right (by omega) q
    have b : 2 ^ n ≤ 2 ^ 6 := Nat.pow_le_pow_right (by omega) h6
    have d : 2 ^ (fixedW n R).length ≤ (piece n (fixedW n R)).length * 2 ^ (fixedW n R).length := Nat.le_mul_of_pos_left _ p0
    omega
  · exact q
omit hne in
theorem at_run {i : Nat} (hi : i < R.length) : IsRun n (R.getD i []) ∧ R.getD i [] ∈ R := by
  have e0 : R.getD i [] = R[i] := by rw [List.getD_eq_getElem?_getD, List.getElem?_eq_getElem hi, Option.getD_some]
  rw [e0]
  exact ⟨hR _ (List.getElem_mem hi), List.getElem_mem hi⟩
/-- a whole plan misses nothing -/
theorem whole_none (h : isClosed n R = true) : missing R = none := by
  have hw := (closed_iff h1 h6 hR hne).mp h
  have nd : dup R = false := by
    unfold isClosed at h
    by_cases hd : dup R = true
    · rw [if_pos hd] at h
      cases h
    · simpa using hd
  have p : R.Perm (piece n (fixedW n R)) := (isort_perm R).symm.trans (by rw [hw])
  unfold missing
  rw [likeAt_none.mpr nd]
  show (List.range R.length).findSome? (miss3 R) = none
  rw [List.findSome?_eq_none_iff]
  intro c hc
  unfold miss3
  rw [List.findSome?_eq_none_iff]
  intro b hb
  unfold miss2
  rw [List.findSome?_eq_none_iff]
  intro a ha
  have hc' := List.mem_range.mp hc
  have hb' := List.mem_range.mp hb
  have ha' := List.mem_range.mp ha
  unfold miss1
  rw [if_pos]
  obtain ⟨ra, ma⟩ := at_run h1 h6 hR (i := a) (by omega)
  obtain ⟨rb, mb⟩ := at_run h1 h6 hR (i := b) (by omega)
  obtain ⟨rc, mc⟩ := at_run h1 h6 hR (i := c) (by omega)
  refine p.mem_iff.mpr (mem_piece.mpr ⟨prod3_isRun ra rb rc, fun w hw => ?_⟩)
  have hwk := (words_ok h1 h6 hR hne).ok w hw
  unfold prod3
  rw [sgn_mul (mul_isRun ra rb) rc hwk.1, sgn_mul ra rb hwk.1, (mem_piece.mp (p.mem_iff.mp ma)).2 w hw, (mem_piece.mp (p.mem_iff.mp mb)).2 w hw, (mem_piece.mp (p.mem_iff.mp mc)).2 w hw]
  rcases hwk.2.2 with q | q <;> rw [q] <;> rfl
/-- a plan whose triples are all there is whole -/
theorem tri_whole (nd : R.Nodup) (tri : ∀ a ∈ R, ∀ b ∈ R, ∀ c ∈ R, prod3 a b c ∈ R) : isClosed n R = true := by
  obtain ⟨T, F⟩ := fw_end h1 h6 hR hne
  have hp := piece_srt h1 h6 hR hne (fixedW n R)
  refine (closed_iff h1 h6 hR hne).mpr ?_
  -- each run of the piece is a run of the plan
  have inR : ∀ q ∈ piece n (fixedW n R), q ∈ R := by
    intro q hq
    rcases Classical.em (q ∈ R) with h | hqn
    · exact h
    · exfalso
      have rq := (mem_piece.mp hq).1
      -- the sum over all effects of sign in q times the sum of signs in the plan
      have z : sm (allEff n) (fun f => sgn q f * sm R fun r => sgn r f) = 0 := by
        have e : sm (allEff n) (fun f => sgn q f * sm R fun r => sgn r f) = sm (allEff n) fun f => sm R fun r => sgn (mul q r) f := by
          refine sm_congr fun f hf => ?_
          rw [sm_mulc]
          exact sm_congr fun r hr => (sgn_mul rq (hR r hr) (mem_allEff.mp hf)).symm
        rw [e, sm_swap]
        refine sm_zero fun r hr => orth2 h1 h6 (mul_isRun rq (hR r hr)) fun h => hqn ?_
        rw [mul_eq_ones rq (hR r hr) h]
        exact hr
      -- each term is the number of runs or 0
      have term : ∀ f ∈ allEff n, sgn q f * sm R (fun r => sgn r f) = if fix R f = true then (R.length : Int) else 0 := by
        intro f hf
        have ef := mem_allEff.mp hf
        by_cases hx : fix R f = true
        · rw [if_pos hx]
          have hsh := (fix_iff hR ef hne).mp hx
          obtain ⟨s, hs⟩ := F.cst f (F.all f hf ef hx)
          have a1 : sm R (fun r => sgn r f) = s * (R.length : Int) := by
            rw [sm_congr fun r hr => hs r (F.sub r hr), sm_const]
          rw [a1, hs q hq, ← Int.mul_assoc]
          have : s = 1 ∨ s = -1 := by
            rw [← hs q hq]
            exact sgn_pm rq ef
          rw [pm_sq this, Int.one_mul]
        · rw [if_neg hx]
          -- two runs differ; times both is a walk of the plan onto itself that turns the sign
          have : ∃ b ∈ R, sgn b f ≠ sgn (R.headD []) f := by
            rcases Classical.em (∃ b ∈ R, sgn b f ≠ sgn (R.headD []) f) with h | h
            · exact h
            · exact absurd ((fix_iff hR ef hne).mpr fun r hr => by
                rcases Classical.em (sgn r f = sgn (R.headD []) f) with z | z
                · exact z
                · exact absurd ⟨r, hr, z⟩ h) hx
          obtain ⟨b, hb, hbf⟩ := this
          have ha : R.headD [] ∈ R := by
            cases R with
            | nil => exact absurd rfl hne
            | cons q Q => exact List.mem_cons_self
          generalize R.headD [] = a at *
          have ra := hR a ha
          have rb := hR b hb
          have rab := mul_isRun ra rb
          have flip : sgn (mul a b) f = -1 := by
            rw [sgn_mul ra rb ef]
            rcases sgn_pm ra ef with u | u <;> rcases sgn_pm rb ef with v | v <;> rw [u, v] at hbf ⊢ <;> first | rfl | exact absurd rfl hbf
          have perm : (R.map fun r => mul r (mul a b)).Perm R := by
            refine sub_perm ?_ ?_ (by rw [List.length_map]; exact Nat.le_refl _)
            · rw [List.Nodup, List.pairwise_map]
              refine List.Pairwise.imp_of_mem (fun {x y} hx hy h z => h ?_) nd
              rw [← mul_back (hR x hx) rab, z, mul_back (hR y hy) rab]
            · intro x hx
              obtain ⟨r, hr, rfl⟩ := List.mem_map.mp hx
              rw [← mul_assoc (hR r hr) ra rb]
              exact tri r hr a ha b hb
          have e : sm R (fun r => sgn r f) = (-1) * sm R fun r => sgn r f := by
            have t : sm R (fun r => sgn r f) = sm (R.map fun r => mul r (mul a b)) fun r => sgn r f := sm_perm perm.symm
            refine t.trans ?_
            rw [sm_map, sm_mulc]
            refine sm_congr fun r hr => ?_
            rw [sgn_mul (hR r hr) rab ef, flip, Int.mul_comm]
          have : sm R (fun r => sgn r f) = 0 := by omega
          rw [this, Int.mul_zero]
      have tot : sm (allEff n) (fun f => sgn q f * sm R fun r => sgn r f) = (R.length : Int) * (((allEff n).filter (fix R)).length : Int) := by
        rw [sm_congr term, ← sm_filter (fix R) (fun _ => (R.length : Int)), sm_const]
      rw [z, ← lEffs_eq h1 h6, shared_len h1 h6 hR hne F] at tot
      have p1 : 0 < R.length := List.length_pos_iff.mpr hne
      have p2 := pow_ne (fixedW n R).length
      have p3 : 0 < R.length * 2 ^ (fixedW n R).length := Nat.mul_pos p1 p2
      have : ((R.length * 2 ^ (fixedW n R).length : Nat) : Int) = 0 := by
        rw [Int.natCast_mul]
        exact tot.symm
      omega
  have p : R.Perm (piece n (fixedW n R)) := (sub_perm (asc_nodupL hp) inR (sub_len nd F.sub)).symm
  rw [isort_congr sto_lex p, isort_of_srt sto_lex (asc_srtL hp)]
theorem part_some (h : isClosed n R = false) : ∃ p, missing R = some p ∧ PaperOk R p := by
  cases hl : likeRuns R with
  | some p =>
    refine ⟨p, ?_, likeRuns_ok hl⟩
    unfold missing
    rw [hl]
  | none =>
    have nd := dup_nodup.mp (likeAt_none.mp hl)
    have em : missing R = (List.range R.length).findSome? (miss3 R) := by
      unfold missing
      rw [hl]
    cases hm : missing R with
    | some p =>
      refine ⟨p, rfl, ?_⟩
      rw [em] at hm
      obtain ⟨c, hc, h3⟩ := List.exists_of_findSome?_eq_some hm
      obtain ⟨b, hb, h2⟩ := List.exists_of_findSome?_eq_some h3
      obtain ⟨a, ha, h1'⟩ := List.exists_of_findSome?_eq_some h2
      unfold miss1 at h1'
      split at h1'
      · cases h1'
      · rename_i hn
        cases h1'
        exact .three a b c (List.mem_range.mp ha) (List.mem_range.mp hb) (List.mem_range.mp hc) hn
    | none =>
      exfalso
      rw [em, List.findSome?_eq_none_iff] at hm
      have asc : ∀ a b c : Nat, a < b → b < c → c < R.length → prod3 (R.getD a []) (R.getD b []) (R.getD c []) ∈ R := by
        intro a b c hab hbc hc
        have q3 := hm c (List.mem_range.mpr hc)
        unfold miss3 at q3
        rw [List.findSome?_eq_none_iff] at q3
        have q2 := q3 b (List.mem_range.mpr hbc)
        unfold miss2 at q2
        rw [List.findSome?_eq_none_iff] at q2
        have q1 := q2 a (List.mem_range.mpr hab)
        unfold miss1 at q1
        split at q1
        · assumption
        · cases q1
      have sw1 : ∀ {x y z : List Int}, IsRun n x → IsRun n y → prod3 x y z = prod3 y x z := fun hx hy => by
        unfold prod3
        rw [mul_comm hx hy]
      have sw2 : ∀ {x y z : List Int}, IsRun n x → IsRun n y → IsRun n z → prod3 x y z = prod3 x z y := fun hx hy hz => by
        unfold prod3
        rw [mul_assoc hx hy hz, mul_comm hy hz, ← mul_assoc hx hz hy]
      have dup2 : ∀ {x y : List Int}, IsRun n x → IsRun n y → prod3 x x y = y := fun hx hy => by
        unfold prod3
        rw [mul_self hx, ones_mul hy]
      have tri : ∀ a ∈ R, ∀ b ∈ R, ∀ c ∈ R, prod3 a b c ∈ R := by
        intro x hx y hy z hz
        have rx := hR x hx
        have ry := hR y hy
        have rz := hR z hz
        have gx := List.mem_iff_getElem.mp hx
        have gy := List.mem_iff_getElem.mp hy
        have gz := List.mem_iff_getElem.mp hz
        obtain ⟨i, hi, ex⟩ := gx
        obtain ⟨j, hj, ey⟩ := gy
        obtain ⟨k, hk, ez⟩ := gz
        have dx : R.getD i [] = x := by rw [List.getD_eq_getElem?_getD, List.getElem?_eq_getElem hi, Option.getD_some, ex]
        have dy : R.getD j [] = y := by rw [List.getD_eq_getElem?_getD, List.getElem?_eq_getElem hj, Option.getD_some, ey]
        have dz : R.getD k [] = z := by rw [List.getD_eq_getElem?_getD, List.getElem?_eq_getElem hk, Option.getD_some, ez]
        rcases Classical.em (x = y) with e | nxy
        · subst e
          rw [dup2 rx rz]
          exact hz
        · rcases Classical.em (y = z) with e | nyz
          · subst e
            rw [sw1 rx ry, sw2 ry rx ry, dup2 ry rx]
            exact hx
          · rcases Classical.em (x = z) with e | nxz
            · subst e
              rw [sw2 rx ry rx, dup2 rx ry]
              exact hy
            · have nij : i ≠ j := fun e => nxy (by subst e; rw [← dx, ← dy])
              have njk : j ≠ k := fun e => nyz (by subst e; rw [← dy, ← dz])
              have nik : i ≠ k := fun e => nxz (by subst e; rw [← dx, ← dz])
              rcases Nat.lt_or_ge i j with a | a
              · rcases Nat.lt_or_ge j k with b | b
                · have := asc i j k a b hk
                  rwa [dx, dy, dz] at this
                · rcases Nat.lt_or_ge i k with c | c
                  · have := asc i k j c (by omega) hj
                    rw [dx, dy, dz] at this
                    rwa [sw2 rx ry rz]
                  · have := asc k i j (by omega) a hj
                    rw [dx, dy, dz] at this
                    rwa [sw2 rx ry rz, sw1 rx rz]
              · rcases Nat.lt_or_ge i k with b | b
                · have := asc j i k (by omega) b hk
                  rw [dx, dy, dz] at this
                  rwa [sw1 rx ry]
                · rcases Nat.lt_or_ge j k with c | c
                  · have := asc j k i c (by omega) hi
                    rw [dx, dy, dz] at this
                    rwa [sw1 rx ry, sw2 ry rx rz]
                  · have := asc k j i (by omega) (by omega) hi
                    rw [dx, dy, dz] at this
                    rwa [sw1 rx ry, sw2 ry rx rz, sw1 ry rz]
      rw [tri_whole h1 h6 hR hne nd tri] at h
      cases h
theorem sentence : (isClosed n R = true → wordsOf n R = some (fixedW n R) ∧ missing R = none ∧ WordsOk n (fixedW n R) ∧ isort lexLt R = piece n (fixedW n R)) ∧
    (isClosed n R = false → wordsOf n R = none ∧ ∃ p, missing R = some p ∧ PaperOk R p) := by
  constructor
  · intro h
    have hw := (closed_iff h1 h6 hR hne).mp h
    refine ⟨?_, whole_none h1 h6 hR hne h, words_ok h1 h6 hR hne, hw⟩
    unfold wordsOf
    rw [if_pos hw]
  · intro h
    refine ⟨?_, part_some h1 h6 hR hne h⟩
    unfold wordsOf
    rw [if_neg fun z => by
      rw [(closed_iff h1 h6 hR hne).mpr z] at h
      cases h]
end
end K31
set_option Elab.async false
set_option linter.all false
set_option maxRecDepth 100000
set_option maxHeartbeats 4000000
/-! K31Data: what stands in the heap as data: tuples of whole numbers, tuples of such, .. -/
namespace K31W
open PySem PySem.Spec PyProof.Rows L2

theorem Same.tp {K : PySem.W.Frag} {H H' : Hp} {a : Addr} {xs : List V} (e : Same H H') (h : SqT K H a xs) : SqT K H' a xs := by
  rcases h with (h | ⟨o, h⟩) | h
  · exact .inl (.inl (e _ _ h))
  · exact .inl (.inr ⟨o, e _ _ h⟩)
  · exact .inr h
theorem same_new {H : Hp} {p : Addr} {o : HO} (h : H p = none) : Same H (upd H p o) := fun b x e => by
  rw [upd_ne (ne_of_none e h)]
  exact e
/-- what is new to H may change behind it -/
theorem Same.own {H H' : Hp} {p : Addr} {o : HO} (e : Same H H') (h : H p = none) : Same H (upd H' p o) := fun b x q => by
  rw [upd_ne (ne_of_none q h)]
  exact e b x q
theorem small {n : Nat} (h : n ≤ 100000) : n ≤ sizeLine := Nat.le_trans h (by decide)
theorem smallLt {n : Nat} (h : n < 100000) : n < sizeLine := Nat.lt_of_lt_of_le h (by decide)

mutual
theorem dp_same {K : PySem.W.Frag} {H H' : Hp} (e : Same H H') : ∀ (d : PyData) (v : V), Dp K H v d → Dp K H' v d
  | .none, _, h => by cases h; exact .non
  | .bool b, _, h => by cases h; exact .bl b
  | .int i, _, h => by cases h; exact .int i
  | .str x, _, h => by cases h; exact .str x
  | .list ds, _, h => by
    cases h with
    | lst hs ha => exact .lst (Same.seq e hs) (dps_same e ds _ ha)
  | .tuple ds, _, h => by
    cases h with
    | tup hs ha => exact .tup (Same.tp e hs) (dps_same e ds _ ha)
  | .dict _, _, h => by cases h
theorem dps_same {K : PySem.W.Frag} {H H' : Hp} (e : Same H H') : ∀ (ds : List PyData) (vs : List V), DpAll K H vs ds → DpAll K H' vs ds
  | [], _, h => by cases h; exact .nil
  | d :: ds, _, h => by
    cases h with
    | cons h1 h2 => exact .cons (dp_same e d _ h1) (dps_same e ds _ h2)
end
/-! without a list in it -/
mutual
def firm : PyData → Bool
  | .list _ => false
  | .str _ => false
  | .tuple ds => firms ds
  | .dict _ => false
  | _ => true
def firms : List PyData → Bool
  | [] => true
  | d :: ds => firm d && firms ds
end
theorem rd_other {H H' : Hp} {p a : Addr} {xs : List V} (hp : ∀ ys, H p ≠ some (.tup ys)) (hf : ∀ o ys, H p ≠ some (.frz o (.tup ys))) (e : ∀ b o, H b = some o → b ≠ p → H' b = some o) (h : Rd H a (.tup xs)) : Rd H' a (.tup xs) := by
  rcases h with h | ⟨o, h⟩
  · exact .inl (e _ _ h fun z => hp xs (by rw [← z]; exact h))
  · exact .inr ⟨o, e _ _ h fun z => hf o xs (by rw [← z]; exact h)⟩
/-- all but the list at p stands as it stood -/
def But (p : Addr) (H H' : Hp) : Prop := (∃ xs, H p = some (.lst xs)) ∧ ∀ b o, H b = some o → b ≠ p → H' b = some o
theorem But.tp {K : PySem.W.Frag} {p a : Addr} {H H' : Hp} {xs : List V} (e : But p H H') (h : SqT K H a xs) : SqT K H' a xs := by
  obtain ⟨⟨ys, hy⟩, e⟩ := e
  rcases h with h | h
  · exact .inl (rd_other (fun zs z => by rw [hy] at z; cases z) (fun o zs z => by rw [hy] at z; cases z) e h)
  · exact .inr h
mutual
theorem dp_but {K : PySem.W.Frag} {p : Addr} {H H' : Hp} (e : But p H H') : ∀ (d : PyData) (v : V), firm d = true → Dp K H v d → Dp K H' v d
  | .none, _, _, h => by cases h; exact .non
  | .bool b, _, _, h => by cases h; exact .bl b
  | .int i, _, _, h => by cases h; exact .int i
  | .str x, _, _, h => by cases h; exact .str x
  | .list ds, _, f, h => by simp [firm] at f
  | .tuple ds, _, f, h => by
    cases h with
    | tup hs ha => exact .tup (But.tp e hs) (dps_but e ds _ (by simpa [firm] using f) ha)
  | .dict _, _, _, h => by cases h
theorem dps_but {K : PySem.W.Frag} {p : Addr} {H H' : Hp} (e : But p H H') : ∀ (ds : List PyData) (vs : List V), firms ds = true → DpAll K H vs ds → DpAll K H' vs ds
  | [], _, _, h => by cases h; exact .nil
  | d :: ds, _, f, h => by
    have f' : firm d = true ∧ firms ds = true := by simpa [firms] using f
    cases h with
    | cons h1 h2 => exact .cons (dp_but e d _ f'.1 h1) (dps_but e ds _ f'.2 h2)
end
theorem but_upd {H H' : Hp} {p : Addr} {xs ys : List V} (e : Same H H') (h : H p = some (.lst xs)) : But p H (upd H' p (.lst ys)) := ⟨⟨xs, h⟩, fun b o q n => by
  rw [upd_ne n]
  exact e b o q⟩

section
variable {K : PySem.W.Frag} {H : Hp}
theorem dps_len : ∀ {vs : List V} {ds : List PyData}, DpAll K H vs ds → vs.length = ds.length
  | _, _, .nil => rfl
  | _, _, .cons _ h => by rw [List.length_cons, List.length_cons, dps_len h]
theorem dps_app : ∀ {vs ws : List V} {ds es : List PyData}, DpAll K H vs ds → DpAll K H ws es → DpAll K H (vs ++ ws) (ds ++ es)
  | _, _, _, _, .nil, g => g
  | _, _, _, _, .cons h t, g => .cons h (dps_app t g)
theorem dps_at : ∀ {vs : List V} {ds : List PyData} {i : Nat} {v : V}, DpAll K H vs ds → vs[i]? = some v → ∃ d, ds[i]? = some d ∧ Dp K H v d
  | _, _, _, _, .nil, e => by simp at e
  | _, _, 0, _, .cons h _, e => by
    have e := Option.some.inj e
    subst e
    exact ⟨_, rfl, h⟩
  | _, _, i + 1, v, .cons _ t, e => dps_at (i := i) t (by simpa using e)
theorem dps_get : ∀ {vs : List V} {ds : List PyData} {i : Nat} {d : PyData}, DpAll K H vs ds → ds[i]? = some d → ∃ v, vs[i]? = some v ∧ Dp K H v d
  | _, _, _, _, .nil, e => by simp at e
  | _, _, 0, _, .cons h _, e => by
    have e := Option.some.inj e
    subst e
    exact ⟨_, rfl, h⟩
  | _, _, i + 1, v, .cons _ t, e => dps_get (i := i) t (by simpa using e)
theorem dps_take : ∀ {vs : List V} {ds : List PyData} (n : Nat), DpAll K H vs ds → DpAll K H (vs.take n) (ds.take n)
  | _, _, 0, _ => .nil
  | _, _, _ + 1, .nil => .nil
  | _, _, n + 1, .cons h t => .cons h (dps_take n t)
theorem dps_drop : ∀ {vs : List V} {ds : List PyData} (n : Nat), DpAll K H vs ds → DpAll K H (vs.drop n) (ds.drop n)
  | _, _, 0, h => h
  | _, _, _ + 1, .nil => .nil
  | _, _, n + 1, .cons _ t => dps_drop n t
theorem dps_set : ∀ {vs : List V} {ds : List PyData} (n : Nat) {v : V} {d : PyData}, DpAll K H vs ds → Dp K H v d → DpAll K H (vs.set n v) (ds.set n d)
  | _, _, _, _, _, .nil, _ => .nil
  | _, _, 0, _, _, .cons _ t, g => .cons g t
  | _, _, n + 1, _, _, .cons h t, g => .cons h (dps_set n t g)
theorem dps_erase : ∀ {vs : List V} {ds : List PyData} (n : Nat), DpAll K H vs ds → DpAll K H (vs.eraseIdx n) (ds.eraseIdx n)
  | _, _, _, .nil => .nil
  | _, _, 0, .cons _ t => t
  | _, _, n + 1, .cons h t => .cons h (dps_erase n t)
theorem dps_one {v : V} {d : PyData} (h : Dp K H v d) : DpAll K H [v] [d] := .cons h .nil
theorem tup_inv {v : V} {ds : List PyData} (h : Dp K H v (.tuple ds)) : ∃ a xs, v = .ref a ∧ SqT K H a xs ∧ DpAll K H xs ds := by
  cases h with
  | tup hs ha => exact ⟨_, _, rfl, hs, ha⟩
theorem lst_inv {v : V} {ds : List PyData} (h : Dp K H v (.list ds)) : ∃ a xs, v = .ref a ∧ SqL K H a xs ∧ DpAll K H xs ds := by
  cases h with
  | lst hs ha => exact ⟨_, _, rfl, hs, ha⟩
theorem int_inv {v : V} {i : Int} (h : Dp K H v (.int i)) : v = .int i := by cases h; rfl

/-! ### the data of this law -/
/-- a tuple of whole numbers: a run, an effect, a paper -/
def tI (ns : List Int) : PyData := .tuple (ns.map .int)
/-- runs, effects -/
def tR (R : List (List Int)) : List PyData := R.map tI
/-- a word; words -/
def tW (w : List Int × Int) : PyData := .tuple [tI w.1, .int w.2]
def tWs (ws : List (List Int × Int)) : PyData := .tuple (ws.map tW)
theorem dps_ints : ∀ (ns : List Int), DpAll K H (ns.map V.int) (ns.map PyData.int)
  | [] => .nil
  | n :: ns => .cons (.int n) (dps_ints ns)
theorem dps_ints_inv : ∀ {ns : List Int} {vs : List V}, DpAll K H vs (ns.map PyData.int) → vs = ns.map V.int
  | [], _, h => by cases h; rfl
  | n :: ns, _, h => by
    cases h with
    | cons h1 h2 =>
      rw [int_inv h1, dps_ints_inv h2]
      rfl
theorem tI_inv {v : V} {ns : List Int} (h : Dp K H v (tI ns)) : ∃ a, v = .ref a ∧ SqT K H a (ns.map V.int) := by
  obtain ⟨a, xs, e, hs, ha⟩ := tup_inv h
  rw [dps_ints_inv ha] at hs
  exact ⟨a, e, hs⟩
theorem tI_of {a : Addr} {ns : List Int} (h : SqT K H a (ns.map V.int)) : Dp K H (.ref a) (tI ns) := .tup h (dps_ints ns)
theorem tI_new {p : Addr} {ns : List Int} : Dp K (upd H p (.tup (ns.map V.int))) (.ref p) (tI ns) := tI_of (SqT.of upd_same)
end
theorem firms_all : ∀ {ds : List PyData}, (∀ d ∈ ds, firm d = true) → firms ds = true
  | [], _ => by simp [firms]
  | d :: ds, h => by
    simp only [firms, Bool.and_eq_true]
    exact ⟨h d List.mem_cons_self, firms_all fun x hx => h x (List.mem_cons_of_mem _ hx)⟩
theorem firm_int (i : Int) : firm (.int i) = true := by simp [firm]
theorem firm_tup {ds : List PyData} (h : firms ds = true) : firm (.tuple ds) = true := by simpa [firm] using h
theorem firms_ints (ns : List Int) : firms (ns.map PyData.int) = true := firms_all fun d hd => by
  obtain ⟨i, _, rfl⟩ := List.mem_map.mp hd
  exact firm_int i
theorem firm_tI (ns : List Int) : firm (tI ns) = true := firm_tup (firms_ints ns)
theorem firms_tR (R : List (List Int)) : firms (tR R) = true := firms_all fun d hd => by
  obtain ⟨i, _, rfl⟩ := List.mem_map.mp hd
  exact firm_tI i
theorem firm_tW (w : List Int × Int) : firm (tW w) = true := firm_tup (by simp [firms, firm_tI, firm_int])
theorem firms_tWs (ws : List (List Int × Int)) : firms (ws.map tW) = true := firms_all fun d hd => by
  obtain ⟨i, _, rfl⟩ := List.mem_map.mp hd
  exact firm_tW i

/-! ### shapes, sameness -/
mutual
theorem lay_firm : ∀ d : PyData, firm d = true → d.canLay0 = true
  | .none, _ => by simp [PyData.canLay0]
  | .bool _, _ => by simp [PyData.canLay0]
  | .int _, _ => by simp [PyData.canLay0]
  | .str _, h => by simp [firm] at h
  | .list _, h => by simp [firm] at h
  | .tuple ds, h => by simpa [PyData.canLay0] using lay_firms ds (by simpa [firm] using h)
  | .dict _, h => by simp [firm] at h
theorem lay_firms : ∀ ds : List PyData, firms ds = true → PyData.canLayAll0 ds = true
  | [], _ => by simp [PyData.canLayAll0]
  | d :: ds, h => by
    have f' : firm d = true ∧ firms ds = true := by simpa [firms] using h
    simp [PyData.canLayAll0, lay_firm d f'.1, lay_firms ds f'.2]
end
theorem depths_le {k : Nat} : ∀ {ds : List PyData}, (∀ d ∈ ds, d.depth ≤ k) → PyData.depthAll ds ≤ k
  | [], _ => by simp [PyData.depthAll]
  | d :: ds, h => by
    have h1 := h d List.mem_cons_self
    have h2 := depths_le (ds := ds) fun x hx => h x (List.mem_cons_of_mem _ hx)
    simp only [PyData.depthAll]
    omega
theorem depth_tup {k : Nat} {ds : List PyData} (h : ∀ d ∈ ds, d.depth ≤ k) : (PyData.tuple ds).depth ≤ k + 1 := by
  have := depths_le h
  simp only [PyData.depth]
  omega
theorem depth_int (i : Int) : (PyData.int i).depth = 0 := by simp [PyData.depth]
theorem depth_tI (ns : List Int) : (tI ns).depth ≤ 1 := depth_tup fun d hd => by
  obtain ⟨i, _, rfl⟩ := List.mem_map.mp hd
  exact Nat.le_of_eq (depth_int i)
theorem depth_tR (R : List (List Int)) : ∀ d ∈ tR R, d.depth ≤ 1 := fun d hd => by
  obtain ⟨i, _, rfl⟩ := List.mem_map.mp hd
  exact depth_tI i
theorem depth_tW (w : List Int × Int) : (tW w).depth ≤ 2 := depth_tup fun d hd => by
  have : d = tI w.1 ∨ d = .int w.2 := by simpa using hd
  rcases this with rfl | rfl
  · exact depth_tI _
  · rw [depth_int]; omega
theorem depth_tWs (ws : List (List Int × Int)) : ∀ d ∈ ws.map tW, d.depth ≤ 2 := fun d hd => by
  obtain ⟨i, _, rfl⟩ := List.mem_map.mp hd
  exact depth_tW i
theorem shape_of {d : PyData} (h : d.canLay0 = true) (k : d.depth ≤ 64) : SeqAt.shaped d = true := by
  unfold SeqAt.shaped
  rw [Bool.and_eq_true]
  exact ⟨h, decide_eq_true k⟩
theorem shape_tI (ns : List Int) : SeqAt.shaped (tI ns) = true := shape_of (lay_firm _ (firm_tI ns)) (Nat.le_trans (depth_tI ns) (by decide))
theorem shape_tR (R : List (List Int)) : SeqAt.shaped (.tuple (tR R)) = true := shape_of (lay_firm _ (firm_tup (firms_tR R))) (Nat.le_trans (depth_tup (depth_tR R)) (by decide))
theorem shape_lR (R : List (List Int)) : SeqAt.shaped (.list (tR R)) = true := by
  refine shape_of (by simpa [PyData.canLay0] using lay_firms _ (firms_tR R)) ?_
  have := depths_le (depth_tR R)
  simp only [PyData.depth]
  omega
theorem eqvs_map {α : Type} [DecidableEq α] {f : α → PyData} (h : ∀ a b, PyData.eqv (f a) (f b) = decide (a = b)) : ∀ (l m : List α), PyData.eqvAll (l.map f) (m.map f) = decide (l = m)
  | [], [] => by simp [PyData.eqvAll]
  | [], _ :: _ => by simp [PyData.eqvAll]
  | _ :: _, [] => by simp [PyData.eqvAll]
  | a :: l, b :: m => by
    simp only [List.map_cons, PyData.eqvAll, h, eqvs_map h l m, List.cons.injEq]
    by_cases e : a = b <;> by_cases e2 : l = m <;> simp [e, e2]
theorem eqv_int (a b : Int) : PyData.eqv (.int a) (.int b) = decide (a = b) := by
  simp only [PyData.eqv]
  exact Bool.beq_eq_decide_eq a b
theorem eqv_tI (a b : List Int) : PyData.eqv (tI a) (tI b) = decide (a = b) := by
  show PyData.eqv (.tuple _) (.tuple _) = _
  simp only [PyData.eqv]
  exact eqvs_map eqv_int a b
theorem eqv_tR (a b : List (List Int)) : PyData.eqv (.tuple (tR a)) (.tuple (tR b)) = decide (a = b) := by
  simp only [PyData.eqv]
  exact eqvs_map eqv_tI a b
theorem eqv_lR (a b : List (List Int)) : PyData.eqv (.list (tR a)) (.list (tR b)) = decide (a = b) := by
  simp only [PyData.eqv]
  exact eqvs_map eqv_tI a b
theorem any_tR (r : List Int) (R : List (List Int)) : ((tR R).any fun z => PyData.eqv z (tI r)) = decide (r ∈ R) := by
  unfold tR
  rw [List.any_map]
  simp only [Function.comp_def, eqv_tI]
  by_cases h : r ∈ R
  · rw [decide_eq_true h, List.any_eq_true]
    exact ⟨r, h, decide_eq_true rfl⟩
  · rw [decide_eq_false h, List.any_eq_false]
    intro x hx e
    exact h (by rw [← of_decide_eq_true e]; exact hx)
end K31W
set_option Elab.async false
set_option linter.all false
set_option maxRecDepth 100000
set_option maxHeartbeats 4000000
/-! K31Iter: enumerate of a tuple, zip of three tuples, as walks. -/
namespace K31W
open PySem PySem.Spec PyProof.Rows L2
open Sem (wp)

/-! ### enumerate(t), t a tuple -/
theorem meets_enum1 {v : Value} {o : Obj} {Hh : Heap → Prop} (B : Begins v o Hh) :
    Meets (Builtin.«enumerate.__new__» ⟨[.type "enumerate", v], []⟩) (fun _ R s => Hh s.heap ∧ R (.ok (.ret (.ref (s.heap.push o).objs.size)))
      { s with heap := (s.heap.push o).push { cls := .type "enumerate", data := .fields #[.none, .bool false, .ref s.heap.objs.size, rawInt 0, .none, .none] } }) :=
  .of_wp fun prog w A R s hyp => by
    obtain ⟨hp0, gg, dd, tk0, oss⟩ := s
    obtain ⟨hh1, hyp⟩ := hyp
    have sube := sub_enumerate
    have beg : ∀ {A' : Around} {E' : Value → Shared → Prop} {Q' : Value → Shared → Prop}, Q' (.ref hp0.objs.size) ⟨hp0.push o, gg, dd, tk0, oss⟩ → wpAny (model prog w) A' (pyIter v) Q' E' ⟨hp0, gg, dd, tk0, oss⟩ :=
      fun q => B.iter prog w _ _ ⟨hp0, gg, dd, tk0, oss⟩ _ hh1 q
    wp_walk using beg
    refine wpAny_stack_any fun st0 => wpAny_pure ?_
    split
    · rename_i c0 _ _ _ _ _
      cases (c0 == Value.type "enumerate") <;> (wp_walk using beg; exact ⟨_, rfl, hyp⟩)
    · wp_walk using beg
      exact ⟨_, rfl, hyp⟩
theorem enum1_begins {prog : Program} {w : World} {A : Around} {E : Value → Shared → Prop} {s : Shared} {v : Value} {o : Obj} {Hh : Heap → Prop} {Q : Value → Shared → Prop} (B : Begins v o Hh) (h1 : Hh s.heap)
    (h : ∀ h', IsEnum h' (s.heap.objs.size + 1) s.heap.objs.size 0 .none → h'.get? s.heap.objs.size = some o → (∀ b ob, s.heap.get? b = some ob → h'.get? b = some ob) → Q (.ref (s.heap.objs.size + 1)) { s with heap := h' }) :
    wpAny (model prog w) A (call (.type "enumerate") [v]) Q E s := by
  refine callType_new F.called_enumerate (by decide) (F.typeCall_enumerate_1 _) (F.newCall_enumerate_1 _) (fun ob => F.args_object_init_2 ob _) F.entry_enumerate_new (meets_enum1 B) ⟨h1, ?_⟩
  have sz : (s.heap.push o).objs.size = s.heap.objs.size + 1 := Heap.size_push ..
  show _ ∧ _
  rw [sz]
  have top := Heap.get?_push_size (s.heap.push o) (o := { cls := .type "enumerate", data := .fields #[.none, .bool false, .ref s.heap.objs.size, rawInt 0, .none, .none] }) rfl
  rw [sz] at top
  exact ⟨⟨_, top, rfl⟩, h _ top (Heap.get?_push_of_some _ (Heap.get?_push_size _ B.free)) fun b ob x => Heap.get?_push_of_some _ (Heap.get?_push_of_some _ x)⟩

/-- the tuple at a, each item in a new pair with its place -/
def ItEnT (K : PySem.W.Frag) (a : Addr) : It :=
  ⟨fun i H => ∃ (xs : List V) (x : V), SqT K H a xs ∧ xs[i]? = some x,
   fun i H v H' => ∃ T x, v = .ref T ∧ H T = none ∧ H' = upd H T (.tup [.int (i : Nat), x]) ∧ ∀ xs, SqT K H a xs → xs[i]? = some x,
   fun i H => ∃ xs : List V, SqT K H a xs ∧ xs.length = i⟩
theorem isTuple_of {h : Heap} {a : Addr} {items : Array Value} (p : IsTup h a items) : h.IsTuple a items := p
theorem pair_ok {P : Program} {w : World} {H : Hp} {h : Heap} {T : Addr} {us : List Value} {xs : List V} (r : Vals xs us) (hz : xs.length ≤ sizeLine) (hT : h.IsTuple T us.toArray) : ObjOk P w (upd H T (.tup xs)) h T (.tup xs) := ⟨hz, us, r, hT⟩
theorem enum_apart {h : Heap} {a e it : Addr} {c : Int} {old : Value} {items : Array Value} {k : Nat} (he : IsEnum h e it c old) (hi : h.IsTupleIter it a k) (ht : h.IsTuple a items) : a ≠ e ∧ a ≠ it := by
  obtain ⟨o, ho, hc, n, hd⟩ := ht
  constructor
  · rintro rfl
    have e1 : some o = _ := ho.symm.trans he
    cases e1
    cases hd
  · rintro rfl
    obtain ⟨o2, ho2, hc2, hd2⟩ := hi
    have e1 : some o = some o2 := ho.symm.trans ho2
    cases e1
    rw [hd] at hd2
    cases hd2
theorem turn_enT {P : Program} {w : World} {K : PySem.W.Frag} {elts : List Expr} {kk : Nat} {tpos : Pos} (a e it : Addr) :
    Turn P w K (.Tuple elts kk tpos) (ItEnT K a) [e, it] e (fun i h => (∃ old, IsEnum h e it (0 + ((i : Nat) : Int)) old) ∧ h.IsTupleIter it a i ∧ e ≠ it) where
  mem := by simp
  obj := fun i h st b hb => by
    obtain ⟨⟨old, he⟩, ⟨o, ho, hc, hd⟩, _⟩ := st
    have z : b = e ∨ b = it := by simpa using hb
    rcases z with rfl | rfl
    · exact ⟨_, he, fun v q => nomatch q⟩
    · exact ⟨o, ho, fun v q => by rw [hd] at q; cases q⟩
  keep := fun i h h' st k => by
    obtain ⟨⟨old, he⟩, hi, ne⟩ := st
    exact ⟨⟨old, k e (by simp) _ he⟩, hi.at fun o q => k it (by simp) o q, ne⟩
  item := by
    intro X hP hw hK hc i pins s σ H E I hf st hg
    subst hP hw hK
    obtain ⟨⟨old, he⟩, hit, ne⟩ := st
    obtain ⟨xs, x, hq, hx⟩ := hg
    obtain ⟨its, rv, pt, hz⟩ := I.tuple hq
    obtain ⟨u, hu, ru⟩ := rv.get hx
    have ht : s.heap.IsTuple a its.toArray := pt
    obtain ⟨nae, nai⟩ := enum_apart he hit ht
    have W := WalksT.enumFrom (prog := X.prog) (w := X.w) (A := X.A) 0 (Draws.tuple (A := X.A.in1) (I.ok.hd hc) it a nai its.toArray) e ne (by
      intro z
      have : e = it ∨ e = a := by simpa using z
      exact this.elim ne fun q => nae q.symm) (by simp)
    have hlt : i < its.toArray.size := by
      obtain ⟨l, _⟩ := List.getElem?_eq_some_iff.mp hu
      simpa using l
    refine W.item i s _ E hlt ⟨⟨old, he⟩, hit, ht⟩ fun T vals h' tk hp hT hTup mid hk => ?_
    obtain ⟨t, y, hy, rfl⟩ := hp
    have ey : y = u := by
      have : its[i]? = some y := by simpa using hy
      exact Option.some.inj (this.symm.trans hu)
    subst ey
    refine ⟨_, rfl, W.go elts kk tpos i T _ _ E mid fun h2 st2 hk2 => ?_⟩
    have kept : ∀ b ob, b ∉ [e, it] → s.heap.get? b = some ob → h2.get? b = some ob := fun b ob hb q => hk2 b ob hb (hk b ob hb q)
    have tn : T ∉ [e, it] := W.apart i T h' mid
    have hTup2 : h2.IsTuple T #[.int (0 + (i : Int)) t, y] := hTup.at fun o q => hk2 T o tn q
    have hTup3 : h2.IsTuple T ([.int ((i : Nat) : Int) t, y] : List Value).toArray := by
      rw [show (i : Int) = 0 + (i : Int) by omega]
      exact hTup2
    have new : ObjOk X.prog X.w (upd H T (.tup [.int (i : Nat), x])) h2 T (.tup [.int (i : Nat), x]) := pair_ok (.cons ⟨_, rfl⟩ (.cons ru .nil)) (by show 2 ≤ sizeLine; decide) hTup3
    refine ⟨.ref T, _, I.turnedNew (t' := tk) kept hf hT new, rfl, ⟨T, x, rfl, I.hok.fresh hT, rfl, fun ys hy => by rw [I.tuple_inj hy hq]; exact hx⟩, ⟨st2.1, st2.2.1, ne⟩, fun b hb => ?_⟩
    rw [upd_ne fun z => tn (by rw [← z]; exact hb)]
    exact (hf b hb).1
  done := by
    intro X hP hw hK hc i pins s σ H E I hf st hg
    subst hP hw hK
    obtain ⟨⟨old, he⟩, hit, ne⟩ := st
    obtain ⟨xs, hq, hx⟩ := hg
    obtain ⟨its, rv, pt, hz⟩ := I.tuple hq
    have ht : s.heap.IsTuple a its.toArray := pt
    have hl := rv.length
    obtain ⟨f0, f1, f2, f3, f4, f5⟩ := hf it (by simp)
    have hle : its.toArray.size = i := by rw [List.size_toArray]; omega
    have D := Draws.tuple (prog := X.prog) (w := X.w) (A := X.A.in1) (I.ok.hd hc) it a (enum_apart he hit ht).2 its.toArray
    rw [hle] at D
    exact wpAny_pyNext_enum_endD D he ⟨hit, ht⟩ fun h' hx' => ⟨rfl, I.turned (t' := s.toks) (fun b o hb q => hx' b o hb q) f0 f1 f3 f4 f5⟩
  self := fun A i s Q E st h => by
    obtain ⟨⟨old, he⟩, _⟩ := st
    exact wpAny_pyIter_enum he h
def iEnT (K : PySem.W.Frag) (ta : TA) : TI := fun σ H R => ta σ H fun vs H1 => ∃ a xs, vs = [.ref a] ∧ SqT K H1 a xs ∧ R (ItEnT K a) H1
theorem pi_enT {X : Cx} {e : Expr} {ta : TA} {p pos tpos : Pos} {elts : List Expr} {kk : Nat} (hg : Gl X "enumerate") (hm : X.mg "enumerate" = none) (ha : PA X [e] ta) (hs : starEach [e] X.env = [(false, eval e X.env)] := by rfl) :
    PI X (.Tuple elts kk tpos) (.Call (.Name "enumerate" p) [e] [] pos) (iEnT X.K ta) := by
  refine ⟨fun pins s σ H R I h => ?_⟩
  refine Call_ (ld_blt I hg hm boot_enumerate (PyProof.Rows.callWith_type1 (thn (ha.run pos pins s σ H _ I h) fun us s1 ⟨vs, H1, I1, r1, q1⟩ => ?_) hs rfl))
  obtain ⟨a, xs, rfl, hq, q⟩ := q1
  cases r1 with
  | cons r rr =>
    cases rr
    cases r
    obtain ⟨its, rv, pt, hz⟩ := I1.tuple hq
    have ht : s1.heap.IsTuple a its.toArray := pt
    have lt : a < s1.heap.objs.size := by
      obtain ⟨o, ho, _⟩ := ht
      exact Heap.lt_size ho
    refine enum1_begins (begins_tuple a its.toArray) ht fun h' he hit hk => wpAny_pyIter_enum he ?_
    refine ⟨s1.heap.objs.size + 1, [s1.heap.objs.size + 1, s1.heap.objs.size], _, _, H1, rfl, I1.kept (t' := s1.toks) hk, turn_enT a (s1.heap.objs.size + 1) s1.heap.objs.size, ⟨⟨.none, he⟩, ⟨_, hit, rfl, rfl⟩, Nat.succ_ne_self _⟩, fun b hb => ?_, q⟩
    have z : b = s1.heap.objs.size + 1 ∨ b = s1.heap.objs.size := by simpa using hb
    have le : s1.heap.objs.size ≤ b := by
      rcases z with z | z <;> rw [z]
      · exact Nat.le_succ _
      · exact Nat.le_refl _
    exact I1.fpOk le (I1.hok.fresh le)
theorem walk_enT {K : PySem.W.Frag} {a : Addr} {xs : List V} : Walk (ItEnT K a) xs.length (fun H => SqT K H a xs) (YPair (fun i => some (.int (i : Nat))) (fun i => xs[i]?)) := by
  refine ⟨fun i _ hi q => ⟨xs, xs[i], q, by simp [hi]⟩, fun _ q => ⟨xs, q, rfl⟩, fun i H v H' _ q y => ?_⟩
  obtain ⟨T, x, h1, h2, h3, h4⟩ := y
  exact ⟨T, .int (i : Nat), x, h1, h2, h3, rfl, h4 xs q⟩

/-! ### zip(t, u, v), three tuples -/
/-- a new triple of the three tuples' items at the turn's place -/
def ItZ3 (K : PySem.W.Frag) (a b c : Addr) : It :=
  ⟨fun i H => ∃ (xs ys zs : List V) (x y z : V), SqT K H a xs ∧ SqT K H b ys ∧ SqT K H c zs ∧ xs[i]? = some x ∧ ys[i]? = some y ∧ zs[i]? = some z,
   fun i H v H' => ∃ T x y z, v = .ref T ∧ H T = none ∧ H' = upd H T (.tup [x, y, z]) ∧ (∀ xs, SqT K H a xs → xs[i]? = some x) ∧ (∀ ys, SqT K H b ys → ys[i]? = some y) ∧ ∀ zs, SqT K H c zs → zs[i]? = some z,
   fun i H => ∃ xs ys zs : List V, SqT K H a xs ∧ SqT K H b ys ∧ SqT K H c zs ∧ min (min xs.length ys.length) zs.length = i⟩
/-- the cells of such a zip lie apart, and apart from the tuples -/
structure Z3Ap (z TI TO i1 i2 i3 a b c : Addr) : Prop where
  sep : ZipSep3 z TI TO i1 i2 i3 [i1, a] [i2, b] [i3, c]
  na : a ≠ i1
  nb : b ≠ i2
  nc : c ≠ i3
theorem turn_z3 {P : Program} {w : World} {K : PySem.W.Frag} {elts : List Expr} {kk : Nat} {tpos : Pos} {a b c z TI TO i1 i2 i3 : Addr} (D : Z3Ap z TI TO i1 i2 i3 a b c) :
    Turn P w K (.Tuple elts kk tpos) (ItZ3 K a b c) [z, TI, TO, i1, i2, i3] z
      (fun i h => IsZip h z TI TO .none ∧ IsTupOf3 h TI (.ref i1) (.ref i2) (.ref i3) ∧ (∃ q1 q2 q3, IsTupOf3 h TO q1 q2 q3) ∧ h.IsTupleIter i1 a i ∧ h.IsTupleIter i2 b i ∧ h.IsTupleIter i3 c i) where
  mem := by simp
  obj := fun i h st d hd => by
    obtain ⟨hz, hTI, ⟨_, _, _, hTO⟩, ⟨o1, g1, _, d1⟩, ⟨o2, g2, _, d2⟩, o3, g3, _, d3⟩ := st
    have z : d = z ∨ d = TI ∨ d = TO ∨ d = i1 ∨ d = i2 ∨ d = i3 := by simpa using hd
    rcases z with rfl | rfl | rfl | rfl | rfl | rfl
    · exact ⟨_, hz, fun v q => nomatch q⟩
    · exact ⟨_, hTI, fun v q => nomatch q⟩
    · exact ⟨_, hTO, fun v q => nomatch q⟩
    · exact ⟨o1, g1, fun v q => by rw [d1] at q; cases q⟩
    · exact ⟨o2, g2, fun v q => by rw [d2] at q; cases q⟩
    · exact ⟨o3, g3, fun v q => by rw [d3] at q; cases q⟩
  keep := fun i h h' st k => by
    obtain ⟨hz, hTI, ⟨_, _, _, hTO⟩, g1, g2, g3⟩ := st
    exact ⟨k z (by simp) _ hz, k TI (by simp) _ hTI, ⟨_, _, _, k TO (by simp) _ hTO⟩, g1.at fun o q => k i1 (by simp) o q, g2.at fun o q => k i2 (by simp) o q, g3.at fun o q => k i3 (by simp) o q⟩
  item := by
    intro X hP hw hK hc i pins s σ H E I hf st hg
    subst hP hw hK
    obtain ⟨hz, hTI, hTO, g1, g2, g3⟩ := st
    obtain ⟨xs, ys, zs, x, y, v, hx, hy, hv, ex, ey, ev⟩ := hg
    obtain ⟨us1, r1, p1, z1⟩ := I.tuple hx
    obtain ⟨us2, r2, p2, z2⟩ := I.tuple hy
    obtain ⟨us3, r3, p3, z3⟩ := I.tuple hv
    obtain ⟨u1, hu1, ru1⟩ := r1.get ex
    obtain ⟨u2, hu2, ru2⟩ := r2.get ey
    obtain ⟨u3, hu3, ru3⟩ := r3.get ev
    have t1 : s.heap.IsTuple a us1.toArray := p1
    have t2 : s.heap.IsTuple b us2.toArray := p2
    have t3 : s.heap.IsTuple c us3.toArray := p3
    have W := WalksT.zipD3 (prog := X.prog) (w := X.w) (A := X.A) D.sep (Draws.tuple (A := X.A.in1) (I.ok.hd hc) i1 a D.na us1.toArray) (Draws.tuple (A := X.A.in1) (I.ok.hd hc) i2 b D.nb us2.toArray) (Draws.tuple (A := X.A.in1) (I.ok.hd hc) i3 c D.nc us3.toArray)
    have hlt : i < min (min us1.toArray.size us2.toArray.size) us3.toArray.size := by
      obtain ⟨l1, _⟩ := List.getElem?_eq_some_iff.mp hu1
      obtain ⟨l2, _⟩ := List.getElem?_eq_some_iff.mp hu2
      obtain ⟨l3, _⟩ := List.getElem?_eq_some_iff.mp hu3
      simp only [List.size_toArray]
      omega
    refine W.item i s _ E hlt ⟨hz, hTI, hTO, ⟨g1, t1⟩, ⟨g2, t2⟩, g3, t3⟩ fun T vals h' tk hp hT hTup mid hk => ?_
    obtain ⟨w1, w2, w3, e1, e2, e3, rfl⟩ := hp
    have f1 : w1 = u1 := by
      have : us1[i]? = some w1 := by simpa using e1
      exact Option.some.inj (this.symm.trans hu1)
    have f2 : w2 = u2 := by
      have : us2[i]? = some w2 := by simpa using e2
      exact Option.some.inj (this.symm.trans hu2)
    have f3 : w3 = u3 := by
      have : us3[i]? = some w3 := by simpa using e3
      exact Option.some.inj (this.symm.trans hu3)
    subst f1 f2 f3
    refine ⟨_, rfl, W.go elts kk tpos i T _ _ E mid fun h2 st2 hk2 => ?_⟩
    have sub : ∀ d, d ∈ [z, TO, i1, i2, i3] → d ∈ [z, TI, TO, i1, i2, i3] := fun d hd => by
      have : d = z ∨ d = TO ∨ d = i1 ∨ d = i2 ∨ d = i3 := by simpa using hd
      rcases this with rfl | rfl | rfl | rfl | rfl <;> simp
    have kept : ∀ d ob, d ∉ [z, TO, i1, i2, i3] → s.heap.get? d = some ob → h2.get? d = some ob := fun d ob hb q => hk2 d ob hb (hk d ob hb q)
    have tn : T ∉ [z, TO, i1, i2, i3] := W.apart i T h' mid
    have hTup2 : h2.IsTuple T ([w1, w2, w3] : List Value).toArray := hTup.at fun o q => hk2 T o tn q
    have new : ObjOk X.prog X.w (upd H T (.tup [x, y, v])) h2 T (.tup [x, y, v]) := pair_ok (.cons ru1 (.cons ru2 (.cons ru3 .nil))) (by show 3 ≤ sizeLine; decide) hTup2
    refine ⟨.ref T, _, I.turnedNew (t' := tk) kept (fun d hd => hf d (sub d hd)) hT new, rfl, ⟨T, x, y, v, rfl, I.hok.fresh hT, rfl, fun q hq => by rw [I.tuple_inj hq hx]; exact ex, fun q hq => by rw [I.tuple_inj hq hy]; exact ey, fun q hq => by rw [I.tuple_inj hq hv]; exact ev⟩,
      ⟨st2.1, st2.2.1, st2.2.2.1, st2.2.2.2.1.1, st2.2.2.2.2.1.1, st2.2.2.2.2.2.1⟩, fun d hd => ?_⟩
    have nT : d ≠ T := by
      rintro rfl
      have l : d ≠ TI → False := fun nd => tn (by
        have : d = z ∨ d = TI ∨ d = TO ∨ d = i1 ∨ d = i2 ∨ d = i3 := by simpa using hd
        rcases this with q | q | q | q | q | q
        · simp [q]
        · exact absurd q nd
        · simp [q]
        · simp [q]
        · simp [q]
        · simp [q])
      by_cases e : d = TI
      · subst e
        exact absurd (Nat.lt_of_lt_of_le (Heap.lt_size hTI) hT) (Nat.lt_irrefl _)
      · exact l e
    rw [upd_ne nT]
    exact (hf d hd).1
  done := by
    intro X hP hw hK hc i pins s σ H E I hf st hg
    subst hP hw hK
    obtain ⟨hz, hTI, hTO, g1, g2, g3⟩ := st
    obtain ⟨xs, ys, zs, hx, hy, hv, hn⟩ := hg
    obtain ⟨us1, r1, p1, z1⟩ := I.tuple hx
    obtain ⟨us2, r2, p2, z2⟩ := I.tuple hy
    obtain ⟨us3, r3, p3, z3⟩ := I.tuple hv
    have t1 : s.heap.IsTuple a us1.toArray := p1
    have t2 : s.heap.IsTuple b us2.toArray := p2
    have t3 : s.heap.IsTuple c us3.toArray := p3
    have W := WalksT.zipD3 (prog := X.prog) (w := X.w) (A := X.A) D.sep (Draws.tuple (A := X.A.in1) (I.ok.hd hc) i1 a D.na us1.toArray) (Draws.tuple (A := X.A.in1) (I.ok.hd hc) i2 b D.nb us2.toArray) (Draws.tuple (A := X.A.in1) (I.ok.hd hc) i3 c D.nc us3.toArray)
    have hn' : min (min us1.toArray.size us2.toArray.size) us3.toArray.size = i := by
      have l1 := r1.length
      have l2 := r2.length
      have l3 := r3.length
      simp only [List.size_toArray]
      omega
    rw [hn'] at W
    refine W.done s _ E ⟨hz, hTI, hTO, ⟨g1, t1⟩, ⟨g2, t2⟩, g3, t3⟩ fun h' tk hk => ⟨rfl, ?_⟩
    have sub : ∀ d, d ∈ [z, TO, i1, i2, i3] → d ∈ [z, TI, TO, i1, i2, i3] := fun d hd => by
      have : d = z ∨ d = TO ∨ d = i1 ∨ d = i2 ∨ d = i3 := by simpa using hd
      rcases this with rfl | rfl | rfl | rfl | rfl <;> simp
    have nit : ∀ d u, H d = some u → d ∉ [z, TO, i1, i2, i3] := fun d u e zd => by
      have q := (hf d (sub d zd)).1
      rw [q] at e
      cases e
    refine I.step (g' := s.gens) (d' := s.drawn) (ch := [z, TO, i1, i2, i3]) (fun d hd => ?_) (fun d o _ _ hc e _ => hk d o hc e) (fun d o _ _ hc e _ => ⟨o.slots, hk d o hc e⟩) (fun d o _ _ n => n) (fun d o hc e => ⟨o, hk d o hc e⟩) (fun d xs e => e) (fun d o u e => e) (fun d ps e => ⟨#[], by rw [e]; simp⟩) (fun m hm => ?_) (fun d u e => ?_) I.bare
    · obtain ⟨f0, f1, f2, f3, f4, f5⟩ := hf d (sub d hd)
      exact ⟨f3, f1, f4, f5⟩
    · obtain ⟨o, es, ep, ho, r⟩ := hm
      exact ⟨o, es, ep, hk _ o (fun zd => (hf _ (sub _ zd)).2.1 rfl) ho, r⟩
    · refine (I.hok d u e).stay (fun q v hq' r => hk q v ?_ r) (fun _ q => q) fun _ _ q => q
      rcases hq' with rfl | hq'
      · exact nit _ u e
      · exact nit _ _ hq'
  self := fun A i s Q E st h => wpAny_pyIter_zip st.1 h
theorem z3_ap (N a b c : Addr) (ha : a < N) (hb : b < N) (hc : c < N) : Z3Ap (N + 5) (N + 3) (N + 4) N (N + 1) (N + 2) a b c :=
  ⟨zip_sep3 (N := N) (fp1 := [a]) (fp2 := [b]) (fp3 := [c]) (fun d hd => by rw [List.mem_singleton.mp hd]; exact ha) (fun d hd => by rw [List.mem_singleton.mp hd]; exact hb) (fun d hd => by rw [List.mem_singleton.mp hd]; exact hc),
   Nat.ne_of_lt ha, Nat.ne_of_lt (Nat.lt_add_right 1 hb), Nat.ne_of_lt (Nat.lt_add_right 2 hc)⟩
def iZ3 (K : PySem.W.Frag) (ta : TA) : TI := fun σ H R => ta σ H fun vs H1 => ∃ a b c xs ys zs, vs = [.ref a, .ref b, .ref c] ∧ SqT K H1 a xs ∧ SqT K H1 b ys ∧ SqT K H1 c zs ∧ R (ItZ3 K a b c) H1
theorem pi_z3 {X : Cx} {e e2 e3 : Expr} {ta : TA} {p pos tpos : Pos} {elts : List Expr} {kk : Nat} (hg : Gl X "zip") (hm : X.mg "zip" = none) (ha : PA X [e, e2, e3] ta)
    (hs : starEach [e, e2, e3] X.env = (false, eval e X.env) :: starEach [e2, e3] X.env := by rfl) (hpl : (backTo pos (starEach [e2, e3] X.env)).any (·.1) = false := by rfl) :
    PI X (.Tuple elts kk tpos) (.Call (.Name "zip" p) [e, e2, e3] [] pos) (iZ3 X.K ta) := by
  refine ⟨fun pins s σ H R I h => ?_⟩
  refine Call_ (ld_blt I hg hm PyProof.Rows.boot_zip (PyProof.Rows.callWith_type1 (thn (ha.run pos pins s σ H _ I h) fun us s1 ⟨vs, H1, I1, r1, q1⟩ => ?_) hs hpl))
  obtain ⟨a, b, c, xs, ys, zs, rfl, hx, hy, hv, q⟩ := q1
  cases r1 with
  | cons r rr =>
    cases rr with
    | cons r' rr =>
      cases rr with
      | cons r'' rr =>
        cases rr
        cases r
        cases r'
        cases r''
        obtain ⟨us1, _, p1, _⟩ := I1.tuple hx
        obtain ⟨us2, _, p2, _⟩ := I1.tuple hy
        obtain ⟨us3, _, p3, _⟩ := I1.tuple hv
        have t1 : s1.heap.IsTuple a us1.toArray := p1
        have t2 : s1.heap.IsTuple b us2.toArray := p2
        have t3 : s1.heap.IsTuple c us3.toArray := p3
        have lt : ∀ {d : Addr} {us : Array Value}, s1.heap.IsTuple d us → d < s1.heap.objs.size := fun t => by
          obtain ⟨o, ho, _⟩ := t
          exact Heap.lt_size ho
        refine zip_begins3 (begins_tuple a us1.toArray) (begins_tuple b us2.toArray) (begins_tuple c us3.toArray) t1 t2 t3 fun h' hz hTI hTO g1 g2 g3 _ hk => wpAny_pyIter_zip hz ?_
        refine ⟨s1.heap.objs.size + 5, [s1.heap.objs.size + 5, s1.heap.objs.size + 3, s1.heap.objs.size + 4, s1.heap.objs.size, s1.heap.objs.size + 1, s1.heap.objs.size + 2], _, _, H1, rfl, I1.kept (t' := s1.toks) hk,
          turn_z3 (z3_ap _ a b c (lt t1) (lt t2) (lt t3)), ⟨hz, hTI, ⟨_, _, _, hTO⟩, ⟨_, g1, rfl, rfl⟩, ⟨_, g2, rfl, rfl⟩, _, g3, rfl, rfl⟩, fun d hd => ?_, q⟩
        have z : d = s1.heap.objs.size + 5 ∨ d = s1.heap.objs.size + 3 ∨ d = s1.heap.objs.size + 4 ∨ d = s1.heap.objs.size ∨ d = s1.heap.objs.size + 1 ∨ d = s1.heap.objs.size + 2 := by simpa using hd
        have le : s1.heap.objs.size ≤ d := by
          rcases z with z | z | z | z | z | z <;> rw [z] <;> first | exact Nat.le_add_right _ _ | exact Nat.le_refl _
        exact I1.fpOk le (I1.hok.fresh le)
/-- what it gives at turn i -/
def YTri (xs ys zs : Nat → Option V) : Nat → Hp → V → Hp → Prop := fun i H v H' => ∃ T x y z, v = .ref T ∧ H T = none ∧ H' = upd H T (.tup [x, y, z]) ∧ xs i = some x ∧ ys i = some y ∧ zs i = some z
theorem walk_z3 {K : PySem.W.Frag} {a b c : Addr} {xs ys zs : List V} {n : Nat} (hn : min (min xs.length ys.length) zs.length = n) :
    Walk (ItZ3 K a b c) n (fun H => SqT K H a xs ∧ SqT K H b ys ∧ SqT K H c zs) (YTri (fun i => xs[i]?) (fun i => ys[i]?) fun i => zs[i]?) := by
  subst hn
  refine ⟨fun i _ hi q => ?_, fun _ q => ⟨xs, ys, zs, q.1, q.2.1, q.2.2, rfl⟩, fun i H v H' _ q y => ?_⟩
  · have h1 : i < xs.length := by omega
    have h2 : i < ys.length := by omega
    have h3 : i < zs.length := by omega
    exact ⟨xs, ys, zs, xs[i], ys[i], zs[i], q.1, q.2.1, q.2.2, by simp [h1], by simp [h2], by simp [h3]⟩
  · obtain ⟨T, x, z, u, h1, h2, h3, h4, h5, h6⟩ := y
    exact ⟨T, x, z, u, h1, h2, h3, h4 xs q.1, h5 ys q.2.1, h6 zs q.2.2⟩
theorem walk_zT {K : PySem.W.Frag} {a b : Addr} {xs ys : List V} {n : Nat} (hn : n = min xs.length ys.length) : Walk (RZ.ItzT K a b) n (fun H => SqT K H a xs ∧ SqT K H b ys) (YPair (fun i => xs[i]?) fun i => ys[i]?) := by
  subst hn
  refine ⟨fun i _ hi q => ?_, fun _ q => ⟨xs, ys, q.1, q.2, by omega⟩, fun i H v H' _ q y => ?_⟩
  · have h1 : i < xs.length := by omega
    have h2 : i < ys.length := by omega
    exact ⟨xs, ys, xs[i], ys[i], q.1, q.2, by simp [h1], by simp [h2]⟩
  · obtain ⟨T, x, z, h1, h2, h3, h4, h5⟩ := y
    exact ⟨T, x, z, h1, h2, h3, h4 xs q.1, h5 ys q.2⟩
end K31W
set_option Elab.async false
set_option linter.all false
set_option maxRecDepth 100000
set_option maxHeartbeats 4000000
/-! K31Sort: sorted(..) of a list or a tuple of tuples of whole numbers, of any lengths. -/
namespace K31W
open PySem PySem.Spec PyProof.Rows L2 PySem.W
open Sem (wp)

theorem lex_same : ∀ a b : List Int, HT.lexLt a b = K31.lexLt a b
  | [], [] => rfl
  | [], _ :: _ => rfl
  | _ :: _, [] => rfl
  | x :: xs, y :: ys => by
    unfold HT.lexLt K31.lexLt
    rw [lex_same xs ys]

section
variable {prog : Program} {w : World} {A : Around} {E : Value → Shared → Prop} {s : Shared}

/-- list(t) of a tuple, as sorted begins with it -/
theorem collect_tup {t : Addr} {vs : List Value} {Q : List Value → Shared → Prop} (ht : s.heap.IsTuple t vs.toArray) (hsz : vs.length ≤ sizeLine)
    (h : Q vs { s with heap := (s.heap.push (seqObj "list" #[] 0)).update s.heap.objs.size (Obj.mapSeq (· ++ vs.toArray)) }) : wpAny (model prog w) A (collect (.ref t)) Q E s := by
  obtain ⟨ob, hob, hcl, m, hdt⟩ := id ht
  unfold collect
  refine wpAny_bind (wpAny_runValue (codeAny_builtin entry_proto_collect' ?_))
  show wpAny _ _ (do again (.builtin "list.__iadd__" ⟨[← newList [], .ref t], []⟩)) _ _ s
  refine wpAny_bind (wpAny_newList (wpAny_pure ⟨Code.quiet_builtin _ (by decide +kernel), codeAny_builtin entry_list_iadd' ?_⟩))
  show wpAny _ _ (Builtin.List.listExtendWith (.ref s.heap.objs.size) (.ref t) (.ref s.heap.objs.size)) _ _ { s with heap := s.heap.push (seqObj "list" #[] 0) }
  unfold Builtin.List.listExtendWith
  have hob2 : (s.heap.push (seqObj "list" #[] 0)).get? t = some ob := Heap.get?_push_of_some _ hob
  refine wpAny_bind (wpAny_typeOf (T := "tuple") ⟨ob, hob2, hcl⟩ ?_)
  have isT : (Value.type "tuple" == Value.type "tuple") = true := by rfl
  rw [if_pos (by rw [isT]; simp)]
  refine wpAny_bind (listItems_at hob2 hdt ?_)
  refine wpAny_bind (listItems_at (xs := #[]) (n := 0) (Heap.get?_push_size _ rfl) rfl ?_)
  rw [if_neg (by simp)]
  refine wpAny_bind (listUpdate_at (xs := #[]) (n := 0) (Heap.get?_push_size _ rfl) rfl ?_ (Nat.zero_le _) (by show (#[] ++ vs.toArray).size ≤ sizeLine + 1; simp only [Array.size_append, List.size_toArray, List.length_nil]; omega))
  refine wpAny_pure ?_
  show wpAny (model prog w) A (do
      let o ← load s.heap.objs.size
      match o.data with
      | .seq xs _ => pure xs.toList
      | _ => unsupported "internal:collect") Q E { s with heap := (s.heap.push (seqObj "list" #[] 0)).update s.heap.objs.size (Obj.mapSeq (· ++ vs.toArray)) }
  refine wpAny_bind (wpAny_load (get?_update_seq (Heap.get?_push_size _ rfl) _) ?_)
  show wpAny _ _ (pure ((#[] : Array Value) ++ vs.toArray).toList) Q E _
  have el : ((#[] : Array Value) ++ vs.toArray).toList = vs := by simp
  rw [el]
  exact wpAny_pure h

/-- sorted(c), c read by what its collecting gives -/
theorem sorted_any {c : Addr} {vs : List Value} {ltv : Value → Value → Bool} {Q : Value → Shared → Prop} (O : SrtO.Swo ltv) (hz : vs.length ≤ sizeLine)
    (hc : ∀ (A' : Around) (Q' : List Value → Shared → Prop) (E' : Value → Shared → Prop), Q' vs { s with heap := (s.heap.push (seqObj "list" #[] 0)).update s.heap.objs.size (Obj.mapSeq (· ++ vs.toArray)) } → wpAny (model prog w) A' (collect (.ref c)) Q' E' s)
    (hS : 2 ≤ vs.length → ∀ (h₁ : Heap) (a : Addr), h₁.get? a = some (seqObj "list" vs.toArray 0) → (∀ b o, s.heap.get? b = some o → b ≠ a ∧ h₁.get? b = some o) → SrtO.SortableO prog w A.in1.in1 { s with heap := h₁ } a vs ltv)
    (h : ∀ out : List Value, SrtO.Srtd ltv out → SrtO.Stb ltv out vs → Q (.ref (s.heap.objs.size + 1)) { s with heap := sortedAll s.heap vs out.toArray }) :
    wpAny (model prog w) A (call (.builtin "sorted") [.ref c]) Q E s := by
  refine Calls.call_function_entry kind_sorted plain_sorted entry_sorted (args_sorted1 _) ?_
  unfold Builtin.«sorted»
  refine wpAny_bind (m := checkCount "sorted" 1 1 _) (wpAny_pure ?_)
  refine wpAny_bind (hc _ _ _ ?_)
  refine wpAny_bind (wpAny_newList ?_ hz)
  generalize hg : (s.heap.push (seqObj "list" #[] 0)).update s.heap.objs.size (Obj.mapSeq (· ++ vs.toArray)) = g
  have gs : g.objs.size = s.heap.objs.size + 1 := by rw [← hg, Heap.size_update, Heap.size_push]
  have top : (g.push (seqObj "list" vs.toArray 0)).get? (s.heap.objs.size + 1) = some (seqObj "list" vs.toArray 0) := by
    rw [← gs]
    exact Heap.get?_push_size _ rfl
  have old : ∀ b o, s.heap.get? b = some o → b ≠ s.heap.objs.size + 1 ∧ (g.push (seqObj "list" vs.toArray 0)).get? b = some o := fun b o q => by
    have lt : b < s.heap.objs.size := Heap.lt_size q
    refine ⟨Nat.ne_of_lt (Nat.lt_succ_of_lt lt), Heap.get?_push_of_some _ ?_⟩
    rw [← hg, Heap.get?_update_ne _ _ _ _ (Nat.ne_of_lt lt)]
    exact Heap.get?_push_of_some _ q
  show wpAny _ _ _ _ _ { s with heap := g.push (seqObj "list" vs.toArray 0) }
  rw [gs]
  refine wpAny_bind (wpAny_holding (wpAny_call_entry slot_list_sort ⟨_, top, rfl⟩ entry_list_sort (SrtO.list_sort_ord O top hz (fun h2 => hS h2 _ _ top old) fun out hs hb => ⟨_, rfl, ?_⟩) (args_list_sort _)))
  refine wpAny_pure ⟨_, rfl, ?_⟩
  rw [← hg]
  exact h out hs hb

/-! ### tuples of whole numbers as keys -/
/-- v is the tuple of ns -/
def IsIT (h : Heap) (v : Value) (ns : List Int) : Prop := ∃ a items, v = .ref a ∧ h.IsTuple a items ∧ IntsAre items.toList ns
theorem IsIT.keeps {h h' : Heap} {v : Value} {ns : List Int} (x : IsIT h v ns) (k : ∀ b o, h.get? b = some o → o.cls = .type "tuple" → h'.get? b = some o) : IsIT h' v ns := by
  obtain ⟨a, items, e, ⟨o, ho, hc, r⟩, hi⟩ := x
  exact ⟨a, items, e, ⟨o, k a o ho hc, hc, r⟩, hi⟩
/-- the comparison item by item -/
theorem lex_go {b : Bool} : ∀ (xs ys : List Value) (ns ms : List Int) (i : Nat) (fin : Bool), IntsAre xs ns → IntsAre ys ms → fin = decide (xs.length < ys.length) →
    KatLex prog w A b fin (fun r s' => s' = s ∧ r = K31.lexLt ns ms) (xs.zip ys) i s
  | _, _, _, _, i, fin, .nil, .nil, hf => by
    refine kat_nil ⟨rfl, ?_⟩
    rw [hf]
    rfl
  | _, _, _, _, i, fin, .nil, .cons m t r, hf => by
    refine kat_nil ⟨rfl, ?_⟩
    rw [hf]
    show decide (0 < _ + 1) = true
    exact decide_eq_true (Nat.succ_pos _)
  | _, _, _, _, i, fin, .cons n t r, .nil, hf => by
    refine kat_nil ⟨rfl, ?_⟩
    rw [hf]
    exact decide_eq_false (Nat.not_lt_zero _)
  | _, _, _, _, i, fin, .cons (vs := vs) (ns := ns) n t r, .cons (vs := us) (ns := ms) m u q, hf => by
    show KatLex prog w A b fin _ ((.int n t, .int m u) :: _) i s
    refine kat_cons (SeqAt.EqAt.int_int n t m u prog w _ _ ?_)
    refine kat_go (fun e => ?_) (fun e => ?_)
    · have e' : n = m := by simpa using e
      refine kat_yes ?_
      have g := lex_go (b := b) _ _ _ _ (i + 1) fin r q (by
        rw [hf]
        simp only [List.length_cons]
        rw [decide_eq_decide]
        omega)
      have hl : K31.lexLt (n :: ns) (m :: ms) = K31.lexLt ns ms := by
        show (if n = m then _ else _) = _
        rw [if_pos e']
      rw [hl]
      exact g
    · have e' : ¬ n = m := by simpa using e
      have hl : K31.lexLt (n :: ns) (m :: ms) = decide (n < m) := by
        show (if n = m then _ else _) = _
        rw [if_neg e']
      rw [hl]
      refine kat_no ?_
      cases hb : (b && i == 0) with
      | true => exact oneLt_int ⟨rfl, rfl⟩
      | false => exact kat_one _ _ (PyProof.Rows.lt_int (show s = s ∧ decide (n < m) = decide (n < m) from ⟨rfl, rfl⟩))
theorem swo_key (k : Value → List Int) : SrtO.Swo fun v u => K31.lexLt (k v) (k u) := by
  refine ⟨fun x y h => ?_, fun x y z h1 h2 => ?_⟩
  · cases e : K31.lexLt (k y) (k x) with
    | false => rfl
    | true =>
      have := K31.lexLt_trans h e
      rw [K31.lexLt_irrefl] at this
      cases this
  · cases e : K31.lexLt (k z) (k x) with
    | false => rfl
    | true =>
      cases e1 : K31.lexLt (k x) (k y) with
      | true =>
        have := K31.lexLt_trans e e1
        have h2' : K31.lexLt (k z) (k y) = false := h2
        rw [h2'] at this
        cases this
      | false =>
        have h1' : K31.lexLt (k y) (k x) = false := h1
        have := K31.lexLt_tri e1 h1'
        rw [this] at e
        have h2' : K31.lexLt (k z) (k y) = false := h2
        rw [h2'] at e
        cases e
theorem cmp_tups {b : Bool} {vs : List Value} {k : Value → List Int} (hp : ∀ v ∈ vs, IsIT s.heap v (k v)) : SrtO.Cmp prog w A s (tuples' b) (fun p => p.1 ∈ vs) (SrtO.lt2 fun v u => K31.lexLt (k v) (k u)) := by
  intro p q hm hm'
  obtain ⟨a, is, ea, ⟨o, ho, hc, n, hd⟩, hi⟩ := hp _ hm
  obtain ⟨c, js, ec, ⟨o', ho', hc', n', hd'⟩, hj⟩ := hp _ hm'
  show wpAny (model prog w) A (keyLt' (tuples' b) p.1 q.1) (fun r s' => s' = s ∧ r = K31.lexLt (k p.1) (k q.1)) (fun _ _ => False) s
  generalize k p.1 = ns at hi ⊢
  generalize k q.1 = ms at hj ⊢
  rw [ea, ec]
  refine kat_lt ho hd ho' hd' ?_
  exact lex_go _ _ _ _ 0 _ hi hj (by simp)
theorem cmp_one {vs : List Value} {k : Value → List Int} (hu : A.units < cLine) (hp : ∀ v ∈ vs, IsIT s.heap v (k v)) : SrtO.Cmp prog w A s oneType' (fun p => p.1 ∈ vs) (SrtO.lt2 fun v u => K31.lexLt (k v) (k u)) := by
  intro p q hm hm'
  obtain ⟨a, is, ea, ht, hi⟩ := hp _ hm
  obtain ⟨c, js, ec, ht', hj⟩ := hp _ hm'
  show wpAny (model prog w) A (keyLt' oneType' p.1 q.1) (fun r s' => s' = s ∧ r = K31.lexLt (k p.1) (k q.1)) (fun _ _ => False) s
  generalize k p.1 = ns at hi ⊢
  generalize k q.1 = ms at hj ⊢
  rw [ea, ec, keyLt'_oneType, oneLt'_eq]
  simp only [if_true]
  refine wpAny_bind (wpAny_cRoomFor_or (.inr hu) ?_)
  obtain ⟨⟨cls, dd, data, sl⟩, ho, hcl, n, hd⟩ := id ht
  obtain ⟨⟨cls2, dd2, data2, sl2⟩, ho2, hcl2, n2, hd2⟩ := id ht'
  simp only at hcl hd hcl2 hd2
  subst hcl hd hcl2 hd2
  refine wpAny_bind (wpAny_callSpecialIfBound?_slot (T := "tuple") ⟨_, ho, rfl⟩ PySem.F.slot_tuple_lt (call_meets PySem.F.slot_tuple_lt ⟨_, ho, rfl⟩ PySem.F.entry_tuple_lt (PySem.F.args_tuple_lt_2 _ _) (HT.tuple_lt_ints a c is js n n2 dd dd2 sl sl2 ns ms hi hj) ⟨ho, ho2, ?_⟩))
  refine wpAny_truthy_bool ?_
  exact ⟨rfl, lex_same ns ms⟩
end

section
variable {M : Model} {A : Around} {E : Value → Shared → Prop} {s : Shared}
inductive Fsts (h : Heap) : List Value → List (Option Value) → Prop
  | nil : Fsts h [] []
  | cons {a : Addr} {o : Obj} {xs : Array Value} {n : Nat} {vs : List Value} {fs : List (Option Value)} : h.get? a = some o → o.cls = .type "tuple" → o.data = .seq xs n → Fsts h vs fs → Fsts h (.ref a :: vs) (xs[0]? :: fs)
theorem fsts_run : ∀ {vs : List Value} {fs : List (Option Value)} {Q : List (Option Value) → Shared → Prop}, Fsts s.heap vs fs → Q fs s → wpAny M A (vs.mapM firstOfTuple') Q E s
  | _, _, _, .nil, h => by
    rw [List.mapM_nil]
    exact wpAny_pure h
  | _, _, Q, .cons (a := a) (o := o) (xs := xs) (fs := fs) ho hc hd t, h => by
    rw [List.mapM_cons]
    refine wpAny_bind ?_
    rw [kas_first_eq]
    refine wpAny_bind (Looks.here (show Looks M s.heap (typeOf (.ref a)) o.cls from (Looks.ld ho).andThen .now) ?_)
    rw [hc, if_neg (by first | decide | simp)]
    refine wpAny_bind (listItems_at ho hd (wpAny_pure ?_))
    exact wpAny_bind (fsts_run (Q := fun bs s' => wpAny M A (pure (xs[0]? :: bs)) Q E s') t (wpAny_pure h))
theorem kind_mixed {vs : List Value} {fs : List (Option Value)} {Q : SortKind → Shared → Prop} (t : Fsts s.heap vs (none :: fs)) (h : Q oneType' s) : wpAny M A (keyKind' vs.toArray) Q E s := by
  rw [kat_kind_eq, List.mapM_toArray, map_eq_pure_bind]
  refine wpAny_bind (wpAny_bind (fsts_run t (wpAny_pure ?_)))
  rw [if_neg (by simp), if_neg (by simp), oneTypeOnly'_eq, List.mapM_toArray, map_eq_pure_bind]
  have tys : ∀ v ∈ vs, Looks M s.heap (typeOf v) (.type "tuple") := by
    have go : ∀ {us : List Value} {gs : List (Option Value)}, Fsts s.heap us gs → ∀ v ∈ us, Looks M s.heap (typeOf v) (.type "tuple") := by
      intro us gs g
      induction g with
      | nil => intro v hv; cases hv
      | cons ho hc hd _ ih =>
        intro v hv
        rcases List.mem_cons.mp hv with rfl | hv
        · rw [← hc]
          exact (Looks.ld ho).andThen .now
        · exact ih v hv
    exact go t
  refine wpAny_bind (wpAny_bind (wpAny_bind (kas_mapM (r := Value.type "tuple") _ (fun v hv Q' hq => (tys v hv).here hq) (wpAny_pure ?_))))
  have ne : vs ≠ [] := fun z => by
    rw [z] at t
    cases t
  obtain ⟨v0, rest, rfl⟩ : ∃ v0 rest, vs = v0 :: rest := by
    cases vs with
    | nil => exact absurd rfl ne
    | cons v0 rest => exact ⟨v0, rest, rfl⟩
  have al : ((List.map (fun _ => Value.type "tuple") (v0 :: rest)).toArray.all fun x => x == Value.type "tuple") = true := by
    simp only [List.all_toArray, List.all_map, List.all_eq_true]
    intro _ _
    rfl
  have h0 : (List.map (fun _ => Value.type "tuple") (v0 :: rest)).toArray[0]? = some (Value.type "tuple") := by simp
  rw [h0]
  simp only [al, if_true]
  exact wpAny_pure (wpAny_pure h)
end
theorem fsts_of {h : Heap} {k : Value → List Int} : ∀ {vs : List Value}, (∀ v ∈ vs, IsIT h v (k v)) → ∃ fs, Fsts h vs fs
  | [], _ => ⟨[], .nil⟩
  | v :: vs, hp => by
    obtain ⟨fs, t⟩ := fsts_of (vs := vs) fun u hu => hp u (List.mem_cons_of_mem _ hu)
    obtain ⟨a, items, rfl, ⟨o, ho, hc, n, hd⟩, hi⟩ := hp v List.mem_cons_self
    exact ⟨_, .cons ho hc hd t⟩
theorem firsts_int {h : Heap} {k : Value → List Int} : ∀ {vs : List Value}, (∀ v ∈ vs, IsIT h v (k v) ∧ k v ≠ []) → ∃ fs : List Value, KatTups h vs fs ∧ fs.length = vs.length ∧ ∀ f ∈ fs, ∃ i t, f = Value.int i t
  | [], _ => ⟨[], .nil, rfl, fun f hf => by cases hf⟩
  | v :: vs, hp => by
    obtain ⟨fs, t, l, hf⟩ := firsts_int (vs := vs) fun u hu => hp u (List.mem_cons_of_mem _ hu)
    obtain ⟨⟨a, items, e, ⟨o, ho, hc, n, hd⟩, hi⟩, ne⟩ := hp v List.mem_cons_self
    subst e
    generalize k (Value.ref a) = ns at hi ne
    obtain ⟨x, r, hx⟩ : ∃ x r, items.toList = x :: r := by
      cases hl : items.toList with
      | nil =>
        rw [hl] at hi
        cases hi
        exact absurd rfl ne
      | cons x r => exact ⟨x, r, rfl⟩
    rw [hx] at hi
    have h0 : items[0]? = some x := by
      rw [← Array.getElem?_toList, hx]
      rfl
    cases hi with
    | cons i tk _ =>
      refine ⟨_ :: fs, .cons ho hc hd h0 t, by simp [l], fun f hm => ?_⟩
      rcases List.mem_cons.mp hm with rfl | hm
      · exact ⟨i, tk, rfl⟩
      · exact hf f hm
section
variable {prog : Program} {w : World} {A : Around} {s : Shared}
theorem tups_sortable {a : Addr} {vs : List Value} {k : Value → List Int} (hu : A.units < cLine) (h2 : 2 ≤ vs.length) (hp : ∀ v ∈ vs, IsIT s.heap v (k v)) (hk : (∀ v ∈ vs, k v ≠ []) ∨ (∃ v, vs.head? = some v ∧ k v = []))
    (ha : ∀ o, s.heap.get? a = some o → o.cls ≠ .type "tuple") : SrtO.SortableO prog w A s a vs fun v u => K31.lexLt (k v) (k u) := by
  intro h' keep
  have hp' : ∀ v ∈ vs, IsIT h' v (k v) := fun v hm => (hp v hm).keeps fun b o e c => keep b o (fun z => by subst z; exact ha o e c) e
  rcases hk with hk | ⟨v0, hv0, k0⟩
  · obtain ⟨fs, t1, t2, t3⟩ := firsts_int (h := h') (k := k) fun v hm => ⟨hp' v hm, hk v hm⟩
    refine ⟨tuples' true, fun Q E hq => ?_, cmp_tups hp'⟩
    refine kat_kind (T := .type "int") t1 (by omega) (fun f hm => ?_) (by rfl) ?_
    · obtain ⟨x, t, rfl⟩ := t3 f hm
      exact Looks.now
    · have e : (Value.type "int" != Value.type "tuple") = true := by first | decide +kernel | rfl | decide
      rw [e]
      exact hq
  · refine ⟨oneType', fun Q E hq => ?_, cmp_one hu hp'⟩
    obtain ⟨fs, t⟩ := fsts_of hp'
    obtain ⟨r, rfl⟩ : ∃ r, vs = v0 :: r := by
      cases vs with
      | nil => cases hv0
      | cons x r => exact ⟨r, by rw [Option.some.inj hv0]⟩
    cases t with
    | @cons b o xs n _ gs ho hc hd t =>
      have x0 : xs[0]? = none := by
        obtain ⟨c, items, ec, ⟨o2, ho2, _, n2, hd2⟩, hi⟩ := hp' _ List.mem_cons_self
        cases ec
        rw [ho] at ho2
        cases ho2
        rw [hd] at hd2
        cases hd2
        rw [k0] at hi
        have : xs.toList = [] := by
          cases hl : xs.toList with
          | nil => rfl
          | cons y ys =>
            rw [hl] at hi
            cases hi
        rw [← Array.getElem?_toList, this]
        rfl
      have t' := Fsts.cons ho hc hd t
      rw [x0] at t'
      exact kind_mixed t' hq
end
theorem vals_refs_of {K : PySem.W.Frag} {H : Hp} : ∀ {vs : List V} {us : List Value} {R : List (List Int)}, DpAll K H vs (tR R) → Vals vs us → us.length = R.length ∧ ∀ (i : Nat) (u : Value), us[i]? = some u → ∃ (a : Addr) (ns : List Int), u = Value.ref a ∧ R[i]? = some ns ∧ SqT K H a (ns.map V.int)
  | _, _, [], h, r => by
    cases h
    cases r
    exact ⟨rfl, fun i u e => by simp at e⟩
  | _, _, n :: R, h, r => by
    cases h with
    | cons h1 h2 =>
      cases r with
      | cons r1 r2 =>
        obtain ⟨l, g⟩ := vals_refs_of h2 r2
        refine ⟨by rw [List.length_cons, List.length_cons, l], fun i u e => ?_⟩
        cases i with
        | zero =>
          obtain ⟨a, rfl, hs⟩ := tI_inv h1
          cases r1
          have e' := Option.some.inj e
          exact ⟨a, n, e'.symm, rfl, hs⟩
        | succ i => exact g i u (by simpa using e)
/-- the whole numbers of a tuple, read off a heap -/
def keyAt (h : Heap) : Value → List Int
  | .ref a => match h.get? a with
    | some o => match o.data with
      | .seq xs _ => xs.toList.map SrtO.iv
      | _ => []
    | none => []
  | _ => []
theorem key_of {h : Heap} {a : Addr} {items : Array Value} {ns : List Int} (ht : h.IsTuple a items) (hi : IntsAre items.toList ns) : keyAt h (.ref a) = ns := by
  obtain ⟨o, ho, hc, n, hd⟩ := ht
  unfold keyAt
  simp only [ho, hd]
  exact SrtO.iv_ints hi
section
variable {X : Cx} {pins : List (Addr × Obj)} {σ : L2.St} {H : Hp} {s : Shared}
theorem sqT_key (I : Inv X pins σ H s) {a : Addr} {ns : List Int} (h : SqT X.K H a (ns.map V.int)) : IsIT s.heap (.ref a) ns ∧ keyAt s.heap (.ref a) = ns := by
  obtain ⟨its, r, pt, _⟩ := I.tuple h
  have hi : IntsAre its.toArray.toList ns := intsAre_of r
  exact ⟨⟨a, _, rfl, pt, hi⟩, key_of pt hi⟩
/-- from the values sorted to the data sorted -/
theorem sorted_data (I : Inv X pins σ H s) : ∀ {us : List Value} {R : List (List Int)}, (∀ u ∈ us, ∃ (a : Addr) (ns : List Int), u = Value.ref a ∧ ns ∈ R ∧ SqT X.K H a (ns.map V.int)) → ∃ vs, Vals vs us ∧ DpAll X.K H vs (tR (us.map (keyAt s.heap)))
  | [], _, _ => ⟨[], .nil, .nil⟩
  | u :: us, R, h => by
    obtain ⟨vs, r, d⟩ := sorted_data I (us := us) (R := R) fun x hx => h x (List.mem_cons_of_mem _ hx)
    obtain ⟨a, ns, rfl, _, hs⟩ := h u List.mem_cons_self
    refine ⟨.ref a :: vs, .cons rfl r, .cons ?_ d⟩
    rw [(sqT_key I hs).2]
    exact tI_of hs
end
/-- sorted(c), c a list or a tuple of tuples of whole numbers -/
def rSrtT (K : PySem.W.Frag) : List V → Hp → VK → Prop := fun vs H Q => ∃ (a : Addr) (xs : List V) (R : List (List Int)), vs = [V.ref a] ∧ (SqL K H a xs ∨ SqT K H a xs) ∧ DpAll K H xs (tR R) ∧
  ((∀ r ∈ R, r ≠ []) ∨ R.head? = some []) ∧ ∀ (ys : List V) (p : Addr), DpAll K H ys (tR (K31.isort K31.lexLt R)) → ys.length ≤ sizeLine → H p = none → Q (.ref p) (upd H p (.lst ys))
theorem cr_srtT {X : Cx} (hu : X.A.units + 2 < cLine) : CallR X (.builtin "sorted") (rSrtT X.K) := by
  intro pins s σ H vs us Q I r h
  obtain ⟨a, xs, R, rfl, hq, hd, hk, q⟩ := h
  rw [Vals.ref1 r]
  obtain ⟨its, rv, hz, hcol⟩ : ∃ its : List Value, Vals xs its ∧ xs.length ≤ sizeLine ∧ ∀ (A' : Around) (Q' : List Value → Shared → Prop) (E' : Value → Shared → Prop), Q' its { s with heap := (s.heap.push (seqObj "list" #[] 0)).update s.heap.objs.size (Obj.mapSeq (· ++ its.toArray)) } → wpAny (model X.prog X.w) A' (collect (.ref a)) Q' E' s := by
    rcases hq with hq | hq
    · obtain ⟨its, rv, pl, hz⟩ := I.list hq
      exact ⟨its, rv, hz, fun A' Q' E' hh => collect_list pl.isList hh (by rw [← rv.length]; exact hz)⟩
    · obtain ⟨its, rv, pl, hz⟩ := I.tuple hq
      exact ⟨its, rv, hz, fun A' Q' E' hh => collect_tup pl (by rw [← rv.length]; exact hz) hh⟩
  obtain ⟨hlen, hat⟩ := vals_refs_of hd rv
  have hmem : ∀ u ∈ its, ∃ (b : Addr) (ns : List Int), u = Value.ref b ∧ ns ∈ R ∧ SqT X.K H b (ns.map V.int) := fun u hu' => by
    obtain ⟨i, hi⟩ := List.getElem?_of_mem hu'
    obtain ⟨b, ns, e, hR, hs⟩ := hat i u hi
    exact ⟨b, ns, e, List.mem_of_getElem? hR, hs⟩
  have keys : its.map (keyAt s.heap) = R := by
    refine List.ext_getElem? fun i => ?_
    rw [List.getElem?_map]
    cases hi : its[i]? with
    | none =>
      have : its.length ≤ i := List.getElem?_eq_none_iff.mp hi
      exact (List.getElem?_eq_none_iff.mpr (by omega)).symm
    | some u =>
      obtain ⟨b, ns, e, hR, hs⟩ := hat i u hi
      rw [hR, e]
      show some (keyAt s.heap (.ref b)) = some ns
      rw [(sqT_key I hs).2]
  have hz' : its.length ≤ sizeLine := by rw [← rv.length]; exact hz
  refine sorted_any (swo_key (keyAt s.heap)) hz' hcol (fun h2 h₁ b hb kk => ?_) fun out h1 h2 => ?_
  · refine tups_sortable (s := { s with heap := h₁ }) (by show X.A.units + 1 + 1 < cLine; omega) h2 (fun v hv => ?_) ?_ fun o e => ?_
    · obtain ⟨c, ns, rfl, _, hs⟩ := hmem v hv
      have kk' := (sqT_key I hs).1.keeps fun b o e _ => (kk b o e).2
      rw [(sqT_key I hs).2]
      exact kk'
    · rcases hk with hk | hk
      · refine .inl fun v hv => ?_
        obtain ⟨c, ns, rfl, hR, hs⟩ := hmem v hv
        rw [(sqT_key I hs).2]
        exact hk ns hR
      · refine .inr ?_
        cases its with
        | nil => exact absurd h2 (by simp)
        | cons v r' =>
          refine ⟨v, rfl, ?_⟩
          have hh : (v :: r').map (keyAt s.heap) = R := keys
          rw [← hh] at hk
          exact Option.some.inj hk
    · have e' : some o = some (seqObj "list" its.toArray 0) := e.symm.trans hb
      cases e'
      intro z
      exact absurd (Value.type.inj z) (by decide)
  · have pm := h2.perm
    have so : K31.Srt K31.lexLt (out.map (keyAt s.heap)) := List.pairwise_map.mpr h1
    have pR : (out.map (keyAt s.heap)).Perm R := by
      have := pm.map (keyAt s.heap)
      rw [keys] at this
      exact this
    have eR := K31.isort_eq K31.sto_lex pR so
    obtain ⟨ys, ry, dy⟩ := sorted_data I (us := out) (R := R) fun u hu' => hmem u (pm.mem_iff.mp hu')
    rw [eR] at dy
    obtain ⟨ep, he'⟩ := sortedAll_at s.heap its out.toArray
    have ly : ys.length ≤ sizeLine := by rw [ry.length, pm.length_eq]; exact hz'
    exact ⟨.ref _, upd H (s.heap.objs.size + 1) (.lst ys), I.laid (t' := s.toks) (fun _ _ => sortedAll_old) (Nat.le_succ _) ⟨ly, out, ep, ry, he'⟩, rfl, q ys _ dy ly (I.hok.fresh (Nat.le_succ _))⟩
end K31W
set_option Elab.async false
set_option linter.all false
set_option maxRecDepth 100000
set_option maxHeartbeats 4000000
/-! K31Rules: in a tuple, index in a tuple, a tuple times a number, a call by keywords alone, repr of data, defs that are called where no repr runs. -/
namespace K31W
open PySem PySem.Spec PyProof.Rows L2 PySem.W
open Sem (wp)
section
variable {X : Cx}
/-- x in t, x not in t: a tuple of tuples of whole numbers, or a list of such -/
def rInR (K : PySem.W.Frag) (neg : Bool) : R2 := fun x y H Q => ∃ r R, Dp K H x (tI r) ∧ (Dp K H y (.tuple (tR R)) ∨ Dp K H y (.list (tR R))) ∧ Q (.bl (if neg then !decide (r ∈ R) else decide (r ∈ R))) H
theorem op_inR (hu : X.A.units + 65 < cLine) : OpR X (compareOp .In) (rInR X.K false) := by
  intro pins s σ H x y v u Q I rx ry h
  obtain ⟨r, R, hx, hy, q⟩ := h
  obtain ⟨as, r1⟩ := Dp.reads I (tI r) x v hx rx
  rcases hy with hy | hy
  · obtain ⟨bs, r2⟩ := Dp.reads I _ y u hy ry
    exact SeqAt.in_tuple_reads r2 r1 (lay_firms _ (firms_tR R)) (lay_firm _ (firm_tI r)) (room_in_shaped (shape_tI r) hu) ⟨.bl _, H, I, rfl, by rw [any_tR]; exact q⟩
  · obtain ⟨bs, r2⟩ := Dp.reads I _ y u hy ry
    exact SeqAt.in_list_reads r2 r1 (lay_firms _ (firms_tR R)) (lay_firm _ (firm_tI r)) (room_in_shaped (shape_tI r) hu) ⟨.bl _, H, I, rfl, by rw [any_tR]; exact q⟩
theorem op_niR (hu : X.A.units + 65 < cLine) : OpR X (compareOp .NotIn) (rInR X.K true) := by
  intro pins s σ H x y v u Q I rx ry h
  obtain ⟨r, R, hx, hy, q⟩ := h
  obtain ⟨as, r1⟩ := Dp.reads I (tI r) x v hx rx
  rcases hy with hy | hy
  · obtain ⟨bs, r2⟩ := Dp.reads I _ y u hy ry
    exact SeqAt.notIn_tuple_reads r2 r1 (lay_firms _ (firms_tR R)) (lay_firm _ (firm_tI r)) (room_in_shaped (shape_tI r) hu) ⟨.bl _, H, I, rfl, by rw [any_tR]; exact q⟩
  · obtain ⟨bs, r2⟩ := Dp.reads I _ y u hy ry
    exact SeqAt.notIn_list_reads r2 r1 (lay_firms _ (firms_tR R)) (lay_firm _ (firm_tI r)) (room_in_shaped (shape_tI r) hu) ⟨.bl _, H, I, rfl, by rw [any_tR]; exact q⟩
theorem idx_same (r : List Int) (R : List (List Int)) : @List.idxOf (List Int) instBEqOfDecidableEq r R = R.idxOf r := by
  unfold List.idxOf
  congr 1
  funext x
  by_cases e : x = r
  · subst e
    simp
  · have p : (@BEq.beq (List Int) instBEqOfDecidableEq x r) = false := by simpa using e
    have q : (x == r) = false := by simpa using e
    rw [p, q]
/-- t.index(x), x in t -/
def rIdxT (K : PySem.W.Frag) : V → List V → Hp → VK → Prop := fun x xs H Q => ∃ a y r R, x = .ref a ∧ xs = [y] ∧ Dp K H (.ref a) (.tuple (tR R)) ∧ Dp K H y (tI r) ∧ r ∈ R ∧ Q (.int (R.idxOf r : Nat)) H
theorem mt_idxT (hu : X.A.units + 65 < cLine) : MtR X "tuple.index" (rIdxT X.K) := by
  intro pins s σ H x xs v us Q I rx rxs h
  obtain ⟨a, y, r, R, rfl, rfl, hl, hy, hm, q⟩ := h
  cases rx
  cases rxs with
  | cons ry rt =>
    rename_i uy ut
    cases rt
    obtain ⟨bs, r1⟩ := Dp.reads I (tI r) y uy hy ry
    obtain ⟨b, ys, e, hs, ha⟩ := tup_inv hl
    cases e
    obtain ⟨its, rv, pt, hz⟩ := I.tuple hs
    obtain ⟨as, h4⟩ := Dp.readsAll I (tR R) _ its ha rv
    have lay := lay_firms _ (firms_tR R)
    have hn : its.length = (tR R).length := SeqAt.ReadsAll.length _ its as h4
    have hmap : its.map (SeqAt.readOf s.heap) = tR R := SeqAt.readsAll_map _ its as lay h4
    have hl : its.length = R.length := by rw [hn]; unfold tR; rw [List.length_map]
    refine SeqAt.call_tuple_index (vs := its) (ks := R) (k := r) pt ⟨hl, fun j h1 h2 => ?_⟩ hm ⟨.int _, H, I.tok _, ⟨_, rfl⟩, by rw [idx_same]; exact q⟩
    have eq := SeqAt.items_eqAt (A := X.A) (vs := its.toArray) (show ReadsAll s.heap its.toArray.toList _ as from h4) r1 lay (lay_firm _ (firm_tI r)) (room_in_shaped (shape_tI r) hu) its[j] (by simp)
    have rd : SeqAt.readOf s.heap its[j] = tI R[j] := by
      have g := congrArg (fun l => l[j]?) hmap
      simp only [tR, List.getElem?_map, List.getElem?_eq_getElem h1, List.getElem?_eq_getElem h2, Option.map_some] at g
      exact Option.some.inj g
    rw [rd, eqv_tI] at eq
    exact eq
/-- t * 1 is t -/
theorem mul_one_tup (l : Addr) (items : Array Value) (n : Nat) (dd : Option Addr) (sl : Array (Option Value)) (u : Tok) :
    Meets (Builtin.«tuple.__mul__» ⟨[.ref l, .int 1 u], []⟩) (fun _ R s => s.heap.get? l = some { cls := .type "tuple", dict := dd, data := .seq items n, slots := sl } ∧ R (.ok (.ret (Value.ref l))) s) :=
  .of_wp fun prog w A R s hyp => by
    obtain ⟨hp0, gg, dl, tk0, oss⟩ := s
    obtain ⟨hl, hyp⟩ := hyp
    have f1 := AutoSeq1.idx_int
    have one : (items.isEmpty || (1 : Int) == 1) = true := by simp
    wp_walk using wpAny_loadPart' hl
    repeat (first
      | (refine wpAny_ite_false (by decide) ?_; wp_walk using wpAny_loadPart' hl)
      | (refine wpAny_ite_true one ?_; wp_walk using wpAny_loadPart' hl))
    exact ⟨_, rfl, hyp⟩
def rMulT (K : PySem.W.Frag) : R2 := fun x y H Q => ∃ l k xs, x = .ref l ∧ y = .int (k : Nat) ∧ SqT K H l xs ∧ xs ≠ [] ∧ 1 ≤ k ∧ k ≤ 1000 ∧ xs.length ≤ 1000 ∧ (k = 1 → Q (.ref l) H) ∧ (2 ≤ k → ∀ p, H p = none → Q (.ref p) (upd H p (.tup (List.replicate k xs).flatten)))
theorem op_mulT : OpR X (binaryOp .Mult) (rMulT X.K) := by
  intro pins s σ H x y v u Q I rx ry h
  obtain ⟨l, k, xs, rfl, rfl, hT, hne, h1, h2, hz, q1, q2⟩ := h
  by_cases hk : k = 1
  · subst hk
    cases rx
    obtain ⟨t, rfl⟩ := ry
    obtain ⟨its, r, ⟨⟨cls, dd, data, sl⟩, ho, hc, n, hd⟩, hs⟩ := I.tuple hT
    simp only at hc hd
    subst hc hd
    refine wpAny_binaryOp_repeat_ref (T := "tuple") (U := "int") (by decide) ⟨_, ho, rfl⟩ (fun s' => typeIs_int s' _ t) noFill_tuple_mul F.fills_int_mul F.slot_int_rmul repeat_tuple F.slot_int_index.lookup
      (call_meets F.slot_int_rmul (typeIs_int s _ t) F.entry_int_rmul (F.args_int_rmul_2 _ _) (int_rmul_tuple _ t l its.toArray n dd sl) ⟨ho, rfl, ⟨_, ho, rfl⟩, ?_⟩)
    exact call_meets F.slot_tuple_mul ⟨_, ho, rfl⟩ F.entry_tuple_mul (F.args_tuple_mul_2 _ _) (mul_one_tup l its.toArray n dd sl t) ⟨ho, .ref l, H, I, rfl, q1 rfl⟩
  · exact op_repT pins s σ H _ _ v u Q I rx ry ⟨l, (k : Nat), xs, rfl, rfl, hT, hne, by omega, by omega, hz, fun p hp => by simpa using q2 (by omega) p hp⟩

/-- f(k = v, ..), no positional values -/
theorem pe_kwOnly {CX : CXT} {k : Nat} {f : Addr} {fd : FuncData} {ps ks : List Str} {sp : Sp} {E : XK} {x : Str} {p pos : Pos} {kws : List Keyword} {tk : TA} {g : List Value → List Value → List Value} {gV : List V → List V → List V}
    (F : FnOk X.prog X.w X.K X.mg X.base CX k f fd ps sp) (hr : Room k X.A) (hg : Gl X x) (hm : X.mg x = some (.ref f)) (hk : PySem.W.keepIn X.K (.ref f) = true) (hb : KBinds X.K fd ps ks g gV) (hx : Passes CX X E) (hkw : PK X kws tk)
    (hall : (backToKw pos (keywordEach kws X.env)).all (·.1.isSome) = true := by rfl) (hks : (backToKw pos (keywordEach kws X.env)).filterMap (·.1) = ks := by rfl) (hdb : (x == ("__debug__" : Str)) = false := by decide)
    (hpl : ((backTo pos (starEach [] X.env)).any (·.1) || (backToKw pos (keywordEach kws X.env)).any (·.1.isNone)) = false := by rfl) : PE X (.Call (.Name x p) [] kws pos) (tCallK sp gV E tNil tk) := by
  refine ⟨fun pins s σ H Q I h => wpAny_Call_Name_kw (ld_glob I hg hm ?_ hdb)⟩
  refine PySem.W.callWith_KW0 (h₀ := X.base) I.ok.mod.kin hk hall ?_ hpl
  refine thn (hkw.run pos pins s σ H _ I h) fun ws s2 ⟨zs, H2, I2, rz, q2⟩ => ⟨I2.kIn, ?_⟩
  rw [hks]
  exact run_fnk (us := []) (vs := []) F hr hb hx I2 .nil rz q2

/-! ### repr of data -/
/-- repr(d) where no repr runs: one text for equal data -/
def rRepr (K : PySem.W.Frag) : List V → Hp → VK → Prop := fun vs H Q => ∃ v d, vs = [v] ∧ (∃ a, v = .ref a) ∧ Dp K H v d ∧ d.showable = true ∧ d.hasDict = false ∧ d.depth ≤ 60 ∧ d.shown.length ≤ sizeLine ∧ Q (.str d.shown) H
theorem cr_repr (hg : X.A.guards = some []) (hu : X.A.units + 64 < cLine) : CallR X (.builtin "repr") (rRepr X.K) := by
  intro pins s σ H vs us Q I r h
  obtain ⟨v, d, rfl, ⟨a, rfl⟩, hd, h1, h2, h3, h4, q⟩ := h
  rw [Vals.ref1 r]
  obtain ⟨as, rd⟩ := Dp.reads I d (.ref a) (.ref a) hd rfl
  exact repr_of_reads' rd h1 (PyData.noDict_hsm h2) hg (by omega) (fun b o e => e) (fun h' u tk kept => ⟨.str d.shown, H, I.kept (t' := tk) kept, ⟨_, rfl⟩, q⟩) h4
end

/-! ### defs that are called where no repr runs -/
structure FnG (P : Program) (w : World) (K : PySem.W.Frag) (mg : Str → Option Value) (base : Heap) (k : Nat) (f : Addr) (fd : FuncData) (ps : List Str) (sp : Sp) : Prop where
  len : ∀ vs H Q E, sp vs H Q E → vs.length = ps.length
  run : ∀ (A : Around) (outer : List Env) (s : Shared) (H : Hp) (args : Args) (us : List Value) (vs : List V) (Q : VK) (E : XK), A.guards = some [] → Room k A → Env0 P w K mg base A outer s H → BindsTo s fd args (ps.zip us) → Vals vs us → sp vs H Q E →
    codeAny (model P w) A (.call (.ref f) args) (CR CX0 outer P w H s Q E) s
section
variable {P : Program} {w : World} {K : PySem.W.Frag} {mg : Str → Option Value} {base : Heap}
theorem Fun.okG {x qual : Str} {st : Stmt} {f : Addr} {fd : FuncData} {N ps : List Str} {k : Nat} {sp : Sp} (F : Fun K x qual st f fd) (S : FnScope N ps (defScope st)) (len : ∀ vs H Q E, sp vs H Q E → vs.length = ps.length)
    (body : ∀ (cdv : Value) (A : Around) (outer : List Env) (s : Shared) (H : Hp) (vs : List V) (Q : VK) (E : XK), A.guards = some [] → Room k (A.deeper (envOfC qual (defScope st) s.heap.objs.size f cdv)) → sp vs H Q E →
      ∃ t, PSs (cxOf CX0 P w K mg base N qual (defScope st) f cdv A outer s H E).nox (defBody st) t ∧ t { nx := fun _ H' => Q .non H', rt := Q } (start N vs) H) : FnG P w K mg base (k + 1) f fd ps sp := by
  obtain ⟨oc, od, kV, doc, pm, an, cdv, ct, osl, rfl, lk, hcd⟩ := F.ex
  refine ⟨len, fun A outer s H args us vs Q E gA hr e0 hb r hsp => ?_⟩
  have nargs := len _ _ _ _ hsp
  have inK : K.In s.heap := e0.mod.kin.keeps fun b o e => (e0.bs b o e).1
  have lim : s.heap.NoLimit := e0.mod.nolimit.keeps fun b o e => (e0.bs b o e).1
  have kinds : ∀ y ∈ ps.zip us, (defScope st).names.lookup y.1 = some .local ∨ ((defScope st).names.lookup y.1 = some .cell ∧ ((cellsFrom (s.heap.objs.size + 1) (defScope st).names []).lookup y.1).isSome = true) := fun ⟨n, v⟩ hy =>
    (S.par n (List.of_mem_zip hy).1).elim .inl fun q => .inr ⟨q, PySem.W.cellsFrom_some _ _ _ (.inl q)⟩
  refine codeAny_call_function hr.depth (inK _ _ lk) rfl S.co S.gen rfl (PySem.W.codeRec_of inK hcd) (hb _ _ _ _ (wpAny_newFunctionEnv_cells S.kind kinds fun env he s1 xx => ?_))
  subst he
  refine ⟨lim.keeps xx.toInCall.keep, codeAny_func ?_⟩
  obtain ⟨t, ht, hq⟩ := body cdv A outer s H vs Q E gA (hr.deeper _) hsp
  have I := inv_start (CX := CX0) (E := E) (outer := outer) S hr.hd e0 nargs r xx
  have run := ht.nox.run [] s1 (start N vs) H _ I hq
  refine wpAny_mono run (fun fl s' hs => ?_) fun e s' hs => hs
  cases fl with
  | ret u =>
    obtain ⟨v, σ', H', J, rv, q⟩ := hs
    exact ⟨v, H', J.os, J.bare, J.base, J.hok, rv, q⟩
  | next =>
    obtain ⟨σ', H', J, q⟩ := hs
    exact ⟨V.non, H', J.os, J.bare, J.base, J.hok, rfl, q⟩
  | brk =>
    obtain ⟨_, _, _, q⟩ := hs
    exact q.elim
  | cont =>
    obtain ⟨_, _, _, q⟩ := hs
    exact q.elim
end
section
variable {X : Cx}
theorem pe_callG {k : Nat} {f : Addr} {fd : FuncData} {ps : List Str} {sp : Sp} {x : Str} {p pos : Pos} {e : Expr} {es : List Expr} {t : TA} (F : FnG X.prog X.w X.K X.mg X.base k f fd ps sp) (hgd : X.A.guards = some []) (hr : Room k X.A) (hg : Gl X x) (hm : X.mg x = some (.ref f))
    (hk : PySem.W.keepIn X.K (.ref f) = true) (hb : Binds X.K fd ps []) (ha : PA X (e :: es) t) (hdb : (x == ("__debug__" : Str)) = false := by decide)
    (he : starEach (e :: es) X.env = (false, eval e X.env) :: starEach es X.env := by rfl) (hpl : (backTo pos (starEach es X.env)).any (·.1) = false := by rfl) : PE X (.Call (.Name x p) (e :: es) [] pos) (tCall sp [] E0 t) := by
  refine ⟨fun pins s σ H Q I h => wpAny_Call_Name_kw (ld_glob I hg hm ?_ hdb)⟩
  refine PySem.W.callWith_K (h₀ := X.base) I.ok.mod.kin hk (thn (ha.run pos pins s σ H _ I h) fun us s1 ⟨vs, H1, I1, r, q⟩ => ⟨I1.kIn, ?_⟩) he hpl
  have q : sp (vs ++ []) H1 Q E0 := q
  rw [List.append_nil] at q
  have l : (us ++ ([] : List Value)).length = ps.length := by rw [List.append_nil, ← r.length]; exact F.len _ _ _ _ q
  have bt := hb s1 us I1.kIn l
  rw [List.append_nil] at bt
  refine wpAny_call (codeAny_mono (F.run X.A X.stack s1 H1 ⟨us, []⟩ us vs Q E0 hgd hr I1.env0 bt r q) fun res s' hq => ?_)
  cases res with
  | error e => exact hq.elim
  | ok fl =>
    cases fl with
    | ret u => exact I1.after hq
    | next => exact False.elim hq
    | brk => exact False.elim hq
    | cont => exact False.elim hq
end
end K31W
set_option Elab.async false
set_option linter.all false
set_option maxRecDepth 100000
set_option maxHeartbeats 4000000
/-! K31End: the end of the row for a law whose def is a FnG (it runs where no repr runs). -/
namespace K31W
open PySem PySem.Spec PyProof.Rows L2
section
variable {P : Program} {w : World} {K : PySem.W.Frag} {mg mb : Str → Option Value} {k : Nat} {fa a : Addr} {fd : FuncData} {x : Str} {sp : Sp} {s1 : Shared} {vs : List Value} {ns : List Int}
/-- what is wanted of the law's call -/
def LawEnd (s1 : Shared) (r : Result) (s' : Shared) : Prop := r = .ok (.ret (.bool true)) ∧ OldK s1.heap s'.heap ∧ s'.os = s1.os ∧ AllBare s'.gens
/-- from an abstract heap in which at most the script is tracked -/
theorem law_from (KX : K.In s1.heap) (hns : s1.heap.Ns mainGlobals mg) (hb : s1.heap.Ns builtinsNs mb) (hbb : ∀ x : Str, x ≠ "__name__" → mb x = bootBuiltins x) (hlim : s1.heap.NoLimit) (hg : s1.gens = #[])
    (ha : s1.heap.get? a = some { cls := .type "list", data := .seq vs.toArray }) (hr : Room k callerA)
    (F : ∀ base : Heap, K.In base → base.Ns mainGlobals mg → FnG P w K mg base k fa fd [x] sp) (hbind : ∀ (s : Shared) (u : Value), BindsTo s fd ⟨[u], []⟩ [(x, u)])
    (H : Hp) (hO : Only H) (ok : HOk P w H s1.heap) (one : ∀ b, H b ≠ none → b = a) (free : H a ≠ none → K.lookup a = none) (hsp : sp [.ref a] H (fun v _ => v = .bl true) fun _ _ _ => False) :
    codeAny (model P w) callerA (.call (.ref fa) ⟨[.ref a], []⟩) (LawEnd s1) s1 := by
  -- a dict is not the script
  have dicts : ∀ {b : Addr} {o : Obj} {es : Array DictEntry} {ep : Nat}, s1.heap.get? b = some o → o.data = .dict es ep → H b = none := by
    intro b o es ep e d
    cases q : H b with
    | none => rfl
    | some u =>
      have eb := one b (by rw [q]; simp)
      rw [eb, ha] at e
      cases e
      cases d
  have spaces : ∀ {b : Addr} {m : Str → Option Value}, s1.heap.Ns b m → (hidT s1.heap H).Ns b m := by
    rintro b m ⟨o, es, ep, e, d, r⟩
    exact ⟨o, es, ep, hidT_get e (dicts e d), d, r⟩
  have inK : K.In (hidT s1.heap H) := by
    intro b o e
    refine hidT_get (KX b o e) ?_
    cases q : H b with
    | none => rfl
    | some u =>
      have eb := one b (by rw [q]; simp)
      subst eb
      rw [free (by rw [q]; simp)] at e
      cases e
  have mod : Mod K mg (hidT s1.heap H) := by
    obtain ⟨mc, l1, l2⟩ := hlim
    exact ⟨inK, spaces hns, ⟨mb, spaces hb, hbb⟩, mc, spaces l1, l2⟩
  have start : Env0 P w K mg (hidT s1.heap H) callerA [] s1 H :=
    ⟨rfl, mod, fun b o e => of_hidT e, Nat.le_of_eq (hidT_size _ _), trivial, fun b hb => absurd (show b ∈ ([] : List Addr) from hb) (by simp), ok, .of_eq hg⟩
  have run := (F _ inK (spaces hns)).run callerA [] s1 H ⟨[.ref a], []⟩ [.ref a] [.ref a] _ _ rfl hr start (hbind s1 (.ref a)) (.cons rfl .nil) hsp
  refine codeAny_mono run fun r s' h => ?_
  cases r with
  | error e => exact h.elim
  | ok fl =>
    cases fl with
    | next => exact False.elim h
    | brk => exact False.elim h
    | cont => exact False.elim h
    | ret u =>
      obtain ⟨v, H', os, bare, un, ok', r', q⟩ := h
      have ev : v = .bl true := q
      subst ev
      obtain rfl : u = Value.bool true := r'
      refine ⟨rfl, OldK.of_keep fun b o e => ?_, os, bare⟩
      rcases hO b with z | ⟨ob, xs, z⟩
      · exact un.keep b o e z (by intro q; cases q) (by simp)
      · obtain ⟨e1, _⟩ := ok b _ z
        obtain ⟨e2, _⟩ := ok' b _ (un.frzs b ob _ z)
        rw [e] at e1
        cases e1
        exact e2
theorem law_callG (KX : K.In s1.heap) (hns : s1.heap.Ns mainGlobals mg) (hb : s1.heap.Ns builtinsNs mb) (hbb : ∀ x : Str, x ≠ "__name__" → mb x = bootBuiltins x) (hlim : s1.heap.NoLimit) (hg : s1.gens = #[])
    (ha : s1.heap.get? a = some { cls := .type "list", data := .seq vs.toArray }) (hi : IntsAre vs ns) (hl : ns.length ≤ sizeLine) (hr : Room k callerA)
    (F : ∀ base : Heap, K.In base → base.Ns mainGlobals mg → FnG P w K mg base k fa fd [x] sp) (hbind : ∀ (s : Shared) (u : Value), BindsTo s fd ⟨[u], []⟩ [(x, u)])
    (hsp : ∀ H : Hp, Only H → SqL K H a (ns.map V.int) → sp [.ref a] H (fun v _ => v = .bl true) fun _ _ _ => False) : codeAny (model P w) callerA (.call (.ref fa) ⟨[.ref a], []⟩) (LawEnd s1) s1 := by
  have rv := vals_ints hi
  have lv := hi.length
  have go := law_from KX hns hb hbb hlim hg ha hr F hbind
  cases hk : K.lookup a with
  | some o =>
    have e := KX a o hk
    rw [ha] at e
    cases e
    have q : SqL K (fun _ => none) a (ns.map V.int) := .inr ⟨_, vs.toArray, _, hk, rfl, rfl, rfl, by rw [List.size_toArray, lv]; exact hl, by simpa using rv⟩
    refine go (fun _ => none) (fun _ => .inl rfl) ?_ (fun b z => absurd rfl z) (fun z => absurd rfl z) (hsp _ (fun _ => .inl rfl) q)
    intro b u z
    have z' : (none : Option HO) = some u := z
    cases z'
  | none =>
    let O : HO := .frz { cls := .type "list", data := .seq vs.toArray } (.lst (ns.map V.int))
    let H : Hp := fun b => if b = a then some O else none
    have at_a : H a = some O := if_pos rfl
    have off : ∀ b, b ≠ a → H b = none := fun b hb => if_neg hb
    have only : Only H := by
      intro b
      by_cases e : b = a
      · exact .inr ⟨_, _, by rw [e]; exact at_a⟩
      · exact .inl (off b e)
    refine go H only ?_ ?_ (fun _ => hk) (hsp H only (.inl (.inr ⟨_, at_a⟩)))
    · intro b u z
      by_cases e : b = a
      · rw [e, at_a] at z
        cases z
        rw [e]
        exact ⟨ha, by rw [List.length_map]; exact hl, vs, _, rv, ha⟩
      · rw [off b e] at z
        cases z
    · intro b z
      by_cases e : b = a
      · exact e
      · exact absurd (off b e) z
end
theorem walk_ofG {l : PySem.W.OpenLaw} {n k : Nat} {q : Program} {loose : List Str} {XP : (Str → Option Value) → Heap → Prop} {YP : World → Heap → Prop} {d : DefRec} {K : Params → PySem.W.Frag} {sp : PySem.W.Frag → Sp} {x : Str}
    (hn : l.most = some n) (hn2 : n ≤ sizeLine) (hdf : d.params.defaults = []) (hr : Room k callerA) (hY : ∀ (w : World) (h : Heap), YP w h → (K w.params).In h)
    (F : ∀ (w : World) (mg : Str → Option Value) (fa : Addr) (h : Heap), (K w.params).In h → h.Ns mainGlobals mg → mg d.name = some (.ref fa) →
      ∃ fd : FuncData, (∀ (s : Shared) (u : Value), BindsTo s fd ⟨[u], []⟩ [(x, u)]) ∧ ∀ base : Heap, (K w.params).In base → base.Ns mainGlobals mg → FnG l.prog w (K w.params) mg base k fa fd [x] (sp (K w.params)))
    (hsp : ∀ (K : PySem.W.Frag) (H : Hp) (a : Addr) (ns : List Int), ns.length ≤ n → Only H → SqL K H a (ns.map V.int) → sp K [.ref a] H (fun v _ => v = .bl true) fun _ _ _ => False) :
    PySem.W.WalkO q loose XP YP l.row.toRowW d [] (fun f vs => PySem.call f vs) := by
  refine Att.attach_call hn hdf fun w s0 s1 mg mb fa o pm cd doc a vs ns G Y ho hd hcd hmg hobj hints hlen hgn => ?_
  have inK := hY w _ Y
  obtain ⟨fd, bnd, hF⟩ := F w mg fa _ inK G.T.g hmg
  exact law_callG inK G.T.g G.T.b G.T.builtins G.T.nolimit hgn hobj hints (Nat.le_trans hlen hn2) hr hF bnd fun H hO hS => hsp (K w.params) H a ns hlen hO hS
end K31W
set_option Elab.async false
set_option linter.all false
set_option maxRecDepth 100000
set_option maxHeartbeats 4000000
/-! K31Yl: readings by data: an expression gives the data d, whatever new things come into the heap. -/
namespace K31W
open PySem PySem.Spec PyProof.Rows L2
abbrev Fr := PySem.W.Frag
/-- t gives d from σ, H on: at each heap that keeps H -/
def Yl (K : Fr) (t : TE) (σ : L2.St) (H : Hp) (d : PyData) : Prop := ∀ H1, Same H H1 → ∀ Q : VK, (∀ H2 v, Same H1 H2 → Dp K H2 v d → Q v H2) → t σ H1 Q
def YlA (K : Fr) (t : TA) (σ : L2.St) (H : Hp) (ds : List PyData) : Prop := ∀ H1, Same H H1 → ∀ Q : List V → Hp → Prop, (∀ H2 vs, Same H1 H2 → DpAll K H2 vs ds → Q vs H2) → t σ H1 Q
def YT (t : TT) (σ : L2.St) (H : Hp) (b : Bool) : Prop := ∀ H1, Same H H1 → ∀ Q : Bool → Hp → Prop, (∀ H2, Same H1 H2 → Q b H2) → t σ H1 Q
/-- .. a new list -/
def YlN (K : Fr) (t : TE) (σ : L2.St) (H : Hp) (ds : List PyData) : Prop := ∀ H1, Same H H1 → ∀ Q : VK, (∀ H2 p xs, Same H1 H2 → H1 p = none → H2 p = some (.lst xs) → DpAll K H2 xs ds → Q (.ref p) H2) → t σ H1 Q
/-- a walk over the data items -/
def YD (K : Fr) (itms : List PyData) : Nat → Hp → V → Hp → Prop := fun i H x H' => Same H H' ∧ ∃ d, itms[i]? = some d ∧ Dp K H' x d
def YI (K : Fr) (wi : TI) (σ : L2.St) (H : Hp) (itms : List PyData) : Prop := ∀ H1, Same H H1 → ∀ R : It → Hp → Prop,
  (∀ J (G : Hp → Prop) H2, Same H1 H2 → G H2 → (∀ H3 H4, G H3 → Same H3 H4 → G H4) → Walk J itms.length G (YD K itms) → R J H2) → wi σ H1 R
variable {K : Fr} {σ : L2.St} {H H' : Hp} {d e f : PyData} {ds es : List PyData} {t u v : TE} {ta : TA} {b c : Bool}
theorem Yl.mono (h : Yl K t σ H d) (s : Same H H') : Yl K t σ H' d := fun H1 s1 Q q => h H1 (s.trans s1) Q q
theorem YlA.mono (h : YlA K ta σ H ds) (s : Same H H') : YlA K ta σ H' ds := fun H1 s1 Q q => h H1 (s.trans s1) Q q
theorem YlN.yl (h : YlN K t σ H ds) : Yl K t σ H (.list ds) := fun H1 s Q q => h H1 s Q fun H2 p xs s2 _ e hd => q H2 (.ref p) s2 (.lst (SqL.of e) hd)
theorem Yl.eq (h : Yl K t σ H d) (x : d = e) : Yl K t σ H e := x ▸ h
theorem YlN.eq (h : YlN K t σ H ds) (x : ds = es) : YlN K t σ H es := x ▸ h
theorem YT.eq {t : TT} (h : YT t σ H b) (x : b = c) : YT t σ H c := x ▸ h
theorem yl_var {i : Nat} {x : V} (h : σ[i]? = some (some x)) (hd : Dp K H x d) : Yl K (tVar i) σ H d := fun H1 s Q q => ⟨x, h, q H1 x (Same.refl _) (dp_same s d x hd)⟩
theorem yl_const {x : V} (hd : ∀ H, Dp K H x d) : Yl K (tC x) σ H d := fun H1 s Q q => q H1 x (Same.refl _) (hd H1)
theorem yl_int (i : Int) : Yl K (tC (.int i)) σ H (.int i) := yl_const fun _ => .int i
theorem yl_bl (i : Bool) : Yl K (tC (.bl i)) σ H (.bool i) := yl_const fun _ => .bl i
theorem yl_non : Yl K (tC .non) σ H .none := yl_const fun _ => .non
theorem yl_op {r : R2} (ha : Yl K t σ H d) (hb : Yl K u σ H e)
    (hr : ∀ H1 x y, Same H H1 → Dp K H1 x d → Dp K H1 y e → ∀ Q : VK, (∀ H2 v, Same H1 H2 → Dp K H2 v f → Q v H2) → r x y H1 Q) : Yl K (tOp r t u) σ H f :=
  fun H1 s Q q => ha H1 s _ fun H2 x s2 hx => hb H2 (s.trans s2) _ fun H3 y s3 hy => hr H3 x y (s.trans (s2.trans s3)) (dp_same s3 d x hx) hy Q fun H4 v s4 hv => q H4 v (s2.trans (s3.trans s4)) hv
theorem yl_ii {g : Int → Int → Int} {i j : Int} (ha : Yl K t σ H (.int i)) (hb : Yl K u σ H (.int j)) : Yl K (tOp (rI0 fun i j => .int (g i j)) t u) σ H (.int (g i j)) :=
  yl_op ha hb fun H1 x y _ hx hy Q q => ⟨i, j, int_inv hx, int_inv hy, q H1 _ (Same.refl _) (.int _)⟩
theorem yl_ib {g : Int → Int → Bool} {i j : Int} (ha : Yl K t σ H (.int i)) (hb : Yl K u σ H (.int j)) : Yl K (tOp (rI0 fun i j => .bl (g i j)) t u) σ H (.bool (g i j)) :=
  yl_op ha hb fun H1 x y _ hx hy Q q => ⟨i, j, int_inv hx, int_inv hy, q H1 _ (Same.refl _) (.bl _)⟩
theorem yl_ic {C : Int → Int → Prop} {g : Int → Int → Int} {i j : Int} (ha : Yl K t σ H (.int i)) (hb : Yl K u σ H (.int j)) (hc : C i j) : Yl K (tOp (rI C fun i j => .int (g i j)) t u) σ H (.int (g i j)) :=
  yl_op ha hb fun H1 x y _ hx hy Q q => ⟨i, j, int_inv hx, int_inv hy, hc, q H1 _ (Same.refl _) (.int _)⟩
theorem yl_neg {i : Int} (ha : Yl K t σ H (.int i)) : Yl K (tUn (rU fun i => .int (-i)) t) σ H (.int (-i)) := fun H1 s Q q => ha H1 s _ fun H2 x s2 hx => ⟨i, int_inv hx, q H2 _ s2 (.int _)⟩
theorem yl_eq (ha : Yl K t σ H d) (hb : Yl K u σ H e) (sd : SeqAt.shaped d = true) (se : SeqAt.shaped e = true) (hv : PyData.eqv d e = b) : Yl K (tOp (rEqD K) t u) σ H (.bool b) :=
  yl_op ha hb fun H1 x y _ hx hy Q q => ⟨d, e, hx, hy, sd, se, q H1 _ (Same.refl _) (by rw [hv]; exact .bl _)⟩
theorem yl_ne (ha : Yl K t σ H d) (hb : Yl K u σ H e) (sd : SeqAt.shaped d = true) (se : SeqAt.shaped e = true) (hv : PyData.eqv d e = b) : Yl K (tOp (rNeD K) t u) σ H (.bool !b) :=
  yl_op ha hb fun H1 x y _ hx hy Q q => ⟨d, e, hx, hy, sd, se, q H1 _ (Same.refl _) (by rw [hv]; exact .bl _)⟩
theorem bl_inv {x : V} {i : Bool} (h : Dp K H x (.bool i)) : x = .bl i := by cases h; rfl
theorem non_inv {x : V} (h : Dp K H x .none) : x = .non := by cases h; rfl
/-! in: whole numbers -/
theorem inV_ints (i : Int) (ns : List Int) : inV (.int i) (ns.map V.int) = decide (i ∈ ns) := by
  unfold inV
  rw [List.any_map]
  by_cases h : i ∈ ns
  · rw [decide_eq_true h, List.any_eq_true]
    exact ⟨i, h, by simp [eqV]⟩
  · rw [decide_eq_false h, List.any_eq_false]
    intro x hx e
    have e' : (x == i) = true := by simpa [eqV] using e
    exact h (by rw [← (beq_iff_eq.mp e')]; exact hx)
theorem flats (ns : List Int) : (ns.map V.int).all flatV = true := by
  rw [List.all_eq_true]
  intro x hx
  obtain ⟨i, _, rfl⟩ := List.mem_map.mp hx
  rfl
theorem yl_inI {i : Int} {ns : List Int} {neg : Bool} (ha : Yl K t σ H (.int i)) (hb : Yl K u σ H (tI ns)) : Yl K (tOp (rIn K neg) t u) σ H (.bool (if neg then !decide (i ∈ ns) else decide (i ∈ ns))) :=
  yl_op ha hb fun H1 x y _ hx hy Q q => by
    obtain ⟨a, rfl, hs⟩ := tI_inv hy
    cases int_inv hx
    refine ⟨a, ns.map V.int, rfl, .inr hs, rfl, flats ns, ?_⟩
    rw [inV_ints]
    exact q H1 _ (Same.refl _) (.bl _)
theorem yl_inR {r : List Int} {R : List (List Int)} {neg : Bool} (ha : Yl K t σ H (tI r)) (hb : Yl K u σ H e) (he : e = .tuple (tR R) ∨ e = .list (tR R)) : Yl K (tOp (rInR K neg) t u) σ H (.bool (if neg then !decide (r ∈ R) else decide (r ∈ R))) :=
  yl_op ha hb fun H1 x y _ hx hy Q q => by
    refine ⟨r, R, hx, ?_, q H1 _ (Same.refl _) (.bl _)⟩
    rcases he with rfl | rfl
    · exact .inl hy
    · exact .inr hy
/-! is None -/
theorem yl_isN {n : Bool} (ha : Yl K t σ H d) (hn : (match d with | .none => true | _ => false) = n) : Yl K (tOp (fun x y H Q => y = .non ∧ Q (.bl (decide (x = .non))) H) t (tC .non)) σ H (.bool n) :=
  yl_op ha yl_non fun H1 x y _ hx hy Q q => by
    refine ⟨non_inv hy, ?_⟩
    have e : decide (x = V.non) = n := by cases hx <;> subst hn <;> simp
    rw [e]
    exact q H1 _ (Same.refl _) (.bl _)
theorem yl_notN {n : Bool} (ha : Yl K t σ H d) (hn : (match d with | .none => true | _ => false) = n) : Yl K (tOp (fun x y H Q => y = .non ∧ Q (.bl (!decide (x = .non))) H) t (tC .non)) σ H (.bool !n) :=
  yl_op ha yl_non fun H1 x y _ hx hy Q q => by
    refine ⟨non_inv hy, ?_⟩
    have e : decide (x = V.non) = n := by cases hx <;> subst hn <;> simp
    rw [e]
    exact q H1 _ (Same.refl _) (.bl _)
/-! arguments, displays, calls -/
theorem yla_nil : YlA K tNil σ H [] := fun H1 s Q q => q H1 [] (Same.refl _) .nil
theorem yla_cons (h : Yl K t σ H d) (g : YlA K ta σ H ds) : YlA K (tCons t ta) σ H (d :: ds) :=
  fun H1 s Q q => h H1 s _ fun H2 x s2 hx => g H2 (s.trans s2) _ fun H3 xs s3 hxs => q H3 _ (s2.trans s3) (.cons (dp_same s3 d x hx) hxs)
theorem yla_one (h : Yl K t σ H d) : YlA K (tCons t tNil) σ H [d] := yla_cons h yla_nil
theorem yla_star (h : Yl K t σ H e) (he : e = .tuple ds ∨ e = .list ds) (g : YlA K ta σ H es) : YlA K (StX.tStar K t ta) σ H (ds ++ es) :=
  fun H1 s Q q => h H1 s _ fun H2 x s2 hx => by
    rcases he with rfl | rfl
    · obtain ⟨a, xs, rfl, hs, hd⟩ := tup_inv hx
      exact ⟨a, xs, rfl, .inl hs, g H2 (s.trans s2) _ fun H3 ys s3 hys => q H3 _ (s2.trans s3) (dps_app (dps_same s3 _ _ hd) hys)⟩
    · obtain ⟨a, xs, rfl, hs, hd⟩ := lst_inv hx
      exact ⟨a, xs, rfl, .inr hs, g H2 (s.trans s2) _ fun H3 ys s3 hys => q H3 _ (s2.trans s3) (dps_app (dps_same s3 _ _ hd) hys)⟩
theorem yl_tup (h : YlA K ta σ H ds) (hz : ds.length ≤ sizeLine) : Yl K (tTup ta) σ H (.tuple ds) :=
  fun H1 s Q q => h H1 s _ fun H2 xs s2 hx => ⟨by rw [dps_len hx]; exact hz, fun p hp => q _ _ (s2.trans (same_new hp)) (.tup (SqT.of upd_same) (dps_same (same_new hp) _ _ hx))⟩
theorem yn_lst (h : YlA K ta σ H ds) (hz : ds.length ≤ sizeLine) : YlN K (tLst ta) σ H ds :=
  fun H1 s Q q => h H1 s _ fun H2 xs s2 hx => ⟨by rw [dps_len hx]; exact hz, fun p hp => q _ p xs (s2.trans (same_new hp)) (by
    cases e : H1 p with
    | none => rfl
    | some o => rw [s2 _ _ e] at hp; cases hp) upd_same (dps_same (same_new hp) _ _ hx)⟩
theorem none_back {p : Addr} (s : Same H H') (h : H' p = none) : H p = none := by
  cases e : H p with
  | none => rfl
  | some o => rw [s _ _ e] at h; cases h
/-- the promise of a def that only makes: the data out for the data in -/
def spD (K : Fr) (In : List PyData → PyData → Prop) : Sp := fun vs H Q _ => ∃ ds d, In ds d ∧ DpAll K H vs ds ∧ ∀ H2 v, Same H H2 → Dp K H2 v d → Q v H2
theorem yl_call {In : List PyData → PyData → Prop} {E : XK} (h : YlA K ta σ H ds) (hi : In ds d) : Yl K (tCall (spD K In) [] E ta) σ H d :=
  fun H1 s Q q => h H1 s _ fun H2 xs s2 hx => ⟨ds, d, hi, by rw [List.append_nil]; exact hx, fun H3 v s3 hv => q H3 v (s2.trans s3) hv⟩
theorem yl_cb {r : List V → Hp → VK → Prop} (h : YlA K ta σ H ds) (hr : ∀ H1 vs, Same H H1 → DpAll K H1 vs ds → ∀ Q : VK, (∀ H2 v, Same H1 H2 → Dp K H2 v d → Q v H2) → r vs H1 Q) : Yl K (tCB r ta) σ H d :=
  fun H1 s Q q => h H1 s _ fun H2 xs s2 hx => hr H2 xs (s.trans s2) hx Q fun H3 v s3 hv => q H3 v (s2.trans s3) hv
theorem yn_cb {r : List V → Hp → VK → Prop} (h : YlA K ta σ H ds) (hr : ∀ H1 vs, Same H H1 → DpAll K H1 vs ds → ∀ Q : VK, (∀ H2 p xs, Same H1 H2 → H1 p = none → H2 p = some (.lst xs) → DpAll K H2 xs es → Q (.ref p) H2) → r vs H1 Q) : YlN K (tCB r ta) σ H es :=
  fun H1 s Q q => h H1 s _ fun H2 xs s2 hx => hr H2 xs (s.trans s2) hx Q fun H3 p xs s3 n e hv => q H3 p xs (s2.trans s3) (none_back s2 n) e hv
theorem one_inv {x : List V} (h : DpAll K H x [d]) : ∃ v, x = [v] ∧ Dp K H v d := by
  cases h with
  | cons h1 h2 => cases h2; exact ⟨_, rfl, h1⟩
theorem two_inv {x : List V} (h : DpAll K H x [d, e]) : ∃ v w, x = [v, w] ∧ Dp K H v d ∧ Dp K H w e := by
  cases h with
  | cons h1 h2 =>
    obtain ⟨w, rfl, h3⟩ := one_inv h2
    exact ⟨_, w, rfl, h1, h3⟩
theorem three_inv {x : List V} (h : DpAll K H x [d, e, f]) : ∃ v w y, x = [v, w, y] ∧ Dp K H v d ∧ Dp K H w e ∧ Dp K H y f := by
  cases h with
  | cons h1 h2 =>
    obtain ⟨w, y, rfl, h3, h4⟩ := two_inv h2
    exact ⟨_, w, y, rfl, h1, h3, h4⟩
/-- len -/
abbrev rLen (K : Fr) : List V → Hp → VK → Prop := fun xs H Q => ∃ p ys, xs = [.ref p] ∧ (SqL K H p ys ∨ SqT K H p ys) ∧ Q (.int ys.length) H
theorem yl_len {n : Nat} (h : Yl K t σ H e) (he : (e = .tuple ds ∨ e = .list ds) ∧ ds.length = n) : Yl K (tCB (rLen K) (tCons t tNil)) σ H (.int n) :=
  yl_cb (yla_one h) fun H1 vs _ hv Q q => by
    obtain ⟨x, rfl, hx⟩ := one_inv hv
    obtain ⟨he, rfl⟩ := he
    rcases he with rfl | rfl
    · obtain ⟨a, xs, rfl, hs, hd⟩ := tup_inv hx
      exact ⟨a, xs, rfl, .inr hs, by rw [dps_len hd]; exact q H1 _ (Same.refl _) (.int _)⟩
    · obtain ⟨a, xs, rfl, hs, hd⟩ := lst_inv hx
      exact ⟨a, xs, rfl, .inl hs, by rw [dps_len hd]; exact q H1 _ (Same.refl _) (.int _)⟩
abbrev rTupOf (K : Fr) : List V → Hp → VK → Prop := fun xs H Q => ∃ p ys, xs = [.ref p] ∧ ((SqL K H p ys ∧ ∀ l, H l = none → Q (.ref l) (upd H l (.tup ys))) ∨ (SqT K H p ys ∧ Q (.ref p) H))
theorem yl_tupOf (h : Yl K t σ H (.list ds)) : Yl K (tCB (rTupOf K) (tCons t tNil)) σ H (.tuple ds) :=
  yl_cb (yla_one h) fun H1 vs _ hv Q q => by
    obtain ⟨x, rfl, hx⟩ := one_inv hv
    obtain ⟨a, xs, rfl, hs, hd⟩ := lst_inv hx
    exact ⟨a, xs, rfl, .inl ⟨hs, fun l hl => q _ _ (same_new hl) (.tup (SqT.of upd_same) (dps_same (same_new hl) _ _ hd))⟩⟩
abbrev rListOf (K : Fr) : List V → Hp → VK → Prop := fun xs H Q => ∃ p ys, xs = [.ref p] ∧ (SqL K H p ys ∨ SqT K H p ys) ∧ ∀ l, H l = none → Q (.ref l) (upd H l (.lst ys))
theorem yn_listOf (h : Yl K t σ H e) (he : e = .tuple ds ∨ e = .list ds) : YlN K (tCB (rListOf K) (tCons t tNil)) σ H ds :=
  yn_cb (yla_one h) fun H1 vs _ hv Q q => by
    obtain ⟨x, rfl, hx⟩ := one_inv hv
    rcases he with rfl | rfl
    · obtain ⟨a, xs, rfl, hs, hd⟩ := tup_inv hx
      exact ⟨a, xs, rfl, .inr hs, fun l hl => q _ l xs (same_new hl) hl upd_same (dps_same (same_new hl) _ _ hd)⟩
    · obtain ⟨a, xs, rfl, hs, hd⟩ := lst_inv hx
      exact ⟨a, xs, rfl, .inl hs, fun l hl => q _ l xs (same_new hl) hl upd_same (dps_same (same_new hl) _ _ hd)⟩
theorem bls_inv : ∀ {bs : List Bool} {vs : List V}, DpAll K H vs (bs.map PyData.bool) → vs = bs.map V.bl
  | [], _, h => by cases h; rfl
  | n :: ns, _, h => by
    cases h with
    | cons h1 h2 => rw [bl_inv h1, bls_inv h2]; rfl
theorem yl_all {bs : List Bool} (h : Yl K t σ H (.list (bs.map .bool))) : Yl K (tCB (rAll K) (tCons t tNil)) σ H (.bool (bs.all id)) :=
  yl_cb (yla_one h) fun H1 vs _ hv Q q => by
    obtain ⟨x, rfl, hx⟩ := one_inv hv
    obtain ⟨a, xs, rfl, hs, hd⟩ := lst_inv hx
    rw [bls_inv hd] at hs
    exact ⟨a, bs, rfl, hs, q H1 _ (Same.refl _) (.bl _)⟩
theorem yl_any {bs : List Bool} (h : Yl K t σ H (.list (bs.map .bool))) : Yl K (tCB (rAny K) (tCons t tNil)) σ H (.bool (bs.any id)) :=
  yl_cb (yla_one h) fun H1 vs _ hv Q q => by
    obtain ⟨x, rfl, hx⟩ := one_inv hv
    obtain ⟨a, xs, rfl, hs, hd⟩ := lst_inv hx
    rw [bls_inv hd] at hs
    exact ⟨a, bs, rfl, hs, q H1 _ (Same.refl _) (.bl _)⟩
theorem yl_sum {ns : List Int} (h : Yl K t σ H (.list (ns.map .int))) : Yl K (tCB (rSum K) (tCons t tNil)) σ H (.int ns.sum) :=
  yl_cb (yla_one h) fun H1 vs _ hv Q q => by
    obtain ⟨x, rfl, hx⟩ := one_inv hv
    obtain ⟨a, xs, rfl, hs, hd⟩ := lst_inv hx
    rw [dps_ints_inv hd] at hs
    exact ⟨a, ns, rfl, hs, q H1 _ (Same.refl _) (.int _)⟩
theorem pw_srt : ∀ {l : List Int}, l.Pairwise (· ≤ ·) → K31.Srt K31.ltI l := fun h => h.imp fun {a b} z => by simp [K31.ltI]; omega
theorem yn_sortI {ns : List Int} (h : Yl K t σ H (.list (ns.map .int))) (hz : ns.length < 64) : YlN K (tCB (rSorted K) (tCons t tNil)) σ H ((K31.isort K31.ltI ns).map .int) :=
  yn_cb (yla_one h) fun H1 vs _ hv Q q => by
    obtain ⟨x, rfl, hx⟩ := one_inv hv
    obtain ⟨a, xs, rfl, hs, hd⟩ := lst_inv hx
    rw [dps_ints_inv hd] at hs
    refine ⟨a, ns, rfl, hs, hz, fun ns' p hp hw hn => q _ p _ (same_new hn) hn upd_same ?_⟩
    rw [← K31.isort_eq K31.sto_int hp (pw_srt hw)]
    exact dps_ints ns'
theorem yn_sortR {R : List (List Int)} (h : Yl K t σ H e) (he : e = .tuple (tR R) ∨ e = .list (tR R)) (hk : (∀ r ∈ R, r ≠ []) ∨ R.head? = some []) : YlN K (tCB (rSrtT K) (tCons t tNil)) σ H (tR (K31.isort K31.lexLt R)) :=
  yn_cb (yla_one h) fun H1 vs _ hv Q q => by
    obtain ⟨x, rfl, hx⟩ := one_inv hv
    rcases he with rfl | rfl
    · obtain ⟨a, xs, rfl, hs, hd⟩ := tup_inv hx
      exact ⟨a, xs, R, rfl, .inr hs, hd, hk, fun ys p hy _ hn => q _ p ys (same_new hn) hn upd_same (dps_same (same_new hn) _ _ hy)⟩
    · obtain ⟨a, xs, rfl, hs, hd⟩ := lst_inv hx
      exact ⟨a, xs, R, rfl, .inl hs, hd, hk, fun ys p hy _ hn => q _ p ys (same_new hn) hn upd_same (dps_same (same_new hn) _ _ hy)⟩
abbrev rAbs : List V → Hp → VK → Prop := fun xs H Q => ∃ i, xs = [.int i] ∧ Q (.int (if i < 0 then -i else i)) H
theorem yl_abs {i : Int} (h : Yl K t σ H (.int i)) : Yl K (tCB rAbs (tCons t tNil)) σ H (.int i.natAbs) :=
  yl_cb (yla_one h) fun H1 vs _ hv Q q => by
    obtain ⟨x, rfl, hx⟩ := one_inv hv
    refine ⟨i, by rw [int_inv hx], ?_⟩
    rw [show (if i < 0 then -i else i) = (i.natAbs : Int) by split <;> omega]
    exact q H1 _ (Same.refl _) (.int _)
/-! isinstance -/
theorem ty_tup {a : Addr} {xs : List V} (h : SqT K H a xs) : TyX K H (.ref a) (.type "tuple") := by
  rcases h with (h | ⟨o, h⟩) | ⟨o, its, n, lk, hc, _⟩
  · exact .base (.tup h)
  · exact .fTuple h
  · exact .kTuple lk hc
def tyD : PyData → String
  | .none => "NoneType"
  | .bool _ => "bool"
  | .int _ => "int"
  | .str _ => "str"
  | .list _ => "list"
  | .tuple _ => "tuple"
  | .dict _ => "dict"
theorem ty_dp {x : V} (h : Dp K H x d) : TyX K H x (.type (tyD d)) := by
  cases h with
  | non => exact .base .non
  | bl b => exact .base (.bl b)
  | int i => exact .base (.int i)
  | str z => exact .base (.str z)
  | lst hs _ =>
    rcases hs with (h | ⟨o, h⟩) | ⟨o, its, n, lk, hc, _⟩
    · exact .base (.lst h)
    · exact .base (.frz h)
    · exact .kList lk hc
  | tup hs _ => exact ty_tup hs
theorem yl_isi {T : String} (h : Yl K t σ H d) (hk : kitB (tyD d) T = some b) : Yl K (tCB (rIsi K) (tCons t (tCons (tC (.ty T)) tNil))) σ H (.bool b) := by
  intro H1 s Q q
  refine h H1 s _ fun H2 x s2 hx => ?_
  exact ⟨x, .ty T, _, _, b, rfl, .ty T, ty_dp hx, kit_ty hk, q H2 _ s2 (.bl _)⟩
/-! subscripts, slices -/
theorem yl_ixT {i : Int} (ha : Yl K t σ H (.tuple ds)) (hb : Yl K u σ H (.int i)) (h0 : 0 ≤ i) (hi : ds[i.toNat]? = some d) : Yl K (tOp (rIxT K) t u) σ H d :=
  yl_op ha hb fun H1 x y _ hx hy Q q => by
    obtain ⟨a, xs, rfl, hs, hd⟩ := tup_inv hx
    obtain ⟨v, hv, hvd⟩ := dps_get hd hi
    refine ⟨a, xs, i, v, rfl, int_inv hy, hs, ?_, q H1 v (Same.refl _) hvd⟩
    have := atI_nat hv
    rwa [Int.toNat_of_nonneg h0] at this
theorem yl_ixL {i : Int} (ha : Yl K t σ H (.list ds)) (hb : Yl K u σ H (.int i)) (h0 : 0 ≤ i) (hi : ds[i.toNat]? = some d) : Yl K (tOp (rIxL K) t u) σ H d :=
  yl_op ha hb fun H1 x y _ hx hy Q q => by
    obtain ⟨a, xs, rfl, hs, hd⟩ := lst_inv hx
    obtain ⟨v, hv, hvd⟩ := dps_get hd hi
    refine ⟨a, xs, i, v, rfl, int_inv hy, hs, ?_, q H1 v (Same.refl _) hvd⟩
    have := atI_nat hv
    rwa [Int.toNat_of_nonneg h0] at this
/-- [lo:hi] of data -/
def cutD (ds : List PyData) (lo hi : Option Int) : List PyData := (ds.drop (HT.sIx ds.length 0 lo)).take (HT.sIx ds.length ds.length hi - HT.sIx ds.length 0 lo)
theorem dps_cut {xs : List V} (h : DpAll K H xs ds) (lo hi : Option Int) : DpAll K H (cutV xs lo hi) (cutD ds lo hi) := by
  unfold cutV cutD
  rw [dps_len h]
  exact dps_take _ (dps_drop _ h)
def YO (t : TO) (σ : L2.St) (H : Hp) (i : Option Int) : Prop := ∀ H1, Same H H1 → ∀ Q : Option Int → Hp → Prop, (∀ H2, Same H1 H2 → Q i H2) → t σ H1 Q
theorem yo_none : YO tNoPart σ H none := fun H1 s Q q => q H1 (Same.refl _)
theorem yo_some {i : Int} (h : Yl K t σ H (.int i)) : YO (tPart t) σ H (some i) := fun H1 s Q q => h H1 s _ fun H2 x s2 hx => ⟨i, int_inv hx, q H2 s2⟩
theorem yl_slT {tl th : TO} {lo hi : Option Int} (ha : Yl K t σ H (.tuple ds)) (hl : YO tl σ H lo) (hh : YO th σ H hi) : Yl K (tSl (rSlA K) t tl th) σ H (.tuple (cutD ds lo hi)) := by
  intro H1 s Q q
  refine ha H1 s _ fun H2 x s2 hx => hl H2 (s.trans s2) _ fun H3 s3 => hh H3 (s.trans (s2.trans s3)) _ fun H4 s4 => ?_
  obtain ⟨a, xs, rfl, hs, hd⟩ := tup_inv (dp_same (s3.trans s4) _ _ hx)
  have sm : Same H1 H4 := s2.trans (s3.trans s4)
  refine ⟨a, xs, rfl, hs, fun hw => ?_, fun _ p hp => q _ _ (sm.trans (same_new hp)) (.tup (SqT.of upd_same) (dps_same (same_new hp) _ _ (dps_cut hd lo hi)))⟩
  have e : cutD ds lo hi = ds := by
    unfold cutD
    rw [← dps_len hd, hw.1, hw.2, List.drop_zero, Nat.sub_zero, dps_len hd, List.take_length]
  refine q H4 _ sm ?_
  rw [e]
  exact .tup hs hd
theorem yn_slL {tl th : TO} {lo hi : Option Int} (ha : Yl K t σ H (.list ds)) (hl : YO tl σ H lo) (hh : YO th σ H hi) : YlN K (tSl (rSlL K) t tl th) σ H (cutD ds lo hi) := by
  intro H1 s Q q
  refine ha H1 s _ fun H2 x s2 hx => hl H2 (s.trans s2) _ fun H3 s3 => hh H3 (s.trans (s2.trans s3)) _ fun H4 s4 => ?_
  obtain ⟨a, xs, rfl, hs, hd⟩ := lst_inv (dp_same (s3.trans s4) _ _ hx)
  have sm : Same H1 H4 := s2.trans (s3.trans s4)
  exact ⟨a, xs, rfl, hs, fun p hp => q _ p _ (sm.trans (same_new hp)) (none_back sm hp) upd_same (dps_same (same_new hp) _ _ (dps_cut hd lo hi))⟩
theorem cut_to (ds : List PyData) (i : Int) (h : 0 ≤ i) : cutD ds none (some i) = ds.take i.toNat := by
  unfold cutD
  obtain ⟨n, rfl⟩ := Int.eq_ofNat_of_zero_le h
  rw [HT.sIx_none, HT.sIx_nat, List.drop_zero, Nat.sub_zero, Int.toNat_natCast]
  by_cases hn : n ≤ ds.length
  · rw [Nat.min_eq_left hn]
  · rw [Nat.min_eq_right (by omega), List.take_length, List.take_of_length_le (by omega)]
theorem cut_from (ds : List PyData) (i : Int) (h : 0 ≤ i) : cutD ds (some i) none = ds.drop i.toNat := by
  unfold cutD
  obtain ⟨n, rfl⟩ := Int.eq_ofNat_of_zero_le h
  rw [HT.sIx_none, HT.sIx_nat, Int.toNat_natCast]
  by_cases hn : n ≤ ds.length
  · rw [Nat.min_eq_left hn, List.take_of_length_le (by rw [List.length_drop]; omega)]
  · rw [Nat.min_eq_right (by omega), List.drop_length, List.drop_of_length_le (by omega), List.take_nil]
/-! + of tuples, of lists -/
theorem yl_catT (ha : Yl K t σ H (.tuple ds)) (hb : Yl K u σ H (.tuple es)) (hz : ds.length + es.length ≤ sizeLine) : Yl K (tOp (rCatA K) t u) σ H (.tuple (ds ++ es)) :=
  yl_op ha hb fun H1 x y _ hx hy Q q => by
    obtain ⟨a, xs, rfl, hs, hd⟩ := tup_inv hx
    obtain ⟨a2, ys, rfl, hs2, hd2⟩ := tup_inv hy
    refine ⟨a, a2, xs, ys, rfl, rfl, hs, hs2, by rw [dps_len hd, dps_len hd2]; exact hz, fun e => ?_, fun _ e => ?_, fun _ _ p hp => q _ _ (same_new hp) (.tup (SqT.of upd_same) (dps_same (same_new hp) _ _ (dps_app hd hd2)))⟩
    · subst e
      cases hd
      exact q H1 _ (Same.refl _) hy
    · subst e
      cases hd2
      refine q H1 _ (Same.refl _) ?_
      rw [List.append_nil]
      exact hx
def rCatS (K : Fr) : R2 := fun x y H Q => ∃ l b xs zs, x = .ref l ∧ y = .ref b ∧ SqL K H l xs ∧ SqL K H b zs ∧ xs.length + zs.length ≤ sizeLine ∧ ∀ p, H p = none → Q (.ref p) (upd H p (.lst (xs ++ zs)))
theorem op_catS {X : Cx} : OpR X (binaryOp .Add) (rCatS X.K) := by
  intro pins s σ H x y v u Q I rx ry h
  obtain ⟨l, b, xs, zs, rfl, rfl, hH, hB, hz, q⟩ := h
  cases rx
  cases ry
  obtain ⟨its, r, ⟨⟨cls, dd, data, sl⟩, n, ho, hc, hdn, hdt⟩, hz1⟩ := I.list hH
  obtain ⟨its2, r2, ⟨⟨cls2, dd2, data2, sl2⟩, n2, ho2, hc2, hdn2, hdt2⟩, hz2⟩ := I.list hB
  simp only at hc hdn hdt hc2 hdn2 hdt2
  subst hc hdn hdt hc2 hdn2 hdt2
  have l1 := r.length
  have l2 := r2.length
  refine concat_meets ⟨_, ho, rfl⟩ ⟨_, ho2, rfl⟩ noFill_list_add seq_list_add F.slot_list_add F.entry_list_add (F.args_list_add_2 _ _) (list_addW l b its.toArray its2.toArray n n2 none none sl sl2 (by rw [List.size_toArray, List.size_toArray]; omega)) ⟨ho, ho2, ?_⟩
  have ea : its.toArray ++ its2.toArray = (its ++ its2).toArray := by simp
  rw [ea]
  exact ⟨.ref _, _, I.lnew (t' := s.toks) (r.append r2) (by rw [List.length_append]; omega), rfl, q _ I.fresh⟩
theorem yn_catL (ha : Yl K t σ H (.list ds)) (hb : Yl K u σ H (.list es)) (hz : ds.length + es.length ≤ sizeLine) : YlN K (tOp (rCatS K) t u) σ H (ds ++ es) := fun H1 s Q q =>
  ha H1 s _ fun H2 x s2 hx => hb H2 (s.trans s2) _ fun H3 y s3 hy => by
    obtain ⟨a, xs, rfl, hs, hd⟩ := lst_inv (dp_same s3 _ _ hx)
    obtain ⟨a2, ys, rfl, hs2, hd2⟩ := lst_inv hy
    exact ⟨a, a2, xs, ys, rfl, rfl, hs, hs2, by rw [dps_len hd, dps_len hd2]; exact hz, fun l hl => q _ l _ ((s2.trans s3).trans (same_new hl)) (none_back (s2.trans s3) hl) upd_same (dps_same (same_new hl) _ _ (dps_app hd hd2))⟩
/-- (..) * k -/
theorem yl_mulT {i : Int} {k : Nat} {ns : List Int} (ha : Yl K t σ H (tI ns)) (hb : Yl K u σ H (.int i)) (hi : i = (k : Int)) (hne : ns ≠ []) (h1 : 1 ≤ k) (h2 : k ≤ 1000) (hz : ns.length ≤ 1000) : Yl K (tOp (rMulT K) t u) σ H (tI (List.replicate k ns).flatten) :=
  yl_op ha hb fun H1 x y _ hx hy Q q => by
    subst hi
    obtain ⟨a, rfl, hs⟩ := tI_inv hx
    refine ⟨a, k, ns.map V.int, rfl, int_inv hy, hs, by simpa using hne, h1, h2, by rw [List.length_map]; exact hz, fun e => ?_, fun _ p hp => ?_⟩
    · subst e
      refine q H1 _ (Same.refl _) ?_
      simpa using hx
    · refine q _ _ (same_new hp) ?_
      have e : (List.replicate k (ns.map V.int)).flatten = ((List.replicate k ns).flatten).map V.int := by rw [List.map_flatten, List.map_replicate]
      rw [e]
      exact tI_new
/-! and, or, not, if else -/
theorem yl_and (ha : Yl K t σ H (.bool b)) (hb : b = true → Yl K u σ H (.bool c)) : Yl K (tAndV t u) σ H (.bool (b && c)) := fun H1 s Q q => ha H1 s _ fun H2 x s2 hx => by
  cases bl_inv hx
  refine ⟨b, rfl, ?_⟩
  cases b with
  | true => exact hb rfl H2 (s.trans s2) _ fun H3 v s3 hv => q H3 v (s2.trans s3) hv
  | false => exact q H2 _ s2 (.bl _)
theorem yl_or (ha : Yl K t σ H (.bool b)) (hb : b = false → Yl K u σ H (.bool c)) : Yl K (tOrV t u) σ H (.bool (b || c)) := fun H1 s Q q => ha H1 s _ fun H2 x s2 hx => by
  cases bl_inv hx
  refine ⟨b, rfl, ?_⟩
  cases b with
  | false => exact hb rfl H2 (s.trans s2) _ fun H3 v s3 hv => q H3 v (s2.trans s3) hv
  | true => exact q H2 _ s2 (.bl _)
theorem yl_not (ha : Yl K t σ H (.bool b)) : Yl K (tNotV t) σ H (.bool !b) := fun H1 s Q q => ha H1 s _ fun H2 x s2 hx => by
  cases bl_inv hx
  exact ⟨b, rfl, q H2 _ s2 (.bl _)⟩
theorem yl_if {tt : TT} (hc : YT tt σ H b) (ha : b = true → Yl K t σ H d) (hb : b = false → Yl K u σ H d) : Yl K (tIf tt t u) σ H d := fun H1 s Q q => hc H1 s _ fun H2 s2 => by
  cases b with
  | true => exact ha rfl H2 (s.trans s2) _ fun H3 v s3 hv => q H3 v (s2.trans s3) hv
  | false => exact hb rfl H2 (s.trans s2) _ fun H3 v s3 hv => q H3 v (s2.trans s3) hv
theorem yl_chain {r r' : R2} (ha : Yl K t σ H d) (hb : Yl K u σ H e) (hc : b = true → Yl K v σ H f)
    (hr : ∀ H1 x y, Same H H1 → Dp K H1 x d → Dp K H1 y e → ∀ Q : VK, (∀ H2, Same H1 H2 → Q (.bl b) H2) → r x y H1 Q)
    (hr' : b = true → ∀ H1 x y, Same H H1 → Dp K H1 x e → Dp K H1 y f → ∀ Q : VK, (∀ H2, Same H1 H2 → Q (.bl c) H2) → r' x y H1 Q) : Yl K (tChain r r' t u v) σ H (.bool (b && c)) :=
  fun H1 s Q q => ha H1 s _ fun H2 x s2 hx => hb H2 (s.trans s2) _ fun H3 y s3 hy => hr H3 x y (s.trans (s2.trans s3)) (dp_same s3 _ _ hx) hy _ fun H4 s4 => ⟨b, rfl, by
    cases b with
    | false => exact q H4 _ (s2.trans (s3.trans s4)) (.bl _)
    | true => exact hc rfl H4 (s.trans (s2.trans (s3.trans s4))) _ fun H5 z s5 hz => hr' rfl H5 y z (s.trans (s2.trans (s3.trans (s4.trans s5)))) (dp_same (s4.trans s5) _ _ hy) hz _ fun H6 s6 => q H6 _ (s2.trans (s3.trans (s4.trans (s5.trans s6)))) (.bl _)⟩
theorem yl_chainI {g g' : Int → Int → Bool} {i j k : Int} (ha : Yl K t σ H (.int i)) (hb : Yl K u σ H (.int j)) (hc : Yl K v σ H (.int k)) : Yl K (tChain (rI0 fun i j => .bl (g i j)) (rI0 fun i j => .bl (g' i j)) t u v) σ H (.bool (g i j && g' j k)) :=
  yl_chain ha hb (fun _ => hc) (fun H1 x y _ hx hy Q q => ⟨i, j, int_inv hx, int_inv hy, q H1 (Same.refl _)⟩) (fun _ H1 x y _ hx hy Q q => ⟨j, k, int_inv hx, int_inv hy, q H1 (Same.refl _)⟩)
/-! tests -/
theorem yt_test (h : Yl K t σ H (.bool b)) : YT (tTest t) σ H b := fun H1 s Q q => h H1 s _ fun H2 x s2 hx => by
  cases bl_inv hx
  exact ⟨b, rfl, q H2 s2⟩
theorem yt_b (h : Yl K t σ H (.bool b)) : YT (tB t) σ H b := fun H1 s Q q => h H1 s _ fun H2 x s2 hx => by
  cases bl_inv hx
  exact ⟨b, rfl, q H2 s2⟩
theorem yt_and {t u : TT} (ha : YT t σ H b) (hb : b = true → YT u σ H c) : YT (tAnd t u) σ H (b && c) := fun H1 s Q q => ha H1 s _ fun H2 s2 => by
  cases b with
  | true => exact hb rfl H2 (s.trans s2) _ fun H3 s3 => q H3 (s2.trans s3)
  | false => exact q H2 s2
theorem yt_or {t u : TT} (ha : YT t σ H b) (hb : b = false → YT u σ H c) : YT (tOr t u) σ H (b || c) := fun H1 s Q q => ha H1 s _ fun H2 s2 => by
  cases b with
  | false => exact hb rfl H2 (s.trans s2) _ fun H3 s3 => q H3 (s2.trans s3)
  | true => exact q H2 s2
theorem yt_not {t : TT} (ha : YT t σ H b) : YT (tNot t) σ H !b := fun H1 s Q q => ha H1 s _ fun H2 s2 => q H2 s2
theorem yt_yes : YT tYes σ H true := fun H1 s Q q => q H1 (Same.refl _)
/-! walks -/
theorem yi_list (h : Yl K t σ H (.list ds)) : YI K (iList K t) σ H ds := fun H1 s R r => h H1 s _ fun H2 x s2 hx => by
  obtain ⟨a, xs, rfl, hs, hd⟩ := lst_inv hx
  refine ⟨a, rfl, ⟨xs, hs⟩, r _ (fun H3 => SqL K H3 a xs ∧ DpAll K H3 xs ds) H2 s2 ⟨hs, hd⟩ (fun H3 H4 g s4 => ⟨s4.seq g.1, dps_same s4 _ _ g.2⟩) ?_⟩
  rw [← dps_len hd]
  exact walk_list.mono (fun H3 g => g.1) fun i H3 x H4 _ g y => by
    obtain ⟨rfl, e⟩ := y
    exact ⟨Same.refl _, dps_at g.2 e⟩
theorem yi_tup (h : Yl K t σ H (.tuple ds)) : YI K (iTup K t) σ H ds := fun H1 s R r => h H1 s _ fun H2 x s2 hx => by
  obtain ⟨a, xs, rfl, hs, hd⟩ := tup_inv hx
  refine ⟨a, rfl, ⟨xs, hs⟩, r _ (fun H3 => SqT K H3 a xs ∧ DpAll K H3 xs ds) H2 s2 ⟨hs, hd⟩ (fun H3 H4 g s4 => ⟨Same.tp s4 g.1, dps_same s4 _ _ g.2⟩) ?_⟩
  rw [← dps_len hd]
  exact walk_tup.mono (fun H3 g => g.1) fun i H3 x H4 _ g y => by
    obtain ⟨rfl, e⟩ := y
    exact ⟨Same.refl _, dps_at g.2 e⟩
theorem yi_range {n : Nat} (h : Yl K t σ H (.int n)) (hn : n ≤ 1000000) : YI K (iRng1 (tCons t tNil)) σ H ((K31.rng n).map .int) := fun H1 s R r => h H1 s _ fun H2 x s2 hx => by
  refine ⟨n, by rw [int_inv hx], by omega, by omega, r _ (fun _ => True) H2 s2 trivial (fun _ _ _ _ => trivial) ?_⟩
  have e : ((K31.rng n).map PyData.int).length = n := by unfold K31.rng; simp
  rw [e, Int.toNat_natCast]
  exact walk_range.mono (fun _ _ => trivial) fun i H3 x H4 hi _ y => by
    obtain ⟨rfl, rfl⟩ := y
    refine ⟨Same.refl _, .int (i : Nat), ?_, by show Dp K _ (.int (0 + (i : Int))) _; rw [Int.zero_add]; exact .int _⟩
    unfold K31.rng
    simp [hi]
theorem pair_new {T : Addr} {x y : V} (hT : H T = none) (hx : Dp K H x d) (hy : Dp K H y e) : Same H (upd H T (.tup [x, y])) ∧ Dp K (upd H T (.tup [x, y])) (.ref T) (.tuple [d, e]) :=
  ⟨same_new hT, .tup (SqT.of upd_same) (.cons (dp_same (same_new hT) _ _ hx) (.cons (dp_same (same_new hT) _ _ hy) .nil))⟩
/-- each with its place -/
def enumD (ds : List PyData) : List PyData := ds.mapIdx fun i d => .tuple [.int (i : Nat), d]
theorem yi_enum (h : Yl K t σ H (.tuple ds)) : YI K (iEnT K (tCons t tNil)) σ H (enumD ds) := fun H1 s R r => h H1 s _ fun H2 x s2 hx => by
  obtain ⟨a, xs, rfl, hs, hd⟩ := tup_inv hx
  refine ⟨a, xs, rfl, hs, r _ (fun H3 => SqT K H3 a xs ∧ DpAll K H3 xs ds) H2 s2 ⟨hs, hd⟩ (fun H3 H4 g s4 => ⟨Same.tp s4 g.1, dps_same s4 _ _ g.2⟩) ?_⟩
  have e : (enumD ds).length = xs.length := by unfold enumD; rw [List.length_mapIdx, dps_len hd]
  rw [e]
  exact walk_enT.mono (fun H3 g => g.1) fun i H3 v H4 _ g y => by
    obtain ⟨T, x, z, rfl, hT, rfl, ex, ez⟩ := y
    cases ex
    obtain ⟨d, ed, hz⟩ := dps_at g.2 ez
    obtain ⟨q1, q2⟩ := pair_new hT (.int (i : Nat)) hz
    exact ⟨q1, _, by unfold enumD; rw [List.getElem?_mapIdx, ed]; rfl, q2⟩
theorem yi_zip (h : Yl K t σ H (.tuple ds)) (g : Yl K u σ H (.tuple es)) : YI K (RZ.iZipA K (tCons t (tCons u tNil))) σ H (List.zipWith (fun d e => .tuple [d, e]) ds es) := fun H1 s R r => by
  refine h H1 s _ fun H2 x s2 hx => g H2 (s.trans s2) _ fun H3 y s3 hy => ?_
  obtain ⟨a, xs, rfl, hs, hd⟩ := tup_inv (dp_same s3 _ _ hx)
  obtain ⟨b, ys, rfl, hs', hd'⟩ := tup_inv hy
  refine ⟨a, b, xs, ys, rfl, .inr ⟨hs, hs', r _ (fun H3 => (SqT K H3 a xs ∧ SqT K H3 b ys) ∧ DpAll K H3 xs ds ∧ DpAll K H3 ys es) H3 (s2.trans s3) ⟨⟨hs, hs'⟩, hd, hd'⟩ (fun H3 H4 g s4 => ⟨⟨Same.tp s4 g.1.1, Same.tp s4 g.1.2⟩, dps_same s4 _ _ g.2.1, dps_same s4 _ _ g.2.2⟩) ?_⟩⟩
  rw [List.length_zipWith, ← dps_len hd, ← dps_len hd']
  exact (walk_zT rfl).mono (fun H3 g => g.1) fun i H3 v H4 _ g y => by
    obtain ⟨T, x, z, rfl, hT, rfl, ex, ez⟩ := y
    obtain ⟨d, ed, hx⟩ := dps_at g.2.1 ex
    obtain ⟨e, ee, hz⟩ := dps_at g.2.2 ez
    obtain ⟨q1, q2⟩ := pair_new hT hx hz
    exact ⟨q1, _, by rw [List.getElem?_zipWith, ed, ee], q2⟩
theorem yi_z3 {fs : List PyData} {n : Nat} (h : Yl K t σ H (.tuple ds)) (g : Yl K u σ H (.tuple es)) (k : Yl K v σ H (.tuple fs)) (n1 : ds.length = n) (n2 : es.length = n) (n3 : fs.length = n) :
    YI K (iZ3 K (tCons t (tCons u (tCons v tNil)))) σ H (List.zipWith (fun d (p : PyData × PyData) => .tuple [d, p.1, p.2]) ds (es.zip fs)) := fun H1 s R r => by
  refine h H1 s _ fun H2 x s2 hx => g H2 (s.trans s2) _ fun H3 y s3 hy => k H3 (s.trans (s2.trans s3)) _ fun H4 z s4 hz => ?_
  obtain ⟨a, xs, rfl, hs, hd⟩ := tup_inv (dp_same (s3.trans s4) _ _ hx)
  obtain ⟨b, ys, rfl, hs', hd'⟩ := tup_inv (dp_same s4 _ _ hy)
  obtain ⟨c, zs, rfl, hs2, hd2⟩ := tup_inv hz
  refine ⟨a, b, c, xs, ys, zs, rfl, hs, hs', hs2, r _ (fun H3 => (SqT K H3 a xs ∧ SqT K H3 b ys ∧ SqT K H3 c zs) ∧ DpAll K H3 xs ds ∧ DpAll K H3 ys es ∧ DpAll K H3 zs fs) H4 (s2.trans (s3.trans s4)) ⟨⟨hs, hs', hs2⟩, hd, hd', hd2⟩
    (fun H3 H4 g s4 => ⟨⟨Same.tp s4 g.1.1, Same.tp s4 g.1.2.1, Same.tp s4 g.1.2.2⟩, dps_same s4 _ _ g.2.1, dps_same s4 _ _ g.2.2.1, dps_same s4 _ _ g.2.2.2⟩) ?_⟩
  rw [List.length_zipWith, List.length_zip]
  refine (walk_z3 ?_).mono (fun H3 g => g.1) fun i H3 v H4 _ g y => ?_
  · rw [dps_len hd, dps_len hd', dps_len hd2]
    omega
  · obtain ⟨T, x, z, w, rfl, hT, rfl, ex, ez, ew⟩ := y
    obtain ⟨d, ed, hx⟩ := dps_at g.2.1 ex
    obtain ⟨e, ee, hz⟩ := dps_at g.2.2.1 ez
    obtain ⟨f, ef, hw⟩ := dps_at g.2.2.2 ew
    have sm := same_new (o := .tup [x, z, w]) hT
    refine ⟨sm, _, ?_, .tup (SqT.of upd_same) (.cons (dp_same sm _ _ hx) (.cons (dp_same sm _ _ hz) (.cons (dp_same sm _ _ hw) .nil)))⟩
    have hh : (es.zip fs)[i]? = some (e, f) := List.getElem?_zip_eq_some.mpr ⟨ee, ef⟩
    rw [List.getElem?_zipWith, ed, hh]
/-! statements -/
variable {D : Ends} {i : Nat}
theorem st_set (h : Yl K t σ H d) (q : ∀ H2 x, Same H H2 → Dp K H2 x d → D.nx (σ.set i (some x)) H2) : tAsg t (gName i) D σ H := h H (Same.refl _) _ fun H2 x s hx => q H2 x s hx
theorem st_setN (h : YlN K t σ H ds) (q : ∀ H2 p xs, Same H H2 → H p = none → H2 p = some (.lst xs) → DpAll K H2 xs ds → D.nx (σ.set i (some (.ref p))) H2) : tAsg t (gName i) D σ H := h H (Same.refl _) _ fun H2 p xs s n e hx => q H2 p xs s n e hx
theorem st_ret (h : Yl K t σ H d) (q : ∀ H2 x, Same H H2 → Dp K H2 x d → D.rt x H2) : tRet t D σ H := h H (Same.refl _) _ fun H2 x s hx => q H2 x s hx
theorem st_if {tt : TT} {p q : TS} (h : YT tt σ H b) (hT : b = true → ∀ H2, Same H H2 → p D σ H2) (hF : b = false → ∀ H2, Same H H2 → q D σ H2) : tIfS tt p q D σ H := h H (Same.refl _) _ fun H2 s => by
  cases b with
  | true => exact hT rfl H2 s
  | false => exact hF rfl H2 s
theorem gt_two {i j : Nat} {x : V} (hx : Dp K H x (.tuple [d, e])) {Q : L2.St → Hp → Prop} (q : ∀ y z, Dp K H y d → Dp K H z e → Q ((σ.set i (some y)).set j (some z)) H) : gTup K 2 (gCons (gName i) (gCons (gName j) gNil)) x σ H Q := by
  obtain ⟨a, xs, rfl, hs, hd⟩ := tup_inv hx
  obtain ⟨y, z, rfl, hy, hz⟩ := two_inv hd
  exact ⟨a, [y, z], rfl, hs, rfl, y, [z], rfl, z, [], rfl, rfl, q y z hy hz⟩
theorem gt_three {i j k : Nat} {x : V} (hx : Dp K H x (.tuple [d, e, f])) {Q : L2.St → Hp → Prop} (q : ∀ y z w, Dp K H y d → Dp K H z e → Dp K H w f → Q (((σ.set i (some y)).set j (some z)).set k (some w)) H) : gTup K 3 (gCons (gName i) (gCons (gName j) (gCons (gName k) gNil))) x σ H Q := by
  obtain ⟨a, xs, rfl, hs, hd⟩ := tup_inv hx
  obtain ⟨y, z, w, rfl, hy, hz, hw⟩ := three_inv hd
  exact ⟨a, [y, z, w], rfl, hs, rfl, y, [z, w], rfl, z, [w], rfl, w, [], rfl, rfl, q y z w hy hz hw⟩
/-- a for: the data ds of the values vs by the turn; sh: the slots, by the values and what else lies there -/
theorem st_for {wi : TI} {g : TG} {tb : TS} {itms : List PyData} (hi : YI K wi σ H itms) (C : Nat → List PyData → Prop) (sh : List V → List (Option V) → L2.St) {vs0 : List V} {ds0 : List PyData} (ys0 : List (Option V)) (hσ : σ = sh vs0 ys0)
    (h0 : DpAll K H vs0 ds0) (c0 : C 0 ds0)
    (turn : ∀ i d H1 x vs ds ys (N : L2.St → Hp → Prop), itms[i]? = some d → Same H H1 → C i ds → DpAll K H1 vs ds → Dp K H1 x d → (∀ vs' ds' ys' H3, Same H1 H3 → DpAll K H3 vs' ds' → C (i + 1) ds' → N (sh vs' ys') H3) →
      g x (sh vs ys) H1 fun σ2 H3 => tb { D with nx := N, ct := N, bk := D.nx } σ2 H3)
    (fin : ∀ H1 vs ds ys, Same H H1 → C itms.length ds → DpAll K H1 vs ds → D.nx (sh vs ys) H1) : tFor wi g tb D σ H := by
  refine hi H (Same.refl _) _ fun J G H2 s2 g2 gs w => ?_
  have w2 : Walk J itms.length (fun H3 => Same H2 H3) (YD K itms) := w.mono (fun H3 s => gs _ _ g2 s) fun i H3 x H4 _ _ y => y
  refine for_it w2 (fun i σ1 H1 => Same H2 H1 ∧ ∃ vs ds ys, σ1 = sh vs ys ∧ DpAll K H1 vs ds ∧ C i ds) ⟨Same.refl _, vs0, ds0, ys0, hσ, dps_same s2 _ _ h0, c0⟩ (fun i σ1 H1 _ p => p.1) (fun i x σ1 H1 H3 hlt p y => ?_) fun σ1 H1 p => ?_
  · obtain ⟨s1, vs, ds, ys, rfl, hd, hc⟩ := p
    obtain ⟨s3, d, ed, hx⟩ := y
    exact turn i d H3 x vs ds ys _ ed (s2.trans (s1.trans s3)) hc (dps_same s3 _ _ hd) hx fun vs' ds' ys' H4 s4 hd' hc' => ⟨s1.trans (s3.trans s4), vs', ds', ys', rfl, hd', hc'⟩
  · obtain ⟨s1, vs, ds, ys, rfl, hd, hc⟩ := p
    exact fin H1 vs ds ys (s2.trans s1) hc hd
/-- a comprehension over l's data: o a comes in, or nothing -/
theorem yn_lc {α : Type} {wi : TI} {g : TG} {tt : TT} {te : TE} {vs : List Nat} (l : List α) (enc : α → PyData) (o : α → Option PyData) (hi : YI K wi σ H (l.map enc)) (hz : l.length ≤ 100000) (hf : ∀ a ∈ l, ∀ d, o a = some d → firm d = true)
    (turn : ∀ a ∈ l, ∀ H1 x, Same H H1 → Dp K H1 x (enc a) → ∀ (R1 : VK) (R0 : Hp → Prop), (∀ y H4 d, o a = some d → Same H1 H4 → Dp K H4 y d → R1 y H4) → (o a = none → ∀ H4, Same H1 H4 → R0 H4) →
      g x (wipe σ vs) H1 fun σ2 H2 => wipe σ2 vs = wipe σ vs ∧ tt σ2 H2 fun b H3 => if b = true then te σ2 H3 R1 else R0 H3) : YlN K (tLc wi g tt te vs) σ H (l.filterMap o) := by
  intro H1 s Q q
  refine hi H1 s _ fun J G H2 s2 g2 gs w => fun P hP => ?_
  have w2 : Walk J l.length (fun H3 => Same H2 H3) (YD K (l.map enc)) := by
    have w' := w
    rw [List.length_map] at w'
    exact w'.mono (fun H3 s => gs _ _ g2 s) fun i H3 x H4 _ _ y => y
  refine lc_it w2 (Qd := Q (.ref P)) (fun i H3 => Same H2 H3 ∧ ∃ acc, H3 P = some (.lst acc) ∧ DpAll K H3 acc ((l.take i).filterMap o)) ⟨same_new hP, [], upd_same, .nil⟩ (fun i H3 _ p => p.1) (fun i x H3 H4 hlt p y => ?_) fun H3 p => ?_
  · obtain ⟨s3, acc, ea, ha⟩ := p
    obtain ⟨s4, d, ed, hx⟩ := y
    rw [List.getElem?_map, List.getElem?_eq_getElem hlt] at ed
    cases ed
    have tk : l.take (i + 1) = l.take i ++ [l[i]] := by rw [List.take_add_one, List.getElem?_eq_getElem hlt]; rfl
    have hm : l[i] ∈ l := List.getElem_mem hlt
    refine turn l[i] hm H4 x (s.trans (s2.trans (s3.trans s4))) hx _ _ (fun y H5 d od s5 hy => ?_) fun on H5 s5 => ?_
    · have ea5 := s5 _ _ (s4 _ _ ea)
      have ha5 := dps_same (s4.trans s5) _ _ ha
      have bu : But P H5 (upd H5 P (.lst (acc ++ [y]))) := but_upd (Same.refl _) ea5
      refine ⟨acc, ea5, ?_, Same.own (s3.trans (s4.trans s5)) hP, acc ++ [y], upd_same, ?_⟩
      · rw [dps_len ha]
        refine smallLt ?_
        have := List.length_filterMap_le o (l.take i)
        rw [List.length_take] at this
        omega
      · rw [tk, List.filterMap_append]
        have e1 : [l[i]].filterMap o = [d] := by simp [od]
        rw [e1]
        refine dps_app (dps_but bu _ _ (firms_all fun z hz => ?_) ha5) (dps_one (dp_but bu _ _ (hf _ hm d od) hy))
        obtain ⟨a, hma, e⟩ := List.mem_filterMap.mp hz
        exact hf a (List.mem_of_mem_take hma) z e
    · refine ⟨s3.trans (s4.trans s5), acc, s5 _ _ (s4 _ _ ea), ?_⟩
      rw [tk, List.filterMap_append]
      have e1 : [l[i]].filterMap o = [] := by simp [on]
      rw [e1, List.append_nil]
      exact dps_same (s4.trans s5) _ _ ha
  · obtain ⟨s3, acc, ea, ha⟩ := p
    rw [List.take_length] at ha
    exact q H3 P acc (s2.trans s3) (none_back s2 hP) ea ha
/-- .. each by a function -/
theorem yn_lcm {α : Type} {wi : TI} {g : TG} {te : TE} {vs : List Nat} (l : List α) (enc out : α → PyData) (hi : YI K wi σ H (l.map enc)) (hz : l.length ≤ 100000) (hf : ∀ a, firm (out a) = true)
    (turn : ∀ a ∈ l, ∀ H1 x, Same H H1 → Dp K H1 x (enc a) → ∀ Q : L2.St → Hp → Prop, (∀ σ2, wipe σ2 vs = wipe σ vs ∧ Yl K te σ2 H1 (out a) → Q σ2 H1) → g x (wipe σ vs) H1 Q) : YlN K (tLc wi g tYes te vs) σ H (l.map out) := by
  have h := yn_lc (K := K) (tt := tYes) (te := te) (g := g) (vs := vs) l enc (fun a => some (out a)) hi hz (fun a _ d e => by cases e; exact hf a) fun a ha H1 x s hx R1 R0 r1 r0 => turn a ha H1 x s hx _ fun σ2 h => ⟨h.1, h.2 H1 (Same.refl _) _ fun H2 v s2 hv => r1 v H2 _ rfl s2 hv⟩
  rw [List.filterMap_eq_map'] at h
  exact h
/-- .. those that pass a test, by a function -/
theorem yn_lcf {α : Type} {wi : TI} {g : TG} {tt : TT} {te : TE} {vs : List Nat} (l : List α) (enc out : α → PyData) (p : α → Bool) (hi : YI K wi σ H (l.map enc)) (hz : l.length ≤ 100000) (hf : ∀ a, firm (out a) = true)
    (turn : ∀ a ∈ l, ∀ H1 x, Same H H1 → Dp K H1 x (enc a) → ∀ Q : L2.St → Hp → Prop, (∀ σ2, wipe σ2 vs = wipe σ vs ∧ YT tt σ2 H1 (p a) ∧ (p a = true → Yl K te σ2 H1 (out a)) → Q σ2 H1) → g x (wipe σ vs) H1 Q) : YlN K (tLc wi g tt te vs) σ H ((l.filter p).map out) := by
  have h := yn_lc (K := K) (tt := tt) (te := te) (g := g) (vs := vs) l enc (fun a => if p a then some (out a) else none) hi hz (fun a _ d e => by
    by_cases q : p a = true
    · rw [if_pos q] at e; cases e; exact hf a
    · rw [if_neg q] at e; cases e) fun a ha H1 x s hx R1 R0 r1 r0 => turn a ha H1 x s hx _ fun σ2 h => ⟨h.1, h.2.1 H1 (Same.refl _) _ fun H2 s2 => by
      by_cases q : p a = true
      · rw [if_pos q]
        exact h.2.2 q H2 s2 _ fun H3 v s3 hv => r1 v H3 _ (by rw [if_pos q]) (s2.trans s3) hv
      · rw [if_neg q]
        exact r0 (by rw [if_neg q]) H2 s2⟩
  have e : ∀ l : List α, (l.filterMap fun a => if p a then some (out a) else none) = (l.filter p).map out := by
    intro l
    induction l with
    | nil => rfl
    | cons a l ih => by_cases q : p a = true <;> simp [List.filterMap_cons, List.filter_cons, q, ih]
  rw [e] at h
  exact h
end K31W
set_option Elab.async false
set_option linter.all false
set_option maxRecDepth 100000
set_option maxHeartbeats 4000000
/-! K31Ctx: the slots by their data; statements, loops, comprehensions, defs over it. -/
namespace K31W
open PySem PySem.Spec PyProof.Rows L2
/-- the slots hold the data cs (none: nothing is said) -/
structure Ctx (K : Fr) (σ : L2.St) (H : Hp) (cs : List (Option PyData)) : Prop where
  len : σ.length = cs.length
  at_ : ∀ (i : Nat) (d : PyData), cs[i]? = some (some d) → ∃ v, σ[i]? = some (some v) ∧ Dp K H v d
variable {K : Fr} {σ : L2.St} {H H' : Hp} {d e f : PyData} {ds es : List PyData} {t u : TE} {ta : TA} {b : Bool} {cs : List (Option PyData)} {D : Ends} {i : Nat}
theorem Ctx.same (c : Ctx K σ H cs) (s : Same H H') : Ctx K σ H' cs := ⟨c.len, fun i d h => by
  obtain ⟨v, e, hv⟩ := c.at_ i d h
  exact ⟨v, e, dp_same s d v hv⟩⟩
theorem Ctx.setO {o : Option V} {x : Option PyData} (c : Ctx K σ H cs) (h : ∀ d, x = some d → ∃ v, o = some v ∧ Dp K H v d) (i : Nat) : Ctx K (σ.set i o) H (cs.set i x) := ⟨by rw [List.length_set, List.length_set, c.len], fun j d e => by
  by_cases hj : i = j
  · subst hj
    by_cases hl : i < cs.length
    · rw [List.getElem?_set_self hl] at e
      have e := Option.some.inj e
      obtain ⟨v, rfl, hv⟩ := h d e
      exact ⟨v, by rw [List.getElem?_set_self (by rw [c.len]; exact hl)], hv⟩
    · rw [List.getElem?_eq_none (by rw [List.length_set]; omega)] at e
      cases e
  · rw [List.getElem?_set_ne hj] at e
    obtain ⟨v, e, hv⟩ := c.at_ j d e
    exact ⟨v, by rw [List.getElem?_set_ne hj]; exact e, hv⟩⟩
theorem Ctx.set {v : V} (c : Ctx K σ H cs) (h : Dp K H v d) (i : Nat) : Ctx K (σ.set i (some v)) H (cs.set i (some d)) := c.setO (fun d e => by cases e; exact ⟨v, rfl, h⟩) i
theorem Ctx.setN (c : Ctx K σ H cs) (i : Nat) : Ctx K (σ.set i none) H (cs.set i none) := c.setO (fun d e => by cases e) i
theorem Ctx.setU {v : V} (c : Ctx K σ H cs) (i : Nat) : Ctx K (σ.set i (some v)) H (cs.set i none) := c.setO (fun d e => by cases e) i
/-- less is said -/
theorem Ctx.less {cs' : List (Option PyData)} (c : Ctx K σ H cs) (hl : cs'.length = cs.length) (h : ∀ (i : Nat) (d : PyData), cs'[i]? = some (some d) → cs[i]? = some (some d)) : Ctx K σ H cs' := ⟨by rw [c.len, hl], fun i d e => c.at_ i d (h i d e)⟩
theorem ctx_start {vs : List V} {n : Nat} (h : DpAll K H vs ds) : Ctx K (vs.map some ++ List.replicate n none) H (ds.map some ++ List.replicate n none) := by
  have hl := dps_len h
  refine ⟨by simp [hl], fun i d e => ?_⟩
  by_cases hi : i < ds.length
  · rw [List.getElem?_append_left (by simpa using hi), List.getElem?_map] at e
    cases e' : ds[i]? with
    | none => rw [e'] at e; cases e
    | some z =>
      rw [e'] at e
      have e : z = d := Option.some.inj (Option.some.inj e)
      subst e
      obtain ⟨v, hv, hd⟩ := dps_get h e'
      exact ⟨v, by rw [List.getElem?_append_left (by rw [List.length_map, hl]; exact hi), List.getElem?_map, hv]; rfl, hd⟩
  · rw [List.getElem?_append_right (by rw [List.length_map]; omega), List.getElem?_replicate] at e
    split at e <;> cases e
theorem yl_v (c : Ctx K σ H cs) {i : Nat} (h : cs[i]? = some (some d)) : Yl K (tVar i) σ H d := fun H1 s Q q => by
  obtain ⟨v, e, hv⟩ := c.at_ i d h
  exact ⟨v, e, q H1 v (Same.refl _) (dp_same s d v hv)⟩
/-! statements -/
theorem sc_set (c : Ctx K σ H cs) (h : Yl K t σ H d) (q : ∀ σ2 H2, Same H H2 → Ctx K σ2 H2 (cs.set i (some d)) → D.nx σ2 H2) : tAsg t (gName i) D σ H := st_set h fun H2 x s hx => q _ _ s ((c.same s).set hx i)
theorem sc_if {tt : TT} {p q : TS} (c : Ctx K σ H cs) (h : YT tt σ H b) (hT : b = true → ∀ H2, Same H H2 → Ctx K σ H2 cs → p D σ H2) (hF : b = false → ∀ H2, Same H H2 → Ctx K σ H2 cs → q D σ H2) : tIfS tt p q D σ H :=
  st_if h (fun e H2 s => hT e H2 s (c.same s)) fun e H2 s => hF e H2 s (c.same s)
/-- a target of a for or a comprehension: names, or a pair or triple of names -/
def GT (g : TG) (K : Fr) (f : List (Option PyData) → PyData → List (Option PyData) → Prop) : Prop := ∀ (σ : L2.St) (H : Hp) (cs cs' : List (Option PyData)) (d : PyData) (x : V) (Q : L2.St → Hp → Prop), Ctx K σ H cs → Dp K H x d → f cs d cs' → (∀ σ2, Ctx K σ2 H cs' → Q σ2 H) → g x σ H Q
def fn1 (i : Nat) : List (Option PyData) → PyData → List (Option PyData) → Prop := fun cs d cs' => cs' = cs.set i (some d)
def fn2 (i j : Nat) : List (Option PyData) → PyData → List (Option PyData) → Prop := fun cs d cs' => ∃ d1 d2, d = .tuple [d1, d2] ∧ cs' = (cs.set i (some d1)).set j (some d2)
def fn3 (i j k : Nat) : List (Option PyData) → PyData → List (Option PyData) → Prop := fun cs d cs' => ∃ d1 d2 d3, d = .tuple [d1, d2, d3] ∧ cs' = ((cs.set i (some d1)).set j (some d2)).set k (some d3)
theorem gt1 {i : Nat} : GT (gName i) K (fn1 i) := fun σ H cs cs' d x Q c hx hf q => by
  cases hf
  exact q _ (c.set hx i)
theorem gt2 {i j : Nat} : GT (gTup K 2 (gCons (gName i) (gCons (gName j) gNil))) K (fn2 i j) := fun σ H cs cs' d x Q c hx hf q => by
  obtain ⟨d1, d2, rfl, rfl⟩ := hf
  exact gt_two hx fun y z hy hz => q _ ((c.set hy i).set hz j)
theorem gt3 {i j k : Nat} : GT (gTup K 3 (gCons (gName i) (gCons (gName j) (gCons (gName k) gNil)))) K (fn3 i j k) := fun σ H cs cs' d x Q c hx hf q => by
  obtain ⟨d1, d2, d3, rfl, rfl⟩ := hf
  exact gt_three hx fun y z w hy hz hw => q _ (((c.set hy i).set hz j).set hw k)
/-- a for over data: C i cs, what the slots hold at the turn -/
theorem sc_for {wi : TI} {g : TG} {tb : TS} {itms : List PyData} {fn : List (Option PyData) → PyData → List (Option PyData) → Prop} (c : Ctx K σ H cs) (hi : YI K wi σ H itms) (hg : GT g K fn) (C : Nat → List (Option PyData) → Prop) (c0 : C 0 cs)
    (turn : ∀ i d cs1, itms[i]? = some d → C i cs1 → ∃ cs2, fn cs1 d cs2 ∧ ∀ σ2 H2 (N : L2.St → Hp → Prop), Same H H2 → Ctx K σ2 H2 cs2 → (∀ σ3 H3 cs3, Same H2 H3 → Ctx K σ3 H3 cs3 → C (i + 1) cs3 → N σ3 H3) → tb { D with nx := N, ct := N, bk := D.nx } σ2 H2)
    (fin : ∀ σ2 H2 cs2, Same H H2 → Ctx K σ2 H2 cs2 → C itms.length cs2 → D.nx σ2 H2) : tFor wi g tb D σ H := by
  refine hi H (Same.refl _) _ fun J G H2 s2 g2 gs w => ?_
  have w2 : Walk J itms.length (fun H3 => Same H2 H3) (YD K itms) := w.mono (fun H3 s => gs _ _ g2 s) fun i H3 x H4 _ _ y => y
  refine for_it w2 (fun i σ1 H1 => Same H2 H1 ∧ ∃ cs1, Ctx K σ1 H1 cs1 ∧ C i cs1) ⟨Same.refl _, cs, c.same s2, c0⟩ (fun i σ1 H1 _ p => p.1) (fun i x σ1 H1 H3 hlt p y => ?_) fun σ1 H1 p => ?_
  · obtain ⟨s1, cs1, c1, hc⟩ := p
    obtain ⟨s3, d, ed, hx⟩ := y
    obtain ⟨cs2, hf, h⟩ := turn i d cs1 ed hc
    exact hg σ1 H3 cs1 cs2 d x _ (c1.same s3) hx hf fun σ2 c2 => h σ2 H3 _ (s2.trans (s1.trans s3)) c2 fun σ3 H4 cs3 s4 c3 hc3 => ⟨s1.trans (s3.trans s4), cs3, c3, hc3⟩
  · obtain ⟨s1, cs1, c1, hc⟩ := p
    exact fin σ1 H1 cs1 (s2.trans s1) c1 hc
/-! comprehensions -/
theorem set_back {α : Type} (l : List α) (i : Nat) (a b : α) : (l.set i a).set i b = l.set i b := List.set_set ..
/-- a comprehension's target: its own slots, wiped before -/
def GW (g : TG) (K : Fr) (vs : List Nat) (f : List (Option PyData) → PyData → List (Option PyData) → Prop) : Prop := ∀ (σ : L2.St) (H : Hp) (cs cs' : List (Option PyData)) (d : PyData) (x : V) (Q : L2.St → Hp → Prop), Ctx K σ H cs → Dp K H x d → f cs d cs' →
  (∀ σ2, wipe σ2 vs = wipe σ vs → Ctx K σ2 H cs' → Q σ2 H) → g x (wipe σ vs) H Q
def fw2 (i j : Nat) : List (Option PyData) → PyData → List (Option PyData) → Prop := fun cs d cs' => ∃ d1 d2, d = .tuple [d1, d2] ∧ cs' = (((cs.set j none).set i none).set i (some d1)).set j (some d2)
def fw3 (i j k : Nat) : List (Option PyData) → PyData → List (Option PyData) → Prop := fun cs d cs' => ∃ d1 d2 d3, d = .tuple [d1, d2, d3] ∧ cs' = (((((cs.set k none).set j none).set i none).set i (some d1)).set j (some d2)).set k (some d3)
theorem gw1 {i : Nat} : GW (gName i) K [i] (fn1 i) := fun σ H cs cs' d x Q c hx hf q => by
  cases hf
  show Q ((σ.set i none).set i (some x)) H
  rw [set_back]
  refine q _ ?_ (c.set hx i)
  show (σ.set i (some x)).set i none = σ.set i none
  rw [set_back]
theorem gw2 {i j : Nat} (hij : i ≠ j) : GW (gTup K 2 (gCons (gName i) (gCons (gName j) gNil))) K [i, j] (fw2 i j) := fun σ H cs cs' d x Q c hx hf q => by
  obtain ⟨d1, d2, rfl, rfl⟩ := hf
  refine gt_two hx fun y z hy hz => q _ ?_ ((((c.setN j).setN i).set hy i).set hz j)
  show (((((σ.set j none).set i none).set i (some y)).set j (some z)).set j none).set i none = (σ.set j none).set i none
  rw [set_back, set_back, List.set_comm _ _ hij, set_back, set_back]
theorem gw3 {i j k : Nat} (hij : i ≠ j) (hik : i ≠ k) (hjk : j ≠ k) : GW (gTup K 3 (gCons (gName i) (gCons (gName j) (gCons (gName k) gNil)))) K [i, j, k] (fw3 i j k) := fun σ H cs cs' d x Q c hx hf q => by
  obtain ⟨d1, d2, d3, rfl, rfl⟩ := hf
  refine gt_three hx fun y z w hy hz hw => q _ ?_ ((((((c.setN k).setN j).setN i).set hy i).set hz j).set hw k)
  show ((((((((σ.set k none).set j none).set i none).set i (some y)).set j (some z)).set k (some w)).set k none).set j none).set i none = ((σ.set k none).set j none).set i none
  rw [set_back, set_back, List.set_comm _ _ hjk, set_back, List.set_comm _ _ hik, List.set_comm _ _ hij, set_back, List.set_comm _ _ hjk, set_back, set_back]
variable {g : TG} {tt : TT} {te : TE} {vs : List Nat} {wi : TI} {fn : List (Option PyData) → PyData → List (Option PyData) → Prop} {α : Type}
/-- each by a function -/
theorem yc_map (c : Ctx K σ H cs) (l : List α) (enc out : α → PyData) (hi : YI K wi σ H (l.map enc)) (hz : l.length ≤ 100000) (hg : GW g K vs fn) (hf : ∀ a, firm (out a) = true)
    (turn : ∀ a ∈ l, ∃ cs2, fn cs (enc a) cs2 ∧ ∀ σ2 H1, Same H H1 → Ctx K σ2 H1 cs2 → Yl K te σ2 H1 (out a)) : YlN K (tLc wi g tYes te vs) σ H (l.map out) :=
  yn_lcm l enc out hi hz hf fun a ha H1 x s hx Q q => by
    obtain ⟨cs2, h1, h2⟩ := turn a ha
    exact hg σ H1 cs cs2 _ x Q (c.same s) hx h1 fun σ2 hw c2 => q σ2 ⟨hw, h2 σ2 H1 s c2⟩
/-- those that pass, each by a function -/
theorem yc_flt (c : Ctx K σ H cs) (l : List α) (enc out : α → PyData) (p : α → Bool) (hi : YI K wi σ H (l.map enc)) (hz : l.length ≤ 100000) (hg : GW g K vs fn) (hf : ∀ a, firm (out a) = true)
    (turn : ∀ a ∈ l, ∃ cs2, fn cs (enc a) cs2 ∧ ∀ σ2 H1, Same H H1 → Ctx K σ2 H1 cs2 → YT tt σ2 H1 (p a) ∧ (p a = true → Yl K te σ2 H1 (out a))) : YlN K (tLc wi g tt te vs) σ H ((l.filter p).map out) :=
  yn_lcf l enc out p hi hz hf fun a ha H1 x s hx Q q => by
    obtain ⟨cs2, h1, h2⟩ := turn a ha
    exact hg σ H1 cs cs2 _ x Q (c.same s) hx h1 fun σ2 hw c2 => q σ2 ⟨hw, h2 σ2 H1 s c2⟩
/-! a def's result: the function's own end -/
def Ret (K : Fr) (H : Hp) (d : PyData) (rt : VK) : Prop := ∀ H2 v, Same H H2 → Dp K H2 v d → rt v H2
theorem sc_ret (h : Yl K t σ H d) {H0 : Hp} (r : Ret K H0 d D.rt) (s : Same H0 H) : tRet t D σ H := st_ret h fun H2 x s2 hx => r H2 x (s.trans s2) hx

/-! the defs of the text -/
structure Ok (P : Program) (w : World) (K : Fr) (mg : Str → Option Value) (base : Heap) (k : Nat) (x : Str) (ps : List Str) (sp : Sp) : Prop where
  ex : ∃ fa fd, FnOk P w K mg base CX0 k fa fd ps sp ∧ mg x = some (.ref fa) ∧ PySem.W.keepIn K (.ref fa) = true ∧ Binds K fd ps [] ∧ ∃ oc od osl, K.lookup fa = some ⟨oc, od, .func fd, osl⟩
/-- where a def stands -/
structure FAt (K : Fr) (mg : Str → Option Value) (x : Str) (st : Stmt) (ps : List Str) : Prop where
  ex : ∃ fa fd, Fun K x x st fa fd ∧ mg x = some (.ref fa) ∧ Binds K fd ps []
section
variable {P : Program} {w : World} {mg : Str → Option Value} {base : Heap} {k : Nat} {x : Str} {ps N : List Str} {st : Stmt} {sp : Sp}
theorem Ok.mk' (A : FAt K mg x st ps) (S : FnScope N ps (defScope st)) (len : ∀ vs H Q E, sp vs H Q E → vs.length = ps.length)
    (body : ∀ (f : Addr) (cdv : Value) (A : Around) (outer : List Env) (s : Shared) (H : Hp) (vs : List V) (Q : VK) (E : XK), Room k (A.deeper (envOfC x (defScope st) s.heap.objs.size f cdv)) → sp vs H Q E →
      ∃ t, PSs (cxOf CX0 P w K mg base N x (defScope st) f cdv A outer s H E).nox (defBody st) t ∧ t { nx := fun _ H' => Q .non H', rt := Q } (start N vs) H) : Ok P w K mg base (k + 1) x ps sp := by
  obtain ⟨fa, fd, F, hm, hb⟩ := A.ex
  obtain ⟨oc, od, _, _, _, _, _, _, osl, _, lk, _⟩ := F.ex
  exact ⟨fa, fd, F.ok S len fun cdv A outer s H vs Q E hr h => body fa cdv A outer s H vs Q E hr h, hm, F.kp, hb, oc, od, osl, lk⟩
/-- a def that only makes -/
theorem Ok.mkD {In : List PyData → PyData → Prop} (A : FAt K mg x st ps) (S : FnScope N ps (defScope st)) (len : ∀ ds d, In ds d → ds.length = ps.length)
    (body : ∀ (f : Addr) (cdv : Value) (A : Around) (outer : List Env) (s : Shared) (H0 : Hp) (E : XK), Room k (A.deeper (envOfC x (defScope st) s.heap.objs.size f cdv)) →
      ∃ t, PSs (cxOf CX0 P w K mg base N x (defScope st) f cdv A outer s H0 E).nox (defBody st) t ∧
        ∀ (ds : List PyData) (d : PyData) (σ : L2.St) (Q : VK), In ds d → Ctx K σ H0 (ds.map some ++ List.replicate (N.length - ps.length) none) → Ret K H0 d Q → t { nx := fun _ H' => Q .non H', rt := Q } σ H0) : Ok P w K mg base (k + 1) x ps (spD K In) := by
  refine Ok.mk' A S (fun vs H Q E h => ?_) fun f cdv A outer s H vs Q E hr h => ?_
  · obtain ⟨ds, d, hi, hd, _⟩ := h
    rw [dps_len hd]
    exact len ds d hi
  · obtain ⟨ds, d, hi, hd, q⟩ := h
    obtain ⟨t, h1, h2⟩ := body f cdv A outer s H E hr
    refine ⟨t, h1, h2 ds d _ Q hi ?_ fun H2 v s hv => q H2 v s hv⟩
    have e : vs.length = ps.length := by rw [dps_len hd]; exact len ds d hi
    unfold L2.start
    rw [e]
    exact ctx_start hd
end
section
variable {X : Cx} {k : Nat} {x : Str} {ps : List Str} {sp : Sp} {p pos : Pos} {e : Expr} {es : List Expr} {t : TA}
theorem pe_ok (F : Ok X.prog X.w X.K X.mg X.base k x ps sp) (hr : Room k X.A) (hg : Gl X x) (ha : PA X (e :: es) t) (hdb : (x == ("__debug__" : Str)) = false := by decide)
    (he : starEach (e :: es) X.env = (false, eval e X.env) :: starEach es X.env := by rfl) (hpl : (backTo pos (starEach es X.env)).any (·.1) = false := by rfl) : PE X (.Call (.Name x p) (e :: es) [] pos) (tCall sp [] L2.E0 t) := by
  obtain ⟨fa, fd, F, hm, hk, hb, _⟩ := F.ex
  exact pe_call F hr hg hm hk hb .nil pass0 ha hdb he hpl
theorem pe_gI {i : Int} (hg : Gl X x) (h : ∃ t, X.mg x = some (.int i t)) (hdb : (x == ("__debug__" : Str)) = false := by decide) : PE X (.Name x pos) (tC (.int i)) := by
  obtain ⟨t, h⟩ := h
  exact pe_glob hg h ⟨t, rfl⟩ hdb
theorem hu65 {A : Around} {k : Nat} (hr : Room k A) : A.units + 65 < cLine := by have := hr.un; omega
theorem hu64 {A : Around} {k : Nat} (hr : Room k A) : A.units + 64 < cLine := by have := hr.un; omega
theorem hu2 {A : Around} {k : Nat} (hr : Room k A) : A.units + 2 < cLine := by have := hr.un; omega
end
end K31W
set_option Elab.async false
set_option linter.all false
set_option maxRecDepth 100000
set_option maxHeartbeats 4000000
/-! K31Plain: a tuple of which it is known that it has no dict of its own (t.index asks that). -/
namespace K31W
open PySem PySem.Spec PyProof.Rows L2
def PlainT (H : Hp) (p : Addr) : Prop := ∃ o xs, H p = some (.frz o (.tup xs)) ∧ o.dict = none
theorem PlainT.same {H H' : Hp} {p : Addr} (h : PlainT H p) (s : Same H H') : PlainT H' p := by
  obtain ⟨o, xs, e, d⟩ := h
  exact ⟨o, xs, s _ _ e, d⟩
def tBMP (r : V → List V → Hp → VK → Prop) (to : TE) (t : TA) : TE := fun σ H Q => to σ H fun x H1 => (∃ p, x = .ref p ∧ PlainT H1 p) ∧ t σ H1 fun xs H2 => r x xs H2 Q
section
variable {X : Cx} {o e : Expr} {es : List Expr} {to : TE} {t : TA} {name : Str} {apos cpos : Pos} {id : String} {r : V → List V → Hp → VK → Prop}
theorem plain_is {pins : List (Addr × Obj)} {σ : L2.St} {H : Hp} {s : Shared} {p : Addr} {v : Value} (I : Inv X pins σ H s) (rv : RelV (.ref p) v) (h : PlainT H p) : s.TypeIs v "tuple" ∧ ∀ a, v = .ref a → ∃ ob, s.heap.get? a = some ob ∧ ob.dict = none := by
  obtain ⟨ob, xs, e, hd⟩ := h
  cases rv
  obtain ⟨e1, _, us, _, o2, e2, hc, _⟩ := (show ObjOk X.prog X.w H s.heap p (.frz ob (.tup xs)) from I.hok p _ e)
  exact ⟨⟨o2, e2, hc⟩, fun a q => by cases q; exact ⟨ob, e1, hd⟩⟩
theorem pe_bmT (pa : PlainAttrs "tuple") (slot : Slot "tuple" name id) (hty : typeOf (.builtin id) = pure (.type "method_descriptor")) (hm : MtR X id r) (ho : PE X o to) (ha : PA X (e :: es) t)
    (hbase : attributeBase o name X.env (eval o X.env) = eval o X.env := by rfl)
    (hfew : ((backTo cpos (starEach (e :: es) X.env)).all (fun x => !x.1) && (backToKw cpos (keywordEach [] X.env)).all (fun x => x.1.isSome)
      && decide ((e :: es).length + ([] : List Keyword).length + (if ([] : List Keyword).isEmpty then 0 else 1) < 30)) = true := by rfl)
    (hline : (apos.endLine == cpos.line) = true := by rfl) (hs : starEach (e :: es) X.env = (false, eval e X.env) :: starEach es X.env := by rfl) (hplain : (backTo cpos (starEach es X.env)).any (·.1) = false := by rfl) :
    PE X (.Call (.Attribute o name apos) (e :: es) [] cpos) (tBMP r to t) := by
  refine ⟨fun pins s σ H Q I h => ?_⟩
  refine wpAny_Call_method_late hbase hfew hline rfl (thn (ho.run pins s σ H _ I h) fun v s1 ⟨x, H1, I1, r1, ty, q1⟩ => ?_)
  obtain ⟨p, rfl, hp⟩ := ty
  obtain ⟨h1, h2⟩ := plain_is I1 r1 hp
  refine ⟨"tuple", id, pa, slot, hty, h1, h2, ?_⟩
  have hA := ha.run cpos pins s1 σ H1 _ I1 q1
  rw [hs] at hA ⊢
  refine Calls.callWith_builtin (by show (false || (backTo cpos (starEach es X.env)).any (·.1)) = false; rw [hplain] <;> rfl) (Calls.evalArgs_plain ?_)
  exact thn hA fun us s2 ⟨vs, H2, I2, r2, q2⟩ => hm pins s2 σ H2 _ vs v us Q I2 r1 r2 q2
/-- tuple(list), the new tuple known as it lies -/
def rTupF (K : Fr) : List V → Hp → VK → Prop := fun xs H Q => ∃ p ys, xs = [.ref p] ∧ SqL K H p ys ∧ ∀ l o, H l = none → o.dict = none → Q (.ref l) (upd H l (.frz o (.tup ys)))
theorem call_tupF : CallR X (.type "tuple") (rTupF X.K) := by
  intro pins s σ H xs us Q I r h
  obtain ⟨p, ys, rfl, hq, q⟩ := h
  obtain ⟨u, rfl, rx⟩ := vals1 r
  cases rx
  obtain ⟨its, r', pl, hz⟩ := I.list hq
  have hlen := r'.length
  refine call_tuple_list pl.isList (fun h' kp => ?_) (by simp only [List.size_toArray] <;> omega)
  have I1 : Inv X pins σ H { s with heap := h' } := I.kept (t' := s.toks) kp
  have I2 : Inv X pins σ (upd H h'.objs.size (.frz { cls := .type "tuple", data := .seq its.toArray } (.tup ys))) { s with heap := h'.push { cls := .type "tuple", data := .seq its.toArray } } :=
    I1.laid (t' := s.toks) (fun b o e => Heap.get?_push_of_some _ e) (Nat.le_refl _) (show ObjOk X.prog X.w _ _ _ (.frz _ (.tup ys)) from ⟨Heap.get?_push_size h' rfl, hz, its, r', IsTup.new _ _⟩)
  exact ⟨.ref h'.objs.size, _, I2, rfl, q _ _ (I1.hok.fresh (Nat.le_refl _)) rfl⟩
end
variable {K : Fr} {σ : L2.St} {H : Hp} {d : PyData} {cs : List (Option PyData)} {D : Ends}
/-- the promise of a def whose first argument is such a tuple -/
def spP (K : Fr) (In : List PyData → PyData → Prop) : Sp := fun vs H Q E => (∃ p r, vs = .ref p :: r ∧ PlainT H p) ∧ spD K In vs H Q E
theorem yl_callP {In : List PyData → PyData → Prop} {E : XK} {i : Nat} {p : Addr} {d0 : PyData} (c : Ctx K σ H cs) (e : cs[i]? = some (some d0)) (hσ : σ[i]? = some (some (.ref p))) (pl : PlainT H p) (hi : In [d0] d) : Yl K (tCall (spP K In) [] E (tCons (tVar i) tNil)) σ H d := fun H1 s Q q => by
  obtain ⟨v, e1, hv⟩ := c.at_ i d0 e
  rw [hσ] at e1
  cases e1
  exact ⟨_, hσ, ⟨p, [], rfl, pl.same s⟩, [d0], d, hi, .cons (dp_same s _ _ hv) .nil, fun H3 v s3 hv => q H3 v s3 hv⟩
theorem Ok.mkP {P : Program} {w : World} {mg : Str → Option Value} {base : Heap} {k : Nat} {x : Str} {ps N : List Str} {st : Stmt} {In : List PyData → PyData → Prop} (A : FAt K mg x st ps) (S : FnScope N ps (defScope st)) (len : ∀ ds d, In ds d → ds.length = ps.length)
    (body : ∀ (f : Addr) (cdv : Value) (A : Around) (outer : List Env) (s : Shared) (H0 : Hp) (E : XK), Room k (A.deeper (envOfC x (defScope st) s.heap.objs.size f cdv)) →
      ∃ t, PSs (cxOf CX0 P w K mg base N x (defScope st) f cdv A outer s H0 E).nox (defBody st) t ∧
        ∀ (ds : List PyData) (d : PyData) (σ : L2.St) (Q : VK) (p : Addr), In ds d → Ctx K σ H0 (ds.map some ++ List.replicate (N.length - ps.length) none) → σ[0]? = some (some (.ref p)) → PlainT H0 p → Ret K H0 d Q → t { nx := fun _ H' => Q .non H', rt := Q } σ H0) : Ok P w K mg base (k + 1) x ps (spP K In) := by
  refine Ok.mk' A S (fun vs H Q E h => ?_) fun f cdv A outer s H vs Q E hr h => ?_
  · obtain ⟨_, ds, d, hi, hd, _⟩ := h
    rw [dps_len hd]
    exact len ds d hi
  · obtain ⟨⟨p, r, rfl, pl⟩, ds, d, hi, hd, q⟩ := h
    obtain ⟨t, h1, h2⟩ := body f cdv A outer s H E hr
    refine ⟨t, h1, h2 ds d _ Q p hi ?_ rfl pl fun H2 v s hv => q H2 v s hv⟩
    have e : (V.ref p :: r).length = ps.length := by rw [dps_len hd]; exact len ds d hi
    unfold L2.start
    rw [e]
    exact ctx_start hd
/-- a target that leaves the first slot -/
def G0 (g : TG) (K : Fr) (f : List (Option PyData) → PyData → List (Option PyData) → Prop) : Prop := ∀ (σ : L2.St) (H : Hp) (cs cs' : List (Option PyData)) (d : PyData) (x : V) (Q : L2.St → Hp → Prop), Ctx K σ H cs → Dp K H x d → f cs d cs' → (∀ σ2, σ2[0]? = σ[0]? → Ctx K σ2 H cs' → Q σ2 H) → g x σ H Q
theorem g02 {i j : Nat} (h1 : i ≠ 0) (h2 : j ≠ 0) : G0 (gTup K 2 (gCons (gName i) (gCons (gName j) gNil))) K (fn2 i j) := fun σ H cs cs' d x Q c hx hf q => by
  obtain ⟨d1, d2, rfl, rfl⟩ := hf
  exact gt_two hx fun y z hy hz => q _ (by rw [List.getElem?_set_ne h2, List.getElem?_set_ne h1]) ((c.set hy i).set hz j)
theorem sc_for0P {wi : TI} {g : TG} {tb : TS} {itms : List PyData} {fn : List (Option PyData) → PyData → List (Option PyData) → Prop} (c : Ctx K σ H cs) (hi : YI K wi σ H itms) (hg : G0 g K fn) (C : Nat → List (Option PyData) → Prop) (c0 : C 0 cs)
    (turn : ∀ i d cs1, itms[i]? = some d → C i cs1 → ∃ cs2, fn cs1 d cs2 ∧ ∀ σ2 H2 (N : L2.St → Hp → Prop), Same H H2 → σ2[0]? = σ[0]? → Ctx K σ2 H2 cs2 → (∀ H3 cs3, Same H2 H3 → Ctx K σ2 H3 cs3 → C (i + 1) cs3 → N σ2 H3) → tb { D with nx := N, ct := N, bk := D.nx } σ2 H2)
    (fin : ∀ σ2 H2 cs2, Same H H2 → Ctx K σ2 H2 cs2 → C itms.length cs2 → D.nx σ2 H2) : tFor wi g tb D σ H := by
  refine hi H (Same.refl _) _ fun J G H2 s2 g2 gs w => ?_
  have w2 : Walk J itms.length (fun H3 => Same H2 H3) (YD K itms) := w.mono (fun H3 s => gs _ _ g2 s) fun i H3 x H4 _ _ y => y
  refine for_it w2 (fun i σ1 H1 => Same H2 H1 ∧ σ1[0]? = σ[0]? ∧ ∃ cs1, Ctx K σ1 H1 cs1 ∧ C i cs1) ⟨Same.refl _, rfl, cs, c.same s2, c0⟩ (fun i σ1 H1 _ p => p.1) (fun i x σ1 H1 H3 hlt p y => ?_) fun σ1 H1 p => ?_
  · obtain ⟨s1, z1, cs1, c1, hc⟩ := p
    obtain ⟨s3, d, ed, hx⟩ := y
    obtain ⟨cs2, hf, h⟩ := turn i d cs1 ed hc
    exact hg σ1 H3 cs1 cs2 d x _ (c1.same s3) hx hf fun σ2 z2 c2 => h σ2 H3 _ (s2.trans (s1.trans s3)) (z2.trans z1) c2 fun H4 cs3 s4 c3 hc3 => ⟨s1.trans (s3.trans s4), z2.trans z1, cs3, c3, hc3⟩
  · obtain ⟨s1, _, cs1, c1, hc⟩ := p
    exact fin σ1 H1 cs1 (s2.trans s1) c1 hc
end K31W
set_option Elab.async false
set_option linter.all false
set_option maxRecDepth 100000
set_option maxHeartbeats 4000000
/-! K31In: the promises of the defs that only make: data in, data out. -/
namespace K31W
open PySem PySem.Spec PyProof.Rows L2 K31
def bD (b : Bool) : PyData := .bool b
/-- a plan: one to 64 runs of one to six factors -/
structure Plan (n : Nat) (R : List (List Int)) : Prop where
  h1 : 1 ≤ n
  h6 : n ≤ 6
  hR : ∀ r ∈ R, IsRun n r
  hne : R ≠ []
  hl : R.length ≤ 64
/-- words by effects (of any length) -/
structure Wrds (n : Nat) (W : List (List Int × Int)) : Prop where
  h1 : 1 ≤ n
  h6 : n ≤ 6
  hl : W.length ≤ 1000
  ok : ∀ w ∈ W, IsEff n w.1
def optW : Option (List (List Int × Int)) → PyData
  | some W => tWs W
  | none => .none
def optP : Option (List Int) → PyData
  | some p => tI p
  | none => .none
abbrev InP := List PyData → PyData → Prop
def In_is_whole : InP := fun ds d => ∃ i : Int, ds = [.int i] ∧ d = .bool true
def In_is_between : InP := fun ds d => ∃ i lo hi : Int, ds = [.int i, .int lo, .int hi] ∧ d = .bool (decide (lo ≤ i) && decide (i ≤ hi))
def In_is_tuple_of : InP := fun ds d => ∃ (xs : List PyData) (m : Int), ds = [.tuple xs, .int m] ∧ d = .bool (decide ((xs.length : Int) = m))
def In_check_many : InP := fun ds d => ∃ i lo hi : Int, lo ≤ i ∧ i ≤ hi ∧ ds = [.int i, .int lo, .int hi] ∧ d = .none
def In_is_sign : InP := fun ds d => ∃ i : Int, (i = 1 ∨ i = -1) ∧ ds = [.int i] ∧ d = .bool true
def In_is_run_by : InP := fun ds d => ∃ n r, 1 ≤ n ∧ n ≤ 6 ∧ IsRun n r ∧ ds = [tI r] ∧ d = .bool true
def In_wrong_in_effect : InP := fun ds d => ∃ (n : Nat) (e : List Int), n ≤ 64 ∧ IsEff n e ∧ ds = [.int n, tI e] ∧ d = .list []
def In_is_effect_by : InP := fun ds d => ∃ (n : Nat) (e : List Int), n ≤ 64 ∧ IsEff n e ∧ ds = [.int n, tI e] ∧ d = .bool true
def IsWord (n : Nat) (w : List Int × Int) : Prop := IsEff n w.1 ∧ w.1 ≠ [] ∧ (w.2 = 1 ∨ w.2 = -1)
def In_is_word_by : InP := fun ds d => ∃ (n : Nat) (w : List Int × Int), n ≤ 6 ∧ IsWord n w ∧ ds = [.int n, tW w] ∧ d = .bool true
def In_wrong_in_words : InP := fun ds d => ∃ (n : Nat) (W : List (List Int × Int)), n ≤ 6 ∧ WordsOk n W ∧ ds = [.int n, tWs W] ∧ d = .list []
def In_sign_in : InP := fun ds d => ∃ n r e, n ≤ 6 ∧ IsRun n r ∧ IsEff n e ∧ ds = [tI r, tI e] ∧ d = .int (sgn r e)
def In_odd_by : InP := fun ds d => ∃ n e f, n ≤ 6 ∧ IsEff n e ∧ IsEff n f ∧ ds = [tI e, tI f] ∧ d = tI (odd e f)
def In_choices_of : InP := fun ds d => ∃ n : Nat, n ≤ 6 ∧ ds = [.int n] ∧ d = .list (tR (choices n))
def In_all_runs : InP := fun ds d => ∃ n : Nat, n ≤ 6 ∧ ds = [.int n] ∧ d = .list (tR (allRuns n))
def In_does_agree : InP := fun ds d => ∃ n r W, Wrds n W ∧ IsRun n r ∧ ds = [tI r, tWs W] ∧ d = .bool (agree r W)
def In_piece_by : InP := fun ds d => ∃ (n : Nat) (W : List (List Int × Int)), Wrds n W ∧ ds = [.int n, tWs W] ∧ d = .tuple (tR (K31.piece n W))
def In_all_effects : InP := fun ds d => ∃ n : Nat, n ≤ 6 ∧ ds = [.int n] ∧ d = .list (tR (allEff n))
def In_check_words : InP := fun ds d => ∃ (n : Nat) (W : List (List Int × Int)), 1 ≤ n ∧ n ≤ 6 ∧ WordsOk n W ∧ ds = [.int n, tWs W] ∧ d = .none
def In_piece : InP := fun ds d => ∃ (n : Nat) (W : List (List Int × Int)), 1 ≤ n ∧ n ≤ 6 ∧ WordsOk n W ∧ ds = [.int n, tWs W] ∧ d = .tuple (tR (K31.piece n W))
def In_wrong_in_runs : InP := fun ds d => ∃ n R, Plan n R ∧ ds = [.tuple (tR R)] ∧ d = .list []
def In_effect_sum : InP := fun ds d => ∃ n R e, Plan n R ∧ IsEff n e ∧ ds = [.tuple (tR R), tI e] ∧ d = .int (eSum R e)
def In_product_run : InP := fun ds d => ∃ n a b c, n ≤ 6 ∧ IsRun n a ∧ IsRun n b ∧ IsRun n c ∧ ds = [tI a, tI b, tI c] ∧ d = tI (prod3 a b c)
def lst1 : Option PyData → List PyData
  | some d => [d]
  | none => []
def In_like_runs : InP := fun ds d => ∃ n R, Plan n R ∧ ds = [.tuple (tR R)] ∧ d = .list (lst1 ((likeRuns R).map tI))
def In_missing_by : InP := fun ds d => ∃ n R, Plan n R ∧ ds = [.tuple (tR R)] ∧ d = .list (lst1 ((K31.missing R).map tI))
def In_fixed_words : InP := fun ds d => ∃ n R, Plan n R ∧ ds = [.tuple (tR R)] ∧ d = tWs (fixedW n R)
def In_is_piece_of : InP := fun ds d => ∃ n R W, Plan n R ∧ Wrds n W ∧ ds = [.tuple (tR R), tWs W] ∧ d = .bool (decide (isort K31.lexLt R = K31.piece n W))
def In_words_by : InP := fun ds d => ∃ n R, Plan n R ∧ ds = [.tuple (tR R)] ∧ d = .list (lst1 ((wordsOf n R).map tWs))
def In_check_runs : InP := fun ds d => ∃ n R, Plan n R ∧ ds = [.tuple (tR R)] ∧ d = .none
def In_words_of : InP := fun ds d => ∃ n R, Plan n R ∧ ds = [.tuple (tR R)] ∧ d = optW (wordsOf n R)
def In_missing : InP := fun ds d => ∃ n R, Plan n R ∧ ds = [.tuple (tR R)] ∧ d = optP (K31.missing R)
/-! the law's own -/
def In__law_is_whole : InP := In_is_whole
def In__law_is_within : InP := In_is_between
def In__law_is_tuple : InP := In_is_tuple_of
def In__law_effects : InP := fun ds d => ∃ n : Nat, n ≤ 6 ∧ ds = [.int n] ∧ d = .list (tR (lEffs n))
def In__law_runs : InP := fun ds d => ∃ n : Nat, 1 ≤ n ∧ n ≤ 6 ∧ ds = [.int n] ∧ d = .list (tR (lRuns n))
def In__law_sign : InP := In_sign_in
def lParted (e f : List Int) : List Int := (rng 6).filter fun a => decide (a ∈ e) != decide (a ∈ f)
def In__law_parted : InP := fun ds d => ∃ e f, ds = [tI e, tI f] ∧ d = tI (lParted e f)
def In__law_fitting : InP := fun ds d => ∃ (n : Nat) (W : List (List Int × Int)), Wrds n W ∧ ds = [.int n, tWs W] ∧ d = .tuple (tR (fitL n W))
def In__law_total : InP := In_effect_sum
def In__law_is_closed : InP := fun ds d => ∃ n R, Plan n R ∧ ds = [.tuple (tR R)] ∧ d = .bool (isClosed n R)
def In__law_effect_fault : InP := fun ds d => ∃ (n : Nat) (e : List Int), n ≤ 64 ∧ IsEff n e ∧ ds = [tI e, .int n] ∧ d = .list []
def In__law_is_word : InP := fun ds d => ∃ (n : Nat) (w : List Int × Int), n ≤ 6 ∧ IsWord n w ∧ ds = [tW w, .int n] ∧ d = .bool true
def In__law_words_fault : InP := fun ds d => ∃ (n : Nat) (W : List (List Int × Int)), n ≤ 6 ∧ WordsOk n W ∧ ds = [tWs W, .int n] ∧ d = .list []
def In__law_is_lot : InP := fun ds d => ∃ (n : Nat) (e : List Int), n ≤ 64 ∧ IsEff n e ∧ ds = [tI e, .int n] ∧ d = .bool true
def In__law_is_missing : InP := fun ds d => ∃ n R p, Plan n R ∧ PaperOk R p ∧ ds = [.tuple (tR R), tI p] ∧ d = .bool true
end K31W
set_option Elab.async false
set_option linter.all false
set_option maxRecDepth 100000
set_option maxHeartbeats 4000000
/-! printed by wip/gen.py: the walk of each def, as a term of rules with its reading. -/
namespace K31W
open PySem PySem.Spec PyProof.Rows L2
def topS (i : Nat) : Stmt := PySem.Challenge.pw_trialground_k31_whole_pieces_told_from_o.main.body.getD i (.Pass ⟨0, 0, 0, 0⟩)
abbrev s_is_whole : Stmt := topS 6
abbrev N_is_whole : List Str := ["value"]
abbrev p_is_whole : List Str := ["value"]
theorem sc_is_whole : FnScope N_is_whole p_is_whole (defScope s_is_whole) := ⟨rfl, rfl, rfl, by decide +kernel, rfl, by decide +kernel, by decide +kernel⟩
abbrev s_is_between : Stmt := topS 7
abbrev N_is_between : List Str := ["value", "low", "high"]
abbrev p_is_between : List Str := ["value", "low", "high"]
theorem sc_is_between : FnScope N_is_between p_is_between (defScope s_is_between) := ⟨rfl, rfl, rfl, by decide +kernel, rfl, by decide +kernel, by decide +kernel⟩
abbrev s_is_tuple_of : Stmt := topS 8
abbrev N_is_tuple_of : List Str := ["value", "many"]
abbrev p_is_tuple_of : List Str := ["value", "many"]
theorem sc_is_tuple_of : FnScope N_is_tuple_of p_is_tuple_of (defScope s_is_tuple_of) := ⟨rfl, rfl, rfl, by decide +kernel, rfl, by decide +kernel, by decide +kernel⟩
abbrev s_check_many : Stmt := topS 10
abbrev N_check_many : List Str := ["value", "low", "high"]
abbrev p_check_many : List Str := ["value", "low", "high"]
theorem sc_check_many : FnScope N_check_many p_check_many (defScope s_check_many) := ⟨rfl, rfl, rfl, by decide +kernel, rfl, by decide +kernel, by decide +kernel⟩
abbrev s_is_sign : Stmt := topS 15
abbrev N_is_sign : List Str := ["value"]
abbrev p_is_sign : List Str := ["value"]
theorem sc_is_sign : FnScope N_is_sign p_is_sign (defScope s_is_sign) := ⟨rfl, rfl, rfl, by decide +kernel, rfl, by decide +kernel, by decide +kernel⟩
abbrev s_is_run_by : Stmt := topS 16
abbrev N_is_run_by : List Str := ["value", "each"]
abbrev p_is_run_by : List Str := ["value"]
theorem sc_is_run_by : FnScope N_is_run_by p_is_run_by (defScope s_is_run_by) := ⟨rfl, rfl, rfl, by decide +kernel, rfl, by decide +kernel, by decide +kernel⟩
abbrev s_wrong_in_effect : Stmt := topS 17
abbrev N_wrong_in_effect : List Str := ["factors", "value", "index", "each"]
abbrev p_wrong_in_effect : List Str := ["factors", "value"]
theorem sc_wrong_in_effect : FnScope N_wrong_in_effect p_wrong_in_effect (defScope s_wrong_in_effect) := ⟨rfl, rfl, rfl, by decide +kernel, rfl, by decide +kernel, by decide +kernel⟩
abbrev s_is_effect_by : Stmt := topS 18
abbrev N_is_effect_by : List Str := ["factors", "value"]
abbrev p_is_effect_by : List Str := ["factors", "value"]
theorem sc_is_effect_by : FnScope N_is_effect_by p_is_effect_by (defScope s_is_effect_by) := ⟨rfl, rfl, rfl, by decide +kernel, rfl, by decide +kernel, by decide +kernel⟩
abbrev s_is_word_by : Stmt := topS 19
abbrev N_is_word_by : List Str := ["factors", "value"]
abbrev p_is_word_by : List Str := ["factors", "value"]
theorem sc_is_word_by : FnScope N_is_word_by p_is_word_by (defScope s_is_word_by) := ⟨rfl, rfl, rfl, by decide +kernel, rfl, by decide +kernel, by decide +kernel⟩
abbrev s_wrong_in_words : Stmt := topS 20
abbrev N_wrong_in_words : List Str := ["factors", "value", "index", "each"]
abbrev p_wrong_in_words : List Str := ["factors", "value"]
theorem sc_wrong_in_words : FnScope N_wrong_in_words p_wrong_in_words (defScope s_wrong_in_words) := ⟨rfl, rfl, rfl, by decide +kernel, rfl, by decide +kernel, by decide +kernel⟩
abbrev s_sign_in : Stmt := topS 21
abbrev N_sign_in : List Str := ["run", "effect", "found", "factor"]
abbrev p_sign_in : List Str := ["run", "effect"]
theorem sc_sign_in : FnScope N_sign_in p_sign_in (defScope s_sign_in) := ⟨rfl, rfl, rfl, by decide +kernel, rfl, by decide +kernel, by decide +kernel⟩
abbrev s_odd_by : Stmt := topS 22
abbrev N_odd_by : List Str := ["one", "two", "each"]
abbrev p_odd_by : List Str := ["one", "two"]
theorem sc_odd_by : FnScope N_odd_by p_odd_by (defScope s_odd_by) := ⟨rfl, rfl, rfl, by decide +kernel, rfl, by decide +kernel, by decide +kernel⟩
abbrev s_choices_of : Stmt := topS 23
abbrev N_choices_of : List Str := ["many", "found", "index", "each"]
abbrev p_choices_of : List Str := ["many"]
theorem sc_choices_of : FnScope N_choices_of p_choices_of (defScope s_choices_of) := ⟨rfl, rfl, rfl, by decide +kernel, rfl, by decide +kernel, by decide +kernel⟩
abbrev s_all_runs : Stmt := topS 24
abbrev N_all_runs : List Str := ["factors", "found", "_", "run", "each"]
abbrev p_all_runs : List Str := ["factors"]
theorem sc_all_runs : FnScope N_all_runs p_all_runs (defScope s_all_runs) := ⟨rfl, rfl, rfl, by decide +kernel, rfl, by decide +kernel, by decide +kernel⟩
abbrev s_does_agree : Stmt := topS 25
abbrev N_does_agree : List Str := ["run", "words", "effect", "sign"]
abbrev p_does_agree : List Str := ["run", "words"]
theorem sc_does_agree : FnScope N_does_agree p_does_agree (defScope s_does_agree) := ⟨rfl, rfl, rfl, by decide +kernel, rfl, by decide +kernel, by decide +kernel⟩
abbrev s_piece_by : Stmt := topS 26
abbrev N_piece_by : List Str := ["factors", "words", "run"]
abbrev p_piece_by : List Str := ["factors", "words"]
theorem sc_piece_by : FnScope N_piece_by p_piece_by (defScope s_piece_by) := ⟨rfl, rfl, rfl, by decide +kernel, rfl, by decide +kernel, by decide +kernel⟩
abbrev s_all_effects : Stmt := topS 27
abbrev N_all_effects : List Str := ["factors"]
abbrev p_all_effects : List Str := ["factors"]
theorem sc_all_effects : FnScope N_all_effects p_all_effects (defScope s_all_effects) := ⟨rfl, rfl, rfl, by decide +kernel, rfl, by decide +kernel, by decide +kernel⟩
abbrev s_check_words : Stmt := topS 29
abbrev N_check_words : List Str := ["factors", "value", "index"]
abbrev p_check_words : List Str := ["factors", "value"]
theorem sc_check_words : FnScope N_check_words p_check_words (defScope s_check_words) := ⟨rfl, rfl, rfl, by decide +kernel, rfl, by decide +kernel, by decide +kernel⟩
abbrev s_piece : Stmt := topS 30
abbrev N_piece : List Str := ["factors", "words"]
abbrev p_piece : List Str := ["factors", "words"]
theorem sc_piece : FnScope N_piece p_piece (defScope s_piece) := ⟨rfl, rfl, rfl, by decide +kernel, rfl, by decide +kernel, by decide +kernel⟩
abbrev s_wrong_in_runs : Stmt := topS 33
abbrev N_wrong_in_runs : List Str := ["value", "index", "each"]
abbrev p_wrong_in_runs : List Str := ["value"]
theorem sc_wrong_in_runs : FnScope N_wrong_in_runs p_wrong_in_runs (defScope s_wrong_in_runs) := ⟨rfl, rfl, rfl, by decide +kernel, rfl, by decide +kernel, by decide +kernel⟩
abbrev s_effect_sum : Stmt := topS 34
abbrev N_effect_sum : List Str := ["runs", "effect", "run"]
abbrev p_effect_sum : List Str := ["runs", "effect"]
theorem sc_effect_sum : FnScope N_effect_sum p_effect_sum (defScope s_effect_sum) := ⟨rfl, rfl, rfl, by decide +kernel, rfl, by decide +kernel, by decide +kernel⟩
abbrev s_product_run : Stmt := topS 35
abbrev N_product_run : List Str := ["one", "two", "three", "here", "there", "beside"]
abbrev p_product_run : List Str := ["one", "two", "three"]
theorem sc_product_run : FnScope N_product_run p_product_run (defScope s_product_run) := ⟨rfl, rfl, rfl, by decide +kernel, rfl, by decide +kernel, by decide +kernel⟩
abbrev s_like_runs : Stmt := topS 36
abbrev N_like_runs : List Str := ["runs", "index", "run"]
abbrev p_like_runs : List Str := ["runs"]
theorem sc_like_runs : FnScope N_like_runs p_like_runs (defScope s_like_runs) := ⟨rfl, rfl, rfl, by decide +kernel, rfl, by decide +kernel, by decide +kernel⟩
abbrev s_missing_by : Stmt := topS 37
abbrev N_missing_by : List Str := ["runs", "told", "found", "three", "two", "one", "run"]
abbrev p_missing_by : List Str := ["runs"]
theorem sc_missing_by : FnScope N_missing_by p_missing_by (defScope s_missing_by) := ⟨rfl, rfl, rfl, by decide +kernel, rfl, by decide +kernel, by decide +kernel⟩
abbrev s_fixed_words : Stmt := topS 38
abbrev N_fixed_words : List Str := ["runs", "words", "told", "effect", "other"]
abbrev p_fixed_words : List Str := ["runs"]
theorem sc_fixed_words : FnScope N_fixed_words p_fixed_words (defScope s_fixed_words) := ⟨rfl, rfl, rfl, by decide +kernel, rfl, by decide +kernel, by decide +kernel⟩
abbrev s_is_piece_of : Stmt := topS 39
abbrev N_is_piece_of : List Str := ["runs", "words"]
abbrev p_is_piece_of : List Str := ["runs", "words"]
theorem sc_is_piece_of : FnScope N_is_piece_of p_is_piece_of (defScope s_is_piece_of) := ⟨rfl, rfl, rfl, by decide +kernel, rfl, by decide +kernel, by decide +kernel⟩
abbrev s_words_by : Stmt := topS 40
abbrev N_words_by : List Str := ["runs", "words"]
abbrev p_words_by : List Str := ["runs"]
theorem sc_words_by : FnScope N_words_by p_words_by (defScope s_words_by) := ⟨rfl, rfl, rfl, by decide +kernel, rfl, by decide +kernel, by decide +kernel⟩
abbrev s_check_runs : Stmt := topS 42
abbrev N_check_runs : List Str := ["value", "index"]
abbrev p_check_runs : List Str := ["value"]
theorem sc_check_runs : FnScope N_check_runs p_check_runs (defScope s_check_runs) := ⟨rfl, rfl, rfl, by decide +kernel, rfl, by decide +kernel, by decide +kernel⟩
abbrev s_words_of : Stmt := topS 43
abbrev N_words_of : List Str := ["runs", "found"]
abbrev p_words_of : List Str := ["runs"]
theorem sc_words_of : FnScope N_words_of p_words_of (defScope s_words_of) := ⟨rfl, rfl, rfl, by decide +kernel, rfl, by decide +kernel, by decide +kernel⟩
abbrev s_missing : Stmt := topS 44
abbrev N_missing : List Str := ["runs", "found"]
abbrev p_missing : List Str := ["runs"]
theorem sc_missing : FnScope N_missing p_missing (defScope s_missing) := ⟨rfl, rfl, rfl, by decide +kernel, rfl, by decide +kernel, by decide +kernel⟩
abbrev s__law_is_whole : Stmt := topS 49
abbrev N__law_is_whole : List Str := ["_law_thing"]
abbrev p__law_is_whole : List Str := ["_law_thing"]
theorem sc__law_is_whole : FnScope N__law_is_whole p__law_is_whole (defScope s__law_is_whole) := ⟨rfl, rfl, rfl, by decide +kernel, rfl, by decide +kernel, by decide +kernel⟩
abbrev s__law_is_within : Stmt := topS 50
abbrev N__law_is_within : List Str := ["_law_thing", "_law_low", "_law_high"]
abbrev p__law_is_within : List Str := ["_law_thing", "_law_low", "_law_high"]
theorem sc__law_is_within : FnScope N__law_is_within p__law_is_within (defScope s__law_is_within) := ⟨rfl, rfl, rfl, by decide +kernel, rfl, by decide +kernel, by decide +kernel⟩
abbrev s__law_is_tuple : Stmt := topS 51
abbrev N__law_is_tuple : List Str := ["_law_thing", "_law_few"]
abbrev p__law_is_tuple : List Str := ["_law_thing", "_law_few"]
theorem sc__law_is_tuple : FnScope N__law_is_tuple p__law_is_tuple (defScope s__law_is_tuple) := ⟨rfl, rfl, rfl, by decide +kernel, rfl, by decide +kernel, by decide +kernel⟩
abbrev s__law_effects : Stmt := topS 54
abbrev N__law_effects : List Str := ["_law_few", "_law_found", "_law_bits", "_law_at"]
abbrev p__law_effects : List Str := ["_law_few"]
theorem sc__law_effects : FnScope N__law_effects p__law_effects (defScope s__law_effects) := ⟨rfl, rfl, rfl, by decide +kernel, rfl, by decide +kernel, by decide +kernel⟩
abbrev s__law_runs : Stmt := topS 55
abbrev N__law_runs : List Str := ["_law_few", "_law_found", "_law_turn", "_law_run_here"]
abbrev p__law_runs : List Str := ["_law_few"]
theorem sc__law_runs : FnScope N__law_runs p__law_runs (defScope s__law_runs) := ⟨rfl, rfl, rfl, by decide +kernel, rfl, by decide +kernel, by decide +kernel⟩
abbrev s__law_sign : Stmt := topS 56
abbrev N__law_sign : List Str := ["_law_run_here", "_law_effect_here", "_law_found", "_law_at"]
abbrev p__law_sign : List Str := ["_law_run_here", "_law_effect_here"]
theorem sc__law_sign : FnScope N__law_sign p__law_sign (defScope s__law_sign) := ⟨rfl, rfl, rfl, by decide +kernel, rfl, by decide +kernel, by decide +kernel⟩
abbrev s__law_parted : Stmt := topS 57
abbrev N__law_parted : List Str := ["_law_one_here", "_law_two", "_law_at"]
abbrev p__law_parted : List Str := ["_law_one_here", "_law_two"]
theorem sc__law_parted : FnScope N__law_parted p__law_parted (defScope s__law_parted) := ⟨rfl, rfl, rfl, by decide +kernel, rfl, by decide +kernel, by decide +kernel⟩
abbrev s__law_fitting : Stmt := topS 58
abbrev N__law_fitting : List Str := ["_law_few", "_law_words_here", "_law_found", "_law_effect_here", "_law_sign_here", "_law_run_here"]
abbrev p__law_fitting : List Str := ["_law_few", "_law_words_here"]
theorem sc__law_fitting : FnScope N__law_fitting p__law_fitting (defScope s__law_fitting) := ⟨rfl, rfl, rfl, by decide +kernel, rfl, by decide +kernel, by decide +kernel⟩
abbrev s__law_total : Stmt := topS 62
abbrev N__law_total : List Str := ["_law_runs_here", "_law_effect_here", "_law_run_here"]
abbrev p__law_total : List Str := ["_law_runs_here", "_law_effect_here"]
theorem sc__law_total : FnScope N__law_total p__law_total (defScope s__law_total) := ⟨rfl, rfl, rfl, by decide +kernel, rfl, by decide +kernel, by decide +kernel⟩
abbrev s__law_is_closed : Stmt := topS 63
abbrev N__law_is_closed : List Str := ["_law_runs_here", "_law_few", "_law_shared", "_law_effect_here", "_law_at"]
abbrev p__law_is_closed : List Str := ["_law_runs_here"]
theorem sc__law_is_closed : FnScope N__law_is_closed p__law_is_closed (defScope s__law_is_closed) := ⟨rfl, rfl, rfl, by decide +kernel, rfl, by decide +kernel, by decide +kernel⟩
abbrev s__law_effect_fault : Stmt := topS 64
abbrev N__law_effect_fault : List Str := ["_law_thing", "_law_few", "_law_at"]
abbrev p__law_effect_fault : List Str := ["_law_thing", "_law_few"]
theorem sc__law_effect_fault : FnScope N__law_effect_fault p__law_effect_fault (defScope s__law_effect_fault) := ⟨rfl, rfl, rfl, by decide +kernel, rfl, by decide +kernel, by decide +kernel⟩
abbrev s__law_is_word : Stmt := topS 65
abbrev N__law_is_word : List Str := ["_law_thing", "_law_few"]
abbrev p__law_is_word : List Str := ["_law_thing", "_law_few"]
theorem sc__law_is_word : FnScope N__law_is_word p__law_is_word (defScope s__law_is_word) := ⟨rfl, rfl, rfl, by decide +kernel, rfl, by decide +kernel, by decide +kernel⟩
abbrev s__law_words_fault : Stmt := topS 66
abbrev N__law_words_fault : List Str := ["_law_thing", "_law_few", "_law_wrong", "_law_at"]
abbrev p__law_words_fault : List Str := ["_law_thing", "_law_few"]
theorem sc__law_words_fault : FnScope N__law_words_fault p__law_words_fault (defScope s__law_words_fault) := ⟨rfl, rfl, rfl, by decide +kernel, rfl, by decide +kernel, by decide +kernel⟩
abbrev s__law_is_lot : Stmt := topS 67
abbrev N__law_is_lot : List Str := ["_law_thing", "_law_many"]
abbrev p__law_is_lot : List Str := ["_law_thing", "_law_many"]
theorem sc__law_is_lot : FnScope N__law_is_lot p__law_is_lot (defScope s__law_is_lot) := ⟨rfl, rfl, rfl, by decide +kernel, rfl, by decide +kernel, by decide +kernel⟩
abbrev s__law_is_missing : Stmt := topS 68
abbrev N__law_is_missing : List Str := ["_law_runs_here", "_law_told", "_law_found", "_law_at", "_law_x", "_law_y"]
abbrev p__law_is_missing : List Str := ["_law_runs_here", "_law_told"]
theorem sc__law_is_missing : FnScope N__law_is_missing p__law_is_missing (defScope s__law_is_missing) := ⟨rfl, rfl, rfl, by decide +kernel, rfl, by decide +kernel, by decide +kernel⟩
abbrev s__law_well : Stmt := topS 46
abbrev N__law_well : List Str := ["_law_script", "_law_lap", "_law_mixed_here", "_law_cell", "_law_own"]
abbrev p__law_well : List Str := ["_law_script", "_law_lap"]
theorem sc__law_well : FnScope N__law_well p__law_well (defScope s__law_well) := ⟨rfl, rfl, rfl, by decide +kernel, rfl, by decide +kernel, by decide +kernel⟩
abbrev s__law_draw : Stmt := topS 47
abbrev N__law_draw : List Str := ["_law_well_here", "_law_few", "_law_figure", "_law_mixed_here"]
abbrev p__law_draw : List Str := ["_law_well_here", "_law_few"]
theorem sc__law_draw : FnScope N__law_draw p__law_draw (defScope s__law_draw) := ⟨rfl, rfl, rfl, by decide +kernel, rfl, by decide +kernel, by decide +kernel⟩
abbrev s__law_one : Stmt := topS 48
abbrev N__law_one : List Str := ["_law_well_here", "_law_some"]
abbrev p__law_one : List Str := ["_law_well_here", "_law_some"]
theorem sc__law_one : FnScope N__law_one p__law_one (defScope s__law_one) := ⟨rfl, rfl, rfl, by decide +kernel, rfl, by decide +kernel, by decide +kernel⟩
abbrev s__law_run : Stmt := topS 52
abbrev N__law_run : List Str := ["_law_well_here", "_law_few", "_law_found", "_law_turn"]
abbrev p__law_run : List Str := ["_law_well_here", "_law_few"]
theorem sc__law_run : FnScope N__law_run p__law_run (defScope s__law_run) := ⟨rfl, rfl, rfl, by decide +kernel, rfl, by decide +kernel, by decide +kernel⟩
abbrev s__law_effect : Stmt := topS 53
abbrev N__law_effect : List Str := ["_law_well_here", "_law_few", "_law_found", "_law_at"]
abbrev p__law_effect : List Str := ["_law_well_here", "_law_few"]
theorem sc__law_effect : FnScope N__law_effect p__law_effect (defScope s__law_effect) := ⟨rfl, rfl, rfl, by decide +kernel, rfl, by decide +kernel, by decide +kernel⟩
abbrev s__law_words : Stmt := topS 59
abbrev N__law_words : List Str := ["_law_well_here", "_law_few", "_law_most", "_law_is_firm", "_law_hidden", "_law_found", "_law_turn", "_law_effect_here"]
abbrev p__law_words : List Str := ["_law_well_here", "_law_few", "_law_most", "_law_is_firm"]
theorem sc__law_words : FnScope N__law_words p__law_words (defScope s__law_words) := ⟨rfl, rfl, rfl, by decide +kernel, rfl, by decide +kernel, by decide +kernel⟩
abbrev s__law_mixed : Stmt := topS 60
abbrev N__law_mixed : List Str := ["_law_well_here", "_law_some", "_law_rest", "_law_found", "_law_turn"]
abbrev p__law_mixed : List Str := ["_law_well_here", "_law_some"]
theorem sc__law_mixed : FnScope N__law_mixed p__law_mixed (defScope s__law_mixed) := ⟨rfl, rfl, rfl, by decide +kernel, rfl, by decide +kernel, by decide +kernel⟩
abbrev s__law_plan : Stmt := topS 61
abbrev N__law_plan : List Str := ["_law_well_here", "_law_few", "_law_least", "_law_words_here", "_law_runs_here", "_law_way", "_law_turn", "_law_at", "_law_to", "_law_run_here"]
abbrev p__law_plan : List Str := ["_law_well_here"]
theorem sc__law_plan : FnScope N__law_plan p__law_plan (defScope s__law_plan) := ⟨rfl, rfl, rfl, by decide +kernel, rfl, by decide +kernel, by decide +kernel⟩
abbrev s__law_right : Stmt := topS 69
abbrev N__law_right : List Str := ["_law_well_here", "_law_runs_here", "_law_few", "_law_is_piece", "_law_told", "_law_paper", "_law_due"]
abbrev p__law_right : List Str := ["_law_well_here"]
theorem sc__law_right : FnScope N__law_right p__law_right (defScope s__law_right) := ⟨rfl, rfl, rfl, by decide +kernel, rfl, by decide +kernel, by decide +kernel⟩
abbrev s_law : Stmt := topS 70
abbrev N_law : List Str := ["_law_script", "_law_lap"]
abbrev p_law : List Str := ["_law_script"]
theorem sc_law : FnScope N_law p_law (defScope s_law) := ⟨rfl, rfl, rfl, by decide +kernel, rfl, by decide +kernel, by decide +kernel⟩
/-- what the top has written -/
structure Txt (K : Fr) (mg : Str → Option Value) (aN : Addr) : Prop where
  z_isinstance : mg "isinstance" = none
  z_len : mg "len" = none
  z_all : mg "all" = none
  z_enumerate : mg "enumerate" = none
  z_tuple : mg "tuple" = none
  z_sorted : mg "sorted" = none
  z_range : mg "range" = none
  z_sum : mg "sum" = none
  z_zip : mg "zip" = none
  z_abs : mg "abs" = none
  z_list : mg "list" = none
  z_int : mg "int" = none
  z_bool : mg "bool" = none
  z_divmod : mg "divmod" = none
  z_max : mg "max" = none
  z_min : mg "min" = none
  z_any : mg "any" = none
  z_repr : mg "repr" = none
  c_MOST_FACTORS : ∃ t, mg "MOST_FACTORS" = some (.int 6 t)
  c_MOST_WORDS : ∃ t, mg "MOST_WORDS" = some (.int 6 t)
  c_MOST_RUNS : ∃ t, mg "MOST_RUNS" = some (.int 64 t)
  c_NOTHING : mg "NOTHING" = some (.ref aN)
  e_NOTHING : ∀ H : Hp, SqT K H aN []
  f_is_whole : FAt K mg "is_whole" s_is_whole p_is_whole
  f_is_between : FAt K mg "is_between" s_is_between p_is_between
  f_is_tuple_of : FAt K mg "is_tuple_of" s_is_tuple_of p_is_tuple_of
  f_check_many : FAt K mg "check_many" s_check_many p_check_many
  f_is_sign : FAt K mg "is_sign" s_is_sign p_is_sign
  f_is_run_by : FAt K mg "is_run_by" s_is_run_by p_is_run_by
  f_wrong_in_effect : FAt K mg "wrong_in_effect" s_wrong_in_effect p_wrong_in_effect
  f_is_effect_by : FAt K mg "is_effect_by" s_is_effect_by p_is_effect_by
  f_is_word_by : FAt K mg "is_word_by" s_is_word_by p_is_word_by
  f_wrong_in_words : FAt K mg "wrong_in_words" s_wrong_in_words p_wrong_in_words
  f_sign_in : FAt K mg "sign_in" s_sign_in p_sign_in
  f_odd_by : FAt K mg "odd_by" s_odd_by p_odd_by
  f_choices_of : FAt K mg "choices_of" s_choices_of p_choices_of
  f_all_runs : FAt K mg "all_runs" s_all_runs p_all_runs
  f_does_agree : FAt K mg "does_agree" s_does_agree p_does_agree
  f_piece_by : FAt K mg "piece_by" s_piece_by p_piece_by
  f_all_effects : FAt K mg "all_effects" s_all_effects p_all_effects
  f_check_words : FAt K mg "check_words" s_check_words p_check_words
  f_piece : FAt K mg "piece" s_piece p_piece
  f_wrong_in_runs : FAt K mg "wrong_in_runs" s_wrong_in_runs p_wrong_in_runs
  f_effect_sum : FAt K mg "effect_sum" s_effect_sum p_effect_sum
  f_product_run : FAt K mg "product_run" s_product_run p_product_run
  f_like_runs : FAt K mg "like_runs" s_like_runs p_like_runs
  f_missing_by : FAt K mg "missing_by" s_missing_by p_missing_by
  f_fixed_words : FAt K mg "fixed_words" s_fixed_words p_fixed_words
  f_is_piece_of : FAt K mg "is_piece_of" s_is_piece_of p_is_piece_of
  f_words_by : FAt K mg "words_by" s_words_by p_words_by
  f_check_runs : FAt K mg "check_runs" s_check_runs p_check_runs
  f_words_of : FAt K mg "words_of" s_words_of p_words_of
  f_missing : FAt K mg "missing" s_missing p_missing
  f__law_is_whole : FAt K mg "_law_is_whole" s__law_is_whole p__law_is_whole
  f__law_is_within : FAt K mg "_law_is_within" s__law_is_within p__law_is_within
  f__law_is_tuple : FAt K mg "_law_is_tuple" s__law_is_tuple p__law_is_tuple
  f__law_effects : FAt K mg "_law_effects" s__law_effects p__law_effects
  f__law_runs : FAt K mg "_law_runs" s__law_runs p__law_runs
  f__law_sign : FAt K mg "_law_sign" s__law_sign p__law_sign
  f__law_parted : FAt K mg "_law_parted" s__law_parted p__law_parted
  f__law_fitting : FAt K mg "_law_fitting" s__law_fitting p__law_fitting
  f__law_total : FAt K mg "_law_total" s__law_total p__law_total
  f__law_is_closed : FAt K mg "_law_is_closed" s__law_is_closed p__law_is_closed
  f__law_effect_fault : FAt K mg "_law_effect_fault" s__law_effect_fault p__law_effect_fault
  f__law_is_word : FAt K mg "_law_is_word" s__law_is_word p__law_is_word
  f__law_words_fault : FAt K mg "_law_words_fault" s__law_words_fault p__law_words_fault
  f__law_is_lot : FAt K mg "_law_is_lot" s__law_is_lot p__law_is_lot
  f__law_is_missing : FAt K mg "_law_is_missing" s__law_is_missing p__law_is_missing
  f__law_well : FAt K mg "_law_well" s__law_well p__law_well
  f__law_draw : FAt K mg "_law_draw" s__law_draw p__law_draw
  f__law_one : FAt K mg "_law_one" s__law_one p__law_one
  f__law_run : FAt K mg "_law_run" s__law_run p__law_run
  f__law_effect : FAt K mg "_law_effect" s__law_effect p__law_effect
  f__law_words : FAt K mg "_law_words" s__law_words p__law_words
  f__law_mixed : FAt K mg "_law_mixed" s__law_mixed p__law_mixed
  f__law_plan : FAt K mg "_law_plan" s__law_plan p__law_plan
  f__law_right : FAt K mg "_law_right" s__law_right p__law_right
variable {P : Program} {w : World} {K : Fr} {mg : Str → Option Value} {base : Heap} {aN : Addr} {A : Around} {outer : List Env} {s : Shared} {H : Hp} {E : XK} {f : Addr} {cdv : Value}
abbrev rMax2 : List V → Hp → VK → Prop := fun xs H Q => ∃ i j, xs = [.int i, .int j] ∧ Q (.int (if j > i then j else i)) H
abbrev rMin2 : List V → Hp → VK → Prop := fun xs H Q => ∃ i j, xs = [.int i, .int j] ∧ Q (.int (if j < i then j else i)) H
abbrev rInt1 : List V → Hp → VK → Prop := fun xs H Q => (∃ i, xs = [.int i] ∧ Q (.int i) H) ∨ ∃ k, xs = [.bl k] ∧ Q (.int (if k then 1 else 0)) H
abbrev sp_is_whole (K : Fr) : Sp := spD K In_is_whole
def T_is_whole (K : Fr) (aN : Addr) : TS := (tRet (tAndV (tCB (rIsi K) (tCons (tVar 0) (tCons (tC (.ty "int")) tNil))) (tNotV (tCB (rIsi K) (tCons (tVar 0) (tCons (tC (.ty "bool")) tNil))))))
theorem w_is_whole (T : Txt K mg aN)  (hr : Room 0 (A.deeper (envOfC "is_whole" (defScope s_is_whole) s.heap.objs.size f cdv))) :
    PSs (cxOf CX0 P w K mg base N_is_whole "is_whole" (defScope s_is_whole) f cdv A outer s H E).nox (defBody s_is_whole) (T_is_whole K aN) := by
  have nd := sc_is_whole.nd
  unfold T_is_whole
  exact (pss_one (ps_ret (pe_and (pe_callB call_isi rfl T.z_isinstance (by decide +kernel) (pa_cons (pv 0) (pa_cons (pe_bltn rfl T.z_int (by decide +kernel) rfl) pa_nil))) (pe_one (pe_not (pe_callB call_isi rfl T.z_isinstance (by decide +kernel) (pa_cons (pv 0) (pa_cons (pe_bltn rfl T.z_bool (by decide +kernel) rfl) pa_nil))))))))
abbrev sp_is_between (K : Fr) : Sp := spD K In_is_between
def T_is_between (K : Fr) (aN : Addr) : TS := (tRet (tAndV (tCall (sp_is_whole K) [] L2.E0 (tCons (tVar 0) tNil)) (tChain (rI0 fun i j => .bl (decide (i ≤ j))) (rI0 fun i j => .bl (decide (i ≤ j))) (tVar 1) (tVar 0) (tVar 2))))
theorem w_is_between (T : Txt K mg aN) (F_is_whole : Ok P w K mg base 1 "is_whole" p_is_whole (sp_is_whole K)) (hr : Room 1 (A.deeper (envOfC "is_between" (defScope s_is_between) s.heap.objs.size f cdv))) :
    PSs (cxOf CX0 P w K mg base N_is_between "is_between" (defScope s_is_between) f cdv A outer s H E).nox (defBody s_is_between) (T_is_between K aN) := by
  have nd := sc_is_between.nd
  unfold T_is_between
  exact (pss_one (ps_ret (pe_and (pe_ok F_is_whole (hr.mono (by decide)) rfl (pa_cons (pv 0) pa_nil)) (pe_one (pe_chain op_le op_le (pv 1) (pv 0) (pv 2))))))
abbrev sp_is_tuple_of (K : Fr) : Sp := spD K In_is_tuple_of
def T_is_tuple_of (K : Fr) (aN : Addr) : TS := (tRet (tAndV (tCB (rIsi K) (tCons (tVar 0) (tCons (tC (.ty "tuple")) tNil))) (tOp (rEqD K) (tCB (rLen K) (tCons (tVar 0) tNil)) (tVar 1))))
theorem w_is_tuple_of (T : Txt K mg aN)  (hr : Room 0 (A.deeper (envOfC "is_tuple_of" (defScope s_is_tuple_of) s.heap.objs.size f cdv))) :
    PSs (cxOf CX0 P w K mg base N_is_tuple_of "is_tuple_of" (defScope s_is_tuple_of) f cdv A outer s H E).nox (defBody s_is_tuple_of) (T_is_tuple_of K aN) := by
  have nd := sc_is_tuple_of.nd
  unfold T_is_tuple_of
  exact (pss_one (ps_ret (pe_and (pe_callB call_isi rfl T.z_isinstance (by decide +kernel) (pa_cons (pv 0) (pa_cons (pe_bltn rfl T.z_tuple (by decide +kernel) rfl) pa_nil))) (pe_one (pe_cmpR (op_eqD (hu64 hr)) (pe_callB call_len_seq rfl T.z_len (by decide +kernel) (pa_cons (pv 0) pa_nil)) (pv 1) (nomark _))))))
abbrev sp_check_many (K : Fr) : Sp := spD K In_check_many
def T_check_many (K : Fr) (aN : Addr) : TS := (tIfS (tNot (tB (tCall (sp_is_between K) [] L2.E0 (tCons (tVar 0) (tCons (tVar 1) (tCons (tVar 2) tNil)))))) tNever tNext)
theorem w_check_many (T : Txt K mg aN) (F_is_between : Ok P w K mg base 2 "is_between" p_is_between (sp_is_between K)) (hr : Room 2 (A.deeper (envOfC "check_many" (defScope s_check_many) s.heap.objs.size f cdv))) :
    PSs (cxOf CX0 P w K mg base N_check_many "check_many" (defScope s_check_many) f cdv A outer s H E).nox (defBody s_check_many) (T_check_many K aN) := by
  have nd := sc_check_many.nd
  unfold T_check_many
  exact (pss_one (ps_if (pt_not (pt_val (pe_ok F_is_between (hr.mono (by decide)) rfl (pa_cons (pv 0) (pa_cons (pv 1) (pa_cons (pv 2) pa_nil)))))) (pss_one ps_never) pss_nil))
abbrev sp_is_sign (K : Fr) : Sp := spD K In_is_sign
def T_is_sign (K : Fr) (aN : Addr) : TS := (tRet (tAndV (tCall (sp_is_whole K) [] L2.E0 (tCons (tVar 0) tNil)) (tOp (rIn K false) (tVar 0) (tTup (tCons (tC (.int 1)) (tCons (tUn (rU fun i => .int (-i)) (tC (.int 1))) tNil))))))
theorem w_is_sign (T : Txt K mg aN) (F_is_whole : Ok P w K mg base 1 "is_whole" p_is_whole (sp_is_whole K)) (hr : Room 1 (A.deeper (envOfC "is_sign" (defScope s_is_sign) s.heap.objs.size f cdv))) :
    PSs (cxOf CX0 P w K mg base N_is_sign "is_sign" (defScope s_is_sign) f cdv A outer s H E).nox (defBody s_is_sign) (T_is_sign K aN) := by
  have nd := sc_is_sign.nd
  unfold T_is_sign
  exact (pss_one (ps_ret (pe_and (pe_ok F_is_whole (hr.mono (by decide)) rfl (pa_cons (pv 0) pa_nil)) (pe_one (pe_cmpR op_in_seq (pv 0) (pe_tup (pa_cons pe_int (pa_cons (pe_un un_neg pe_int) pa_nil))) (by rfl))))))
abbrev sp_is_run_by (K : Fr) : Sp := spD K In_is_run_by
def T_is_run_by (K : Fr) (aN : Addr) : TS := (tSeq (tIfS (tOr (tNot (tB (tCB (rIsi K) (tCons (tVar 0) (tCons (tC (.ty "tuple")) tNil))))) (tNot (tTest (tChain (rI0 fun i j => .bl (decide (i ≤ j))) (rI0 fun i j => .bl (decide (i ≤ j))) (tC (.int 1)) (tCB (rLen K) (tCons (tVar 0) tNil)) (tC (.int 6)))))) (tRet (tC (.bl false))) tNext)
  (tRet (tCB (rAll K) (tCons (tLc (iTup K (tVar 0)) (gName 1) tYes (tCall (sp_is_sign K) [] L2.E0 (tCons (tVar 1) tNil)) [1]) tNil))))
theorem w_is_run_by (T : Txt K mg aN) (F_is_sign : Ok P w K mg base 2 "is_sign" p_is_sign (sp_is_sign K)) (hr : Room 2 (A.deeper (envOfC "is_run_by" (defScope s_is_run_by) s.heap.objs.size f cdv))) :
    PSs (cxOf CX0 P w K mg base N_is_run_by "is_run_by" (defScope s_is_run_by) f cdv A outer s H E).nox (defBody s_is_run_by) (T_is_run_by K aN) := by
  have nd := sc_is_run_by.nd
  unfold T_is_run_by
  exact (pss_cons (ps_if (PW.pt (pw_or (pt_not (pt_val (pe_callB call_isi rfl T.z_isinstance (by decide +kernel) (pa_cons (pv 0) (pa_cons (pe_bltn rfl T.z_tuple (by decide +kernel) rfl) pa_nil))))) (pw_or1 (pt_not (pt_chain op_le op_le pe_int (pe_callB call_len_seq rfl T.z_len (by decide +kernel) (pa_cons (pv 0) pa_nil)) (pe_gI rfl T.c_MOST_FACTORS)))))) (pss_one (ps_ret pe_bl)) pss_nil)
  (pss_one (ps_ret (pe_callB (cr_all rfl) rfl T.z_all (by decide +kernel) (pa_cons (pe_lc (own := [("each", 1)]) (g := (gName 1)) (tt := tYes) (te := (tCall (sp_is_sign K) [] L2.E0 (tCons (tVar 1) tNil))) rfl nd (pi_tup (pv 0)) (blkOk_by (N := ["value", "each"]) (sc := defScope s_is_run_by) (by decide +kernel)) (fun _ _ _ _ _ => (pg_name (i := 1) nd rfl (Or.inl rfl))) (fun _ _ _ _ _ => pts_nil) (fun _ _ _ _ _ => (pe_ok F_is_sign (hr.mono (by decide)) rfl (pa_cons (pv 1) pa_nil)))) pa_nil)))))
abbrev sp_wrong_in_effect (K : Fr) : Sp := spD K In_wrong_in_effect
def T_wrong_in_effect (K : Fr) (aN : Addr) : TS := (tSeq (tIfS (tNot (tB (tCB (rIsi K) (tCons (tVar 1) (tCons (tC (.ty "tuple")) tNil))))) (tRet (tLst (tCons (tC .non) tNil))) tNext)
  (tSeq (tFor (iEnT K (tCons (tVar 1) tNil)) (gTup K 2 (gCons (gName 2) (gCons (gName 3) gNil)))
  (tIfS (tOr (tNot (tB (tCall (sp_is_between K) [] L2.E0 (tCons (tVar 3) (tCons (tC (.int 0)) (tCons (tOp (rI0 fun i j => .int (i - j)) (tVar 0) (tC (.int 1))) tNil)))))) (tAnd (tTest (tOp (rI0 fun i j => .bl (decide (j < i))) (tVar 2) (tC (.int 0)))) (tTest (tOp (rI0 fun i j => .bl (decide (j ≤ i))) (tOp (rIxT K) (tVar 1) (tOp (rI0 fun i j => .int (i - j)) (tVar 2) (tC (.int 1)))) (tVar 3))))) (tRet (tLst (tCons (tVar 2) tNil))) tNext))
  (tRet (tLst tNil))))
theorem w_wrong_in_effect (T : Txt K mg aN) (F_is_between : Ok P w K mg base 2 "is_between" p_is_between (sp_is_between K)) (hr : Room 2 (A.deeper (envOfC "wrong_in_effect" (defScope s_wrong_in_effect) s.heap.objs.size f cdv))) :
    PSs (cxOf CX0 P w K mg base N_wrong_in_effect "wrong_in_effect" (defScope s_wrong_in_effect) f cdv A outer s H E).nox (defBody s_wrong_in_effect) (T_wrong_in_effect K aN) := by
  have nd := sc_wrong_in_effect.nd
  unfold T_wrong_in_effect
  exact (pss_cons (ps_if (pt_not (pt_val (pe_callB call_isi rfl T.z_isinstance (by decide +kernel) (pa_cons (pv 1) (pa_cons (pe_bltn rfl T.z_tuple (by decide +kernel) rfl) pa_nil))))) (pss_one (ps_ret (pe_lst (pa_cons pe_non pa_nil)))) pss_nil)
  (pss_cons (ps_for PassesOwn.never rfl (pi_enT rfl T.z_enumerate (pa_cons (pv 1) pa_nil)) (pg_tup rfl (pgs_cons (pg_name (i := 2) nd rfl (Or.inl rfl)) (pgs_cons (pg_name (i := 3) nd rfl (Or.inl rfl)) pgs_nil)))
  (pss_one (ps_if (PW.pt (pw_or (pt_not (pt_val (pe_ok F_is_between (hr.mono (by decide)) rfl (pa_cons (pv 3) (pa_cons pe_int (pa_cons (pe_op op_sub (pv 0) pe_int) pa_nil)))))) (pw_or1 (PW.pt (pw_and (pt_cmpR op_gt (pv 2) pe_int (nomark _)) (pw_and1 (pt_cmpR op_ge (pe_ix ix_tup (pv 1) (pe_op op_sub (pv 2) pe_int) (fun _ _ => rfl)) (pv 3) (nomark _)))))))) (pss_one (ps_ret (pe_lst (pa_cons (pv 2) pa_nil)))) pss_nil)))
  (pss_one (ps_ret (pe_lst pa_nil)))))
abbrev sp_is_effect_by (K : Fr) : Sp := spD K In_is_effect_by
def T_is_effect_by (K : Fr) (aN : Addr) : TS := (tRet (tOp (rEqD K) (tCall (sp_wrong_in_effect K) [] L2.E0 (tCons (tVar 0) (tCons (tVar 1) tNil))) (tLst tNil)))
theorem w_is_effect_by (T : Txt K mg aN) (F_wrong_in_effect : Ok P w K mg base 3 "wrong_in_effect" p_wrong_in_effect (sp_wrong_in_effect K)) (hr : Room 3 (A.deeper (envOfC "is_effect_by" (defScope s_is_effect_by) s.heap.objs.size f cdv))) :
    PSs (cxOf CX0 P w K mg base N_is_effect_by "is_effect_by" (defScope s_is_effect_by) f cdv A outer s H E).nox (defBody s_is_effect_by) (T_is_effect_by K aN) := by
  have nd := sc_is_effect_by.nd
  unfold T_is_effect_by
  exact (pss_one (ps_ret (pe_cmpR (op_eqD (hu64 hr)) (pe_ok F_wrong_in_effect (hr.mono (by decide)) rfl (pa_cons (pv 0) (pa_cons (pv 1) pa_nil))) (pe_lst pa_nil) (nomark _))))
abbrev sp_is_word_by (K : Fr) : Sp := spD K In_is_word_by
def T_is_word_by (K : Fr) (aN : Addr) : TS := (tSeq (tIfS (tOr (tNot (tB (tCall (sp_is_tuple_of K) [] L2.E0 (tCons (tVar 1) (tCons (tC (.int 2)) tNil))))) (tNot (tB (tCall (sp_is_effect_by K) [] L2.E0 (tCons (tVar 0) (tCons (tOp (rIxT K) (tVar 1) (tC (.int 0))) tNil)))))) (tRet (tC (.bl false))) tNext)
  (tRet (tAndV (tOp (rNeD K) (tOp (rIxT K) (tVar 1) (tC (.int 0))) (tC (.ref aN))) (tCall (sp_is_sign K) [] L2.E0 (tCons (tOp (rIxT K) (tVar 1) (tC (.int 1))) tNil)))))
theorem w_is_word_by (T : Txt K mg aN) (F_is_effect_by : Ok P w K mg base 4 "is_effect_by" p_is_effect_by (sp_is_effect_by K)) (F_is_sign : Ok P w K mg base 2 "is_sign" p_is_sign (sp_is_sign K)) (F_is_tuple_of : Ok P w K mg base 1 "is_tuple_of" p_is_tuple_of (sp_is_tuple_of K)) (hr : Room 4 (A.deeper (envOfC "is_word_by" (defScope s_is_word_by) s.heap.objs.size f cdv))) :
    PSs (cxOf CX0 P w K mg base N_is_word_by "is_word_by" (defScope s_is_word_by) f cdv A outer s H E).nox (defBody s_is_word_by) (T_is_word_by K aN) := by
  have nd := sc_is_word_by.nd
  unfold T_is_word_by
  exact (pss_cons (ps_if (PW.pt (pw_or (pt_not (pt_val (pe_ok F_is_tuple_of (hr.mono (by decide)) rfl (pa_cons (pv 1) (pa_cons pe_int pa_nil))))) (pw_or1 (pt_not (pt_val (pe_ok F_is_effect_by (hr.mono (by decide)) rfl (pa_cons (pv 0) (pa_cons (pe_ix ix_tup (pv 1) pe_int (fun _ _ => rfl)) pa_nil)))))))) (pss_one (ps_ret pe_bl)) pss_nil)
  (pss_one (ps_ret (pe_and (pe_cmpR (op_neD (hu64 hr)) (pe_ix ix_tup (pv 1) pe_int (fun _ _ => rfl)) (pe_glob rfl T.c_NOTHING rfl) (nomark _)) (pe_one (pe_ok F_is_sign (hr.mono (by decide)) rfl (pa_cons (pe_ix ix_tup (pv 1) pe_int (fun _ _ => rfl)) pa_nil)))))))
abbrev sp_wrong_in_words (K : Fr) : Sp := spD K In_wrong_in_words
def T_wrong_in_words (K : Fr) (aN : Addr) : TS := (tSeq (tIfS (tOr (tNot (tB (tCB (rIsi K) (tCons (tVar 1) (tCons (tC (.ty "tuple")) tNil))))) (tTest (tOp (rI0 fun i j => .bl (decide (j < i))) (tCB (rLen K) (tCons (tVar 1) tNil)) (tC (.int 6))))) (tRet (tLst (tCons (tC .non) tNil))) tNext)
  (tRet (tSl (rSlL K) (tLc (iEnT K (tCons (tVar 1) tNil)) (gTup K 2 (gCons (gName 2) (gCons (gName 3) gNil))) (tNot (tB (tCall (sp_is_word_by K) [] L2.E0 (tCons (tVar 0) (tCons (tVar 3) tNil))))) (tVar 2) [2, 3]) tNoPart (tPart (tC (.int 1))))))
theorem w_wrong_in_words (T : Txt K mg aN) (F_is_word_by : Ok P w K mg base 5 "is_word_by" p_is_word_by (sp_is_word_by K)) (hr : Room 5 (A.deeper (envOfC "wrong_in_words" (defScope s_wrong_in_words) s.heap.objs.size f cdv))) :
    PSs (cxOf CX0 P w K mg base N_wrong_in_words "wrong_in_words" (defScope s_wrong_in_words) f cdv A outer s H E).nox (defBody s_wrong_in_words) (T_wrong_in_words K aN) := by
  have nd := sc_wrong_in_words.nd
  unfold T_wrong_in_words
  exact (pss_cons (ps_if (PW.pt (pw_or (pt_not (pt_val (pe_callB call_isi rfl T.z_isinstance (by decide +kernel) (pa_cons (pv 1) (pa_cons (pe_bltn rfl T.z_tuple (by decide +kernel) rfl) pa_nil))))) (pw_or1 (pt_cmpR op_gt (pe_callB call_len_seq rfl T.z_len (by decide +kernel) (pa_cons (pv 1) pa_nil)) (pe_gI rfl T.c_MOST_WORDS) (nomark _))))) (pss_one (ps_ret (pe_lst (pa_cons pe_non pa_nil)))) pss_nil)
  (pss_one (ps_ret (pe_slice sl_list (pe_lc (own := [("index", 2), ("each", 3)]) (g := (gTup K 2 (gCons (gName 2) (gCons (gName 3) gNil)))) (tt := (tNot (tB (tCall (sp_is_word_by K) [] L2.E0 (tCons (tVar 0) (tCons (tVar 3) tNil)))))) (te := (tVar 2)) rfl nd (pi_enT rfl T.z_enumerate (pa_cons (pv 1) pa_nil)) (blkOk_by (N := ["factors", "value", "index", "each"]) (sc := defScope s_wrong_in_words) (by decide +kernel)) (fun _ _ _ _ _ => (pg_tup rfl (pgs_cons (pg_name (i := 2) nd rfl (Or.inl rfl)) (pgs_cons (pg_name (i := 3) nd rfl (Or.inl rfl)) pgs_nil)))) (fun _ _ _ _ _ => (pts_one (pt_not (pt_val (pe_ok F_is_word_by (hr.mono (by decide)) rfl (pa_cons (pv 0) (pa_cons (pv 3) pa_nil))))))) (fun _ _ _ _ _ => (pv 2))) po_none (po_some pe_int)))))
abbrev sp_sign_in (K : Fr) : Sp := spD K In_sign_in
def T_sign_in (K : Fr) (aN : Addr) : TS := (tSeq (tAsg (tC (.int 1)) (gName 2))
  (tSeq (tFor (iTup K (tVar 1)) (gName 3)
  (tAsg (tOp (rI CMul fun i j => .int (i * j)) (tVar 2) (tOp (rIxT K) (tVar 0) (tVar 3))) (gName 2)))
  (tRet (tVar 2))))
theorem w_sign_in (T : Txt K mg aN)  (hr : Room 0 (A.deeper (envOfC "sign_in" (defScope s_sign_in) s.heap.objs.size f cdv))) :
    PSs (cxOf CX0 P w K mg base N_sign_in "sign_in" (defScope s_sign_in) f cdv A outer s H E).nox (defBody s_sign_in) (T_sign_in K aN) := by
  have nd := sc_sign_in.nd
  unfold T_sign_in
  exact (pss_cons (ps_set (i := 2) nd rfl (Or.inl rfl) pe_int)
  (pss_cons (ps_for PassesOwn.never rfl (pi_tup (pv 1)) (pg_name (i := 3) nd rfl (Or.inl rfl))
  (pss_one (ps_set (i := 2) nd rfl (Or.inl rfl) (pe_op op_mul (pv 2) (pe_ix ix_tup (pv 0) (pv 3) (fun _ _ => rfl))))))
  (pss_one (ps_ret (pv 2)))))
abbrev sp_odd_by (K : Fr) : Sp := spD K In_odd_by
def T_odd_by (K : Fr) (aN : Addr) : TS := (tRet (tCB (rTupOf K) (tCons (tCB (rSorted K) (tCons (tLc (iTup K (tOp (rCatA K) (tVar 0) (tVar 1))) (gName 2) (tTest (tOp (rNeD K) (tOp (rIn K false) (tVar 2) (tVar 0)) (tOp (rIn K false) (tVar 2) (tVar 1)))) (tVar 2) [2]) tNil)) tNil)))
theorem w_odd_by (T : Txt K mg aN)  (hr : Room 0 (A.deeper (envOfC "odd_by" (defScope s_odd_by) s.heap.objs.size f cdv))) :
    PSs (cxOf CX0 P w K mg base N_odd_by "odd_by" (defScope s_odd_by) f cdv A outer s H E).nox (defBody s_odd_by) (T_odd_by K aN) := by
  have nd := sc_odd_by.nd
  unfold T_odd_by
  exact (pss_one (ps_ret (pe_callTy call_tuple_of rfl T.z_tuple (by decide +kernel) (pa_cons (pe_callB cr_sorted rfl T.z_sorted (by decide +kernel) (pa_cons (pe_lc (own := [("each", 2)]) (g := (gName 2)) (tt := (tTest (tOp (rNeD K) (tOp (rIn K false) (tVar 2) (tVar 0)) (tOp (rIn K false) (tVar 2) (tVar 1))))) (te := (tVar 2)) rfl nd (pi_tup (pe_op op_catA (pv 0) (pv 1))) (blkOk_by (N := ["one", "two", "each"]) (sc := defScope s_odd_by) (by decide +kernel)) (fun _ _ _ _ _ => (pg_name (i := 2) nd rfl (Or.inl rfl))) (fun _ _ _ _ _ => (pts_one (pt_cmpR (op_neD (hu64 hr)) (pe_cmpR op_in_seq (pv 2) (pv 0) (by rfl)) (pe_cmpR op_in_seq (pv 2) (pv 1) (by rfl)) (nomark _)))) (fun _ _ _ _ _ => (pv 2))) pa_nil)) pa_nil))))
abbrev sp_choices_of (K : Fr) : Sp := spD K In_choices_of
def T_choices_of (K : Fr) (aN : Addr) : TS := (tSeq (tAsg (tLst (tCons (tTup tNil) tNil)) (gName 1))
  (tSeq (tFor (iRng1 (tCons (tVar 0) tNil)) (gName 2)
  (tAsg (tOp (rCatS K) (tVar 1) (tLc (iList K (tVar 1)) (gName 3) tYes (tTup (StX.tStar K (tVar 3) (tCons (tVar 2) tNil))) [3])) (gName 1)))
  (tRet (tVar 1))))
theorem w_choices_of (T : Txt K mg aN)  (hr : Room 0 (A.deeper (envOfC "choices_of" (defScope s_choices_of) s.heap.objs.size f cdv))) :
    PSs (cxOf CX0 P w K mg base N_choices_of "choices_of" (defScope s_choices_of) f cdv A outer s H E).nox (defBody s_choices_of) (T_choices_of K aN) := by
  have nd := sc_choices_of.nd
  unfold T_choices_of
  exact (pss_cons (ps_set (i := 1) nd rfl (Or.inl rfl) (pe_lst (pa_cons (pe_tup pa_nil) pa_nil)))
  (pss_cons (ps_for PassesOwn.never rfl (pi_range1 rfl T.z_range (pa_cons (pv 0) pa_nil)) (pg_name (i := 2) nd rfl (Or.inr rfl))
  (pss_one (ps_set (i := 1) nd rfl (Or.inl rfl) (pe_op op_catS (pv 1) (pe_lc (own := [("each", 3)]) (g := (gName 3)) (tt := tYes) (te := (tTup (StX.tStar K (tVar 3) (tCons (tVar 2) tNil)))) rfl nd (pi_list (pv 1)) (blkOk_by (N := ["many", "found", "index", "each"]) (sc := defScope s_choices_of) (by decide +kernel)) (fun _ _ _ _ _ => (pg_name (i := 3) nd rfl (Or.inl rfl))) (fun _ _ _ _ _ => pts_nil) (fun _ _ _ _ _ => (pe_tup (StX.pa_star (pv 3) (pa_cons (pv 2) pa_nil)))))))))
  (pss_one (ps_ret (pv 1)))))
abbrev sp_all_runs (K : Fr) : Sp := spD K In_all_runs
def T_all_runs (K : Fr) (aN : Addr) : TS := (tSeq (tAsg (tLst (tCons (tTup tNil) tNil)) (gName 1))
  (tSeq (tFor (iRng1 (tCons (tVar 0) tNil)) (gName 2)
  (tAsg (tLc2 (iList K (tVar 1)) (gName 3) tYes (iTup K (tTup (tCons (tUn (rU fun i => .int (-i)) (tC (.int 1))) (tCons (tC (.int 1)) tNil)))) (gName 4) tYes (tTup (StX.tStar K (tVar 3) (tCons (tVar 4) tNil))) [3, 4] [4]) (gName 1)))
  (tRet (tVar 1))))
theorem w_all_runs (T : Txt K mg aN)  (hr : Room 0 (A.deeper (envOfC "all_runs" (defScope s_all_runs) s.heap.objs.size f cdv))) :
    PSs (cxOf CX0 P w K mg base N_all_runs "all_runs" (defScope s_all_runs) f cdv A outer s H E).nox (defBody s_all_runs) (T_all_runs K aN) := by
  have nd := sc_all_runs.nd
  unfold T_all_runs
  exact (pss_cons (ps_set (i := 1) nd rfl (Or.inl rfl) (pe_lst (pa_cons (pe_tup pa_nil) pa_nil)))
  (pss_cons (ps_for PassesOwn.never rfl (pi_range1 rfl T.z_range (pa_cons (pv 0) pa_nil)) (pg_name (i := 2) nd rfl (Or.inl rfl))
  (pss_one (ps_setLc2 (own := [("run", 3), ("each", 4)]) (vs1 := [4]) (g := (gName 3)) (tt := tYes) (wi1 := (iTup K (tTup (tCons (tUn (rU fun i => .int (-i)) (tC (.int 1))) (tCons (tC (.int 1)) tNil))))) (g1 := (gName 4)) (tt1 := tYes) (te := (tTup (StX.tStar K (tVar 3) (tCons (tVar 4) tNil)))) (i := 1) rfl nd rfl rfl (sw_true rfl rfl rfl (by decide +kernel)) (pi_list (pv 1)) (blkOk_by (N := ["factors", "found", "_", "run", "each"]) (sc := defScope s_all_runs) (by decide +kernel)) (by decide) (fun _ _ _ _ _ => (pg_name (i := 3) nd rfl (Or.inl rfl))) (fun _ _ _ _ _ => pts_nil) (fun _ _ _ _ _ => (pi_tup (pe_tup (pa_cons (pe_un un_neg pe_int) (pa_cons pe_int pa_nil))))) (fun _ _ _ _ _ => (pg_name (i := 4) nd rfl (Or.inl rfl))) (fun _ _ _ _ _ => pts_nil) (fun _ _ _ _ _ => (pe_tup (StX.pa_star (pv 3) (pa_cons (pv 4) pa_nil)))))))
  (pss_one (ps_ret (pv 1)))))
abbrev sp_does_agree (K : Fr) : Sp := spD K In_does_agree
def T_does_agree (K : Fr) (aN : Addr) : TS := (tRet (tCB (rAll K) (tCons (tLc (iTup K (tVar 1)) (gTup K 2 (gCons (gName 2) (gCons (gName 3) gNil))) tYes (tOp (rEqD K) (tCall (sp_sign_in K) [] L2.E0 (tCons (tVar 0) (tCons (tVar 2) tNil))) (tVar 3)) [2, 3]) tNil)))
theorem w_does_agree (T : Txt K mg aN) (F_sign_in : Ok P w K mg base 1 "sign_in" p_sign_in (sp_sign_in K)) (hr : Room 1 (A.deeper (envOfC "does_agree" (defScope s_does_agree) s.heap.objs.size f cdv))) :
    PSs (cxOf CX0 P w K mg base N_does_agree "does_agree" (defScope s_does_agree) f cdv A outer s H E).nox (defBody s_does_agree) (T_does_agree K aN) := by
  have nd := sc_does_agree.nd
  unfold T_does_agree
  exact (pss_one (ps_ret (pe_callB (cr_all rfl) rfl T.z_all (by decide +kernel) (pa_cons (pe_lc (own := [("effect", 2), ("sign", 3)]) (g := (gTup K 2 (gCons (gName 2) (gCons (gName 3) gNil)))) (tt := tYes) (te := (tOp (rEqD K) (tCall (sp_sign_in K) [] L2.E0 (tCons (tVar 0) (tCons (tVar 2) tNil))) (tVar 3))) rfl nd (pi_tup (pv 1)) (blkOk_by (N := ["run", "words", "effect", "sign"]) (sc := defScope s_does_agree) (by decide +kernel)) (fun _ _ _ _ _ => (pg_tup rfl (pgs_cons (pg_name (i := 2) nd rfl (Or.inl rfl)) (pgs_cons (pg_name (i := 3) nd rfl (Or.inl rfl)) pgs_nil)))) (fun _ _ _ _ _ => pts_nil) (fun _ _ _ _ _ => (pe_cmpR (op_eqD (hu64 hr)) (pe_ok F_sign_in (hr.mono (by decide)) rfl (pa_cons (pv 0) (pa_cons (pv 2) pa_nil))) (pv 3) (nomark _)))) pa_nil))))
abbrev sp_piece_by (K : Fr) : Sp := spD K In_piece_by
def T_piece_by (K : Fr) (aN : Addr) : TS := (tRet (tCB (rTupOf K) (tCons (tLc (iList K (tCall (sp_all_runs K) [] L2.E0 (tCons (tVar 0) tNil))) (gName 2) (tB (tCall (sp_does_agree K) [] L2.E0 (tCons (tVar 2) (tCons (tVar 1) tNil)))) (tVar 2) [2]) tNil)))
theorem w_piece_by (T : Txt K mg aN) (F_all_runs : Ok P w K mg base 1 "all_runs" p_all_runs (sp_all_runs K)) (F_does_agree : Ok P w K mg base 2 "does_agree" p_does_agree (sp_does_agree K)) (hr : Room 2 (A.deeper (envOfC "piece_by" (defScope s_piece_by) s.heap.objs.size f cdv))) :
    PSs (cxOf CX0 P w K mg base N_piece_by "piece_by" (defScope s_piece_by) f cdv A outer s H E).nox (defBody s_piece_by) (T_piece_by K aN) := by
  have nd := sc_piece_by.nd
  unfold T_piece_by
  exact (pss_one (ps_ret (pe_callTy call_tuple_of rfl T.z_tuple (by decide +kernel) (pa_cons (pe_lc (own := [("run", 2)]) (g := (gName 2)) (tt := (tB (tCall (sp_does_agree K) [] L2.E0 (tCons (tVar 2) (tCons (tVar 1) tNil))))) (te := (tVar 2)) rfl nd (pi_list (pe_ok F_all_runs (hr.mono (by decide)) rfl (pa_cons (pv 0) pa_nil))) (blkOk_by (N := ["factors", "words", "run"]) (sc := defScope s_piece_by) (by decide +kernel)) (fun _ _ _ _ _ => (pg_name (i := 2) nd rfl (Or.inl rfl))) (fun _ _ _ _ _ => (pts_one (pt_val (pe_ok F_does_agree (hr.mono (by decide)) rfl (pa_cons (pv 2) (pa_cons (pv 1) pa_nil)))))) (fun _ _ _ _ _ => (pv 2))) pa_nil))))
abbrev sp_all_effects (K : Fr) : Sp := spD K In_all_effects
def T_all_effects (K : Fr) (aN : Addr) : TS := (tRet (tCB (rSrtT K) (tCons (tCall (sp_choices_of K) [] L2.E0 (tCons (tVar 0) tNil)) tNil)))
theorem w_all_effects (T : Txt K mg aN) (F_choices_of : Ok P w K mg base 1 "choices_of" p_choices_of (sp_choices_of K)) (hr : Room 1 (A.deeper (envOfC "all_effects" (defScope s_all_effects) s.heap.objs.size f cdv))) :
    PSs (cxOf CX0 P w K mg base N_all_effects "all_effects" (defScope s_all_effects) f cdv A outer s H E).nox (defBody s_all_effects) (T_all_effects K aN) := by
  have nd := sc_all_effects.nd
  unfold T_all_effects
  exact (pss_one (ps_ret (pe_callB (cr_srtT (hu2 hr)) rfl T.z_sorted (by decide +kernel) (pa_cons (pe_ok F_choices_of (hr.mono (by decide)) rfl (pa_cons (pv 0) pa_nil)) pa_nil))))
abbrev sp_check_words (K : Fr) : Sp := spD K In_check_words
def T_check_words (K : Fr) (aN : Addr) : TS := (tSeq (tDrop (tCall (sp_check_many K) [] L2.E0 (tCons (tVar 0) (tCons (tC (.int 1)) (tCons (tC (.int 6)) tNil)))))
  (tFor (iList K (tCall (sp_wrong_in_words K) [] L2.E0 (tCons (tVar 0) (tCons (tVar 1) tNil)))) (gName 2)
  tNever))
theorem w_check_words (T : Txt K mg aN) (F_check_many : Ok P w K mg base 3 "check_many" p_check_many (sp_check_many K)) (F_wrong_in_words : Ok P w K mg base 6 "wrong_in_words" p_wrong_in_words (sp_wrong_in_words K)) (hr : Room 6 (A.deeper (envOfC "check_words" (defScope s_check_words) s.heap.objs.size f cdv))) :
    PSs (cxOf CX0 P w K mg base N_check_words "check_words" (defScope s_check_words) f cdv A outer s H E).nox (defBody s_check_words) (T_check_words K aN) := by
  have nd := sc_check_words.nd
  unfold T_check_words
  exact (pss_cons (ps_expr (pe_ok F_check_many (hr.mono (by decide)) rfl (pa_cons (pv 0) (pa_cons pe_int (pa_cons (pe_gI rfl T.c_MOST_FACTORS) pa_nil)))))
  (pss_one (ps_for PassesOwn.never rfl (pi_list (pe_ok F_wrong_in_words (hr.mono (by decide)) rfl (pa_cons (pv 0) (pa_cons (pv 1) pa_nil)))) (pg_name (i := 2) nd rfl (Or.inl rfl))
  (pss_one ps_never))))
abbrev sp_piece (K : Fr) : Sp := spD K In_piece
def T_piece (K : Fr) (aN : Addr) : TS := (tSeq (tDrop (tCall (sp_check_words K) [] L2.E0 (tCons (tVar 0) (tCons (tVar 1) tNil))))
  (tRet (tCall (sp_piece_by K) [] L2.E0 (tCons (tVar 0) (tCons (tVar 1) tNil)))))
theorem w_piece (T : Txt K mg aN) (F_check_words : Ok P w K mg base 7 "check_words" p_check_words (sp_check_words K)) (F_piece_by : Ok P w K mg base 3 "piece_by" p_piece_by (sp_piece_by K)) (hr : Room 7 (A.deeper (envOfC "piece" (defScope s_piece) s.heap.objs.size f cdv))) :
    PSs (cxOf CX0 P w K mg base N_piece "piece" (defScope s_piece) f cdv A outer s H E).nox (defBody s_piece) (T_piece K aN) := by
  have nd := sc_piece.nd
  unfold T_piece
  exact (pss_cons (ps_expr (pe_ok F_check_words (hr.mono (by decide)) rfl (pa_cons (pv 0) (pa_cons (pv 1) pa_nil))))
  (pss_one (ps_ret (pe_ok F_piece_by (hr.mono (by decide)) rfl (pa_cons (pv 0) (pa_cons (pv 1) pa_nil))))))
abbrev sp_wrong_in_runs (K : Fr) : Sp := spD K In_wrong_in_runs
def T_wrong_in_runs (K : Fr) (aN : Addr) : TS := (tSeq (tIfS (tOr (tNot (tB (tCB (rIsi K) (tCons (tVar 0) (tCons (tC (.ty "tuple")) tNil))))) (tNot (tTest (tChain (rI0 fun i j => .bl (decide (i ≤ j))) (rI0 fun i j => .bl (decide (i ≤ j))) (tC (.int 1)) (tCB (rLen K) (tCons (tVar 0) tNil)) (tC (.int 64)))))) (tRet (tLst (tCons (tC .non) tNil))) tNext)
  (tSeq (tFor (iEnT K (tCons (tVar 0) tNil)) (gTup K 2 (gCons (gName 1) (gCons (gName 2) gNil)))
  (tIfS (tOr (tNot (tB (tCall (sp_is_run_by K) [] L2.E0 (tCons (tVar 2) tNil)))) (tTest (tOp (rNeD K) (tCB (rLen K) (tCons (tVar 2) tNil)) (tCB (rLen K) (tCons (tOp (rIxT K) (tVar 0) (tC (.int 0))) tNil))))) (tRet (tLst (tCons (tVar 1) tNil))) tNext))
  (tRet (tLst tNil))))
theorem w_wrong_in_runs (T : Txt K mg aN) (F_is_run_by : Ok P w K mg base 3 "is_run_by" p_is_run_by (sp_is_run_by K)) (hr : Room 3 (A.deeper (envOfC "wrong_in_runs" (defScope s_wrong_in_runs) s.heap.objs.size f cdv))) :
    PSs (cxOf CX0 P w K mg base N_wrong_in_runs "wrong_in_runs" (defScope s_wrong_in_runs) f cdv A outer s H E).nox (defBody s_wrong_in_runs) (T_wrong_in_runs K aN) := by
  have nd := sc_wrong_in_runs.nd
  unfold T_wrong_in_runs
  exact (pss_cons (ps_if (PW.pt (pw_or (pt_not (pt_val (pe_callB call_isi rfl T.z_isinstance (by decide +kernel) (pa_cons (pv 0) (pa_cons (pe_bltn rfl T.z_tuple (by decide +kernel) rfl) pa_nil))))) (pw_or1 (pt_not (pt_chain op_le op_le pe_int (pe_callB call_len_seq rfl T.z_len (by decide +kernel) (pa_cons (pv 0) pa_nil)) (pe_gI rfl T.c_MOST_RUNS)))))) (pss_one (ps_ret (pe_lst (pa_cons pe_non pa_nil)))) pss_nil)
  (pss_cons (ps_for PassesOwn.never rfl (pi_enT rfl T.z_enumerate (pa_cons (pv 0) pa_nil)) (pg_tup rfl (pgs_cons (pg_name (i := 1) nd rfl (Or.inl rfl)) (pgs_cons (pg_name (i := 2) nd rfl (Or.inl rfl)) pgs_nil)))
  (pss_one (ps_if (PW.pt (pw_or (pt_not (pt_val (pe_ok F_is_run_by (hr.mono (by decide)) rfl (pa_cons (pv 2) pa_nil)))) (pw_or1 (pt_cmpR (op_neD (hu64 hr)) (pe_callB call_len_seq rfl T.z_len (by decide +kernel) (pa_cons (pv 2) pa_nil)) (pe_callB call_len_seq rfl T.z_len (by decide +kernel) (pa_cons (pe_ix ix_tup (pv 0) pe_int (fun _ _ => rfl)) pa_nil)) (nomark _))))) (pss_one (ps_ret (pe_lst (pa_cons (pv 1) pa_nil)))) pss_nil)))
  (pss_one (ps_ret (pe_lst pa_nil)))))
abbrev sp_effect_sum (K : Fr) : Sp := spD K In_effect_sum
def T_effect_sum (K : Fr) (aN : Addr) : TS := (tRet (tCB (rSum K) (tCons (tLc (iTup K (tVar 0)) (gName 2) tYes (tCall (sp_sign_in K) [] L2.E0 (tCons (tVar 2) (tCons (tVar 1) tNil))) [2]) tNil)))
theorem w_effect_sum (T : Txt K mg aN) (F_sign_in : Ok P w K mg base 1 "sign_in" p_sign_in (sp_sign_in K)) (hr : Room 1 (A.deeper (envOfC "effect_sum" (defScope s_effect_sum) s.heap.objs.size f cdv))) :
    PSs (cxOf CX0 P w K mg base N_effect_sum "effect_sum" (defScope s_effect_sum) f cdv A outer s H E).nox (defBody s_effect_sum) (T_effect_sum K aN) := by
  have nd := sc_effect_sum.nd
  unfold T_effect_sum
  exact (pss_one (ps_ret (pe_callB (cr_sum rfl) rfl T.z_sum (by decide +kernel) (pa_cons (pe_lc (own := [("run", 2)]) (g := (gName 2)) (tt := tYes) (te := (tCall (sp_sign_in K) [] L2.E0 (tCons (tVar 2) (tCons (tVar 1) tNil)))) rfl nd (pi_tup (pv 0)) (blkOk_by (N := ["runs", "effect", "run"]) (sc := defScope s_effect_sum) (by decide +kernel)) (fun _ _ _ _ _ => (pg_name (i := 2) nd rfl (Or.inl rfl))) (fun _ _ _ _ _ => pts_nil) (fun _ _ _ _ _ => (pe_ok F_sign_in (hr.mono (by decide)) rfl (pa_cons (pv 2) (pa_cons (pv 1) pa_nil))))) pa_nil))))
abbrev sp_product_run (K : Fr) : Sp := spD K In_product_run
def T_product_run (K : Fr) (aN : Addr) : TS := (tRet (tCB (rTupOf K) (tCons (tLc (iZ3 K (tCons (tVar 0) (tCons (tVar 1) (tCons (tVar 2) tNil)))) (gTup K 3 (gCons (gName 3) (gCons (gName 4) (gCons (gName 5) gNil)))) tYes (tOp (rI CMul fun i j => .int (i * j)) (tOp (rI CMul fun i j => .int (i * j)) (tVar 3) (tVar 4)) (tVar 5)) [3, 4, 5]) tNil)))
theorem w_product_run (T : Txt K mg aN)  (hr : Room 0 (A.deeper (envOfC "product_run" (defScope s_product_run) s.heap.objs.size f cdv))) :
    PSs (cxOf CX0 P w K mg base N_product_run "product_run" (defScope s_product_run) f cdv A outer s H E).nox (defBody s_product_run) (T_product_run K aN) := by
  have nd := sc_product_run.nd
  unfold T_product_run
  exact (pss_one (ps_ret (pe_callTy call_tuple_of rfl T.z_tuple (by decide +kernel) (pa_cons (pe_lc (own := [("here", 3), ("there", 4), ("beside", 5)]) (g := (gTup K 3 (gCons (gName 3) (gCons (gName 4) (gCons (gName 5) gNil))))) (tt := tYes) (te := (tOp (rI CMul fun i j => .int (i * j)) (tOp (rI CMul fun i j => .int (i * j)) (tVar 3) (tVar 4)) (tVar 5))) rfl nd (pi_z3 rfl T.z_zip (pa_cons (pv 0) (pa_cons (pv 1) (pa_cons (pv 2) pa_nil)))) (blkOk_by (N := ["one", "two", "three", "here", "there", "beside"]) (sc := defScope s_product_run) (by decide +kernel)) (fun _ _ _ _ _ => (pg_tup rfl (pgs_cons (pg_name (i := 3) nd rfl (Or.inl rfl)) (pgs_cons (pg_name (i := 4) nd rfl (Or.inl rfl)) (pgs_cons (pg_name (i := 5) nd rfl (Or.inl rfl)) pgs_nil))))) (fun _ _ _ _ _ => pts_nil) (fun _ _ _ _ _ => (pe_op op_mul (pe_op op_mul (pv 3) (pv 4)) (pv 5)))) pa_nil))))
abbrev sp_like_runs (K : Fr) : Sp := spP K In_like_runs
def T_like_runs (K : Fr) (aN : Addr) : TS := (tSeq (tFor (iEnT K (tCons (tVar 0) tNil)) (gTup K 2 (gCons (gName 1) (gCons (gName 2) gNil)))
  (tIfS (tTest (tOp (rInR K false) (tVar 2) (tSl (rSlA K) (tVar 0) tNoPart (tPart (tVar 1))))) (tRet (tLst (tCons (tTup (tCons (tBMP (rIdxT K) (tVar 0) (tCons (tVar 2) tNil)) (tCons (tVar 1) tNil))) tNil))) tNext))
  (tRet (tLst tNil)))
theorem w_like_runs (T : Txt K mg aN)  (hr : Room 0 (A.deeper (envOfC "like_runs" (defScope s_like_runs) s.heap.objs.size f cdv))) :
    PSs (cxOf CX0 P w K mg base N_like_runs "like_runs" (defScope s_like_runs) f cdv A outer s H E).nox (defBody s_like_runs) (T_like_runs K aN) := by
  have nd := sc_like_runs.nd
  unfold T_like_runs
  exact (pss_cons (ps_for PassesOwn.never rfl (pi_enT rfl T.z_enumerate (pa_cons (pv 0) pa_nil)) (pg_tup rfl (pgs_cons (pg_name (i := 1) nd rfl (Or.inl rfl)) (pgs_cons (pg_name (i := 2) nd rfl (Or.inl rfl)) pgs_nil)))
  (pss_one (ps_if (pt_cmpR (op_inR (hu65 hr)) (pv 2) (pe_slice sl_tupA (pv 0) po_none (po_some (pv 1))) (by rfl)) (pss_one (ps_ret (pe_lst (pa_cons (pe_tup (pa_cons (pe_bmT PySem.F.plainAttrs_tuple PySem.F.slot_tuple_index PySem.F.type_tuple_index (mt_idxT (hu65 hr)) (pv 0) (pa_cons (pv 2) pa_nil)) (pa_cons (pv 1) pa_nil))) pa_nil)))) pss_nil)))
  (pss_one (ps_ret (pe_lst pa_nil))))
-- not printed: missing_by
abbrev sp_missing_by (K : Fr) : Sp := spP K In_missing_by
-- not printed: fixed_words
abbrev sp_fixed_words (K : Fr) : Sp := spD K In_fixed_words
abbrev sp_is_piece_of (K : Fr) : Sp := spD K In_is_piece_of
def T_is_piece_of (K : Fr) (aN : Addr) : TS := (tRet (tOp (rEqD K) (tCB (rTupOf K) (tCons (tCB (rSrtT K) (tCons (tVar 0) tNil)) tNil)) (tCall (sp_piece_by K) [] L2.E0 (tCons (tCB (rLen K) (tCons (tOp (rIxT K) (tVar 0) (tC (.int 0))) tNil)) (tCons (tVar 1) tNil)))))
theorem w_is_piece_of (T : Txt K mg aN) (F_piece_by : Ok P w K mg base 3 "piece_by" p_piece_by (sp_piece_by K)) (hr : Room 3 (A.deeper (envOfC "is_piece_of" (defScope s_is_piece_of) s.heap.objs.size f cdv))) :
    PSs (cxOf CX0 P w K mg base N_is_piece_of "is_piece_of" (defScope s_is_piece_of) f cdv A outer s H E).nox (defBody s_is_piece_of) (T_is_piece_of K aN) := by
  have nd := sc_is_piece_of.nd
  unfold T_is_piece_of
  exact (pss_one (ps_ret (pe_cmpR (op_eqD (hu64 hr)) (pe_callTy call_tuple_of rfl T.z_tuple (by decide +kernel) (pa_cons (pe_callB (cr_srtT (hu2 hr)) rfl T.z_sorted (by decide +kernel) (pa_cons (pv 0) pa_nil)) pa_nil)) (pe_ok F_piece_by (hr.mono (by decide)) rfl (pa_cons (pe_callB call_len_seq rfl T.z_len (by decide +kernel) (pa_cons (pe_ix ix_tup (pv 0) pe_int (fun _ _ => rfl)) pa_nil)) (pa_cons (pv 1) pa_nil))) (nomark _))))
abbrev sp_words_by (K : Fr) : Sp := spD K In_words_by
def T_words_by (K : Fr) (aN : Addr) : TS := (tSeq (tAsg (tCall (sp_fixed_words K) [] L2.E0 (tCons (tVar 0) tNil)) (gName 1))
  (tRet (tIf (tB (tCall (sp_is_piece_of K) [] L2.E0 (tCons (tVar 0) (tCons (tVar 1) tNil)))) (tLst (tCons (tVar 1) tNil)) (tLst tNil))))
theorem w_words_by (T : Txt K mg aN) (F_fixed_words : Ok P w K mg base 3 "fixed_words" p_fixed_words (sp_fixed_words K)) (F_is_piece_of : Ok P w K mg base 4 "is_piece_of" p_is_piece_of (sp_is_piece_of K)) (hr : Room 4 (A.deeper (envOfC "words_by" (defScope s_words_by) s.heap.objs.size f cdv))) :
    PSs (cxOf CX0 P w K mg base N_words_by "words_by" (defScope s_words_by) f cdv A outer s H E).nox (defBody s_words_by) (T_words_by K aN) := by
  have nd := sc_words_by.nd
  unfold T_words_by
  exact (pss_cons (ps_set (i := 1) nd rfl (Or.inl rfl) (pe_ok F_fixed_words (hr.mono (by decide)) rfl (pa_cons (pv 0) pa_nil)))
  (pss_one (ps_ret (pe_ifExp (pt_val (pe_ok F_is_piece_of (hr.mono (by decide)) rfl (pa_cons (pv 0) (pa_cons (pv 1) pa_nil)))) (pe_lst (pa_cons (pv 1) pa_nil)) (pe_lst pa_nil)))))
abbrev sp_check_runs (K : Fr) : Sp := spD K In_check_runs
def T_check_runs (K : Fr) (aN : Addr) : TS := (tFor (iList K (tCall (sp_wrong_in_runs K) [] L2.E0 (tCons (tVar 0) tNil))) (gName 1)
  tNever)
theorem w_check_runs (T : Txt K mg aN) (F_wrong_in_runs : Ok P w K mg base 4 "wrong_in_runs" p_wrong_in_runs (sp_wrong_in_runs K)) (hr : Room 4 (A.deeper (envOfC "check_runs" (defScope s_check_runs) s.heap.objs.size f cdv))) :
    PSs (cxOf CX0 P w K mg base N_check_runs "check_runs" (defScope s_check_runs) f cdv A outer s H E).nox (defBody s_check_runs) (T_check_runs K aN) := by
  have nd := sc_check_runs.nd
  unfold T_check_runs
  exact (pss_one (ps_for PassesOwn.never rfl (pi_list (pe_ok F_wrong_in_runs (hr.mono (by decide)) rfl (pa_cons (pv 0) pa_nil))) (pg_name (i := 1) nd rfl (Or.inl rfl))
  (pss_one ps_never)))
abbrev sp_words_of (K : Fr) : Sp := spD K In_words_of
def T_words_of (K : Fr) (aN : Addr) : TS := (tSeq (tDrop (tCall (sp_check_runs K) [] L2.E0 (tCons (tVar 0) tNil)))
  (tSeq (tAsg (tCall (sp_words_by K) [] L2.E0 (tCons (tVar 0) tNil)) (gName 1))
  (tRet (tIf (tTest (tOp (rNeD K) (tVar 1) (tLst tNil))) (tOp (rIxL K) (tVar 1) (tC (.int 0))) (tC .non)))))
theorem w_words_of (T : Txt K mg aN) (F_check_runs : Ok P w K mg base 5 "check_runs" p_check_runs (sp_check_runs K)) (F_words_by : Ok P w K mg base 5 "words_by" p_words_by (sp_words_by K)) (hr : Room 5 (A.deeper (envOfC "words_of" (defScope s_words_of) s.heap.objs.size f cdv))) :
    PSs (cxOf CX0 P w K mg base N_words_of "words_of" (defScope s_words_of) f cdv A outer s H E).nox (defBody s_words_of) (T_words_of K aN) := by
  have nd := sc_words_of.nd
  unfold T_words_of
  exact (pss_cons (ps_expr (pe_ok F_check_runs (hr.mono (by decide)) rfl (pa_cons (pv 0) pa_nil)))
  (pss_cons (ps_set (i := 1) nd rfl (Or.inl rfl) (pe_ok F_words_by (hr.mono (by decide)) rfl (pa_cons (pv 0) pa_nil)))
  (pss_one (ps_ret (pe_ifExp (pt_cmpR (op_neD (hu64 hr)) (pv 1) (pe_lst pa_nil) (nomark _)) (pe_ix ix_list (pv 1) pe_int (fun _ _ => rfl)) pe_non)))))
abbrev sp_missing (K : Fr) : Sp := spP K In_missing
def T_missing (K : Fr) (aN : Addr) : TS := (tSeq (tDrop (tCall (sp_check_runs K) [] L2.E0 (tCons (tVar 0) tNil)))
  (tSeq (tAsg (tCall (sp_missing_by K) [] L2.E0 (tCons (tVar 0) tNil)) (gName 1))
  (tRet (tIf (tTest (tOp (rNeD K) (tVar 1) (tLst tNil))) (tOp (rIxL K) (tVar 1) (tC (.int 0))) (tC .non)))))
theorem w_missing (T : Txt K mg aN) (F_check_runs : Ok P w K mg base 5 "check_runs" p_check_runs (sp_check_runs K)) (F_missing_by : Ok P w K mg base 2 "missing_by" p_missing_by (sp_missing_by K)) (hr : Room 5 (A.deeper (envOfC "missing" (defScope s_missing) s.heap.objs.size f cdv))) :
    PSs (cxOf CX0 P w K mg base N_missing "missing" (defScope s_missing) f cdv A outer s H E).nox (defBody s_missing) (T_missing K aN) := by
  have nd := sc_missing.nd
  unfold T_missing
  exact (pss_cons (ps_expr (pe_ok F_check_runs (hr.mono (by decide)) rfl (pa_cons (pv 0) pa_nil)))
  (pss_cons (ps_set (i := 1) nd rfl (Or.inl rfl) (pe_ok F_missing_by (hr.mono (by decide)) rfl (pa_cons (pv 0) pa_nil)))
  (pss_one (ps_ret (pe_ifExp (pt_cmpR (op_neD (hu64 hr)) (pv 1) (pe_lst pa_nil) (nomark _)) (pe_ix ix_list (pv 1) pe_int (fun _ _ => rfl)) pe_non)))))
abbrev sp__law_is_whole (K : Fr) : Sp := spD K In__law_is_whole
def T__law_is_whole (K : Fr) (aN : Addr) : TS := (tRet (tAndV (tCB (rIsi K) (tCons (tVar 0) (tCons (tC (.ty "int")) tNil))) (tNotV (tCB (rIsi K) (tCons (tVar 0) (tCons (tC (.ty "bool")) tNil))))))
theorem w__law_is_whole (T : Txt K mg aN)  (hr : Room 0 (A.deeper (envOfC "_law_is_whole" (defScope s__law_is_whole) s.heap.objs.size f cdv))) :
    PSs (cxOf CX0 P w K mg base N__law_is_whole "_law_is_whole" (defScope s__law_is_whole) f cdv A outer s H E).nox (defBody s__law_is_whole) (T__law_is_whole K aN) := by
  have nd := sc__law_is_whole.nd
  unfold T__law_is_whole
  exact (pss_one (ps_ret (pe_and (pe_callB call_isi rfl T.z_isinstance (by decide +kernel) (pa_cons (pv 0) (pa_cons (pe_bltn rfl T.z_int (by decide +kernel) rfl) pa_nil))) (pe_one (pe_not (pe_callB call_isi rfl T.z_isinstance (by decide +kernel) (pa_cons (pv 0) (pa_cons (pe_bltn rfl T.z_bool (by decide +kernel) rfl) pa_nil))))))))
abbrev sp__law_is_within (K : Fr) : Sp := spD K In__law_is_within
def T__law_is_within (K : Fr) (aN : Addr) : TS := (tRet (tAndV (tCall (sp__law_is_whole K) [] L2.E0 (tCons (tVar 0) tNil)) (tChain (rI0 fun i j => .bl (decide (i ≤ j))) (rI0 fun i j => .bl (decide (i ≤ j))) (tVar 1) (tVar 0) (tVar 2))))
theorem w__law_is_within (T : Txt K mg aN) (F__law_is_whole : Ok P w K mg base 1 "_law_is_whole" p__law_is_whole (sp__law_is_whole K)) (hr : Room 1 (A.deeper (envOfC "_law_is_within" (defScope s__law_is_within) s.heap.objs.size f cdv))) :
    PSs (cxOf CX0 P w K mg base N__law_is_within "_law_is_within" (defScope s__law_is_within) f cdv A outer s H E).nox (defBody s__law_is_within) (T__law_is_within K aN) := by
  have nd := sc__law_is_within.nd
  unfold T__law_is_within
  exact (pss_one (ps_ret (pe_and (pe_ok F__law_is_whole (hr.mono (by decide)) rfl (pa_cons (pv 0) pa_nil)) (pe_one (pe_chain op_le op_le (pv 1) (pv 0) (pv 2))))))
abbrev sp__law_is_tuple (K : Fr) : Sp := spD K In__law_is_tuple
def T__law_is_tuple (K : Fr) (aN : Addr) : TS := (tRet (tAndV (tCB (rIsi K) (tCons (tVar 0) (tCons (tC (.ty "tuple")) tNil))) (tOp (rEqD K) (tCB (rLen K) (tCons (tVar 0) tNil)) (tVar 1))))
theorem w__law_is_tuple (T : Txt K mg aN)  (hr : Room 0 (A.deeper (envOfC "_law_is_tuple" (defScope s__law_is_tuple) s.heap.objs.size f cdv))) :
    PSs (cxOf CX0 P w K mg base N__law_is_tuple "_law_is_tuple" (defScope s__law_is_tuple) f cdv A outer s H E).nox (defBody s__law_is_tuple) (T__law_is_tuple K aN) := by
  have nd := sc__law_is_tuple.nd
  unfold T__law_is_tuple
  exact (pss_one (ps_ret (pe_and (pe_callB call_isi rfl T.z_isinstance (by decide +kernel) (pa_cons (pv 0) (pa_cons (pe_bltn rfl T.z_tuple (by decide +kernel) rfl) pa_nil))) (pe_one (pe_cmpR (op_eqD (hu64 hr)) (pe_callB call_len_seq rfl T.z_len (by decide +kernel) (pa_cons (pv 0) pa_nil)) (pv 1) (nomark _))))))
abbrev sp__law_effects (K : Fr) : Sp := spD K In__law_effects
def T__law_effects (K : Fr) (aN : Addr) : TS := (tSeq (tAsg (tLst tNil) (gName 1))
  (tSeq (tFor (iRng1 (tCons (tOp (rI CPow fun i j => .int (i * 2 ^ j.toNat)) (tC (.int 1)) (tVar 0)) tNil)) (gName 2)
  (tDrop (tBM K "list" rAppend (tVar 1) (tCons (tCB (rTupOf K) (tCons (tLc (iRng1 (tCons (tVar 0) tNil)) (gName 3) (tTest (tOp (rEqD K) (tOp (rI (fun _ j => 0 < j) fun i j => .int (i % j)) (tCB (rInt1) (tCons (tOp (rI (fun _ j => 0 ≤ j) fun i j => .int (i / 2 ^ j.toNat)) (tVar 2) (tVar 3)) tNil)) (tC (.int 2))) (tC (.int 1)))) (tVar 3) [3]) tNil)) tNil))))
  (tRet (tCB (rSrtT K) (tCons (tVar 1) tNil)))))
theorem w__law_effects (T : Txt K mg aN)  (hr : Room 0 (A.deeper (envOfC "_law_effects" (defScope s__law_effects) s.heap.objs.size f cdv))) :
    PSs (cxOf CX0 P w K mg base N__law_effects "_law_effects" (defScope s__law_effects) f cdv A outer s H E).nox (defBody s__law_effects) (T__law_effects K aN) := by
  have nd := sc__law_effects.nd
  unfold T__law_effects
  exact (pss_cons (ps_set (i := 1) nd rfl (Or.inl rfl) (pe_lst pa_nil))
  (pss_cons (ps_for PassesOwn.never rfl (pi_range1 rfl T.z_range (pa_cons (pe_op op_shl pe_int (pv 0)) pa_nil)) (pg_name (i := 2) nd rfl (Or.inr rfl))
  (pss_one (ps_expr (pe_bm PySem.F.plainAttrs_list PySem.F.slot_list_append PySem.F.type_list_append mt_append (pv 1) (pa_cons (pe_callTy call_tuple_of rfl T.z_tuple (by decide +kernel) (pa_cons (pe_lc (own := [("_law_at", 3)]) (g := (gName 3)) (tt := (tTest (tOp (rEqD K) (tOp (rI (fun _ j => 0 < j) fun i j => .int (i % j)) (tCB (rInt1) (tCons (tOp (rI (fun _ j => 0 ≤ j) fun i j => .int (i / 2 ^ j.toNat)) (tVar 2) (tVar 3)) tNil)) (tC (.int 2))) (tC (.int 1))))) (te := (tVar 3)) rfl nd (pi_range1 rfl T.z_range (pa_cons (pv 0) pa_nil)) (blkOk_by (N := ["_law_few", "_law_found", "_law_bits", "_law_at"]) (sc := defScope s__law_effects) (by decide +kernel)) (fun _ _ _ _ _ => (pg_name (i := 3) nd rfl (Or.inl rfl))) (fun _ _ _ _ _ => (pts_one (pt_cmpR (op_eqD (hu64 hr)) (pe_op op_mod (pe_callTy call_int1 rfl T.z_int (by decide +kernel) (pa_cons (pe_op op_shr (pv 2) (pv 3)) pa_nil)) pe_int) pe_int (nomark _)))) (fun _ _ _ _ _ => (pv 3))) pa_nil)) pa_nil)))))
  (pss_one (ps_ret (pe_callB (cr_srtT (hu2 hr)) rfl T.z_sorted (by decide +kernel) (pa_cons (pv 1) pa_nil))))))
abbrev sp__law_runs (K : Fr) : Sp := spD K In__law_runs
def T__law_runs (K : Fr) (aN : Addr) : TS := (tSeq (tAsg (tLst (tCons (tTup tNil) tNil)) (gName 1))
  (tSeq (tFor (iRng1 (tCons (tVar 0) tNil)) (gName 2)
  (tAsg (tOp (rCatS K) (tLc (iList K (tVar 1)) (gName 3) tYes (tOp (rCatA K) (tVar 3) (tTup (tCons (tUn (rU fun i => .int (-i)) (tC (.int 1))) tNil))) [3]) (tLc (iList K (tVar 1)) (gName 3) tYes (tOp (rCatA K) (tVar 3) (tTup (tCons (tC (.int 1)) tNil))) [3])) (gName 1)))
  (tRet (tCB (rSrtT K) (tCons (tVar 1) tNil)))))
theorem w__law_runs (T : Txt K mg aN)  (hr : Room 0 (A.deeper (envOfC "_law_runs" (defScope s__law_runs) s.heap.objs.size f cdv))) :
    PSs (cxOf CX0 P w K mg base N__law_runs "_law_runs" (defScope s__law_runs) f cdv A outer s H E).nox (defBody s__law_runs) (T__law_runs K aN) := by
  have nd := sc__law_runs.nd
  unfold T__law_runs
  exact (pss_cons (ps_set (i := 1) nd rfl (Or.inl rfl) (pe_lst (pa_cons (pe_tup pa_nil) pa_nil)))
  (pss_cons (ps_for PassesOwn.never rfl (pi_range1 rfl T.z_range (pa_cons (pv 0) pa_nil)) (pg_name (i := 2) nd rfl (Or.inl rfl))
  (pss_one (ps_set (i := 1) nd rfl (Or.inl rfl) (pe_op op_catS (pe_lc (own := [("_law_run_here", 3)]) (g := (gName 3)) (tt := tYes) (te := (tOp (rCatA K) (tVar 3) (tTup (tCons (tUn (rU fun i => .int (-i)) (tC (.int 1))) tNil)))) rfl nd (pi_list (pv 1)) (blkOk_by (N := ["_law_few", "_law_found", "_law_turn", "_law_run_here"]) (sc := defScope s__law_runs) (by decide +kernel)) (fun _ _ _ _ _ => (pg_name (i := 3) nd rfl (Or.inl rfl))) (fun _ _ _ _ _ => pts_nil) (fun _ _ _ _ _ => (pe_op op_catA (pv 3) (pe_tup (pa_cons (pe_un un_neg pe_int) pa_nil))))) (pe_lc (own := [("_law_run_here", 3)]) (g := (gName 3)) (tt := tYes) (te := (tOp (rCatA K) (tVar 3) (tTup (tCons (tC (.int 1)) tNil)))) rfl nd (pi_list (pv 1)) (blkOk_by (N := ["_law_few", "_law_found", "_law_turn", "_law_run_here"]) (sc := defScope s__law_runs) (by decide +kernel)) (fun _ _ _ _ _ => (pg_name (i := 3) nd rfl (Or.inl rfl))) (fun _ _ _ _ _ => pts_nil) (fun _ _ _ _ _ => (pe_op op_catA (pv 3) (pe_tup (pa_cons pe_int pa_nil)))))))))
  (pss_one (ps_ret (pe_callB (cr_srtT (hu2 hr)) rfl T.z_sorted (by decide +kernel) (pa_cons (pv 1) pa_nil))))))
abbrev sp__law_sign (K : Fr) : Sp := spD K In__law_sign
def T__law_sign (K : Fr) (aN : Addr) : TS := (tSeq (tAsg (tC (.int 1)) (gName 2))
  (tSeq (tFor (iTup K (tVar 1)) (gName 3)
  (tAsg (tOp (rI CMul fun i j => .int (i * j)) (tVar 2) (tOp (rIxT K) (tVar 0) (tVar 3))) (gName 2)))
  (tRet (tVar 2))))
theorem w__law_sign (T : Txt K mg aN)  (hr : Room 0 (A.deeper (envOfC "_law_sign" (defScope s__law_sign) s.heap.objs.size f cdv))) :
    PSs (cxOf CX0 P w K mg base N__law_sign "_law_sign" (defScope s__law_sign) f cdv A outer s H E).nox (defBody s__law_sign) (T__law_sign K aN) := by
  have nd := sc__law_sign.nd
  unfold T__law_sign
  exact (pss_cons (ps_set (i := 2) nd rfl (Or.inl rfl) pe_int)
  (pss_cons (ps_for PassesOwn.never rfl (pi_tup (pv 1)) (pg_name (i := 3) nd rfl (Or.inl rfl))
  (pss_one (ps_set (i := 2) nd rfl (Or.inl rfl) (pe_op op_mul (pv 2) (pe_ix ix_tup (pv 0) (pv 3) (fun _ _ => rfl))))))
  (pss_one (ps_ret (pv 2)))))
abbrev sp__law_parted (K : Fr) : Sp := spD K In__law_parted
def T__law_parted (K : Fr) (aN : Addr) : TS := (tRet (tCB (rTupOf K) (tCons (tLc (iRng1 (tCons (tC (.int 6)) tNil)) (gName 2) (tTest (tOp (rNeD K) (tOp (rIn K false) (tVar 2) (tVar 0)) (tOp (rIn K false) (tVar 2) (tVar 1)))) (tVar 2) [2]) tNil)))
theorem w__law_parted (T : Txt K mg aN)  (hr : Room 0 (A.deeper (envOfC "_law_parted" (defScope s__law_parted) s.heap.objs.size f cdv))) :
    PSs (cxOf CX0 P w K mg base N__law_parted "_law_parted" (defScope s__law_parted) f cdv A outer s H E).nox (defBody s__law_parted) (T__law_parted K aN) := by
  have nd := sc__law_parted.nd
  unfold T__law_parted
  exact (pss_one (ps_ret (pe_callTy call_tuple_of rfl T.z_tuple (by decide +kernel) (pa_cons (pe_lc (own := [("_law_at", 2)]) (g := (gName 2)) (tt := (tTest (tOp (rNeD K) (tOp (rIn K false) (tVar 2) (tVar 0)) (tOp (rIn K false) (tVar 2) (tVar 1))))) (te := (tVar 2)) rfl nd (pi_range1 rfl T.z_range (pa_cons pe_int pa_nil)) (blkOk_by (N := ["_law_one_here", "_law_two", "_law_at"]) (sc := defScope s__law_parted) (by decide +kernel)) (fun _ _ _ _ _ => (pg_name (i := 2) nd rfl (Or.inl rfl))) (fun _ _ _ _ _ => (pts_one (pt_cmpR (op_neD (hu64 hr)) (pe_cmpR op_in_seq (pv 2) (pv 0) (by rfl)) (pe_cmpR op_in_seq (pv 2) (pv 1) (by rfl)) (nomark _)))) (fun _ _ _ _ _ => (pv 2))) pa_nil))))
abbrev sp__law_fitting (K : Fr) : Sp := spD K In__law_fitting
def T__law_fitting (K : Fr) (aN : Addr) : TS := (tSeq (tAsg (tCall (sp__law_runs K) [] L2.E0 (tCons (tVar 0) tNil)) (gName 2))
  (tSeq (tFor (iTup K (tVar 1)) (gTup K 2 (gCons (gName 3) (gCons (gName 4) gNil)))
  (tAsg (tLc (iList K (tVar 2)) (gName 5) (tTest (tOp (rEqD K) (tCall (sp__law_sign K) [] L2.E0 (tCons (tVar 5) (tCons (tVar 3) tNil))) (tVar 4))) (tVar 5) [5]) (gName 2)))
  (tRet (tCB (rTupOf K) (tCons (tVar 2) tNil)))))
theorem w__law_fitting (T : Txt K mg aN) (F__law_runs : Ok P w K mg base 1 "_law_runs" p__law_runs (sp__law_runs K)) (F__law_sign : Ok P w K mg base 1 "_law_sign" p__law_sign (sp__law_sign K)) (hr : Room 1 (A.deeper (envOfC "_law_fitting" (defScope s__law_fitting) s.heap.objs.size f cdv))) :
    PSs (cxOf CX0 P w K mg base N__law_fitting "_law_fitting" (defScope s__law_fitting) f cdv A outer s H E).nox (defBody s__law_fitting) (T__law_fitting K aN) := by
  have nd := sc__law_fitting.nd
  unfold T__law_fitting
  exact (pss_cons (ps_set (i := 2) nd rfl (Or.inl rfl) (pe_ok F__law_runs (hr.mono (by decide)) rfl (pa_cons (pv 0) pa_nil)))
  (pss_cons (ps_for PassesOwn.never rfl (pi_tup (pv 1)) (pg_tup rfl (pgs_cons (pg_name (i := 3) nd rfl (Or.inr rfl)) (pgs_cons (pg_name (i := 4) nd rfl (Or.inr rfl)) pgs_nil)))
  (pss_one (ps_setLc (own := [("_law_run_here", 5)]) (g := (gName 5)) (tt := (tTest (tOp (rEqD K) (tCall (sp__law_sign K) [] L2.E0 (tCons (tVar 5) (tCons (tVar 3) tNil))) (tVar 4)))) (te := (tVar 5)) (i := 2) rfl nd rfl rfl (sw_true rfl rfl rfl (by decide +kernel)) (pi_list (pv 2)) (blkOk_by (N := ["_law_few", "_law_words_here", "_law_found", "_law_effect_here", "_law_sign_here", "_law_run_here"]) (sc := defScope s__law_fitting) (by decide +kernel)) (fun _ _ _ _ _ => (pg_name (i := 5) nd rfl (Or.inl rfl))) (fun _ _ _ _ _ => (pts_one (pt_cmpR (op_eqD (hu64 hr)) (pe_ok F__law_sign (hr.mono (by decide)) rfl (pa_cons (pv 5) (pa_cons (pv 3) pa_nil))) (pv 4) (nomark _)))) (fun _ _ _ _ _ => (pv 5)))))
  (pss_one (ps_ret (pe_callTy call_tuple_of rfl T.z_tuple (by decide +kernel) (pa_cons (pv 2) pa_nil))))))
abbrev sp__law_total (K : Fr) : Sp := spD K In__law_total
def T__law_total (K : Fr) (aN : Addr) : TS := (tRet (tCB (rSum K) (tCons (tLc (iTup K (tVar 0)) (gName 2) tYes (tCall (sp__law_sign K) [] L2.E0 (tCons (tVar 2) (tCons (tVar 1) tNil))) [2]) tNil)))
theorem w__law_total (T : Txt K mg aN) (F__law_sign : Ok P w K mg base 1 "_law_sign" p__law_sign (sp__law_sign K)) (hr : Room 1 (A.deeper (envOfC "_law_total" (defScope s__law_total) s.heap.objs.size f cdv))) :
    PSs (cxOf CX0 P w K mg base N__law_total "_law_total" (defScope s__law_total) f cdv A outer s H E).nox (defBody s__law_total) (T__law_total K aN) := by
  have nd := sc__law_total.nd
  unfold T__law_total
  exact (pss_one (ps_ret (pe_callB (cr_sum rfl) rfl T.z_sum (by decide +kernel) (pa_cons (pe_lc (own := [("_law_run_here", 2)]) (g := (gName 2)) (tt := tYes) (te := (tCall (sp__law_sign K) [] L2.E0 (tCons (tVar 2) (tCons (tVar 1) tNil)))) rfl nd (pi_tup (pv 0)) (blkOk_by (N := ["_law_runs_here", "_law_effect_here", "_law_run_here"]) (sc := defScope s__law_total) (by decide +kernel)) (fun _ _ _ _ _ => (pg_name (i := 2) nd rfl (Or.inl rfl))) (fun _ _ _ _ _ => pts_nil) (fun _ _ _ _ _ => (pe_ok F__law_sign (hr.mono (by decide)) rfl (pa_cons (pv 2) (pa_cons (pv 1) pa_nil))))) pa_nil))))
abbrev sp__law_is_closed (K : Fr) : Sp := spD K In__law_is_closed
def T__law_is_closed (K : Fr) (aN : Addr) : TS := (tSeq (tAsg (tCB (rLen K) (tCons (tOp (rIxT K) (tVar 0) (tC (.int 0))) tNil)) (gName 1))
  (tSeq (tIfS (tB (tCB (rAny K) (tCons (tLc (iRng1 (tCons (tCB (rLen K) (tCons (tVar 0) tNil)) tNil)) (gName 4) tYes (tOp (rInR K false) (tOp (rIxT K) (tVar 0) (tVar 4)) (tSl (rSlA K) (tVar 0) tNoPart (tPart (tVar 4)))) [4]) tNil))) (tRet (tC (.bl false))) tNext)
  (tSeq (tAsg (tLc (iList K (tCall (sp__law_effects K) [] L2.E0 (tCons (tVar 1) tNil))) (gName 3) (tTest (tOp (rEqD K) (tCB (rAbs) (tCons (tCall (sp__law_total K) [] L2.E0 (tCons (tVar 0) (tCons (tVar 3) tNil))) tNil)) (tCB (rLen K) (tCons (tVar 0) tNil)))) (tVar 3) [3]) (gName 2))
  (tRet (tOp (rEqD K) (tOp (rI CMul fun i j => .int (i * j)) (tCB (rLen K) (tCons (tVar 0) tNil)) (tCB (rLen K) (tCons (tVar 2) tNil))) (tOp (rI CPow fun i j => .int (i * 2 ^ j.toNat)) (tC (.int 1)) (tVar 1)))))))
theorem w__law_is_closed (T : Txt K mg aN) (F__law_effects : Ok P w K mg base 1 "_law_effects" p__law_effects (sp__law_effects K)) (F__law_total : Ok P w K mg base 2 "_law_total" p__law_total (sp__law_total K)) (hr : Room 2 (A.deeper (envOfC "_law_is_closed" (defScope s__law_is_closed) s.heap.objs.size f cdv))) :
    PSs (cxOf CX0 P w K mg base N__law_is_closed "_law_is_closed" (defScope s__law_is_closed) f cdv A outer s H E).nox (defBody s__law_is_closed) (T__law_is_closed K aN) := by
  have nd := sc__law_is_closed.nd
  unfold T__law_is_closed
  exact (pss_cons (ps_set (i := 1) nd rfl (Or.inl rfl) (pe_callB call_len_seq rfl T.z_len (by decide +kernel) (pa_cons (pe_ix ix_tup (pv 0) pe_int (fun _ _ => rfl)) pa_nil)))
  (pss_cons (ps_if (pt_val (pe_callB (cr_any rfl) rfl T.z_any (by decide +kernel) (pa_cons (pe_lc (own := [("_law_at", 4)]) (g := (gName 4)) (tt := tYes) (te := (tOp (rInR K false) (tOp (rIxT K) (tVar 0) (tVar 4)) (tSl (rSlA K) (tVar 0) tNoPart (tPart (tVar 4))))) rfl nd (pi_range1 rfl T.z_range (pa_cons (pe_callB call_len_seq rfl T.z_len (by decide +kernel) (pa_cons (pv 0) pa_nil)) pa_nil)) (blkOk_by (N := ["_law_runs_here", "_law_few", "_law_shared", "_law_effect_here", "_law_at"]) (sc := defScope s__law_is_closed) (by decide +kernel)) (fun _ _ _ _ _ => (pg_name (i := 4) nd rfl (Or.inl rfl))) (fun _ _ _ _ _ => pts_nil) (fun _ _ _ _ _ => (pe_cmpR (op_inR (hu65 hr)) (pe_ix ix_tup (pv 0) (pv 4) (fun _ _ => rfl)) (pe_slice sl_tupA (pv 0) po_none (po_some (pv 4))) (by rfl)))) pa_nil))) (pss_one (ps_ret pe_bl)) pss_nil)
  (pss_cons (ps_setLc (own := [("_law_effect_here", 3)]) (g := (gName 3)) (tt := (tTest (tOp (rEqD K) (tCB (rAbs) (tCons (tCall (sp__law_total K) [] L2.E0 (tCons (tVar 0) (tCons (tVar 3) tNil))) tNil)) (tCB (rLen K) (tCons (tVar 0) tNil))))) (te := (tVar 3)) (i := 2) rfl nd rfl rfl (sw_true rfl rfl rfl (by decide +kernel)) (pi_list (pe_ok F__law_effects (hr.mono (by decide)) rfl (pa_cons (pv 1) pa_nil))) (blkOk_by (N := ["_law_runs_here", "_law_few", "_law_shared", "_law_effect_here", "_law_at"]) (sc := defScope s__law_is_closed) (by decide +kernel)) (fun _ _ _ _ _ => (pg_name (i := 3) nd rfl (Or.inl rfl))) (fun _ _ _ _ _ => (pts_one (pt_cmpR (op_eqD (hu64 hr)) (pe_callB call_abs rfl T.z_abs (by decide +kernel) (pa_cons (pe_ok F__law_total (hr.mono (by decide)) rfl (pa_cons (pv 0) (pa_cons (pv 3) pa_nil))) pa_nil)) (pe_callB call_len_seq rfl T.z_len (by decide +kernel) (pa_cons (pv 0) pa_nil)) (nomark _)))) (fun _ _ _ _ _ => (pv 3)))
  (pss_one (ps_ret (pe_cmpR (op_eqD (hu64 hr)) (pe_op op_mul (pe_callB call_len_seq rfl T.z_len (by decide +kernel) (pa_cons (pv 0) pa_nil)) (pe_callB call_len_seq rfl T.z_len (by decide +kernel) (pa_cons (pv 2) pa_nil))) (pe_op op_shl pe_int (pv 1)) (nomark _)))))))
abbrev sp__law_effect_fault (K : Fr) : Sp := spD K In__law_effect_fault
def T__law_effect_fault (K : Fr) (aN : Addr) : TS := (tSeq (tIfS (tNot (tB (tCB (rIsi K) (tCons (tVar 0) (tCons (tC (.ty "tuple")) tNil))))) (tRet (tLst (tCons (tC .non) tNil))) tNext)
  (tSeq (tFor (iRng1 (tCons (tCB (rLen K) (tCons (tVar 0) tNil)) tNil)) (gName 2)
  (tIfS (tOr (tNot (tB (tCall (sp__law_is_within K) [] L2.E0 (tCons (tOp (rIxT K) (tVar 0) (tVar 2)) (tCons (tC (.int 0)) (tCons (tOp (rI0 fun i j => .int (i - j)) (tVar 1) (tC (.int 1))) tNil)))))) (tAnd (tTest (tOp (rI0 fun i j => .bl (decide (j < i))) (tVar 2) (tC (.int 0)))) (tTest (tOp (rI0 fun i j => .bl (decide (i ≤ j))) (tOp (rIxT K) (tVar 0) (tVar 2)) (tOp (rIxT K) (tVar 0) (tOp (rI0 fun i j => .int (i - j)) (tVar 2) (tC (.int 1)))))))) (tRet (tLst (tCons (tVar 2) tNil))) tNext))
  (tRet (tLst tNil))))
theorem w__law_effect_fault (T : Txt K mg aN) (F__law_is_within : Ok P w K mg base 2 "_law_is_within" p__law_is_within (sp__law_is_within K)) (hr : Room 2 (A.deeper (envOfC "_law_effect_fault" (defScope s__law_effect_fault) s.heap.objs.size f cdv))) :
    PSs (cxOf CX0 P w K mg base N__law_effect_fault "_law_effect_fault" (defScope s__law_effect_fault) f cdv A outer s H E).nox (defBody s__law_effect_fault) (T__law_effect_fault K aN) := by
  have nd := sc__law_effect_fault.nd
  unfold T__law_effect_fault
  exact (pss_cons (ps_if (pt_not (pt_val (pe_callB call_isi rfl T.z_isinstance (by decide +kernel) (pa_cons (pv 0) (pa_cons (pe_bltn rfl T.z_tuple (by decide +kernel) rfl) pa_nil))))) (pss_one (ps_ret (pe_lst (pa_cons pe_non pa_nil)))) pss_nil)
  (pss_cons (ps_for PassesOwn.never rfl (pi_range1 rfl T.z_range (pa_cons (pe_callB call_len_seq rfl T.z_len (by decide +kernel) (pa_cons (pv 0) pa_nil)) pa_nil)) (pg_name (i := 2) nd rfl (Or.inl rfl))
  (pss_one (ps_if (PW.pt (pw_or (pt_not (pt_val (pe_ok F__law_is_within (hr.mono (by decide)) rfl (pa_cons (pe_ix ix_tup (pv 0) (pv 2) (fun _ _ => rfl)) (pa_cons pe_int (pa_cons (pe_op op_sub (pv 1) pe_int) pa_nil)))))) (pw_or1 (PW.pt (pw_and (pt_cmpR op_gt (pv 2) pe_int (nomark _)) (pw_and1 (pt_cmpR op_le (pe_ix ix_tup (pv 0) (pv 2) (fun _ _ => rfl)) (pe_ix ix_tup (pv 0) (pe_op op_sub (pv 2) pe_int) (fun _ _ => rfl)) (nomark _)))))))) (pss_one (ps_ret (pe_lst (pa_cons (pv 2) pa_nil)))) pss_nil)))
  (pss_one (ps_ret (pe_lst pa_nil)))))
abbrev sp__law_is_word (K : Fr) : Sp := spD K In__law_is_word
def T__law_is_word (K : Fr) (aN : Addr) : TS := (tSeq (tIfS (tOr (tNot (tB (tCall (sp__law_is_tuple K) [] L2.E0 (tCons (tVar 0) (tCons (tC (.int 2)) tNil))))) (tOr (tTest (tOp (rNeD K) (tCall (sp__law_effect_fault K) [] L2.E0 (tCons (tOp (rIxT K) (tVar 0) (tC (.int 0))) (tCons (tVar 1) tNil))) (tLst tNil))) (tTest (tOp (rEqD K) (tOp (rIxT K) (tVar 0) (tC (.int 0))) (tTup tNil))))) (tRet (tC (.bl false))) tNext)
  (tRet (tAndV (tCall (sp__law_is_whole K) [] L2.E0 (tCons (tOp (rIxT K) (tVar 0) (tC (.int 1))) tNil)) (tOp (rIn K false) (tOp (rIxT K) (tVar 0) (tC (.int 1))) (tTup (tCons (tC (.int 1)) (tCons (tUn (rU fun i => .int (-i)) (tC (.int 1))) tNil)))))))
theorem w__law_is_word (T : Txt K mg aN) (F__law_effect_fault : Ok P w K mg base 3 "_law_effect_fault" p__law_effect_fault (sp__law_effect_fault K)) (F__law_is_tuple : Ok P w K mg base 1 "_law_is_tuple" p__law_is_tuple (sp__law_is_tuple K)) (F__law_is_whole : Ok P w K mg base 1 "_law_is_whole" p__law_is_whole (sp__law_is_whole K)) (hr : Room 3 (A.deeper (envOfC "_law_is_word" (defScope s__law_is_word) s.heap.objs.size f cdv))) :
    PSs (cxOf CX0 P w K mg base N__law_is_word "_law_is_word" (defScope s__law_is_word) f cdv A outer s H E).nox (defBody s__law_is_word) (T__law_is_word K aN) := by
  have nd := sc__law_is_word.nd
  unfold T__law_is_word
  exact (pss_cons (ps_if (PW.pt (pw_or (pt_not (pt_val (pe_ok F__law_is_tuple (hr.mono (by decide)) rfl (pa_cons (pv 0) (pa_cons pe_int pa_nil))))) (pw_or (pt_cmpR (op_neD (hu64 hr)) (pe_ok F__law_effect_fault (hr.mono (by decide)) rfl (pa_cons (pe_ix ix_tup (pv 0) pe_int (fun _ _ => rfl)) (pa_cons (pv 1) pa_nil))) (pe_lst pa_nil) (nomark _)) (pw_or1 (pt_cmpR (op_eqD (hu64 hr)) (pe_ix ix_tup (pv 0) pe_int (fun _ _ => rfl)) (pe_tup pa_nil) (nomark _)))))) (pss_one (ps_ret pe_bl)) pss_nil)
  (pss_one (ps_ret (pe_and (pe_ok F__law_is_whole (hr.mono (by decide)) rfl (pa_cons (pe_ix ix_tup (pv 0) pe_int (fun _ _ => rfl)) pa_nil)) (pe_one (pe_cmpR op_in_seq (pe_ix ix_tup (pv 0) pe_int (fun _ _ => rfl)) (pe_tup (pa_cons pe_int (pa_cons (pe_un un_neg pe_int) pa_nil))) (by rfl)))))))
abbrev sp__law_words_fault (K : Fr) : Sp := spD K In__law_words_fault
def T__law_words_fault (K : Fr) (aN : Addr) : TS := (tSeq (tIfS (tOr (tNot (tB (tCB (rIsi K) (tCons (tVar 0) (tCons (tC (.ty "tuple")) tNil))))) (tTest (tOp (rI0 fun i j => .bl (decide (j < i))) (tCB (rLen K) (tCons (tVar 0) tNil)) (tC (.int 6))))) (tRet (tLst (tCons (tC .non) tNil))) tNext)
  (tSeq (tAsg (tLc (iRng1 (tCons (tCB (rLen K) (tCons (tVar 0) tNil)) tNil)) (gName 3) (tNot (tB (tCall (sp__law_is_word K) [] L2.E0 (tCons (tOp (rIxT K) (tVar 0) (tVar 3)) (tCons (tVar 1) tNil))))) (tVar 3) [3]) (gName 2))
  (tRet (tSl (rSlL K) (tVar 2) tNoPart (tPart (tC (.int 1)))))))
theorem w__law_words_fault (T : Txt K mg aN) (F__law_is_word : Ok P w K mg base 4 "_law_is_word" p__law_is_word (sp__law_is_word K)) (hr : Room 4 (A.deeper (envOfC "_law_words_fault" (defScope s__law_words_fault) s.heap.objs.size f cdv))) :
    PSs (cxOf CX0 P w K mg base N__law_words_fault "_law_words_fault" (defScope s__law_words_fault) f cdv A outer s H E).nox (defBody s__law_words_fault) (T__law_words_fault K aN) := by
  have nd := sc__law_words_fault.nd
  unfold T__law_words_fault
  exact (pss_cons (ps_if (PW.pt (pw_or (pt_not (pt_val (pe_callB call_isi rfl T.z_isinstance (by decide +kernel) (pa_cons (pv 0) (pa_cons (pe_bltn rfl T.z_tuple (by decide +kernel) rfl) pa_nil))))) (pw_or1 (pt_cmpR op_gt (pe_callB call_len_seq rfl T.z_len (by decide +kernel) (pa_cons (pv 0) pa_nil)) pe_int (nomark _))))) (pss_one (ps_ret (pe_lst (pa_cons pe_non pa_nil)))) pss_nil)
  (pss_cons (ps_setLc (own := [("_law_at", 3)]) (g := (gName 3)) (tt := (tNot (tB (tCall (sp__law_is_word K) [] L2.E0 (tCons (tOp (rIxT K) (tVar 0) (tVar 3)) (tCons (tVar 1) tNil)))))) (te := (tVar 3)) (i := 2) rfl nd rfl rfl (sw_true rfl rfl rfl (by decide +kernel)) (pi_range1 rfl T.z_range (pa_cons (pe_callB call_len_seq rfl T.z_len (by decide +kernel) (pa_cons (pv 0) pa_nil)) pa_nil)) (blkOk_by (N := ["_law_thing", "_law_few", "_law_wrong", "_law_at"]) (sc := defScope s__law_words_fault) (by decide +kernel)) (fun _ _ _ _ _ => (pg_name (i := 3) nd rfl (Or.inl rfl))) (fun _ _ _ _ _ => (pts_one (pt_not (pt_val (pe_ok F__law_is_word (hr.mono (by decide)) rfl (pa_cons (pe_ix ix_tup (pv 0) (pv 3) (fun _ _ => rfl)) (pa_cons (pv 1) pa_nil))))))) (fun _ _ _ _ _ => (pv 3)))
  (pss_one (ps_ret (pe_slice sl_list (pv 2) po_none (po_some pe_int))))))
abbrev sp__law_is_lot (K : Fr) : Sp := spD K In__law_is_lot
def T__law_is_lot (K : Fr) (aN : Addr) : TS := (tRet (tOp (rEqD K) (tCall (sp__law_effect_fault K) [] L2.E0 (tCons (tVar 0) (tCons (tVar 1) tNil))) (tLst tNil)))
theorem w__law_is_lot (T : Txt K mg aN) (F__law_effect_fault : Ok P w K mg base 3 "_law_effect_fault" p__law_effect_fault (sp__law_effect_fault K)) (hr : Room 3 (A.deeper (envOfC "_law_is_lot" (defScope s__law_is_lot) s.heap.objs.size f cdv))) :
    PSs (cxOf CX0 P w K mg base N__law_is_lot "_law_is_lot" (defScope s__law_is_lot) f cdv A outer s H E).nox (defBody s__law_is_lot) (T__law_is_lot K aN) := by
  have nd := sc__law_is_lot.nd
  unfold T__law_is_lot
  exact (pss_one (ps_ret (pe_cmpR (op_eqD (hu64 hr)) (pe_ok F__law_effect_fault (hr.mono (by decide)) rfl (pa_cons (pv 0) (pa_cons (pv 1) pa_nil))) (pe_lst pa_nil) (nomark _))))
abbrev sp__law_is_missing (K : Fr) : Sp := spD K In__law_is_missing
def T__law_is_missing (K : Fr) (aN : Addr) : TS := (tSeq (tIfS (tOr (tNot (tB (tCall (sp__law_is_lot K) [] L2.E0 (tCons (tVar 1) (tCons (tCB (rLen K) (tCons (tVar 0) tNil)) tNil))))) (tTest (tOp (rIn K true) (tCB (rLen K) (tCons (tVar 1) tNil)) (tTup (tCons (tC (.int 2)) (tCons (tC (.int 3)) tNil)))))) (tRet (tC (.bl false))) tNext)
  (tSeq (tAsg (tOp (rMulT K) (tTup (tCons (tC (.int 1)) tNil)) (tCB (rLen K) (tCons (tOp (rIxT K) (tVar 0) (tC (.int 0))) tNil))) (gName 2))
  (tSeq (tFor (iTup K (tVar 1)) (gName 3)
  (tAsg (tCB (rTupOf K) (tCons (tLc (RZ.iZipA K (tCons (tVar 2) (tCons (tOp (rIxT K) (tVar 0) (tVar 3)) tNil))) (gTup K 2 (gCons (gName 4) (gCons (gName 5) gNil))) tYes (tOp (rI CMul fun i j => .int (i * j)) (tVar 4) (tVar 5)) [4, 5]) tNil)) (gName 2)))
  (tRet (tIf (tTest (tOp (rEqD K) (tCB (rLen K) (tCons (tVar 1) tNil)) (tC (.int 2)))) (tOp (rEqD K) (tOp (rIxT K) (tVar 0) (tOp (rIxT K) (tVar 1) (tC (.int 0)))) (tOp (rIxT K) (tVar 0) (tOp (rIxT K) (tVar 1) (tC (.int 1))))) (tOp (rInR K true) (tVar 2) (tVar 0)))))))
theorem w__law_is_missing (T : Txt K mg aN) (F__law_is_lot : Ok P w K mg base 4 "_law_is_lot" p__law_is_lot (sp__law_is_lot K)) (hr : Room 4 (A.deeper (envOfC "_law_is_missing" (defScope s__law_is_missing) s.heap.objs.size f cdv))) :
    PSs (cxOf CX0 P w K mg base N__law_is_missing "_law_is_missing" (defScope s__law_is_missing) f cdv A outer s H E).nox (defBody s__law_is_missing) (T__law_is_missing K aN) := by
  have nd := sc__law_is_missing.nd
  unfold T__law_is_missing
  exact (pss_cons (ps_if (PW.pt (pw_or (pt_not (pt_val (pe_ok F__law_is_lot (hr.mono (by decide)) rfl (pa_cons (pv 1) (pa_cons (pe_callB call_len_seq rfl T.z_len (by decide +kernel) (pa_cons (pv 0) pa_nil)) pa_nil))))) (pw_or1 (pt_cmpR op_notIn_seq (pe_callB call_len_seq rfl T.z_len (by decide +kernel) (pa_cons (pv 1) pa_nil)) (pe_tup (pa_cons pe_int (pa_cons pe_int pa_nil))) (by rfl))))) (pss_one (ps_ret pe_bl)) pss_nil)
  (pss_cons (ps_set (i := 2) nd rfl (Or.inl rfl) (pe_op op_mulT (pe_tup (pa_cons pe_int pa_nil)) (pe_callB call_len_seq rfl T.z_len (by decide +kernel) (pa_cons (pe_ix ix_tup (pv 0) pe_int (fun _ _ => rfl)) pa_nil))))
  (pss_cons (ps_for PassesOwn.never rfl (pi_tup (pv 1)) (pg_name (i := 3) nd rfl (Or.inl rfl))
  (pss_one (ps_set (i := 2) nd rfl (Or.inl rfl) (pe_callTy call_tuple_of rfl T.z_tuple (by decide +kernel) (pa_cons (pe_lc (own := [("_law_x", 4), ("_law_y", 5)]) (g := (gTup K 2 (gCons (gName 4) (gCons (gName 5) gNil)))) (tt := tYes) (te := (tOp (rI CMul fun i j => .int (i * j)) (tVar 4) (tVar 5))) rfl nd (RZ.pi_zipA rfl T.z_zip (pa_cons (pv 2) (pa_cons (pe_ix ix_tup (pv 0) (pv 3) (fun _ _ => rfl)) pa_nil))) (blkOk_by (N := ["_law_runs_here", "_law_told", "_law_found", "_law_at", "_law_x", "_law_y"]) (sc := defScope s__law_is_missing) (by decide +kernel)) (fun _ _ _ _ _ => (pg_tup rfl (pgs_cons (pg_name (i := 4) nd rfl (Or.inl rfl)) (pgs_cons (pg_name (i := 5) nd rfl (Or.inl rfl)) pgs_nil)))) (fun _ _ _ _ _ => pts_nil) (fun _ _ _ _ _ => (pe_op op_mul (pv 4) (pv 5)))) pa_nil)))))
  (pss_one (ps_ret (pe_ifExp (pt_cmpR (op_eqD (hu64 hr)) (pe_callB call_len_seq rfl T.z_len (by decide +kernel) (pa_cons (pv 1) pa_nil)) pe_int (nomark _)) (pe_cmpR (op_eqD (hu64 hr)) (pe_ix ix_tup (pv 0) (pe_ix ix_tup (pv 1) pe_int (fun _ _ => rfl)) (fun _ _ => rfl)) (pe_ix ix_tup (pv 0) (pe_ix ix_tup (pv 1) pe_int (fun _ _ => rfl)) (fun _ _ => rfl)) (nomark _)) (pe_cmpR (op_niR (hu65 hr)) (pv 2) (pv 0) (by rfl))))))))
end K31W
set_option Elab.async false
set_option linter.all false
set_option maxRecDepth 100000
set_option maxHeartbeats 4000000
/-! K31Sem1: the readings: the small defs. -/
namespace K31W
open PySem PySem.Spec PyProof.Rows L2 K31
variable {P : Program} {w : World} {K : Fr} {mg : Str → Option Value} {base : Heap} {aN : Addr}
theorem kB : kitB "tuple" "tuple" = some true ∧ kitB "int" "int" = some true ∧ kitB "int" "bool" = some false := by decide +kernel
theorem yl_isTup {σ : L2.St} {H : Hp} {t : TE} {ds : List PyData} (h : Yl K t σ H (.tuple ds)) : Yl K (tCB (rIsi K) (tCons t (tCons (tC (.ty "tuple")) tNil))) σ H (.bool true) := yl_isi h kB.1
theorem yl_isInt {σ : L2.St} {H : Hp} {t : TE} {i : Int} (h : Yl K t σ H (.int i)) : Yl K (tCB (rIsi K) (tCons t (tCons (tC (.ty "int")) tNil))) σ H (.bool true) := yl_isi h kB.2.1
theorem yl_isBool {σ : L2.St} {H : Hp} {t : TE} {i : Int} (h : Yl K t σ H (.int i)) : Yl K (tCB (rIsi K) (tCons t (tCons (tC (.ty "bool")) tNil))) σ H (.bool false) := yl_isi h kB.2.2
theorem shape_int (i : Int) : SeqAt.shaped (.int i) = true := shape_of (lay_firm _ (firm_int i)) (by rw [depth_int]; decide)
theorem eqv_bool (a b : Bool) : PyData.eqv (.bool a) (.bool b) = decide (a = b) := by
  simp only [PyData.eqv]
  cases a <;> cases b <;> rfl
theorem shape_bl (b : Bool) : SeqAt.shaped (.bool b) = true := by cases b <;> rfl
theorem ok_is_whole (T : Txt K mg aN) : Ok P w K mg base 1 "is_whole" p_is_whole (sp_is_whole K) :=
  Ok.mkD T.f_is_whole sc_is_whole (by intro ds d h; (repeat (obtain ⟨_, h⟩ := h)); subst_vars; rfl) fun f cdv A outer s H0 E hr => ⟨_, w_is_whole T hr, fun ds d σ Q hi c r => by
    obtain ⟨i, rfl, rfl⟩ := hi
    exact sc_ret (yl_and (b := true) (c := true) (yl_isInt (yl_v c rfl)) fun _ => yl_not (b := false) (yl_isBool (yl_v c rfl))) r (Same.refl _)⟩
theorem ok_is_between (T : Txt K mg aN) (F_is_whole : Ok P w K mg base 1 "is_whole" p_is_whole (sp_is_whole K)) : Ok P w K mg base 2 "is_between" p_is_between (sp_is_between K) :=
  Ok.mkD T.f_is_between sc_is_between (by intro ds d h; (repeat (obtain ⟨_, h⟩ := h)); subst_vars; rfl) fun f cdv A outer s H0 E hr => ⟨_, w_is_between T F_is_whole hr, fun ds d σ Q hi c r => by
    obtain ⟨i, lo, hi, rfl, rfl⟩ := hi
    exact sc_ret (yl_and (b := true) (yl_call (yla_one (yl_v c rfl)) ⟨i, rfl, rfl⟩) fun _ => yl_chainI (yl_v c rfl) (yl_v c rfl) (yl_v c rfl)) r (Same.refl _)⟩
theorem ok_is_tuple_of (T : Txt K mg aN) : Ok P w K mg base 1 "is_tuple_of" p_is_tuple_of (sp_is_tuple_of K) :=
  Ok.mkD T.f_is_tuple_of sc_is_tuple_of (by intro ds d h; (repeat (obtain ⟨_, h⟩ := h)); subst_vars; rfl) fun f cdv A outer s H0 E hr => ⟨_, w_is_tuple_of T hr, fun ds d σ Q hi c r => by
    obtain ⟨xs, m, rfl, rfl⟩ := hi
    exact sc_ret (yl_and (b := true) (yl_isTup (yl_v c rfl)) fun _ => yl_eq (yl_len (yl_v c rfl) ⟨.inl rfl, rfl⟩) (yl_v c rfl) (shape_int _) (shape_int _) (eqv_int _ _)) r (Same.refl _)⟩
theorem ok_check_many (T : Txt K mg aN) (F_is_between : Ok P w K mg base 2 "is_between" p_is_between (sp_is_between K)) : Ok P w K mg base 3 "check_many" p_check_many (sp_check_many K) :=
  Ok.mkD T.f_check_many sc_check_many (by intro ds d h; (repeat (obtain ⟨_, h⟩ := h)); subst_vars; rfl) fun f cdv A outer s H0 E hr => ⟨_, w_check_many T F_is_between hr, fun ds d σ Q hi c r => by
    obtain ⟨i, lo, hi, h1, h2, rfl, rfl⟩ := hi
    refine sc_if (b := !true) c (yt_not (yt_b (b := true) (yl_call (yla_cons (yl_v c rfl) (yla_cons (yl_v c rfl) (yla_one (yl_v c rfl)))) ⟨i, lo, hi, rfl, by simp [h1, h2]⟩))) (fun e => Bool.noConfusion e) fun _ H2 s2 c2 => r H2 .non s2 .non⟩
theorem yl_one1 {σ : L2.St} {H : Hp} : Yl K (tTup (tCons (tC (.int 1)) (tCons (tUn (rU fun i => .int (-i)) (tC (.int 1))) tNil))) σ H (tI [1, -1]) := yl_tup (yla_cons (yl_int 1) (yla_one (yl_neg (yl_int 1)))) (by decide)
theorem ok_is_sign (T : Txt K mg aN) (F_is_whole : Ok P w K mg base 1 "is_whole" p_is_whole (sp_is_whole K)) : Ok P w K mg base 2 "is_sign" p_is_sign (sp_is_sign K) :=
  Ok.mkD T.f_is_sign sc_is_sign (by intro ds d h; (repeat (obtain ⟨_, h⟩ := h)); subst_vars; rfl) fun f cdv A outer s H0 E hr => ⟨_, w_is_sign T F_is_whole hr, fun ds d σ Q hi c r => by
    obtain ⟨i, hi, rfl, rfl⟩ := hi
    refine sc_ret ((yl_and (b := true) (yl_call (yla_one (yl_v c rfl)) ⟨i, rfl, rfl⟩) fun _ => yl_inI (neg := false) (yl_v c rfl) yl_one1).eq ?_) r (Same.refl _)
    rcases hi with rfl | rfl <;> rfl⟩
theorem ok_is_run_by (T : Txt K mg aN) (F_is_sign : Ok P w K mg base 2 "is_sign" p_is_sign (sp_is_sign K)) : Ok P w K mg base 3 "is_run_by" p_is_run_by (sp_is_run_by K) :=
  Ok.mkD T.f_is_run_by sc_is_run_by (by intro ds d h; (repeat (obtain ⟨_, h⟩ := h)); subst_vars; rfl) fun f cdv A outer s H0 E hr => ⟨_, w_is_run_by T F_is_sign hr, fun ds d σ Q hi c r => by
    obtain ⟨n, x, h1, h6, hr, rfl, rfl⟩ := hi
    have hl : ((x.map PyData.int).length) = n := by rw [List.length_map, hr.len]
    refine sc_if (b := false) c ((yt_or (yt_not (yt_b (b := true) (yl_isTup (yl_v c rfl)))) fun _ => yt_not (yt_test (yl_chainI (yl_int 1) (yl_len (yl_v c rfl) ⟨.inl rfl, hl⟩) (yl_int 6)))).eq ?_) (fun e => Bool.noConfusion e) fun _ H2 s2 c2 => ?_
    · simp
      omega
    · refine sc_ret ((yl_all (bs := x.map fun _ => true) ((yc_map c2 x PyData.int (fun _ => .bool true) (yi_tup (yl_v c2 rfl)) (by rw [hr.len]; omega) gw1 (fun _ => by simp [firm]) fun a ha => ⟨_, rfl, fun σ3 H3 s3 c3 => ?_⟩).yl.eq ?_)).eq ?_) r s2
      · exact yl_call (yla_one (yl_v c3 rfl)) ⟨a, hr.pm a ha, rfl, rfl⟩
      · simp
      · simp⟩
theorem mapIdx_eq {α β : Type} (l : List α) (f : Nat → α → β) : l.mapIdx f = (l.zipIdx).map fun p => f p.2 p.1 := by
  rw [List.mapIdx_eq_zipIdx_map]
theorem enum_at {ds : List PyData} {i : Nat} {d : PyData} (h : (enumD ds)[i]? = some d) : ∃ x, ds[i]? = some x ∧ d = .tuple [.int (i : Nat), x] := by
  unfold enumD at h
  rw [List.getElem?_mapIdx] at h
  cases e : ds[i]? with
  | none => rw [e] at h; cases h
  | some x => rw [e] at h; exact ⟨x, rfl, (Option.some.inj h).symm⟩
theorem tI_at {e : List Int} {i : Nat} {x : PyData} (h : (e.map PyData.int)[i]? = some x) : ∃ z, e[i]? = some z ∧ x = .int z := by
  rw [List.getElem?_map] at h
  cases q : e[i]? with
  | none => rw [q] at h; cases h
  | some z => rw [q] at h; exact ⟨z, rfl, (Option.some.inj h).symm⟩
/-- the items behind one another -/
theorem asc_at {n : Nat} {e : List Int} (h : IsEff n e) {i : Nat} {y z : Int} (h1 : e[i]? = some y) (h2 : e[i + 1]? = some z) : y < z := by
  obtain ⟨l1, rfl⟩ := List.getElem?_eq_some_iff.mp h1
  obtain ⟨l2, rfl⟩ := List.getElem?_eq_some_iff.mp h2
  exact List.pairwise_iff_getElem.mp h.asc i (i + 1) l1 l2 (by omega)
theorem eff_len {n : Nat} {e : List Int} (h : IsEff n e) : e.length ≤ n := by
  have := sub_len (asc_nodup h.asc) fun x hx => h.mem_rng hx
  unfold rng at this
  simpa using this
theorem ok_wrong_in_effect (T : Txt K mg aN) (F_is_between : Ok P w K mg base 2 "is_between" p_is_between (sp_is_between K)) : Ok P w K mg base 3 "wrong_in_effect" p_wrong_in_effect (sp_wrong_in_effect K) :=
  Ok.mkD T.f_wrong_in_effect sc_wrong_in_effect (by intro ds d h; (repeat (obtain ⟨_, h⟩ := h)); subst_vars; rfl) fun f cdv A outer s H0 E hr => ⟨_, w_wrong_in_effect T F_is_between hr, fun ds d σ Q hi c r => by
    obtain ⟨n, e, hn, he, rfl, rfl⟩ := hi
    refine sc_if (b := false) c (yt_not (yt_b (b := true) (yl_isTup (yl_v c rfl)))) (fun e => Bool.noConfusion e) fun _ H2 s2 c2 => ?_
    refine sc_for c2 (yi_enum (yl_v c2 rfl)) gt2 (fun i cs => ∃ x y, cs = [some (.int n), some (tI e), x, y]) ⟨none, none, rfl⟩ (fun i d cs1 hd hc => ?_) fun σ3 H3 cs3 s3 c3 hc3 => ?_
    · obtain ⟨x, y, rfl⟩ := hc
      obtain ⟨z, hz, rfl⟩ := enum_at hd
      obtain ⟨k, hk, rfl⟩ := tI_at hz
      refine ⟨_, ⟨_, _, rfl, rfl⟩, fun σ3 H3 N s3 c3 hN => ?_⟩
      have hm : k ∈ e := List.mem_of_getElem? hk
      have h0 := he.lo k hm
      have h9 := he.hi k hm
      refine sc_if (b := false) c3 ((yt_or (yt_not (yt_b (b := true) (yl_call (yla_cons (yl_v c3 rfl) (yla_cons (yl_int 0) (yla_one (yl_ii (yl_v c3 rfl) (yl_int 1))))) ⟨k, 0, (n : Int) - 1, rfl, ?b⟩))) fun _ =>
        yt_and (b := decide (0 < (i : Int))) (yt_test (yl_ib (yl_v c3 rfl) (yl_int 0))) fun hi => yt_test (yl_ib (i := e.getD (i - 1) 0) (yl_ixT (i := (i : Int) - 1) (yl_v c3 rfl) (yl_ii (yl_v c3 rfl) (yl_int 1)) ?x0 ?x1) (yl_v c3 rfl))).eq ?e) (fun e => Bool.noConfusion e) fun _ H4 s4 c4 => hN _ _ _ s4 c4 ⟨_, _, rfl⟩
      case b =>
        have e1 : decide (0 ≤ k) = true := decide_eq_true h0
        have e2 : decide (k ≤ (n : Int) - 1) = true := decide_eq_true (by omega)
        rw [e1, e2]
        rfl
      case x0 =>
        have := of_decide_eq_true hi
        omega
      case x1 =>
        have hi := of_decide_eq_true hi
        have hl : i < e.length := (List.getElem?_eq_some_iff.mp hk).1
        have : ((i : Int) - 1).toNat = i - 1 := by omega
        rw [this, List.getElem?_map, List.getD_eq_getElem?_getD, List.getElem?_eq_getElem (by omega)]
        rfl
      case e =>
        cases i with
        | zero => rfl
        | succ i =>
          have hl : i + 1 < e.length := (List.getElem?_eq_some_iff.mp hk).1
          have h1 : e[i]? = some (e.getD i 0) := by rw [List.getD_eq_getElem?_getD, List.getElem?_eq_getElem (by omega)]; rfl
          have := asc_at he h1 hk
          have h2 : decide (k ≤ e.getD (i + 1 - 1) 0) = false := decide_eq_false (by rw [Nat.add_sub_cancel]; omega)
          rw [h2, Bool.and_false]
          rfl
    · obtain ⟨x, y, rfl⟩ := hc3
      exact sc_ret (σ := σ3) (yn_lst yla_nil (by decide)).yl r (s2.trans s3)⟩
theorem ok_is_effect_by (T : Txt K mg aN) (F_wrong_in_effect : Ok P w K mg base 3 "wrong_in_effect" p_wrong_in_effect (sp_wrong_in_effect K)) : Ok P w K mg base 4 "is_effect_by" p_is_effect_by (sp_is_effect_by K) :=
  Ok.mkD T.f_is_effect_by sc_is_effect_by (by intro ds d h; (repeat (obtain ⟨_, h⟩ := h)); subst_vars; rfl) fun f cdv A outer s H0 E hr => ⟨_, w_is_effect_by T F_wrong_in_effect hr, fun ds d σ Q hi c r => by
    obtain ⟨n, e, hn, he, rfl, rfl⟩ := hi
    exact sc_ret (yl_eq (yl_call (yla_cons (yl_v c rfl) (yla_one (yl_v c rfl))) ⟨n, e, hn, he, rfl, rfl⟩) (yn_lst yla_nil (by decide)).yl (shape_lR []) (shape_lR []) (by simp [PyData.eqv, PyData.eqvAll])) r (Same.refl _)⟩
theorem yl_nothing (T : Txt K mg aN) {σ : L2.St} {H : Hp} : Yl K (tC (.ref aN)) σ H (tI []) := yl_const fun H => tI_of (T.e_NOTHING H)
theorem ok_is_word_by (T : Txt K mg aN) (F_is_effect_by : Ok P w K mg base 4 "is_effect_by" p_is_effect_by (sp_is_effect_by K)) (F_is_sign : Ok P w K mg base 2 "is_sign" p_is_sign (sp_is_sign K)) (F_is_tuple_of : Ok P w K mg base 1 "is_tuple_of" p_is_tuple_of (sp_is_tuple_of K)) :
    Ok P w K mg base 5 "is_word_by" p_is_word_by (sp_is_word_by K) :=
  Ok.mkD T.f_is_word_by sc_is_word_by (by intro ds d h; (repeat (obtain ⟨_, h⟩ := h)); subst_vars; rfl) fun f cdv A outer s H0 E hr => ⟨_, w_is_word_by T F_is_effect_by F_is_sign F_is_tuple_of hr, fun ds d σ Q hi c r => by
    obtain ⟨n, ⟨e, g⟩, hn, ⟨he, hne, hg⟩, rfl, rfl⟩ := hi
    have ix0 : ∀ {σ : L2.St} {H : Hp}, Yl K (tVar 1) σ H (tW (e, g)) → Yl K (tOp (rIxT K) (tVar 1) (tC (.int 0))) σ H (tI e) := fun h => yl_ixT h (yl_int 0) (by decide) rfl
    have ix1 : ∀ {σ : L2.St} {H : Hp}, Yl K (tVar 1) σ H (tW (e, g)) → Yl K (tOp (rIxT K) (tVar 1) (tC (.int 1))) σ H (.int g) := fun h => yl_ixT h (yl_int 1) (by decide) rfl
    refine sc_if (b := false) c (yt_or (b := false) (yt_not (yt_b (b := true) (yl_call (yla_cons (yl_v c rfl) (yla_one (yl_int 2))) ⟨[tI e, .int g], 2, rfl, by simp⟩))) fun _ => yt_not (yt_b (b := true) (yl_call (yla_cons (yl_v c rfl) (yla_one (ix0 (yl_v c rfl)))) ⟨n, e, by omega, he, rfl, rfl⟩))) (fun e => Bool.noConfusion e) fun _ H2 s2 c2 => ?_
    refine sc_ret ((yl_and (b := true) ((yl_ne (b := false) (ix0 (yl_v c2 rfl)) (yl_nothing T) (shape_tI _) (shape_tI _) ?_).eq rfl) fun _ => (yl_call (yla_one (ix1 (yl_v c2 rfl))) ⟨g, hg, rfl, rfl⟩ : Yl K _ _ _ (.bool true)))) r s2
    rw [eqv_tI]
    exact decide_eq_false hne⟩
end K31W
set_option Elab.async false
set_option linter.all false
set_option maxRecDepth 100000
set_option maxHeartbeats 4000000
/-! K31Sem2: the readings: words, signs, runs. -/
namespace K31W
open PySem PySem.Spec PyProof.Rows L2 K31
variable {P : Program} {w : World} {K : Fr} {mg : Str → Option Value} {base : Heap} {aN : Addr}
theorem enumD_eq (ds : List PyData) : enumD ds = ds.zipIdx.map fun p => .tuple [.int (p.2 : Nat), p.1] := by
  unfold enumD
  rw [List.mapIdx_eq_zipIdx_map]
theorem enumD_map {α : Type} (l : List α) (f : α → PyData) : enumD (l.map f) = l.zipIdx.map fun p => .tuple [.int (p.2 : Nat), f p.1] := by
  rw [enumD_eq, List.zipIdx_map, List.map_map]
  rfl
theorem ok_wrong_in_words (T : Txt K mg aN) (F_is_word_by : Ok P w K mg base 5 "is_word_by" p_is_word_by (sp_is_word_by K)) : Ok P w K mg base 6 "wrong_in_words" p_wrong_in_words (sp_wrong_in_words K) :=
  Ok.mkD T.f_wrong_in_words sc_wrong_in_words (by intro ds d h; (repeat (obtain ⟨_, h⟩ := h)); subst_vars; rfl) fun f cdv A outer s H0 E hr => ⟨_, w_wrong_in_words T F_is_word_by hr, fun ds d σ Q hi c r => by
    obtain ⟨n, W, hn, hW, rfl, rfl⟩ := hi
    refine sc_if (b := false) c ((yt_or (yt_not (yt_b (b := true) (yl_isTup (yl_v c rfl)))) fun _ => yt_test (yl_ib (yl_len (n := W.length) (yl_v c rfl) ⟨.inl rfl, List.length_map ..⟩) (yl_int 6))).eq ?_) (fun e => Bool.noConfusion e) fun _ H2 s2 c2 => ?_
    · have h := hW.len
      have : decide ((6 : Int) < (W.length : Int)) = false := decide_eq_false (by omega)
      rw [this]
      rfl
    · have hi : YI K (iEnT K (tCons (tVar 1) tNil)) σ H2 (W.zipIdx.map fun p => .tuple [.int (p.2 : Nat), tW p.1]) := by
        rw [← enumD_map]
        exact yi_enum (yl_v c2 rfl)
      refine sc_ret ((yn_slL (yc_flt c2 W.zipIdx _ (fun p => .int (p.2 : Nat)) (fun _ => false) hi (by have := hW.len; simp; omega) (gw2 (by decide)) (fun a => firm_int _) fun a ha => ⟨_, ⟨_, _, rfl, rfl⟩, fun σ3 H3 s3 c3 => ⟨yt_not (yt_b (b := true) (yl_call (yla_cons (yl_v c3 rfl) (yla_one (yl_v c3 rfl))) ⟨n, a.1, hn, ?_, rfl, rfl⟩)), fun e => Bool.noConfusion e⟩⟩).yl yo_none (yo_some (K := K) (yl_int 1))).yl.eq ?_) r s2
      · have e0 : (W.zipIdx.filter fun _ => false) = [] := by simp
        rw [e0]
        rfl
      · have := List.mem_zipIdx' ha
        obtain ⟨_, e⟩ := this
        rw [e]
        exact hW.ok _ (List.getElem_mem _)⟩
theorem tI_get {r : List Int} {i : Int} {n : Nat} (hl : r.length = n) (h0 : 0 ≤ i) (h1 : i < (n : Int)) : (r.map PyData.int)[i.toNat]? = some (.int (r.getD i.toNat 0)) := by
  have h : i.toNat < r.length := by omega
  rw [List.getElem?_map, List.getD_eq_getElem?_getD, List.getElem?_eq_getElem h]
  rfl
theorem pm_mul1 {a b : Int} (h : a = 1 ∨ a = -1) : CMul a b := .inl (by rcases h with rfl | rfl <;> decide)
theorem eff_take {n : Nat} {e : List Int} (h : IsEff n e) (i : Nat) : IsEff n (e.take i) := ⟨h.asc.sublist (List.take_sublist _ _), fun x hx => h.lo x (List.mem_of_mem_take hx), fun x hx => h.hi x (List.mem_of_mem_take hx)⟩
theorem sgn_step {r e : List Int} {i : Nat} {k : Int} (h : e[i]? = some k) : sgn r (e.take (i + 1)) = sgn r (e.take i) * r.getD k.toNat 0 := by
  rw [List.take_add_one, h]
  unfold sgn
  rw [List.foldl_append]
  rfl
theorem sgn_body (T : Txt K mg aN) {n : Nat} {x e : List Int} (h6 : n ≤ 6) (hx : IsRun n x) (he : IsEff n e) {σ : L2.St} {H0 : Hp} {Q : VK} (c : Ctx K σ H0 ([tI x, tI e].map some ++ List.replicate 2 none)) (r : Ret K H0 (.int (sgn x e)) Q) :
    T_sign_in K aN { nx := fun _ H' => Q .non H', rt := Q } σ H0 := by
  refine sc_set c (yl_int 1) fun σ2 H2 s2 c2 => ?_
  refine sc_for c2 (yi_tup (yl_v c2 rfl)) gt1 (fun i cs => ∃ y, cs = [some (tI x), some (tI e), some (.int (sgn x (e.take i))), y]) ⟨none, rfl⟩ (fun i d cs1 hd hc => ?_) fun σ3 H3 cs3 s3 c3 hc3 => ?_
  · obtain ⟨y, rfl⟩ := hc
    obtain ⟨k, hk, rfl⟩ := tI_at hd
    refine ⟨_, rfl, fun σ3 H3 N s3 c3 hN => ?_⟩
    have hm : k ∈ e := List.mem_of_getElem? hk
    refine sc_set c3 (yl_ic (yl_v c3 rfl) (yl_ixT (yl_v c3 rfl) (yl_v c3 rfl) (he.lo k hm) (tI_get hx.len (he.lo k hm) (he.hi k hm))) (pm_mul1 (sgn_pm hx (eff_take he i)))) fun σ4 H4 s4 c4 => hN _ _ _ s4 c4 ⟨some (.int k), ?_⟩
    rw [sgn_step hk]
    rfl
  · obtain ⟨y, rfl⟩ := hc3
    refine sc_ret ((yl_v c3 rfl).eq ?_) r (s2.trans s3)
    rw [List.length_map, List.take_length]
theorem ok_sign_in (T : Txt K mg aN) : Ok P w K mg base 1 "sign_in" p_sign_in (sp_sign_in K) :=
  Ok.mkD T.f_sign_in sc_sign_in (by intro ds d h; (repeat (obtain ⟨_, h⟩ := h)); subst_vars; rfl) fun f cdv A outer s H0 E hr => ⟨_, w_sign_in T hr, fun ds d σ Q hi c r => by
    obtain ⟨n, x, e, h6, hx, he, rfl, rfl⟩ := hi
    exact sgn_body T h6 hx he c r⟩
theorem ok__law_sign (T : Txt K mg aN) : Ok P w K mg base 1 "_law_sign" p__law_sign (sp__law_sign K) :=
  Ok.mkD T.f__law_sign sc__law_sign (by intro ds d h; (repeat (obtain ⟨_, h⟩ := h)); subst_vars; rfl) fun f cdv A outer s H0 E hr => ⟨_, w__law_sign T hr, fun ds d σ Q hi c r => by
    obtain ⟨n, x, e, h6, hx, he, rfl, rfl⟩ := hi
    exact sgn_body T h6 hx he c r⟩
theorem ok_odd_by (T : Txt K mg aN) : Ok P w K mg base 1 "odd_by" p_odd_by (sp_odd_by K) :=
  Ok.mkD T.f_odd_by sc_odd_by (by intro ds d h; (repeat (obtain ⟨_, h⟩ := h)); subst_vars; rfl) fun f cdv A outer s H0 E hr => ⟨_, w_odd_by T hr, fun ds d σ Q hi c r => by
    obtain ⟨n, e, g, h6, he, hg, rfl, rfl⟩ := hi
    have l1 := eff_len he
    have l2 := eff_len hg
    have hi : YI K (iTup K (tOp (rCatA K) (tVar 0) (tVar 1))) σ H0 ((e ++ g).map PyData.int) := by
      have := yi_tup (yl_catT (yl_v (i := 0) (d := tI e) c rfl) (yl_v (i := 1) (d := tI g) c rfl) (by rw [List.length_map, List.length_map]; exact small (by omega)))
      rwa [← List.map_append] at this
    refine sc_ret (yl_tupOf (yn_sortI (ns := oddRaw e g) (yc_flt c (e ++ g) .int .int (fun i => decide (i ∈ e) != decide (i ∈ g)) hi (by rw [List.length_append]; omega) gw1 firm_int fun a ha => ⟨_, rfl, fun σ3 H3 s3 c3 =>
      ⟨(yt_test (yl_ne (yl_inI (neg := false) (yl_v c3 rfl) (yl_v c3 rfl)) (yl_inI (neg := false) (yl_v c3 rfl) (yl_v c3 rfl)) (shape_bl _) (shape_bl _) (eqv_bool _ _))).eq ?_, fun _ => yl_v c3 rfl⟩⟩).yl ?_).yl) r (Same.refl _)
    · cases decide (a ∈ e) <;> cases decide (a ∈ g) <;> rfl
    · have : (oddRaw e g).length ≤ (e ++ g).length := List.length_filter_le _ _
      rw [List.length_append] at this
      omega⟩
theorem choices_len (n : Nat) : (choices n).length = 2 ^ n := by
  induction n with
  | zero => rfl
  | succ k ih =>
    show (choices k ++ (choices k).map _).length = _
    rw [List.length_append, List.length_map, ih, Nat.pow_succ]
    omega
theorem choices_item {n : Nat} {e : List Int} (h : e ∈ choices n) : e.length ≤ n := eff_len (mem_choices.mp h)
theorem pow64 {n : Nat} (h : n ≤ 6) : 2 ^ n ≤ 64 := Nat.pow_le_pow_right (by decide) h
theorem rng_at {n i : Nat} {d : PyData} (h : ((rng n).map PyData.int)[i]? = some d) : i < n ∧ d = .int (i : Nat) := by
  unfold rng at h
  rw [List.map_map, List.getElem?_map] at h
  by_cases hi : i < n
  · rw [List.getElem?_range hi] at h
    exact ⟨hi, (Option.some.inj h).symm⟩
  · rw [List.getElem?_eq_none (by rw [List.length_range]; omega)] at h
    cases h
theorem rng_len (n : Nat) : ((rng n).map PyData.int).length = n := by unfold rng; simp
theorem yl_nilT {σ : L2.St} {H : Hp} : Yl K (tTup tNil) σ H (tI []) := yl_tup yla_nil (by decide)
theorem ok_choices_of (T : Txt K mg aN) : Ok P w K mg base 1 "choices_of" p_choices_of (sp_choices_of K) :=
  Ok.mkD T.f_choices_of sc_choices_of (by intro ds d h; (repeat (obtain ⟨_, h⟩ := h)); subst_vars; rfl) fun f cdv A outer s H0 E hr => ⟨_, w_choices_of T hr, fun ds d σ Q hi c r => by
    obtain ⟨n, h6, rfl, rfl⟩ := hi
    refine sc_set (d := .list (tR (choices 0))) c (yn_lst (yla_one yl_nilT) (by decide)).yl fun σ2 H2 s2 c2 => ?_
    refine sc_for c2 (yi_range (yl_v c2 rfl) (by omega)) gt1 (fun i cs => ∃ y, cs = [some (.int n), some (.list (tR (choices i))), y, none]) ⟨none, rfl⟩ (fun i d cs1 hd hc => ?_) fun σ3 H3 cs3 s3 c3 hc3 => ?_
    · obtain ⟨y, rfl⟩ := hc
      obtain ⟨hi, rfl⟩ := rng_at hd
      refine ⟨_, rfl, fun σ3 H3 N s3 c3 hN => ?_⟩
      have hl := choices_len i
      have hp := pow64 (n := i) (by omega)
      refine sc_set c3 (yn_catL (yl_v (d := .list (tR (choices i))) c3 rfl) (yc_map c3 (choices i) tI (fun e => tI (e ++ [(i : Int)])) (yi_list (yl_v c3 rfl)) (by omega) gw1 (fun _ => firm_tI _) fun a ha => ⟨_, rfl, fun σ4 H4 s4 c4 => ?_⟩).yl ?_).yl fun σ4 H4 s4 c4 => hN _ _ _ s4 c4 ⟨some (.int i), ?_⟩
      · have := choices_item ha
        refine (yl_tup (yla_star (yl_v (d := tI a) c4 rfl) (.inl rfl) (yla_one (yl_v (d := .int i) c4 rfl))) ?_).eq ?_
        · rw [List.length_append, List.length_map]
          exact small (by simp; omega)
        · unfold tI
          rw [List.map_append]
          rfl
      · unfold tR
        rw [List.length_map, List.length_map]
        exact small (by omega)
      · have e : choices (i + 1) = choices i ++ (choices i).map fun e => e ++ [(i : Int)] := rfl
        rw [e]
        unfold tR
        rw [List.map_append, List.map_map]
        rfl
    · obtain ⟨y, rfl⟩ := hc3
      refine sc_ret ((yl_v c3 rfl).eq ?_) r (s2.trans s3)
      rw [rng_len]⟩
end K31W
set_option Elab.async false
set_option linter.all false
set_option maxRecDepth 100000
set_option maxHeartbeats 4000000
/-! K31Two: [.. for a in l for b in (ints)]. -/
namespace K31W
open PySem PySem.Spec PyProof.Rows L2 K31
variable {P : Program} {w : World} {K : Fr} {mg : Str → Option Value} {base : Heap} {aN : Addr}
theorem it_run {J : It} {n : Nat} {G : Hp → Prop} {Y : Nat → Hp → V → Hp → Prop} (w : Walk J n G Y) {H0 : Hp} {Qd : Hp → Prop} {Body : (Hp → Prop) → V → Hp → Prop} (Pv : Nat → Hp → Prop) (h0 : Pv 0 H0) (hG : ∀ i H, i ≤ n → Pv i H → G H)
    (hs : ∀ i x H H', i < n → Pv i H → Y i H x H' → Body (Pv (i + 1)) x H') (hd : ∀ H, Pv n H → Qd H) :
    ∃ W : Nat → Nat → Hp → Prop, (∃ m, W 0 m H0) ∧ ∀ i m H, W i m H → (J.stop i H ∧ Qd H) ∨ (J.go i H ∧ ∃ Nx : Hp → Prop, (∀ H', Nx H' → ∃ m', m' < m ∧ W (i + 1) m' H') ∧ ∀ x H', J.yld i H x H' → Body Nx x H') := by
  refine ⟨fun i m H => m = n - i ∧ i ≤ n ∧ Pv i H, ⟨n, by simp, Nat.zero_le _, h0⟩, ?_⟩
  rintro i m H ⟨rfl, hi, p⟩
  have q := hG i H hi p
  by_cases hlt : i < n
  · exact .inr ⟨w.goes i H hlt q, Pv (i + 1), fun H' p' => ⟨n - (i + 1), by omega, rfl, hlt, p'⟩, fun x H' y => hs i x H H' hlt p (w.yields i H x H' hlt q y)⟩
  · have e : i = n := by omega
    subst e
    exact .inl ⟨w.stops H q, hd H p⟩
variable {σ : L2.St} {H : Hp} {cs : List (Option PyData)}
theorem dps_snoc_but {p : Addr} {H H' : Hp} {acc : List V} {ds : List PyData} {y : V} {d : PyData} (bu : But p H H') (h : DpAll K H acc ds) (hd : firms ds = true) (hy : Dp K H y d) (hf : firm d = true) : DpAll K H' (acc ++ [y]) (ds ++ [d]) :=
  dps_app (dps_but bu _ _ hd h) (dps_one (dp_but bu _ _ hf hy))
theorem But.same_r {p : Addr} {H H1 H2 : Hp} (b : But p H H1) (s : Same H1 H2) : But p H H2 := ⟨b.1, fun a o e n => s _ _ (b.2 a o e n)⟩
theorem But.trans {p : Addr} {H H1 H2 : Hp} (b : But p H H1) (c : But p H1 H2) : But p H H2 := ⟨b.1, fun a o e n => c.2 _ _ (b.2 a o e n) n⟩
theorem yc_two {α : Type} {wi : TI} {te1 te : TE} {i j : Nat} (hij : i ≠ j) (hl1 : i < σ.length) (hl2 : j < σ.length) (l : List α) (enc : α → PyData) (ns : List Int) (out : α → Int → PyData) (hi : YI K wi σ H (l.map enc)) (hz : l.length * ns.length ≤ 100000)
    (hf : ∀ a b, firm (out a b) = true) (h1 : ∀ σ2 H2, Yl K te1 σ2 H2 (tI ns)) (hfe : ∀ a, firm (enc a) = true)
    (turn : ∀ a ∈ l, ∀ b ∈ ns, ∀ σ2 H1 x, σ2[i]? = some (some x) → Dp K H1 x (enc a) → σ2[j]? = some (some (.int b)) → Yl K te σ2 H1 (out a b)) :
    YlN K (tLc2 wi (gName i) tYes (iTup K te1) (gName j) tYes te [i, j] [j]) σ H (l.flatMap fun a => ns.map (out a)) := by
  intro H1 s Q q
  refine hi H1 s _ fun J G H2 s2 g2 gs w => fun P hP => ?_
  have w2 : Walk J l.length (fun H3 => Same H2 H3) (YD K (l.map enc)) := by
    have w' := w
    rw [List.length_map] at w'
    exact w'.mono (fun H3 s => gs _ _ g2 s) fun i H3 x H4 _ _ y => y
  have fl : ∀ m : List α, firms (m.flatMap fun a => ns.map (out a)) = true := fun m => firms_all fun d hd => by
    obtain ⟨a, _, h⟩ := List.mem_flatMap.mp hd
    obtain ⟨b, _, rfl⟩ := List.mem_map.mp h
    exact hf a b
  have fm : ∀ (a : α) (m : List Int), firms (m.map (out a)) = true := fun a m => firms_all fun d hd => by
    obtain ⟨b, _, rfl⟩ := List.mem_map.mp hd
    exact hf a b
  have ln : ∀ k, ((l.take k).flatMap fun a => ns.map (out a)).length = (l.take k).length * ns.length := fun k => by
    rw [List.length_flatMap]
    simp [List.map_const', List.sum_replicate_nat]
  refine it_run w2 (Qd := Q (.ref P)) (fun k H3 => Same H2 H3 ∧ ∃ acc, H3 P = some (.lst acc) ∧ DpAll K H3 acc ((l.take k).flatMap fun a => ns.map (out a))) ⟨same_new hP, [], upd_same, .nil⟩ (fun i H3 _ p => p.1) (fun k x H3 H4 hlt p y => ?_) fun H3 p => ?_
  · obtain ⟨s3, acc, ea, ha⟩ := p
    obtain ⟨s4, d, ed, hx⟩ := y
    rw [List.getElem?_map, List.getElem?_eq_getElem hlt] at ed
    cases ed
    have tk : l.take (k + 1) = l.take k ++ [l[k]] := by rw [List.take_add_one, List.getElem?_eq_getElem hlt]; rfl
    have hm : l[k] ∈ l := List.getElem_mem hlt
    let σ2 : L2.St := ((σ.set j none).set i none).set i (some x)
    refine ⟨show wipe σ2 [i, j] = wipe σ [i, j] from ?_, ?_⟩
    · show ((((σ.set j none).set i none).set i (some x)).set j none).set i none = (σ.set j none).set i none
      rw [set_back, List.set_comm _ _ hij, set_back, set_back]
    · simp only [tYes, if_true]
      refine h1 σ2 H4 H4 (Same.refl _) _ fun H5 z s5 hz => ?_
      obtain ⟨a1, rfl, hs1⟩ := tI_inv hz
      refine ⟨a1, rfl, ⟨_, hs1⟩, ?_⟩
      have e5 := s5 _ _ (s4 _ _ ea)
      have hns : ns.length = (ns.map V.int).length := (List.length_map ..).symm
      have lt1 : (l.take k).length = k := by rw [List.length_take]; omega
      have le2 : k * ns.length + ns.length ≤ 100000 := by
        have : (k + 1) * ns.length ≤ l.length * ns.length := Nat.mul_le_mul_right _ hlt
        rw [Nat.succ_mul] at this
        omega
      refine it_run (walk_tup (K := K) (a := a1) (xs := ns.map V.int)) (Qd := fun H => Same H2 H ∧ ∃ acc, H P = some (.lst acc) ∧ DpAll K H acc ((l.take (k + 1)).flatMap fun a => ns.map (out a)))
        (fun m H6 => Same H2 H6 ∧ But P H5 H6 ∧ ∃ acc, H6 P = some (.lst acc) ∧ DpAll K H6 acc (((l.take k).flatMap fun a => ns.map (out a)) ++ (ns.take m).map (out l[k])))
        ⟨s3.trans (s4.trans s5), ⟨⟨_, e5⟩, fun b o e _ => e⟩, acc, e5, by simpa using dps_same (s4.trans s5) _ _ ha⟩ (fun m H6 _ p => p.2.1.tp hs1) (fun m z H66 H6 hmlt p y => ?_) fun H6 p => ?_
      · obtain ⟨s6, bu, acc6, e6, ha6⟩ := p
        obtain ⟨rfl, ez⟩ := y
        rw [← hns] at hmlt
        rw [List.getElem?_map, List.getElem?_eq_getElem hmlt] at ez
        cases ez
        let σ3 : L2.St := (σ2.set j none).set j (some (.int ns[m]))
        refine ⟨show wipe σ3 [j] = wipe σ2 [j] from ?_, ?_⟩
        · show ((σ2.set j none).set j (some (V.int ns[m]))).set j none = σ2.set j none
          rw [set_back, set_back]
        · have hxa : σ3[i]? = some (some x) := by
            show ((σ2.set j none).set j (some (V.int ns[m])))[i]? = _
            rw [List.getElem?_set_ne (Ne.symm hij), List.getElem?_set_ne (Ne.symm hij)]
            show (((σ.set j none).set i none).set i (some x))[i]? = _
            rw [List.getElem?_set_self (by simpa using hl1)]
          have hxb : σ3[j]? = some (some (.int ns[m])) := by
            show ((σ2.set j none).set j (some (V.int ns[m])))[j]? = _
            rw [List.getElem?_set_self (by simp [σ2, hl2])]
          refine turn l[k] hm ns[m] (List.getElem_mem hmlt) σ3 H6 x hxa (dp_but bu _ _ (hfe _) (dp_same s5 _ _ hx)) hxb H6 (Same.refl _) _ fun H7 y s7 hy => ?_
          have e7 := s7 _ _ e6
          have bu7 : But P H7 (upd H7 P (.lst (acc6 ++ [y]))) := but_upd (Same.refl _) e7
          have lacc : acc6.length < sizeLine := by
            rw [dps_len ha6, List.length_append, ln, lt1, List.length_map, List.length_take]
            exact smallLt (by omega)
          refine ⟨acc6, e7, lacc, Same.own (s6.trans s7) hP, (bu.same_r s7).trans bu7, acc6 ++ [y], upd_same, ?_⟩
          have tm : ns.take (m + 1) = ns.take m ++ [ns[m]] := by rw [List.take_add_one, List.getElem?_eq_getElem hmlt]; rfl
          rw [tm, List.map_append, ← List.append_assoc]
          refine dps_snoc_but bu7 (dps_same s7 _ _ ha6) (firms_all fun d hd => ?_) hy (hf _ _)
          rcases List.mem_append.mp hd with h | h
          · obtain ⟨a, _, h⟩ := List.mem_flatMap.mp h
            obtain ⟨b, _, rfl⟩ := List.mem_map.mp h
            exact hf a b
          · obtain ⟨b, _, rfl⟩ := List.mem_map.mp h
            exact hf _ b
      · obtain ⟨s6, bu, acc6, e6, ha6⟩ := p
        refine ⟨s6, acc6, e6, ?_⟩
        rw [← hns, List.take_length] at ha6
        rw [tk, List.flatMap_append]
        simpa using ha6
  · obtain ⟨s3, acc, ea, ha⟩ := p
    rw [List.take_length] at ha
    exact q H3 P acc (s2.trans s3) (none_back s2 hP) ea ha
theorem all_len (n : Nat) : (allRuns n).length = 2 ^ n := by
  induction n with
  | zero => rfl
  | succ k ih =>
    show ((allRuns k).flatMap fun r => [r ++ [-1], r ++ [1]]).length = _
    rw [List.length_flatMap]
    simp [List.map_const', List.sum_replicate_nat, ih, Nat.pow_succ]
theorem ok_all_runs (T : Txt K mg aN) : Ok P w K mg base 1 "all_runs" p_all_runs (sp_all_runs K) :=
  Ok.mkD T.f_all_runs sc_all_runs (by intro ds d h; (repeat (obtain ⟨_, h⟩ := h)); subst_vars; rfl) fun f cdv A outer s H0 E hr => ⟨_, w_all_runs T hr, fun ds d σ Q hi c r => by
    obtain ⟨n, h6, rfl, rfl⟩ := hi
    refine sc_set (d := .list (tR (allRuns 0))) c (yn_lst (yla_one yl_nilT) (by decide)).yl fun σ2 H2 s2 c2 => ?_
    refine sc_for c2 (yi_range (yl_v c2 rfl) (by omega)) gt1 (fun i cs => ∃ y, cs = [some (.int n), some (.list (tR (allRuns i))), y, none, none]) ⟨none, rfl⟩ (fun i d cs1 hd hc => ?_) fun σ3 H3 cs3 s3 c3 hc3 => ?_
    · obtain ⟨y, rfl⟩ := hc
      obtain ⟨hi, rfl⟩ := rng_at hd
      refine ⟨_, rfl, fun σ3 H3 N s3 c3 hN => ?_⟩
      have hl := all_len i
      have hp := pow64 (n := i) (by omega)
      have hlen : σ3.length = 5 := c3.len
      refine sc_set c3 (yc_two (by decide) (by omega) (by omega) (allRuns i) tI [-1, 1] (fun r b => tI (r ++ [b])) (yi_list (yl_v c3 rfl)) (by simp; omega) (fun _ _ => firm_tI _) (fun σ4 H4 => yl_tup (yla_cons (yl_neg (yl_int 1)) (yla_one (yl_int 1))) (by decide)) firm_tI fun a ha b hb σ4 H4 x e1 hx e2 => ?_).yl fun σ4 H4 s4 c4 => hN _ _ _ s4 c4 ⟨some (.int i), ?_⟩
      · have := (mem_allRuns.mp ha).len
        refine (yl_tup (yla_star (yl_var e1 hx) (.inl rfl) (yla_one (yl_var e2 (.int b)))) ?_).eq ?_
        · rw [List.length_append, List.length_map]
          exact small (by simp; omega)
        · unfold tI
          rw [List.map_append]
          rfl
      · have e : allRuns (i + 1) = (allRuns i).flatMap fun r => [r ++ [-1], r ++ [1]] := rfl
        rw [e]
        unfold tR
        rw [List.map_flatMap]
        rfl
    · obtain ⟨y, rfl⟩ := hc3
      refine sc_ret ((yl_v c3 rfl).eq ?_) r (s2.trans s3)
      rw [rng_len]⟩
end K31W
set_option Elab.async false
set_option linter.all false
set_option maxRecDepth 100000
set_option maxHeartbeats 4000000
/-! K31Sem3: the readings: pieces, plans. -/
namespace K31W
open PySem PySem.Spec PyProof.Rows L2 K31
variable {P : Program} {w : World} {K : Fr} {mg : Str → Option Value} {base : Heap} {aN : Addr}
theorem sc_drop {σ : L2.St} {H : Hp} {cs : List (Option PyData)} {t : TE} {d : PyData} {D : Ends} (c : Ctx K σ H cs) (h : Yl K t σ H d) (q : ∀ H2, Same H H2 → Ctx K σ H2 cs → D.nx σ H2) : tDrop t D σ H := h H (Same.refl _) _ fun H2 x s _ => q H2 s (c.same s)
/-- a for over nothing -/
theorem sc_for0 {σ : L2.St} {H : Hp} {cs : List (Option PyData)} {wi : TI} {g : TG} {tb : TS} {D : Ends} (c : Ctx K σ H cs) (hi : YI K wi σ H []) (q : ∀ H2, Same H H2 → Ctx K σ H2 cs → D.nx σ H2) : tFor wi g tb D σ H := by
  refine hi H (Same.refl _) _ fun J G H2 s2 g2 gs w => ?_
  have w2 : Walk J 0 (fun H3 => Same H2 H3) (YD K []) := w.mono (fun H3 s => gs _ _ g2 s) fun i H3 x H4 _ _ y => y
  exact for_it w2 (fun i σ1 H1 => σ1 = σ ∧ Same H2 H1) ⟨rfl, Same.refl _⟩ (fun i σ1 H1 _ p => p.2) (fun i x σ1 H1 H3 hlt p y => absurd hlt (Nat.not_lt_zero _)) fun σ1 H1 p => by
    obtain ⟨rfl, s⟩ := p
    exact q H1 (s2.trans s) (c.same (s2.trans s))
theorem mapB {α : Type} (l : List α) (p : α → Bool) : (l.map fun a => PyData.bool (p a)) = (l.map p).map PyData.bool := by rw [List.map_map]; rfl
theorem mapI {α : Type} (l : List α) (p : α → Int) : (l.map fun a => PyData.int (p a)) = (l.map p).map PyData.int := by rw [List.map_map]; rfl
theorem firm_bl (b : Bool) : firm (.bool b) = true := by simp [firm]
theorem ok_does_agree (T : Txt K mg aN) (F_sign_in : Ok P w K mg base 1 "sign_in" p_sign_in (sp_sign_in K)) : Ok P w K mg base 2 "does_agree" p_does_agree (sp_does_agree K) :=
  Ok.mkD T.f_does_agree sc_does_agree (by intro ds d h; (repeat (obtain ⟨_, h⟩ := h)); subst_vars; rfl) fun f cdv A outer s H0 E hr => ⟨_, w_does_agree T F_sign_in hr, fun ds d σ Q hi c r => by
    obtain ⟨n, x, W, hW, hx, rfl, rfl⟩ := hi
    refine sc_ret ((yl_all (bs := W.map fun w => decide (sgn x w.1 = w.2)) ((yc_map c W tW (fun w => .bool (decide (sgn x w.1 = w.2))) (yi_tup (yl_v c rfl)) (by have := hW.hl; omega) (gw2 (by decide)) (fun _ => firm_bl _) fun a ha => ⟨_, ⟨_, _, rfl, rfl⟩, fun σ3 H3 s3 c3 => ?_⟩).yl.eq ?_)).eq ?_) r (Same.refl _)
    · exact yl_eq (yl_call (yla_cons (yl_v c3 rfl) (yla_one (yl_v c3 rfl))) ⟨n, x, a.1, hW.h6, hx, hW.ok a ha, rfl, rfl⟩) (yl_v c3 rfl) (shape_int _) (shape_int _) (eqv_int _ _)
    · rw [mapB]
    · congr 1
      unfold agree
      rw [List.all_map]
      congr 1⟩
theorem ok_piece_by (T : Txt K mg aN) (F_all_runs : Ok P w K mg base 1 "all_runs" p_all_runs (sp_all_runs K)) (F_does_agree : Ok P w K mg base 2 "does_agree" p_does_agree (sp_does_agree K)) : Ok P w K mg base 3 "piece_by" p_piece_by (sp_piece_by K) :=
  Ok.mkD T.f_piece_by sc_piece_by (by intro ds d h; (repeat (obtain ⟨_, h⟩ := h)); subst_vars; rfl) fun f cdv A outer s H0 E hr => ⟨_, w_piece_by T F_all_runs F_does_agree hr, fun ds d σ Q hi c r => by
    obtain ⟨n, W, hW, rfl, rfl⟩ := hi
    have hl := all_len n
    have hp := pow64 hW.h6
    refine sc_ret (yl_tupOf (ds := tR (K31.piece n W)) (yc_flt c (allRuns n) tI tI (fun x => agree x W) (yi_list (yl_call (yla_one (yl_v c rfl)) ⟨n, hW.h6, rfl, rfl⟩)) (by omega) gw1 firm_tI fun a ha => ⟨_, rfl, fun σ3 H3 s3 c3 => ⟨?_, fun _ => yl_v c3 rfl⟩⟩).yl) r (Same.refl _)
    exact yt_b (yl_call (yla_cons (yl_v c3 rfl) (yla_one (yl_v c3 rfl))) ⟨n, a, W, hW, mem_allRuns.mp ha, rfl, rfl⟩)⟩
theorem choices_head (n : Nat) : (choices n).head? = some [] := by
  induction n with
  | zero => rfl
  | succ k ih =>
    show (choices k ++ _).head? = _
    rw [List.head?_append, ih]
    rfl
theorem ok_all_effects (T : Txt K mg aN) (F_choices_of : Ok P w K mg base 1 "choices_of" p_choices_of (sp_choices_of K)) : Ok P w K mg base 2 "all_effects" p_all_effects (sp_all_effects K) :=
  Ok.mkD T.f_all_effects sc_all_effects (by intro ds d h; (repeat (obtain ⟨_, h⟩ := h)); subst_vars; rfl) fun f cdv A outer s H0 E hr => ⟨_, w_all_effects T F_choices_of hr, fun ds d σ Q hi c r => by
    obtain ⟨n, h6, rfl, rfl⟩ := hi
    exact sc_ret (yn_sortR (R := choices n) (yl_call (yla_one (yl_v c rfl)) ⟨n, h6, rfl, rfl⟩) (.inr rfl) (.inr (choices_head n))).yl r (Same.refl _)⟩
theorem wrds_of {n : Nat} {W : List (List Int × Int)} (h1 : 1 ≤ n) (h6 : n ≤ 6) (h : WordsOk n W) : Wrds n W := ⟨h1, h6, by have := h.len; omega, fun w hw => (h.ok w hw).1⟩
theorem ok_check_words (T : Txt K mg aN) (F_check_many : Ok P w K mg base 3 "check_many" p_check_many (sp_check_many K)) (F_wrong_in_words : Ok P w K mg base 6 "wrong_in_words" p_wrong_in_words (sp_wrong_in_words K)) : Ok P w K mg base 7 "check_words" p_check_words (sp_check_words K) :=
  Ok.mkD T.f_check_words sc_check_words (by intro ds d h; (repeat (obtain ⟨_, h⟩ := h)); subst_vars; rfl) fun f cdv A outer s H0 E hr => ⟨_, w_check_words T F_check_many F_wrong_in_words hr, fun ds d σ Q hi c r => by
    obtain ⟨n, W, h1, h6, hW, rfl, rfl⟩ := hi
    refine sc_drop c (yl_call (yla_cons (yl_v c rfl) (yla_cons (yl_int 1) (yla_one (yl_int 6)))) ⟨n, 1, 6, by omega, by omega, rfl, rfl⟩) fun H2 s2 c2 => ?_
    exact sc_for0 c2 (yi_list (yl_call (yla_cons (yl_v c2 rfl) (yla_one (yl_v c2 rfl))) ⟨n, W, h6, hW, rfl, rfl⟩)) fun H3 s3 c3 => r H3 .non (s2.trans s3) .non⟩
theorem ok_piece (T : Txt K mg aN) (F_check_words : Ok P w K mg base 7 "check_words" p_check_words (sp_check_words K)) (F_piece_by : Ok P w K mg base 3 "piece_by" p_piece_by (sp_piece_by K)) : Ok P w K mg base 8 "piece" p_piece (sp_piece K) :=
  Ok.mkD T.f_piece sc_piece (by intro ds d h; (repeat (obtain ⟨_, h⟩ := h)); subst_vars; rfl) fun f cdv A outer s H0 E hr => ⟨_, w_piece T F_check_words F_piece_by hr, fun ds d σ Q hi c r => by
    obtain ⟨n, W, h1, h6, hW, rfl, rfl⟩ := hi
    refine sc_drop c (yl_call (yla_cons (yl_v c rfl) (yla_one (yl_v c rfl))) ⟨n, W, h1, h6, hW, rfl, rfl⟩) fun H2 s2 c2 => ?_
    exact sc_ret (yl_call (yla_cons (yl_v c2 rfl) (yla_one (yl_v c2 rfl))) ⟨n, W, wrds_of h1 h6 hW, rfl, rfl⟩) r s2⟩
theorem plan_at {n : Nat} {R : List (List Int)} (h : Plan n R) {i : Nat} {x : PyData} (e : (tR R)[i]? = some x) : ∃ z, R[i]? = some z ∧ x = tI z ∧ IsRun n z := by
  unfold tR at e
  rw [List.getElem?_map] at e
  cases q : R[i]? with
  | none => rw [q] at e; cases e
  | some z => rw [q] at e; exact ⟨z, rfl, (Option.some.inj e).symm, h.hR z (List.mem_of_getElem? q)⟩
theorem tR_at {R : List (List Int)} {i : Nat} (h : i < R.length) : (tR R)[i]? = some (tI (R.getD i [])) := by
  unfold tR
  rw [List.getElem?_map, List.getD_eq_getElem?_getD, List.getElem?_eq_getElem h]
  rfl
theorem tR_len (R : List (List Int)) : (tR R).length = R.length := List.length_map ..
theorem plan_first {n : Nat} {R : List (List Int)} (h : Plan n R) : IsRun n (R.getD 0 []) ∧ 0 < R.length := by
  have hl : 0 < R.length := List.length_pos_iff.mpr h.hne
  refine ⟨h.hR _ ?_, hl⟩
  rw [List.getD_eq_getElem?_getD, List.getElem?_eq_getElem hl]
  exact List.getElem_mem hl
/-- len(runs[0]) -/
theorem yl_few {n : Nat} {R : List (List Int)} (h : Plan n R) {σ : L2.St} {H : Hp} {i : Nat} (hv : Yl K (tVar i) σ H (.tuple (tR R))) : Yl K (tCB (rLen K) (tCons (tOp (rIxT K) (tVar i) (tC (.int 0))) tNil)) σ H (.int n) :=
  yl_len (ds := (R.getD 0 []).map .int) (yl_ixT hv (yl_int 0) (by decide) (tR_at (plan_first h).2)) ⟨.inl rfl, by rw [List.length_map]; exact (plan_first h).1.len⟩
theorem ok_wrong_in_runs (T : Txt K mg aN) (F_is_run_by : Ok P w K mg base 3 "is_run_by" p_is_run_by (sp_is_run_by K)) : Ok P w K mg base 4 "wrong_in_runs" p_wrong_in_runs (sp_wrong_in_runs K) :=
  Ok.mkD T.f_wrong_in_runs sc_wrong_in_runs (by intro ds d h; (repeat (obtain ⟨_, h⟩ := h)); subst_vars; rfl) fun f cdv A outer s H0 E hr => ⟨_, w_wrong_in_runs T F_is_run_by hr, fun ds d σ Q hi c r => by
    obtain ⟨n, R, hp, rfl, rfl⟩ := hi
    have hl := (plan_first hp).2
    have hm := hp.hl
    refine sc_if (b := false) c ((yt_or (yt_not (yt_b (b := true) (yl_isTup (yl_v c rfl)))) fun _ => yt_not (yt_test (yl_chainI (yl_int 1) (yl_len (n := R.length) (yl_v c rfl) ⟨.inl rfl, tR_len R⟩) (yl_int 64)))).eq ?_) (fun e => Bool.noConfusion e) fun _ H2 s2 c2 => ?_
    · simp
      omega
    · refine sc_for c2 (yi_enum (yl_v c2 rfl)) gt2 (fun i cs => ∃ x y, cs = [some (.tuple (tR R)), x, y]) ⟨none, none, rfl⟩ (fun i d cs1 hd hc => ?_) fun σ3 H3 cs3 s3 c3 hc3 => ?_
      · obtain ⟨x, y, rfl⟩ := hc
        obtain ⟨z, hz, rfl⟩ := enum_at hd
        obtain ⟨k, hk, rfl, hrun⟩ := plan_at hp hz
        refine ⟨_, ⟨_, _, rfl, rfl⟩, fun σ3 H3 N s3 c3 hN => ?_⟩
        refine sc_if (b := false) c3 ((yt_or (yt_not (yt_b (b := true) (yl_call (yla_one (yl_v c3 rfl)) ⟨n, k, hp.h1, hp.h6, hrun, rfl, rfl⟩))) fun _ => yt_test (yl_ne (yl_len (n := n) (yl_v c3 rfl) ⟨.inl rfl, by rw [List.length_map]; exact hrun.len⟩) (yl_few hp (yl_v c3 rfl)) (shape_int _) (shape_int _) (eqv_int _ _))).eq ?_) (fun e => Bool.noConfusion e) fun _ H4 s4 c4 => hN _ _ _ s4 c4 ⟨_, _, rfl⟩
        simp
      · obtain ⟨x, y, rfl⟩ := hc3
        exact sc_ret (σ := σ3) (yn_lst yla_nil (by decide)).yl r (s2.trans s3)⟩
theorem sum_body {T_ : TE} {n : Nat} {R : List (List Int)} {e : List Int} (hp : Plan n R) {σ : L2.St} {H : Hp} {cs : List (Option PyData)} (c : Ctx K σ H cs) (e0 : cs[0]? = some (some (.tuple (tR R))))
    (hr : ∀ a ∈ R, ∀ σ2 H2, Ctx K σ2 H2 (cs.set 2 (some (tI a))) → Yl K T_ σ2 H2 (.int (sgn a e))) : Yl K (tCB (rSum K) (tCons (tLc (iTup K (tVar 0)) (gName 2) tYes T_ [2]) tNil)) σ H (.int (eSum R e)) := by
  refine yl_sum (ns := R.map fun a => sgn a e) ((yc_map c R tI (fun a => .int (sgn a e)) (yi_tup (yl_v c e0)) (by have := hp.hl; omega) gw1 (fun _ => firm_int _) fun a ha => ⟨_, rfl, fun σ3 H3 s3 c3 => hr a ha σ3 H3 c3⟩).yl.eq ?_)
  rw [mapI]
theorem ok_effect_sum (T : Txt K mg aN) (F_sign_in : Ok P w K mg base 1 "sign_in" p_sign_in (sp_sign_in K)) : Ok P w K mg base 2 "effect_sum" p_effect_sum (sp_effect_sum K) :=
  Ok.mkD T.f_effect_sum sc_effect_sum (by intro ds d h; (repeat (obtain ⟨_, h⟩ := h)); subst_vars; rfl) fun f cdv A outer s H0 E hr => ⟨_, w_effect_sum T F_sign_in hr, fun ds d σ Q hi c r => by
    obtain ⟨n, R, e, hp, he, rfl, rfl⟩ := hi
    exact sc_ret (sum_body hp c rfl fun a ha σ2 H2 c2 => yl_call (yla_cons (yl_v c2 rfl) (yla_one (yl_v c2 rfl))) ⟨n, a, e, hp.h6, hp.hR a ha, he, rfl, rfl⟩) r (Same.refl _)⟩
theorem ok__law_total (T : Txt K mg aN) (F__law_sign : Ok P w K mg base 1 "_law_sign" p__law_sign (sp__law_sign K)) : Ok P w K mg base 2 "_law_total" p__law_total (sp__law_total K) :=
  Ok.mkD T.f__law_total sc__law_total (by intro ds d h; (repeat (obtain ⟨_, h⟩ := h)); subst_vars; rfl) fun f cdv A outer s H0 E hr => ⟨_, w__law_total T F__law_sign hr, fun ds d σ Q hi c r => by
    obtain ⟨n, R, e, hp, he, rfl, rfl⟩ := hi
    exact sc_ret (sum_body hp c rfl fun a ha σ2 H2 c2 => yl_call (yla_cons (yl_v c2 rfl) (yla_one (yl_v c2 rfl))) ⟨n, a, e, hp.h6, hp.hR a ha, he, rfl, rfl⟩) r (Same.refl _)⟩
theorem z3_eq : ∀ (a b c : List Int), List.zipWith (fun d (p : PyData × PyData) => PyData.tuple [d, p.1, p.2]) (a.map PyData.int) ((b.map PyData.int).zip (c.map PyData.int)) = (a.zip (b.zip c)).map fun p => .tuple [.int p.1, .int p.2.1, .int p.2.2]
  | [], _, _ => by simp
  | _ :: _, [], _ => by simp
  | _ :: _, _ :: _, [] => by simp
  | x :: a, y :: b, z :: c => by
    simp only [List.map_cons, List.zip_cons_cons, List.zipWith_cons_cons, z3_eq a b c]
theorem prod3_eq : ∀ (a b c : List Int), (a.zip (b.zip c)).map (fun p => p.1 * p.2.1 * p.2.2) = prod3 a b c
  | [], _, _ => by simp [prod3, mul]
  | _ :: _, [], _ => by simp [prod3, mul]
  | _ :: _, _ :: _, [] => by simp [prod3, mul]
  | x :: a, y :: b, z :: c => by
    have := prod3_eq a b c
    simp only [prod3, mul, List.zip_cons_cons, List.map_cons, List.zipWith_cons_cons] at this ⊢
    rw [this]
theorem ok_product_run (T : Txt K mg aN) : Ok P w K mg base 1 "product_run" p_product_run (sp_product_run K) :=
  Ok.mkD T.f_product_run sc_product_run (by intro ds d h; (repeat (obtain ⟨_, h⟩ := h)); subst_vars; rfl) fun f cdv A outer s H0 E hr => ⟨_, w_product_run T hr, fun ds d σ Q hi c r => by
    obtain ⟨n, a, b, g, h6, ha, hb, hg, rfl, rfl⟩ := hi
    have hi : YI K (iZ3 K (tCons (tVar 0) (tCons (tVar 1) (tCons (tVar 2) tNil)))) σ H0 ((a.zip (b.zip g)).map fun p => .tuple [.int p.1, .int p.2.1, .int p.2.2]) := by
      rw [← z3_eq]
      exact yi_z3 (n := n) (yl_v (i := 0) (d := tI a) c rfl) (yl_v (i := 1) (d := tI b) c rfl) (yl_v (i := 2) (d := tI g) c rfl) (by rw [List.length_map, ha.len]) (by rw [List.length_map, hb.len]) (by rw [List.length_map, hg.len])
    refine sc_ret ((yl_tupOf (yc_map c (a.zip (b.zip g)) _ (fun p => .int (p.1 * p.2.1 * p.2.2)) hi ?_ (gw3 (by decide) (by decide) (by decide)) (fun _ => firm_int _) fun p hp => ⟨_, ⟨_, _, _, rfl, rfl⟩, fun σ3 H3 s3 c3 => ?_⟩).yl).eq ?_) r (Same.refl _)
    · rw [List.length_zip, ha.len]
      omega
    · obtain ⟨x, y, z⟩ := p
      have h1 := ha.pm x (List.of_mem_zip hp).1
      have h2 := hb.pm y (List.of_mem_zip (List.of_mem_zip hp).2).1
      exact yl_ic (yl_ic (yl_v c3 rfl) (yl_v c3 rfl) (pm_mul1 h1)) (yl_v c3 rfl) (pm_mul1 (pm_mul h1 h2))
    · rw [mapI, prod3_eq]
      rfl⟩
theorem likeAt_le {R : List (List Int)} {i : Nat} (h : likeAt R i = none) (hi : i < R.length) : R.getD i [] ∉ R.take i := by
  unfold likeAt at h
  intro z
  rw [if_pos z] at h
  cases h
theorem find_until {f : Nat → Option (List Int)} {n i : Nat} {p : List Int} (hn : i < n) (h : ∀ j, j < i → f j = none) (hp : f i = some p) : (List.range n).findSome? f = some p := by
  have e : List.range n = List.range i ++ (List.range (n - i)).map (i + ·) := by
    rw [← List.range_add]
    congr 1
    omega
  have e2 : (List.range (n - i)).map (i + ·) = i :: ((List.range (n - i - 1)).map fun k => i + (k + 1)) := by
    obtain ⟨m, hm⟩ : ∃ m, n - i = m + 1 := ⟨n - i - 1, by omega⟩
    rw [hm, List.range_succ_eq_map, List.map_cons, List.map_map]
    rfl
  rw [e, e2, List.findSome?_append, List.findSome?_eq_none_iff.mpr (fun x hx => h x (List.mem_range.mp hx)), Option.none_or, List.findSome?_cons, hp]
theorem find_none {f : Nat → Option (List Int)} {n : Nat} (h : ∀ j, j < n → f j = none) : (List.range n).findSome? f = none := List.findSome?_eq_none_iff.mpr fun x hx => h x (List.mem_range.mp hx)
theorem eff_getD {R : List (List Int)} {i : Nat} {z : List Int} (h : R[i]? = some z) : R.getD i [] = z := by rw [List.getD_eq_getElem?_getD, h]; rfl
theorem take_map (R : List (List Int)) (i : Nat) : (tR R).take i = tR (R.take i) := by unfold tR; rw [List.map_take]
theorem yl_upTo {R : List (List Int)} {σ : L2.St} {H : Hp} {i j : Nat} {k : Nat} (h : Yl K (tVar i) σ H (.tuple (tR R))) (g : Yl K (tVar j) σ H (.int k)) : Yl K (tSl (rSlA K) (tVar i) tNoPart (tPart (tVar j))) σ H (.tuple (tR (R.take k))) :=
  (yl_slT h yo_none (yo_some g)).eq (by rw [cut_to _ _ (by omega), Int.toNat_natCast, take_map])
theorem yl_idx {R : List (List Int)} {x : List Int} {σ : L2.St} {H : Hp} {i : Nat} {p : Addr} {u : TE} {cs : List (Option PyData)} (c : Ctx K σ H cs) (e : cs[i]? = some (some (.tuple (tR R)))) (hσ : σ[i]? = some (some (.ref p))) (pl : PlainT H p) (hu : Yl K u σ H (tI x)) (hm : x ∈ R) :
    Yl K (tBMP (rIdxT K) (tVar i) (tCons u tNil)) σ H (.int (R.idxOf x : Nat)) := fun H1 s Q q => by
  obtain ⟨v, e1, hv⟩ := c.at_ i _ e
  rw [hσ] at e1
  cases e1
  exact ⟨_, hσ, ⟨p, rfl, pl.same s⟩, hu H1 s _ fun H3 z s3 hz => ⟨p, z, x, R, rfl, rfl, dp_same (s.trans s3) _ _ hv, hz, hm, q H3 _ s3 (.int _)⟩⟩
theorem ok_like_runs (T : Txt K mg aN) : Ok P w K mg base 1 "like_runs" p_like_runs (sp_like_runs K) :=
  Ok.mkP T.f_like_runs sc_like_runs (by intro ds d h; (repeat (obtain ⟨_, h⟩ := h)); subst_vars; rfl) fun f cdv A outer s H0 E hr => ⟨_, w_like_runs T hr, fun ds d σ Q p hi c hσ pl r => by
    obtain ⟨n, R, hp, rfl, rfl⟩ := hi
    refine sc_for0P c (yi_enum (yl_v c rfl)) (g02 (by decide) (by decide)) (fun i cs => (∃ x y, cs = [some (.tuple (tR R)), x, y]) ∧ ∀ j, j < i → likeAt R j = none) ⟨⟨none, none, rfl⟩, fun j h => absurd h (Nat.not_lt_zero _)⟩ (fun i d cs1 hd hc => ?_) fun σ3 H3 cs3 s3 c3 hc3 => ?_
    · obtain ⟨⟨x, y, rfl⟩, hno⟩ := hc
      obtain ⟨z, hz, rfl⟩ := enum_at hd
      obtain ⟨k, hk, rfl, hrun⟩ := plan_at hp hz
      have hlt : i < R.length := (List.getElem?_eq_some_iff.mp hk).1
      have hkd := eff_getD hk
      refine ⟨_, ⟨_, _, rfl, rfl⟩, fun σ3 H3 N s3 z3 c3 hN => ?_⟩
      refine sc_if (b := decide (k ∈ R.take i)) c3 (yt_test (yl_inR (neg := false) (yl_v c3 rfl) (yl_upTo (yl_v c3 rfl) (yl_v c3 rfl)) (.inl rfl))) (fun e H4 s4 c4 => ?_) fun e H4 s4 c4 => hN _ _ s4 c4 ⟨⟨_, _, rfl⟩, fun j hj => ?_⟩
      · have hm := of_decide_eq_true e
        have hat : likeAt R i = some [((R.idxOf k : Nat) : Int), (i : Int)] := by
          unfold likeAt
          rw [hkd, if_pos hm]
        have hf : likeRuns R = some [((R.idxOf k : Nat) : Int), (i : Int)] := find_until hlt hno hat
        refine sc_ret ((yn_lst (yla_one (yl_tup (yla_cons (yl_idx c4 rfl (z3.trans hσ) (pl.same (s3.trans s4)) (yl_v c4 rfl) (List.mem_of_mem_take hm)) (yla_one (yl_v c4 rfl))) (small (by simp)))) (small (by simp))).yl.eq ?_) r (s3.trans s4)
        rw [hf]
        rfl
      · by_cases hj2 : j < i
        · exact hno j hj2
        · have : j = i := by omega
          subst this
          unfold likeAt
          rw [hkd, if_neg (of_decide_eq_false e)]
    · obtain ⟨⟨x, y, rfl⟩, hno⟩ := hc3
      have hf : likeRuns R = none := find_none fun j hj => hno j (by unfold enumD; rw [List.length_mapIdx, tR_len]; exact hj)
      refine sc_ret (σ := σ3) ((yn_lst yla_nil (by decide)).yl.eq ?_) r s3
      rw [hf]
      rfl⟩
theorem plan_ne {n : Nat} {R : List (List Int)} (h : Plan n R) : ∀ r ∈ R, r ≠ [] := fun r hr e => by
  have := (h.hR r hr).len
  rw [e] at this
  have h1 := h.h1
  simp at this
  omega
theorem ok_is_piece_of (T : Txt K mg aN) (F_piece_by : Ok P w K mg base 3 "piece_by" p_piece_by (sp_piece_by K)) : Ok P w K mg base 4 "is_piece_of" p_is_piece_of (sp_is_piece_of K) :=
  Ok.mkD T.f_is_piece_of sc_is_piece_of (by intro ds d h; (repeat (obtain ⟨_, h⟩ := h)); subst_vars; rfl) fun f cdv A outer s H0 E hr => ⟨_, w_is_piece_of T F_piece_by hr, fun ds d σ Q hi c r => by
    obtain ⟨n, R, W, hp, hW, rfl, rfl⟩ := hi
    exact sc_ret (yl_eq (yl_tupOf (yn_sortR (R := R) (yl_v c rfl) (.inl rfl) (.inl (plan_ne hp))).yl) (yl_call (yla_cons (yl_few hp (yl_v c rfl)) (yla_one (yl_v c rfl))) ⟨n, W, hW, rfl, rfl⟩) (shape_tR _) (shape_tR _) (eqv_tR _ _)) r (Same.refl _)⟩
theorem fixed_ok {n : Nat} {R : List (List Int)} (hp : Plan n R) : WordsOk n (fixedW n R) := words_ok hp.h1 hp.h6 hp.hR hp.hne
theorem ok_words_by (T : Txt K mg aN) (F_fixed_words : Ok P w K mg base 3 "fixed_words" p_fixed_words (sp_fixed_words K)) (F_is_piece_of : Ok P w K mg base 4 "is_piece_of" p_is_piece_of (sp_is_piece_of K)) : Ok P w K mg base 5 "words_by" p_words_by (sp_words_by K) :=
  Ok.mkD T.f_words_by sc_words_by (by intro ds d h; (repeat (obtain ⟨_, h⟩ := h)); subst_vars; rfl) fun f cdv A outer s H0 E hr => ⟨_, w_words_by T F_fixed_words F_is_piece_of hr, fun ds d σ Q hi c r => by
    obtain ⟨n, R, hp, rfl, rfl⟩ := hi
    refine sc_set c (yl_call (yla_one (yl_v c rfl)) ⟨n, R, hp, rfl, rfl⟩) fun σ2 H2 s2 c2 => ?_
    refine sc_ret (yl_if (yt_b (yl_call (yla_cons (yl_v c2 rfl) (yla_one (yl_v c2 rfl))) ⟨n, R, fixedW n R, hp, wrds_of hp.h1 hp.h6 (fixed_ok hp), rfl, rfl⟩)) (fun e => (yn_lst (yla_one (yl_v (d := tWs (fixedW n R)) c2 rfl)) (small (by simp))).yl.eq ?_) fun e => (yn_lst yla_nil (by decide)).yl.eq ?_) r s2
    · unfold K31.wordsOf
      rw [if_pos (of_decide_eq_true e)]
      rfl
    · unfold K31.wordsOf
      rw [if_neg (of_decide_eq_false e)]
      rfl⟩
theorem ok_check_runs (T : Txt K mg aN) (F_wrong_in_runs : Ok P w K mg base 4 "wrong_in_runs" p_wrong_in_runs (sp_wrong_in_runs K)) : Ok P w K mg base 5 "check_runs" p_check_runs (sp_check_runs K) :=
  Ok.mkD T.f_check_runs sc_check_runs (by intro ds d h; (repeat (obtain ⟨_, h⟩ := h)); subst_vars; rfl) fun f cdv A outer s H0 E hr => ⟨_, w_check_runs T F_wrong_in_runs hr, fun ds d σ Q hi c r => by
    obtain ⟨n, R, hp, rfl, rfl⟩ := hi
    exact sc_for0 c (yi_list (yl_call (yla_one (yl_v c rfl)) ⟨n, R, hp, rfl, rfl⟩)) fun H3 s3 c3 => r H3 .non s3 .non⟩
theorem lay_list {ds : List PyData} (h : firms ds = true) (k : ∀ d ∈ ds, d.depth ≤ 60) : SeqAt.shaped (.list ds) = true := by
  refine shape_of (by simpa [PyData.canLay0] using lay_firms _ h) ?_
  have := depths_le k
  simp only [PyData.depth]
  omega
def orN : Option PyData → PyData
  | some d => d
  | none => .none
/-- found[0] if found != [] else None -/
theorem yl_first {σ : L2.St} {H : Hp} {i : Nat} {o : Option PyData} (hv : Yl K (tVar i) σ H (.list (lst1 o))) (hf : ∀ d, o = some d → firm d = true ∧ d.depth ≤ 60) : Yl K (tIf (tTest (tOp (rNeD K) (tVar i) (tLst tNil))) (tOp (rIxL K) (tVar i) (tC (.int 0))) (tC .non)) σ H (orN o) := by
  have sh : SeqAt.shaped (.list (lst1 o)) = true := by
    cases o with
    | none => exact lay_list (by simp [lst1, firms]) fun d hd => by simp [lst1] at hd
    | some d =>
      refine lay_list (by simp [lst1, firms, (hf d rfl).1]) fun d' hd => ?_
      have : d' = d := by simpa [lst1] using hd
      rw [this]
      exact (hf d rfl).2
  refine yl_if (yt_test (yl_ne hv (yn_lst yla_nil (by decide)).yl sh (shape_lR []) rfl)) (fun e => ?_) fun e => ?_
  · cases o with
    | none => simp [lst1, PyData.eqv, PyData.eqvAll] at e
    | some d => exact yl_ixL hv (yl_int 0) (by decide) rfl
  · cases o with
    | none => exact yl_non
    | some d => simp [lst1, PyData.eqv, PyData.eqvAll] at e
theorem ok_words_of (T : Txt K mg aN) (F_check_runs : Ok P w K mg base 5 "check_runs" p_check_runs (sp_check_runs K)) (F_words_by : Ok P w K mg base 5 "words_by" p_words_by (sp_words_by K)) : Ok P w K mg base 6 "words_of" p_words_of (sp_words_of K) :=
  Ok.mkD T.f_words_of sc_words_of (by intro ds d h; (repeat (obtain ⟨_, h⟩ := h)); subst_vars; rfl) fun f cdv A outer s H0 E hr => ⟨_, w_words_of T F_check_runs F_words_by hr, fun ds d σ Q hi c r => by
    obtain ⟨n, R, hp, rfl, rfl⟩ := hi
    refine sc_drop c (yl_call (yla_one (yl_v c rfl)) ⟨n, R, hp, rfl, rfl⟩) fun H2 s2 c2 => ?_
    refine sc_set c2 (yl_call (yla_one (yl_v c2 rfl)) ⟨n, R, hp, rfl, rfl⟩) fun σ3 H3 s3 c3 => ?_
    refine sc_ret ((yl_first (yl_v c3 rfl) fun d hd => ?_).eq ?_) r (s2.trans s3)
    · cases e : wordsOf n R with
      | none => rw [e] at hd; cases hd
      | some W =>
        rw [e] at hd
        cases hd
        exact ⟨firm_tup (firms_tWs W), Nat.le_trans (depth_tup (depth_tWs W)) (by decide)⟩
    · cases e : wordsOf n R <;> rfl⟩
theorem ok_missing (T : Txt K mg aN) (F_check_runs : Ok P w K mg base 5 "check_runs" p_check_runs (sp_check_runs K)) (F_missing_by : Ok P w K mg base 2 "missing_by" p_missing_by (sp_missing_by K)) : Ok P w K mg base 6 "missing" p_missing (sp_missing K) :=
  Ok.mkP T.f_missing sc_missing (by intro ds d h; (repeat (obtain ⟨_, h⟩ := h)); subst_vars; rfl) fun f cdv A outer s H0 E hr => ⟨_, w_missing T F_check_runs F_missing_by hr, fun ds d σ Q p hi c hσ pl r => by
    obtain ⟨n, R, hp, rfl, rfl⟩ := hi
    refine sc_drop c (yl_call (yla_one (yl_v c rfl)) ⟨n, R, hp, rfl, rfl⟩) fun H2 s2 c2 => ?_
    refine sc_set c2 (yl_callP c2 rfl hσ (pl.same s2) ⟨n, R, hp, rfl, rfl⟩) fun σ3 H3 s3 c3 => ?_
    refine sc_ret ((yl_first (yl_v c3 rfl) fun d hd => ?_).eq ?_) r (s2.trans s3)
    · cases e : K31.missing R with
      | none => rw [e] at hd; cases hd
      | some W =>
        rw [e] at hd
        cases hd
        exact ⟨firm_tI W, Nat.le_trans (depth_tI W) (by decide)⟩
    · cases e : K31.missing R <;> rfl⟩
end K31W
set_option Elab.async false
set_option linter.all false
set_option maxRecDepth 100000
set_option maxHeartbeats 4000000
/-! K31Sem4: the readings: the law's own reckoning. -/
namespace K31W
open PySem PySem.Spec PyProof.Rows L2 K31
variable {P : Program} {w : World} {K : Fr} {mg : Str → Option Value} {base : Heap} {aN : Addr}
theorem eqv_nil : PyData.eqv (.list []) (.list []) = true := by simp [PyData.eqv, PyData.eqvAll]
theorem ok__law_is_whole (T : Txt K mg aN) : Ok P w K mg base 1 "_law_is_whole" p__law_is_whole (sp__law_is_whole K) :=
  Ok.mkD T.f__law_is_whole sc__law_is_whole (by intro ds d h; (repeat (obtain ⟨_, h⟩ := h)); subst_vars; rfl) fun f cdv A outer s H0 E hr => ⟨_, w__law_is_whole T hr, fun ds d σ Q hi c r => by
    obtain ⟨i, rfl, rfl⟩ := hi
    exact sc_ret (yl_and (b := true) (c := true) (yl_isInt (yl_v c rfl)) fun _ => yl_not (b := false) (yl_isBool (yl_v c rfl))) r (Same.refl _)⟩
theorem ok__law_is_within (T : Txt K mg aN) (F__law_is_whole : Ok P w K mg base 1 "_law_is_whole" p__law_is_whole (sp__law_is_whole K)) : Ok P w K mg base 2 "_law_is_within" p__law_is_within (sp__law_is_within K) :=
  Ok.mkD T.f__law_is_within sc__law_is_within (by intro ds d h; (repeat (obtain ⟨_, h⟩ := h)); subst_vars; rfl) fun f cdv A outer s H0 E hr => ⟨_, w__law_is_within T F__law_is_whole hr, fun ds d σ Q hi c r => by
    obtain ⟨i, lo, hi, rfl, rfl⟩ := hi
    exact sc_ret (yl_and (b := true) (yl_call (yla_one (yl_v c rfl)) ⟨i, rfl, rfl⟩) fun _ => yl_chainI (yl_v c rfl) (yl_v c rfl) (yl_v c rfl)) r (Same.refl _)⟩
theorem ok__law_is_tuple (T : Txt K mg aN) : Ok P w K mg base 1 "_law_is_tuple" p__law_is_tuple (sp__law_is_tuple K) :=
  Ok.mkD T.f__law_is_tuple sc__law_is_tuple (by intro ds d h; (repeat (obtain ⟨_, h⟩ := h)); subst_vars; rfl) fun f cdv A outer s H0 E hr => ⟨_, w__law_is_tuple T hr, fun ds d σ Q hi c r => by
    obtain ⟨xs, m, rfl, rfl⟩ := hi
    exact sc_ret (yl_and (b := true) (yl_isTup (yl_v c rfl)) fun _ => yl_eq (yl_len (yl_v c rfl) ⟨.inl rfl, rfl⟩) (yl_v c rfl) (shape_int _) (shape_int _) (eqv_int _ _)) r (Same.refl _)⟩
theorem ok__law_parted (T : Txt K mg aN) : Ok P w K mg base 1 "_law_parted" p__law_parted (sp__law_parted K) :=
  Ok.mkD T.f__law_parted sc__law_parted (by intro ds d h; (repeat (obtain ⟨_, h⟩ := h)); subst_vars; rfl) fun f cdv A outer s H0 E hr => ⟨_, w__law_parted T hr, fun ds d σ Q hi c r => by
    obtain ⟨e, g, rfl, rfl⟩ := hi
    refine sc_ret (yl_tupOf (ds := (lParted e g).map .int) (yc_flt c (rng 6) .int .int (fun i => decide (i ∈ e) != decide (i ∈ g)) (yi_range (yl_int 6) (by decide)) (by decide) gw1 firm_int fun a ha => ⟨_, rfl, fun σ3 H3 s3 c3 =>
      ⟨(yt_test (yl_ne (yl_inI (neg := false) (yl_v c3 rfl) (yl_v c3 rfl)) (yl_inI (neg := false) (yl_v c3 rfl) (yl_v c3 rfl)) (shape_bl _) (shape_bl _) (eqv_bool _ _))).eq ?_, fun _ => yl_v c3 rfl⟩⟩).yl) r (Same.refl _)
    cases decide (a ∈ e) <;> cases decide (a ∈ g) <;> rfl⟩
theorem lraw_run : ∀ (n : Nat) {r : List Int}, r ∈ lRunsRaw n → IsRun n r
  | 0, r, h => by
    have : r = [] := by simpa [lRunsRaw] using h
    subst this
    exact ⟨rfl, fun x hx => by simp at hx⟩
  | k + 1, r, h => by
    have h : r ∈ (lRunsRaw k).map (fun r => r ++ [-1]) ++ (lRunsRaw k).map fun r => r ++ [1] := h
    have fin : ∀ (q : List Int) (z : Int), IsRun k q → (z = 1 ∨ z = -1) → IsRun (k + 1) (q ++ [z]) := fun q z hq hz => ⟨by rw [List.length_append, hq.len]; rfl, fun x hx => by
      rcases List.mem_append.mp hx with g | g
      · exact hq.pm x g
      · rw [List.mem_singleton.mp g]; exact hz⟩
    rcases List.mem_append.mp h with h | h
    · obtain ⟨q, hq, rfl⟩ := List.mem_map.mp h
      exact fin q _ (lraw_run k hq) (.inr rfl)
    · obtain ⟨q, hq, rfl⟩ := List.mem_map.mp h
      exact fin q _ (lraw_run k hq) (.inl rfl)
theorem lraw_len (n : Nat) : (lRunsRaw n).length = 2 ^ n := by
  induction n with
  | zero => rfl
  | succ k ih =>
    show ((lRunsRaw k).map (fun r => r ++ [-1]) ++ (lRunsRaw k).map fun r => r ++ [1]).length = _
    rw [List.length_append, List.length_map, List.length_map, ih, Nat.pow_succ]
    omega
theorem lruns_run {n : Nat} {r : List Int} (h : r ∈ lRuns n) : IsRun n r := lraw_run n ((isort_perm _).mem_iff.mp h)
/-- r + (z,) -/
theorem yl_snoc {σ : L2.St} {H : Hp} {i : Nat} {t : TE} {r : List Int} {z : Int} {n : Nat} (h : Yl K (tVar i) σ H (tI r)) (hz : Yl K t σ H (.int z)) (hl : r.length = n) (hn : n ≤ 64) : Yl K (tOp (rCatA K) (tVar i) (tTup (tCons t tNil))) σ H (tI (r ++ [z])) :=
  (yl_catT h (yl_tup (yla_one hz) (small (by simp))) (small (by rw [List.length_map, hl]; simp; omega))).eq (by unfold tI; rw [List.map_append]; rfl)
theorem ok__law_runs (T : Txt K mg aN) : Ok P w K mg base 1 "_law_runs" p__law_runs (sp__law_runs K) :=
  Ok.mkD T.f__law_runs sc__law_runs (by intro ds d h; (repeat (obtain ⟨_, h⟩ := h)); subst_vars; rfl) fun f cdv A outer s H0 E hr => ⟨_, w__law_runs T hr, fun ds d σ Q hi c r => by
    obtain ⟨n, h1, h6, rfl, rfl⟩ := hi
    refine sc_set (d := .list (tR (lRunsRaw 0))) c (yn_lst (yla_one yl_nilT) (by decide)).yl fun σ2 H2 s2 c2 => ?_
    refine sc_for c2 (yi_range (yl_v c2 rfl) (by omega)) gt1 (fun i cs => ∃ y, cs = [some (.int n), some (.list (tR (lRunsRaw i))), y, none]) ⟨none, rfl⟩ (fun i d cs1 hd hc => ?_) fun σ3 H3 cs3 s3 c3 hc3 => ?_
    · obtain ⟨y, rfl⟩ := hc
      obtain ⟨hi, rfl⟩ := rng_at hd
      refine ⟨_, rfl, fun σ3 H3 N s3 c3 hN => ?_⟩
      have hl := lraw_len i
      have hp := pow64 (n := i) (by omega)
      refine sc_set c3 (yn_catL (yc_map c3 (lRunsRaw i) tI (fun e => tI (e ++ [-1])) (yi_list (yl_v c3 rfl)) (by omega) gw1 (fun _ => firm_tI _) fun a ha => ⟨_, rfl, fun σ4 H4 s4 c4 => yl_snoc (yl_v c4 rfl) (yl_neg (yl_int 1)) (lraw_run i ha).len (by omega)⟩).yl
        (yc_map c3 (lRunsRaw i) tI (fun e => tI (e ++ [1])) (yi_list (yl_v c3 rfl)) (by omega) gw1 (fun _ => firm_tI _) fun a ha => ⟨_, rfl, fun σ4 H4 s4 c4 => yl_snoc (yl_v c4 rfl) (yl_int 1) (lraw_run i ha).len (by omega)⟩).yl ?_).yl fun σ4 H4 s4 c4 => hN _ _ _ s4 c4 ⟨some (.int i), ?_⟩
      · rw [List.length_map, List.length_map]
        exact small (by omega)
      · have e : lRunsRaw (i + 1) = (lRunsRaw i).map (fun r => r ++ [-1]) ++ (lRunsRaw i).map fun r => r ++ [1] := rfl
        rw [e]
        unfold tR
        rw [List.map_append, List.map_map, List.map_map]
        rfl
    · obtain ⟨y, rfl⟩ := hc3
      rw [rng_len] at c3
      refine sc_ret (yn_sortR (R := lRunsRaw n) (yl_v c3 rfl) (.inr rfl) (.inl fun x hx e => ?_)).yl r (s2.trans s3)
      have := (lraw_run n hx).len
      rw [e] at this
      simp at this
      omega⟩
theorem fold_sub {n : Nat} : ∀ (W : List (List Int × Int)) (l : List (List Int)), (∀ r ∈ l, IsRun n r) → l.length ≤ 64 → (∀ r ∈ W.foldl (fun found w => found.filter fun r => decide (sgn r w.1 = w.2)) l, IsRun n r) ∧ (W.foldl (fun found w => found.filter fun r => decide (sgn r w.1 = w.2)) l).length ≤ 64
  | [], l, h, k => ⟨h, k⟩
  | w :: W, l, h, k => fold_sub W _ (fun r hr => h r (List.mem_filter.mp hr).1) (Nat.le_trans (List.length_filter_le _ _) k)
theorem fit_ok {n : Nat} (h6 : n ≤ 6) (W : List (List Int × Int)) : (∀ r ∈ fitL n W, IsRun n r) ∧ (fitL n W).length ≤ 64 :=
  fold_sub W (lRuns n) (fun r hr => lruns_run hr) (by unfold lRuns; rw [isort_length, lraw_len]; exact pow64 h6)
theorem ok__law_fitting (T : Txt K mg aN) (F__law_runs : Ok P w K mg base 1 "_law_runs" p__law_runs (sp__law_runs K)) (F__law_sign : Ok P w K mg base 1 "_law_sign" p__law_sign (sp__law_sign K)) : Ok P w K mg base 2 "_law_fitting" p__law_fitting (sp__law_fitting K) :=
  Ok.mkD T.f__law_fitting sc__law_fitting (by intro ds d h; (repeat (obtain ⟨_, h⟩ := h)); subst_vars; rfl) fun f cdv A outer s H0 E hr => ⟨_, w__law_fitting T F__law_runs F__law_sign hr, fun ds d σ Q hi c r => by
    obtain ⟨n, W, hW, rfl, rfl⟩ := hi
    refine sc_set c (yl_call (yla_one (yl_v c rfl)) ⟨n, hW.h1, hW.h6, rfl, rfl⟩) fun σ2 H2 s2 c2 => ?_
    refine sc_for c2 (yi_tup (yl_v c2 rfl)) gt2 (fun i cs => ∃ x y, cs = [some (.int n), some (tWs W), some (.list (tR (fitL n (W.take i)))), x, y, none]) ⟨none, none, rfl⟩ (fun i d cs1 hd hc => ?_) fun σ3 H3 cs3 s3 c3 hc3 => ?_
    · obtain ⟨x, y, rfl⟩ := hc
      rw [List.getElem?_map] at hd
      cases hk : W[i]? with
      | none => rw [hk] at hd; cases hd
      | some u =>
        rw [hk] at hd
        cases hd
        refine ⟨_, ⟨_, _, rfl, rfl⟩, fun σ3 H3 N s3 c3 hN => ?_⟩
        have fo := fit_ok hW.h6 (W.take i)
        refine sc_set c3 (yc_flt c3 (fitL n (W.take i)) tI tI (fun a => decide (sgn a u.1 = u.2)) (yi_list (yl_v c3 rfl)) (by omega) gw1 firm_tI fun a ha => ⟨_, rfl, fun σ4 H4 s4 c4 =>
          ⟨yt_test (yl_eq (yl_call (yla_cons (yl_v c4 rfl) (yla_one (yl_v c4 rfl))) ⟨n, a, u.1, hW.h6, fo.1 a ha, hW.ok u (List.mem_of_getElem? hk), rfl, rfl⟩) (yl_v c4 rfl) (shape_int _) (shape_int _) (eqv_int _ _)), fun _ => yl_v c4 rfl⟩⟩).yl fun σ4 H4 s4 c4 => hN _ _ _ s4 c4 ⟨some (tI u.1), some (.int u.2), ?_⟩
        have e : fitL n (W.take (i + 1)) = (fitL n (W.take i)).filter fun a => decide (sgn a u.1 = u.2) := by
          unfold fitL
          rw [List.take_add_one, hk, List.foldl_append]
          rfl
        rw [e]
        rfl
    · obtain ⟨x, y, rfl⟩ := hc3
      rw [List.length_map, List.take_length] at c3
      exact sc_ret (yl_tupOf (yl_v c3 rfl)) r (s2.trans s3)⟩
theorem yl_pow {σ : L2.St} {H : Hp} {t : TE} {n : Nat} (h : Yl K t σ H (.int n)) (hn : n ≤ 64) : Yl K (tOp (rI CPow fun i j => .int (i * 2 ^ j.toNat)) (tC (.int 1)) t) σ H (.int (2 ^ n : Nat)) :=
  (yl_ic (yl_int 1) h ⟨by omega, by omega, by decide⟩).eq (by rw [Int.toNat_natCast, Int.one_mul]; congr 1)
theorem leffs_eff {n : Nat} {e : List Int} (h : e ∈ lEffs n) : IsEff n e := by
  have := (isort_perm _).mem_iff.mp h
  obtain ⟨b, _, rfl⟩ := List.mem_map.mp this
  exact effOf_isEff n _
theorem leffs_len (n : Nat) : (lEffs n).length = 2 ^ n := by unfold lEffs; rw [isort_length]; simp
theorem range_any (n : Nat) (p : Nat → Bool) : (List.range n).any p = ((rng n).map fun i => p i.toNat).any id := by
  unfold rng
  rw [List.map_map, List.any_map]
  congr 1
theorem ok__law_is_closed (T : Txt K mg aN) (F__law_effects : Ok P w K mg base 1 "_law_effects" p__law_effects (sp__law_effects K)) (F__law_total : Ok P w K mg base 2 "_law_total" p__law_total (sp__law_total K)) : Ok P w K mg base 3 "_law_is_closed" p__law_is_closed (sp__law_is_closed K) :=
  Ok.mkD T.f__law_is_closed sc__law_is_closed (by intro ds d h; (repeat (obtain ⟨_, h⟩ := h)); subst_vars; rfl) fun f cdv A outer s H0 E hr => ⟨_, w__law_is_closed T F__law_effects F__law_total hr, fun ds d σ Q hi c r => by
    obtain ⟨n, R, hp, rfl, rfl⟩ := hi
    have hl := hp.hl
    refine sc_set c (yl_few hp (yl_v c rfl)) fun σ2 H2 s2 c2 => ?_
    refine sc_if (b := dup R) c2 (yt_b ((yl_any (bs := (rng R.length).map fun i => decide (R.getD i.toNat [] ∈ R.take i.toNat)) ((yc_map c2 (rng R.length) .int (fun i => .bool (decide (R.getD i.toNat [] ∈ R.take i.toNat))) (yi_range (yl_len (yl_v c2 rfl) ⟨.inl rfl, tR_len R⟩) (by omega)) (by unfold rng; simp; omega) gw1 (fun _ => firm_bl _) fun a ha => ⟨_, rfl, fun σ3 H3 s3 c3 => ?_⟩).yl.eq ?_)).eq ?_)) (fun e H3 s3 c3 => ?_) fun e H3 s3 c3 => ?_
    · have ha := mem_rng.mp ha
      obtain ⟨k, rfl⟩ := Int.eq_ofNat_of_zero_le ha.1
      exact (yl_inR (neg := false) (yl_ixT (yl_v c3 rfl) (yl_v c3 rfl) ha.1 (tR_at (by rw [Int.toNat_natCast]; omega))) (yl_upTo (yl_v c3 rfl) (yl_v c3 rfl)) (.inl rfl)).eq rfl
    · rw [mapB]
    · unfold dup
      rw [range_any]
    · refine sc_ret (K := K) (σ := σ2) (yl_bl false) ?_ (s2.trans s3)
      unfold isClosed at r
      rw [if_pos e] at r
      exact r
    · have e2 := leffs_len n
      have hp2 := pow64 hp.h6
      refine sc_set c3 (yc_flt c3 (lEffs n) tI tI (fix R) (yi_list (yl_call (yla_one (yl_v c3 rfl)) ⟨n, hp.h6, rfl, rfl⟩)) (by omega) gw1 firm_tI fun a ha => ⟨_, rfl, fun σ4 H4 s4 c4 =>
        ⟨yt_test (yl_eq (yl_abs (yl_call (yla_cons (yl_v c4 rfl) (yla_one (yl_v c4 rfl))) ⟨n, R, a, hp, leffs_eff ha, rfl, rfl⟩)) (yl_len (yl_v c4 rfl) ⟨.inl rfl, tR_len R⟩) (shape_int _) (shape_int _) (eqv_int _ _)), fun _ => yl_v c4 rfl⟩⟩).yl fun σ4 H4 s4 c4 => ?_
      refine sc_ret ((yl_eq (yl_ic (yl_len (n := R.length) (yl_v c4 rfl) ⟨.inl rfl, tR_len R⟩) (yl_len (n := ((lEffs n).filter (fix R)).length) (yl_v c4 rfl) ⟨.inr rfl, by rw [List.length_map]⟩) (.inl ⟨by omega, by omega⟩)) (yl_pow (yl_v c4 rfl) (by have := hp.h6; omega)) (shape_int _) (shape_int _) (eqv_int _ _)).eq ?_) r (s2.trans (s3.trans s4))
      unfold isClosed
      rw [if_neg (by rw [e]; exact Bool.false_ne_true)]
      congr 1
      rw [decide_eq_decide]
      omega⟩
theorem ok__law_effect_fault (T : Txt K mg aN) (F__law_is_within : Ok P w K mg base 2 "_law_is_within" p__law_is_within (sp__law_is_within K)) : Ok P w K mg base 3 "_law_effect_fault" p__law_effect_fault (sp__law_effect_fault K) :=
  Ok.mkD T.f__law_effect_fault sc__law_effect_fault (by intro ds d h; (repeat (obtain ⟨_, h⟩ := h)); subst_vars; rfl) fun f cdv A outer s H0 E hr => ⟨_, w__law_effect_fault T F__law_is_within hr, fun ds d σ Q hi c r => by
    obtain ⟨n, e, hn, he, rfl, rfl⟩ := hi
    have hel := eff_len he
    refine sc_if (b := false) c (yt_not (yt_b (b := true) (yl_isTup (yl_v c rfl)))) (fun e => Bool.noConfusion e) fun _ H2 s2 c2 => ?_
    refine sc_for c2 (yi_range (n := e.length) (yl_len (yl_v c2 rfl) ⟨.inl rfl, List.length_map ..⟩) (by omega)) gt1 (fun i cs => ∃ x, cs = [some (tI e), some (.int n), x]) ⟨none, rfl⟩ (fun i d cs1 hd hc => ?_) fun σ3 H3 cs3 s3 c3 hc3 => ?_
    · obtain ⟨x, rfl⟩ := hc
      obtain ⟨hi, rfl⟩ := rng_at hd
      have hk : e[i]? = some e[i] := List.getElem?_eq_getElem hi
      have hm : e[i] ∈ e := List.getElem_mem hi
      have h0 := he.lo _ hm
      have h9 := he.hi _ hm
      have ixi : ∀ {σ4 : L2.St} {H4 : Hp}, Ctx K σ4 H4 ([some (tI e), some (.int n), x].set 2 (some (.int i))) → Yl K (tOp (rIxT K) (tVar 0) (tVar 2)) σ4 H4 (.int e[i]) := fun c4 => yl_ixT (yl_v c4 rfl) (yl_v c4 rfl) (by omega) (by rw [Int.toNat_natCast, List.getElem?_map, hk]; rfl)
      refine ⟨_, rfl, fun σ3 H3 N s3 c3 hN => ?_⟩
      refine sc_if (b := false) c3 ((yt_or (yt_not (yt_b (b := true) (yl_call (yla_cons (ixi c3) (yla_cons (yl_int 0) (yla_one (yl_ii (yl_v c3 rfl) (yl_int 1))))) ⟨e[i], 0, (n : Int) - 1, rfl, ?b⟩))) fun _ =>
        yt_and (b := decide (0 < (i : Int))) (yt_test (yl_ib (yl_v c3 rfl) (yl_int 0))) fun hi => yt_test (yl_ib (j := e.getD (i - 1) 0) (ixi c3) (yl_ixT (i := (i : Int) - 1) (yl_v c3 rfl) (yl_ii (yl_v c3 rfl) (yl_int 1)) ?x0 ?x1))).eq ?e) (fun e => Bool.noConfusion e) fun _ H4 s4 c4 => hN _ _ _ s4 c4 ⟨_, rfl⟩
      case b =>
        have e1 : decide (0 ≤ e[i]) = true := decide_eq_true h0
        have e2 : decide (e[i] ≤ (n : Int) - 1) = true := decide_eq_true (by omega)
        rw [e1, e2]
        rfl
      case x0 =>
        have := of_decide_eq_true hi
        omega
      case x1 =>
        have hi2 := of_decide_eq_true hi
        have : ((i : Int) - 1).toNat = i - 1 := by omega
        rw [this, List.getElem?_map, List.getD_eq_getElem?_getD, List.getElem?_eq_getElem (by omega)]
        rfl
      case e =>
        cases i with
        | zero => rfl
        | succ i =>
          have h1 : e[i]? = some (e.getD i 0) := by rw [List.getD_eq_getElem?_getD, List.getElem?_eq_getElem (by omega)]; rfl
          have := asc_at he h1 hk
          have h2 : decide (e[i + 1] ≤ e.getD (i + 1 - 1) 0) = false := decide_eq_false (by rw [Nat.add_sub_cancel]; omega)
          rw [h2, Bool.and_false]
          rfl
    · obtain ⟨x, rfl⟩ := hc3
      exact sc_ret (σ := σ3) (yn_lst yla_nil (by decide)).yl r (s2.trans s3)⟩
theorem ok__law_is_word (T : Txt K mg aN) (F__law_effect_fault : Ok P w K mg base 3 "_law_effect_fault" p__law_effect_fault (sp__law_effect_fault K)) (F__law_is_tuple : Ok P w K mg base 1 "_law_is_tuple" p__law_is_tuple (sp__law_is_tuple K)) (F__law_is_whole : Ok P w K mg base 1 "_law_is_whole" p__law_is_whole (sp__law_is_whole K)) :
    Ok P w K mg base 4 "_law_is_word" p__law_is_word (sp__law_is_word K) :=
  Ok.mkD T.f__law_is_word sc__law_is_word (by intro ds d h; (repeat (obtain ⟨_, h⟩ := h)); subst_vars; rfl) fun f cdv A outer s H0 E hr => ⟨_, w__law_is_word T F__law_effect_fault F__law_is_tuple F__law_is_whole hr, fun ds d σ Q hi c r => by
    obtain ⟨n, ⟨e, g⟩, hn, ⟨he, hne, hg⟩, rfl, rfl⟩ := hi
    have ix0 : ∀ {σ : L2.St} {H : Hp}, Yl K (tVar 0) σ H (tW (e, g)) → Yl K (tOp (rIxT K) (tVar 0) (tC (.int 0))) σ H (tI e) := fun h => yl_ixT h (yl_int 0) (by decide) rfl
    have ix1 : ∀ {σ : L2.St} {H : Hp}, Yl K (tVar 0) σ H (tW (e, g)) → Yl K (tOp (rIxT K) (tVar 0) (tC (.int 1))) σ H (.int g) := fun h => yl_ixT h (yl_int 1) (by decide) rfl
    refine sc_if (b := false) c (yt_or (b := false) (yt_not (yt_b (b := true) (yl_call (yla_cons (yl_v c rfl) (yla_one (yl_int 2))) ⟨[tI e, .int g], 2, rfl, by simp⟩))) fun _ => yt_or (b := false)
      (yt_test ((yl_ne (b := true) (yl_call (yla_cons (ix0 (yl_v c rfl)) (yla_one (yl_v c rfl))) ⟨n, e, by omega, he, rfl, rfl⟩) (yn_lst yla_nil (by decide)).yl (shape_lR []) (shape_lR []) eqv_nil).eq rfl)) fun _ =>
      yt_test (yl_eq (ix0 (yl_v c rfl)) yl_nilT (shape_tI _) (shape_tI _) ?_)) (fun e => Bool.noConfusion e) fun _ H2 s2 c2 => ?_
    · rw [eqv_tI]
      exact decide_eq_false hne
    · refine sc_ret ((yl_and (b := true) (yl_call (yla_one (ix1 (yl_v c2 rfl))) ⟨g, rfl, rfl⟩) fun _ => yl_inI (neg := false) (ix1 (yl_v c2 rfl)) yl_one1).eq ?_) r s2
      rcases hg with rfl | rfl <;> rfl⟩
theorem ok__law_words_fault (T : Txt K mg aN) (F__law_is_word : Ok P w K mg base 4 "_law_is_word" p__law_is_word (sp__law_is_word K)) : Ok P w K mg base 5 "_law_words_fault" p__law_words_fault (sp__law_words_fault K) :=
  Ok.mkD T.f__law_words_fault sc__law_words_fault (by intro ds d h; (repeat (obtain ⟨_, h⟩ := h)); subst_vars; rfl) fun f cdv A outer s H0 E hr => ⟨_, w__law_words_fault T F__law_is_word hr, fun ds d σ Q hi c r => by
    obtain ⟨n, W, hn, hW, rfl, rfl⟩ := hi
    have hl := hW.len
    have yl_n : ∀ {σ2 : L2.St} {H2 : Hp} {cs : List (Option PyData)}, Ctx K σ2 H2 cs → cs[0]? = some (some (tWs W)) → Yl K (tCB (rLen K) (tCons (tVar 0) tNil)) σ2 H2 (.int W.length) := fun c e => yl_len (yl_v c e) ⟨.inl rfl, List.length_map ..⟩
    refine sc_if (b := false) c ((yt_or (yt_not (yt_b (b := true) (yl_isTup (yl_v c rfl)))) fun _ => yt_test (yl_ib (yl_n c rfl) (yl_int 6))).eq ?_) (fun e => Bool.noConfusion e) fun _ H2 s2 c2 => ?_
    · have : decide ((6 : Int) < (W.length : Int)) = false := decide_eq_false (by omega)
      rw [this]
      rfl
    · refine sc_set (d := .list []) c2 ((yc_flt c2 (rng W.length) .int .int (fun _ => false) (yi_range (yl_n c2 rfl) (by omega)) (by unfold rng; simp; omega) gw1 firm_int fun a ha => ⟨_, rfl, fun σ3 H3 s3 c3 => ⟨yt_not (yt_b (b := true) (yl_call (yla_cons (yl_ixT (d := tW (W.getD a.toNat ([], 0))) (yl_v c3 rfl) (yl_v c3 rfl) (mem_rng.mp ha).1 ?a1) (yla_one (yl_v c3 rfl))) ⟨n, W.getD a.toNat ([], 0), hn, hW.ok _ ?a2, rfl, rfl⟩)), fun e => Bool.noConfusion e⟩⟩).yl.eq ?a3) fun σ3 H3 s3 c3 => ?a4
      case a1 =>
        have h := mem_rng.mp ha
        have ht : a.toNat < W.length := by omega
        rw [List.getElem?_map, List.getD_eq_getElem?_getD, List.getElem?_eq_getElem ht]
        rfl
      case a2 =>
        have h := mem_rng.mp ha
        have ht : a.toNat < W.length := by omega
        rw [List.getD_eq_getElem?_getD, List.getElem?_eq_getElem ht]
        exact List.getElem_mem ht
      case a3 =>
        have : ((rng W.length).filter fun _ => false) = [] := by simp
        rw [this]
        rfl
      case a4 => exact sc_ret ((yn_slL (yl_v (d := .list []) c3 rfl) yo_none (yo_some (K := K) (yl_int 1))).yl.eq rfl) r (s2.trans s3)⟩
theorem ok__law_is_lot (T : Txt K mg aN) (F__law_effect_fault : Ok P w K mg base 3 "_law_effect_fault" p__law_effect_fault (sp__law_effect_fault K)) : Ok P w K mg base 4 "_law_is_lot" p__law_is_lot (sp__law_is_lot K) :=
  Ok.mkD T.f__law_is_lot sc__law_is_lot (by intro ds d h; (repeat (obtain ⟨_, h⟩ := h)); subst_vars; rfl) fun f cdv A outer s H0 E hr => ⟨_, w__law_is_lot T F__law_effect_fault hr, fun ds d σ Q hi c r => by
    obtain ⟨n, e, hn, he, rfl, rfl⟩ := hi
    exact sc_ret (yl_eq (yl_call (yla_cons (yl_v c rfl) (yla_one (yl_v c rfl))) ⟨n, e, hn, he, rfl, rfl⟩) (yn_lst yla_nil (by decide)).yl (shape_lR []) (shape_lR []) eqv_nil) r (Same.refl _)⟩
end K31W
set_option Elab.async false
set_option linter.all false
set_option maxRecDepth 100000
set_option maxHeartbeats 400000
/-! K31Sem5: the readings: effects (a list that grows), what is missing. -/
namespace K31W
open PySem PySem.Spec PyProof.Rows L2 K31
variable {P : Program} {w : World} {K : Fr} {mg : Str → Option Value} {base : Heap} {aN : Addr}
section
variable {σ : L2.St} {H H' : Hp} {cs : List (Option PyData)} {D : Ends} {t te : TE} {d : PyData} {g : TG} {tb : TS}
/-- a for over range(n), whatever its body does, from where n is reckoned -/
theorem rng_go {n : Nat} (hn : n ≤ 1000000) (Pv : Nat → L2.St → Hp → Prop) (h0 : Pv 0 σ H)
      (hs : ∀ i σ1 H1, i < n → Pv i σ1 H1 → g (.int (i : Nat)) σ1 H1 fun σ2 H3 => tb { D with nx := Pv (i + 1), ct := Pv (i + 1), bk := D.nx } σ2 H3) (hd : ∀ σ1 H1, Pv n σ1 H1 → D.nx σ1 H1) :
    ∃ j : Int, [V.int (n : Int)] = [V.int j] ∧ -(2 ^ 62) ≤ j ∧ j < 2 ^ 62 ∧ ∃ W : Nat → Nat → L2.St → Hp → Prop, (∃ m, W 0 m σ H) ∧ ∀ i m σ H, W i m σ H →
      ((Itr 0 j.toNat).stop i H ∧ D.nx σ H) ∨ ((Itr 0 j.toNat).go i H ∧ ∃ N : L2.St → Hp → Prop, (∀ σ' H', N σ' H' → ∃ m', m' < m ∧ W (i + 1) m' σ' H') ∧ ∀ x H', (Itr 0 j.toNat).yld i H x H' → g x σ H' fun σ2 H2 => tb { D with nx := N, ct := N, bk := D.nx } σ2 H2) := by
  refine ⟨n, rfl, by omega, by omega, ?_⟩
  have := for_it (walk_range (lo := 0) (n := n)) (D := D) (g := g) (tb := tb) Pv h0 (fun _ _ _ _ _ => trivial) (fun i x σ1 H1 H2 hi p y => by
    obtain ⟨rfl, rfl⟩ := y
    show g (.int (0 + (i : Int))) σ1 _ _
    rw [Int.zero_add]
    exact hs i σ1 _ hi p) hd
  rw [Int.toNat_natCast]
  exact this
theorem st_rangeY {n : Nat} (h : Yl K t σ H (.int n)) (hn : n ≤ 1000000) (Pv : Nat → L2.St → Hp → Prop) (h0 : ∀ H1, Same H H1 → Pv 0 σ H1)
      (hs : ∀ i σ1 H1, i < n → Pv i σ1 H1 → g (.int (i : Nat)) σ1 H1 fun σ2 H3 => tb { D with nx := Pv (i + 1), ct := Pv (i + 1), bk := D.nx } σ2 H3) (hd : ∀ σ1 H1, Pv n σ1 H1 → D.nx σ1 H1) : tFor (iRng1 (tCons t tNil)) g tb D σ H := by
  refine h H (Same.refl _) _ fun H1 x s1 hx => ?_
  cases int_inv hx
  exact rng_go hn Pv (h0 H1 s1) hs hd
theorem sc_append {i : Nat} {p : Addr} {acc : List V} (hσ : σ[i]? = some (some (.ref p))) (hp : H p = some (.lst acc)) (h : Yl K te σ H d) (hl : acc.length < 100000) (q : ∀ H2 y, Same H H2 → Dp K H2 y d → D.nx σ (upd H2 p (.lst (acc ++ [y])))) :
    tDrop (tBM K "list" rAppend (tVar i) (tCons te tNil)) D σ H :=
  ⟨.ref p, hσ, .inl ⟨rfl, acc, SqL.of hp⟩, h H (Same.refl _) _ fun H2 y s2 hy => ⟨p, acc, y, rfl, rfl, s2 _ _ hp, smallLt hl, q H2 y s2 hy⟩⟩
theorem Ctx.but {p : Addr} (c : Ctx K σ H cs) (b : But p H H') (hf : ∀ d, some d ∈ cs → firm d = true) : Ctx K σ H' cs := ⟨c.len, fun i d e => by
  obtain ⟨v, e1, hv⟩ := c.at_ i d e
  exact ⟨v, e1, dp_but b d v (hf d (List.mem_of_getElem? e)) hv⟩⟩
theorem yl_toInt {i : Int} (h : Yl K t σ H (.int i)) : Yl K (tCB rInt1 (tCons t tNil)) σ H (.int i) := yl_cb (yla_one h) fun H1 vs _ hv Q q => by
  obtain ⟨x, rfl, hx⟩ := one_inv hv
  cases int_inv hx
  exact .inl ⟨i, rfl, q H1 _ (Same.refl _) (.int i)⟩
end
theorem firms_tRL (R : List (List Int)) : firms (tR R) = true := firms_tR R
theorem ok__law_effects (T : Txt K mg aN) : Ok P w K mg base 1 "_law_effects" p__law_effects (sp__law_effects K) :=
  Ok.mkD T.f__law_effects sc__law_effects (by intro ds d h; (repeat (obtain ⟨_, h⟩ := h)); subst_vars; rfl) fun f cdv A outer s H0 E hr => ⟨_, w__law_effects T hr, fun ds d σ Q hi c r => by
    obtain ⟨n, h6, rfl, rfl⟩ := hi
    refine st_setN (K := K) (yn_lst yla_nil (by decide)) fun H2 p xs s2 hn hp hx => ?_
    cases hx
    have c2 : Ctx K (σ.set 1 (some (.ref p))) H2 [some (.int n), none, none, none] := (c.same s2).setU 1
    have hσ : (σ.set 1 (some (V.ref p)))[1]? = some (some (.ref p)) := List.getElem?_set_self (by rw [c.len]; exact (by decide : (1 : Nat) < 4))
    refine st_rangeY (n := 2 ^ n) (yl_pow (yl_v c2 rfl) (by omega)) (by have := pow64 h6; omega) (fun i σ1 H1 => Same H0 H1 ∧ σ1[1]? = some (some (.ref p)) ∧ (∃ x, (∀ d, x = some d → firm d = true) ∧ Ctx K σ1 H1 [some (.int n), none, x, none]) ∧ ∃ acc, H1 p = some (.lst acc) ∧ DpAll K H1 acc (tR ((List.range i).map (lEff1 n))))
      (fun H1 s1 => ⟨s2.trans s1, hσ, ⟨none, (fun d e => by cases e), c2.same s1⟩, [], s1 _ _ hp, .nil⟩) (fun i σ1 H1 hlt pv => ?_) fun σ1 H1 pv => ?_
    · obtain ⟨s1, hσ1, ⟨x, _, c1⟩, acc, ea, ha⟩ := pv
      have c3 : Ctx K (σ1.set 2 (some (.int (i : Nat)))) H1 [some (.int n), none, some (.int i), none] := c1.set (.int _) 2
      have hσ3 : (σ1.set 2 (some (V.int (i : Nat))))[1]? = some (some (.ref p)) := by rw [List.getElem?_set_ne (by decide)]; exact hσ1
      have tst : ∀ (a : Int) (hm : a ∈ rng n) (σ4 : L2.St) (H4 : Hp), Ctx K σ4 H4 [some (.int n), none, some (.int i), some (.int a)] →
          Yl K (tOp (rEqD K) (tOp (rI (fun _ j => 0 < j) fun i j => .int (i % j)) (tCB (rInt1) (tCons (tOp (rI (fun _ j => 0 ≤ j) fun i j => .int (i / 2 ^ j.toNat)) (tVar 2) (tVar 3)) tNil)) (tC (.int 2))) (tC (.int 1))) σ4 H4 (.bool (decide (((i : Int) / 2 ^ a.toNat) % 2 = 1))) := fun a hm σ4 H4 c4 => by
        have e1 : Yl K (tOp (rI (fun _ j => 0 ≤ j) fun i j => .int (i / 2 ^ j.toNat)) (tVar 2) (tVar 3)) σ4 H4 (.int ((i : Int) / 2 ^ a.toNat)) := yl_ic (C := fun _ j => 0 ≤ j) (g := fun i j => i / 2 ^ j.toNat) (i := (i : Int)) (j := a) (yl_v c4 rfl) (yl_v c4 rfl) (mem_rng.mp hm).1
        have e2 : Yl K (tOp (rI (fun _ j => 0 < j) fun i j => .int (i % j)) (tCB (rInt1) (tCons (tOp (rI (fun _ j => 0 ≤ j) fun i j => .int (i / 2 ^ j.toNat)) (tVar 2) (tVar 3)) tNil)) (tC (.int 2))) σ4 H4 (.int (((i : Int) / 2 ^ a.toNat) % 2)) := yl_ic (C := fun _ j => 0 < j) (g := fun i j => i % j) (yl_toInt e1) (yl_int 2) (by decide)
        exact yl_eq e2 (yl_int 1) (shape_int _) (shape_int _) (eqv_int _ _)
      refine sc_append (d := tI (lEff1 n i)) hσ3 ea ((yl_tupOf (yc_flt c3 (rng n) .int .int (fun a => decide (((i : Int) / 2 ^ a.toNat) % 2 = 1)) (yi_range (yl_v c3 rfl) (by omega)) (by unfold rng; simp; omega) (gw1 (i := 3)) firm_int fun a hm => ⟨_, rfl, fun σ4 H4 s4 c4 =>
        ⟨yt_test (tst a hm σ4 H4 c4), fun _ => yl_v c4 rfl⟩⟩).yl).eq ?_) ?_ fun H4 y s4 hy => ?_
      · unfold lEff1 tI
        congr 3
        funext a
        rw [decide_eq_decide]
        have : ((i : Int) / 2 ^ a.toNat) % 2 = ((i / 2 ^ a.toNat % 2 : Nat) : Int) := by
          rw [Int.natCast_emod, Int.natCast_ediv, Int.natCast_pow]
          rfl
        rw [this]
        omega
      · rw [dps_len ha, tR_len, List.length_map, List.length_range]
        have := pow64 h6
        omega
      · have e4 := s4 _ _ ea
        have bu : But p H4 (upd H4 p (.lst (acc ++ [y]))) := but_upd (Same.refl _) e4
        refine ⟨Same.own (s1.trans s4) hn, hσ3, ⟨some (.int i), (fun d e => by cases e; exact firm_int _), (c3.same s4).but bu fun d hd => ?_⟩, acc ++ [y], upd_same, ?_⟩
        · have : d = .int n ∨ d = .int i := by simpa using hd
          rcases this with rfl | rfl <;> exact firm_int _
        · rw [List.range_succ, List.map_append]
          unfold tR
          rw [List.map_append]
          exact dps_snoc_but bu (dps_same s4 _ _ ha) (firms_tR _) hy (firm_tI _)
    · obtain ⟨s1, hσ1, ⟨x, _, c1⟩, acc, ea, ha⟩ := pv
      refine sc_ret (yn_sortR (R := (List.range (2 ^ n)).map (lEff1 n)) (yl_var hσ1 (.lst (SqL.of ea) ha)) (.inr rfl) (.inr ?_)).yl r s1
      obtain ⟨m, hm⟩ : ∃ m, 2 ^ n = m + 1 := ⟨2 ^ n - 1, by have := Nat.two_pow_pos n; omega⟩
      rw [hm, List.range_succ_eq_map, List.map_cons, List.head?_cons]
      unfold lEff1
      simp⟩
/-- the product so far -/
def pf (n : Nat) (R : List (List Int)) (l : List Int) : List Int := l.foldl (fun g a => mul g (R.getD a.toNat [])) (List.replicate n 1)
theorem pf_snoc (n : Nat) (R : List (List Int)) (l : List Int) (a : Int) : pf n R (l ++ [a]) = mul (pf n R l) (R.getD a.toNat []) := by unfold pf; rw [List.foldl_append]; rfl
theorem pf_run {n : Nat} {R : List (List Int)} (hp : Plan n R) : ∀ (l : List Int) (g : List Int), IsRun n g → (∀ a ∈ l, 0 ≤ a ∧ a < (R.length : Int)) → IsRun n (l.foldl (fun g a => mul g (R.getD a.toNat [])) g)
  | [], g, h, _ => h
  | a :: l, g, h, ha => pf_run hp l _ (mul_isRun h (hp.hR _ (by
      have := ha a List.mem_cons_self
      rw [List.getD_eq_getElem?_getD, List.getElem?_eq_getElem (by omega)]
      exact List.getElem_mem _))) fun x hx => ha x (List.mem_cons_of_mem _ hx)
theorem zip2_eq : ∀ (a b : List Int), List.zipWith (fun d e => PyData.tuple [d, e]) (a.map PyData.int) (b.map PyData.int) = (a.zip b).map fun p => .tuple [.int p.1, .int p.2]
  | [], _ => by simp
  | _ :: _, [] => by simp
  | x :: a, y :: b => by simp only [List.map_cons, List.zip_cons_cons, List.zipWith_cons_cons, zip2_eq a b]
theorem mul_eq : ∀ (a b : List Int), (a.zip b).map (fun p => p.1 * p.2) = mul a b
  | [], _ => by simp [mul]
  | _ :: _, [] => by simp [mul]
  | x :: a, y :: b => by
    have := mul_eq a b
    simp only [mul, List.zip_cons_cons, List.map_cons, List.zipWith_cons_cons] at this ⊢
    rw [this]
structure Lot (n : Nat) (R : List (List Int)) (p : List Int) : Prop where
  eff : IsEff R.length p
  two : p.length = 2 ∨ p.length = 3
  e2 : p.length = 2 → R.getD (p.getD 0 0).toNat [] = R.getD (p.getD 1 0).toNat []
  e3 : p.length = 3 → pf n R p ∉ R
theorem lot_of {n : Nat} {R : List (List Int)} {p : List Int} (hp : Plan n R) (h : PaperOk R p) : Lot n R p := by
  cases h with
  | two i j h1 h2 h3 =>
    refine ⟨⟨by simp; omega, fun x hx => ?_, fun x hx => ?_⟩, .inl rfl, fun _ => by simpa using h3, fun z => by simp at z⟩
    · have : x = i ∨ x = j := by simpa using hx
      omega
    · have : x = i ∨ x = j := by simpa using hx
      omega
  | three a b c h1 h2 h3 h4 =>
    have run : ∀ k, k < R.length → IsRun n (R.getD k []) := fun k hk => hp.hR _ (by
      rw [List.getD_eq_getElem?_getD, List.getElem?_eq_getElem hk]
      exact List.getElem_mem _)
    refine ⟨⟨by simp; omega, fun x hx => ?_, fun x hx => ?_⟩, .inr rfl, fun z => by simp at z, fun _ => ?_⟩
    · have : x = a ∨ x = b ∨ x = c := by simpa using hx
      omega
    · have : x = a ∨ x = b ∨ x = c := by simpa using hx
      omega
    · have e : pf n R [(a : Int), (b : Int), (c : Int)] = prod3 (R.getD a []) (R.getD b []) (R.getD c []) := by
        show mul (mul (mul (List.replicate n 1) (R.getD (a : Int).toNat [])) (R.getD (b : Int).toNat [])) (R.getD (c : Int).toNat []) = _
        rw [Int.toNat_natCast, Int.toNat_natCast, Int.toNat_natCast, ones_mul (run a (by omega))]
        rfl
      rw [e]
      exact h4
theorem ok__law_is_missing (T : Txt K mg aN) (F__law_is_lot : Ok P w K mg base 4 "_law_is_lot" p__law_is_lot (sp__law_is_lot K)) : Ok P w K mg base 5 "_law_is_missing" p__law_is_missing (sp__law_is_missing K) :=
  Ok.mkD T.f__law_is_missing sc__law_is_missing (by intro ds d h; (repeat (obtain ⟨_, h⟩ := h)); subst_vars; rfl) fun f cdv A outer s H0 E hr => ⟨_, w__law_is_missing T F__law_is_lot hr, fun ds d σ Q hi c r => by
    obtain ⟨n, R, p, hp, hpap, rfl, rfl⟩ := hi
    have L := lot_of hp hpap
    have hl := hp.hl
    have h1 := hp.h1
    have h6 := hp.h6
    have ep : ∀ i, i < p.length → ((p.map PyData.int)[i]? = some (.int (p.getD i 0)) ∧ 0 ≤ p.getD i 0 ∧ p.getD i 0 < (R.length : Int)) := fun i hi => by
      have e : p[i]? = some (p.getD i 0) := by rw [List.getD_eq_getElem?_getD, List.getElem?_eq_getElem hi]; rfl
      refine ⟨by rw [List.getElem?_map, e]; rfl, L.eff.lo _ (List.mem_of_getElem? e), L.eff.hi _ (List.mem_of_getElem? e)⟩
    have lenR : ∀ {σ2 : L2.St} {H2 : Hp} {cs : List (Option PyData)}, Ctx K σ2 H2 cs → cs[0]? = some (some (.tuple (tR R))) → Yl K (tCB (rLen K) (tCons (tVar 0) tNil)) σ2 H2 (.int R.length) := fun c e => yl_len (yl_v c e) ⟨.inl rfl, tR_len R⟩
    have lenp : ∀ {σ2 : L2.St} {H2 : Hp} {cs : List (Option PyData)}, Ctx K σ2 H2 cs → cs[1]? = some (some (tI p)) → Yl K (tCB (rLen K) (tCons (tVar 1) tNil)) σ2 H2 (.int p.length) := fun c e => yl_len (yl_v c e) ⟨.inl rfl, List.length_map ..⟩
    refine sc_if (b := false) c ((yt_or (yt_not (yt_b (b := true) (yl_call (yla_cons (yl_v c rfl) (yla_one (lenR c rfl))) ⟨R.length, p, by omega, L.eff, rfl, rfl⟩))) fun _ => yt_test (yl_inI (neg := true) (ns := [2, 3]) (lenp c rfl) (yl_tup (yla_cons (yl_int 2) (yla_one (yl_int 3))) (by decide)))).eq ?_) (fun e => Bool.noConfusion e) fun _ H2 s2 c2 => ?_
    · rcases L.two with e | e <;> rw [e] <;> rfl
    · refine sc_set (d := tI (pf n R [])) c2 ((yl_mulT (k := n) (ns := [1]) (yl_tup (yla_one (yl_int 1)) (small (by simp))) (yl_few hp (yl_v c2 rfl)) rfl (by simp) h1 (by omega) (by simp)).eq ?_) fun σ3 H3 s3 c3 => ?_
      · unfold pf
        congr 1
        show (List.replicate n [(1 : Int)]).flatten = List.replicate n 1
        rw [List.flatten_replicate_singleton]
      refine sc_for c3 (yi_tup (yl_v c3 rfl)) gt1 (fun i cs => ∃ x, cs = [some (.tuple (tR R)), some (tI p), some (tI (pf n R (p.take i))), x, none, none]) ⟨none, rfl⟩ (fun i d cs1 hd hc => ?_) fun σ4 H4 cs4 s4 c4 hc4 => ?_
      · obtain ⟨x, rfl⟩ := hc
        obtain ⟨k, hk, rfl⟩ := tI_at hd
        have hm := List.mem_of_getElem? hk
        have h0 := L.eff.lo k hm
        have h9 := L.eff.hi k hm
        refine ⟨_, rfl, fun σ4 H4 N s4 c4 hN => ?_⟩
        have hg : IsRun n (pf n R (p.take i)) := pf_run hp _ _ (ones_isRun n) fun a ha => ⟨L.eff.lo a (List.mem_of_mem_take ha), L.eff.hi a (List.mem_of_mem_take ha)⟩
        have hb : IsRun n (R.getD k.toNat []) := hp.hR _ (by
          rw [List.getD_eq_getElem?_getD, List.getElem?_eq_getElem (by omega)]
          exact List.getElem_mem _)
        have hi : YI K (RZ.iZipA K (tCons (tVar 2) (tCons (tOp (rIxT K) (tVar 0) (tVar 3)) tNil))) σ4 H4 (((pf n R (p.take i)).zip (R.getD k.toNat [])).map fun p => .tuple [.int p.1, .int p.2]) := by
          rw [← zip2_eq]
          exact yi_zip (yl_v (i := 2) (d := tI (pf n R (p.take i))) c4 rfl) (yl_ixT (d := tI (R.getD k.toNat [])) (yl_v c4 rfl) (yl_v c4 rfl) h0 (tR_at (by omega)))
        refine sc_set c4 (yl_tupOf (yc_map c4 ((pf n R (p.take i)).zip (R.getD k.toNat [])) _ (fun q => .int (q.1 * q.2)) hi (by rw [List.length_zip, hg.len]; omega) (gw2 (by decide)) (fun _ => firm_int _) fun q hq => ⟨_, ⟨_, _, rfl, rfl⟩, fun σ5 H5 s5 c5 => ?_⟩).yl) fun σ5 H5 s5 c5 => hN _ _ _ s5 c5 ⟨some (.int k), ?_⟩
        · obtain ⟨x, y⟩ := q
          exact yl_ic (yl_v c5 rfl) (yl_v c5 rfl) (pm_mul1 (hg.pm x (List.of_mem_zip hq).1))
        · rw [List.take_add_one, hk, mapI, mul_eq]
          show _ = [some (PyData.tuple (tR R)), some (tI p), some (tI (pf n R (p.take i ++ [k]))), some (.int k), none, none]
          rw [pf_snoc]
          rfl
      · obtain ⟨x, rfl⟩ := hc4
        rw [List.length_map, List.take_length] at c4
        have ixp : ∀ j : Nat, j < p.length → Yl K (tOp (rIxT K) (tVar 1) (tC (.int j))) σ4 H4 (.int (p.getD j 0)) := fun j hj => yl_ixT (yl_v c4 rfl) (yl_int j) (by omega) (by rw [Int.toNat_natCast]; exact (ep j hj).1)
        have ixR : ∀ j : Nat, j < p.length → Yl K (tOp (rIxT K) (tVar 0) (tOp (rIxT K) (tVar 1) (tC (.int j)))) σ4 H4 (tI (R.getD (p.getD j 0).toNat [])) := fun j hj => yl_ixT (yl_v c4 rfl) (ixp j hj) (ep j hj).2.1 (tR_at (by have := (ep j hj).2; omega))
        refine sc_ret (yl_if (yt_test (yl_eq (lenp c4 rfl) (yl_int 2) (shape_int _) (shape_int _) (eqv_int _ _))) (fun e => ?_) fun e => ?_) r (s2.trans (s3.trans s4))
        · have e : p.length = 2 := by have := of_decide_eq_true e; omega
          refine yl_eq (ixR 0 (by omega)) (ixR 1 (by omega)) (shape_tI _) (shape_tI _) ?_
          rw [eqv_tI]
          exact decide_eq_true (L.e2 e)
        · have e : p.length = 3 := by
            have := of_decide_eq_false e
            rcases L.two with z | z <;> omega
          refine (yl_inR (neg := true) (yl_v c4 rfl) (yl_v c4 rfl) (.inl rfl)).eq ?_
          have : decide (pf n R p ∈ R) = false := decide_eq_false (L.e3 e)
          rw [this]
          rfl⟩
end K31W
set_option Elab.async false
set_option linter.all false
set_option maxRecDepth 100000
set_option maxHeartbeats 400000
/-! K31Dict: dicts whose keys are tuples of whole numbers (tracked or written), told by their keys. -/
namespace K31W
open PySem PySem.Spec PyProof.Rows L2
abbrev kI (P : Program) (w : World) : HeapKind P w (List Int) := tupleKind (intKind P w)
abbrev Ents := List (List Int × Addr × Value)
def ExO (d : Addr) (o : Obj) : HO := .ext fun h => h.get? d = some o
structure DKs (P : Program) (w : World) (K : Fr) (H : Hp) (d : Addr) (xs : Ents) : Prop where
  sm : (d == sysModules) = false
  len : xs.length ≤ 100000
  obj : ∃ o es ep, H d = some (ExO d o) ∧ o.ExactDict ∧ o.data = .dict es ep ∧ es.toList = xs.map (entryOfKey (kI P w))
  nd : (xs.map (·.1)).Nodup
  key : ∀ x ∈ xs, SqT K H x.2.1 (x.1.map V.int)
def keysOf (xs : Ents) : List (List Int) := xs.map (·.1)
section
variable {P : Program} {w : World} {K : Fr} {H H' : Hp} {d a : Addr} {xs : Ents} {k : List Int}
theorem DKs.same (D : DKs P w K H d xs) (s : Same H H') : DKs P w K H' d xs := by
  obtain ⟨o, es, ep, e, r⟩ := D.obj
  exact ⟨D.sm, D.len, ⟨o, es, ep, s _ _ e, r⟩, D.nd, fun x hx => Same.tp s (D.key x hx)⟩
theorem items_int : ∀ {k : List Int} {us : List Value}, Vals (k.map V.int) us → ItemsAre (intKind P w) k us
  | [], _, .nil => .nil
  | n :: k, _, .cons r t => by
    obtain ⟨tk, rfl⟩ := r
    exact .cons (intKind_is P w n tk) (items_int t)
theorem at_key : ∀ (xs : Ents) (k : List Int), (atKey xs k).isSome = decide (k ∈ keysOf xs)
  | [], k => by simp [atKey, keysOf]
  | x :: xs, k => by
    have ih := at_key xs k
    unfold keysOf at *
    by_cases e : x.1 = k
    · simp [atKey, List.find?_cons, e]
    · have e' : ¬ k = x.1 := fun z => e z.symm
      simp only [atKey, List.find?_cons, e, decide_false, List.map_cons, List.mem_cons, e', false_or]
      exact ih
theorem stored_keys (xs : Ents) (k : List Int) (a : Addr) (v : Value) : keysOf (storedH xs k a v) = K31.put (keysOf xs) k := by
  unfold storedH K31.put
  rw [at_key]
  by_cases h : k ∈ keysOf xs
  · rw [decide_eq_true h, if_pos rfl, if_pos h]
    exact keys_map_putAt xs k v
  · rw [decide_eq_false h, if_neg Bool.false_ne_true, if_neg h]
    unfold keysOf
    rw [List.map_append]
    rfl
theorem stored_key (xs : Ents) {k : List Int} {a : Addr} {v : Value} (h : ∀ x ∈ xs, SqT K H x.2.1 (x.1.map V.int)) (ha : SqT K H a (k.map V.int)) : ∀ x ∈ storedH xs k a v, SqT K H x.2.1 (x.1.map V.int) := by
  intro x hx
  unfold storedH at hx
  split at hx
  · obtain ⟨y, hy, e⟩ := List.mem_map.mp hx
    have := h y hy
    unfold putAt at e
    split at e <;> (rw [← e]; exact this)
  · rcases List.mem_append.mp hx with g | g
    · exact h x g
    · rw [List.mem_singleton.mp g]
      exact ha
theorem ext_ok {h : Heap} {o : Obj} (ho : h.get? d = some o) : ObjOk P w H h d (ExO d o) := ⟨ho, ⟨o, ho⟩, fun h1 h2 p k => k o p⟩
end
section
variable {X : Cx} {pins : List (Addr × Obj)} {σ : L2.St} {H : Hp} {s : Shared} {d a : Addr} {xs : Ents} {k : List Int}
theorem isK (I : Inv X pins σ H s) (h : SqT X.K H a (k.map V.int)) : (kI X.prog X.w).is s.heap k a := by
  obtain ⟨its, r, ⟨o, ho, hc, n, hd⟩, _⟩ := I.tuple h
  exact ⟨o, its.toArray, n, ho, hc, hd, by simpa using items_int r⟩
theorem DKs.of (D : DKs X.prog X.w X.K H d xs) (I : Inv X pins σ H s) : s.heap.DictOfH (kI X.prog X.w) d xs := by
  obtain ⟨o, es, ep, e, hx, hd, he⟩ := D.obj
  have ho : s.heap.get? d = some o := (I.hok d _ e).1
  exact ⟨o, es, ep, ho, hx, hd, he, fun x hx => isK I (D.key x hx), D.nd⟩
/-- x in d, x not in d -/
def rInK (P : Program) (w : World) (K : Fr) (neg : Bool) : R2 := fun x y H Q => ∃ a d k xs, x = .ref a ∧ y = .ref d ∧ SqT K H a (k.map V.int) ∧ DKs P w K H d xs ∧ Q (.bl (if neg then !decide (k ∈ keysOf xs) else decide (k ∈ keysOf xs))) H
theorem op_inK (hu : X.A.units + 65 < cLine) : OpR X (compareOp .In) (rInK X.prog X.w X.K false) := by
  intro pins s σ H x y v u Q I rx ry h
  obtain ⟨a, d, k, xs, rfl, rfl, hk, hD, q⟩ := h
  cases rx
  cases ry
  refine wpAny_in_heap (knd := kI X.prog X.w) (by show X.A.units + 1 < cLine; omega) (isK I hk) hD.sm (hD.of I) ⟨.bl _, H, I.tok _, rfl, ?_⟩
  rw [at_key]
  exact q
theorem op_inKN (hu : X.A.units + 65 < cLine) : OpR X (compareOp .NotIn) (rInK X.prog X.w X.K true) := by
  intro pins s σ H x y v u Q I rx ry h
  obtain ⟨a, d, k, xs, rfl, rfl, hk, hD, q⟩ := h
  cases rx
  cases ry
  refine wpAny_notIn_heap (knd := kI X.prog X.w) (by show X.A.units + 1 < cLine; omega) (isK I hk) hD.sm (hD.of I) ⟨.bl _, H, I.tok _, rfl, ?_⟩
  rw [at_key]
  exact q
/-- the dict written -/
theorem wrote {h' : Heap} {t' : Nat} {o0 : Obj} {ys : Ents} (I : Inv X pins σ H s) (e0 : H d = some (ExO d o0)) (sm : (d == sysModules) = false) (hl : ys.length ≤ 100000) (sb : Heap.SameBut d s.heap h') (hm : h'.DictOfH (kI X.prog X.w) d ys)
    (hk : ∀ o, ∀ x ∈ ys, SqT X.K (upd H d (ExO d o)) x.2.1 (x.1.map V.int)) : ∃ o, Inv X pins σ (upd H d (ExO d o)) { s with heap := h', toks := t' } ∧ DKs X.prog X.w X.K (upd H d (ExO d o)) d ys := by
  obtain ⟨o, es, ep, ho, hx, hd, he, _, hn⟩ := hm
  refine ⟨o, I.write (x := d) (e := d) (by rw [e0]; exact True.intro) (.inl rfl) (fun b u hb q => (sb.2 b hb).trans q) ⟨_, ho⟩ (ext_ok ho), sm, hl, ⟨o, es, ep, upd_same, hx, hd, he⟩, hn, hk o⟩
theorem sq_upd {o0 o : Obj} {ys : List V} {K : Fr} (e0 : H d = some (ExO d o0)) (h : SqT K H a ys) : SqT K (upd H d (ExO d o)) a ys := by
  rcases h with (h | ⟨ob, h⟩) | h
  · exact .inl (.inl (by rw [upd_ne (fun z => by rw [z, e0] at h; cases h)]; exact h))
  · exact .inl (.inr ⟨ob, by rw [upd_ne (fun z => by rw [z, e0] at h; cases h)]; exact h⟩)
  · exact .inr h
/-- d[k] = b -/
def tPutK (P : Program) (w : World) (K : Fr) : TSet := fun o i v H Q => ∃ d a k xs b, o = .ref d ∧ i = .ref a ∧ v = .bl b ∧ SqT K H a (k.map V.int) ∧ DKs P w K H d xs ∧ xs.length < 100000 ∧
  ∀ o' xs', keysOf xs' = K31.put (keysOf xs) k → (∀ x ∈ xs', x.2.1 = a ∨ ∃ y ∈ xs, x.2.1 = y.2.1) → DKs P w K (upd H d (ExO d o')) d xs' → Q (upd H d (ExO d o'))
theorem stored_at (xs : Ents) (k : List Int) (a : Addr) (v : Value) : ∀ x ∈ storedH xs k a v, x.2.1 = a ∨ ∃ y ∈ xs, x.2.1 = y.2.1 := by
  intro x hx
  unfold storedH at hx
  split at hx
  · obtain ⟨y, hy, e⟩ := List.mem_map.mp hx
    refine .inr ⟨y, hy, ?_⟩
    unfold putAt at e
    split at e <;> rw [← e]
  · rcases List.mem_append.mp hx with g | g
    · exact .inr ⟨x, g, rfl⟩
    · rw [List.mem_singleton.mp g]
      exact .inl rfl
theorem set_K (hu : X.A.units + 65 < cLine) : PSet X (tPutK X.prog X.w X.K) := by
  intro pins s σ H o i v ov iv u Q I ro ri rv h
  obtain ⟨d, a, k, xs, b, rfl, rfl, rfl, hk, hD, hz, q⟩ := h
  cases ro
  cases ri
  cases rv
  obtain ⟨o0, _, _, e0, _⟩ := hD.obj
  refine wpAny_setItem_heap (knd := kI X.prog X.w) (by show X.A.units + 1 < cLine; omega) (isK I hk) (hD.of I) (fun h' hm sb => ?_) (small (by omega))
  have hl : (storedH xs k a (.bool b)).length ≤ 100000 := by
    unfold storedH
    split
    · rw [List.length_map]; omega
    · rw [List.length_append]; simp; omega
  obtain ⟨o1, I1, D1⟩ := wrote (t' := s.toks + (kI X.prog X.w).draws k) I e0 hD.sm hl sb hm fun o x hx => sq_upd e0 (stored_key xs hD.key hk x hx)
  exact ⟨_, I1, q o1 _ (stored_keys xs k a _) (stored_at xs k a _) D1⟩
/-- {k: b} -/
def tDNew1 (P : Program) (w : World) (K : Fr) (tk tv : TE) : TE := fun σ H Q => ∀ d o0, H d = none → tk σ (upd H d (ExO d o0)) fun x H1 => tv σ H1 fun y H2 => H2 d = some (ExO d o0) ∧ ∃ a k b, x = .ref a ∧ y = .bl b ∧ SqT K H2 a (k.map V.int) ∧
  ∀ o xs', keysOf xs' = [k] → DKs P w K (upd H2 d (ExO d o)) d xs' → Q (.ref d) (upd H2 d (ExO d o))
theorem pe_dnew1 {ke ve : Expr} {pos : Pos} {tk tv : TE} (hu : X.A.units + 65 < cLine) (hk : PE X ke tk) (hv : PE X ve tv)
    (hs : (evalEachOpt [some ke] X.env).zip ((evalEach [ve] X.env).map fun v => do let x ← v; standAt pos; pure x) = [(eval ke X.env, do let x ← eval ve X.env; standAt pos; pure x)].map fun p => (some p.1, p.2) := by rfl) :
    PE X (.Dict [some ke] [ve] pos) (tDNew1 X.prog X.w X.K tk tv) := by
  refine ⟨fun pins s σ H Q I h => ?_⟩
  rw [arm_eval_Dict, hs, dictDisplay_pairs _ (by simp) (by simp)]
  refine wpAny_bind (wpAny_standAt (wpAny_bind (wpAny_subDictH (knd := kI X.prog X.w) (Q := fun d s' => wpAny (model X.prog X.w) X.A (pure (Value.ref d)) (EP X pins σ Q) X.xe s') (by show X.A.units < cLine; omega) (by simp) ?_)))
  have hd : (s.heap.push { cls := .type "dict", data := .dict #[] }).get? s.heap.objs.size = some { cls := .type "dict", data := .dict #[] } := Heap.get?_push_size _ rfl
  have I1 : Inv X pins σ (upd H s.heap.objs.size (ExO s.heap.objs.size { cls := .type "dict", data := .dict #[] })) { s with heap := s.heap.push { cls := .type "dict", data := .dict #[] } } :=
    I.laid (t' := s.toks) (fun b o e => Heap.get?_push_of_some _ e) (Nat.le_refl _) (ext_ok hd)
  have h := h s.heap.objs.size { cls := .type "dict", data := .dict #[] } (I.hok.fresh (Nat.le_refl _))
  have sm : (s.heap.objs.size == sysModules) = false := by
    have := I.big
    exact beq_false_of_ne (Nat.ne_of_gt this)
  show wpAny _ _ (do
    let kv ← eval ke X.env
    let vv ← holding [kv] (do let x ← eval ve X.env; standAt pos; pure x)
    return (kv, vv) :: (← holding [kv, vv] (evalPairs []))) _ _ _
  refine wpAny_bind (thn (hk.run pins _ σ _ _ I1 h) fun u s1 ⟨x, H1, J1, rx, h1⟩ => ?_)
  refine wpAny_bind (wpAny_holding (wpAny_bind (thn (hv.run pins _ σ _ _ J1 h1) fun v s2 ⟨y, H2, J2, ry, e2, a, k, b, ex, ey, hS, q⟩ => wpAny_bind (wpAny_standAt (wpAny_pure ?_)))))
  subst ex ey
  cases rx
  cases ry
  refine wpAny_bind (wpAny_holding (wpAny_pure (wpAny_pure ?_)))
  have ho : s2.heap.get? s.heap.objs.size = some { cls := .type "dict", data := .dict #[] } := (J2.hok _ _ e2).1
  refine ⟨[(k, a, .bool b)], ⟨rfl, rfl, isK J2 hS, trivial⟩, ⟨_, #[], 0, ho, ⟨rfl, rfl, rfl⟩, rfl, rfl, fun _ hx => by simp at hx, List.nodup_nil⟩, fun h' tk hm sb => ?_⟩
  have hm : h'.DictOfH (kI X.prog X.w) s.heap.objs.size [(k, a, .bool b)] := hm
  obtain ⟨o1, K1, D1⟩ := wrote (t' := tk) J2 e2 sm (by simp) sb hm fun o x hx => by
    rw [List.mem_singleton.mp hx]
    exact sq_upd e2 hS
  exact wpAny_pure ⟨.ref s.heap.objs.size, _, K1, rfl, q o1 _ rfl D1⟩
/-- list(d) -/
def rListK (P : Program) (w : World) (K : Fr) : List V → Hp → VK → Prop := fun vs H Q => ∃ d xs, vs = [.ref d] ∧ DKs P w K H d xs ∧ ∀ p, H p = none → Q (.ref p) (upd H p (.lst (xs.map fun x => V.ref x.2.1)))
theorem call_listK (hc : X.calm = true) : CallR X (.type "list") (rListK X.prog X.w X.K) := by
  intro pins s σ H vs us Q I r h
  obtain ⟨d, xs, rfl, hD, q⟩ := h
  rw [Vals.ref1 r]
  obtain ⟨o, es, ep, e, hx, hdt, he⟩ := hD.obj
  have ho : s.heap.get? d = some o := (I.hok d _ e).1
  have l1 : es.size = xs.length := size_of_entries he
  refine PySem.W.kdl_call (kdl_raw hD.sm hx hdt) (I.ok.hd hc) ho (by rw [l1]; exact small hD.len) fun h' tk acc c' kp eS it => ?_
  have ea : acc.toList = xs.map fun x => Value.ref x.2.1 := by
    apply List.ext_getElem?
    intro j
    by_cases hj : j < xs.length
    · have hja : j < acc.toList.length := by rw [Array.length_toList, it.1, l1]; exact hj
      obtain ⟨en, hen, hv⟩ := it.2 j acc.toList[j] (by rw [← Array.getElem?_toList]; exact List.getElem?_eq_getElem hja)
      have qe := entry_at he j
      rw [hen, List.getElem?_eq_getElem hj] at qe
      cases Option.some.inj qe
      rw [List.getElem?_eq_getElem hja, hv, List.getElem?_map, List.getElem?_eq_getElem hj]
      rfl
    · rw [List.getElem?_eq_none (by rw [Array.length_toList, it.1, l1]; omega), List.getElem?_eq_none (by rw [List.length_map]; omega)]
  have rv : Vals (xs.map fun x => V.ref x.2.1) acc.toList := by
    rw [ea]
    clear ea it eS l1 he hdt e ho hD q
    induction xs with
    | nil => exact .nil
    | cons x xs ih => exact .cons rfl ih
  refine ⟨.ref s.heap.objs.size, _, I.laid (t' := tk) (o := .lst (xs.map fun x => V.ref x.2.1)) kp (Nat.le_refl _) ⟨by rw [List.length_map]; exact small hD.len, acc.toList, c', rv, by rw [Array.toArray_toList]; exact eS⟩, rfl, q _ (I.hok.fresh (Nat.le_refl _))⟩
end
end K31W
set_option Elab.async false
set_option linter.all false
set_option maxRecDepth 100000
set_option maxHeartbeats 400000
/-! K31DictC: y = {x: True for x in t}, t a tuple of tuples of whole numbers. -/
namespace K31W
open PySem PySem.Spec PyProof.Rows L2
/-- y (slot i) = {x: True for x in e} -/
def tSetDc (P : Program) (w : World) (K : Fr) (te : TE) (i : Nat) : TS := fun Dn σ H => te σ H fun x H1 => ∃ a R, x = .ref a ∧ Dp K H1 (.ref a) (.tuple (tR R)) ∧ R.length ≤ 1000 ∧
  ∀ d o xs, H1 d = none → keysOf xs = R.foldl K31.put [] → DKs P w K (upd H1 d (ExO d o)) d xs → Dn.nx (σ.set i (some (.ref d))) (upd H1 d (ExO d o))
theorem ref_of {K : Fr} {H : Hp} : ∀ {vs : List V} {us : List Value} {R : List (List Int)} {i : Nat} {u : Value}, DpAll K H vs (tR R) → Vals vs us → us[i]? = some u → ∃ (a : Addr) (ns : List Int), u = .ref a ∧ R[i]? = some ns ∧ SqT K H a (ns.map V.int)
  | _, _, [], i, u, h, r, e => by
    cases h
    cases r
    simp at e
  | _, _, x :: R, 0, u, h, r, e => by
    cases h with
    | cons h1 h2 =>
      cases r with
      | cons r1 r2 =>
        obtain ⟨a, rfl, hs⟩ := tI_inv h1
        cases r1
        have e := Option.some.inj e
        exact ⟨a, x, e.symm, rfl, hs⟩
  | _, _, x :: R, i + 1, u, h, r, e => by
    cases h with
    | cons h1 h2 =>
      cases r with
      | cons r1 r2 => exact ref_of (i := i) h2 r2 (by simpa using e)
theorem tR_len' (R : List (List Int)) : (tR R).length = R.length := List.length_map ..
section
variable {X : Cx}
/-- the loop's ledger: what stood stands, the block's names at C, the keys so far at D -/
structure Led (X : Cx) (H1 : Hp) (s1 s2 : Shared) (D C : Addr) (R : List (List Int)) (i : Nat) (t : Shared) : Prop where
  only : ∃ h tk, t = { s2 with heap := h, toks := tk }
  old : ∀ b o, s1.heap.get? b = some o → t.heap.get? b = some o
  ns : ∃ m, t.heap.Ns C m
  ys : ∃ (ys : Ents) (o : Obj) (es : Array DictEntry) (ep : Nat), t.heap.get? D = some o ∧ o.ExactDict ∧ o.data = .dict es ep ∧ es.toList = ys.map (entryOfKey (kI X.prog X.w)) ∧ keysOf ys = (R.take i).foldl K31.put [] ∧ (keysOf ys).Nodup ∧ (∀ x ∈ ys, SqT X.K H1 x.2.1 (x.1.map V.int)) ∧ ys.length ≤ i
theorem is_kept {P : Program} {w : World} {h h' : Heap} {k : List Int} {a : Addr} (x : (kI P w).is h k a) (old : ∀ b o, h.get? b = some o → h'.get? b = some o) : (kI P w).is h' k a := by
  obtain ⟨o, its, n, ho, r⟩ := x
  exact ⟨o, its, n, old _ _ ho, r⟩
theorem stored_len (xs : Ents) (k : List Int) (a : Addr) (v : Value) : (storedH xs k a v).length ≤ xs.length + 1 := by
  unfold storedH
  split
  · rw [List.length_map]
    exact Nat.le_succ _
  · rw [List.length_append]
    exact Nat.le_refl _
theorem ps_setDc {i : Nat} {y x : Str} {py px kp : Pos} {iter : Expr} {scope : Scope} {kk : Nat} {cp pos spos : Pos} {te : TE} (hu : X.A.units + 65 < cLine) (hc : X.calm = true) (hN : X.N.Nodup) (hy : X.N[i]? = some y) (hyl : X.env.scope.names.lookup y = some .local)
    (hsw : swapsWith (.DictComp (.Name x kp) (.Constant (.bool true) kk cp) [⟨.Name x px, iter, [], 0⟩] scope pos) (some (.Name y py)) spos.line X.env = pure true) (hi : PE X iter te)
    (hfree : ∀ z ∈ scope.names, z.2 ≠ .free) (hcell : ∀ z ∈ scope.names, z.2 ≠ .cell) (hkind : scope.kind = .function) (hnames : ∀ z ∈ scope.names, z.2 = .local → scope.names.lookup z.1 = some .local) (hx : scope.names.lookup x = some .local)
    (hdb : (x == ("__debug__" : Str)) = false := by decide) (hs : ∀ v, foldedSetIterable iter X.env v = pure v := by intro _; rfl) :
    PS X (.Assign [.Name y py] (.DictComp (.Name x kp) (.Constant (.bool true) kk cp) [⟨.Name x px, iter, [], 0⟩] scope pos) spos) (tSetDc X.prog X.w X.K te i) := by
  refine ⟨fun pins s σ H Dn I h => ?_⟩
  rw [exec_Assign_Name_used _ _ _ _ hsw]
  refine wpAny_bind (wpAny_standAt (wpAny_bind ?_))
  show wpAny _ X.A (do let _ ← comprehension (.DictComp (.Name x kp) (.Constant (.bool true) kk cp) [⟨.Name x px, iter, [], 0⟩] scope pos) scope X.env (firstIterPos [⟨.Name x px, iter, [], 0⟩] pos) newDict false (eval iter X.env) (some (assign (.Name y py) X.env))) _ _ s
  have hclos := closure_ok (scope := scope) (env := X.env) fun z hz e => absurd e (hfree z hz)
  refine wpAny_bind (thn (Q := fun _ s' => SP X pins Dn .next s') (comprehension_at (use := some (assign (.Name y py) X.env)) rfl hs hclos hkind hnames (thn (hi.run pins s σ H _ I h) fun u s1 ⟨v, H1, I1, r1, q1⟩ => ?_)) fun _ s' hq => wpAny_pure (wpAny_pure hq))
  obtain ⟨a, R, rfl, hR, hz, q⟩ := q1
  cases r1
  obtain ⟨b, xs, e, hq, hd⟩ := tup_inv hR
  cases e
  obtain ⟨its, rv, pt, hlen⟩ := I1.tuple hq
  have ht : s1.heap.IsTuple a its.toArray := pt
  have hln : its.length = R.length := by rw [← rv.length, dps_len hd, tR_len']
  have alt : a < s1.heap.objs.size := by
    obtain ⟨o, ho, _⟩ := ht
    exact Heap.lt_size ho
  refine wpAny_pyIter_tuple ht (compBlock_dict hcell hkind ?_)
  generalize hs2 : ({ s1 with heap := s1.heap.push { cls := .type "tuple_iterator", data := .fields #[.ref a, .int 0 0] } } : Shared) = s2
  have h2 : s2.heap = s1.heap.push { cls := .type "tuple_iterator", data := .fields #[.ref a, .int 0 0] } := by rw [← hs2]
  have old2 : ∀ b o, s1.heap.get? b = some o → s2.heap.get? b = some o := fun b o e => by rw [h2]; exact Heap.get?_push_of_some _ e
  have W := Goes.tuple (prog := X.prog) (w := X.w) (A := X.A) (target := .Name x px) (I1.ok.hd hc) s1.heap.objs.size a (Nat.ne_of_lt alt) its.toArray
  refine ⟨s1.heap.objs.size, _, _, _, _, _, rfl, W, ⟨⟨_, by rw [h2]; exact Heap.get?_push_size _ rfl, rfl, rfl⟩, ht.at fun o e => old2 _ _ e⟩, fun D C s3 cb hD => ?_⟩
  have hlt2 : s1.heap.objs.size < s2.heap.objs.size := by rw [h2, Heap.size_push]; exact Nat.lt_succ_self _
  have nDI : D ≠ s1.heap.objs.size := fun z => Nat.lt_irrefl _ (Nat.lt_of_lt_of_le hlt2 (z ▸ cb.newD))
  have nCI : C ≠ s1.heap.objs.size := fun z => Nat.lt_irrefl _ (Nat.lt_of_lt_of_le hlt2 (z ▸ cb.newC))
  have below : ∀ b o, s1.heap.get? b = some o → b ≠ D ∧ b ≠ C ∧ b ≠ s1.heap.objs.size := fun b o e => by
    have := Heap.lt_size e
    have h3 := cb.newD
    have h4 := cb.newC
    refine ⟨fun z => ?_, fun z => ?_, fun z => ?_⟩ <;> subst z
    · exact Nat.lt_irrefl _ (Nat.lt_of_lt_of_le (Nat.lt_trans this hlt2) h3)
    · exact Nat.lt_irrefl _ (Nat.lt_of_lt_of_le (Nat.lt_trans this hlt2) h4)
    · exact Nat.lt_irrefl _ this
  refine ⟨Led X H1 s1 s2 D C R, ⟨cb.only, fun b o e => cb.old _ _ (old2 _ _ e), ⟨_, cb.names⟩, [], _, #[], 0, hD, ⟨rfl, rfl, rfl⟩, rfl, rfl, rfl, List.nodup_nil, fun z hz => by simp at hz, Nat.le_refl _⟩, ?_, ?_, ?_⟩
  · intro j t h' tk L hk _
    obtain ⟨⟨h0, tk0, e⟩, old, ⟨m, mo, mes, mep, me, mr⟩, ys, o, es, ep, ho, r⟩ := L
    exact ⟨⟨h', tk, by rw [e]⟩, fun b o e => hk b o (by simpa using (below b o e).2.2) (old b o e), ⟨m, mo, mes, mep, hk C mo (by simpa using nCI) me, mr⟩, ys, o, es, ep, hk D o (by simpa using nDI) ho, r⟩
  · intro j v t hj hY hst L
    obtain ⟨⟨h0, tk0, e⟩, old, ⟨m, hm⟩, ys, o, es, ep, ho, hxd, hdt, he, hk, hn, hkey, hl⟩ := L
    obtain ⟨ka, ns, rfl, hR2, hS⟩ := ref_of (i := j) hd rv (by simpa using hY)
    have hl1 : (compEnvC scope (cloFrom X.env.cells scope.names []) C X.env).kindOf x = some .local := lookup_relabel_local hx
    have hfn : (compEnvC scope (cloFrom X.env.cells scope.names []) C X.env).scope.kind = .function := hkind
    have lysz : ys.length ≤ 100000 := by
      have : j < R.length := by
        rw [← hln]
        simpa using hj
      omega
    refine wpAny_assign_Name (wpAny_storeName_local (m := m) hl1 hm (fun h' hn' sb => ?_) (by rw [hfn]; rfl))
    refine wpAny_tests_nil ?_
    rw [if_pos rfl]
    refine wpAny_Name (wpAny_loadName_local hfn hl1 hn' (if_pos rfl) ?_) hdb
    refine wpAny_Constant_bool ?_
    have old' : ∀ b o, s1.heap.get? b = some o → h'.get? b = some o := fun b o e => (sb.2 b (below b o e).2.1).trans (old b o e)
    have hm1 : h'.DictOfH (kI X.prog X.w) D ys := ⟨o, es, ep, (sb.2 D cb.ne).trans ho, hxd, hdt, he, fun z hz => is_kept (isK I1 (hkey z hz)) old', hn⟩
    refine wpAny_dictSet_heap (knd := kI X.prog X.w) (by show X.A.units < cLine; omega) (is_kept (isK I1 hS) old') hm1 (fun h'' hm2 sb2 => ?_) (small lysz)
    obtain ⟨o2, es2, ep2, ho2, hx2, hd2, he2, _, hn2⟩ := hm2
    refine ⟨⟨⟨h'', _, by rw [e]⟩, fun b o e => (sb2.2 b (below b o e).1).trans (old' b o e), ⟨_, hn'.sameBut sb2 (Ne.symm cb.ne)⟩, _, o2, es2, ep2, ho2, hx2, hd2, he2, ?_, ?_, stored_key ys hkey hS, Nat.le_trans (stored_len _ _ _ _) (by omega)⟩, W.frame _ _ _ hst fun b hb ob eb => ?_⟩
    · rw [stored_keys, hk, List.take_add_one, hR2, List.foldl_append]
      rfl
    · exact hn2
    · have hb : b = s1.heap.objs.size ∨ b = a := by simpa using hb
      have hbD : b ≠ D := by
        rcases hb with z | z
        · rw [z]; exact Ne.symm nDI
        · obtain ⟨o, ho, _⟩ := ht
          rw [z]; exact (below a o ho).1
      have hbC : b ≠ C := by
        rcases hb with z | z
        · rw [z]; exact Ne.symm nCI
        · obtain ⟨o, ho, _⟩ := ht
          rw [z]; exact (below a o ho).2.1
      exact (sb2.2 b hbD).trans ((sb.2 b hbC).trans eb)
  · intro t L
    obtain ⟨⟨h0, tk0, e⟩, old, ⟨m, hm⟩, ys, o, es, ep, ho, hxd, hdt, he, hk, hn, hkey, hl⟩ := L
    have hD1 : H1 D = none := I1.hok.fresh (Nat.le_trans (Nat.le_of_lt hlt2) cb.newD)
    have hC1 : H1 C = none := I1.hok.fresh (Nat.le_trans (Nat.le_of_lt hlt2) cb.newC)
    have e' : t = { s1 with heap := h0, toks := tk0 } := by rw [e, ← hs2]
    subst e'
    have J : Inv X pins σ (upd H1 D (ExO D o)) { s1 with heap := h0, toks := tk0 } := I1.laid (t' := tk0) old (Nat.le_trans (Nat.le_of_lt hlt2) cb.newD) (ext_ok ho)
    have hsz : its.toArray.size = R.length := by simpa using hln
    have DK : DKs X.prog X.w X.K (upd H1 D (ExO D o)) D ys := by
      refine ⟨?_, by rw [hsz] at hl; omega, ⟨o, es, ep, upd_same, hxd, hdt, he⟩, hn, fun z hz => Same.tp (same_new hD1) (hkey z hz)⟩
      have := I1.big
      exact beq_false_of_ne (Nat.ne_of_gt (Nat.lt_of_lt_of_le this (Nat.le_trans (Nat.le_of_lt hlt2) cb.newD)))
    have fC : FpOk X pins (upd H1 D (ExO D o)) C := I1.fpOk (Nat.le_trans (Nat.le_of_lt hlt2) cb.newC) (by rw [upd_ne (Ne.symm cb.ne)]; exact hC1)
    obtain ⟨f0, f1, f2, f3, f4, f5⟩ := fC
    show wpAny _ X.A (assign (.Name y py) X.env (.ref D)) _ _ _
    refine wpAny_assign_Name (store_ok2 (v := V.ref D) J hN hy (.inl hyl) rfl (fun s5 J2 ⟨c, sb, hc⟩ => ?_) (.inr hyl))
    have hcC : C ≠ c := by
      rcases hc with z | z
      · rw [z]; exact f1
      · exact fun q => f4 y c z q.symm
    refine ⟨m, hm.sameBut sb hcC, fun h3 sb3 => ⟨_, _, J2.turned (t' := s5.toks) (fun b o hb e => (sb3.2 b hb).trans e) f0 f1 f3 f4 f5, ?_⟩⟩
    refine q D o ys hD1 ?_ DK
    rw [hk, hsz, List.take_length]
end
end K31W
set_option Elab.async false
set_option linter.all false
set_option maxRecDepth 100000
set_option maxHeartbeats 4000000
/-! printed by wip/gen.py: the walks of further defs. -/
namespace K31W
open PySem PySem.Spec PyProof.Rows L2
variable {P : Program} {w : World} {K : Fr} {mg : Str → Option Value} {base : Heap} {aN : Addr} {A : Around} {outer : List Env} {s : Shared} {H : Hp} {E : XK} {f : Addr} {cdv : Value}
def T_missing_by (P : Program) (w : World) (K : Fr) (aN : Addr) : TS := (tSeq (tSetDc P w K (tVar 0) 1)
  (tSeq (tAsg (tCall (sp_like_runs K) [] L2.E0 (tCons (tVar 0) tNil)) (gName 2))
  (tSeq (tFor (iRng1 (tCons (tIf (tTest (tOp (rEqD K) (tVar 2) (tLst tNil))) (tCB (rLen K) (tCons (tVar 0) tNil)) (tC (.int 0))) tNil)) (gName 3)
  (tFor (iRng1 (tCons (tVar 3) tNil)) (gName 4)
  (tFor (iRng1 (tCons (tVar 4) tNil)) (gName 5)
  (tIfS (tTest (tOp (rInK P w K true) (tCall (sp_product_run K) [] L2.E0 (tCons (tOp (rIxT K) (tVar 0) (tVar 5)) (tCons (tOp (rIxT K) (tVar 0) (tVar 4)) (tCons (tOp (rIxT K) (tVar 0) (tVar 3)) tNil)))) (tVar 1))) (tRet (tLst (tCons (tTup (tCons (tVar 5) (tCons (tVar 4) (tCons (tVar 3) tNil)))) tNil))) tNext))))
  (tRet (tVar 2)))))
theorem w_missing_by (T : Txt K mg aN) (F_like_runs : Ok P w K mg base 1 "like_runs" p_like_runs (sp_like_runs K)) (F_product_run : Ok P w K mg base 1 "product_run" p_product_run (sp_product_run K)) (hr : Room 1 (A.deeper (envOfC "missing_by" (defScope s_missing_by) s.heap.objs.size f cdv))) :
    PSs (cxOf CX0 P w K mg base N_missing_by "missing_by" (defScope s_missing_by) f cdv A outer s H E).nox (defBody s_missing_by) (T_missing_by P w K aN) := by
  have nd := sc_missing_by.nd
  unfold T_missing_by
  exact (pss_cons (ps_setDc (i := 1) (hu65 hr) rfl nd rfl rfl (by rfl) (pv 0) (by decide) (by decide) rfl (by decide) rfl)
  (pss_cons (ps_set (i := 2) nd rfl (Or.inl rfl) (pe_ok F_like_runs (hr.mono (by decide)) rfl (pa_cons (pv 0) pa_nil)))
  (pss_cons (ps_for PassesOwn.never rfl (pi_range1 rfl T.z_range (pa_cons (pe_ifExp (pt_cmpR (op_eqD (hu64 hr)) (pv 2) (pe_lst pa_nil) (nomark _)) (pe_callB call_len_seq rfl T.z_len (by decide +kernel) (pa_cons (pv 0) pa_nil)) pe_int) pa_nil)) (pg_name (i := 3) nd rfl (Or.inl rfl))
  (pss_one (ps_for PassesOwn.never rfl (pi_range1 rfl T.z_range (pa_cons (pv 3) pa_nil)) (pg_name (i := 4) nd rfl (Or.inl rfl))
  (pss_one (ps_for PassesOwn.never rfl (pi_range1 rfl T.z_range (pa_cons (pv 4) pa_nil)) (pg_name (i := 5) nd rfl (Or.inl rfl))
  (pss_one (ps_if (pt_cmpR (op_inKN (hu65 hr)) (pe_ok F_product_run (hr.mono (by decide)) rfl (pa_cons (pe_ix ix_tup (pv 0) (pv 5) (fun _ _ => rfl)) (pa_cons (pe_ix ix_tup (pv 0) (pv 4) (fun _ _ => rfl)) (pa_cons (pe_ix ix_tup (pv 0) (pv 3) (fun _ _ => rfl)) pa_nil)))) (pv 1) (by rfl)) (pss_one (ps_ret (pe_lst (pa_cons (pe_tup (pa_cons (pv 5) (pa_cons (pv 4) (pa_cons (pv 3) pa_nil)))) pa_nil)))) pss_nil)))))))
  (pss_one (ps_ret (pv 2))))))
def T_fixed_words (P : Program) (w : World) (K : Fr) (aN : Addr) : TS := (tSeq (tPar 1 2 (tCons (tTup tNil) (tCons (tDNew1 P w K (tC (.ref aN)) (tC (.bl true))) tNil)))
  (tSeq (tFor (iList K (tCall (sp_all_effects K) [] L2.E0 (tCons (tCB (rLen K) (tCons (tOp (rIxT K) (tVar 0) (tC (.int 0))) tNil)) tNil))) (gName 3)
  (tIfS (tAnd (tTest (tOp (rInK P w K true) (tVar 3) (tVar 2))) (tTest (tOp (rEqD K) (tCB (rAbs) (tCons (tCall (sp_effect_sum K) [] L2.E0 (tCons (tVar 0) (tCons (tVar 3) tNil))) tNil)) (tCB (rLen K) (tCons (tVar 0) tNil))))) (tSeq (tAsg (tTup (StX.tStar K (tVar 1) (tCons (tTup (tCons (tVar 3) (tCons (tCall (sp_sign_in K) [] L2.E0 (tCons (tOp (rIxT K) (tVar 0) (tC (.int 0))) (tCons (tVar 3) tNil))) tNil))) tNil))) (gName 1))
  (tFor (iList K (tCB (rListK P w K) (tCons (tVar 2) tNil))) (gName 4)
  (tAsg (tC (.bl true)) (gSub (tVar 2) (tCall (sp_odd_by K) [] L2.E0 (tCons (tVar 4) (tCons (tVar 3) tNil))) (tPutK P w K))))) tNext))
  (tRet (tVar 1))))
theorem w_fixed_words (T : Txt K mg aN) (F_all_effects : Ok P w K mg base 2 "all_effects" p_all_effects (sp_all_effects K)) (F_effect_sum : Ok P w K mg base 2 "effect_sum" p_effect_sum (sp_effect_sum K)) (F_odd_by : Ok P w K mg base 1 "odd_by" p_odd_by (sp_odd_by K)) (F_sign_in : Ok P w K mg base 1 "sign_in" p_sign_in (sp_sign_in K)) (hr : Room 2 (A.deeper (envOfC "fixed_words" (defScope s_fixed_words) s.heap.objs.size f cdv))) :
    PSs (cxOf CX0 P w K mg base N_fixed_words "fixed_words" (defScope s_fixed_words) f cdv A outer s H E).nox (defBody s_fixed_words) (T_fixed_words P w K aN) := by
  have nd := sc_fixed_words.nd
  unfold T_fixed_words
  exact (pss_cons (ps_par (i := 1) (j := 2) rfl nd rfl rfl (by decide) rfl rfl (pa_cons (pe_tup pa_nil) (pa_cons (pe_dnew1 (hu65 hr) (pe_glob rfl T.c_NOTHING rfl) pe_bl) pa_nil)) (by rfl))
  (pss_cons (ps_for PassesOwn.never rfl (pi_list (pe_ok F_all_effects (hr.mono (by decide)) rfl (pa_cons (pe_callB call_len_seq rfl T.z_len (by decide +kernel) (pa_cons (pe_ix ix_tup (pv 0) pe_int (fun _ _ => rfl)) pa_nil)) pa_nil))) (pg_name (i := 3) nd rfl (Or.inl rfl))
  (pss_one (ps_if (PW.pt (pw_and (pt_cmpR (op_inKN (hu65 hr)) (pv 3) (pv 2) (by rfl)) (pw_and1 (pt_cmpR (op_eqD (hu64 hr)) (pe_callB call_abs rfl T.z_abs (by decide +kernel) (pa_cons (pe_ok F_effect_sum (hr.mono (by decide)) rfl (pa_cons (pv 0) (pa_cons (pv 3) pa_nil))) pa_nil)) (pe_callB call_len_seq rfl T.z_len (by decide +kernel) (pa_cons (pv 0) pa_nil)) (nomark _))))) (pss_cons (ps_set (i := 1) nd rfl (Or.inl rfl) (pe_tup (StX.pa_star (pv 1) (pa_cons (pe_tup (pa_cons (pv 3) (pa_cons (pe_ok F_sign_in (hr.mono (by decide)) rfl (pa_cons (pe_ix ix_tup (pv 0) pe_int (fun _ _ => rfl)) (pa_cons (pv 3) pa_nil))) pa_nil))) pa_nil))))
  (pss_one (ps_for PassesOwn.never rfl (pi_list (pe_callTy (call_listK rfl) rfl T.z_list (by decide +kernel) (pa_cons (pv 2) pa_nil))) (pg_name (i := 4) nd rfl (Or.inl rfl))
  (pss_one (ps_asg pe_bl (pg_sub (pv 2) (pe_ok F_odd_by (hr.mono (by decide)) rfl (pa_cons (pv 4) (pa_cons (pv 3) pa_nil))) (set_K (hu65 hr)))))))) pss_nil)))
  (pss_one (ps_ret (pv 1)))))
end K31W
set_option Elab.async false
set_option linter.all false
set_option maxRecDepth 100000
set_option maxHeartbeats 1000000
/-! K31Sem6: the readings: the two defs with a dict. -/
namespace K31W
open PySem PySem.Spec PyProof.Rows L2 K31
variable {P : Program} {w : World} {K : Fr} {mg : Str → Option Value} {base : Heap} {aN : Addr}
section
variable {σ : L2.St} {H H' : Hp} {t u : TE} {d a : Addr} {xs : Ents} {k : List Int} {neg : Bool} {i : Nat}
theorem yl_inK (ha : Yl K t σ H (tI k)) (hσ : σ[i]? = some (some (.ref d))) (D : DKs P w K H d xs) : Yl K (tOp (rInK P w K neg) t (tVar i)) σ H (.bool (if neg then !decide (k ∈ keysOf xs) else decide (k ∈ keysOf xs))) := fun H1 s Q q => ha H1 s _ fun H2 x s2 hx => by
  obtain ⟨a, rfl, hs⟩ := tI_inv hx
  exact ⟨.ref d, hσ, a, d, k, xs, rfl, rfl, hs, D.same (s.trans s2), q H2 _ s2 (.bl _)⟩
theorem mem_put {t : List (List Int)} {x y : List Int} : x ∈ put t y ↔ x ∈ t ∨ x = y := by
  unfold put
  by_cases h : y ∈ t
  · rw [if_pos h]
    exact ⟨.inl, fun z => z.elim id fun e => e ▸ h⟩
  · rw [if_neg h]
    simp
theorem mem_puts : ∀ (R t : List (List Int)) (x : List Int), x ∈ R.foldl put t ↔ x ∈ t ∨ x ∈ R
  | [], t, x => by simp
  | r :: R, t, x => by
    rw [List.foldl_cons, mem_puts R, mem_put, List.mem_cons]
    constructor
    · rintro ((h | h) | h)
      · exact .inl h
      · exact .inr (.inl h)
      · exact .inr (.inr h)
    · rintro (h | h | h)
      · exact .inl (.inl h)
      · exact .inl (.inr h)
      · exact .inr h
end
theorem ok_missing_by (T : Txt K mg aN) (F_like_runs : Ok P w K mg base 1 "like_runs" p_like_runs (sp_like_runs K)) (F_product_run : Ok P w K mg base 1 "product_run" p_product_run (sp_product_run K)) : Ok P w K mg base 2 "missing_by" p_missing_by (sp_missing_by K) :=
  Ok.mkP T.f_missing_by sc_missing_by (by intro ds d h; (repeat (obtain ⟨_, h⟩ := h)); subst_vars; rfl) fun f cdv A outer s H0 E hr => ⟨_, w_missing_by T F_like_runs F_product_run hr, fun ds dd σ Q p hi c hσ pl r => by
    obtain ⟨n, R, hp, rfl, rfl⟩ := hi
    have hl := hp.hl
    have hlen : σ.length = 7 := c.len
    have hdp : Dp K H0 (.ref p) (.tuple (tR R)) := by
      obtain ⟨v, e, hv⟩ := c.at_ 0 _ rfl
      rw [hσ] at e
      cases e
      exact hv
    refine ⟨.ref p, hσ, p, R, rfl, hdp, by omega, fun d o xs hd hk D => ?_⟩
    have s1 : Same H0 (upd H0 d (ExO d o)) := same_new hd
    have c1 : Ctx K (σ.set 1 (some (.ref d))) (upd H0 d (ExO d o)) [some (.tuple (tR R)), none, none, none, none, none, none] := (c.same s1).setU 1
    have h1 : (σ.set 1 (some (V.ref d)))[1]? = some (some (.ref d)) := List.getElem?_set_self (by rw [hlen]; decide)
    have h0 : (σ.set 1 (some (V.ref d)))[0]? = some (some (.ref p)) := by rw [List.getElem?_set_ne (by decide)]; exact hσ
    generalize hH1 : upd H0 d (ExO d o) = H1 at s1 c1 D
    refine st_set (yl_callP c1 rfl h0 (pl.same s1) ⟨n, R, hp, rfl, rfl⟩) fun H2 x s2 hx => ?_
    have c2 := (c1.same s2).set hx 2
    have h2 : ((σ.set 1 (some (V.ref d))).set 2 (some x))[1]? = some (some (.ref d)) := by rw [List.getElem?_set_ne (by decide)]; exact h1
    generalize hσ2 : (σ.set 1 (some (V.ref d))).set 2 (some x) = σ2 at c2 h2
    have D2 := D.same s2
    have mem : ∀ y, y ∈ keysOf xs ↔ y ∈ R := fun y => by rw [hk, mem_puts]; simp
    have eqf : PyData.eqv (.list (lst1 ((likeRuns R).map tI))) (.list []) = (likeRuns R).isNone := by
      cases likeRuns R <;> simp [lst1, PyData.eqv, PyData.eqvAll]
    have shf : SeqAt.shaped (.list (lst1 ((likeRuns R).map tI))) = true := by
      cases e : likeRuns R with
      | none => exact shape_lR []
      | some q => exact shape_lR [q]
    have cnt : Yl K (tIf (tTest (tOp (rEqD K) (tVar 2) (tLst tNil))) (tCB (rLen K) (tCons (tVar 0) tNil)) (tC (.int 0))) σ2 H2 (.int ((if (likeRuns R).isNone then R.length else 0 : Nat) : Int)) := by
      refine yl_if (yt_test (yl_eq (yl_v c2 rfl) (yn_lst yla_nil (by decide)).yl shf (shape_lR []) eqf)) (fun e => ?_) fun e => ?_
      · rw [if_pos e]
        exact yl_len (yl_v c2 rfl) ⟨.inl rfl, tR_len R⟩
      · rw [if_neg (by rw [e]; exact Bool.false_ne_true)]
        exact yl_int 0
    have fin : ∀ (σ3 : L2.St) (H3 : Hp) (x3 x4 x5 : Option PyData), Same H2 H3 → Ctx K σ3 H3 [some (.tuple (tR R)), none, some (.list (lst1 ((likeRuns R).map tI))), x3, x4, x5, none] → (likeRuns R = none → ∀ j, j < R.length → miss3 R j = none) → tRet (tVar 2) { nx := fun _ H' => Q .non H', rt := Q } σ3 H3 := fun σ3 H3 x3 x4 x5 s3 c3 hno => by
      refine sc_ret ((yl_v c3 rfl).eq ?_) r (s1.trans (s2.trans s3))
      unfold K31.missing
      cases e : likeRuns R with
      | some q => rfl
      | none =>
        rw [find_none (hno e)]
    refine st_rangeY cnt (by split <;> omega) (fun i σ3 H3 => Same H2 H3 ∧ σ3[1]? = some (some (.ref d)) ∧ (∃ x3 x4 x5, Ctx K σ3 H3 [some (.tuple (tR R)), none, some (.list (lst1 ((likeRuns R).map tI))), x3, x4, x5, none]) ∧ ∀ j, j < i → miss3 R j = none)
      (fun H3 s3 => ⟨s3, h2, ⟨none, none, none, c2.same s3⟩, fun j hj => absurd hj (Nat.not_lt_zero _)⟩) (fun i σ3 H3 hi pv => ?_) fun σ3 H3 pv => ?_
    · obtain ⟨s3, h3, ⟨x3, x4, x5, c3⟩, no3⟩ := pv
      have hnone : likeRuns R = none := by
        cases e : likeRuns R with
        | none => rfl
        | some q => rw [e] at hi; exact absurd hi (Nat.not_lt_zero _)
      have hiR : i < R.length := by rw [hnone] at hi; exact hi
      have c4 : Ctx K (σ3.set 3 (some (.int (i : Nat)))) H3 [some (.tuple (tR R)), none, some (.list (lst1 ((likeRuns R).map tI))), some (.int i), x4, x5, none] := c3.set (.int _) 3
      have h4 : (σ3.set 3 (some (V.int (i : Nat))))[1]? = some (some (.ref d)) := by rw [List.getElem?_set_ne (by decide)]; exact h3
      show tFor _ _ _ _ (σ3.set 3 (some (V.int (i : Nat)))) H3
      generalize σ3.set 3 (some (V.int (i : Nat))) = σ4 at c4 h4
      refine st_rangeY (yl_v c4 rfl) (by omega) (fun j σ5 H5 => Same H2 H5 ∧ σ5[1]? = some (some (.ref d)) ∧ (∃ x4 x5, Ctx K σ5 H5 [some (.tuple (tR R)), none, some (.list (lst1 ((likeRuns R).map tI))), some (.int i), x4, x5, none]) ∧ ∀ m, m < j → miss2 R i m = none)
        (fun H5 s5 => ⟨s3.trans s5, h4, ⟨_, _, c4.same s5⟩, fun m hm => absurd hm (Nat.not_lt_zero _)⟩) (fun j σ5 H5 hj pv => ?_) fun σ5 H5 pv => ?_
      · obtain ⟨s5, h5, ⟨y4, y5, c5⟩, no2⟩ := pv
        have c6 : Ctx K (σ5.set 4 (some (.int (j : Nat)))) H5 [some (.tuple (tR R)), none, some (.list (lst1 ((likeRuns R).map tI))), some (.int i), some (.int j), y5, none] := c5.set (.int _) 4
        have h6 : (σ5.set 4 (some (V.int (j : Nat))))[1]? = some (some (.ref d)) := by rw [List.getElem?_set_ne (by decide)]; exact h5
        show tFor _ _ _ _ (σ5.set 4 (some (V.int (j : Nat)))) H5
        generalize σ5.set 4 (some (V.int (j : Nat))) = σ6 at c6 h6
        refine st_rangeY (yl_v c6 rfl) (by omega) (fun m σ7 H7 => Same H2 H7 ∧ σ7[1]? = some (some (.ref d)) ∧ (∃ x5, Ctx K σ7 H7 [some (.tuple (tR R)), none, some (.list (lst1 ((likeRuns R).map tI))), some (.int i), some (.int j), x5, none]) ∧ ∀ q, q < m → miss1 R i j q = none)
          (fun H7 s7 => ⟨s5.trans s7, h6, ⟨_, c6.same s7⟩, fun m hm => absurd hm (Nat.not_lt_zero _)⟩) (fun m σ7 H7 hm pv => ?_) fun σ7 H7 pv => ?_
        · obtain ⟨s7, h7, ⟨z5, c7⟩, no1⟩ := pv
          have c8 : Ctx K (σ7.set 5 (some (.int (m : Nat)))) H7 [some (.tuple (tR R)), none, some (.list (lst1 ((likeRuns R).map tI))), some (.int i), some (.int j), some (.int m), none] := c7.set (.int _) 5
          have h8 : (σ7.set 5 (some (V.int (m : Nat))))[1]? = some (some (.ref d)) := by rw [List.getElem?_set_ne (by decide)]; exact h7
          show tIfS _ _ _ _ (σ7.set 5 (some (V.int (m : Nat)))) H7
          generalize σ7.set 5 (some (V.int (m : Nat))) = σ8 at c8 h8
          have run : ∀ q, q < R.length → IsRun n (R.getD q []) := fun q hq => hp.hR _ (by
            rw [List.getD_eq_getElem?_getD, List.getElem?_eq_getElem hq]
            exact List.getElem_mem _)
          have ix : ∀ (sl q : Nat), q < R.length → [some (.tuple (tR R)), none, some (.list (lst1 ((likeRuns R).map tI))), some (.int i), some (.int j), some (.int m), none][sl]? = some (some (PyData.int q)) → Yl K (tOp (rIxT K) (tVar 0) (tVar sl)) σ8 H7 (tI (R.getD q [])) := fun sl q hq e =>
            yl_ixT (yl_v c8 rfl) (yl_v c8 e) (by omega) (by rw [Int.toNat_natCast]; exact tR_at hq)
          refine sc_if c8 (yt_test (yl_inK (neg := true) (k := prod3 (R.getD m []) (R.getD j []) (R.getD i [])) (yl_call (yla_cons (ix 5 m (by omega) rfl) (yla_cons (ix 4 j (by omega) rfl) (yla_one (ix 3 i hiR rfl)))) ⟨n, _, _, _, hp.h6, run m (by omega), run j (by omega), run i hiR, rfl, rfl⟩) h8 (D2.same s7))) (fun e H9 s9 c9 => ?_) fun e H9 s9 c9 => ?_
          · have hnot : prod3 (R.getD m []) (R.getD j []) (R.getD i []) ∉ R := by
              intro z
              have : decide (prod3 (R.getD m []) (R.getD j []) (R.getD i []) ∈ keysOf xs) = true := decide_eq_true ((mem _).mpr z)
              rw [this] at e
              exact Bool.noConfusion e
            have e1 : miss1 R i j m = some [(m : Int), (j : Int), (i : Int)] := by unfold miss1; rw [if_neg hnot]
            have e2 : miss2 R i j = some [(m : Int), (j : Int), (i : Int)] := find_until hm no1 e1
            have e3 : miss3 R i = some [(m : Int), (j : Int), (i : Int)] := find_until hj no2 e2
            have e4 : K31.missing R = some [(m : Int), (j : Int), (i : Int)] := by
              unfold K31.missing
              rw [hnone]
              exact find_until hiR no3 e3
            refine sc_ret ((yn_lst (yla_one (yl_tup (yla_cons (yl_v c9 rfl) (yla_cons (yl_v c9 rfl) (yla_one (yl_v c9 rfl)))) (small (by simp)))) (small (by simp))).yl.eq ?_) r (s1.trans (s2.trans (s7.trans s9)))
            rw [e4]
            rfl
          · refine ⟨s7.trans s9, h8, ⟨_, c9⟩, fun q hq => ?_⟩
            by_cases hqm : q < m
            · exact no1 q hqm
            · have : q = m := by omega
              subst this
              unfold miss1
              rw [if_pos ?_]
              have e' : decide (prod3 (R.getD q []) (R.getD j []) (R.getD i []) ∈ keysOf xs) = true := by simpa using e
              exact (mem _).mp (of_decide_eq_true e')
        · obtain ⟨s7, h7, ⟨z5, c7⟩, no1⟩ := pv
          refine ⟨s7, h7, ⟨_, _, c7⟩, fun m hm => ?_⟩
          by_cases hmj : m < j
          · exact no2 m hmj
          · have : m = j := by omega
            subst this
            exact find_none no1
      · obtain ⟨s5, h5, ⟨y4, y5, c5⟩, no2⟩ := pv
        refine ⟨s5, h5, ⟨_, _, _, c5⟩, fun m hm => ?_⟩
        by_cases hmj : m < i
        · exact no3 m hmj
        · have : m = i := by omega
          subst this
          exact find_none no2
    · obtain ⟨s3, h3, ⟨x3, x4, x5, c3⟩, no3⟩ := pv
      exact fin σ3 H3 x3 x4 x5 s3 c3 fun e j hj => no3 j (by rw [e]; exact hj)⟩
end K31W
set_option Elab.async false
set_option linter.all false
set_option maxRecDepth 100000
set_option maxHeartbeats 1000000
/-! K31Sem7: the readings: fixed_words. -/
namespace K31W
open PySem PySem.Spec PyProof.Rows L2 K31
variable {P : Program} {w : World} {K : Fr} {mg : Str → Option Value} {base : Heap} {aN : Addr}
/-- all but the dict at d stands -/
def KeepE (d : Addr) (H H' : Hp) : Prop := (∃ o, H d = some (ExO d o)) ∧ ∀ b o, H b = some o → b ≠ d → H' b = some o
section
variable {d : Addr} {H H' H2 : Hp}
theorem KeepE.rd {a : Addr} {u : HO} (k : KeepE d H H') (hu : ∀ o, u ≠ ExO d o) (h : Rd H a u) : Rd H' a u := by
  obtain ⟨⟨o, e⟩, k⟩ := k
  rcases h with h | ⟨ob, h⟩
  · exact .inl (k _ _ h fun z => by rw [z, e] at h; exact hu o (Option.some.inj h).symm)
  · exact .inr ⟨ob, k _ _ h fun z => by rw [z, e] at h; cases h⟩
theorem KeepE.tp {a : Addr} {xs : List V} (k : KeepE d H H') (h : SqT K H a xs) : SqT K H' a xs := h.elim (fun h => .inl (k.rd (fun o z => by cases z) h)) .inr
theorem KeepE.sq {a : Addr} {xs : List V} (k : KeepE d H H') (h : SqL K H a xs) : SqL K H' a xs := h.elim (fun h => .inl (k.rd (fun o z => by cases z) h)) .inr
mutual
theorem dpE (k : KeepE d H H') : ∀ (e : PyData) (v : V), Dp K H v e → Dp K H' v e
  | .none, _, h => by cases h; exact .non
  | .bool b, _, h => by cases h; exact .bl b
  | .int i, _, h => by cases h; exact .int i
  | .str x, _, h => by cases h; exact .str x
  | .list ds, _, h => by
    cases h with
    | lst hs ha => exact .lst (k.sq hs) (dpsE k ds _ ha)
  | .tuple ds, _, h => by
    cases h with
    | tup hs ha => exact .tup (k.tp hs) (dpsE k ds _ ha)
  | .dict _, _, h => by cases h
theorem dpsE (k : KeepE d H H') : ∀ (ds : List PyData) (vs : List V), DpAll K H vs ds → DpAll K H' vs ds
  | [], _, h => by cases h; exact .nil
  | e :: ds, _, h => by
    cases h with
    | cons h1 h2 => exact .cons (dpE k e _ h1) (dpsE k ds _ h2)
end
theorem Ctx.keepE {σ : L2.St} {cs : List (Option PyData)} (c : Ctx K σ H cs) (k : KeepE d H H') : Ctx K σ H' cs := ⟨c.len, fun i e h => by
  obtain ⟨v, e1, hv⟩ := c.at_ i e h
  exact ⟨v, e1, dpE k e v hv⟩⟩
theorem KeepE.same (k : KeepE d H H') (s : Same H' H2) : KeepE d H H2 := ⟨k.1, fun b o e n => s _ _ (k.2 b o e n)⟩
theorem KeepE.upd {o o' : Obj} (e : H d = some (ExO d o)) : KeepE d H (upd H d (ExO d o')) := ⟨⟨o, e⟩, fun b u q n => by rw [upd_ne n]; exact q⟩
theorem KeepE.trans (k : KeepE d H H') (k2 : KeepE d H' H2) : KeepE d H H2 := ⟨k.1, fun b o e n => k2.2 _ _ (k.2 b o e n) n⟩
theorem KeepE.refl {o : Obj} (e : H d = some (ExO d o)) : KeepE d H H := ⟨⟨o, e⟩, fun _ _ q _ => q⟩
end
theorem puts_len (T : List (List Int)) (e : List Int) : ∀ (l u : List (List Int)), (l.foldl (fun u o => put u (odd o e)) u).length ≤ u.length + l.length
  | [], u => Nat.le_refl _
  | o :: l, u => by
    rw [List.foldl_cons]
    have h1 := puts_len T e l (put u (odd o e))
    have h2 : (put u (odd o e)).length ≤ u.length + 1 := by
      unfold put
      split
      · exact Nat.le_succ _
      · simp
    rw [List.length_cons]
    omega
theorem tab_len {n : Nat} (h1 : 1 ≤ n) (h6 : n ≤ 6) {T : List (List Int)} (nd : T.Nodup) (eff : ∀ t ∈ T, IsEff n t) : T.length ≤ 64 := by
  have := sub_len nd fun x hx => mem_allEff.mpr (eff x hx)
  have e : (allEff n).length = 2 ^ n := by unfold allEff; rw [isort_length, choices_len]
  have := pow64 h6
  omega
theorem wW_len {R : List (List Int)} : ∀ (l : List (List Int)) (st : List (List Int × Int) × List (List Int)), (l.foldl (fwStep R) st).1.length ≤ st.1.length + l.length
  | [], st => Nat.le_refl _
  | e :: l, st => by
    rw [List.foldl_cons]
    have h1 := wW_len (R := R) l (fwStep R st e)
    have h2 : (fwStep R st e).1.length ≤ st.1.length + 1 := by
      unfold fwStep
      split
      · simp
      · exact Nat.le_succ _
    rw [List.length_cons]
    omega
theorem ok_fixed_words (T : Txt K mg aN) (F_all_effects : Ok P w K mg base 2 "all_effects" p_all_effects (sp_all_effects K)) (F_effect_sum : Ok P w K mg base 2 "effect_sum" p_effect_sum (sp_effect_sum K)) (F_odd_by : Ok P w K mg base 1 "odd_by" p_odd_by (sp_odd_by K))
    (F_sign_in : Ok P w K mg base 1 "sign_in" p_sign_in (sp_sign_in K)) : Ok P w K mg base 3 "fixed_words" p_fixed_words (sp_fixed_words K) :=
  Ok.mkD T.f_fixed_words sc_fixed_words (by intro ds d h; (repeat (obtain ⟨_, h⟩ := h)); subst_vars; rfl) fun f cdv A outer s H0 E hr => ⟨_, w_fixed_words T F_all_effects F_effect_sum F_odd_by F_sign_in hr, fun ds dd σ Q hi c r => by
    obtain ⟨n, R, hp, rfl, rfl⟩ := hi
    have hl := hp.hl
    have h6 := hp.h6
    have hR0 := plan_first hp
    have hd0 : R.headD [] = R.getD 0 [] := by cases R <;> rfl
    have hlen : σ.length = 5 := c.len
    show tPar _ _ (tCons (tTup tNil) _) _ σ H0
    show tCons (tTup tNil) _ σ H0 _
    show tTup tNil σ H0 _
    refine yl_nilT (K := K) (σ := σ) (H := H0) H0 (Same.refl _) _ fun H1 x s1 hx => ?_
    intro d o0 hd
    show (upd H1 d (ExO d o0)) d = _ ∧ _
    refine ⟨upd_same, aN, [], true, rfl, rfl, T.e_NOTHING _, fun o xs hk D => ?_⟩
    refine ⟨x, .ref d, rfl, ?_⟩
    have hd' : H0 d = none := none_back s1 hd
    have sA : Same H1 (upd (upd H1 d (ExO d o0)) d (ExO d o)) := Same.own (same_new hd) hd
    generalize hHA : upd (upd H1 d (ExO d o0)) d (ExO d o) = HA at sA D
    have s2 : Same H0 HA := s1.trans sA
    have c2 : Ctx K ((σ.set 1 (some x)).set 2 (some (.ref d))) HA [some (.tuple (tR R)), some (tWs []), none, none, none] := ((c.same s2).set (dp_same sA _ _ hx) 1).setU 2
    have h2 : ((σ.set 1 (some x)).set 2 (some (V.ref d)))[2]? = some (some (.ref d)) := List.getElem?_set_self (by rw [List.length_set, hlen]; decide)
    show tSeq _ _ _ ((σ.set 1 (some x)).set 2 (some (V.ref d))) HA
    generalize (σ.set 1 (some x)).set 2 (some (V.ref d)) = σA at c2 h2
    have yE : Yl K (tCall (sp_all_effects K) [] L2.E0 (tCons (tCB (rLen K) (tCons (tOp (rIxT K) (tVar 0) (tC (.int 0))) tNil)) tNil)) σA HA (.list (tR (allEff n))) := yl_call (yla_one (yl_few hp (yl_v c2 rfl))) ⟨n, h6, rfl, rfl⟩
    refine yE HA (Same.refl _) _ fun H3 v s3 hv => ?_
    obtain ⟨aL, ls, rfl, hsL, hdL⟩ := lst_inv hv
    have D3 := D.same s3
    obtain ⟨o3, _, _, e3, _⟩ := id D3.obj
    have lL : ls.length = (allEff n).length := by rw [dps_len hdL, tR_len]
    have aLen : (allEff n).length ≤ 64 := by
      have e : (allEff n).length = 2 ^ n := by unfold allEff; rw [isort_length, choices_len]
      rw [e]
      exact pow64 h6
    refine ⟨aL, rfl, ⟨ls, hsL⟩, ?_⟩
    refine for_it (walk_list (K := K) (a := aL) (xs := ls)) (fun i σ4 H4 => KeepE d H3 H4 ∧ Same H0 H4 ∧ σ4[2]? = some (some (.ref d)) ∧ (∃ y z, Ctx K σ4 H4 [some (.tuple (tR R)), some (tWs (((allEff n).take i).foldl (fwStep R) ([], [[]])).1), none, y, z]) ∧
        ∃ ys, DKs P w K H4 d ys ∧ keysOf ys = (((allEff n).take i).foldl (fwStep R) ([], [[]])).2)
      ⟨KeepE.refl e3, s2.trans s3, h2, ⟨none, none, c2.same s3⟩, xs, D3, hk⟩ (fun i σ4 H4 _ pv => pv.1.sq hsL) (fun i v σ4 H4 H5 hlt pv y => ?_) fun σ4 H4 pv => ?_
    · obtain ⟨k4, s4, h4, ⟨y4, z4, c4⟩, ys, D4, hk4⟩ := pv
      obtain ⟨rfl, ev⟩ := y
      have hi : i < (allEff n).length := by rw [← lL]; exact hlt
      have hv5 : Dp K H5 v (tI (allEff n)[i]) := by
        obtain ⟨dd, e, hdv⟩ := dps_at hdL ev
        unfold tR at e
        rw [List.getElem?_map, List.getElem?_eq_getElem hi] at e
        cases e
        exact dpE k4 _ _ hdv
      have he : IsEff n (allEff n)[i] := mem_allEff.mp (List.getElem_mem hi)
      have FW0 := FW.run hp.hR hp.hne ((allEff n).take i) [] ([], [[]]) (fun e he => mem_allEff.mp (List.mem_of_mem_take he)) (FW.start hp.h1 h6 hp.hR)
      have tk : ((allEff n).take (i + 1)).foldl (fwStep R) ([], [[]]) = fwStep R (((allEff n).take i).foldl (fwStep R) ([], [[]])) (allEff n)[i] := by
        rw [List.take_add_one, List.getElem?_eq_getElem hi, List.foldl_append]
        rfl
      have hW := wW_len (R := R) ((allEff n).take i) ([], [[]])
      rw [tk]
      generalize ((allEff n).take i).foldl (fwStep R) ([], [[]]) = st at FW0 tk c4 hk4 hW
      obtain ⟨W, T0⟩ := st
      simp only at c4 hk4 FW0 hW
      have hW : W.length ≤ 64 := by
        rw [List.length_take] at hW
        have : ([] : List (List Int × Int)).length = 0 := rfl
        omega
      have hT := tab_len hp.h1 h6 FW0.nd FW0.eff
      generalize hee : (allEff n)[i] = e at hv5 he
      have c5 : Ctx K (σ4.set 3 (some v)) H5 [some (.tuple (tR R)), some (tWs W), none, some (tI e), z4] := c4.set hv5 3
      have h5 : (σ4.set 3 (some v))[2]? = some (some (.ref d)) := by rw [List.getElem?_set_ne (by decide)]; exact h4
      show tIfS _ _ _ _ (σ4.set 3 (some v)) H5
      generalize σ4.set 3 (some v) = σ5 at c5 h5
      refine sc_if (b := !decide (e ∈ T0) && fix R e) c5 (yt_and ((yt_test (yl_inK (neg := true) (yl_v c5 rfl) h5 D4)).eq (by rw [hk4]; rfl)) fun _ => yt_test (yl_eq (yl_abs (yl_call (yla_cons (yl_v c5 rfl) (yla_one (yl_v c5 rfl))) ⟨n, R, e, hp, he, rfl, rfl⟩)) (yl_len (n := R.length) (yl_v c5 rfl) ⟨.inl rfl, tR_len R⟩) (shape_int _) (shape_int _) (eqv_int _ _))) (fun hb H6 s6 c6 => ?_) fun hb H6 s6 c6 => ?_
      · have hb1 : ¬ e ∈ T0 ∧ fix R e = true := by
          rw [Bool.and_eq_true] at hb
          exact ⟨of_decide_eq_false (by simpa using hb.1), hb.2⟩
        have stp : fwStep R (W, T0) e = (W ++ [(e, sgn (R.getD 0 []) e)], addW T0 e) := by
          unfold fwStep
          rw [if_pos hb1, hd0]
        rw [stp]
        have D6 := D4.same s6
        refine st_set (d := tWs (W ++ [(e, sgn (R.getD 0 []) e)])) ((yl_tup (yla_star (yl_v c6 rfl) (.inl rfl) (yla_one (yl_tup (yla_cons (yl_v c6 rfl) (yla_one (yl_call (yla_cons (yl_ixT (d := tI (R.getD 0 [])) (yl_v c6 rfl) (yl_int 0) (by decide) (tR_at hR0.2)) (yla_one (yl_v c6 rfl))) ⟨n, _, e, h6, hR0.1, he, rfl, rfl⟩))) (small (by simp))))) (small (by simp; omega))).eq ?_) fun H7 x7 s7 hx7 => ?_
        · unfold tWs
          rw [List.map_append]
          rfl
        have c7 : Ctx K (σ5.set 1 (some x7)) H7 [some (.tuple (tR R)), some (tWs (W ++ [(e, sgn (R.getD 0 []) e)])), none, some (tI e), z4] := (c6.same s7).set hx7 1
        have h7 : (σ5.set 1 (some x7))[2]? = some (some (.ref d)) := by rw [List.getElem?_set_ne (by decide)]; exact h5
        generalize σ5.set 1 (some x7) = σ7 at c7 h7
        have D7 := D6.same s7
        have ylen : ys.length = T0.length := by rw [← hk4]; unfold keysOf; rw [List.length_map]
        refine ⟨.ref d, h7, d, ys, rfl, D7, fun p hpn => ⟨p, rfl, ⟨_, SqL.of upd_same⟩, ?_⟩⟩
        have s8 : Same H7 (upd H7 p (.lst (ys.map fun x => V.ref x.2.1))) := same_new hpn
        have hsp : SqL K (upd H7 p (.lst (ys.map fun x => V.ref x.2.1))) p (ys.map fun x => V.ref x.2.1) := SqL.of upd_same
        have key8 : ∀ x ∈ ys, SqT K (upd H7 p (.lst (ys.map fun x => V.ref x.2.1))) x.2.1 (x.1.map V.int) := fun x hx => Same.tp s8 (D7.key x hx)
        have D8 := D7.same s8
        have c8 := c7.same s8
        generalize upd H7 p (.lst (ys.map fun x => V.ref x.2.1)) = H8 at s8 hsp key8 D8 c8
        obtain ⟨o8, _, _, e8, _⟩ := id D8.obj
        have s08 : Same H0 H8 := s4.trans (s6.trans (s7.trans s8))
        have k38 : KeepE d H3 H8 := k4.same (s6.trans (s7.trans s8))
        refine for_it (walk_list (K := K) (a := p) (xs := ys.map fun x => V.ref x.2.1)) (fun j σ9 H9 => KeepE d H8 H9 ∧ Same H0 H9 ∧ σ9[2]? = some (some (.ref d)) ∧ (∃ z, Ctx K σ9 H9 [some (.tuple (tR R)), some (tWs (W ++ [(e, sgn (R.getD 0 []) e)])), none, some (tI e), z]) ∧
            ∃ zs, DKs P w K H9 d zs ∧ keysOf zs = (T0.take j).foldl (fun u o => put u (odd o e)) T0)
          ⟨KeepE.refl e8, s08, h7, ⟨_, c8⟩, ys, D8, hk4⟩ (fun j σ9 H9 _ pv => pv.1.sq hsp) (fun j v9 σ9 H9 H10 hlt9 pv y => ?_) fun σ9 H9 pv => ?_
        · obtain ⟨k9, s9, h9, ⟨z9, c9⟩, zs, D9, hk9⟩ := pv
          obtain ⟨rfl, ev9⟩ := y
          have hj : j < ys.length := by simpa using hlt9
          rw [List.getElem?_map, List.getElem?_eq_getElem hj] at ev9
          cases ev9
          have hjT : T0[j]? = some ys[j].1 := by
            rw [← hk4]
            unfold keysOf
            rw [List.getElem?_map, List.getElem?_eq_getElem hj]
            rfl
          have hot : IsEff n ys[j].1 := FW0.eff _ (List.mem_of_getElem? hjT)
          have hS : SqT K H10 ys[j].2.1 (ys[j].1.map V.int) := k9.tp (key8 _ (List.getElem_mem hj))
          have c10 : Ctx K (σ9.set 4 (some (.ref ys[j].2.1))) H10 [some (.tuple (tR R)), some (tWs (W ++ [(e, sgn (R.getD 0 []) e)])), none, some (tI e), some (tI ys[j].1)] := c9.set (tI_of hS) 4
          have h10 : (σ9.set 4 (some (V.ref ys[j].2.1)))[2]? = some (some (.ref d)) := by rw [List.getElem?_set_ne (by decide)]; exact h9
          show tAsg _ _ _ (σ9.set 4 (some (V.ref ys[j].2.1))) H10
          generalize σ9.set 4 (some (V.ref ys[j].2.1)) = σ10 at c10 h10
          refine ⟨.ref d, h10, ?_⟩
          have yo : Yl K (tCall (sp_odd_by K) [] L2.E0 (tCons (tVar 4) (tCons (tVar 3) tNil))) σ10 H10 (tI (odd ys[j].1 e)) := yl_call (yla_cons (yl_v c10 rfl) (yla_one (yl_v c10 rfl))) ⟨n, _, e, h6, hot, he, rfl, rfl⟩
          refine yo H10 (Same.refl _) _ fun H11 u11 s11 hu11 => ?_
          obtain ⟨aK, rfl, hsK⟩ := tI_inv hu11
          have D11 := D9.same s11
          obtain ⟨o11, _, _, e11, _⟩ := id D11.obj
          have zl : zs.length ≤ 64 + 64 := by
            have h1 := puts_len T0 e (T0.take j) T0
            rw [← hk9, List.length_take] at h1
            unfold keysOf at h1
            rw [List.length_map] at h1
            omega
          refine ⟨d, aK, _, zs, true, rfl, rfl, rfl, hsK, D11, by omega, fun o12 ws hkw _ D12 => ?_⟩
          have kE : KeepE d H11 (upd H11 d (ExO d o12)) := KeepE.upd e11
          refine ⟨(k9.same s11).trans kE, Same.own (s9.trans s11) hd', h10, ⟨_, (c10.same s11).keepE kE⟩, ws, D12, ?_⟩
          rw [hkw, hk9, List.take_add_one, hjT, List.foldl_append]
          rfl
        · obtain ⟨k9, s9, h9, ⟨z9, c9⟩, zs, D9, hk9⟩ := pv
          refine ⟨k38.trans k9, s9, h9, ⟨_, _, c9⟩, zs, D9, ?_⟩
          rw [hk9, List.length_map, ylen, List.take_length]
          rfl
      · have stp : fwStep R (W, T0) e = (W, T0) := by
          unfold fwStep
          refine if_neg fun z => ?_
          rw [decide_eq_false z.1, z.2] at hb
          exact Bool.noConfusion hb
        rw [stp]
        exact ⟨k4.same s6, s4.trans s6, h5, ⟨_, _, c6⟩, ys, D4.same s6, hk4⟩
    · obtain ⟨k4, s4, h4, ⟨y4, z4, c4⟩, ys, D4, hk4⟩ := pv
      rw [lL, List.take_length] at c4
      exact sc_ret (yl_v (d := tWs (fixedW n R)) c4 rfl) r s4⟩
end K31W
set_option Elab.async false
set_option linter.all false
set_option maxRecDepth 100000
set_option maxHeartbeats 1000000
/-! K31Draw: what draws: the well, a list of three whole numbers that changes; the promises of the defs that draw. -/
namespace K31W
open PySem PySem.Spec PyProof.Rows L2 K31
abbrev rDivmod : List V → Hp → VK → Prop := fun xs H Q => ∃ i j, xs = [.int i, .int j] ∧ CDivP i j ∧ ∀ p, H p = none → Q (.ref p) (upd H p (.tup [.int (i / j), .int (i % j)]))
def Well (H : Hp) (p : Addr) : Prop := ∃ a b c : Int, 0 ≤ a ∧ H p = some (.lst [.int a, .int b, .int c])
def ButW (p : Addr) (H H' : Hp) : Prop := But p H H' ∧ Well H' p
variable {K : Fr} {p : Addr} {H H' H2 : Hp}
theorem Well.same (h : Well H p) (s : Same H H') : Well H' p := by
  obtain ⟨a, b, c, h0, e⟩ := h
  exact ⟨a, b, c, h0, s _ _ e⟩
theorem Well.but (h : Well H p) : But p H H := by
  obtain ⟨a, b, c, h0, e⟩ := h
  exact ⟨⟨_, e⟩, fun _ _ q _ => q⟩
theorem ButW.of (h : Well H p) (s : Same H H') : ButW p H H' := ⟨(h.but).same_r s, h.same s⟩
theorem ButW.trans (b : ButW p H H') (c : ButW p H' H2) : ButW p H H2 := ⟨b.1.trans c.1, c.2⟩
theorem ButW.same (b : ButW p H H') (s : Same H' H2) : ButW p H H2 := ⟨b.1.same_r s, b.2.same s⟩
/-- data that stands whatever is drawn -/
def stab (d : PyData) : Prop := firm d = true ∨ ∃ R, d = .list (tR R)
theorem well_no {R : List (List Int)} {xs : List V} (h : Well H p) (e : H p = some (.lst xs)) (hd : DpAll K H xs (tR R)) : False := by
  obtain ⟨a, b, c, _, e2⟩ := h
  rw [e] at e2
  cases e2
  cases R with
  | nil => cases hd
  | cons r R =>
    cases hd with
    | cons h1 _ =>
      obtain ⟨a, e, _⟩ := tI_inv h1
      cases e
theorem dp_stab {d : PyData} {v : V} (hw : Well H p) (b : But p H H') (hs : stab d) (h : Dp K H v d) : Dp K H' v d := by
  rcases hs with hs | ⟨R, rfl⟩
  · exact dp_but b d v hs h
  · obtain ⟨a, xs, rfl, hq, hd⟩ := lst_inv h
    have hd' := dps_but b _ _ (firms_tR R) hd
    rcases hq with (hq | ⟨o, hq⟩) | hq
    · exact .lst (.inl (.inl (b.2 _ _ hq fun z => well_no hw (by rw [← z]; exact hq) hd))) hd'
    · exact .lst (.inl (.inr ⟨o, b.2 _ _ hq fun z => by
        obtain ⟨⟨ys, e⟩, _⟩ := b
        rw [z, e] at hq
        cases hq⟩)) hd'
    · exact .lst (.inr hq) hd'
/-- the promise of a def that draws -/
def spW (K : Fr) (Pre : List PyData → Prop) (Out : List PyData → PyData → Prop) : Sp := fun vs H Q _ => ∃ p us ds, vs = .ref p :: us ∧ Well H p ∧ Pre ds ∧ DpAll K H us ds ∧ (∀ d ∈ ds, stab d) ∧ ∀ H' v d, ButW p H H' → Out ds d → Dp K H' v d → Q v H'
def Pre_draw : List PyData → Prop := fun ds => ∃ n : Int, ds = [.int n] ∧ 1 ≤ n ∧ n ≤ 1000000
def Out_draw : InP := fun ds d => ∃ n i : Int, ds = [.int n] ∧ d = .int i ∧ 0 ≤ i ∧ i < n
def Pre_one : List PyData → Prop := fun ds => ∃ xs : List PyData, (ds = [.tuple xs] ∧ firms xs = true ∨ ∃ R, xs = tR R ∧ ds = [.list xs]) ∧ xs ≠ [] ∧ xs.length ≤ 1000
def Out_one : InP := fun ds d => ∃ xs : List PyData, (ds = [.tuple xs] ∨ ds = [.list xs]) ∧ d ∈ xs
def Pre_run : List PyData → Prop := fun ds => ∃ n : Nat, ds = [.int n] ∧ n ≤ 6
def Out_run : InP := fun ds d => ∃ (n : Nat) (r : List Int), ds = [.int n] ∧ d = tI r ∧ IsRun n r
def Pre_eff : List PyData → Prop := fun ds => ∃ n : Nat, ds = [.int n] ∧ n ≤ 6
def Out_eff : InP := fun ds d => ∃ (n : Nat) (e : List Int), ds = [.int n] ∧ d = tI e ∧ IsEff n e
def Pre_words : List PyData → Prop := fun ds => ∃ n m : Nat, ds = [.int n, .int m, .bool true] ∧ 1 ≤ n ∧ n ≤ 6 ∧ m ≤ 10
def Out_words : InP := fun ds d => ∃ (n m : Nat) (W : List (List Int × Int)), ds = [.int n, .int m, .bool true] ∧ d = tWs W ∧ (∀ x ∈ W, IsEff n x.1) ∧ W.length ≤ 10
def Pre_mixed : List PyData → Prop := fun ds => ∃ R, ds = [.list (tR R)] ∧ R.length ≤ 64
def Out_mixed : InP := fun ds d => ∃ R R', ds = [.list (tR R)] ∧ d = .list (tR R') ∧ R'.Perm R
abbrev sp__law_draw (K : Fr) : Sp := spW K Pre_draw Out_draw
abbrev sp__law_one (K : Fr) : Sp := spW K Pre_one Out_one
abbrev sp__law_run (K : Fr) : Sp := spW K Pre_run Out_run
abbrev sp__law_effect (K : Fr) : Sp := spW K Pre_eff Out_eff
abbrev sp__law_words (K : Fr) : Sp := spW K Pre_words Out_words
abbrev sp__law_mixed (K : Fr) : Sp := spW K Pre_mixed Out_mixed
def sp__law_well (K : Fr) : Sp := fun vs H Q _ => ∃ (a : Addr) (ns : List Int) (lap : Nat), vs = [.ref a, .int lap] ∧ SqL K H a (ns.map V.int) ∧ lap ≤ 1000 ∧ ∀ H' q, Same H H' → H q = none → Well H' q → Q (.ref q) H'
def sp__law_plan (K : Fr) : Sp := fun vs H Q _ => ∃ q, vs = [.ref q] ∧ Well H q ∧ ∀ H' a n R, ButW q H H' → PlainT H' a → Plan n R → Dp K H' (.ref a) (.tuple (tR R)) → Q (.ref a) H'
end K31W
set_option Elab.async false
set_option linter.all false
set_option maxRecDepth 100000
set_option maxHeartbeats 4000000
/-! printed by wip/gen.py: the walks of further defs. -/
namespace K31W
open PySem PySem.Spec PyProof.Rows L2
variable {P : Program} {w : World} {K : Fr} {mg : Str → Option Value} {base : Heap} {aN : Addr} {A : Around} {outer : List Env} {s : Shared} {H : Hp} {E : XK} {f : Addr} {cdv : Value}
def T__law_well (K : Fr) (aN : Addr) : TS := (tSeq (tAsg (tOp (rI0 fun i j => .int (i + j)) (tC (.int 50333)) (tOp (rI CMul fun i j => .int (i * j)) (tC (.int 7919)) (tVar 1))) (gName 2))
  (tSeq (tFor (iList K (tSl (rSlL K) (tVar 0) tNoPart (tPart (tC (.int 10))))) (gName 3)
  (tAsg (tOp (rI (fun _ j => 0 < j) fun i j => .int (i % j)) (tCB (rInt1) (tCons (tOp (rI0 fun i j => .int (i + j)) (tOp (rI0 fun i j => .int (i + j)) (tOp (rI CMul fun i j => .int (i * j)) (tVar 2) (tC (.int 52361))) (tOp (rI CMul fun i j => .int (i * j)) (tOp (rI (fun _ j => 0 < j) fun i j => .int (i % j)) (tCB (rInt1) (tCons (tVar 3) tNil)) (tC (.int 2147483489))) (tC (.int 7)))) (tC (.int 19))) tNil)) (tC (.int 2147483489))) (gName 2)))
  (tSeq (tAsg (tIf (tTest (tOp (rI0 fun i j => .bl (decide (i < j))) (tVar 1) (tCB (rLen K) (tCons (tVar 0) tNil)))) (tCB (rInt1) (tCons (tOp (rIxL K) (tVar 0) (tVar 1)) tNil)) (tC (.int 0))) (gName 4))
  (tSeq (tAsg (tOp (rI (fun _ j => 0 < j) fun i j => .int (i % j)) (tCB (rInt1) (tCons (tOp (rI0 fun i j => .int (i + j)) (tOp (rI0 fun i j => .int (i + j)) (tOp (rI CMul fun i j => .int (i * j)) (tVar 2) (tC (.int 47))) (tOp (rI CMul fun i j => .int (i * j)) (tOp (rI (fun _ j => 0 < j) fun i j => .int (i % j)) (tCB (rInt1) (tCons (tVar 4) tNil)) (tC (.int 2147483489))) (tC (.int 30109)))) (tC (.int 5))) tNil)) (tC (.int 2147483489))) (gName 2))
  (tRet (tLst (tCons (tIf (tOr (tTest (tOp (rI0 fun i j => .bl (decide (i < j))) (tVar 4) (tC (.int 0)))) (tTest (tOp (rI0 fun i j => .bl (decide (j ≤ i))) (tVar 4) (tOp (rI CPow fun i j => .int (i ^ j.toNat)) (tC (.int 10)) (tC (.int 14)))))) (tCB (rAbs) (tCons (tVar 4) tNil)) (tC (.int 0))) (tCons (tVar 2) (tCons (tC (.int 0)) tNil)))))))))
theorem w__law_well (T : Txt K mg aN)  (hr : Room 0 (A.deeper (envOfC "_law_well" (defScope s__law_well) s.heap.objs.size f cdv))) :
    PSs (cxOf CX0 P w K mg base N__law_well "_law_well" (defScope s__law_well) f cdv A outer s H E).nox (defBody s__law_well) (T__law_well K aN) := by
  have nd := sc__law_well.nd
  unfold T__law_well
  exact (pss_cons (ps_set (i := 2) nd rfl (Or.inl rfl) (pe_op op_add pe_int (pe_op op_mul pe_int (pv 1))))
  (pss_cons (ps_for PassesOwn.never rfl (pi_list (pe_slice sl_list (pv 0) po_none (po_some pe_int))) (pg_name (i := 3) nd rfl (Or.inl rfl))
  (pss_one (ps_set (i := 2) nd rfl (Or.inl rfl) (pe_op op_mod (pe_callTy call_int1 rfl T.z_int (by decide +kernel) (pa_cons (pe_op op_add (pe_op op_add (pe_op op_mul (pv 2) pe_int) (pe_op op_mul (pe_op op_mod (pe_callTy call_int1 rfl T.z_int (by decide +kernel) (pa_cons (pv 3) pa_nil)) pe_int) pe_int)) pe_int) pa_nil)) pe_int))))
  (pss_cons (ps_set (i := 4) nd rfl (Or.inl rfl) (pe_ifExp (pt_cmpR op_lt (pv 1) (pe_callB call_len_seq rfl T.z_len (by decide +kernel) (pa_cons (pv 0) pa_nil)) (nomark _)) (pe_callTy call_int1 rfl T.z_int (by decide +kernel) (pa_cons (pe_ix ix_list (pv 0) (pv 1) (fun _ _ => rfl)) pa_nil)) pe_int))
  (pss_cons (ps_set (i := 2) nd rfl (Or.inl rfl) (pe_op op_mod (pe_callTy call_int1 rfl T.z_int (by decide +kernel) (pa_cons (pe_op op_add (pe_op op_add (pe_op op_mul (pv 2) pe_int) (pe_op op_mul (pe_op op_mod (pe_callTy call_int1 rfl T.z_int (by decide +kernel) (pa_cons (pv 4) pa_nil)) pe_int) pe_int)) pe_int) pa_nil)) pe_int))
  (pss_one (ps_ret (pe_lst (pa_cons (pe_ifExp (PW.pt (pw_or (pt_cmpR op_lt (pv 4) pe_int (nomark _)) (pw_or1 (pt_cmpR op_ge (pv 4) (pe_op op_pow pe_int pe_int) (nomark _))))) (pe_callB call_abs rfl T.z_abs (by decide +kernel) (pa_cons (pv 4) pa_nil)) pe_int) (pa_cons (pv 2) (pa_cons pe_int pa_nil))))))))))
def T__law_draw (K : Fr) (aN : Addr) : TS := (tSeq (tIfS (tTest (tOp (rI0 fun i j => .bl (decide (j < i))) (tOp (rIxL K) (tVar 0) (tC (.int 0))) (tC (.int 0)))) (tSeq (tAsg (tCB (rDivmod) (tCons (tOp (rIxL K) (tVar 0) (tC (.int 0))) (tCons (tVar 1) tNil))) (gTup K 2 (gCons (gSub (tVar 0) (tC (.int 0)) rSetL) (gCons (gName 2) gNil))))
  (tRet (tVar 2))) tNext)
  (tSeq (tAsg (tOp (rI0 fun i j => .int (i + j)) (tOp (rIxL K) (tVar 0) (tC (.int 2))) (tC (.int 1))) (gSub (tVar 0) (tC (.int 2)) rSetL))
  (tSeq (tAsg (tOp (rI (fun _ j => 0 < j) fun i j => .int (i % j)) (tCB (rInt1) (tCons (tOp (rI0 fun i j => .int (i + j)) (tOp (rI CMul fun i j => .int (i * j)) (tOp (rIxL K) (tVar 0) (tC (.int 1))) (tC (.int 48271))) (tOp (rI CMul fun i j => .int (i * j)) (tC (.int 15017)) (tOp (rIxL K) (tVar 0) (tC (.int 2))))) tNil)) (tC (.int 2147483489))) (gName 3))
  (tSeq (tAsg (tOp (rI (fun _ j => 0 < j) fun i j => .int (i % j)) (tCB (rInt1) (tCons (tOp (rI0 fun i j => .int (i + j)) (tOp (rI CMul fun i j => .int (i * j)) (tVar 3) (tOp (rI0 fun i j => .int (i + j)) (tOp (rI (fun _ j => 0 < j) fun i j => .int (i % j)) (tCB (rInt1) (tCons (tVar 3) tNil)) (tC (.int 5003))) (tC (.int 20021)))) (tOp (rIxL K) (tVar 0) (tC (.int 2)))) tNil)) (tC (.int 2147483489))) (gSub (tVar 0) (tC (.int 1)) rSetL))
  (tRet (tOp (rI (fun _ j => 0 < j) fun i j => .int (i % j)) (tCB (rInt1) (tCons (tOp (rI CDiv fun i j => .int (i / j)) (tOp (rIxL K) (tVar 0) (tC (.int 1))) (tC (.int 1009))) tNil)) (tVar 1)))))))
theorem w__law_draw (T : Txt K mg aN)  (hr : Room 0 (A.deeper (envOfC "_law_draw" (defScope s__law_draw) s.heap.objs.size f cdv))) :
    PSs (cxOf CX0 P w K mg base N__law_draw "_law_draw" (defScope s__law_draw) f cdv A outer s H E).nox (defBody s__law_draw) (T__law_draw K aN) := by
  have nd := sc__law_draw.nd
  unfold T__law_draw
  exact (pss_cons (ps_if (pt_cmpR op_gt (pe_ix ix_list (pv 0) pe_int (fun _ _ => rfl)) pe_int (nomark _)) (pss_cons (ps_asg (pe_callB call_divmodW rfl T.z_divmod (by decide +kernel) (pa_cons (pe_ix ix_list (pv 0) pe_int (fun _ _ => rfl)) (pa_cons (pv 1) pa_nil))) (pg_tup rfl (pgs_cons (pg_sub (pv 0) pe_int set_list) (pgs_cons (pg_name (i := 2) nd rfl (Or.inl rfl)) pgs_nil))))
  (pss_one (ps_ret (pv 2)))) pss_nil)
  (pss_cons (ps_asg (pe_op op_add (pe_ix ix_list (pv 0) pe_int (fun _ _ => rfl)) pe_int) (pg_sub (pv 0) pe_int set_list))
  (pss_cons (ps_set (i := 3) nd rfl (Or.inl rfl) (pe_op op_mod (pe_callTy call_int1 rfl T.z_int (by decide +kernel) (pa_cons (pe_op op_add (pe_op op_mul (pe_ix ix_list (pv 0) pe_int (fun _ _ => rfl)) pe_int) (pe_op op_mul pe_int (pe_ix ix_list (pv 0) pe_int (fun _ _ => rfl)))) pa_nil)) pe_int))
  (pss_cons (ps_asg (pe_op op_mod (pe_callTy call_int1 rfl T.z_int (by decide +kernel) (pa_cons (pe_op op_add (pe_op op_mul (pv 3) (pe_op op_add (pe_op op_mod (pe_callTy call_int1 rfl T.z_int (by decide +kernel) (pa_cons (pv 3) pa_nil)) pe_int) pe_int)) (pe_ix ix_list (pv 0) pe_int (fun _ _ => rfl))) pa_nil)) pe_int) (pg_sub (pv 0) pe_int set_list))
  (pss_one (ps_ret (pe_op op_mod (pe_callTy call_int1 rfl T.z_int (by decide +kernel) (pa_cons (pe_op op_fdiv (pe_ix ix_list (pv 0) pe_int (fun _ _ => rfl)) pe_int) pa_nil)) (pv 1))))))))
def T__law_one (K : Fr) (aN : Addr) : TS := (tRet (tOp (rIx K) (tVar 1) (tCall (sp__law_draw K) [] L2.E0 (tCons (tVar 0) (tCons (tCB (rLen K) (tCons (tVar 1) tNil)) tNil)))))
theorem w__law_one (T : Txt K mg aN) (F__law_draw : Ok P w K mg base 1 "_law_draw" p__law_draw (sp__law_draw K)) (hr : Room 1 (A.deeper (envOfC "_law_one" (defScope s__law_one) s.heap.objs.size f cdv))) :
    PSs (cxOf CX0 P w K mg base N__law_one "_law_one" (defScope s__law_one) f cdv A outer s H E).nox (defBody s__law_one) (T__law_one K aN) := by
  have nd := sc__law_one.nd
  unfold T__law_one
  exact (pss_one (ps_ret (pe_ix ix_seq (pv 1) (pe_ok F__law_draw (hr.mono (by decide)) rfl (pa_cons (pv 0) (pa_cons (pe_callB call_len_seq rfl T.z_len (by decide +kernel) (pa_cons (pv 1) pa_nil)) pa_nil))) (fun _ _ => rfl))))
def T__law_run (K : Fr) (aN : Addr) : TS := (tSeq (tAsg (tTup tNil) (gName 2))
  (tSeq (tFor (iRng1 (tCons (tVar 1) tNil)) (gName 3)
  (tAsg (tOp (rCatA K) (tVar 2) (tTup (tCons (tCall (sp__law_one K) [] L2.E0 (tCons (tVar 0) (tCons (tTup (tCons (tC (.int 1)) (tCons (tUn (rU fun i => .int (-i)) (tC (.int 1))) tNil))) tNil))) tNil))) (gName 2)))
  (tRet (tVar 2))))
theorem w__law_run (T : Txt K mg aN) (F__law_one : Ok P w K mg base 2 "_law_one" p__law_one (sp__law_one K)) (hr : Room 2 (A.deeper (envOfC "_law_run" (defScope s__law_run) s.heap.objs.size f cdv))) :
    PSs (cxOf CX0 P w K mg base N__law_run "_law_run" (defScope s__law_run) f cdv A outer s H E).nox (defBody s__law_run) (T__law_run K aN) := by
  have nd := sc__law_run.nd
  unfold T__law_run
  exact (pss_cons (ps_set (i := 2) nd rfl (Or.inl rfl) (pe_tup pa_nil))
  (pss_cons (ps_for PassesOwn.never rfl (pi_range1 rfl T.z_range (pa_cons (pv 1) pa_nil)) (pg_name (i := 3) nd rfl (Or.inl rfl))
  (pss_one (ps_set (i := 2) nd rfl (Or.inl rfl) (pe_op op_catA (pv 2) (pe_tup (pa_cons (pe_ok F__law_one (hr.mono (by decide)) rfl (pa_cons (pv 0) (pa_cons (pe_tup (pa_cons pe_int (pa_cons (pe_un un_neg pe_int) pa_nil))) pa_nil))) pa_nil))))))
  (pss_one (ps_ret (pv 2)))))
def T__law_effect (K : Fr) (aN : Addr) : TS := (tSeq (tAsg (tTup tNil) (gName 2))
  (tSeq (tFor (iRng1 (tCons (tVar 1) tNil)) (gName 3)
  (tIfS (tTest (tOp (rEqD K) (tCall (sp__law_draw K) [] L2.E0 (tCons (tVar 0) (tCons (tC (.int 2)) tNil))) (tC (.int 1)))) (tAsg (tOp (rCatA K) (tVar 2) (tTup (tCons (tVar 3) tNil))) (gName 2)) tNext))
  (tRet (tVar 2))))
theorem w__law_effect (T : Txt K mg aN) (F__law_draw : Ok P w K mg base 1 "_law_draw" p__law_draw (sp__law_draw K)) (hr : Room 1 (A.deeper (envOfC "_law_effect" (defScope s__law_effect) s.heap.objs.size f cdv))) :
    PSs (cxOf CX0 P w K mg base N__law_effect "_law_effect" (defScope s__law_effect) f cdv A outer s H E).nox (defBody s__law_effect) (T__law_effect K aN) := by
  have nd := sc__law_effect.nd
  unfold T__law_effect
  exact (pss_cons (ps_set (i := 2) nd rfl (Or.inl rfl) (pe_tup pa_nil))
  (pss_cons (ps_for PassesOwn.never rfl (pi_range1 rfl T.z_range (pa_cons (pv 1) pa_nil)) (pg_name (i := 3) nd rfl (Or.inl rfl))
  (pss_one (ps_if (pt_cmpR (op_eqD (hu64 hr)) (pe_ok F__law_draw (hr.mono (by decide)) rfl (pa_cons (pv 0) (pa_cons pe_int pa_nil))) pe_int (nomark _)) (pss_one (ps_set (i := 2) nd rfl (Or.inl rfl) (pe_op op_catA (pv 2) (pe_tup (pa_cons (pv 3) pa_nil))))) pss_nil)))
  (pss_one (ps_ret (pv 2)))))
def T__law_words (K : Fr) (aN : Addr) : TS := (tSeq (tPar 4 5 (tCons (tCall (sp__law_run K) [] L2.E0 (tCons (tVar 0) (tCons (tVar 1) tNil))) (tCons (tTup tNil) tNil)))
  (tSeq (tFor (iRng1 (tCons (tCall (sp__law_draw K) [] L2.E0 (tCons (tVar 0) (tCons (tOp (rI0 fun i j => .int (i + j)) (tVar 2) (tC (.int 1))) tNil))) tNil)) (gName 6)
  (tSeq (tAsg (tCall (sp__law_effect K) [] L2.E0 (tCons (tVar 0) (tCons (tVar 1) tNil))) (gName 7))
  (tSeq (tIfS (tAnd (tTest (tOp (rI0 fun i j => .bl (decide (j < i))) (tCB (rLen K) (tCons (tVar 5) tNil)) (tC (.int 1)))) (tTest (tOp (rEqD K) (tCall (sp__law_draw K) [] L2.E0 (tCons (tVar 0) (tCons (tC (.int 3)) tNil))) (tC (.int 0))))) (tAsg (tCall (sp__law_parted K) [] L2.E0 (tCons (tOp (rIxT K) (tCall (sp__law_one K) [] L2.E0 (tCons (tVar 0) (tCons (tVar 5) tNil))) (tC (.int 0))) (tCons (tOp (rIxT K) (tCall (sp__law_one K) [] L2.E0 (tCons (tVar 0) (tCons (tVar 5) tNil))) (tC (.int 0))) tNil))) (gName 7)) tNext)
  (tSeq (tAsg (tIf (tTest (tOp (rEqD K) (tVar 7) (tTup tNil))) (tTup (tCons (tCall (sp__law_draw K) [] L2.E0 (tCons (tVar 0) (tCons (tVar 1) tNil))) tNil)) (tVar 7)) (gName 7))
  (tAsg (tOp (rCatA K) (tVar 5) (tTup (tCons (tTup (tCons (tVar 7) (tCons (tIf (tB (tVar 3)) (tCall (sp__law_sign K) [] L2.E0 (tCons (tVar 4) (tCons (tVar 7) tNil))) (tCall (sp__law_one K) [] L2.E0 (tCons (tVar 0) (tCons (tTup (tCons (tC (.int 1)) (tCons (tUn (rU fun i => .int (-i)) (tC (.int 1))) tNil))) tNil)))) tNil))) tNil))) (gName 5))))))
  (tRet (tVar 5))))
theorem w__law_words (T : Txt K mg aN) (F__law_draw : Ok P w K mg base 1 "_law_draw" p__law_draw (sp__law_draw K)) (F__law_effect : Ok P w K mg base 2 "_law_effect" p__law_effect (sp__law_effect K)) (F__law_one : Ok P w K mg base 2 "_law_one" p__law_one (sp__law_one K)) (F__law_parted : Ok P w K mg base 1 "_law_parted" p__law_parted (sp__law_parted K)) (F__law_run : Ok P w K mg base 3 "_law_run" p__law_run (sp__law_run K)) (F__law_sign : Ok P w K mg base 1 "_law_sign" p__law_sign (sp__law_sign K)) (hr : Room 3 (A.deeper (envOfC "_law_words" (defScope s__law_words) s.heap.objs.size f cdv))) :
    PSs (cxOf CX0 P w K mg base N__law_words "_law_words" (defScope s__law_words) f cdv A outer s H E).nox (defBody s__law_words) (T__law_words K aN) := by
  have nd := sc__law_words.nd
  unfold T__law_words
  exact (pss_cons (ps_par (i := 4) (j := 5) rfl nd rfl rfl (by decide) rfl rfl (pa_cons (pe_ok F__law_run (hr.mono (by decide)) rfl (pa_cons (pv 0) (pa_cons (pv 1) pa_nil))) (pa_cons (pe_tup pa_nil) pa_nil)) (by rfl))
  (pss_cons (ps_for PassesOwn.never rfl (pi_range1 rfl T.z_range (pa_cons (pe_ok F__law_draw (hr.mono (by decide)) rfl (pa_cons (pv 0) (pa_cons (pe_op op_add (pv 2) pe_int) pa_nil))) pa_nil)) (pg_name (i := 6) nd rfl (Or.inl rfl))
  (pss_cons (ps_set (i := 7) nd rfl (Or.inl rfl) (pe_ok F__law_effect (hr.mono (by decide)) rfl (pa_cons (pv 0) (pa_cons (pv 1) pa_nil))))
  (pss_cons (ps_if (PW.pt (pw_and (pt_cmpR op_gt (pe_callB call_len_seq rfl T.z_len (by decide +kernel) (pa_cons (pv 5) pa_nil)) pe_int (nomark _)) (pw_and1 (pt_cmpR (op_eqD (hu64 hr)) (pe_ok F__law_draw (hr.mono (by decide)) rfl (pa_cons (pv 0) (pa_cons pe_int pa_nil))) pe_int (nomark _))))) (pss_one (ps_set (i := 7) nd rfl (Or.inl rfl) (pe_ok F__law_parted (hr.mono (by decide)) rfl (pa_cons (pe_ix ix_tup (pe_ok F__law_one (hr.mono (by decide)) rfl (pa_cons (pv 0) (pa_cons (pv 5) pa_nil))) pe_int (fun _ _ => rfl)) (pa_cons (pe_ix ix_tup (pe_ok F__law_one (hr.mono (by decide)) rfl (pa_cons (pv 0) (pa_cons (pv 5) pa_nil))) pe_int (fun _ _ => rfl)) pa_nil))))) pss_nil)
  (pss_cons (ps_set (i := 7) nd rfl (Or.inl rfl) (pe_ifExp (pt_cmpR (op_eqD (hu64 hr)) (pv 7) (pe_tup pa_nil) (nomark _)) (pe_tup (pa_cons (pe_ok F__law_draw (hr.mono (by decide)) rfl (pa_cons (pv 0) (pa_cons (pv 1) pa_nil))) pa_nil)) (pv 7)))
  (pss_one (ps_set (i := 5) nd rfl (Or.inl rfl) (pe_op op_catA (pv 5) (pe_tup (pa_cons (pe_tup (pa_cons (pv 7) (pa_cons (pe_ifExp (pt_val (pv 3)) (pe_ok F__law_sign (hr.mono (by decide)) rfl (pa_cons (pv 4) (pa_cons (pv 7) pa_nil))) (pe_ok F__law_one (hr.mono (by decide)) rfl (pa_cons (pv 0) (pa_cons (pe_tup (pa_cons pe_int (pa_cons (pe_un un_neg pe_int) pa_nil))) pa_nil)))) pa_nil))) pa_nil)))))))))
  (pss_one (ps_ret (pv 5)))))
def T__law_mixed (K : Fr) (aN : Addr) : TS := (tSeq (tPar 2 3 (tCons (tCB (rListOf K) (tCons (tVar 1) tNil)) (tCons (tLst tNil) tNil)))
  (tSeq (tFor (iRng1 (tCons (tCB (rLen K) (tCons (tVar 1) tNil)) tNil)) (gName 4)
  (tDrop (tBM K "list" rAppend (tVar 3) (tCons (tBM K "list" rPopAt (tVar 2) (tCons (tCall (sp__law_draw K) [] L2.E0 (tCons (tVar 0) (tCons (tCB (rLen K) (tCons (tVar 2) tNil)) tNil))) tNil)) tNil))))
  (tRet (tVar 3))))
theorem w__law_mixed (T : Txt K mg aN) (F__law_draw : Ok P w K mg base 1 "_law_draw" p__law_draw (sp__law_draw K)) (hr : Room 1 (A.deeper (envOfC "_law_mixed" (defScope s__law_mixed) s.heap.objs.size f cdv))) :
    PSs (cxOf CX0 P w K mg base N__law_mixed "_law_mixed" (defScope s__law_mixed) f cdv A outer s H E).nox (defBody s__law_mixed) (T__law_mixed K aN) := by
  have nd := sc__law_mixed.nd
  unfold T__law_mixed
  exact (pss_cons (ps_par (i := 2) (j := 3) rfl nd rfl rfl (by decide) rfl rfl (pa_cons (pe_callTy call_list_of rfl T.z_list (by decide +kernel) (pa_cons (pv 1) pa_nil)) (pa_cons (pe_lst pa_nil) pa_nil)) (by rfl))
  (pss_cons (ps_for PassesOwn.never rfl (pi_range1 rfl T.z_range (pa_cons (pe_callB call_len_seq rfl T.z_len (by decide +kernel) (pa_cons (pv 1) pa_nil)) pa_nil)) (pg_name (i := 4) nd rfl (Or.inl rfl))
  (pss_one (ps_expr (pe_bm PySem.F.plainAttrs_list PySem.F.slot_list_append PySem.F.type_list_append mt_append (pv 3) (pa_cons (pe_bm PySem.F.plainAttrs_list PySem.F.slot_list_pop PySem.F.type_list_pop mt_popAt (pv 2) (pa_cons (pe_ok F__law_draw (hr.mono (by decide)) rfl (pa_cons (pv 0) (pa_cons (pe_callB call_len_seq rfl T.z_len (by decide +kernel) (pa_cons (pv 2) pa_nil)) pa_nil))) pa_nil)) pa_nil)))))
  (pss_one (ps_ret (pv 3)))))
def T__law_plan (K : Fr) (aN : Addr) : TS := (tSeq (tAsg (tCall (sp__law_one K) [] L2.E0 (tCons (tVar 0) (tCons (tTup (tCons (tC (.int 1)) (tCons (tC (.int 2)) (tCons (tC (.int 2)) (tCons (tC (.int 3)) (tCons (tC (.int 3)) (tCons (tC (.int 3)) (tCons (tC (.int 4)) (tCons (tC (.int 4)) (tCons (tC (.int 4)) (tCons (tC (.int 5)) (tCons (tC (.int 6)) tNil)))))))))))) tNil))) (gName 1))
  (tSeq (tAsg (tCB (rMax2) (tCons (tC (.int 0)) (tCons (tOp (rI0 fun i j => .int (i - j)) (tVar 1) (tC (.int 4))) tNil))) (gName 2))
  (tSeq (tAsg (tOp (rCatA K) (tCall (sp__law_words K) [] L2.E0 (tCons (tVar 0) (tCons (tVar 1) (tCons (tC (.int 4)) (tCons (tC (.bl true)) tNil))))) (tCall (sp__law_words K) [] L2.E0 (tCons (tVar 0) (tCons (tVar 1) (tCons (tVar 2) (tCons (tC (.bl true)) tNil)))))) (gName 3))
  (tSeq (tAsg (tTup (tCons (tCB (rListOf K) (tCons (tCall (sp__law_fitting K) [] L2.E0 (tCons (tVar 1) (tCons (tVar 3) tNil))) tNil)) (tCons (tCall (sp__law_draw K) [] L2.E0 (tCons (tVar 0) (tCons (tC (.int 9)) tNil))) tNil))) (gTup K 2 (gCons (gName 4) (gCons (gName 5) gNil))))
  (tSeq (tIfS (tOr (tTest (tOp (rEqD K) (tVar 5) (tC (.int 0)))) (tTest (tOp (rEqD K) (tVar 4) (tLst tNil)))) (tSeq (tAsg (tLst (tCons (tCall (sp__law_run K) [] L2.E0 (tCons (tVar 0) (tCons (tVar 1) tNil))) tNil)) (gName 4))
  (tFor (iRng1 (tCons (tCall (sp__law_draw K) [] L2.E0 (tCons (tVar 0) (tCons (tC (.int 9)) tNil))) tNil)) (gName 6)
  (tDrop (tBM K "list" rAppend (tVar 4) (tCons (tCall (sp__law_run K) [] L2.E0 (tCons (tVar 0) (tCons (tVar 1) tNil))) tNil))))) tNext)
  (tSeq (tIfS (tTest (tOp (rEqD K) (tVar 5) (tC (.int 1)))) (tAsg (tOp (rCatS K) (tVar 4) (tVar 4)) (gName 4)) tNext)
  (tSeq (tIfS (tTest (tOp (rEqD K) (tVar 5) (tC (.int 2)))) (tAsg (tOp (rCatS K) (tVar 4) (tLc (iTup K (tCall (sp__law_fitting K) [] L2.E0 (tCons (tVar 1) (tCons (tCall (sp__law_words K) [] L2.E0 (tCons (tVar 0) (tCons (tVar 1) (tCons (tC (.int 4)) (tCons (tC (.bl true)) tNil))))) tNil)))) (gName 9) (tTest (tOp (rInR K true) (tVar 9) (tVar 4))) (tVar 9) [9])) (gName 4)) tNext)
  (tSeq (tIfS (tTest (tOp (rEqD K) (tVar 5) (tC (.int 3)))) (tDrop (tBM K "list" rAppend (tVar 4) (tCons (tCall (sp__law_run K) [] L2.E0 (tCons (tVar 0) (tCons (tVar 1) tNil))) tNil))) tNext)
  (tSeq (tIfS (tTest (tOp (rEqD K) (tVar 5) (tC (.int 4)))) (tDrop (tBM K "list" rAppend (tVar 4) (tCons (tCall (sp__law_one K) [] L2.E0 (tCons (tVar 0) (tCons (tVar 4) tNil))) tNil))) tNext)
  (tSeq (tIfS (tAnd (tTest (tOp (rEqD K) (tVar 5) (tC (.int 5)))) (tTest (tOp (rI0 fun i j => .bl (decide (j < i))) (tCB (rLen K) (tCons (tVar 4) tNil)) (tC (.int 1))))) (tDrop (tBM K "list" rPopAt (tVar 4) (tCons (tCall (sp__law_draw K) [] L2.E0 (tCons (tVar 0) (tCons (tCB (rLen K) (tCons (tVar 4) tNil)) tNil))) tNil))) tNext)
  (tSeq (tIfS (tTest (tOp (rEqD K) (tVar 5) (tC (.int 6)))) (tSeq (tPar 7 8 (tCons (tCall (sp__law_draw K) [] L2.E0 (tCons (tVar 0) (tCons (tCB (rLen K) (tCons (tVar 4) tNil)) tNil))) (tCons (tCall (sp__law_draw K) [] L2.E0 (tCons (tVar 0) (tCons (tVar 1) tNil))) tNil)))
  (tAsg (tOp (rCatA K) (tOp (rCatA K) (tSl (rSlA K) (tOp (rIxL K) (tVar 4) (tVar 7)) tNoPart (tPart (tVar 8))) (tTup (tCons (tOp (rI0 fun i j => .int (i - j)) (tC (.int 0)) (tOp (rIxT K) (tOp (rIxL K) (tVar 4) (tVar 7)) (tVar 8))) tNil))) (tSl (rSlA K) (tOp (rIxL K) (tVar 4) (tVar 7)) (tPart (tOp (rI0 fun i j => .int (i + j)) (tVar 8) (tC (.int 1)))) tNoPart)) (gSub (tVar 4) (tVar 7) rSetL))) tNext)
  (tRet (tCB (rTupF K) (tCons (tCall (sp__law_mixed K) [] L2.E0 (tCons (tVar 0) (tCons (tSl (rSlL K) (tVar 4) tNoPart (tPart (tC (.int 64)))) tNil))) tNil))))))))))))))
theorem w__law_plan (T : Txt K mg aN) (F__law_draw : Ok P w K mg base 1 "_law_draw" p__law_draw (sp__law_draw K)) (F__law_fitting : Ok P w K mg base 2 "_law_fitting" p__law_fitting (sp__law_fitting K)) (F__law_mixed : Ok P w K mg base 2 "_law_mixed" p__law_mixed (sp__law_mixed K)) (F__law_one : Ok P w K mg base 2 "_law_one" p__law_one (sp__law_one K)) (F__law_run : Ok P w K mg base 3 "_law_run" p__law_run (sp__law_run K)) (F__law_words : Ok P w K mg base 4 "_law_words" p__law_words (sp__law_words K)) (hr : Room 4 (A.deeper (envOfC "_law_plan" (defScope s__law_plan) s.heap.objs.size f cdv))) :
    PSs (cxOf CX0 P w K mg base N__law_plan "_law_plan" (defScope s__law_plan) f cdv A outer s H E).nox (defBody s__law_plan) (T__law_plan K aN) := by
  have nd := sc__law_plan.nd
  unfold T__law_plan
  exact (pss_cons (ps_set (i := 1) nd rfl (Or.inl rfl) (pe_ok F__law_one (hr.mono (by decide)) rfl (pa_cons (pv 0) (pa_cons (pe_tup (pa_cons pe_int (pa_cons pe_int (pa_cons pe_int (pa_cons pe_int (pa_cons pe_int (pa_cons pe_int (pa_cons pe_int (pa_cons pe_int (pa_cons pe_int (pa_cons pe_int (pa_cons pe_int pa_nil)))))))))))) pa_nil))))
  (pss_cons (ps_set (i := 2) nd rfl (Or.inl rfl) (pe_callB (call_max2 rfl) rfl T.z_max (by decide +kernel) (pa_cons pe_int (pa_cons (pe_op op_sub (pv 1) pe_int) pa_nil))))
  (pss_cons (ps_set (i := 3) nd rfl (Or.inl rfl) (pe_op op_catA (pe_ok F__law_words (hr.mono (by decide)) rfl (pa_cons (pv 0) (pa_cons (pv 1) (pa_cons pe_int (pa_cons pe_bl pa_nil))))) (pe_ok F__law_words (hr.mono (by decide)) rfl (pa_cons (pv 0) (pa_cons (pv 1) (pa_cons (pv 2) (pa_cons pe_bl pa_nil)))))))
  (pss_cons (ps_asg (pe_tup (pa_cons (pe_callTy call_list_of rfl T.z_list (by decide +kernel) (pa_cons (pe_ok F__law_fitting (hr.mono (by decide)) rfl (pa_cons (pv 1) (pa_cons (pv 3) pa_nil))) pa_nil)) (pa_cons (pe_ok F__law_draw (hr.mono (by decide)) rfl (pa_cons (pv 0) (pa_cons pe_int pa_nil))) pa_nil))) (pg_tup rfl (pgs_cons (pg_name (i := 4) nd rfl (Or.inr rfl)) (pgs_cons (pg_name (i := 5) nd rfl (Or.inl rfl)) pgs_nil))))
  (pss_cons (ps_if (PW.pt (pw_or (pt_cmpR (op_eqD (hu64 hr)) (pv 5) pe_int (nomark _)) (pw_or1 (pt_cmpR (op_eqD (hu64 hr)) (pv 4) (pe_lst pa_nil) (nomark _))))) (pss_cons (ps_set (i := 4) nd rfl (Or.inr rfl) (pe_lst (pa_cons (pe_ok F__law_run (hr.mono (by decide)) rfl (pa_cons (pv 0) (pa_cons (pv 1) pa_nil))) pa_nil)))
  (pss_one (ps_for PassesOwn.never rfl (pi_range1 rfl T.z_range (pa_cons (pe_ok F__law_draw (hr.mono (by decide)) rfl (pa_cons (pv 0) (pa_cons pe_int pa_nil))) pa_nil)) (pg_name (i := 6) nd rfl (Or.inl rfl))
  (pss_one (ps_expr (pe_bm PySem.F.plainAttrs_list PySem.F.slot_list_append PySem.F.type_list_append mt_append (pv 4) (pa_cons (pe_ok F__law_run (hr.mono (by decide)) rfl (pa_cons (pv 0) (pa_cons (pv 1) pa_nil))) pa_nil))))))) pss_nil)
  (pss_cons (ps_if (pt_cmpR (op_eqD (hu64 hr)) (pv 5) pe_int (nomark _)) (pss_one (ps_set (i := 4) nd rfl (Or.inr rfl) (pe_op op_catS (pv 4) (pv 4)))) pss_nil)
  (pss_cons (ps_if (pt_cmpR (op_eqD (hu64 hr)) (pv 5) pe_int (nomark _)) (pss_one (ps_set (i := 4) nd rfl (Or.inr rfl) (pe_op op_catS (pv 4) (pe_lc (own := [("_law_run_here", 9)]) (g := (gName 9)) (tt := (tTest (tOp (rInR K true) (tVar 9) (tVar 4)))) (te := (tVar 9)) rfl nd (pi_tup (pe_ok F__law_fitting (hr.mono (by decide)) rfl (pa_cons (pv 1) (pa_cons (pe_ok F__law_words (hr.mono (by decide)) rfl (pa_cons (pv 0) (pa_cons (pv 1) (pa_cons pe_int (pa_cons pe_bl pa_nil))))) pa_nil)))) (blkOk_by (N := ["_law_well_here", "_law_few", "_law_least", "_law_words_here", "_law_runs_here", "_law_way", "_law_turn", "_law_at", "_law_to", "_law_run_here"]) (sc := defScope s__law_plan) (by decide +kernel)) (fun _ _ _ _ _ => (pg_name (i := 9) nd rfl (Or.inl rfl))) (fun _ _ _ _ _ => (pts_one (pt_cmpR (op_niR (hu65 hr)) (pv 9) (pv 4) (by rfl)))) (fun _ _ _ _ _ => (pv 9)))))) pss_nil)
  (pss_cons (ps_if (pt_cmpR (op_eqD (hu64 hr)) (pv 5) pe_int (nomark _)) (pss_one (ps_expr (pe_bm PySem.F.plainAttrs_list PySem.F.slot_list_append PySem.F.type_list_append mt_append (pv 4) (pa_cons (pe_ok F__law_run (hr.mono (by decide)) rfl (pa_cons (pv 0) (pa_cons (pv 1) pa_nil))) pa_nil)))) pss_nil)
  (pss_cons (ps_if (pt_cmpR (op_eqD (hu64 hr)) (pv 5) pe_int (nomark _)) (pss_one (ps_expr (pe_bm PySem.F.plainAttrs_list PySem.F.slot_list_append PySem.F.type_list_append mt_append (pv 4) (pa_cons (pe_ok F__law_one (hr.mono (by decide)) rfl (pa_cons (pv 0) (pa_cons (pv 4) pa_nil))) pa_nil)))) pss_nil)
  (pss_cons (ps_if (PW.pt (pw_and (pt_cmpR (op_eqD (hu64 hr)) (pv 5) pe_int (nomark _)) (pw_and1 (pt_cmpR op_gt (pe_callB call_len_seq rfl T.z_len (by decide +kernel) (pa_cons (pv 4) pa_nil)) pe_int (nomark _))))) (pss_one (ps_expr (pe_bm PySem.F.plainAttrs_list PySem.F.slot_list_pop PySem.F.type_list_pop mt_popAt (pv 4) (pa_cons (pe_ok F__law_draw (hr.mono (by decide)) rfl (pa_cons (pv 0) (pa_cons (pe_callB call_len_seq rfl T.z_len (by decide +kernel) (pa_cons (pv 4) pa_nil)) pa_nil))) pa_nil)))) pss_nil)
  (pss_cons (ps_if (pt_cmpR (op_eqD (hu64 hr)) (pv 5) pe_int (nomark _)) (pss_cons (ps_par (i := 7) (j := 8) rfl nd rfl rfl (by decide) rfl rfl (pa_cons (pe_ok F__law_draw (hr.mono (by decide)) rfl (pa_cons (pv 0) (pa_cons (pe_callB call_len_seq rfl T.z_len (by decide +kernel) (pa_cons (pv 4) pa_nil)) pa_nil))) (pa_cons (pe_ok F__law_draw (hr.mono (by decide)) rfl (pa_cons (pv 0) (pa_cons (pv 1) pa_nil))) pa_nil)) (by rfl))
  (pss_one (ps_asg (pe_op op_catA (pe_op op_catA (pe_slice sl_tupA (pe_ix ix_list (pv 4) (pv 7) (fun _ _ => rfl)) po_none (po_some (pv 8))) (pe_tup (pa_cons (pe_op op_sub pe_int (pe_ix ix_tup (pe_ix ix_list (pv 4) (pv 7) (fun _ _ => rfl)) (pv 8) (fun _ _ => rfl))) pa_nil))) (pe_slice sl_tupA (pe_ix ix_list (pv 4) (pv 7) (fun _ _ => rfl)) (po_some (pe_op op_add (pv 8) pe_int)) po_none)) (pg_sub (pv 4) (pv 7) set_list)))) pss_nil)
  (pss_one (ps_ret (pe_callTy call_tupF rfl T.z_tuple (by decide +kernel) (pa_cons (pe_ok F__law_mixed (hr.mono (by decide)) rfl (pa_cons (pv 0) (pa_cons (pe_slice sl_list (pv 4) po_none (po_some pe_int)) pa_nil))) pa_nil)))))))))))))))
end K31W
set_option Elab.async false
set_option linter.all false
set_option maxRecDepth 100000
set_option maxHeartbeats 1000000
/-! K31Sem8: the readings: what draws, the small ones. -/
namespace K31W
open PySem PySem.Spec PyProof.Rows L2 K31
variable {P : Program} {w : World} {K : Fr} {mg : Str → Option Value} {base : Heap} {aN : Addr}
section
variable {σ : L2.St} {H : Hp} {D : Ends} {Q : VK}
theorem u_seq {t u : TS} (h : t { D with nx := u D } σ H) : tSeq t u D σ H := h
theorem u_asg {te : TE} {g : TG} (h : te σ H fun x H1 => g x σ H1 D.nx) : tAsg te g D σ H := h
theorem u_par {i j : Nat} {ta : TA} (h : ta σ H fun vs H1 => ∃ v w, vs = [v, w] ∧ D.nx ((σ.set i (some v)).set j (some w)) H1) : tPar i j ta D σ H := h
theorem u_drop {te : TE} (h : te σ H fun _ H1 => D.nx σ H1) : tDrop te D σ H := h
theorem u_ret {te : TE} (h : te σ H D.rt) : tRet te D σ H := h
theorem u_cb {r : List V → Hp → VK → Prop} {ta : TA} (h : ta σ H fun vs H1 => r vs H1 Q) : tCB r ta σ H Q := h
theorem u_op {r : R2} {t u : TE} (h : t σ H fun x H1 => u σ H1 fun y H2 => r x y H2 Q) : tOp r t u σ H Q := h
theorem u_cons {t : TE} {ta : TA} {Q : List V → Hp → Prop} (h : t σ H fun x H1 => ta σ H1 fun xs H2 => Q (x :: xs) H2) : tCons t ta σ H Q := h
theorem u_nil {Q : List V → Hp → Prop} (h : Q [] H) : tNil σ H Q := h
theorem u_tup {ta : TA} (h : ta σ H fun xs H1 => xs.length ≤ sizeLine ∧ ∀ p, H1 p = none → Q (.ref p) (upd H1 p (.tup xs))) : tTup ta σ H Q := h
theorem u_call {sp : Sp} {E : XK} {ta : TA} (h : ta σ H fun vs H1 => sp (vs ++ []) H1 Q E) : tCall sp [] E ta σ H Q := h
theorem u_var {i : Nat} {v : V} (e : σ[i]? = some (some v)) (h : Q v H) : tVar i σ H Q := ⟨v, e, h⟩
theorem u_test {t : TE} {Q : Bool → Hp → Prop} (h : t σ H fun x H' => ∃ k, x = .bl k ∧ Q k H') : tTest t σ H Q := h
theorem u_ifs {c : TT} {t u : TS} (h : c σ H fun b H1 => if b = true then t D σ H1 else u D σ H1) : tIfS c t u D σ H := h
end
/-- the slots, with the well in the first -/
structure CW (K : Fr) (p : Addr) (σ : L2.St) (H : Hp) (cs : List (Option PyData)) : Prop where
  c : Ctx K σ H cs
  st : ∀ d, some d ∈ cs → stab d
  s0 : σ[0]? = some (some (.ref p))
  w : Well H p
section
variable {p : Addr} {σ : L2.St} {H H' : Hp} {cs : List (Option PyData)} {D : Ends} {t te : TE} {ta : TA} {ds : List PyData} {d : PyData} {i : Nat}
theorem CW.but (c : CW K p σ H cs) (b : ButW p H H') : CW K p σ H' cs := ⟨⟨c.c.len, fun i d e => by
  obtain ⟨v, e1, hv⟩ := c.c.at_ i d e
  exact ⟨v, e1, dp_stab c.w b.1 (c.st d (List.mem_of_getElem? e)) hv⟩⟩, c.st, c.s0, b.2⟩
theorem CW.same (c : CW K p σ H cs) (s : Same H H') : CW K p σ H' cs := c.but (.of c.w s)
theorem stab_set {cs : List (Option PyData)} {o : Option PyData} (h : ∀ d, some d ∈ cs → stab d) (ho : ∀ d, o = some d → stab d) (i : Nat) : ∀ d, some d ∈ cs.set i o → stab d := fun d hd => by
  rcases List.mem_or_eq_of_mem_set hd with q | q
  · exact h d q
  · exact ho d q.symm
theorem CW.set {v : V} (c : CW K p σ H cs) (h : Dp K H v d) (hs : stab d) (i : Nat) (h0 : i ≠ 0) : CW K p (σ.set i (some v)) H (cs.set i (some d)) :=
  ⟨c.c.set h i, stab_set c.st (fun e q => by cases q; exact hs) i, by rw [List.getElem?_set_ne h0]; exact c.s0, c.w⟩
theorem CW.setU {v : V} (c : CW K p σ H cs) (i : Nat) (h0 : i ≠ 0) : CW K p (σ.set i (some v)) H (cs.set i none) :=
  ⟨c.c.setU i, stab_set c.st (fun e q => by cases q) i, by rw [List.getElem?_set_ne h0]; exact c.s0, c.w⟩
theorem stab_int (i : Int) : stab (.int i) := .inl (firm_int i)
theorem stab_bl (i : Bool) : stab (.bool i) := .inl (firm_bl i)
theorem stab_tI (r : List Int) : stab (tI r) := .inl (firm_tI r)
theorem stab_tWs (W : List (List Int × Int)) : stab (tWs W) := .inl (firm_tup (firms_tWs W))
theorem stab_lR (R : List (List Int)) : stab (.list (tR R)) := .inr ⟨R, rfl⟩
theorem yw_call {Pre : List PyData → Prop} {Out : InP} {E : XK} (c : CW K p σ H cs) (ha : YlA K ta σ H ds) (pre : Pre ds) (st : ∀ d ∈ ds, stab d) (Q : VK) (q : ∀ H2 v d, ButW p H H2 → Out ds d → Dp K H2 v d → Q v H2) : tCall (spW K Pre Out) [] E (tCons (tVar 0) ta) σ H Q :=
  ⟨.ref p, c.s0, ha H (Same.refl _) _ fun H1 us s1 hus => ⟨p, us ++ [], ds, rfl, c.w.same s1, pre, by rw [List.append_nil]; exact hus, st, fun H' v d b ho hv => q H' v d ((ButW.of c.w s1).trans b) ho hv⟩⟩
theorem ctx_cons {v : V} (c : Ctx K σ H cs) : Ctx K (some v :: σ) H (none :: cs) := ⟨by rw [List.length_cons, List.length_cons, c.len], fun i d e => by
  cases i with
  | zero => cases (show some none = some (some d) from e)
  | succ i => exact c.at_ i d e⟩
theorem Ok.mkW {k : Nat} {x : Str} {ps N : List Str} {st : Stmt} {Pre : List PyData → Prop} {Out : InP} (A : FAt K mg x st ps) (S : FnScope N ps (defScope st)) (len : ∀ ds, Pre ds → ds.length + 1 = ps.length)
    (body : ∀ (f : Addr) (cdv : Value) (A : Around) (outer : List Env) (s : Shared) (H0 : Hp) (E : XK), Room k (A.deeper (envOfC x (defScope st) s.heap.objs.size f cdv)) →
      ∃ t, PSs (cxOf CX0 P w K mg base N x (defScope st) f cdv A outer s H0 E).nox (defBody st) t ∧
        ∀ (ds : List PyData) (σ : L2.St) (Q : VK) (p : Addr), Pre ds → CW K p σ H0 (none :: (ds.map some ++ List.replicate (N.length - ps.length) none)) → (∀ H' v d, ButW p H0 H' → Out ds d → Dp K H' v d → Q v H') → t { nx := fun _ H' => Q .non H', rt := Q } σ H0) : Ok P w K mg base (k + 1) x ps (spW K Pre Out) := by
  refine Ok.mk' A S (fun vs H Q E h => ?_) fun f cdv A outer s H vs Q E hr h => ?_
  · obtain ⟨p, us, ds, rfl, _, pre, hd, _⟩ := h
    rw [List.length_cons, dps_len hd]
    exact len ds pre
  · obtain ⟨p, us, ds, rfl, hw, pre, hd, hst, q⟩ := h
    obtain ⟨t, h1, h2⟩ := body f cdv A outer s H E hr
    refine ⟨t, h1, h2 ds _ Q p pre ⟨?_, fun d hd => ?_, rfl, hw⟩ q⟩
    · have e : (V.ref p :: us).length = ps.length := by rw [List.length_cons, dps_len hd]; exact len ds pre
      unfold L2.start
      rw [e]
      exact ctx_cons (ctx_start hd)
    · rcases List.mem_cons.mp hd with q | q
      · cases q
      · rcases List.mem_append.mp q with q | q
        · obtain ⟨y, hy, e⟩ := List.mem_map.mp q
          cases e
          exact hst d hy
        · cases (List.mem_replicate.mp q).2
variable {a b c : Int}
theorem yl_well (s0 : σ[0]? = some (some (.ref p))) (e : H p = some (.lst [.int a, .int b, .int c])) (k : Int) {x : Int} (h0 : 0 ≤ k) (hk : [PyData.int a, .int b, .int c][k.toNat]? = some (.int x)) : Yl K (tOp (rIxL K) (tVar 0) (tC (.int k))) σ H (.int x) :=
  yl_ixL (yl_var s0 (.lst (SqL.of e) (dps_ints [a, b, c]))) (yl_int k) h0 hk
theorem sw_well {x : Int} (s0 : σ[0]? = some (some (.ref p))) (e : H p = some (.lst [.int a, .int b, .int c])) (k : Int) (j : Nat) (hk : ixN 3 k = some j) (h : Yl K te σ H (.int x)) (q : ∀ H2, Same H H2 → D.nx σ (upd H2 p (.lst ([V.int a, .int b, .int c].set j (.int x))))) :
    tAsg te (gSub (tVar 0) (tC (.int k)) rSetL) D σ H := h H (Same.refl _) _ fun H2 y s2 hy => by
  cases int_inv hy
  exact ⟨.ref p, s0, p, _, k, j, rfl, rfl, s2 _ _ e, hk, q H2 s2⟩
end
theorem ok__law_draw (T : Txt K mg aN) : Ok P w K mg base 1 "_law_draw" p__law_draw (sp__law_draw K) :=
  Ok.mkW T.f__law_draw sc__law_draw (by rintro ds ⟨n, rfl, _⟩; rfl) fun f cdv A outer s H0 E hr => ⟨_, w__law_draw T hr, fun ds σ Q p pre c0 r => by
    obtain ⟨n, rfl, h1, h2⟩ := pre
    obtain ⟨a, b, c, ha, e⟩ := id c0.w
    have s0 := c0.s0
    have cx := c0.c
    have hlen : σ.length = 4 := cx.len
    have fin : ∀ H' (i : Int), ButW p H0 H' → 0 ≤ i → i < n → Q (.int i) H' := fun H' i b1 h3 h4 => r H' _ (.int i) b1 ⟨n, i, rfl, rfl, h3, h4⟩ (.int i)
    refine sc_if (b := decide (0 < a)) cx (yt_test (yl_ib (yl_well s0 e 0 (by decide) rfl) (yl_int 0))) (fun hb H2 s2 c2 => ?_) fun hb H2 s2 c2 => ?_
    · have e2 := s2 _ _ e
      refine u_seq (u_asg (u_cb ?_))
      refine (yla_cons (yl_well s0 e2 0 (by decide) rfl) (yla_one (yl_v (i := 1) c2 rfl))) H2 (Same.refl _) _ fun H3 vs s3 hvs => ?_
      obtain ⟨x, y, rfl, hx, hy⟩ := two_inv hvs
      cases int_inv hx
      cases int_inv hy
      refine ⟨a, n, rfl, ⟨by omega, PyProof.noPylong_of_log2 ?_⟩, fun q hq => ?_⟩
      · have : n.natAbs.log2 ≤ n.natAbs := Nat.log2_le_self _
        by_cases hz : n.natAbs = 0
        · omega
        · have := (Nat.log2_lt hz (k := 20)).mpr (by omega)
          omega
      · have e3 := s3 _ _ e2
        have e4 : (upd H3 q (.tup [.int (a / n), .int (a % n)])) p = some (.lst [.int a, .int b, .int c]) := same_new hq _ _ e3
        refine ⟨q, _, rfl, SqT.of upd_same, rfl, .int (a / n), [.int (a % n)], rfl, .ref p, s0, p, _, 0, 0, rfl, rfl, e4, rfl, .int (a % n), [], rfl, rfl, ?_⟩
        refine ⟨.int (a % n), List.getElem?_set_self (by rw [hlen]; decide), ?_⟩
        have sm : Same H0 (upd H3 q (.tup [.int (a / n), .int (a % n)])) := s2.trans (s3.trans (same_new hq))
        exact fin _ _ ⟨but_upd sm e, a / n, b, c, Int.ediv_nonneg ha (by omega), upd_same⟩ (Int.emod_nonneg _ (by omega)) (Int.emod_lt_of_pos _ (by omega))
    · have e2 := s2 _ _ e
      refine sw_well s0 e2 2 2 rfl (yl_ii (yl_well s0 e2 2 (by decide) rfl) (yl_int 1)) fun H3 s3 => ?_
      have b3 : ButW p H0 (upd H3 p (.lst [.int a, .int b, .int (c + 1)])) := ⟨but_upd (s2.trans s3) e, a, b, c + 1, ha, upd_same⟩
      have c3 := (c0.but b3).c
      have e3 : (upd H3 p (.lst [.int a, .int b, .int (c + 1)])) p = some (.lst [.int a, .int b, .int (c + 1)]) := upd_same
      show tSeq _ _ _ σ (upd H3 p (.lst [.int a, .int b, .int (c + 1)]))
      generalize upd H3 p (.lst [.int a, .int b, .int (c + 1)]) = H4 at b3 c3 e3
      have y1 : Yl K (tOp (rI (fun _ j => 0 < j) fun i j => .int (i % j)) (tCB (rInt1) (tCons (tOp (rI0 fun i j => .int (i + j)) (tOp (rI CMul fun i j => .int (i * j)) (tOp (rIxL K) (tVar 0) (tC (.int 1))) (tC (.int 48271))) (tOp (rI CMul fun i j => .int (i * j)) (tC (.int 15017)) (tOp (rIxL K) (tVar 0) (tC (.int 2))))) tNil)) (tC (.int 2147483489))) σ H4 (.int ((b * 48271 + 15017 * (c + 1)) % 2147483489)) :=
        yl_ic (C := fun _ j => 0 < j) (g := fun i j => i % j) (yl_toInt (yl_ii (g := fun i j => i + j) (yl_ic (C := CMul) (g := fun i j => i * j) (yl_well s0 e3 1 (by decide) rfl) (yl_int 48271) (.inr (by decide))) (yl_ic (C := CMul) (g := fun i j => i * j) (yl_int 15017) (yl_well s0 e3 2 (by decide) rfl) (.inl (by decide))))) (yl_int 2147483489) (by decide)
      generalize hm : (b * 48271 + 15017 * (c + 1)) % 2147483489 = m at y1
      have m0 : 0 ≤ m := by rw [← hm]; exact Int.emod_nonneg _ (by decide)
      have m1 : m < 2147483489 := by rw [← hm]; exact Int.emod_lt_of_pos _ (by decide)
      refine st_set y1 fun H5 x5 s5 hx5 => ?_
      have b5 := b3.same s5
      have e5 := s5 _ _ e3
      have c5 : Ctx K (σ.set 3 (some x5)) H5 [none, some (.int n), none, some (.int m)] := (c3.same s5).set hx5 3
      have s05 : (σ.set 3 (some x5))[0]? = some (some (.ref p)) := by rw [List.getElem?_set_ne (by decide)]; exact s0
      generalize σ.set 3 (some x5) = σ5 at c5 s05
      have y2 : Yl K (tOp (rI (fun _ j => 0 < j) fun i j => .int (i % j)) (tCB (rInt1) (tCons (tOp (rI0 fun i j => .int (i + j)) (tOp (rI CMul fun i j => .int (i * j)) (tVar 3) (tOp (rI0 fun i j => .int (i + j)) (tOp (rI (fun _ j => 0 < j) fun i j => .int (i % j)) (tCB (rInt1) (tCons (tVar 3) tNil)) (tC (.int 5003))) (tC (.int 20021)))) (tOp (rIxL K) (tVar 0) (tC (.int 2)))) tNil)) (tC (.int 2147483489))) σ5 H5 (.int ((m * (m % 5003 + 20021) + (c + 1)) % 2147483489)) :=
        yl_ic (C := fun _ j => 0 < j) (g := fun i j => i % j) (yl_toInt (yl_ii (g := fun i j => i + j) (yl_ic (C := CMul) (g := fun i j => i * j) (yl_v c5 rfl) (yl_ii (g := fun i j => i + j) (yl_ic (C := fun _ j => 0 < j) (g := fun i j => i % j) (yl_toInt (yl_v c5 rfl)) (yl_int 5003) (by decide)) (yl_int 20021)) (.inl ⟨by omega, by omega⟩)) (yl_well s05 e5 2 (by decide) rfl))) (yl_int 2147483489) (by decide)
      refine sw_well s05 e5 1 1 rfl y2 fun H6 s6 => ?_
      generalize (m * (m % 5003 + 20021) + (c + 1)) % 2147483489 = b2
      have b6 : ButW p H0 (upd H6 p (.lst [.int a, .int b2, .int (c + 1)])) := b5.trans ⟨but_upd s6 e5, a, b2, c + 1, ha, upd_same⟩
      have c6 : Ctx K σ5 (upd H6 p (.lst [.int a, .int b2, .int (c + 1)])) [none, some (.int n), none, some (.int m)] := c5.but (but_upd s6 e5) fun d hd => by
        have : d = .int n ∨ d = .int m := by simpa using hd
        rcases this with rfl | rfl <;> exact firm_int _
      have e6 : (upd H6 p (.lst [.int a, .int b2, .int (c + 1)])) p = some (.lst [.int a, .int b2, .int (c + 1)]) := upd_same
      refine st_ret (H := upd H6 p (.lst [.int a, .int b2, .int (c + 1)])) (yl_ic (C := fun _ j => 0 < j) (g := fun i j => i % j) (yl_toInt (yl_ic (C := CDiv) (g := fun i j => i / j) (yl_well s05 e6 1 (by decide) rfl) (yl_int 1009) ⟨by decide, by decide⟩)) (yl_v c6 rfl) (by omega)) fun H8 x s8 hx => ?_
      cases int_inv hx
      exact fin _ _ (b6.same s8) (Int.emod_nonneg _ (by omega)) (Int.emod_lt_of_pos _ (by omega))⟩
end K31W
set_option Elab.async false
set_option linter.all false
set_option maxRecDepth 100000
set_option maxHeartbeats 1000000
/-! K31Sem9: the readings: runs, effects, words that are drawn. -/
namespace K31W
open PySem PySem.Spec PyProof.Rows L2 K31
variable {P : Program} {w : World} {K : Fr} {mg : Str → Option Value} {base : Heap} {aN : Addr}
section
variable {p : Addr} {σ : L2.St} {H H' : Hp} {cs : List (Option PyData)} {D : Ends} {t te : TE} {ta : TA} {ds : List PyData} {d e : PyData} {i : Nat} {x y : V} {Q : VK}
theorem yl_val (hx : Dp K H x d) : Yl K (tC x) σ H d := fun H1 s Q q => q H1 x (Same.refl _) (dp_same s d x hx)
theorem v_op {r : R2} (h : Yl K (tOp r (tC x) (tC y)) [] H d) (q : ∀ H2 v, Same H H2 → Dp K H2 v d → Q v H2) : r x y H Q := h H (Same.refl _) Q q
theorem v_call {In : InP} {E : XK} {vs : List V} (h : DpAll K H vs ds) (hi : In ds d) (q : ∀ H2 v, Same H H2 → Dp K H2 v d → Q v H2) : spD K In (vs ++ []) H Q E := ⟨ds, d, hi, by rw [List.append_nil]; exact h, q⟩
theorem CW.at_ (c : CW K p σ H cs) (i : Nat) (h : cs[i]? = some (some d)) : ∃ v, σ[i]? = some (some v) ∧ Dp K H v d := c.c.at_ i d h
theorem CW.bw (c : CW K p σ H cs) (s : Same H H') : ButW p H H' := .of c.w s
theorem sw_set (c : CW K p σ H cs) (h : Yl K t σ H d) (hs : stab d) (h0 : i ≠ 0) (q : ∀ σ2 H2, Same H H2 → CW K p σ2 H2 (cs.set i (some d)) → D.nx σ2 H2) : tAsg t (gName i) D σ H := st_set h fun H2 x s hx => q _ _ s ((c.same s).set hx hs i h0)
theorem ixL_val {k : Int} {z : Nat} (hx : Dp K H x (.list ds)) (h0 : 0 ≤ k) (hi : ds[k.toNat]? = some d) (q : ∀ v, Dp K H v d → Q v H) : rIxL K x (.int k) H Q := by
  obtain ⟨a, xs, rfl, hs, hd⟩ := lst_inv hx
  obtain ⟨v, hv, hvd⟩ := dps_get hd hi
  have := atI_nat hv
  rw [Int.toNat_of_nonneg h0] at this
  exact ⟨a, xs, k, v, rfl, rfl, hs, this, q v hvd⟩
theorem ixT_val {k : Int} (hx : Dp K H x (.tuple ds)) (h0 : 0 ≤ k) (hi : ds[k.toNat]? = some d) (q : ∀ v, Dp K H v d → Q v H) : rIxT K x (.int k) H Q := by
  obtain ⟨a, xs, rfl, hs, hd⟩ := tup_inv hx
  obtain ⟨v, hv, hvd⟩ := dps_get hd hi
  have := atI_nat hv
  rw [Int.toNat_of_nonneg h0] at this
  exact ⟨a, xs, k, v, rfl, rfl, hs, this, q v hvd⟩
end
theorem ok__law_one (T : Txt K mg aN) (F__law_draw : Ok P w K mg base 1 "_law_draw" p__law_draw (sp__law_draw K)) : Ok P w K mg base 2 "_law_one" p__law_one (sp__law_one K) :=
  Ok.mkW T.f__law_one sc__law_one (by rintro ds ⟨xs, ⟨rfl, _⟩ | ⟨R, _, rfl⟩, _⟩ <;> rfl) fun f cdv A outer s H0 E hr => ⟨_, w__law_one T F__law_draw hr, fun ds σ Q p pre c r => by
    obtain ⟨xs, hds, hne, hl⟩ := pre
    have hpos : 0 < xs.length := List.length_pos_iff.mpr hne
    obtain ⟨e, rfl, hst, he⟩ : ∃ e, ds = [e] ∧ stab e ∧ (e = .tuple xs ∨ e = .list xs) := by
      rcases hds with ⟨rfl, hf⟩ | ⟨R, rfl, rfl⟩
      · exact ⟨_, rfl, .inl (firm_tup hf), .inl rfl⟩
      · exact ⟨_, rfl, stab_lR R, .inr rfl⟩
    obtain ⟨x, ex, hx⟩ := c.at_ 1 (d := e) rfl
    refine u_ret (u_op (u_var ex ?_))
    refine yw_call c (yla_one (yl_len (ds := xs) (n := xs.length) (yl_v (i := 1) (d := e) c.c rfl) ⟨he, rfl⟩)) ⟨_, rfl, by omega, by omega⟩ (fun d hd => by rw [List.mem_singleton.mp hd]; exact stab_int _) _ fun H2 v d b ho hv => ?_
    obtain ⟨n, i, en, rfl, h0, h1⟩ := ho
    cases en
    cases int_inv hv
    have hx2 := dp_stab c.w b.1 hst hx
    have hi : xs[i.toNat]? = some (xs[i.toNat]'(by omega)) := List.getElem?_eq_getElem _
    rcases he with rfl | rfl
    · exact .inr (.inl (ixT_val hx2 h0 hi fun v hv => r H2 v _ b ⟨xs, .inl rfl, List.getElem_mem _⟩ hv))
    · exact .inl (ixL_val (z := 0) hx2 h0 hi fun v hv => r H2 v _ b ⟨xs, .inr rfl, List.getElem_mem _⟩ hv)⟩
theorem run_snoc {i : Nat} {r : List Int} {z : Int} (h : IsRun i r) (hz : z = 1 ∨ z = -1) : IsRun (i + 1) (r ++ [z]) := ⟨by rw [List.length_append, h.len]; rfl, fun x hx => by
  rcases List.mem_append.mp hx with g | g
  · exact h.pm x g
  · rw [List.mem_singleton.mp g]; exact hz⟩
theorem ok__law_run (T : Txt K mg aN) (F__law_one : Ok P w K mg base 2 "_law_one" p__law_one (sp__law_one K)) : Ok P w K mg base 3 "_law_run" p__law_run (sp__law_run K) :=
  Ok.mkW T.f__law_run sc__law_run (by rintro ds ⟨n, rfl, _⟩; rfl) fun f cdv A outer s H0 E hr => ⟨_, w__law_run T F__law_one hr, fun ds σ Q p pre c r => by
    obtain ⟨n, rfl, h6⟩ := pre
    refine sw_set c yl_nilT (stab_tI []) (by decide) fun σ2 H2 s2 c2 => ?_
    refine st_rangeY (n := n) (yl_v c2.c rfl) (by omega) (fun i σ3 H3 => ButW p H0 H3 ∧ ∃ x g, IsRun i g ∧ CW K p σ3 H3 [none, some (.int n), some (tI g), x])
      (fun H3 s3 => ⟨c.bw (s2.trans s3), none, [], ⟨rfl, fun x hx => by simp at hx⟩, c2.same s3⟩) (fun i σ3 H3 hi pv => ?_) fun σ3 H3 pv => ?_
    · obtain ⟨b3, x, g, hg, c3⟩ := pv
      have c4 : CW K p (σ3.set 3 (some (.int (i : Nat)))) H3 [none, some (.int n), some (tI g), some (.int i)] := c3.set (.int _) (stab_int _) 3 (by decide)
      show tAsg _ _ _ (σ3.set 3 (some (V.int (i : Nat)))) H3
      generalize σ3.set 3 (some (V.int (i : Nat))) = σ4 at c4
      obtain ⟨x2, ex2, hx2⟩ := c4.at_ 2 (d := tI g) rfl
      refine u_asg (u_op (u_var ex2 (u_tup (u_cons ?_))))
      refine yw_call c4 (yla_one yl_one1) ⟨_, .inl ⟨rfl, by decide⟩, by simp, by simp⟩ (fun d hd => by rw [List.mem_singleton.mp hd]; exact stab_tI _) _ fun H5 v d b5 ho hv => ?_
      obtain ⟨xs, hxs, hd⟩ := ho
      obtain ⟨z, rfl, hz⟩ : ∃ z, d = .int z ∧ (z = 1 ∨ z = -1) := by
        rcases hxs with e | e
        · cases e
          have : d = .int 1 ∨ d = .int (-1) := by simpa using hd
          rcases this with rfl | rfl
          · exact ⟨1, rfl, .inl rfl⟩
          · exact ⟨-1, rfl, .inr rfl⟩
        · cases e
      refine u_nil ⟨small (by simp), fun q hq => ?_⟩
      have s6 : Same H5 (upd H5 q (.tup [v])) := same_new hq
      have b6 := b5.same s6
      have c6 := c4.but b6
      have hg6 : Dp K (upd H5 q (.tup [v])) x2 (tI g) := dp_stab c4.w b6.1 (stab_tI g) hx2
      have hv6 : Dp K (upd H5 q (.tup [v])) (.ref q) (tI [z]) := .tup (SqT.of upd_same) (.cons (dp_same s6 _ _ hv) .nil)
      generalize upd H5 q (.tup [v]) = H6 at s6 b6 c6 hg6 hv6
      refine v_op (d := tI (g ++ [z])) ((yl_catT (yl_val hg6) (yl_val hv6) (small (by simp [hg.len]; omega))).eq (by unfold tI; rw [List.map_append])) fun H7 v7 s7 h7 => ?_
      exact ⟨b3.trans (b6.same s7), _, g ++ [z], run_snoc hg hz, (c6.same s7).set h7 (stab_tI _) 2 (by decide)⟩
    · obtain ⟨b3, x, g, hg, c3⟩ := pv
      exact st_ret (yl_v c3.c rfl) fun H4 v s4 hv => r H4 v _ (b3.same s4) ⟨n, g, rfl, rfl, hg⟩ hv⟩
theorem eff_snoc {i : Nat} {e : List Int} (h : IsEff i e) : IsEff (i + 1) (e ++ [(i : Int)]) := by
  refine ⟨List.pairwise_append.mpr ⟨h.asc, List.pairwise_singleton _ _, fun a ha b hb => ?_⟩, fun x hx => ?_, fun x hx => ?_⟩
  · rw [List.mem_singleton.mp hb]
    exact h.hi a ha
  · rcases List.mem_append.mp hx with g | g
    · exact h.lo x g
    · rw [List.mem_singleton.mp g]; omega
  · rcases List.mem_append.mp hx with g | g
    · have := h.hi x g
      omega
    · rw [List.mem_singleton.mp g]; omega
theorem eff_up {i : Nat} {e : List Int} (h : IsEff i e) : IsEff (i + 1) e := ⟨h.asc, h.lo, fun x hx => by have := h.hi x hx; omega⟩
theorem ok__law_effect (T : Txt K mg aN) (F__law_draw : Ok P w K mg base 1 "_law_draw" p__law_draw (sp__law_draw K)) : Ok P w K mg base 2 "_law_effect" p__law_effect (sp__law_effect K) :=
  Ok.mkW T.f__law_effect sc__law_effect (by rintro ds ⟨n, rfl, _⟩; rfl) fun f cdv A outer s H0 E hr => ⟨_, w__law_effect T F__law_draw hr, fun ds σ Q p pre c r => by
    obtain ⟨n, rfl, h6⟩ := pre
    refine sw_set c yl_nilT (stab_tI []) (by decide) fun σ2 H2 s2 c2 => ?_
    refine st_rangeY (n := n) (yl_v c2.c rfl) (by omega) (fun i σ3 H3 => ButW p H0 H3 ∧ ∃ x g, IsEff i g ∧ CW K p σ3 H3 [none, some (.int n), some (tI g), x])
      (fun H3 s3 => ⟨c.bw (s2.trans s3), none, [], .nil 0, c2.same s3⟩) (fun i σ3 H3 hi pv => ?_) fun σ3 H3 pv => ?_
    · obtain ⟨b3, x, g, hg, c3⟩ := pv
      have c4 : CW K p (σ3.set 3 (some (.int (i : Nat)))) H3 [none, some (.int n), some (tI g), some (.int i)] := c3.set (.int _) (stab_int _) 3 (by decide)
      show tIfS _ _ _ _ (σ3.set 3 (some (V.int (i : Nat)))) H3
      generalize σ3.set 3 (some (V.int (i : Nat))) = σ4 at c4
      have lg := eff_len hg
      refine u_ifs (u_test (u_op ?_))
      refine yw_call c4 (yla_one (yl_int 2)) ⟨2, rfl, by decide, by decide⟩ (fun d hd => by rw [List.mem_singleton.mp hd]; exact stab_int _) _ fun H5 v d b5 ho hv => ?_
      obtain ⟨_, z, _, rfl, _, _⟩ := ho
      refine v_op (yl_eq (yl_val hv) (yl_int 1) (shape_int _) (shape_int _) (eqv_int _ _)) fun H6 v6 s6 h6' => ?_
      cases bl_inv h6'
      have b6 := b5.same s6
      have c6 := c4.but b6
      refine ⟨_, rfl, ?_⟩
      by_cases hz : z = 1
      · rw [if_pos (decide_eq_true hz)]
        refine sw_set (d := tI (g ++ [(i : Int)])) c6 ((yl_catT (yl_v (d := tI g) c6.c rfl) (yl_tup (yla_one (yl_v c6.c rfl)) (small (by simp))) (small (by simp; omega))).eq (by unfold tI; rw [List.map_append]; rfl)) (stab_tI _) (by decide) fun σ7 H7 s7 c7 => ⟨b3.trans (b6.same s7), _, _, eff_snoc hg, c7⟩
      · rw [if_neg (by rw [decide_eq_false hz]; exact Bool.false_ne_true)]
        exact ⟨b3.trans b6, _, g, eff_up hg, c6⟩
    · obtain ⟨b3, x, g, hg, c3⟩ := pv
      exact st_ret (yl_v c3.c rfl) fun H4 v s4 hv => r H4 v _ (b3.same s4) ⟨n, g, rfl, rfl, hg⟩ hv⟩
end K31W
set_option Elab.async false
set_option linter.all false
set_option maxRecDepth 100000
set_option maxHeartbeats 1000000
/-! K31SemA: the readings: words, mixing, the well. -/
namespace K31W
open PySem PySem.Spec PyProof.Rows L2 K31
variable {P : Program} {w : World} {K : Fr} {mg : Str → Option Value} {base : Heap} {aN : Addr}
theorem u_rng {σ : L2.St} {H : Hp} {D : Ends} {ta : TA} {g : TG} {tb : TS} (h : ta σ H fun vs H1 => ∃ j : Int, vs = [.int j] ∧ -(2 ^ 62) ≤ j ∧ j < 2 ^ 62 ∧ ∃ W : Nat → Nat → L2.St → Hp → Prop, (∃ m, W 0 m σ H1) ∧ ∀ i m σ H, W i m σ H →
      ((Itr 0 j.toNat).stop i H ∧ D.nx σ H) ∨ ((Itr 0 j.toNat).go i H ∧ ∃ N : L2.St → Hp → Prop, (∀ σ' H', N σ' H' → ∃ m', m' < m ∧ W (i + 1) m' σ' H') ∧ ∀ x H', (Itr 0 j.toNat).yld i H x H' → g x σ H' fun σ2 H2 => tb { D with nx := N, ct := N, bk := D.nx } σ2 H2)) : tFor (iRng1 ta) g tb D σ H := h
theorem u_c {σ : L2.St} {H : Hp} {v : V} {Q : VK} (h : Q v H) : tC v σ H Q := h
theorem u_and {σ : L2.St} {H : Hp} {t u : TT} {Q : Bool → Hp → Prop} (h : t σ H fun c H1 => if c = true then u σ H1 Q else Q false H1) : tAnd t u σ H Q := h
theorem u_ife {σ : L2.St} {H : Hp} {t : TT} {ta tb : TE} {Q : VK} (h : t σ H fun c H1 => if c = true then ta σ H1 Q else tb σ H1 Q) : tIf t ta tb σ H Q := h
theorem parted_eff {n : Nat} {e g : List Int} (h6 : n ≤ 6) (he : IsEff n e) (hg : IsEff n g) : IsEff n (lParted e g) := by
  have h := effOf_isEff 6 fun a => decide (a ∈ e) != decide (a ∈ g)
  refine ⟨h.asc, h.lo, fun x hx => ?_⟩
  have hx := (List.mem_filter.mp hx).2
  by_cases h1 : x ∈ e
  · exact he.hi x h1
  · by_cases h2 : x ∈ g
    · exact hg.hi x h2
    · simp [h1, h2] at hx
theorem word_at {W : List (List Int × Int)} {d : PyData} (h : d ∈ W.map tW) : ∃ x ∈ W, d = tW x := by
  obtain ⟨x, hx, e⟩ := List.mem_map.mp h
  exact ⟨x, hx, e.symm⟩
theorem ok__law_words (T : Txt K mg aN) (F__law_draw : Ok P w K mg base 1 "_law_draw" p__law_draw (sp__law_draw K)) (F__law_effect : Ok P w K mg base 2 "_law_effect" p__law_effect (sp__law_effect K)) (F__law_one : Ok P w K mg base 2 "_law_one" p__law_one (sp__law_one K))
    (F__law_parted : Ok P w K mg base 1 "_law_parted" p__law_parted (sp__law_parted K)) (F__law_run : Ok P w K mg base 3 "_law_run" p__law_run (sp__law_run K)) (F__law_sign : Ok P w K mg base 1 "_law_sign" p__law_sign (sp__law_sign K)) : Ok P w K mg base 4 "_law_words" p__law_words (sp__law_words K) :=
  Ok.mkW T.f__law_words sc__law_words (by rintro ds ⟨n, m, rfl, _⟩; rfl) fun f cdv A outer s H0 E hr => ⟨_, w__law_words T F__law_draw F__law_effect F__law_one F__law_parted F__law_run F__law_sign hr, fun ds σ Q p pre c r => by
    obtain ⟨n, m, rfl, h1, h6, hm⟩ := pre
    have hlen : σ.length = 8 := c.c.len
    have stI : ∀ {z : Int} (d : PyData), d ∈ [PyData.int z] → stab d := fun d hd => by rw [List.mem_singleton.mp hd]; exact stab_int _
    refine u_seq (u_par (u_cons ?_))
    refine yw_call c (yla_one (yl_v (i := 1) (d := .int n) c.c rfl)) ⟨n, rfl, h6⟩ stI _ fun H1 v d b1 ho hv => ?_
    obtain ⟨n', hd, en, rfl, hrun⟩ := ho
    have en' : n = n' := by
      have h0 : (n : Int) = (n' : Int) := by simpa using en
      omega
    subst en'
    refine u_cons (yl_nilT (K := K) (σ := σ) H1 (Same.refl _) _ fun H2 x s2 hx => u_nil ⟨v, x, rfl, ?_⟩)
    have b2 := b1.same s2
    have c2 : CW K p ((σ.set 4 (some v)).set 5 (some x)) H2 [none, some (.int n), some (.int m), some (.bool true), some (tI hd), some (tWs []), none, none] := (((c.but b1).same s2).set (dp_same s2 _ _ hv) (stab_tI hd) 4 (by decide)).set hx (stab_tWs []) 5 (by decide)
    generalize (σ.set 4 (some v)).set 5 (some x) = σ2 at c2
    dsimp only
    refine u_seq (u_rng (u_cons ?_))
    refine yw_call c2 (yla_one (yl_ii (yl_v (i := 2) (d := .int m) c2.c rfl) (yl_int 1))) ⟨_, rfl, by omega, by omega⟩ stI _ fun H3 v3 d b3 ho hv3 => ?_
    obtain ⟨_, z, ez, rfl, hz0, hz1⟩ := ho
    cases ez
    cases int_inv hv3
    obtain ⟨k, rfl⟩ := Int.eq_ofNat_of_zero_le hz0
    have hk : k ≤ 10 := by omega
    refine u_nil (rng_go (n := k) (by omega) (fun i σ4 H4 => ButW p H0 H4 ∧ ∃ W y6 y7, W.length ≤ i ∧ (∀ x ∈ W, IsEff n x.1) ∧ CW K p σ4 H4 [none, some (.int n), some (.int m), some (.bool true), some (tI hd), some (tWs W), y6, y7])
      ⟨b2.trans b3, [], none, none, Nat.le_refl _, fun x hx => by simp at hx, c2.but b3⟩ (fun i σ4 H4 hi pv => ?_) fun σ4 H4 pv => ?_)
    · obtain ⟨b4, W, y6, y7, hW, heW, c4⟩ := pv
      have c5 : CW K p (σ4.set 6 (some (.int (i : Nat)))) H4 [none, some (.int n), some (.int m), some (.bool true), some (tI hd), some (tWs W), some (.int i), y7] := c4.set (.int _) (stab_int _) 6 (by decide)
      show tSeq _ _ _ (σ4.set 6 (some (V.int (i : Nat)))) H4
      generalize σ4.set 6 (some (V.int (i : Nat))) = σ5 at c5
      -- effect = _law_effect(well, few)
      refine u_seq (u_asg ?_)
      refine yw_call c5 (yla_one (yl_v (i := 1) (d := .int n) c5.c rfl)) ⟨n, rfl, h6⟩ stI _ fun H6 v6 d b6 ho hv6 => ?_
      obtain ⟨n', e, en, rfl, he⟩ := ho
      have en' : n = n' := by
        have h0 : (n : Int) = (n' : Int) := by simpa using en
        omega
      subst en'
      have c6 : CW K p (σ5.set 7 (some v6)) H6 [none, some (.int n), some (.int m), some (.bool true), some (tI hd), some (tWs W), some (.int i), some (tI e)] := (c5.but b6).set hv6 (stab_tI e) 7 (by decide)
      have b06 := b4.trans b6
      dsimp only [gName]
      generalize σ5.set 7 (some v6) = σ6 at c6
      -- the rest of the turn, from any effect
      have rest : ∀ (σ7 : L2.St) (H7 : Hp) (e : List Int), ButW p H0 H7 → IsEff n e → CW K p σ7 H7 [none, some (.int n), some (.int m), some (.bool true), some (tI hd), some (tWs W), some (.int i), some (tI e)] →
          tSeq (tAsg (tIf (tTest (tOp (rEqD K) (tVar 7) (tTup tNil))) (tTup (tCons (tCall (sp__law_draw K) [] L2.E0 (tCons (tVar 0) (tCons (tVar 1) tNil))) tNil)) (tVar 7)) (gName 7))
            (tAsg (tOp (rCatA K) (tVar 5) (tTup (tCons (tTup (tCons (tVar 7) (tCons (tIf (tB (tVar 3)) (tCall (sp__law_sign K) [] L2.E0 (tCons (tVar 4) (tCons (tVar 7) tNil))) (tCall (sp__law_one K) [] L2.E0 (tCons (tVar 0) (tCons (tTup (tCons (tC (.int 1)) (tCons (tUn (rU fun i => .int (-i)) (tC (.int 1))) tNil))) tNil)))) tNil))) tNil))) (gName 5))
            { nx := fun σ4 H4 => ButW p H0 H4 ∧ ∃ W y6 y7, W.length ≤ i + 1 ∧ (∀ x ∈ W, IsEff n x.1) ∧ CW K p σ4 H4 [none, some (.int n), some (.int m), some (.bool true), some (tI hd), some (tWs W), y6, y7], rt := Q,
              bk := tRet (tVar 5) { nx := fun _ H' => Q .non H', rt := Q },
              ct := fun σ4 H4 => ButW p H0 H4 ∧ ∃ W y6 y7, W.length ≤ i + 1 ∧ (∀ x ∈ W, IsEff n x.1) ∧ CW K p σ4 H4 [none, some (.int n), some (.int m), some (.bool true), some (tI hd), some (tWs W), y6, y7] } σ7 H7 := fun σ7 H7 e b7 he c7 => by
        have last : ∀ (σ8 : L2.St) (H8 : Hp) (e : List Int) (D : Ends), ButW p H0 H8 → IsEff n e → CW K p σ8 H8 [none, some (.int n), some (.int m), some (.bool true), some (tI hd), some (tWs W), some (.int i), some (tI e)] →
            (∀ σ9 H9, ButW p H0 H9 → CW K p σ9 H9 [none, some (.int n), some (.int m), some (.bool true), some (tI hd), some (tWs (W ++ [(e, sgn hd e)])), some (.int i), some (tI e)] → D.nx σ9 H9) →
            tAsg (tOp (rCatA K) (tVar 5) (tTup (tCons (tTup (tCons (tVar 7) (tCons (tIf (tB (tVar 3)) (tCall (sp__law_sign K) [] L2.E0 (tCons (tVar 4) (tCons (tVar 7) tNil))) (tCall (sp__law_one K) [] L2.E0 (tCons (tVar 0) (tCons (tTup (tCons (tC (.int 1)) (tCons (tUn (rU fun i => .int (-i)) (tC (.int 1))) tNil))) tNil)))) tNil))) tNil))) (gName 5) D σ8 H8 := fun σ8 H8 e D b8 he c8 q => by
          refine sw_set (d := tWs (W ++ [(e, sgn hd e)])) c8 ((yl_catT (yl_v (d := tWs W) c8.c rfl) (yl_tup (yla_one (yl_tup (yla_cons (yl_v (d := tI e) c8.c rfl) (yla_one (yl_if (d := .int (sgn hd e)) (b := true) (yt_b (yl_v c8.c rfl)) (fun _ => yl_call (yla_cons (yl_v c8.c rfl) (yla_one (yl_v c8.c rfl))) ⟨n, hd, e, h6, hrun, he, rfl, rfl⟩) fun z => Bool.noConfusion z))) (small (by simp)))) (small (by simp))) (small (by simp; omega))).eq ?_) (stab_tWs _) (by decide) fun σ9 H9 s9 c9 => q σ9 H9 (b8.same s9) c9
          unfold tWs
          rw [List.map_append]
          rfl
        have fin : ∀ (e : List Int), IsEff n e → ∀ σ9 H9, ButW p H0 H9 → CW K p σ9 H9 [none, some (.int n), some (.int m), some (.bool true), some (tI hd), some (tWs (W ++ [(e, sgn hd e)])), some (.int i), some (tI e)] →
            ButW p H0 H9 ∧ ∃ W y6 y7, W.length ≤ i + 1 ∧ (∀ x ∈ W, IsEff n x.1) ∧ CW K p σ9 H9 [none, some (.int n), some (.int m), some (.bool true), some (tI hd), some (tWs W), y6, y7] := fun e he σ9 H9 b9 c9 =>
          ⟨b9, _, _, _, by rw [List.length_append]; simp; omega, fun x hx => by
            rcases List.mem_append.mp hx with g | g
            · exact heW x g
            · rw [List.mem_singleton.mp g]; exact he, c9⟩
        refine u_seq (u_asg (u_ife ?_))
        refine yt_test (yl_eq (yl_v (d := tI e) c7.c rfl) yl_nilT (shape_tI _) (shape_tI _) (eqv_tI _ _)) H7 (Same.refl _) _ fun H8 s8 => ?_
        have c8 := c7.same s8
        have b8 := b7.same s8
        by_cases hz : e = []
        · rw [if_pos (decide_eq_true hz)]
          refine u_tup (u_cons ?_)
          refine yw_call c8 (yla_one (yl_v (i := 1) (d := .int n) c8.c rfl)) ⟨n, rfl, by omega, by omega⟩ stI _ fun H9 v9 d b9 ho hv9 => u_nil ⟨small (by simp), fun q hq => ?_⟩
          obtain ⟨_, g, eg, rfl, hg0, hg1⟩ := ho
          cases eg
          have s10 : Same H9 (upd H9 q (.tup [v9])) := same_new hq
          have hv10 : Dp K (upd H9 q (.tup [v9])) (.ref q) (tI [g]) := .tup (SqT.of upd_same) (.cons (dp_same s10 _ _ hv9) .nil)
          have he2 : IsEff n [g] := ⟨List.pairwise_singleton _ _, fun x hx => by rw [List.mem_singleton.mp hx]; exact hg0, fun x hx => by rw [List.mem_singleton.mp hx]; exact hg1⟩
          exact last _ _ [g] _ ((b8.trans b9).same s10) he2 (((c8.but b9).same s10).set hv10 (stab_tI _) 7 (by decide)) (fin [g] he2)
        · rw [if_neg (by rw [decide_eq_false hz]; exact Bool.false_ne_true)]
          obtain ⟨x7, ex7, hx7⟩ := c8.at_ 7 (d := tI e) rfl
          refine u_var ex7 ?_
          exact last _ _ e _ b8 he (c8.set hx7 (stab_tI _) 7 (by decide)) (fin e he)
      -- if len(found) > 1 and draw(3) == 0
      refine u_seq (u_ifs (u_and ?_))
      refine yt_test (yl_ib (yl_len (n := W.length) (yl_v (i := 5) (d := tWs W) c6.c rfl) ⟨.inl rfl, List.length_map ..⟩) (yl_int 1)) H6 (Same.refl _) _ fun H7 s7 => ?_
      have c7 := c6.same s7
      have b7 := b06.same s7
      by_cases hw1 : (1 : Int) < (W.length : Int)
      · rw [if_pos (decide_eq_true hw1)]
        refine u_test (u_op ?_)
        refine yw_call c7 (yla_one (yl_int 3)) ⟨3, rfl, by decide, by decide⟩ stI _ fun H8 v8 d b8 ho hv8 => ?_
        obtain ⟨_, z, _, rfl, _, _⟩ := ho
        refine v_op (yl_eq (yl_val hv8) (yl_int 0) (shape_int _) (shape_int _) (eqv_int _ _)) fun H9 v9 s9 h9 => ?_
        cases bl_inv h9
        have b9 := (b7.trans b8).same s9
        have c9 := (c7.but b8).same s9
        refine ⟨_, rfl, ?_⟩
        by_cases hz : z = 0
        · rw [if_pos (decide_eq_true hz)]
          have pre : Pre_one [tWs W] := ⟨_, .inl ⟨rfl, firms_tWs W⟩, by
            intro z
            have : W = [] := by simpa using z
            subst this
            simp at hw1, by rw [List.length_map]; omega⟩
          have stW : ∀ d ∈ [tWs W], stab d := fun d hd => by rw [List.mem_singleton.mp hd]; exact stab_tWs _
          have outW : ∀ d, Out_one [tWs W] d → ∃ x ∈ W, d = tW x := fun d ho => by
            obtain ⟨xs, hxs, hd⟩ := ho
            rcases hxs with z | z
            · cases z
              exact word_at hd
            · cases z
          refine u_asg (u_call (u_cons (u_op ?_)))
          refine yw_call c9 (yla_one (yl_v (i := 5) (d := tWs W) c9.c rfl)) pre stW _ fun H10 vA d bA ho hvA => ?_
          obtain ⟨xA, hxA, rfl⟩ := outW _ ho
          refine u_c (ixT_val (k := 0) (d := tI xA.1) hvA (by decide) rfl fun uA huA => ?_)
          have cA := c9.but bA
          refine u_cons (u_op ?_)
          refine yw_call cA (yla_one (yl_v (i := 5) (d := tWs W) cA.c rfl)) pre stW _ fun H11 vB d bB ho hvB => ?_
          obtain ⟨xB, hxB, rfl⟩ := outW _ ho
          refine u_c (ixT_val (k := 0) (d := tI xB.1) hvB (by decide) rfl fun uB huB => u_nil ?_)
          have huA' : Dp K H11 uA (tI xA.1) := dp_stab cA.w bB.1 (stab_tI _) huA
          have cB := cA.but bB
          refine v_call (.cons huA' (.cons huB .nil)) ⟨xA.1, xB.1, rfl, rfl⟩ fun H12 v12 s12 h12 => ?_
          exact rest _ _ _ ((b9.trans (bA.trans bB)).same s12) (parted_eff h6 (heW _ hxA) (heW _ hxB)) ((cB.same s12).set h12 (stab_tI _) 7 (by decide))
        · rw [if_neg (by rw [decide_eq_false hz]; exact Bool.false_ne_true)]
          exact rest _ _ e b9 he c9
      · rw [if_neg (by rw [decide_eq_false hw1]; exact Bool.false_ne_true)]
        exact rest _ _ e b7 he c7
    · obtain ⟨b4, W, y6, y7, hW, heW, c4⟩ := pv
      exact st_ret (yl_v c4.c rfl) fun H5 v s5 hv => r H5 v _ (b4.same s5) ⟨n, m, W, rfl, rfl, heW, by omega⟩ hv⟩
end K31W
set_option Elab.async false
set_option linter.all false
set_option maxRecDepth 100000
set_option maxHeartbeats 1000000
/-! K31SemB: the readings: mixing, the well. -/
namespace K31W
open PySem PySem.Spec PyProof.Rows L2 K31
variable {P : Program} {w : World} {K : Fr} {mg : Str → Option Value} {base : Heap} {aN : Addr}
section
variable {p l : Addr} {H H' : Hp} {xs ys : List V} {R : List (List Int)}
/-- a list that is not the well stands -/
theorem lst_stay (hw : Well H p) (b : But p H H') (e : H l = some (.lst xs)) (hd : DpAll K H xs (tR R)) : H' l = some (.lst xs) ∧ DpAll K H' xs (tR R) :=
  ⟨b.2 _ _ e fun z => well_no hw (by rw [← z]; exact e) hd, dps_but b _ _ (firms_tR R) hd⟩
/-- a list of runs written, the well as it is -/
theorem lst_write (hw : Well H p) (e : H l = some (.lst xs)) (hne : l ≠ p) : Well (upd H l (.lst ys)) p := by
  obtain ⟨a, b, c, h0, e2⟩ := hw
  exact ⟨a, b, c, h0, by rw [upd_ne (Ne.symm hne)]; exact e2⟩
theorem but_l {H0 : Hp} (b : But p H0 H) (n : H0 l = none) : But p H0 (upd H l (.lst ys)) := ⟨b.1, fun a o e ne => by
  rw [upd_ne (ne_of_none e n)]
  exact b.2 _ _ e ne⟩
theorem seq_ix {i : Int} {n : Nat} (h0 : 0 ≤ i) (h1 : i < (n : Int)) : seqIndex? i n = some i.toNat := seqIndex_of h0 h1
end
theorem tR_erase : ∀ (R : List (List Int)) (k : Nat), (tR R).eraseIdx k = tR (R.eraseIdx k)
  | [], _ => rfl
  | _ :: _, 0 => rfl
  | r :: R, k + 1 => by
    show tI r :: (tR R).eraseIdx k = tI r :: tR (R.eraseIdx k)
    rw [tR_erase R k]
theorem erase_perm {α : Type} : ∀ (l : List α) (k : Nat) (h : k < l.length), (l[k] :: l.eraseIdx k).Perm l
  | _ :: _, 0, _ => List.Perm.refl _
  | x :: l, k + 1, h => by
    have h' : k < l.length := by simpa using h
    show (l[k] :: x :: l.eraseIdx k).Perm (x :: l)
    exact (List.Perm.swap x l[k] _).trans ((erase_perm l k h').cons x)
theorem ok__law_mixed (T : Txt K mg aN) (F__law_draw : Ok P w K mg base 1 "_law_draw" p__law_draw (sp__law_draw K)) : Ok P w K mg base 2 "_law_mixed" p__law_mixed (sp__law_mixed K) :=
  Ok.mkW T.f__law_mixed sc__law_mixed (by rintro ds ⟨R, rfl, _⟩; rfl) fun f cdv A outer s H0 E hr => ⟨_, w__law_mixed T F__law_draw hr, fun ds σ Q p pre c r => by
    obtain ⟨R, rfl, hl⟩ := pre
    have hlen : σ.length = 5 := c.c.len
    refine u_seq (u_par (u_cons ?_))
    refine yn_listOf (ds := tR R) (yl_v (i := 1) (d := .list (tR R)) c.c rfl) (.inr rfl) H0 (Same.refl _) _ fun H1 l1 xs1 s1 n1 e1 hx1 => ?_
    refine u_cons (yn_lst (K := K) (σ := σ) yla_nil (by decide) H1 (Same.refl _) _ fun H2 l2 xs2 s2 n2 e2 hx2 => u_nil ⟨_, _, rfl, ?_⟩)
    cases hx2
    have hp0 : H0 p ≠ none := by
      obtain ⟨a, b, c, _, e⟩ := c.w
      rw [e]
      simp
    have l1p : l1 ≠ p := fun z => hp0 (z ▸ n1)
    have l2p : l2 ≠ p := fun z => by
      obtain ⟨a, b, c, _, e⟩ := c.w.same s1
      rw [← z, n2] at e
      cases e
    have l12 : l1 ≠ l2 := fun z => by rw [z, n2] at e1; cases e1
    have n20 : H0 l2 = none := none_back s1 n2
    have c2 : Ctx K ((σ.set 2 (some (.ref l1))).set 3 (some (.ref l2))) H2 [none, some (.list (tR R)), none, none, none] := ((c.c.same (s1.trans s2)).setU 2).setU 3
    have h2 : ((σ.set 2 (some (V.ref l1))).set 3 (some (V.ref l2)))[2]? = some (some (.ref l1)) := by rw [List.getElem?_set_ne (by decide)]; exact List.getElem?_set_self (by rw [hlen]; decide)
    have h3 : ((σ.set 2 (some (V.ref l1))).set 3 (some (V.ref l2)))[3]? = some (some (.ref l2)) := List.getElem?_set_self (by rw [List.length_set, hlen]; decide)
    have h0 : ((σ.set 2 (some (V.ref l1))).set 3 (some (V.ref l2)))[0]? = some (some (.ref p)) := by rw [List.getElem?_set_ne (by decide), List.getElem?_set_ne (by decide)]; exact c.s0
    dsimp only
    generalize (σ.set 2 (some (V.ref l1))).set 3 (some (V.ref l2)) = σ2 at c2 h2 h3 h0
    refine u_seq ?_
    refine st_rangeY (n := R.length) (yl_len (yl_v (i := 1) (d := .list (tR R)) c2 rfl) ⟨.inr rfl, tR_len R⟩) (by omega)
      (fun j σ3 H3 => ButW p H0 H3 ∧ σ3[0]? = some (some (.ref p)) ∧ σ3[2]? = some (some (.ref l1)) ∧ σ3[3]? = some (some (.ref l2)) ∧ σ3.length = 5 ∧ ∃ xs ys R1 R2, H3 l1 = some (.lst xs) ∧ H3 l2 = some (.lst ys) ∧ DpAll K H3 xs (tR R1) ∧ DpAll K H3 ys (tR R2) ∧ (R1 ++ R2).Perm R ∧ R2.length = j)
      (fun H3 s3 => ⟨.of c.w (s1.trans (s2.trans s3)), h0, h2, h3, c2.len, xs1, [], R, [], s3 _ _ (s2 _ _ e1), s3 _ _ e2, dps_same (s2.trans s3) _ _ hx1, .nil, by rw [List.append_nil], rfl⟩) (fun j σ3 H3 hj pv => ?_) fun σ3 H3 pv => ?_
    · obtain ⟨b3, g0, g2, g3, gl, xs, ys, R1, R2, ex, ey, hxs, hys, hperm, hj2⟩ := pv
      have lp := hperm.length_eq
      rw [List.length_append] at lp
      have k0 : (σ3.set 4 (some (V.int (j : Nat))))[0]? = some (some (.ref p)) := by rw [List.getElem?_set_ne (by decide)]; exact g0
      have k2 : (σ3.set 4 (some (V.int (j : Nat))))[2]? = some (some (.ref l1)) := by rw [List.getElem?_set_ne (by decide)]; exact g2
      have k3 : (σ3.set 4 (some (V.int (j : Nat))))[3]? = some (some (.ref l2)) := by rw [List.getElem?_set_ne (by decide)]; exact g3
      have kl : (σ3.set 4 (some (V.int (j : Nat)))).length = 5 := by rw [List.length_set]; exact gl
      dsimp only [gName]
      generalize σ3.set 4 (some (V.int (j : Nat))) = σ4 at k0 k2 k3 kl
      have c4 : CW K p σ4 H3 [none, none, none, none, none] := ⟨⟨kl, fun i d e => by
        have : i < 5 := by
          by_cases h : i < 5
          · exact h
          · rw [List.getElem?_eq_none (by simp; omega)] at e; cases e
        match i, this with
        | 0, _ => cases e
        | 1, _ => cases e
        | 2, _ => cases e
        | 3, _ => cases e
        | 4, _ => cases e⟩, fun d hd => by simp at hd, k0, b3.2⟩
      refine u_drop ⟨.ref l2, k3, .inl ⟨rfl, ys, SqL.of ey⟩, ?_⟩
      refine u_cons ⟨.ref l1, k2, .inl ⟨rfl, xs, SqL.of ex⟩, ?_⟩
      refine u_cons ?_
      refine yw_call c4 (yla_one (yl_len (n := R1.length) (yl_var k2 (.lst (SqL.of ex) hxs)) ⟨.inr rfl, tR_len R1⟩)) ⟨_, rfl, by omega, by omega⟩ (fun d hd => by rw [List.mem_singleton.mp hd]; exact stab_int _) _ fun H5 v d b5 ho hv => u_nil ?_
      obtain ⟨_, z, ez, rfl, hz0, hz1⟩ := ho
      cases ez
      cases int_inv hv
      obtain ⟨ex5, hxs5⟩ := lst_stay b3.2 b5.1 ex hxs
      obtain ⟨ey5, hys5⟩ := lst_stay b3.2 b5.1 ey hys
      have hzn : z.toNat < R1.length := by omega
      have lx : xs.length = R1.length := by rw [dps_len hxs, tR_len]
      obtain ⟨y, hy, hyd⟩ := dps_get hxs5 (tR_at hzn)
      refine ⟨l1, xs, z, z.toNat, y, rfl, rfl, ex5, by omega, by omega, by rw [lx]; exact seq_ix hz0 hz1, hy, ?_⟩
      have bl1 : But l1 H5 (upd H5 l1 (.lst (xs.eraseIdx z.toNat))) := but_upd (Same.refl _) ex5
      have ey6 : (upd H5 l1 (.lst (xs.eraseIdx z.toNat))) l2 = some (.lst ys) := by rw [upd_ne (Ne.symm l12)]; exact ey5
      refine u_nil ⟨l2, ys, y, rfl, rfl, ey6, ?_, ?_⟩
      · rw [dps_len hys, tR_len]
        exact smallLt (by omega)
      · have bl2 : But l2 (upd H5 l1 (.lst (xs.eraseIdx z.toNat))) (upd (upd H5 l1 (.lst (xs.eraseIdx z.toNat))) l2 (.lst (ys ++ [y]))) := but_upd (Same.refl _) ey6
        have bw5 := b3.trans b5
        have hw6 : Well (upd H5 l1 (.lst (xs.eraseIdx z.toNat))) p := lst_write bw5.2 ex5 l1p
        have b6 : But p H0 (upd H5 l1 (.lst (xs.eraseIdx z.toNat))) := but_l bw5.1 n1
        refine ⟨⟨but_l b6 n20, lst_write hw6 ey6 l2p⟩, k0, k2, k3, kl, xs.eraseIdx z.toNat, ys ++ [y], R1.eraseIdx z.toNat, R2 ++ [R1.getD z.toNat []], ?_, upd_same, ?_, ?_, ?_, ?_⟩
        · rw [upd_ne l12]
          exact upd_same
        · rw [← tR_erase]
          exact dps_but bl2 _ _ (by rw [tR_erase]; exact firms_tR _) (dps_erase _ (dps_but bl1 _ _ (firms_tR _) hxs5))
        · unfold tR
          rw [List.map_append]
          exact dps_snoc_but bl2 (dps_but bl1 _ _ (firms_tR _) hys5) (firms_tR _) (dp_but bl1 _ _ (firm_tI _) hyd) (firm_tI _)
        · refine List.Perm.trans ?_ hperm
          have e1 : R1.getD z.toNat [] = R1[z.toNat] := by rw [List.getD_eq_getElem?_getD, List.getElem?_eq_getElem hzn]; rfl
          rw [e1]
          have hp1 := erase_perm R1 z.toNat hzn
          refine List.Perm.trans ?_ (hp1.append_right R2)
          rw [← List.append_assoc]
          exact List.perm_append_comm.trans (by rw [List.singleton_append, List.cons_append])
        · rw [List.length_append]
          simp
          exact hj2
    · obtain ⟨b3, g0, g2, g3, gl, xs, ys, R1, R2, ex, ey, hxs, hys, hperm, hj2⟩ := pv
      have lp := hperm.length_eq
      rw [List.length_append, hj2] at lp
      have : R1 = [] := List.eq_nil_of_length_eq_zero (by omega)
      subst this
      refine u_ret (u_var g3 ?_)
      exact r H3 _ _ b3 ⟨R, R2, rfl, rfl, hperm⟩ (.lst (SqL.of ey) hys)⟩
theorem ok__law_well (T : Txt K mg aN) : Ok P w K mg base 1 "_law_well" p__law_well (sp__law_well K) := by
  refine Ok.mk' T.f__law_well sc__law_well (fun vs H Q E h => ?_) fun f cdv A outer s H vs Q E hr h => ⟨_, w__law_well T hr, ?_⟩
  · obtain ⟨a, ns, lap, rfl, _⟩ := h
    rfl
  · obtain ⟨a, ns, lap, rfl, hs, hlap, q⟩ := h
    have c0 : Ctx K (start N__law_well [.ref a, .int lap]) H [some (.list (ns.map .int)), some (.int lap), none, none, none] := ctx_start (ds := [.list (ns.map .int), .int lap]) (n := 3) (.cons (.lst hs (dps_ints ns)) (.cons (.int _) .nil))
    refine sc_set c0 (yl_ii (g := fun i j => i + j) (yl_int 50333) (yl_ic (C := CMul) (g := fun i j => i * j) (yl_int 7919) (yl_v c0 rfl) (.inl (by decide)))) fun σ1 H1 s1 c1 => ?_
    refine sc_for c1 (yi_list ((yn_slL (yl_v (d := .list (ns.map .int)) c1 rfl) yo_none (yo_some (K := K) (yl_int 10))).yl)) gt1 (fun i cs => ∃ m x, cs = [some (.list (ns.map .int)), some (.int lap), some (.int m), x, none]) ⟨_, none, rfl⟩ (fun i d cs1 hd hc => ?_) fun σ2 H2 cs2 s2 c2 hc2 => ?_
    · obtain ⟨m, x, rfl⟩ := hc
      obtain ⟨z, rfl⟩ : ∃ z, d = .int z := by
        have := List.mem_of_getElem? hd
        unfold cutD at this
        obtain ⟨z, _, e⟩ := List.mem_map.mp (List.mem_of_mem_drop (List.mem_of_mem_take this))
        exact ⟨z, e.symm⟩
      refine ⟨_, rfl, fun σ3 H3 N s3 c3 hN => ?_⟩
      refine sc_set c3 (yl_ic (C := fun _ j => 0 < j) (g := fun i j => i % j) (yl_toInt (yl_ii (g := fun i j => i + j) (yl_ii (g := fun i j => i + j) (yl_ic (C := CMul) (g := fun i j => i * j) (yl_v c3 rfl) (yl_int 52361) (.inr (by decide))) (yl_ic (C := CMul) (g := fun i j => i * j) (yl_ic (C := fun _ j => 0 < j) (g := fun i j => i % j) (yl_toInt (yl_v c3 rfl)) (yl_int 2147483489) (by decide)) (yl_int 7) (.inr (by decide)))) (yl_int 19))) (yl_int 2147483489) (by decide)) fun σ4 H4 s4 c4 => hN _ _ _ s4 c4 ⟨_, _, rfl⟩
    · obtain ⟨m, x, rfl⟩ := hc2
      have own : ∃ o : Int, Yl K (tIf (tTest (tOp (rI0 fun i j => .bl (decide (i < j))) (tVar 1) (tCB (rLen K) (tCons (tVar 0) tNil)))) (tCB (rInt1) (tCons (tOp (rIxL K) (tVar 0) (tVar 1)) tNil)) (tC (.int 0))) σ2 H2 (.int o) := by
        by_cases hlt : lap < ns.length
        · refine ⟨ns.getD lap 0, yl_if (b := true) ((yt_test (yl_ib (g := fun i j => decide (i < j)) (yl_v c2 rfl) (yl_len (n := ns.length) (yl_v (d := .list (ns.map .int)) c2 rfl) ⟨.inr rfl, List.length_map ..⟩))).eq (decide_eq_true (by omega))) (fun _ => yl_toInt (yl_ixL (yl_v (d := .list (ns.map .int)) c2 rfl) (yl_v c2 rfl) (by omega) ?_)) fun z => Bool.noConfusion z⟩
          rw [Int.toNat_natCast, List.getElem?_map, List.getD_eq_getElem?_getD, List.getElem?_eq_getElem hlt]
          rfl
        · exact ⟨0, yl_if (b := false) ((yt_test (yl_ib (g := fun i j => decide (i < j)) (yl_v c2 rfl) (yl_len (n := ns.length) (yl_v (d := .list (ns.map .int)) c2 rfl) ⟨.inr rfl, List.length_map ..⟩))).eq (decide_eq_false (by omega))) (fun z => Bool.noConfusion z) fun _ => yl_int 0⟩
      obtain ⟨o, own⟩ := own
      refine sc_set c2 own fun σ3 H3 s3 c3 => ?_
      refine sc_set c3 (yl_ic (C := fun _ j => 0 < j) (g := fun i j => i % j) (yl_toInt (yl_ii (g := fun i j => i + j) (yl_ii (g := fun i j => i + j) (yl_ic (C := CMul) (g := fun i j => i * j) (yl_v c3 rfl) (yl_int 47) (.inr (by decide))) (yl_ic (C := CMul) (g := fun i j => i * j) (yl_ic (C := fun _ j => 0 < j) (g := fun i j => i % j) (yl_toInt (yl_v c3 rfl)) (yl_int 2147483489) (by decide)) (yl_int 30109) (.inr (by decide)))) (yl_int 5))) (yl_int 2147483489) (by decide)) fun σ4 H4 s4 c4 => ?_
      have fst : ∃ a : Int, 0 ≤ a ∧ Yl K (tIf (tOr (tTest (tOp (rI0 fun i j => .bl (decide (i < j))) (tVar 4) (tC (.int 0)))) (tTest (tOp (rI0 fun i j => .bl (decide (j ≤ i))) (tVar 4) (tOp (rI CPow fun i j => .int (i ^ j.toNat)) (tC (.int 10)) (tC (.int 14)))))) (tCB (rAbs) (tCons (tVar 4) tNil)) (tC (.int 0))) σ4 H4 (.int a) := by
        have tst := yt_or (yt_test (K := K) (yl_ib (g := fun i j => decide (i < j)) (yl_v (i := 4) (d := .int o) c4 rfl) (yl_int 0))) fun _ => yt_test (K := K) (yl_ib (g := fun i j => decide (j ≤ i)) (yl_v (i := 4) (d := .int o) c4 rfl) (yl_ic (C := CPow) (g := fun i j => i ^ j.toNat) (yl_int 10) (yl_int 14) ⟨by decide, by decide, by decide⟩))
        cases hb : (decide (o < 0) || decide ((10 : Int) ^ (14 : Int).toNat ≤ o)) with
        | true => exact ⟨(o.natAbs : Int), by omega, yl_if (b := true) (tst.eq hb) (fun _ => yl_abs (yl_v c4 rfl)) fun z => Bool.noConfusion z⟩
        | false => exact ⟨0, Int.le_refl _, yl_if (b := false) (tst.eq hb) (fun z => Bool.noConfusion z) fun _ => yl_int 0⟩
      obtain ⟨a0, ha0, fst⟩ := fst
      refine u_ret (yn_lst (yla_cons fst (yla_cons (yl_v c4 rfl) (yla_one (yl_int 0)))) (small (by simp)) H4 (Same.refl _) _ fun H5 l xs s5 n5 e5 hx5 => ?_)
      have ss := s1.trans (s2.trans (s3.trans s4))
      refine q H5 l (ss.trans s5) (none_back ss n5) ?_
      cases hx5 with
      | cons h1 hx =>
        obtain ⟨v2, v3, rfl, h2, h3⟩ := two_inv hx
        cases int_inv h1
        cases int_inv h2
        cases int_inv h3
        exact ⟨a0, _, _, ha0, e5⟩
end K31W
set_option Elab.async false
set_option linter.all false
set_option maxRecDepth 100000
set_option maxHeartbeats 1000000
/-! K31SemC: the readings: the plan that is drawn. -/
namespace K31W
open PySem PySem.Spec PyProof.Rows L2 K31
variable {P : Program} {w : World} {K : Fr} {mg : Str → Option Value} {base : Heap} {aN : Addr}
theorem none_but {p l : Addr} {H0 H : Hp} (b : ButW p H0 H) (n : H l = none) : H0 l = none := by
  cases e : H0 l with
  | none => rfl
  | some o =>
    by_cases h : l = p
    · obtain ⟨a, b, c, _, e2⟩ := b.2
      rw [← h, n] at e2
      cases e2
    · rw [b.1.2 _ _ e h] at n
      cases n
theorem l_ne_p {p l : Addr} {H0 H : Hp} (b : ButW p H0 H) (n : H0 l = none) : l ≠ p := fun z => by
  obtain ⟨xs, e⟩ := b.1.1
  rw [← z, n] at e
  cases e
/-- a plan in the making -/
structure PLs (K : Fr) (p : Addr) (H0 : Hp) (n : Nat) (way : Int) (R : List (List Int)) (σ : L2.St) (H : Hp) : Prop where
  b : ButW p H0 H
  cw : ∃ cs, CW K p σ H cs ∧ (∀ d, some d ∈ cs → firm d = true) ∧ cs.length = 10 ∧ cs[1]? = some (some (.int (n : Nat))) ∧ cs[5]? = some (some (.int way))
  trk : ∃ l xs, σ[4]? = some (some (.ref l)) ∧ H l = some (.lst xs) ∧ H0 l = none ∧ DpAll K H xs (tR R)
  runs : ∀ r ∈ R, IsRun n r
section
variable {p : Addr} {H0 H H' : Hp} {n : Nat} {way : Int} {R R' : List (List Int)} {σ : L2.St} {D : Ends}
theorem PLs.draw (s : PLs K p H0 n way R σ H) (b : ButW p H H') : PLs K p H0 n way R σ H' := by
  obtain ⟨b0, ⟨cs, c, f, r⟩, ⟨l, xs, h4, e, n0, hd⟩, hr⟩ := s
  obtain ⟨e', hd'⟩ := lst_stay b0.2 b.1 e hd
  exact ⟨b0.trans b, ⟨cs, c.but b, f, r⟩, ⟨l, xs, h4, e', n0, hd'⟩, hr⟩
theorem PLs.same (s : PLs K p H0 n way R σ H) (b : Same H H') : PLs K p H0 n way R σ H' := s.draw (.of s.b.2 b)
theorem CW.butL {l : Addr} {cs : List (Option PyData)} (c : CW K p σ H cs) (b : But l H H') (hw : Well H' p) (hf : ∀ d, some d ∈ cs → firm d = true) : CW K p σ H' cs := ⟨c.c.but b hf, c.st, c.s0, hw⟩
/-- the list written -/
theorem PLs.write {l : Addr} {xs ys : List V} (s : PLs K p H0 n way R σ H) (h4 : σ[4]? = some (some (.ref l))) (e : H l = some (.lst xs)) (n0 : H0 l = none) (hd : DpAll K (upd H l (.lst ys)) ys (tR R')) (hr : ∀ r ∈ R', IsRun n r) : PLs K p H0 n way R' σ (upd H l (.lst ys)) := by
  obtain ⟨b0, ⟨cs, c, f, r⟩, _, _⟩ := s
  have hw := lst_write (ys := ys) b0.2 e (l_ne_p b0 n0)
  exact ⟨⟨but_l b0.1 n0, hw⟩, ⟨cs, c.butL (but_upd (Same.refl _) e) hw f, f, r⟩, ⟨l, ys, h4, upd_same, n0, hd⟩, hr⟩
/-- another list named -/
theorem PLs.name {l : Addr} {xs : List V} (s : PLs K p H0 n way R σ H) (hs : Same H H') (nl : H l = none) (e : H' l = some (.lst xs)) (hd : DpAll K H' xs (tR R')) (hr : ∀ r ∈ R', IsRun n r) : PLs K p H0 n way R' (σ.set 4 (some (.ref l))) H' := by
  have n0 := none_but s.b nl
  obtain ⟨b0, ⟨cs, c, f, hl, h1, h5⟩, _, _⟩ := s.same hs
  have hlen : σ.length = 10 := by rw [c.c.len, hl]
  refine ⟨b0, ⟨cs.set 4 none, c.setU 4 (by decide), fun d hd => ?_, by rw [List.length_set]; exact hl, by rw [List.getElem?_set_ne (by decide)]; exact h1, by rw [List.getElem?_set_ne (by decide)]; exact h5⟩, ⟨l, xs, List.getElem?_set_self (by omega), e, n0, hd⟩, hr⟩
  rcases List.mem_or_eq_of_mem_set hd with q | q
  · exact f d q
  · cases q
/-- another slot set to a whole number -/
theorem PLs.slot {i : Nat} {z : Int} (s : PLs K p H0 n way R σ H) (h0 : i ≠ 0) (h1 : i ≠ 1) (h4 : i ≠ 4) (h5 : i ≠ 5) : PLs K p H0 n way R (σ.set i (some (.int z))) H := by
  obtain ⟨b0, ⟨cs, c, f, hl, g1, g5⟩, ⟨l, xs, g4, e, n0, hd⟩, hr⟩ := s
  refine ⟨b0, ⟨cs.set i (some (.int z)), c.set (.int z) (stab_int z) i h0, fun d hd => ?_, by rw [List.length_set]; exact hl, by rw [List.getElem?_set_ne h1]; exact g1, by rw [List.getElem?_set_ne h5]; exact g5⟩, ⟨l, xs, by rw [List.getElem?_set_ne h4]; exact g4, e, n0, hd⟩, hr⟩
  rcases List.mem_or_eq_of_mem_set hd with q | q
  · exact f d q
  · cases q; exact firm_int _
theorem PLs.few (s : PLs K p H0 n way R σ H) : Yl K (tVar 1) σ H (.int n) := let ⟨cs, c, _, _, h, _⟩ := s.cw; yl_v c.c h
theorem PLs.way_ (s : PLs K p H0 n way R σ H) : Yl K (tVar 5) σ H (.int way) := let ⟨cs, c, _, _, _, h⟩ := s.cw; yl_v c.c h
theorem PLs.lst (s : PLs K p H0 n way R σ H) : Yl K (tVar 4) σ H (.list (tR R)) := let ⟨l, xs, h, e, _, hd⟩ := s.trk; yl_var h (.lst (SqL.of e) hd)
theorem PLs.len_ (s : PLs K p H0 n way R σ H) : Yl K (tCB (rLen K) (tCons (tVar 4) tNil)) σ H (.int R.length) := yl_len s.lst ⟨.inr rfl, tR_len R⟩
theorem PLs.hit (s : PLs K p H0 n way R σ H) (k : Int) {t : TS} (h : ∀ H2, PLs K p H0 n way R σ H2 → t D σ H2) (q : ∀ H2, PLs K p H0 n way R σ H2 → D.nx σ H2) : tIfS (tTest (tOp (rEqD K) (tVar 5) (tC (.int k)))) t tNext D σ H :=
  st_if (yt_test (yl_eq s.way_ (yl_int k) (shape_int _) (shape_int _) (eqv_int _ _))) (fun _ H2 s2 => h H2 (s.same s2)) fun _ H2 s2 => q H2 (s.same s2)
theorem PLs.call {Pre : List PyData → Prop} {Out : InP} {E : XK} {ta : TA} {ds : List PyData} (s : PLs K p H0 n way R σ H) (ha : YlA K ta σ H ds) (pre : Pre ds) (st : ∀ d ∈ ds, stab d) (Q : VK) (q : ∀ H2 v d, ButW p H H2 → Out ds d → Dp K H2 v d → PLs K p H0 n way R σ H2 → Q v H2) : tCall (spW K Pre Out) [] E (tCons (tVar 0) ta) σ H Q := by
  obtain ⟨cs, c, _⟩ := s.cw
  exact yw_call c ha pre st Q fun H2 v d b ho hv => q H2 v d b ho hv (s.draw b)
/-- runs.append(e), e drawn -/
theorem PLs.app {te : TE} (s : PLs K p H0 n way R σ H) (hl : R.length ≤ 1000) (he : ∀ Q : VK, (∀ H2 v r, PLs K p H0 n way R σ H2 → IsRun n r → Dp K H2 v (tI r) → Q v H2) → te σ H Q) (q : ∀ H2 r, IsRun n r → PLs K p H0 n way (R ++ [r]) σ H2 → D.nx σ H2) : tDrop (tBM K "list" rAppend (tVar 4) (tCons te tNil)) D σ H := by
  obtain ⟨l, xs, h4, e, n0, hd⟩ := id s.trk
  refine ⟨.ref l, h4, .inl ⟨rfl, xs, SqL.of e⟩, ?_⟩
  refine u_cons (he _ fun H2 v r s2 hr hv => u_nil ?_)
  obtain ⟨l2, xs2, h42, e2, n02, hd2⟩ := id s2.trk
  have : l2 = l := by
    rw [h4] at h42
    cases h42
    rfl
  subst this
  refine ⟨l2, xs2, v, rfl, rfl, e2, by rw [dps_len hd2, tR_len]; exact smallLt (by omega), q _ r hr (s2.write h4 e2 n02 ?_ fun x hx => ?_)⟩
  · unfold tR
    rw [List.map_append]
    exact dps_snoc_but (but_upd (Same.refl _) e2) hd2 (firms_tR R) hv (firm_tI r)
  · rcases List.mem_append.mp hx with g | g
    · exact s.runs x g
    · rw [List.mem_singleton.mp g]; exact hr
end
theorem stI_ {z : Int} : ∀ d ∈ [PyData.int z], stab d := fun d hd => by rw [List.mem_singleton.mp hd]; exact stab_int _
theorem nat_eq {n m : Nat} (h : [PyData.int (n : Int)] = [PyData.int (m : Int)]) : n = m := by
  have h0 : (n : Int) = (m : Int) := by simpa using h
  omega
section
variable {p : Addr} {H0 H H' : Hp} {n : Nat} {way : Int} {R R' : List (List Int)} {σ : L2.St} {D : Ends}
theorem PLs.run (s : PLs K p H0 n way R σ H) (h6 : n ≤ 6) (Q : VK) (q : ∀ H2 v r, PLs K p H0 n way R σ H2 → IsRun n r → Dp K H2 v (tI r) → Q v H2) : tCall (sp__law_run K) [] L2.E0 (tCons (tVar 0) (tCons (tVar 1) tNil)) σ H Q :=
  s.call (yla_one s.few) ⟨n, rfl, h6⟩ stI_ Q fun H2 v d b ho hv s2 => by
    obtain ⟨n', r, en, rfl, hr⟩ := ho
    cases nat_eq en
    exact q H2 v r s2 hr hv
theorem PLs.pick (s : PLs K p H0 n way R σ H) (hne : R ≠ []) (hl : R.length ≤ 1000) (Q : VK) (q : ∀ H2 v r, PLs K p H0 n way R σ H2 → IsRun n r → Dp K H2 v (tI r) → Q v H2) : tCall (sp__law_one K) [] L2.E0 (tCons (tVar 0) (tCons (tVar 4) tNil)) σ H Q :=
  s.call (yla_one s.lst) ⟨tR R, .inr ⟨R, rfl, rfl⟩, by simpa [tR] using hne, by rw [tR_len]; exact hl⟩ (fun d hd => by rw [List.mem_singleton.mp hd]; exact stab_lR R) Q fun H2 v d b ho hv s2 => by
    obtain ⟨xs, hxs, hd⟩ := ho
    rcases hxs with e | e
    · cases e
    · cases e
      obtain ⟨r, hr, rfl⟩ := List.mem_map.mp hd
      exact q H2 v r s2 (s.runs r hr) hv
theorem PLs.figure {t : TE} {m : Nat} (s : PLs K p H0 n way R σ H) (h : Yl K t σ H (.int m)) (h1 : 1 ≤ m) (h2 : m ≤ 1000) (Q : VK) (q : ∀ H2 (k : Nat), PLs K p H0 n way R σ H2 → k < m → Q (.int k) H2) : tCall (sp__law_draw K) [] L2.E0 (tCons (tVar 0) (tCons t tNil)) σ H Q :=
  s.call (yla_one h) ⟨m, rfl, by omega, by omega⟩ stI_ Q fun H2 v d b ho hv s2 => by
    obtain ⟨_, i, en, rfl, h0, h1⟩ := ho
    cases en
    cases int_inv hv
    obtain ⟨k, rfl⟩ := Int.eq_ofNat_of_zero_le h0
    exact q H2 k s2 (by omega)
end
theorem flip_run {n k : Nat} {r : List Int} (h : IsRun n r) (hk : k < n) : IsRun n (r.take k ++ [0 - r.getD k 0] ++ r.drop (k + 1)) := by
  refine ⟨?_, fun x hx => ?_⟩
  · rw [List.length_append, List.length_append, List.length_take, List.length_drop, h.len]
    simp
    omega
  · rcases List.mem_append.mp hx with g | g
    · rcases List.mem_append.mp g with g | g
      · exact h.pm x (List.mem_of_mem_take g)
      · rw [List.mem_singleton.mp g]
        rcases getD_pm h hk with e | e <;> rw [e]
        · exact .inr rfl
        · exact .inl rfl
    · exact h.pm x (List.mem_of_mem_drop g)
end K31W
set_option Elab.async false
set_option linter.all false
set_option maxRecDepth 100000
set_option maxHeartbeats 1000000
/-! K31SemD: the readings: the plan, step by step. -/
namespace K31W
open PySem PySem.Spec PyProof.Rows L2 K31
variable {P : Program} {w : World} {K : Fr} {mg : Str → Option Value} {base : Heap} {aN : Addr}
section
variable {p : Addr} {H0 H H' : Hp} {n : Nat} {way : Int} {R R' : List (List Int)} {σ : L2.St} {D : Ends}
/-- some plan stands -/
def PLn (K : Fr) (p : Addr) (H0 : Hp) (n : Nat) (way : Int) (m : Nat) (σ : L2.St) (H : Hp) : Prop := ∃ R, R ≠ [] ∧ R.length ≤ m ∧ PLs K p H0 n way R σ H
theorem plan1 {m : Nat} (s : PLn K p H0 n way m σ H) (hm : m ≤ 200) (q : ∀ σ2 H2, PLn K p H0 n way (m + m) σ2 H2 → D.nx σ2 H2) : tIfS (tTest (tOp (rEqD K) (tVar 5) (tC (.int 1)))) (tAsg (tOp (rCatS K) (tVar 4) (tVar 4)) (gName 4)) tNext D σ H := by
  obtain ⟨R, hne, hl, s⟩ := s
  refine s.hit 1 (fun H2 s2 => ?_) fun H2 s2 => q _ _ ⟨R, hne, by omega, s2⟩
  refine st_setN (yn_catL s2.lst s2.lst (by rw [tR_len]; exact small (by omega))) fun H3 l xs s3 n3 e3 hx => q _ _ ⟨R ++ R, by simp [hne], by rw [List.length_append]; omega, s2.name s3 n3 e3 (by unfold tR at hx ⊢; rw [List.map_append]; exact hx) fun r hr => ?_⟩
  rcases List.mem_append.mp hr with g | g <;> exact s.runs r g
theorem plan2 {m : Nat} (s : PLn K p H0 n way m σ H) (h1 : 1 ≤ n) (h6 : n ≤ 6) (hm : m ≤ 200) (q : ∀ σ2 H2, PLn K p H0 n way (m + 64) σ2 H2 → D.nx σ2 H2) :
    tIfS (tTest (tOp (rEqD K) (tVar 5) (tC (.int 2)))) (tAsg (tOp (rCatS K) (tVar 4) (tLc (iTup K (tCall (sp__law_fitting K) [] L2.E0 (tCons (tVar 1) (tCons (tCall (sp__law_words K) [] L2.E0 (tCons (tVar 0) (tCons (tVar 1) (tCons (tC (.int 4)) (tCons (tC (.bl true)) tNil))))) tNil)))) (gName 9) (tTest (tOp (rInR K true) (tVar 9) (tVar 4))) (tVar 9) [9])) (gName 4)) tNext D σ H := by
  obtain ⟨R, hne, hl, s⟩ := s
  refine s.hit 2 (fun H2 s2 => ?_) fun H2 s2 => q _ _ ⟨R, hne, by omega, s2⟩
  obtain ⟨l, xs, h4, e4, n4, hd4⟩ := id s2.trk
  refine u_asg (u_op (u_var h4 ?_))
  obtain ⟨cs, c, f, hcl, g1, g5⟩ := id s2.cw
  obtain ⟨v1, e1, hv1⟩ := c.at_ 1 g1
  show tCall (sp__law_fitting K) [] L2.E0 (tCons (tVar 1) _) σ H2 _
  refine u_call (u_cons (u_var e1 (u_cons ?_)))
  refine s2.call (yla_cons s2.few (yla_cons (yl_int 4) (yla_one (yl_bl true)))) ⟨n, 4, rfl, h1, h6, by decide⟩ (fun d hd => ?_) _ fun H3 v d b ho hv s3 => u_nil ?_
  · have : d = .int n ∨ d = .int 4 ∨ d = .bool true := by simpa using hd
    rcases this with rfl | rfl | rfl
    · exact stab_int _
    · exact stab_int _
    · exact stab_bl _
  · obtain ⟨n', m', W, en, rfl, hW, hWl⟩ := ho
    have en' : n = n' := by
      have h0 : (n : Int) = (n' : Int) := by simpa using (List.cons.inj en).1
      omega
    subst en'
    have hv1' : Dp K H3 v1 (.int n) := by cases int_inv hv1; exact .int _
    refine v_call (.cons hv1' (.cons hv .nil)) ⟨n, W, ⟨h1, h6, by omega, hW⟩, rfl, rfl⟩ fun H4 x s4 hx => ?_
    have s5 := s3.same s4
    have fo := fit_ok h6 W
    obtain ⟨cs5, c5, f5, hcl5, _, _⟩ := id s5.cw
    obtain ⟨l5, xs5, h45, e5, n5, hd5⟩ := id s5.trk
    have hlen : σ.length = 10 := by rw [c5.c.len, hcl5]
    have l5l : l5 = l := by rw [h4] at h45; cases h45; rfl
    subst l5l
    show tLc (iTup K (tC x)) (gName 9) (tTest (tOp (rInR K true) (tVar 9) (tVar 4))) (tVar 9) [9] σ H4 (fun y H2 => rCatS K (V.ref l5) y H2 fun x H1 => gName 4 x σ H1 D.nx)
    have cR : Ctx K σ H4 (cs5.set 4 (some (.list (tR R)))) := by
      have := c5.c.set (.lst (SqL.of e5) hd5) 4
      rwa [show σ.set 4 (some (V.ref l5)) = σ from by
        apply List.ext_getElem?
        intro j
        by_cases hj : j = 4
        · subst hj
          rw [List.getElem?_set_self (by omega), h45]
        · rw [List.getElem?_set_ne (Ne.symm hj)]] at this
    have hget : (cs5.set 4 (some (PyData.list (tR R))))[4]? = some (some (.list (tR R))) := List.getElem?_set_self (by omega)
    have hlen9 : (cs5.set 4 (some (PyData.list (tR R)))).length = 10 := by rw [List.length_set]; exact hcl5
    refine yc_flt cR (fitL n W) tI tI (fun a => !decide (a ∈ R)) (yi_tup (yl_val hx)) (by omega) (gw1 (i := 9)) firm_tI (fun a ha => ⟨_, rfl, fun σ6 H6 s6 c6 => ?_⟩) H4 (Same.refl _) _ fun H5 l2 ys s7 n7 e7 hy => ?_
    · have k9 : ((cs5.set 4 (some (PyData.list (tR R)))).set 9 (some (tI a)))[9]? = some (some (tI a)) := List.getElem?_set_self (by omega)
      have k4 : ((cs5.set 4 (some (PyData.list (tR R)))).set 9 (some (tI a)))[4]? = some (some (.list (tR R))) := by rw [List.getElem?_set_ne (by decide)]; exact hget
      exact ⟨yt_test (yl_inR (neg := true) (yl_v c6 k9) (yl_v c6 k4) (.inr rfl)), fun _ => yl_v c6 k9⟩
    · have s8 := s5.same s7
      have e5' := s7 _ _ e5
      have hd5' := dps_same s7 _ _ hd5
      have lf : ((fitL n W).filter fun a => !decide (a ∈ R)).length ≤ 64 := Nat.le_trans (List.length_filter_le _ _) fo.2
      refine ⟨l5, l2, xs5, ys, rfl, rfl, SqL.of e5', SqL.of e7, ?_, fun l3 hl3 => ?_⟩
      · rw [dps_len hd5', dps_len hy, tR_len, List.length_map]
        exact small (by omega)
      · refine q _ _ ⟨R ++ (fitL n W).filter fun a => !decide (a ∈ R), by simp [hne], by rw [List.length_append]; omega, s8.name (same_new hl3) hl3 upd_same ?_ fun r hr => ?_⟩
        · unfold tR
          rw [List.map_append]
          exact dps_same (same_new hl3) _ _ (dps_app hd5' hy)
        · rcases List.mem_append.mp hr with g | g
          · exact s.runs r g
          · exact fo.1 r (List.mem_filter.mp g).1
theorem plan3 {m : Nat} (s : PLn K p H0 n way m σ H) (h6 : n ≤ 6) (hm : m ≤ 500) (q : ∀ σ2 H2, PLn K p H0 n way (m + 1) σ2 H2 → D.nx σ2 H2) :
    tIfS (tTest (tOp (rEqD K) (tVar 5) (tC (.int 3)))) (tDrop (tBM K "list" rAppend (tVar 4) (tCons (tCall (sp__law_run K) [] L2.E0 (tCons (tVar 0) (tCons (tVar 1) tNil))) tNil))) tNext D σ H := by
  obtain ⟨R, hne, hl, s⟩ := s
  exact s.hit 3 (fun H2 s2 => s2.app (by omega) (fun Q h => s2.run h6 Q h) fun H3 r hr s3 => q _ _ ⟨R ++ [r], by simp, by rw [List.length_append]; simp; omega, s3⟩) fun H2 s2 => q _ _ ⟨R, hne, by omega, s2⟩
theorem plan4 {m : Nat} (s : PLn K p H0 n way m σ H) (hm : m ≤ 500) (q : ∀ σ2 H2, PLn K p H0 n way (m + 1) σ2 H2 → D.nx σ2 H2) :
    tIfS (tTest (tOp (rEqD K) (tVar 5) (tC (.int 4)))) (tDrop (tBM K "list" rAppend (tVar 4) (tCons (tCall (sp__law_one K) [] L2.E0 (tCons (tVar 0) (tCons (tVar 4) tNil))) tNil))) tNext D σ H := by
  obtain ⟨R, hne, hl, s⟩ := s
  exact s.hit 4 (fun H2 s2 => s2.app (by omega) (fun Q h => s2.pick hne (by omega) Q h) fun H3 r hr s3 => q _ _ ⟨R ++ [r], by simp, by rw [List.length_append]; simp; omega, s3⟩) fun H2 s2 => q _ _ ⟨R, hne, by omega, s2⟩
theorem plan5 {m : Nat} (s : PLn K p H0 n way m σ H) (hm : m ≤ 500) (q : ∀ σ2 H2, PLn K p H0 n way m σ2 H2 → D.nx σ2 H2) :
    tIfS (tAnd (tTest (tOp (rEqD K) (tVar 5) (tC (.int 5)))) (tTest (tOp (rI0 fun i j => .bl (decide (j < i))) (tCB (rLen K) (tCons (tVar 4) tNil)) (tC (.int 1))))) (tDrop (tBM K "list" rPopAt (tVar 4) (tCons (tCall (sp__law_draw K) [] L2.E0 (tCons (tVar 0) (tCons (tCB (rLen K) (tCons (tVar 4) tNil)) tNil))) tNil))) tNext D σ H := by
  obtain ⟨R, hne, hl, s⟩ := s
  refine st_if (yt_and (yt_test (yl_eq s.way_ (yl_int 5) (shape_int _) (shape_int _) (eqv_int _ _))) fun _ => yt_test (yl_ib (g := fun i j => decide (j < i)) s.len_ (yl_int 1))) (fun hb H2 s2' => ?_) fun _ H2 s2 => q _ _ ⟨R, hne, hl, s.same s2⟩
  have s2 := s.same s2'
  have h2 : 1 < R.length := by
    rw [Bool.and_eq_true] at hb
    have := of_decide_eq_true hb.2
    omega
  obtain ⟨l, xs, h4, e4, n4, hd4⟩ := id s2.trk
  refine u_drop ⟨.ref l, h4, .inl ⟨rfl, xs, SqL.of e4⟩, u_cons ?_⟩
  refine s2.figure s2.len_ (by omega) (by omega) _ fun H3 k s3 hk => u_nil ?_
  obtain ⟨l5, xs5, h45, e5, n5, hd5⟩ := id s3.trk
  have l5l : l5 = l := by rw [h4] at h45; cases h45; rfl
  subst l5l
  have lx : xs5.length = R.length := by rw [dps_len hd5, tR_len]
  obtain ⟨y, hy, _⟩ := dps_get hd5 (tR_at hk)
  refine ⟨l5, xs5, k, k, y, rfl, rfl, e5, by omega, by omega, by rw [lx]; exact seq_ix (by omega) (by omega), hy, ?_⟩
  refine q _ _ ⟨R.eraseIdx k, ?_, by rw [List.length_eraseIdx]; split <;> omega, s3.write h4 e5 n5 ?_ fun r hr => s.runs r (List.mem_of_mem_eraseIdx hr)⟩
  · intro z
    have := congrArg List.length z
    rw [List.length_eraseIdx, if_pos hk] at this
    simp at this
    omega
  · rw [← tR_erase]
    exact dps_but (but_upd (Same.refl _) e5) _ _ (by rw [tR_erase]; exact firms_tR _) (dps_erase _ hd5)
theorem plan6 {m : Nat} (s : PLn K p H0 n way m σ H) (h1 : 1 ≤ n) (h6 : n ≤ 6) (hm : m ≤ 500) (q : ∀ σ2 H2, PLn K p H0 n way m σ2 H2 → D.nx σ2 H2) :
    tIfS (tTest (tOp (rEqD K) (tVar 5) (tC (.int 6)))) (tSeq (tPar 7 8 (tCons (tCall (sp__law_draw K) [] L2.E0 (tCons (tVar 0) (tCons (tCB (rLen K) (tCons (tVar 4) tNil)) tNil))) (tCons (tCall (sp__law_draw K) [] L2.E0 (tCons (tVar 0) (tCons (tVar 1) tNil))) tNil)))
  (tAsg (tOp (rCatA K) (tOp (rCatA K) (tSl (rSlA K) (tOp (rIxL K) (tVar 4) (tVar 7)) tNoPart (tPart (tVar 8))) (tTup (tCons (tOp (rI0 fun i j => .int (i - j)) (tC (.int 0)) (tOp (rIxT K) (tOp (rIxL K) (tVar 4) (tVar 7)) (tVar 8))) tNil))) (tSl (rSlA K) (tOp (rIxL K) (tVar 4) (tVar 7)) (tPart (tOp (rI0 fun i j => .int (i + j)) (tVar 8) (tC (.int 1)))) tNoPart)) (gSub (tVar 4) (tVar 7) rSetL))) tNext D σ H := by
  obtain ⟨R, hne, hl, s⟩ := s
  have hpos : 0 < R.length := List.length_pos_iff.mpr hne
  refine s.hit 6 (fun H2 s2 => ?_) fun H2 s2 => q _ _ ⟨R, hne, hl, s2⟩
  refine u_seq (u_par (u_cons ?_))
  refine s2.figure s2.len_ (by omega) (by omega) _ fun H3 k s3 hk => u_cons ?_
  refine s3.figure s3.few h1 (by omega) _ fun H4 j s4 hj => u_nil ⟨_, _, rfl, ?_⟩
  have s5 := (s4.slot (i := 7) (z := k) (by decide) (by decide) (by decide) (by decide)).slot (i := 8) (z := j) (by decide) (by decide) (by decide) (by decide)
  have hlen : σ.length = 10 := by obtain ⟨cs, c, _, hcl, _⟩ := s4.cw; rw [c.c.len, hcl]
  have g7 : ((σ.set 7 (some (V.int k))).set 8 (some (V.int j)))[7]? = some (some (.int k)) := by rw [List.getElem?_set_ne (by decide)]; exact List.getElem?_set_self (by omega)
  have g8 : ((σ.set 7 (some (V.int k))).set 8 (some (V.int j)))[8]? = some (some (.int j)) := List.getElem?_set_self (by rw [List.length_set]; omega)
  dsimp only
  generalize (σ.set 7 (some (V.int k))).set 8 (some (V.int j)) = σ5 at s5 g7 g8
  have hr : IsRun n (R.getD k []) := s.runs _ (by rw [List.getD_eq_getElem?_getD, List.getElem?_eq_getElem hk]; exact List.getElem_mem _)
  have y7 : ∀ {H : Hp}, Yl K (tVar 7) σ5 H (.int k) := yl_var g7 (.int _)
  have y8 : ∀ {H : Hp}, Yl K (tVar 8) σ5 H (.int j) := yl_var g8 (.int _)
  have yr : Yl K (tOp (rIxL K) (tVar 4) (tVar 7)) σ5 H4 (tI (R.getD k [])) := yl_ixL s5.lst y7 (by omega) (by rw [Int.toNat_natCast]; exact tR_at hk)
  have yv : Yl K (tOp (rCatA K) (tOp (rCatA K) (tSl (rSlA K) (tOp (rIxL K) (tVar 4) (tVar 7)) tNoPart (tPart (tVar 8))) (tTup (tCons (tOp (rI0 fun i j => .int (i - j)) (tC (.int 0)) (tOp (rIxT K) (tOp (rIxL K) (tVar 4) (tVar 7)) (tVar 8))) tNil))) (tSl (rSlA K) (tOp (rIxL K) (tVar 4) (tVar 7)) (tPart (tOp (rI0 fun i j => .int (i + j)) (tVar 8) (tC (.int 1)))) tNoPart)) σ5 H4
      (tI ((R.getD k []).take j ++ [0 - (R.getD k []).getD j 0] ++ (R.getD k []).drop (j + 1))) := by
    have e1 : Yl K (tSl (rSlA K) (tOp (rIxL K) (tVar 4) (tVar 7)) tNoPart (tPart (tVar 8))) σ5 H4 (tI ((R.getD k []).take j)) := (yl_slT yr yo_none (yo_some y8)).eq (by rw [cut_to _ _ (by omega), Int.toNat_natCast, ← List.map_take]; rfl)
    have e2 : Yl K (tSl (rSlA K) (tOp (rIxL K) (tVar 4) (tVar 7)) (tPart (tOp (rI0 fun i j => .int (i + j)) (tVar 8) (tC (.int 1)))) tNoPart) σ5 H4 (tI ((R.getD k []).drop (j + 1))) := (yl_slT yr (yo_some (yl_ii (g := fun i j => i + j) y8 (yl_int 1))) yo_none).eq (by rw [cut_from _ _ (by omega), show ((j : Int) + 1).toNat = j + 1 by omega, ← List.map_drop]; rfl)
    have e3 : Yl K (tOp (rI0 fun i j => .int (i - j)) (tC (.int 0)) (tOp (rIxT K) (tOp (rIxL K) (tVar 4) (tVar 7)) (tVar 8))) σ5 H4 (.int (0 - (R.getD k []).getD j 0)) := yl_ii (g := fun i j => i - j) (yl_int 0) (yl_ixT yr y8 (by omega) (by rw [Int.toNat_natCast]; have := tI_get (i := j) hr.len (by omega) (by omega); rwa [Int.toNat_natCast] at this))
    have ln := hr.len
    refine (yl_catT (yl_catT e1 (yl_tup (yla_one e3) (small (by simp))) (small (by rw [List.length_map, List.length_take]; simp only [List.length_singleton]; omega))) e2 (small (by rw [List.length_append, List.length_map, List.length_map, List.length_take, List.length_drop]; simp only [List.length_singleton]; omega))).eq ?_
    unfold tI
    rw [List.map_append, List.map_append]
    rfl
  refine u_asg (yv H4 (Same.refl _) _ fun H5 v s6' hv => ?_)
  have s6 := s5.same s6'
  obtain ⟨l, xs, h4, e4, n4, hd4⟩ := id s6.trk
  have lx : xs.length = R.length := by rw [dps_len hd4, tR_len]
  refine ⟨.ref l, h4, .int k, g7, l, xs, k, k, rfl, rfl, e4, ?_, ?_⟩
  · unfold ixN
    rw [if_pos (by omega), if_pos (by omega), Int.toNat_natCast]
  · have b : But l H5 (upd H5 l (.lst (xs.set k v))) := but_upd (Same.refl _) e4
    have hset : (tR R).set k (tI ((R.getD k []).take j ++ [0 - (R.getD k []).getD j 0] ++ (R.getD k []).drop (j + 1))) = tR (R.set k ((R.getD k []).take j ++ [0 - (R.getD k []).getD j 0] ++ (R.getD k []).drop (j + 1))) := by
      unfold tR
      rw [List.map_set]
    refine q _ _ ⟨R.set k _, fun z => ?_, by rw [List.length_set]; exact hl, s6.write h4 e4 n4 (R' := R.set k ((R.getD k []).take j ++ [0 - (R.getD k []).getD j 0] ++ (R.getD k []).drop (j + 1))) ?_ fun r hr' => ?_⟩
    · have := congrArg List.length z
      rw [List.length_set] at this
      simp at this
      exact hne this
    · rw [← hset]
      exact dps_but b _ _ (by rw [hset]; exact firms_tR _) (dps_set k hd4 hv)
    · rcases List.mem_or_eq_of_mem_set hr' with g | g
      · exact s.runs r g
      · rw [g]
        exact flip_run hr hj
end
end K31W
set_option Elab.async false
set_option linter.all false
set_option maxRecDepth 100000
set_option maxHeartbeats 1000000
/-! K31SemE: the readings: the plan whole. -/
namespace K31W
open PySem PySem.Spec PyProof.Rows L2 K31
variable {P : Program} {w : World} {K : Fr} {mg : Str → Option Value} {base : Heap} {aN : Addr}
theorem u_tlst {σ : L2.St} {H : Hp} {Q : VK} {ta : TA} (h : ta σ H fun xs H1 => xs.length ≤ sizeLine ∧ ∀ p, H1 p = none → Q (.ref p) (upd H1 p (.lst xs))) : tLst ta σ H Q := h
abbrev rMaxT (K : Fr) : TE := tCB (rMax2) (tCons (tC (.int 0)) (tCons (tOp (rI0 fun i j => .int (i - j)) (tVar 1) (tC (.int 4))) tNil))
theorem ok__law_plan (T : Txt K mg aN) (F__law_draw : Ok P w K mg base 1 "_law_draw" p__law_draw (sp__law_draw K)) (F__law_fitting : Ok P w K mg base 2 "_law_fitting" p__law_fitting (sp__law_fitting K)) (F__law_mixed : Ok P w K mg base 2 "_law_mixed" p__law_mixed (sp__law_mixed K)) (F__law_one : Ok P w K mg base 2 "_law_one" p__law_one (sp__law_one K))
    (F__law_run : Ok P w K mg base 3 "_law_run" p__law_run (sp__law_run K)) (F__law_words : Ok P w K mg base 4 "_law_words" p__law_words (sp__law_words K)) : Ok P w K mg base 5 "_law_plan" p__law_plan (sp__law_plan K) := by
  refine Ok.mk' T.f__law_plan sc__law_plan (fun vs H Q E h => ?_) fun f cdv A outer s H0 vs Q E hr h => ⟨_, w__law_plan T F__law_draw F__law_fitting F__law_mixed F__law_one F__law_run F__law_words hr, ?_⟩
  · obtain ⟨q, rfl, _⟩ := h
    rfl
  · obtain ⟨p, rfl, hw, ret⟩ := h
    have c0 : CW K p (start N__law_plan [.ref p]) H0 [none, none, none, none, none, none, none, none, none, none] := ⟨ctx_cons (ctx_start (ds := []) (vs := []) (n := 9) .nil), fun d hd => by simp at hd, rfl, hw⟩
    generalize start N__law_plan [V.ref p] = σ at c0
    have hlen : σ.length = 10 := c0.c.len
    -- few
    refine u_seq (u_asg ?_)
    refine yw_call c0 (yla_one (yl_tup (ds := [1, 2, 2, 3, 3, 3, 4, 4, 4, 5, 6].map .int) (yla_cons (yl_int 1) (yla_cons (yl_int 2) (yla_cons (yl_int 2) (yla_cons (yl_int 3) (yla_cons (yl_int 3) (yla_cons (yl_int 3) (yla_cons (yl_int 4) (yla_cons (yl_int 4) (yla_cons (yl_int 4) (yla_cons (yl_int 5) (yla_one (yl_int 6))))))))))) ) (by decide))) ⟨_, .inl ⟨rfl, firms_ints _⟩, by simp, by simp⟩ (fun d hd => by rw [List.mem_singleton.mp hd]; exact stab_tI [1, 2, 2, 3, 3, 3, 4, 4, 4, 5, 6]) _ fun H1 v d b1 ho hv => ?_
    obtain ⟨n, rfl, h1, h6⟩ : ∃ n : Nat, d = .int n ∧ 1 ≤ n ∧ n ≤ 6 := by
      obtain ⟨xs, hxs, hd⟩ := ho
      rcases hxs with e | e
      · cases e
        obtain ⟨z, hz, rfl⟩ := List.mem_map.mp hd
        have hz : z = 1 ∨ z = 2 ∨ z = 3 ∨ z = 4 ∨ z = 5 ∨ z = 6 := by
          simp at hz
          omega
        refine ⟨z.toNat, ?_, by omega, by omega⟩
        rw [Int.toNat_of_nonneg (by omega)]
      · cases e
    have c1 : CW K p (σ.set 1 (some v)) H1 [none, some (.int n), none, none, none, none, none, none, none, none] := (c0.but b1).set hv (stab_int _) 1 (by decide)
    dsimp only [gName]
    generalize σ.set 1 (some v) = σ1 at c1
    -- least
    refine u_seq ?_
    have yM : Yl K (rMaxT K) σ1 H1 (.int ((n - 4 : Nat) : Int)) := by
      refine (yl_cb (d := .int ((n - 4 : Nat) : Int)) (yla_cons (yl_int 0) (yla_one (yl_ii (g := fun i j => i - j) (yl_v (i := 1) (d := .int n) c1.c rfl) (yl_int 4)))) fun H2 vs s2 hvs Q q => ?_)
      obtain ⟨x, y, rfl, hx, hy⟩ := two_inv hvs
      cases int_inv hx
      cases int_inv hy
      refine ⟨0, (n : Int) - 4, rfl, ?_⟩
      rw [show (if (n : Int) - 4 > 0 then (n : Int) - 4 else 0) = ((n - 4 : Nat) : Int) by split <;> omega]
      exact q H2 _ (Same.refl _) (.int _)
    refine sw_set c1 yM (stab_int _) (by decide) fun σ2 H2 s2 c2 => ?_
    have b2 := b1.same s2
    -- words
    dsimp only
    refine u_seq (u_asg (u_op ?_))
    have preW : ∀ m : Nat, m ≤ 10 → Pre_words [.int n, .int m, .bool true] := fun m hm => ⟨n, m, rfl, h1, h6, hm⟩
    have stW : ∀ m : Nat, ∀ d ∈ [PyData.int n, .int m, .bool true], stab d := fun m d hd => by
      have : d = .int n ∨ d = .int m ∨ d = .bool true := by simpa using hd
      rcases this with rfl | rfl | rfl
      · exact stab_int _
      · exact stab_int _
      · exact stab_bl _
    have outW : ∀ (m : Nat) d, Out_words [.int n, .int m, .bool true] d → ∃ W : List (List Int × Int), d = tWs W ∧ (∀ x ∈ W, IsEff n x.1) ∧ W.length ≤ 10 := fun m d ho => by
      obtain ⟨n', m', W, en, rfl, hW, hl⟩ := ho
      have en' : n = n' := by
        have h0 : (n : Int) = (n' : Int) := by simpa using (List.cons.inj en).1
        omega
      subst en'
      exact ⟨W, rfl, hW, hl⟩
    refine yw_call c2 (yla_cons (yl_v (i := 1) (d := .int n) c2.c rfl) (yla_cons (yl_int 4) (yla_one (yl_bl true)))) (preW 4 (by decide)) (stW 4) _ fun H3 v3 d b3 ho hv3 => ?_
    obtain ⟨W1, rfl, hW1, hl1⟩ := outW 4 _ ho
    have c3 := c2.but b3
    refine yw_call c3 (yla_cons (yl_v (i := 1) (d := .int n) c3.c rfl) (yla_cons (yl_v (i := 2) (d := .int ((n - 4 : Nat) : Int)) c3.c rfl) (yla_one (yl_bl true)))) (preW (n - 4) (by omega)) (stW (n - 4)) _ fun H4 v4 d b4 ho hv4 => ?_
    obtain ⟨W2, rfl, hW2, hl2⟩ := outW (n - 4) _ ho
    have hv3' : Dp K H4 v3 (tWs W1) := dp_stab c3.w b4.1 (stab_tWs _) hv3
    have c4 := c3.but b4
    refine v_op (d := tWs (W1 ++ W2)) ((yl_catT (yl_val hv3') (yl_val hv4) (small (by rw [List.length_map, List.length_map]; omega))).eq (by unfold tWs; rw [List.map_append])) fun H5 v5 s5 hv5 => ?_
    have b5 := b2.trans ((b3.trans b4).same s5)
    have c5 : CW K p (σ2.set 3 (some v5)) H5 [none, some (.int n), some (.int ((n - 4 : Nat) : Int)), some (tWs (W1 ++ W2)), none, none, none, none, none, none] := (c4.same s5).set hv5 (stab_tWs _) 3 (by decide)
    have hW : Wrds n (W1 ++ W2) := ⟨h1, h6, by rw [List.length_append]; omega, fun x hx => by
      rcases List.mem_append.mp hx with g | g
      · exact hW1 x g
      · exact hW2 x g⟩
    generalize W1 ++ W2 = W at hW c5
    dsimp only [gName]
    generalize σ2.set 3 (some v5) = σ5 at c5
    -- runs, way
    refine u_seq (u_asg (u_tup (u_cons ?_)))
    refine yn_listOf (ds := tR (fitL n W)) (yl_call (yla_cons (yl_v (i := 1) (d := .int n) c5.c rfl) (yla_one (yl_v (i := 3) (d := tWs W) c5.c rfl))) ⟨n, W, hW, rfl, rfl⟩) (.inl rfl) H5 (Same.refl _) _ fun H6 l xs s6 n6 e6 hx6 => u_cons ?_
    have c6 := c5.same s6
    refine yw_call c6 (yla_one (yl_int 9)) ⟨9, rfl, by decide, by decide⟩ stI_ _ fun H7 v7 d b7 ho hv7 => u_nil ⟨small (by simp), fun q hq => ?_⟩
    obtain ⟨_, way, _, rfl, _, _⟩ := ho
    cases int_inv hv7
    have b6 := b5.same s6
    have n60 : H0 l = none := none_but b5 n6
    obtain ⟨e7, hx7⟩ := lst_stay b6.2 b7.1 e6 hx6
    have s8 : Same H7 (upd H7 q (.tup [.ref l, .int way])) := same_new hq
    have b8 := (b6.trans b7).same s8
    refine ⟨q, [.ref l, .int way], rfl, SqT.of upd_same, rfl, .ref l, [.int way], rfl, .int way, [], rfl, rfl, ?_⟩
    have e8 := s8 _ _ e7
    have hx8 := dps_same s8 _ _ hx7
    have c8 : CW K p ((σ5.set 4 (some (.ref l))).set 5 (some (.int way))) (upd H7 q (.tup [.ref l, .int way])) [none, some (.int n), some (.int ((n - 4 : Nat) : Int)), some (tWs W), none, some (.int way), none, none, none, none] :=
      (((c6.but b7).same s8).setU 4 (by decide)).set (.int _) (stab_int _) 5 (by decide)
    have hlen5 : σ5.length = 10 := c5.c.len
    have h48 : ((σ5.set 4 (some (V.ref l))).set 5 (some (V.int way)))[4]? = some (some (.ref l)) := by rw [List.getElem?_set_ne (by decide)]; exact List.getElem?_set_self (by omega)
    generalize upd H7 q (.tup [V.ref l, V.int way]) = H8 at s8 b8 e8 hx8 c8
    dsimp only
    generalize (σ5.set 4 (some (V.ref l))).set 5 (some (V.int way)) = σ8 at c8 h48
    have fo := fit_ok h6 W
    have S8 : PLs K p H0 n way (fitL n W) σ8 H8 := ⟨b8, ⟨_, c8, fun d hd => by
      have : d = .int n ∨ d = .int ((n - 4 : Nat) : Int) ∨ d = tWs W ∨ d = .int way := by simpa using hd
      rcases this with rfl | rfl | rfl | rfl
      · exact firm_int _
      · exact firm_int _
      · exact firm_tup (firms_tWs W)
      · exact firm_int _, rfl, rfl, rfl⟩, ⟨l, xs, h48, e8, n60, hx8⟩, fo.1⟩
    -- the steps behind
    have tail : ∀ (σ9 : L2.St) (H9 : Hp) (D : Ends), PLn K p H0 n way 64 σ9 H9 → D.rt = Q → tSeq (tIfS (tTest (tOp (rEqD K) (tVar 5) (tC (.int 1)))) (tAsg (tOp (rCatS K) (tVar 4) (tVar 4)) (gName 4)) tNext)
        (tSeq (tIfS (tTest (tOp (rEqD K) (tVar 5) (tC (.int 2)))) (tAsg (tOp (rCatS K) (tVar 4) (tLc (iTup K (tCall (sp__law_fitting K) [] L2.E0 (tCons (tVar 1) (tCons (tCall (sp__law_words K) [] L2.E0 (tCons (tVar 0) (tCons (tVar 1) (tCons (tC (.int 4)) (tCons (tC (.bl true)) tNil))))) tNil)))) (gName 9) (tTest (tOp (rInR K true) (tVar 9) (tVar 4))) (tVar 9) [9])) (gName 4)) tNext)
        (tSeq (tIfS (tTest (tOp (rEqD K) (tVar 5) (tC (.int 3)))) (tDrop (tBM K "list" rAppend (tVar 4) (tCons (tCall (sp__law_run K) [] L2.E0 (tCons (tVar 0) (tCons (tVar 1) tNil))) tNil))) tNext)
        (tSeq (tIfS (tTest (tOp (rEqD K) (tVar 5) (tC (.int 4)))) (tDrop (tBM K "list" rAppend (tVar 4) (tCons (tCall (sp__law_one K) [] L2.E0 (tCons (tVar 0) (tCons (tVar 4) tNil))) tNil))) tNext)
        (tSeq (tIfS (tAnd (tTest (tOp (rEqD K) (tVar 5) (tC (.int 5)))) (tTest (tOp (rI0 fun i j => .bl (decide (j < i))) (tCB (rLen K) (tCons (tVar 4) tNil)) (tC (.int 1))))) (tDrop (tBM K "list" rPopAt (tVar 4) (tCons (tCall (sp__law_draw K) [] L2.E0 (tCons (tVar 0) (tCons (tCB (rLen K) (tCons (tVar 4) tNil)) tNil))) tNil))) tNext)
        (tSeq (tIfS (tTest (tOp (rEqD K) (tVar 5) (tC (.int 6)))) (tSeq (tPar 7 8 (tCons (tCall (sp__law_draw K) [] L2.E0 (tCons (tVar 0) (tCons (tCB (rLen K) (tCons (tVar 4) tNil)) tNil))) (tCons (tCall (sp__law_draw K) [] L2.E0 (tCons (tVar 0) (tCons (tVar 1) tNil))) tNil)))
        (tAsg (tOp (rCatA K) (tOp (rCatA K) (tSl (rSlA K) (tOp (rIxL K) (tVar 4) (tVar 7)) tNoPart (tPart (tVar 8))) (tTup (tCons (tOp (rI0 fun i j => .int (i - j)) (tC (.int 0)) (tOp (rIxT K) (tOp (rIxL K) (tVar 4) (tVar 7)) (tVar 8))) tNil))) (tSl (rSlA K) (tOp (rIxL K) (tVar 4) (tVar 7)) (tPart (tOp (rI0 fun i j => .int (i + j)) (tVar 8) (tC (.int 1)))) tNoPart)) (gSub (tVar 4) (tVar 7) rSetL))) tNext)
        (tRet (tCB (rTupF K) (tCons (tCall (sp__law_mixed K) [] L2.E0 (tCons (tVar 0) (tCons (tSl (rSlL K) (tVar 4) tNoPart (tPart (tC (.int 64)))) tNil))) tNil)))))))) D σ9 H9 := fun σ9 H9 D S9 hD => by
      refine u_seq (plan1 S9 (by decide) fun σA HA SA => ?_)
      refine plan2 SA h1 h6 (by decide) fun σB HB SB => ?_
      refine plan3 SB h6 (by decide) fun σC HC SC => ?_
      refine plan4 SC (by decide) fun σD HD SD => ?_
      refine plan5 SD (by decide) fun σE HE SE => ?_
      refine plan6 SE h1 h6 (by decide) fun σF HF SF => ?_
      obtain ⟨R, hne, hl, S⟩ := SF
      show tCall (sp__law_mixed K) [] L2.E0 (tCons (tVar 0) (tCons (tSl (rSlL K) (tVar 4) tNoPart (tPart (tC (.int 64)))) tNil)) σF HF _
      have ysl : Yl K (tSl (rSlL K) (tVar 4) tNoPart (tPart (tC (.int 64)))) σF HF (.list (tR (R.take 64))) := (yn_slL S.lst yo_none (yo_some (K := K) (yl_int 64))).yl.eq (by rw [cut_to _ _ (by decide)]; show PyData.list ((tR R).take 64) = _; rw [take_map])
      refine S.call (yla_one ysl) ⟨R.take 64, rfl, by rw [List.length_take]; omega⟩ (fun d hd => by rw [List.mem_singleton.mp hd]; exact stab_lR _) _ fun HG v d bG ho hv SG => u_nil ?_
      obtain ⟨R1, R2, eR, rfl, hperm⟩ := ho
      have eR : tR (R.take 64) = tR R1 := by
        have := (List.cons.inj eR).1
        exact PyData.list.inj this
      have eR1 : R.take 64 = R1 := by
        have h := eqv_lR (R.take 64) R1
        rw [eR] at h
        have h2 := eqv_lR R1 R1
        rw [h2, decide_eq_true rfl] at h
        exact (of_decide_eq_true h.symm)
      subst eR1
      obtain ⟨aL, ys, rfl, hsL, hdL⟩ := lst_inv hv
      refine ⟨aL, ys, rfl, hsL, fun lq o hlq ho => ?_⟩
      rw [hD]
      have sm : Same HG (upd HG lq (.frz o (.tup ys))) := same_new hlq
      refine ret _ lq n R2 (SG.b.same sm) ⟨o, ys, upd_same, ho⟩ ⟨h1, h6, fun r hr => S.runs r (List.mem_of_mem_take (hperm.mem_iff.mp hr)), fun z => ?_, ?_⟩ (.tup (.inl (.inr ⟨o, upd_same⟩)) (dps_same sm _ _ hdL))
      · subst z
        have := hperm.length_eq
        rw [List.length_take] at this
        have h0 := List.length_pos_iff.mpr hne
        simp at this
        omega
      · rw [hperm.length_eq, List.length_take]
        omega
    -- if way == 0 or runs == []
    refine u_seq (st_if (yt_or (yt_test (yl_eq S8.way_ (yl_int 0) (shape_int _) (shape_int _) (eqv_int _ _))) fun _ => yt_test (yl_eq S8.lst (yn_lst yla_nil (by decide)).yl (shape_lR _) (shape_lR []) (eqv_lR _ []))) (fun hb H9 s9 => ?_) fun hb H9 s9 => ?_)
    · have S9 := S8.same s9
      refine u_seq (u_asg (u_tlst (u_cons ?_)))
      refine S9.run h6 _ fun HA v r SA hr hv => u_nil ⟨small (by simp), fun l2 hl2 => ?_⟩
      have sB : Same HA (upd HA l2 (.lst [v])) := same_new hl2
      have SB := SA.name (R' := [r]) sB hl2 upd_same (.cons (dp_same sB _ _ hv) .nil) fun x hx => by rw [List.mem_singleton.mp hx]; exact hr
      generalize upd HA l2 (.lst [v]) = HB at sB SB
      dsimp only [gName]
      generalize σ8.set 4 (some (V.ref l2)) = σB at SB
      refine u_rng (u_cons ?_)
      refine SB.figure (m := 9) (yl_int 9) (by decide) (by decide) _ fun HC k SC hk => u_nil (rng_go (n := k) (by omega) (fun i σ3 H3 => ∃ R, R ≠ [] ∧ R.length ≤ i + 1 ∧ PLs K p H0 n way R σ3 H3) ⟨[r], by simp, by simp, SC⟩ (fun i σ3 H3 hi pv => ?_) fun σ3 H3 pv => ?_)
      · obtain ⟨R, hne, hl, S3⟩ := pv
        have S4 := S3.slot (i := 6) (z := i) (by decide) (by decide) (by decide) (by decide)
        dsimp only [gName]
        generalize σ3.set 6 (some (V.int (i : Nat))) = σ4 at S4
        exact S4.app (by omega) (fun Q h => S4.run h6 Q h) fun H5 r5 hr5 S5 => ⟨R ++ [r5], by simp, by rw [List.length_append]; simp; omega, S5⟩
      · obtain ⟨R, hne, hl, S3⟩ := pv
        exact tail σ3 H3 _ ⟨R, hne, by omega, S3⟩ rfl
    · refine tail σ8 H9 _ ⟨fitL n W, fun z => ?_, fo.2, S8.same s9⟩ rfl
      rw [Bool.or_eq_false_iff] at hb
      exact of_decide_eq_false hb.2 z
end K31W
set_option Elab.async false
set_option linter.all false
set_option maxRecDepth 100000
set_option maxHeartbeats 1000000
/-! K31Law: calls by keyword, defs that run where no repr runs, the length of a repr. -/
namespace K31W
open PySem PySem.Spec PyProof.Rows L2
def app2 {α : Type} (a b : List α) : List α := a ++ b
/-- how a def of the one parameter runs takes it by its name -/
structure KAt (K : Fr) (mg : Str → Option Value) (x : Str) : Prop where
  ex : ∃ fa fd, mg x = some (.ref fa) ∧ (∃ oc od osl, K.lookup fa = some ⟨oc, od, .func fd, osl⟩) ∧ KBinds K fd ["runs"] ["runs"] app2 app2
theorem kat_of {K : Fr} {mg : Str → Option Value} {x : Str} {st : Stmt} (A : FAt K mg x st ["runs"])
    (h : ∀ (kV doc pm : Value) (an : Option Addr) (cdv ct v : Value), bindArgs (PySem.W.fnOf x x (defArgs st) (defBody st) (defScope st) .none kV doc pm an cdv ct) ⟨[], [(("runs" : Str), v)]⟩ = pure [(("runs" : Str), v)] ∧
      bindArgs (PySem.W.fnOf x x (defArgs st) (defBody st) (defScope st) .none kV doc pm an cdv ct) ⟨[v], []⟩ = pure [(("runs" : Str), v)]) : KAt K mg x := by
  obtain ⟨fa, fd, F, hm, hb⟩ := A.ex
  obtain ⟨oc, od, kV, doc, pm, an, cdv, ct, osl, rfl, lk, _⟩ := F.ex
  refine ⟨fa, _, hm, ⟨oc, od, osl, lk⟩, ⟨fun s us ws _ hl => ?_, fun r1 r2 => ?_⟩⟩
  · unfold app2 at hl ⊢
    match us, ws, hl with
    | [], [v], _ => exact .of_eq (h kV doc pm an cdv ct v).1
    | [v], [], _ => exact .of_eq (h kV doc pm an cdv ct v).2
    | [], [], hl => simp at hl
    | [], _ :: _ :: _, hl => simp at hl
    | _ :: _ :: _, _, hl => simp at hl
    | [_], _ :: _, hl => simp at hl
  · exact r1.append r2
section
variable {X : Cx} {k : Nat} {x : Str} {sp : Sp} {p pos : Pos} {e : Expr} {kpos : Pos} {tk : TA}
theorem pe_okK (F : Ok X.prog X.w X.K X.mg X.base k x ["runs"] sp) (A : KAt X.K X.mg x) (hr : Room k X.A) (hg : Gl X x) (hkw : PK X [⟨some "runs", e, kpos⟩] tk)
    (hall : (backToKw pos (keywordEach [⟨some "runs", e, kpos⟩] X.env)).all (·.1.isSome) = true := by rfl) (hks : (backToKw pos (keywordEach [⟨some "runs", e, kpos⟩] X.env)).filterMap (·.1) = [("runs" : Str)] := by rfl) (hdb : (x == ("__debug__" : Str)) = false := by decide)
    (hpl : ((backTo pos (starEach [] X.env)).any (·.1) || (backToKw pos (keywordEach [⟨some "runs", e, kpos⟩] X.env)).any (·.1.isNone)) = false := by rfl) : PE X (.Call (.Name x p) [] [⟨some "runs", e, kpos⟩] pos) (tCallK sp app2 L2.E0 tNil tk) := by
  obtain ⟨fa, fd, F, hm, hk, hb, oc, od, osl, lk⟩ := F.ex
  obtain ⟨fa2, fd2, hm2, ⟨oc2, od2, osl2, lk2⟩, kb⟩ := A.ex
  rw [hm] at hm2
  cases hm2
  rw [lk] at lk2
  cases lk2
  exact pe_kwOnly F hr hg hm hk kb pass0 hkw hall hks hdb hpl
end
section
variable {K : Fr} {σ : L2.St} {H : Hp} {d : PyData} {ds : List PyData} {cs : List (Option PyData)} {tk : TA} {t u : TE}
theorem yl_callK {In : List PyData → PyData → Prop} {E : XK} (h : YlA K tk σ H ds) (hi : In ds d) : Yl K (tCallK (spD K In) app2 E tNil tk) σ H d :=
  fun H1 s Q q => h H1 s _ fun H2 xs s2 hx => ⟨ds, d, hi, hx, fun H3 v s3 hv => q H3 v (s2.trans s3) hv⟩
theorem yl_callKP {In : List PyData → PyData → Prop} {E : XK} {i : Nat} {p : Addr} {d0 : PyData} (c : Ctx K σ H cs) (e : cs[i]? = some (some d0)) (hσ : σ[i]? = some (some (.ref p))) (pl : PlainT H p) (hi : In [d0] d) : Yl K (tCallK (spP K In) app2 E tNil (tCons (tVar i) tNil)) σ H d := fun H1 s Q q => by
  obtain ⟨v, e1, hv⟩ := c.at_ i d0 e
  rw [hσ] at e1
  cases e1
  exact ⟨_, hσ, ⟨p, [], rfl, pl.same s⟩, [d0], d, hi, .cons (dp_same s _ _ hv) .nil, fun H3 v s3 hv => q H3 v s3 hv⟩
theorem str_inv {x : V} {z : Str} (h : Dp K H x (.str z)) : x = .str z := by cases h; rfl
theorem yl_neS {z : Str} (h : Yl K t σ H (.str z)) (g : Yl K u σ H (.str z)) : Yl K (tOp rNe t u) σ H (.bool false) := yl_op h g fun H1 x y _ hx hy Q q => by
  cases str_inv hx
  cases str_inv hy
  refine ⟨rfl, ?_⟩
  rw [decide_eq_true rfl]
  exact q H1 _ (Same.refl _) (.bl _)
theorem yl_eqS {z : Str} (h : Yl K t σ H (.str z)) (g : Yl K u σ H (.str z)) : Yl K (tOp rEq t u) σ H (.bool true) := yl_op h g fun H1 x y _ hx hy Q q => by
  cases str_inv hx
  cases str_inv hy
  refine ⟨rfl, ?_⟩
  rw [decide_eq_true rfl]
  exact q H1 _ (Same.refl _) (.bl _)
/-! ### the length of a repr -/
/-- small numbers in lists and tuples: how deep, how heavy -/
structure Rp (dp wt : Nat) (d : PyData) : Prop where
  lv : d.leavesShort 8 = true
  sh : d.showable = true
  hd : d.hasDict = false
  de : d.depth ≤ dp
  we : d.weight ≤ wt
theorem lv_all : ∀ xs : List PyData, (∀ x ∈ xs, x.leavesShort 8 = true) → PyData.leavesShortAll 8 xs = true
  | [], _ => rfl
  | x :: xs, h => by rw [PyData.leavesShortAll, h x List.mem_cons_self, lv_all xs fun y hy => h y (List.mem_cons_of_mem _ hy)]; rfl
theorem sh_all : ∀ xs : List PyData, (∀ x ∈ xs, x.showable = true) → PyData.showableAll xs = true
  | [], _ => rfl
  | x :: xs, h => by rw [PyData.showableAll, h x List.mem_cons_self, sh_all xs fun y hy => h y (List.mem_cons_of_mem _ hy)]; rfl
theorem hd_all : ∀ xs : List PyData, (∀ x ∈ xs, x.hasDict = false) → PyData.hasDictAll xs = false
  | [], _ => rfl
  | x :: xs, h => by rw [PyData.hasDictAll, h x List.mem_cons_self, hd_all xs fun y hy => h y (List.mem_cons_of_mem _ hy)]; rfl
theorem de_all {k : Nat} : ∀ xs : List PyData, (∀ x ∈ xs, x.depth ≤ k) → PyData.depthAll xs ≤ k
  | [], _ => Nat.zero_le _
  | x :: xs, h => by
    rw [PyData.depthAll]
    exact Nat.max_le.mpr ⟨h x List.mem_cons_self, de_all xs fun y hy => h y (List.mem_cons_of_mem _ hy)⟩
theorem we_all {k : Nat} : ∀ (xs : List PyData) (n : Nat), (∀ x ∈ xs, x.weight ≤ k) → xs.length ≤ n → PyData.weightAll xs ≤ n * (k + 1)
  | [], _, _, _ => Nat.zero_le _
  | x :: xs, 0, _, hl => absurd hl (by simp)
  | x :: xs, n + 1, h, hl => by
    rw [PyData.weightAll, Nat.add_mul, Nat.one_mul]
    have h1 := h x List.mem_cons_self
    have h2 := we_all xs n (fun y hy => h y (List.mem_cons_of_mem _ hy)) (Nat.le_of_succ_le_succ hl)
    omega
theorem Rp.list {k m n : Nat} {xs : List PyData} (h : ∀ x ∈ xs, Rp k m x) (hl : xs.length ≤ n) : Rp (k + 1) (n * (m + 1)) (.list xs) :=
  ⟨by rw [PyData.leavesShort]; exact lv_all xs fun x hx => (h x hx).lv, by rw [PyData.showable]; exact sh_all xs fun x hx => (h x hx).sh, by rw [PyData.hasDict]; exact hd_all xs fun x hx => (h x hx).hd,
    by rw [PyData.depth]; exact Nat.succ_le_succ (de_all xs fun x hx => (h x hx).de), by rw [PyData.weight]; exact we_all xs n (fun x hx => (h x hx).we) hl⟩
theorem Rp.tup {k m n : Nat} {xs : List PyData} (h : ∀ x ∈ xs, Rp k m x) (hl : xs.length ≤ n) : Rp (k + 1) (n * (m + 1)) (.tuple xs) :=
  ⟨by rw [PyData.leavesShort]; exact lv_all xs fun x hx => (h x hx).lv, by rw [PyData.showable]; exact sh_all xs fun x hx => (h x hx).sh, by rw [PyData.hasDict]; exact hd_all xs fun x hx => (h x hx).hd,
    by rw [PyData.depth]; exact Nat.succ_le_succ (de_all xs fun x hx => (h x hx).de), by rw [PyData.weight]; exact we_all xs n (fun x hx => (h x hx).we) hl⟩
theorem Rp.mono {k m k' m' : Nat} {d : PyData} (h : Rp k m d) (h1 : k ≤ k') (h2 : m ≤ m') : Rp k' m' d := ⟨h.lv, h.sh, h.hd, Nat.le_trans h.de h1, Nat.le_trans h.we h2⟩
theorem int_len : ∀ k : Fin 129, ((PyData.int ((k : Nat) - 64 : Int)).shown).length ≤ 8 ∧ (PyData.int ((k : Nat) - 64 : Int)).showable = true ∧ (PyData.int ((k : Nat) - 64 : Int)).weight ≤ 7 := by decide +kernel
theorem Rp.int {i : Int} (h1 : -64 ≤ i) (h2 : i ≤ 64) : Rp 0 7 (.int i) := by
  have := int_len ⟨(i + 64).toNat, by omega⟩
  have e : (((i + 64).toNat : Nat) - 64 : Int) = i := by omega
  rw [show ((((⟨(i + 64).toNat, by omega⟩ : Fin 129) : Nat) : Int) - 64) = i from e] at this
  exact ⟨by rw [PyData.leavesShort]; exact decide_eq_true this.1, this.2.1, rfl, Nat.le_refl 0, this.2.2⟩
theorem Rp.none : Rp 0 0 .none := ⟨rfl, rfl, rfl, Nat.le_refl 0, Nat.le_refl 0⟩
theorem Rp.tI {ns : List Int} {n : Nat} (h : ∀ i ∈ ns, -64 ≤ i ∧ i ≤ 64) (hl : ns.length ≤ n) : Rp 1 (n * 8) (tI ns) := by
  have := Rp.tup (k := 0) (m := 7) (n := n) (xs := ns.map .int) (fun x hx => by
    obtain ⟨i, hi, rfl⟩ := List.mem_map.mp hx
    exact Rp.int (h i hi).1 (h i hi).2) (by rw [List.length_map]; exact hl)
  exact this
theorem Rp.fits {dp wt : Nat} {d : PyData} (h : Rp dp wt d) (hw : wt ≤ 100000) : d.shown.length ≤ sizeLine := PyData.shown_fits (Nat.le_refl 8) (by decide) h.lv (Nat.le_trans h.we (Nat.le_trans hw (by decide)))
/-- repr(e) -/
theorem yl_repr {dp wt : Nat} (h : Yl K t σ H d) (g : Rp dp wt d) (hr : ∀ H v, Dp K H v d → ∃ a, v = .ref a) (h1 : dp ≤ 60) (h2 : wt ≤ 100000) : Yl K (tCB (rRepr K) (tCons t tNil)) σ H (.str d.shown) :=
  yl_cb (yla_one h) fun H2 vs s2 hvs Q q => by
    obtain ⟨v, rfl, hv⟩ := one_inv hvs
    exact ⟨v, d, rfl, hr _ _ hv, hv, g.sh, g.hd, Nat.le_trans g.de h1, g.fits h2, q H2 _ (Same.refl _) (.str _)⟩
theorem ref_list {ds : List PyData} (H : Hp) (v : V) (h : Dp K H v (.list ds)) : ∃ a, v = .ref a := by
  obtain ⟨a, ys, rfl, _⟩ := lst_inv h
  exact ⟨a, rfl⟩
theorem ref_tup {ds : List PyData} (H : Hp) (v : V) (h : Dp K H v (.tuple ds)) : ∃ a, v = .ref a := by
  obtain ⟨a, ys, rfl, _⟩ := tup_inv h
  exact ⟨a, rfl⟩
end
/-! ### how long the answers are -/
open K31 in
theorem rp_tWs {n : Nat} {W : List (List Int × Int)} (h6 : n ≤ 6) (h : WordsOk n W) : Rp 3 1000 (tWs W) := by
  have := Rp.tup (k := 2) (m := 98) (n := 6) (xs := W.map tW) (fun x hx => by
    obtain ⟨w, hw, rfl⟩ := List.mem_map.mp hx
    obtain ⟨a, b, c⟩ := h.ok w hw
    have t1 : Rp 1 48 (tI w.1) := Rp.tI (n := 6) (fun i hi => by have := a.lo i hi; have := a.hi i hi; omega) (Nat.le_trans (eff_len a) h6)
    have t2 : Rp 1 48 (.int w.2) := (Rp.int (by omega) (by omega)).mono (by omega) (by omega)
    exact Rp.tup (k := 1) (m := 48) (n := 2) (xs := [tI w.1, .int w.2]) (fun y hy => by
      have : y = tI w.1 ∨ y = .int w.2 := by simpa using hy
      rcases this with rfl | rfl
      · exact t1
      · exact t2) (by simp)) (by rw [List.length_map]; exact h.len)
  exact this.mono (by omega) (by omega)
open K31 in
theorem rp_paper {R : List (List Int)} {p : List Int} (hl : R.length ≤ 64) (h : PaperOk R p) : Rp 1 24 (tI p) := by
  cases h with
  | two i j h1 h2 _ =>
    refine Rp.tI (n := 3) (fun x hx => ?_) (by simp)
    have : x = i ∨ x = j := by simpa using hx
    omega
  | three a b c h1 h2 h3 _ =>
    refine Rp.tI (n := 3) (fun x hx => ?_) (by simp)
    have : x = a ∨ x = b ∨ x = c := by simpa using hx
    omega
open K31 in
theorem rp_tR {n : Nat} {R : List (List Int)} (h6 : n ≤ 6) (h : ∀ r ∈ R, IsRun n r) (hl : R.length ≤ 64) : Rp 2 4000 (.tuple (tR R)) := by
  have := Rp.tup (k := 1) (m := 48) (n := 64) (xs := tR R) (fun x hx => by
    obtain ⟨r, hr, rfl⟩ := List.mem_map.mp hx
    have q := h r hr
    exact Rp.tI (fun i hi => by have := q.pm i hi; omega) (by rw [q.len]; exact h6)) (by unfold tR; rw [List.length_map]; exact hl)
  exact this.mono (by omega) (by omega)
theorem rp_two {k m : Nat} {a b : PyData} (h1 : Rp k m a) (h2 : Rp k m b) : Rp (k + 1) (2 * (m + 1)) (.list [a, b]) :=
  Rp.list (fun x hx => by
    have : x = a ∨ x = b := by simpa using hx
    rcases this with rfl | rfl
    · exact h1
    · exact h2) (by simp)
/-! ### defs that run where no repr runs -/
structure OkG (P : Program) (w : World) (K : Fr) (mg : Str → Option Value) (base : Heap) (k : Nat) (x : Str) (ps : List Str) (sp : Sp) : Prop where
  ex : ∃ fa fd, FnG P w K mg base k fa fd ps sp ∧ mg x = some (.ref fa) ∧ PySem.W.keepIn K (.ref fa) = true ∧ Binds K fd ps [] ∧ ∃ oc od osl, K.lookup fa = some ⟨oc, od, .func fd, osl⟩
theorem OkG.mk' {P : Program} {w : World} {K : Fr} {mg : Str → Option Value} {base : Heap} {k : Nat} {x : Str} {ps N : List Str} {st : Stmt} {sp : Sp} (A : FAt K mg x st ps) (S : FnScope N ps (defScope st)) (len : ∀ vs H Q E, sp vs H Q E → vs.length = ps.length)
    (body : ∀ (f : Addr) (cdv : Value) (A : Around) (outer : List Env) (s : Shared) (H : Hp) (vs : List V) (Q : VK) (E : XK), A.guards = some [] → Room k (A.deeper (envOfC x (defScope st) s.heap.objs.size f cdv)) → sp vs H Q E →
      ∃ t, PSs (cxOf CX0 P w K mg base N x (defScope st) f cdv A outer s H E).nox (defBody st) t ∧ t { nx := fun _ H' => Q .non H', rt := Q } (start N vs) H) : OkG P w K mg base (k + 1) x ps sp := by
  obtain ⟨fa, fd, F, hm, hb⟩ := A.ex
  obtain ⟨oc, od, _, _, _, _, _, _, osl, _, lk, _⟩ := F.ex
  exact ⟨fa, fd, K31W.Fun.okG F S len fun cdv A outer s H vs Q E gA hr h => body fa cdv A outer s H vs Q E gA hr h, hm, F.kp, hb, oc, od, osl, lk⟩
theorem pe_okG {X : Cx} {k : Nat} {x : Str} {ps : List Str} {sp : Sp} {p pos : Pos} {e : Expr} {es : List Expr} {t : TA} (F : OkG X.prog X.w X.K X.mg X.base k x ps sp) (gA : X.A.guards = some []) (hr : Room k X.A) (hg : Gl X x) (ha : PA X (e :: es) t) (hdb : (x == ("__debug__" : Str)) = false := by decide)
    (he : starEach (e :: es) X.env = (false, eval e X.env) :: starEach es X.env := by rfl) (hpl : (backTo pos (starEach es X.env)).any (·.1) = false := by rfl) : PE X (.Call (.Name x p) (e :: es) [] pos) (tCall sp [] L2.E0 t) := by
  obtain ⟨fa, fd, F, hm, hk, hb, _⟩ := F.ex
  exact pe_callG F gA hr hg hm hk hb ha hdb he hpl
/-- the law's check of one plan; the law -/
def sp__law_right (K : Fr) : Sp := fun vs H Q _ => ∃ q, vs = [.ref q] ∧ Well H q ∧ ∀ H', ButW q H H' → Q (.bl true) H'
def sp_law (K : Fr) : Sp := fun vs H Q _ => ∃ (a : Addr) (ns : List Int), vs = [.ref a] ∧ SqL K H a (ns.map V.int) ∧ ns.length ≤ 63 ∧ ∀ H', Q (.bl true) H'
end K31W
set_option Elab.async false
set_option linter.all false
set_option maxRecDepth 100000
set_option maxHeartbeats 4000000
/-! printed by wip/gen.py: the walks of the law's two defs that run where no repr runs. -/
namespace K31W
open PySem PySem.Spec PyProof.Rows L2
variable {P : Program} {w : World} {K : Fr} {mg : Str → Option Value} {base : Heap} {aN : Addr} {A : Around} {outer : List Env} {s : Shared} {H : Hp} {E : XK} {f : Addr} {cdv : Value}
def T__law_right (K : Fr) (aN : Addr) : TS := (tSeq (tAsg (tCall (sp__law_plan K) [] L2.E0 (tCons (tVar 0) tNil)) (gName 1))
  (tSeq (tPar 2 3 (tCons (tCB (rLen K) (tCons (tOp (rIxT K) (tVar 1) (tC (.int 0))) tNil)) (tCons (tCall (sp__law_is_closed K) [] L2.E0 (tCons (tVar 1) tNil)) tNil)))
  (tSeq (tPar 4 5 (tCons (tCall (sp_words_of K) [] L2.E0 (tCons (tVar 1) tNil)) (tCons (tCall (sp_missing K) [] L2.E0 (tCons (tVar 1) tNil)) tNil)))
  (tSeq (tIfS (tTest (tOp rNe (tCB (rRepr K) (tCons (tLst (tCons (tCallK (sp_words_of K) app2 L2.E0 tNil (tCons (tVar 1) tNil)) (tCons (tCallK (sp_missing K) app2 L2.E0 tNil (tCons (tVar 1) tNil)) tNil))) tNil)) (tCB (rRepr K) (tCons (tLst (tCons (tVar 4) (tCons (tVar 5) tNil))) tNil)))) (tRet (tC (.bl false))) tNext)
  (tSeq (tIfS (tNot (tB (tVar 3))) (tRet (tAndV (tOp (fun x y H Q => y = .non ∧ Q (.bl (decide (x = .non))) H) (tVar 4) (tC .non)) (tCall (sp__law_is_missing K) [] L2.E0 (tCons (tVar 1) (tCons (tVar 5) tNil))))) tNext)
  (tSeq (tIfS (tOr (tTest (tOp (fun x y H Q => y = .non ∧ Q (.bl (!decide (x = .non))) H) (tVar 5) (tC .non))) (tTest (tOp (rNeD K) (tCall (sp__law_words_fault K) [] L2.E0 (tCons (tVar 4) (tCons (tVar 2) tNil))) (tLst tNil)))) (tRet (tC (.bl false))) tNext)
  (tSeq (tAsg (tCB (rTupOf K) (tCons (tCB (rSrtT K) (tCons (tVar 1) tNil)) tNil)) (gName 6))
  (tRet (tAndV (tOp (rEqD K) (tCall (sp__law_fitting K) [] L2.E0 (tCons (tVar 2) (tCons (tVar 4) tNil))) (tVar 6)) (tOp rEq (tCB (rRepr K) (tCons (tCall (sp_piece K) [] L2.E0 (tCons (tVar 2) (tCons (tVar 4) tNil))) tNil)) (tCB (rRepr K) (tCons (tVar 6) tNil))))))))))))
theorem w__law_right (T : Txt K mg aN) (F__law_fitting : Ok P w K mg base 2 "_law_fitting" p__law_fitting (sp__law_fitting K)) (F__law_is_closed : Ok P w K mg base 3 "_law_is_closed" p__law_is_closed (sp__law_is_closed K)) (F__law_is_missing : Ok P w K mg base 5 "_law_is_missing" p__law_is_missing (sp__law_is_missing K)) (F__law_plan : Ok P w K mg base 5 "_law_plan" p__law_plan (sp__law_plan K)) (F__law_words_fault : Ok P w K mg base 5 "_law_words_fault" p__law_words_fault (sp__law_words_fault K)) (F_missing : Ok P w K mg base 6 "missing" p_missing (sp_missing K)) (F_piece : Ok P w K mg base 8 "piece" p_piece (sp_piece K)) (F_words_of : Ok P w K mg base 6 "words_of" p_words_of (sp_words_of K)) (A_words_of : KAt K mg "words_of") (A_missing : KAt K mg "missing") (gA : A.guards = some []) (hr : Room 8 (A.deeper (envOfC "_law_right" (defScope s__law_right) s.heap.objs.size f cdv))) :
    PSs (cxOf CX0 P w K mg base N__law_right "_law_right" (defScope s__law_right) f cdv A outer s H E).nox (defBody s__law_right) (T__law_right K aN) := by
  have nd := sc__law_right.nd
  unfold T__law_right
  exact (pss_cons (ps_set (i := 1) nd rfl (Or.inl rfl) (pe_ok F__law_plan (hr.mono (by decide)) rfl (pa_cons (pv 0) pa_nil)))
  (pss_cons (ps_par (i := 2) (j := 3) rfl nd rfl rfl (by decide) rfl rfl (pa_cons (pe_callB call_len_seq rfl T.z_len (by decide +kernel) (pa_cons (pe_ix ix_tup (pv 1) pe_int (fun _ _ => rfl)) pa_nil)) (pa_cons (pe_ok F__law_is_closed (hr.mono (by decide)) rfl (pa_cons (pv 1) pa_nil)) pa_nil)) (by rfl))
  (pss_cons (ps_par (i := 4) (j := 5) rfl nd rfl rfl (by decide) rfl rfl (pa_cons (pe_ok F_words_of (hr.mono (by decide)) rfl (pa_cons (pv 1) pa_nil)) (pa_cons (pe_ok F_missing (hr.mono (by decide)) rfl (pa_cons (pv 1) pa_nil)) pa_nil)) (by rfl))
  (pss_cons (ps_if (pt_cmpR op_ne (pe_callB (cr_repr gA (hu64 hr)) rfl T.z_repr (by decide +kernel) (pa_cons (pe_lst (pa_cons (pe_okK F_words_of A_words_of (hr.mono (by decide)) rfl (pk_cons (pv 1) pk_nil)) (pa_cons (pe_okK F_missing A_missing (hr.mono (by decide)) rfl (pk_cons (pv 1) pk_nil)) pa_nil))) pa_nil)) (pe_callB (cr_repr gA (hu64 hr)) rfl T.z_repr (by decide +kernel) (pa_cons (pe_lst (pa_cons (pv 4) (pa_cons (pv 5) pa_nil))) pa_nil)) (nomark _)) (pss_one (ps_ret pe_bl)) pss_nil)
  (pss_cons (ps_if (pt_not (pt_val (pv 3))) (pss_one (ps_ret (pe_and (pe_cmpR op_isN (pv 4) pe_non (nomark _)) (pe_one (pe_ok F__law_is_missing (hr.mono (by decide)) rfl (pa_cons (pv 1) (pa_cons (pv 5) pa_nil))))))) pss_nil)
  (pss_cons (ps_if (PW.pt (pw_or (pt_cmpR op_notN (pv 5) pe_non (nomark _)) (pw_or1 (pt_cmpR (op_neD (hu64 hr)) (pe_ok F__law_words_fault (hr.mono (by decide)) rfl (pa_cons (pv 4) (pa_cons (pv 2) pa_nil))) (pe_lst pa_nil) (nomark _))))) (pss_one (ps_ret pe_bl)) pss_nil)
  (pss_cons (ps_set (i := 6) nd rfl (Or.inl rfl) (pe_callTy call_tuple_of rfl T.z_tuple (by decide +kernel) (pa_cons (pe_callB (cr_srtT (hu2 hr)) rfl T.z_sorted (by decide +kernel) (pa_cons (pv 1) pa_nil)) pa_nil)))
  (pss_one (ps_ret (pe_and (pe_cmpR (op_eqD (hu64 hr)) (pe_ok F__law_fitting (hr.mono (by decide)) rfl (pa_cons (pv 2) (pa_cons (pv 4) pa_nil))) (pv 6) (nomark _)) (pe_one (pe_cmpR op_eq (pe_callB (cr_repr gA (hu64 hr)) rfl T.z_repr (by decide +kernel) (pa_cons (pe_ok F_piece (hr.mono (by decide)) rfl (pa_cons (pv 2) (pa_cons (pv 4) pa_nil))) pa_nil)) (pe_callB (cr_repr gA (hu64 hr)) rfl T.z_repr (by decide +kernel) (pa_cons (pv 6) pa_nil)) (nomark _)))))))))))))
def T_law (K : Fr) (aN : Addr) : TS := (tRet (tCB (rAll K) (tCons (tLc (iRng1 (tCons (tCB (rMax2) (tCons (tC (.int 2)) (tCons (tCB (rMin2) (tCons (tCB (rLen K) (tCons (tVar 0) tNil)) (tCons (tC (.int 4)) tNil))) tNil))) tNil)) (gName 1) tYes (tCall (sp__law_right K) [] L2.E0 (tCons (tCall (sp__law_well K) [] L2.E0 (tCons (tVar 0) (tCons (tVar 1) tNil))) tNil)) [1]) tNil)))
theorem w_law (T : Txt K mg aN) (F__law_well : Ok P w K mg base 1 "_law_well" p__law_well (sp__law_well K)) (F__law_right : OkG P w K mg base 9 "_law_right" p__law_right (sp__law_right K)) (gA : A.guards = some []) (hr : Room 9 (A.deeper (envOfC "law" (defScope s_law) s.heap.objs.size f cdv))) :
    PSs (cxOf CX0 P w K mg base N_law "law" (defScope s_law) f cdv A outer s H E).nox (defBody s_law) (T_law K aN) := by
  have nd := sc_law.nd
  unfold T_law
  exact (pss_one (ps_ret (pe_callB (cr_all rfl) rfl T.z_all (by decide +kernel) (pa_cons (pe_lc (own := [("_law_lap", 1)]) (g := (gName 1)) (tt := tYes) (te := (tCall (sp__law_right K) [] L2.E0 (tCons (tCall (sp__law_well K) [] L2.E0 (tCons (tVar 0) (tCons (tVar 1) tNil))) tNil))) rfl nd (pi_range1 rfl T.z_range (pa_cons (pe_callB (call_max2 rfl) rfl T.z_max (by decide +kernel) (pa_cons pe_int (pa_cons (pe_callB (call_min2 rfl) rfl T.z_min (by decide +kernel) (pa_cons (pe_callB call_len_seq rfl T.z_len (by decide +kernel) (pa_cons (pv 0) pa_nil)) (pa_cons pe_int pa_nil))) pa_nil))) pa_nil)) (blkOk_by (N := ["_law_script", "_law_lap"]) (sc := defScope s_law) (by decide +kernel)) (fun _ _ _ _ _ => (pg_name (i := 1) nd rfl (Or.inl rfl))) (fun _ _ _ _ _ => pts_nil) (fun _ _ _ _ _ => (pe_okG F__law_right gA (hr.mono (by decide)) rfl (pa_cons (pe_ok F__law_well (hr.mono (by decide)) rfl (pa_cons (pv 0) (pa_cons (pv 1) pa_nil))) pa_nil)))) pa_nil))))
end K31W
set_option Elab.async false
set_option linter.all false
set_option maxRecDepth 100000
set_option maxHeartbeats 1000000
/-! K31SemF: the readings: the check of one plan, the law. -/
namespace K31W
open PySem PySem.Spec PyProof.Rows L2 K31
variable {P : Program} {w : World} {K : Fr} {mg : Str → Option Value} {base : Heap} {aN : Addr}
theorem sc_par {σ : L2.St} {H : Hp} {cs : List (Option PyData)} {i j : Nat} {ta : TA} {d e : PyData} {D : Ends} (c : Ctx K σ H cs) (ha : YlA K ta σ H [d, e])
    (q : ∀ σ2 H2, Same H H2 → Ctx K σ2 H2 ((cs.set i (some d)).set j (some e)) → (∀ k, k ≠ i → k ≠ j → σ2[k]? = σ[k]?) → D.nx σ2 H2) : tPar i j ta D σ H :=
  u_par (ha H (Same.refl _) _ fun H2 vs s2 hvs => by
    obtain ⟨v, u, rfl, hv, hu⟩ := two_inv hvs
    refine ⟨v, u, rfl, q _ H2 s2 (((c.same s2).set hv i).set hu j) fun k h1 h2 => ?_⟩
    rw [List.getElem?_set_ne (Ne.symm h2), List.getElem?_set_ne (Ne.symm h1)])
theorem shape_tWs' (d : PyData) (h : firm d = true) (h2 : d.depth ≤ 8) : SeqAt.shaped d = true := shape_of (lay_firm _ h) (Nat.le_trans h2 (by decide))
theorem ok__law_right (T : Txt K mg aN) (F__law_fitting : Ok P w K mg base 2 "_law_fitting" p__law_fitting (sp__law_fitting K)) (F__law_is_closed : Ok P w K mg base 3 "_law_is_closed" p__law_is_closed (sp__law_is_closed K)) (F__law_is_missing : Ok P w K mg base 5 "_law_is_missing" p__law_is_missing (sp__law_is_missing K))
    (F__law_plan : Ok P w K mg base 5 "_law_plan" p__law_plan (sp__law_plan K)) (F__law_words_fault : Ok P w K mg base 5 "_law_words_fault" p__law_words_fault (sp__law_words_fault K)) (F_missing : Ok P w K mg base 6 "missing" p_missing (sp_missing K)) (F_piece : Ok P w K mg base 8 "piece" p_piece (sp_piece K))
    (F_words_of : Ok P w K mg base 6 "words_of" p_words_of (sp_words_of K)) : OkG P w K mg base 9 "_law_right" p__law_right (sp__law_right K) := by
  refine OkG.mk' T.f__law_right sc__law_right (fun vs H Q E h => ?_) fun f cdv A outer s H0 vs Q E gA hr h => ⟨_, w__law_right T F__law_fitting F__law_is_closed F__law_is_missing F__law_plan F__law_words_fault F_missing F_piece F_words_of
    (kat_of T.f_words_of fun _ _ _ _ _ _ _ => ⟨rfl, rfl⟩) (kat_of T.f_missing fun _ _ _ _ _ _ _ => ⟨rfl, rfl⟩) gA hr, ?_⟩
  · obtain ⟨q, rfl, _⟩ := h
    rfl
  · obtain ⟨p, rfl, hw, ret⟩ := h
    have c0 : CW K p (start N__law_right [.ref p]) H0 [none, none, none, none, none, none, none] := ⟨ctx_cons (ctx_start (ds := []) (vs := []) (n := 6) .nil), fun d hd => by simp at hd, rfl, hw⟩
    generalize start N__law_right [V.ref p] = σ at c0
    have hlen : σ.length = 7 := c0.c.len
    refine u_seq (u_asg (u_call (u_cons (u_var c0.s0 (u_nil ?_)))))
    refine ⟨p, rfl, hw, fun H1 a n R b1 pl hp hd => ?_⟩
    have c1 : Ctx K (σ.set 1 (some (.ref a))) H1 [none, some (.tuple (tR R)), none, none, none, none, none] := (c0.but b1).c.set hd 1
    have a1 : (σ.set 1 (some (V.ref a)))[1]? = some (some (.ref a)) := List.getElem?_set_self (by omega)
    have fin : ∀ H', Same H1 H' → Q (.bl true) H' := fun H' sm => ret H' (b1.same sm)
    dsimp only [gName]
    generalize σ.set 1 (some (V.ref a)) = σ1 at c1 a1
    refine u_seq (sc_par c1 (yla_cons (yl_few hp (yl_v c1 rfl)) (yla_one (yl_call (yla_one (yl_v c1 rfl)) ⟨n, R, hp, rfl, rfl⟩))) fun σ2 H2 s2 c2 k2 => ?_)
    have a2 := (k2 1 (by decide) (by decide)).trans a1
    have pl2 := pl.same s2
    dsimp only
    have yW : ∀ {σ H cs}, Ctx K σ H cs → cs[1]? = some (some (.tuple (tR R))) → Yl K (tCall (sp_words_of K) [] L2.E0 (tCons (tVar 1) tNil)) σ H (optW (wordsOf n R)) := fun c e => yl_call (yla_one (yl_v c e)) ⟨n, R, hp, rfl, rfl⟩
    refine u_seq (sc_par c2 (yla_cons (yW c2 rfl) (yla_one (yl_callP c2 rfl a2 pl2 ⟨n, R, hp, rfl, rfl⟩))) fun σ3 H3 s3 c3 k3 => ?_)
    have a3 := (k3 1 (by decide) (by decide)).trans a2
    have pl3 := pl2.same s3
    dsimp only
    have sen := sentence hp.h1 hp.h6 hp.hR hp.hne
    have wok := fixed_ok hp
    have s13 := s2.trans s3
    -- the repr of the two answers
    have rp : Rp 4 4000 (.list [optW (wordsOf n R), optP (K31.missing R)]) := by
      have h1 : Rp 3 1000 (optW (wordsOf n R)) := by
        unfold K31.wordsOf
        split
        · exact rp_tWs hp.h6 wok
        · exact Rp.none.mono (by omega) (by omega)
      have h2 : Rp 3 1000 (optP (K31.missing R)) := by
        cases hb : isClosed n R with
        | true =>
          rw [(sen.1 hb).2.1]
          exact Rp.none.mono (by omega) (by omega)
        | false =>
          obtain ⟨_, q, e, hq⟩ := sen.2 hb
          rw [e]
          exact (rp_paper hp.hl hq).mono (by omega) (by omega)
      exact (rp_two h1 h2).mono (by omega) (by omega)
    refine u_seq (sc_if (b := false) c3 (yt_test (yl_neS (yl_repr (yn_lst (yla_cons (yl_callK (yla_one (yl_v c3 rfl)) ⟨n, R, hp, rfl, rfl⟩) (yla_one (yl_callKP c3 rfl a3 pl3 ⟨n, R, hp, rfl, rfl⟩))) (small (by simp))).yl rp ref_list (by omega) (by omega))
      (yl_repr (yn_lst (yla_cons (yl_v c3 rfl) (yla_one (yl_v c3 rfl))) (small (by simp))).yl rp ref_list (by omega) (by omega)))) (fun e => nomatch e) fun _ H4 s4 c4 => ?_)
    dsimp only [tNext]
    refine u_seq (sc_if (b := !isClosed n R) c4 (yt_not (yt_b (yl_v c4 rfl))) (fun hb H5 s5 c5 => ?_) fun hb H5 s5 c5 => ?_)
    · have hb : isClosed n R = false := by simpa using hb
      obtain ⟨e1, q, e2, hq⟩ := sen.2 hb
      rw [e1, e2] at c5
      refine st_ret (yl_and (b := true) (c := true) (yl_isN (yl_v (d := .none) c5 rfl) rfl) fun _ => yl_call (yla_cons (yl_v c5 rfl) (yla_one (yl_v (d := tI q) c5 rfl))) ⟨n, R, q, hp, hq, rfl, rfl⟩) fun H6 x s6 hx => ?_
      cases bl_inv hx
      exact fin _ (s13.trans (s4.trans (s5.trans s6)))
    · have hb : isClosed n R = true := by simpa using hb
      obtain ⟨e1, e2, _, e3⟩ := sen.1 hb
      rw [e1, e2] at c5
      have hW := wrds_of hp.h1 hp.h6 wok
      dsimp only [tNext]
      refine u_seq (sc_if (b := false) c5 ((yt_or (b := false) (c := false) (yt_test ((yl_notN (n := true) (yl_v (d := .none) c5 rfl) rfl).eq rfl)) fun _ => yt_test ((yl_ne (b := true) (yl_call (yla_cons (yl_v (d := tWs (fixedW n R)) c5 rfl) (yla_one (yl_v c5 rfl))) ⟨n, fixedW n R, hp.h6, wok, rfl, rfl⟩) (yn_lst yla_nil (by decide)).yl (shape_lR []) (shape_lR []) eqv_nil).eq rfl))) (fun e => nomatch e) fun _ H6 s6 c6 => ?_)
      dsimp only [tNext]
      refine u_seq (sc_set c6 (yl_tupOf (yn_sortR (R := R) (yl_v c6 rfl) (.inl rfl) (.inl (plan_ne hp))).yl) fun σ7 H7 s7 c7 => ?_)
      dsimp only
      have eF : fitL n (fixedW n R) = isort K31.lexLt R := by rw [fitL_eq hp.h1 hp.h6, e3]
      have rD : Rp 2 4000 (.tuple (tR (isort K31.lexLt R))) := rp_tR hp.h6 (fun r hr => hp.hR r ((isort_perm R).mem_iff.mp hr)) (by rw [(isort_perm R).length_eq]; exact hp.hl)
      refine st_ret (yl_and (b := true) (c := true) (yl_eq (yl_call (yla_cons (yl_v c7 rfl) (yla_one (yl_v (d := tWs (fixedW n R)) c7 rfl))) ⟨n, fixedW n R, hW, rfl, rfl⟩) (yl_v c7 rfl) (shape_tR _) (shape_tR _) (by rw [eqv_tR, eF, decide_eq_true rfl]))
        fun _ => yl_eqS (yl_repr ((yl_call (yla_cons (yl_v c7 rfl) (yla_one (yl_v (d := tWs (fixedW n R)) c7 rfl))) ⟨n, fixedW n R, hp.h1, hp.h6, wok, rfl, rfl⟩).eq (by rw [e3])) rD ref_tup (by omega) (by omega)) (yl_repr (yl_v c7 rfl) rD ref_tup (by omega) (by omega))) fun H8 x s8 hx => ?_
      cases bl_inv hx
      exact fin _ (s13.trans (s4.trans (s5.trans (s6.trans (s7.trans s8)))))
theorem ok_law (T : Txt K mg aN) (F__law_well : Ok P w K mg base 1 "_law_well" p__law_well (sp__law_well K)) (F__law_right : OkG P w K mg base 9 "_law_right" p__law_right (sp__law_right K)) (A : FAt K mg "law" s_law p_law) : OkG P w K mg base 10 "law" p_law (sp_law K) := by
  refine OkG.mk' A sc_law (fun vs H Q E h => ?_) fun f cdv A outer s H0 vs Q E gA hr h => ⟨_, w_law T F__law_well F__law_right gA hr, ?_⟩
  · obtain ⟨a, ns, rfl, _⟩ := h
    rfl
  · obtain ⟨a, ns, rfl, hs, hl, ret⟩ := h
    have c0 : Ctx K (start N_law [.ref a]) H0 [some (.list (ns.map .int)), none] := ctx_start (ds := [.list (ns.map .int)]) (.cons (.lst hs (dps_ints ns)) .nil)
    generalize start N_law [V.ref a] = σ at c0
    have yR : Yl K (tCB (rMax2) (tCons (tC (.int 2)) (tCons (tCB (rMin2) (tCons (tCB (rLen K) (tCons (tVar 0) tNil)) (tCons (tC (.int 4)) tNil))) tNil))) σ H0 (.int ((max 2 (min ns.length 4) : Nat) : Int)) := by
      have y1 : Yl K (tCB (rMin2) (tCons (tCB (rLen K) (tCons (tVar 0) tNil)) (tCons (tC (.int 4)) tNil))) σ H0 (.int ((min ns.length 4 : Nat) : Int)) :=
        yl_cb (yla_cons (yl_len (n := ns.length) (yl_v c0 rfl) ⟨.inr rfl, by rw [List.length_map]⟩) (yla_one (yl_int 4))) fun H2 vs s2 hvs Q q => by
          obtain ⟨x, y, rfl, hx, hy⟩ := two_inv hvs
          cases int_inv hx
          cases int_inv hy
          refine ⟨(ns.length : Nat), 4, rfl, ?_⟩
          rw [show (if (4 : Int) < (ns.length : Nat) then (4 : Int) else (ns.length : Nat)) = ((min ns.length 4 : Nat) : Int) by split <;> omega]
          exact q H2 _ (Same.refl _) (.int _)
      refine yl_cb (yla_cons (yl_int 2) (yla_one y1)) fun H2 vs s2 hvs Q q => ?_
      obtain ⟨x, y, rfl, hx, hy⟩ := two_inv hvs
      cases int_inv hx
      cases int_inv hy
      refine ⟨2, _, rfl, ?_⟩
      rw [show (if ((min ns.length 4 : Nat) : Int) > 2 then ((min ns.length 4 : Nat) : Int) else 2) = ((max 2 (min ns.length 4) : Nat) : Int) by split <;> omega]
      exact q H2 _ (Same.refl _) (.int _)
    generalize hm : max 2 (min ns.length 4) = m at yR
    have hm4 : m ≤ 4 := by omega
    refine st_ret (yl_all (bs := (rng m).map fun _ => true) ((yc_map c0 (rng m) PyData.int (fun _ => .bool true) (yi_range yR (by omega)) (by unfold rng; simp; omega) gw1 (fun _ => firm_bl _) fun i hi => ⟨_, rfl, fun σ2 H1 s1 c1 => ?_⟩).yl.eq (by rw [List.map_map]; rfl))) fun H2 x s2 hx => ?_
    · intro H2 s2 Q q
      have lo := (mem_rng.mp hi).1
      have hh := (mem_rng.mp hi).2
      obtain ⟨v0, g0, h0⟩ := c1.at_ 0 _ rfl
      obtain ⟨v1, g1, h1⟩ := c1.at_ 1 _ rfl
      obtain ⟨a', ys, rfl, hs', hd'⟩ := lst_inv h0
      cases int_inv h1
      have ey := dps_ints_inv hd'
      subst ey
      refine u_call (u_cons (u_call (u_cons (u_var g0 (u_cons (u_var g1 (u_nil ?_)))))))
      refine ⟨a', ns, i.toNat, by rw [Int.toNat_of_nonneg lo]; rfl, s2.seq hs', by omega, fun H3 p s3 hn hw => u_nil ⟨p, rfl, hw, fun H4 b => ?_⟩⟩
      exact q H4 _ (fun b0 o e => b.1.2 b0 o (s3 b0 o e) fun z => by rw [z, hn] at e; cases e) (.bl _)
    · cases bl_inv hx
      have : (((rng m).map fun _ => true).all id) = true := by simp
      rw [this]
      exact ret H2
end K31W
set_option Elab.async false
set_option linter.all false
set_option maxRecDepth 100000
set_option maxHeartbeats 1000000
/-! printed by wip/genfin.py: what the top has written; all defs in turn. -/
namespace K31W
open PySem PySem.Spec PyProof.Rows L2
section
variable {K : Fr} {h : Heap} {mg : Str → Option Value} {fa : Addr} {oc kV dc pm cd ct : Value} {od an : Option Addr} {sl : Array (Option Value)}
theorem fat_is_whole (X : K.In h) (G : h.Ns mainGlobals mg) (a : PySem.W.nsIn K mainGlobals "is_whole" = some (some (.ref fa))) (l : K.lookup fa = some ⟨oc, od, .func (PySem.W.fnOf "is_whole" "is_whole" (defArgs s_is_whole) (defBody s_is_whole) (defScope s_is_whole) .none kV dc pm an cd ct), sl⟩) (c : PySem.W.codeIn K cd "is_whole" = true) (k : PySem.W.keepIn K (.ref fa) = true) : FAt K mg "is_whole" s_is_whole p_is_whole :=
  ⟨fa, _, fun_mk l c k, PySem.W.mg_of X G a, (fun_mk l c k).binds fun _ _ _ _ _ _ us hl => match us, hl with | [_], _ => rfl⟩
theorem fat_is_between (X : K.In h) (G : h.Ns mainGlobals mg) (a : PySem.W.nsIn K mainGlobals "is_between" = some (some (.ref fa))) (l : K.lookup fa = some ⟨oc, od, .func (PySem.W.fnOf "is_between" "is_between" (defArgs s_is_between) (defBody s_is_between) (defScope s_is_between) .none kV dc pm an cd ct), sl⟩) (c : PySem.W.codeIn K cd "is_between" = true) (k : PySem.W.keepIn K (.ref fa) = true) : FAt K mg "is_between" s_is_between p_is_between :=
  ⟨fa, _, fun_mk l c k, PySem.W.mg_of X G a, (fun_mk l c k).binds fun _ _ _ _ _ _ us hl => match us, hl with | [_, _, _], _ => rfl⟩
theorem fat_is_tuple_of (X : K.In h) (G : h.Ns mainGlobals mg) (a : PySem.W.nsIn K mainGlobals "is_tuple_of" = some (some (.ref fa))) (l : K.lookup fa = some ⟨oc, od, .func (PySem.W.fnOf "is_tuple_of" "is_tuple_of" (defArgs s_is_tuple_of) (defBody s_is_tuple_of) (defScope s_is_tuple_of) .none kV dc pm an cd ct), sl⟩) (c : PySem.W.codeIn K cd "is_tuple_of" = true) (k : PySem.W.keepIn K (.ref fa) = true) : FAt K mg "is_tuple_of" s_is_tuple_of p_is_tuple_of :=
  ⟨fa, _, fun_mk l c k, PySem.W.mg_of X G a, (fun_mk l c k).binds fun _ _ _ _ _ _ us hl => match us, hl with | [_, _], _ => rfl⟩
theorem fat_check_many (X : K.In h) (G : h.Ns mainGlobals mg) (a : PySem.W.nsIn K mainGlobals "check_many" = some (some (.ref fa))) (l : K.lookup fa = some ⟨oc, od, .func (PySem.W.fnOf "check_many" "check_many" (defArgs s_check_many) (defBody s_check_many) (defScope s_check_many) .none kV dc pm an cd ct), sl⟩) (c : PySem.W.codeIn K cd "check_many" = true) (k : PySem.W.keepIn K (.ref fa) = true) : FAt K mg "check_many" s_check_many p_check_many :=
  ⟨fa, _, fun_mk l c k, PySem.W.mg_of X G a, (fun_mk l c k).binds fun _ _ _ _ _ _ us hl => match us, hl with | [_, _, _], _ => rfl⟩
theorem fat_is_sign (X : K.In h) (G : h.Ns mainGlobals mg) (a : PySem.W.nsIn K mainGlobals "is_sign" = some (some (.ref fa))) (l : K.lookup fa = some ⟨oc, od, .func (PySem.W.fnOf "is_sign" "is_sign" (defArgs s_is_sign) (defBody s_is_sign) (defScope s_is_sign) .none kV dc pm an cd ct), sl⟩) (c : PySem.W.codeIn K cd "is_sign" = true) (k : PySem.W.keepIn K (.ref fa) = true) : FAt K mg "is_sign" s_is_sign p_is_sign :=
  ⟨fa, _, fun_mk l c k, PySem.W.mg_of X G a, (fun_mk l c k).binds fun _ _ _ _ _ _ us hl => match us, hl with | [_], _ => rfl⟩
theorem fat_is_run_by (X : K.In h) (G : h.Ns mainGlobals mg) (a : PySem.W.nsIn K mainGlobals "is_run_by" = some (some (.ref fa))) (l : K.lookup fa = some ⟨oc, od, .func (PySem.W.fnOf "is_run_by" "is_run_by" (defArgs s_is_run_by) (defBody s_is_run_by) (defScope s_is_run_by) .none kV dc pm an cd ct), sl⟩) (c : PySem.W.codeIn K cd "is_run_by" = true) (k : PySem.W.keepIn K (.ref fa) = true) : FAt K mg "is_run_by" s_is_run_by p_is_run_by :=
  ⟨fa, _, fun_mk l c k, PySem.W.mg_of X G a, (fun_mk l c k).binds fun _ _ _ _ _ _ us hl => match us, hl with | [_], _ => rfl⟩
theorem fat_wrong_in_effect (X : K.In h) (G : h.Ns mainGlobals mg) (a : PySem.W.nsIn K mainGlobals "wrong_in_effect" = some (some (.ref fa))) (l : K.lookup fa = some ⟨oc, od, .func (PySem.W.fnOf "wrong_in_effect" "wrong_in_effect" (defArgs s_wrong_in_effect) (defBody s_wrong_in_effect) (defScope s_wrong_in_effect) .none kV dc pm an cd ct), sl⟩) (c : PySem.W.codeIn K cd "wrong_in_effect" = true) (k : PySem.W.keepIn K (.ref fa) = true) : FAt K mg "wrong_in_effect" s_wrong_in_effect p_wrong_in_effect :=
  ⟨fa, _, fun_mk l c k, PySem.W.mg_of X G a, (fun_mk l c k).binds fun _ _ _ _ _ _ us hl => match us, hl with | [_, _], _ => rfl⟩
theorem fat_is_effect_by (X : K.In h) (G : h.Ns mainGlobals mg) (a : PySem.W.nsIn K mainGlobals "is_effect_by" = some (some (.ref fa))) (l : K.lookup fa = some ⟨oc, od, .func (PySem.W.fnOf "is_effect_by" "is_effect_by" (defArgs s_is_effect_by) (defBody s_is_effect_by) (defScope s_is_effect_by) .none kV dc pm an cd ct), sl⟩) (c : PySem.W.codeIn K cd "is_effect_by" = true) (k : PySem.W.keepIn K (.ref fa) = true) : FAt K mg "is_effect_by" s_is_effect_by p_is_effect_by :=
  ⟨fa, _, fun_mk l c k, PySem.W.mg_of X G a, (fun_mk l c k).binds fun _ _ _ _ _ _ us hl => match us, hl with | [_, _], _ => rfl⟩
theorem fat_is_word_by (X : K.In h) (G : h.Ns mainGlobals mg) (a : PySem.W.nsIn K mainGlobals "is_word_by" = some (some (.ref fa))) (l : K.lookup fa = some ⟨oc, od, .func (PySem.W.fnOf "is_word_by" "is_word_by" (defArgs s_is_word_by) (defBody s_is_word_by) (defScope s_is_word_by) .none kV dc pm an cd ct), sl⟩) (c : PySem.W.codeIn K cd "is_word_by" = true) (k : PySem.W.keepIn K (.ref fa) = true) : FAt K mg "is_word_by" s_is_word_by p_is_word_by :=
  ⟨fa, _, fun_mk l c k, PySem.W.mg_of X G a, (fun_mk l c k).binds fun _ _ _ _ _ _ us hl => match us, hl with | [_, _], _ => rfl⟩
theorem fat_wrong_in_words (X : K.In h) (G : h.Ns mainGlobals mg) (a : PySem.W.nsIn K mainGlobals "wrong_in_words" = some (some (.ref fa))) (l : K.lookup fa = some ⟨oc, od, .func (PySem.W.fnOf "wrong_in_words" "wrong_in_words" (defArgs s_wrong_in_words) (defBody s_wrong_in_words) (defScope s_wrong_in_words) .none kV dc pm an cd ct), sl⟩) (c : PySem.W.codeIn K cd "wrong_in_words" = true) (k : PySem.W.keepIn K (.ref fa) = true) : FAt K mg "wrong_in_words" s_wrong_in_words p_wrong_in_words :=
  ⟨fa, _, fun_mk l c k, PySem.W.mg_of X G a, (fun_mk l c k).binds fun _ _ _ _ _ _ us hl => match us, hl with | [_, _], _ => rfl⟩
theorem fat_sign_in (X : K.In h) (G : h.Ns mainGlobals mg) (a : PySem.W.nsIn K mainGlobals "sign_in" = some (some (.ref fa))) (l : K.lookup fa = some ⟨oc, od, .func (PySem.W.fnOf "sign_in" "sign_in" (defArgs s_sign_in) (defBody s_sign_in) (defScope s_sign_in) .none kV dc pm an cd ct), sl⟩) (c : PySem.W.codeIn K cd "sign_in" = true) (k : PySem.W.keepIn K (.ref fa) = true) : FAt K mg "sign_in" s_sign_in p_sign_in :=
  ⟨fa, _, fun_mk l c k, PySem.W.mg_of X G a, (fun_mk l c k).binds fun _ _ _ _ _ _ us hl => match us, hl with | [_, _], _ => rfl⟩
theorem fat_odd_by (X : K.In h) (G : h.Ns mainGlobals mg) (a : PySem.W.nsIn K mainGlobals "odd_by" = some (some (.ref fa))) (l : K.lookup fa = some ⟨oc, od, .func (PySem.W.fnOf "odd_by" "odd_by" (defArgs s_odd_by) (defBody s_odd_by) (defScope s_odd_by) .none kV dc pm an cd ct), sl⟩) (c : PySem.W.codeIn K cd "odd_by" = true) (k : PySem.W.keepIn K (.ref fa) = true) : FAt K mg "odd_by" s_odd_by p_odd_by :=
  ⟨fa, _, fun_mk l c k, PySem.W.mg_of X G a, (fun_mk l c k).binds fun _ _ _ _ _ _ us hl => match us, hl with | [_, _], _ => rfl⟩
theorem fat_choices_of (X : K.In h) (G : h.Ns mainGlobals mg) (a : PySem.W.nsIn K mainGlobals "choices_of" = some (some (.ref fa))) (l : K.lookup fa = some ⟨oc, od, .func (PySem.W.fnOf "choices_of" "choices_of" (defArgs s_choices_of) (defBody s_choices_of) (defScope s_choices_of) .none kV dc pm an cd ct), sl⟩) (c : PySem.W.codeIn K cd "choices_of" = true) (k : PySem.W.keepIn K (.ref fa) = true) : FAt K mg "choices_of" s_choices_of p_choices_of :=
  ⟨fa, _, fun_mk l c k, PySem.W.mg_of X G a, (fun_mk l c k).binds fun _ _ _ _ _ _ us hl => match us, hl with | [_], _ => rfl⟩
theorem fat_all_runs (X : K.In h) (G : h.Ns mainGlobals mg) (a : PySem.W.nsIn K mainGlobals "all_runs" = some (some (.ref fa))) (l : K.lookup fa = some ⟨oc, od, .func (PySem.W.fnOf "all_runs" "all_runs" (defArgs s_all_runs) (defBody s_all_runs) (defScope s_all_runs) .none kV dc pm an cd ct), sl⟩) (c : PySem.W.codeIn K cd "all_runs" = true) (k : PySem.W.keepIn K (.ref fa) = true) : FAt K mg "all_runs" s_all_runs p_all_runs :=
  ⟨fa, _, fun_mk l c k, PySem.W.mg_of X G a, (fun_mk l c k).binds fun _ _ _ _ _ _ us hl => match us, hl with | [_], _ => rfl⟩
theorem fat_does_agree (X : K.In h) (G : h.Ns mainGlobals mg) (a : PySem.W.nsIn K mainGlobals "does_agree" = some (some (.ref fa))) (l : K.lookup fa = some ⟨oc, od, .func (PySem.W.fnOf "does_agree" "does_agree" (defArgs s_does_agree) (defBody s_does_agree) (defScope s_does_agree) .none kV dc pm an cd ct), sl⟩) (c : PySem.W.codeIn K cd "does_agree" = true) (k : PySem.W.keepIn K (.ref fa) = true) : FAt K mg "does_agree" s_does_agree p_does_agree :=
  ⟨fa, _, fun_mk l c k, PySem.W.mg_of X G a, (fun_mk l c k).binds fun _ _ _ _ _ _ us hl => match us, hl with | [_, _], _ => rfl⟩
theorem fat_piece_by (X : K.In h) (G : h.Ns mainGlobals mg) (a : PySem.W.nsIn K mainGlobals "piece_by" = some (some (.ref fa))) (l : K.lookup fa = some ⟨oc, od, .func (PySem.W.fnOf "piece_by" "piece_by" (defArgs s_piece_by) (defBody s_piece_by) (defScope s_piece_by) .none kV dc pm an cd ct), sl⟩) (c : PySem.W.codeIn K cd "piece_by" = true) (k : PySem.W.keepIn K (.ref fa) = true) : FAt K mg "piece_by" s_piece_by p_piece_by :=
  ⟨fa, _, fun_mk l c k, PySem.W.mg_of X G a, (fun_mk l c k).binds fun _ _ _ _ _ _ us hl => match us, hl with | [_, _], _ => rfl⟩
theorem fat_all_effects (X : K.In h) (G : h.Ns mainGlobals mg) (a : PySem.W.nsIn K mainGlobals "all_effects" = some (some (.ref fa))) (l : K.lookup fa = some ⟨oc, od, .func (PySem.W.fnOf "all_effects" "all_effects" (defArgs s_all_effects) (defBody s_all_effects) (defScope s_all_effects) .none kV dc pm an cd ct), sl⟩) (c : PySem.W.codeIn K cd "all_effects" = true) (k : PySem.W.keepIn K (.ref fa) = true) : FAt K mg "all_effects" s_all_effects p_all_effects :=
  ⟨fa, _, fun_mk l c k, PySem.W.mg_of X G a, (fun_mk l c k).binds fun _ _ _ _ _ _ us hl => match us, hl with | [_], _ => rfl⟩
theorem fat_check_words (X : K.In h) (G : h.Ns mainGlobals mg) (a : PySem.W.nsIn K mainGlobals "check_words" = some (some (.ref fa))) (l : K.lookup fa = some ⟨oc, od, .func (PySem.W.fnOf "check_words" "check_words" (defArgs s_check_words) (defBody s_check_words) (defScope s_check_words) .none kV dc pm an cd ct), sl⟩) (c : PySem.W.codeIn K cd "check_words" = true) (k : PySem.W.keepIn K (.ref fa) = true) : FAt K mg "check_words" s_check_words p_check_words :=
  ⟨fa, _, fun_mk l c k, PySem.W.mg_of X G a, (fun_mk l c k).binds fun _ _ _ _ _ _ us hl => match us, hl with | [_, _], _ => rfl⟩
theorem fat_piece (X : K.In h) (G : h.Ns mainGlobals mg) (a : PySem.W.nsIn K mainGlobals "piece" = some (some (.ref fa))) (l : K.lookup fa = some ⟨oc, od, .func (PySem.W.fnOf "piece" "piece" (defArgs s_piece) (defBody s_piece) (defScope s_piece) .none kV dc pm an cd ct), sl⟩) (c : PySem.W.codeIn K cd "piece" = true) (k : PySem.W.keepIn K (.ref fa) = true) : FAt K mg "piece" s_piece p_piece :=
  ⟨fa, _, fun_mk l c k, PySem.W.mg_of X G a, (fun_mk l c k).binds fun _ _ _ _ _ _ us hl => match us, hl with | [_, _], _ => rfl⟩
theorem fat_wrong_in_runs (X : K.In h) (G : h.Ns mainGlobals mg) (a : PySem.W.nsIn K mainGlobals "wrong_in_runs" = some (some (.ref fa))) (l : K.lookup fa = some ⟨oc, od, .func (PySem.W.fnOf "wrong_in_runs" "wrong_in_runs" (defArgs s_wrong_in_runs) (defBody s_wrong_in_runs) (defScope s_wrong_in_runs) .none kV dc pm an cd ct), sl⟩) (c : PySem.W.codeIn K cd "wrong_in_runs" = true) (k : PySem.W.keepIn K (.ref fa) = true) : FAt K mg "wrong_in_runs" s_wrong_in_runs p_wrong_in_runs :=
  ⟨fa, _, fun_mk l c k, PySem.W.mg_of X G a, (fun_mk l c k).binds fun _ _ _ _ _ _ us hl => match us, hl with | [_], _ => rfl⟩
theorem fat_effect_sum (X : K.In h) (G : h.Ns mainGlobals mg) (a : PySem.W.nsIn K mainGlobals "effect_sum" = some (some (.ref fa))) (l : K.lookup fa = some ⟨oc, od, .func (PySem.W.fnOf "effect_sum" "effect_sum" (defArgs s_effect_sum) (defBody s_effect_sum) (defScope s_effect_sum) .none kV dc pm an cd ct), sl⟩) (c : PySem.W.codeIn K cd "effect_sum" = true) (k : PySem.W.keepIn K (.ref fa) = true) : FAt K mg "effect_sum" s_effect_sum p_effect_sum :=
  ⟨fa, _, fun_mk l c k, PySem.W.mg_of X G a, (fun_mk l c k).binds fun _ _ _ _ _ _ us hl => match us, hl with | [_, _], _ => rfl⟩
theorem fat_product_run (X : K.In h) (G : h.Ns mainGlobals mg) (a : PySem.W.nsIn K mainGlobals "product_run" = some (some (.ref fa))) (l : K.lookup fa = some ⟨oc, od, .func (PySem.W.fnOf "product_run" "product_run" (defArgs s_product_run) (defBody s_product_run) (defScope s_product_run) .none kV dc pm an cd ct), sl⟩) (c : PySem.W.codeIn K cd "product_run" = true) (k : PySem.W.keepIn K (.ref fa) = true) : FAt K mg "product_run" s_product_run p_product_run :=
  ⟨fa, _, fun_mk l c k, PySem.W.mg_of X G a, (fun_mk l c k).binds fun _ _ _ _ _ _ us hl => match us, hl with | [_, _, _], _ => rfl⟩
theorem fat_like_runs (X : K.In h) (G : h.Ns mainGlobals mg) (a : PySem.W.nsIn K mainGlobals "like_runs" = some (some (.ref fa))) (l : K.lookup fa = some ⟨oc, od, .func (PySem.W.fnOf "like_runs" "like_runs" (defArgs s_like_runs) (defBody s_like_runs) (defScope s_like_runs) .none kV dc pm an cd ct), sl⟩) (c : PySem.W.codeIn K cd "like_runs" = true) (k : PySem.W.keepIn K (.ref fa) = true) : FAt K mg "like_runs" s_like_runs p_like_runs :=
  ⟨fa, _, fun_mk l c k, PySem.W.mg_of X G a, (fun_mk l c k).binds fun _ _ _ _ _ _ us hl => match us, hl with | [_], _ => rfl⟩
theorem fat_missing_by (X : K.In h) (G : h.Ns mainGlobals mg) (a : PySem.W.nsIn K mainGlobals "missing_by" = some (some (.ref fa))) (l : K.lookup fa = some ⟨oc, od, .func (PySem.W.fnOf "missing_by" "missing_by" (defArgs s_missing_by) (defBody s_missing_by) (defScope s_missing_by) .none kV dc pm an cd ct), sl⟩) (c : PySem.W.codeIn K cd "missing_by" = true) (k : PySem.W.keepIn K (.ref fa) = true) : FAt K mg "missing_by" s_missing_by p_missing_by :=
  ⟨fa, _, fun_mk l c k, PySem.W.mg_of X G a, (fun_mk l c k).binds fun _ _ _ _ _ _ us hl => match us, hl with | [_], _ => rfl⟩
theorem fat_fixed_words (X : K.In h) (G : h.Ns mainGlobals mg) (a : PySem.W.nsIn K mainGlobals "fixed_words" = some (some (.ref fa))) (l : K.lookup fa = some ⟨oc, od, .func (PySem.W.fnOf "fixed_words" "fixed_words" (defArgs s_fixed_words) (defBody s_fixed_words) (defScope s_fixed_words) .none kV dc pm an cd ct), sl⟩) (c : PySem.W.codeIn K cd "fixed_words" = true) (k : PySem.W.keepIn K (.ref fa) = true) : FAt K mg "fixed_words" s_fixed_words p_fixed_words :=
  ⟨fa, _, fun_mk l c k, PySem.W.mg_of X G a, (fun_mk l c k).binds fun _ _ _ _ _ _ us hl => match us, hl with | [_], _ => rfl⟩
theorem fat_is_piece_of (X : K.In h) (G : h.Ns mainGlobals mg) (a : PySem.W.nsIn K mainGlobals "is_piece_of" = some (some (.ref fa))) (l : K.lookup fa = some ⟨oc, od, .func (PySem.W.fnOf "is_piece_of" "is_piece_of" (defArgs s_is_piece_of) (defBody s_is_piece_of) (defScope s_is_piece_of) .none kV dc pm an cd ct), sl⟩) (c : PySem.W.codeIn K cd "is_piece_of" = true) (k : PySem.W.keepIn K (.ref fa) = true) : FAt K mg "is_piece_of" s_is_piece_of p_is_piece_of :=
  ⟨fa, _, fun_mk l c k, PySem.W.mg_of X G a, (fun_mk l c k).binds fun _ _ _ _ _ _ us hl => match us, hl with | [_, _], _ => rfl⟩
theorem fat_words_by (X : K.In h) (G : h.Ns mainGlobals mg) (a : PySem.W.nsIn K mainGlobals "words_by" = some (some (.ref fa))) (l : K.lookup fa = some ⟨oc, od, .func (PySem.W.fnOf "words_by" "words_by" (defArgs s_words_by) (defBody s_words_by) (defScope s_words_by) .none kV dc pm an cd ct), sl⟩) (c : PySem.W.codeIn K cd "words_by" = true) (k : PySem.W.keepIn K (.ref fa) = true) : FAt K mg "words_by" s_words_by p_words_by :=
  ⟨fa, _, fun_mk l c k, PySem.W.mg_of X G a, (fun_mk l c k).binds fun _ _ _ _ _ _ us hl => match us, hl with | [_], _ => rfl⟩
theorem fat_check_runs (X : K.In h) (G : h.Ns mainGlobals mg) (a : PySem.W.nsIn K mainGlobals "check_runs" = some (some (.ref fa))) (l : K.lookup fa = some ⟨oc, od, .func (PySem.W.fnOf "check_runs" "check_runs" (defArgs s_check_runs) (defBody s_check_runs) (defScope s_check_runs) .none kV dc pm an cd ct), sl⟩) (c : PySem.W.codeIn K cd "check_runs" = true) (k : PySem.W.keepIn K (.ref fa) = true) : FAt K mg "check_runs" s_check_runs p_check_runs :=
  ⟨fa, _, fun_mk l c k, PySem.W.mg_of X G a, (fun_mk l c k).binds fun _ _ _ _ _ _ us hl => match us, hl with | [_], _ => rfl⟩
theorem fat_words_of (X : K.In h) (G : h.Ns mainGlobals mg) (a : PySem.W.nsIn K mainGlobals "words_of" = some (some (.ref fa))) (l : K.lookup fa = some ⟨oc, od, .func (PySem.W.fnOf "words_of" "words_of" (defArgs s_words_of) (defBody s_words_of) (defScope s_words_of) .none kV dc pm an cd ct), sl⟩) (c : PySem.W.codeIn K cd "words_of" = true) (k : PySem.W.keepIn K (.ref fa) = true) : FAt K mg "words_of" s_words_of p_words_of :=
  ⟨fa, _, fun_mk l c k, PySem.W.mg_of X G a, (fun_mk l c k).binds fun _ _ _ _ _ _ us hl => match us, hl with | [_], _ => rfl⟩
theorem fat_missing (X : K.In h) (G : h.Ns mainGlobals mg) (a : PySem.W.nsIn K mainGlobals "missing" = some (some (.ref fa))) (l : K.lookup fa = some ⟨oc, od, .func (PySem.W.fnOf "missing" "missing" (defArgs s_missing) (defBody s_missing) (defScope s_missing) .none kV dc pm an cd ct), sl⟩) (c : PySem.W.codeIn K cd "missing" = true) (k : PySem.W.keepIn K (.ref fa) = true) : FAt K mg "missing" s_missing p_missing :=
  ⟨fa, _, fun_mk l c k, PySem.W.mg_of X G a, (fun_mk l c k).binds fun _ _ _ _ _ _ us hl => match us, hl with | [_], _ => rfl⟩
theorem fat__law_is_whole (X : K.In h) (G : h.Ns mainGlobals mg) (a : PySem.W.nsIn K mainGlobals "_law_is_whole" = some (some (.ref fa))) (l : K.lookup fa = some ⟨oc, od, .func (PySem.W.fnOf "_law_is_whole" "_law_is_whole" (defArgs s__law_is_whole) (defBody s__law_is_whole) (defScope s__law_is_whole) .none kV dc pm an cd ct), sl⟩) (c : PySem.W.codeIn K cd "_law_is_whole" = true) (k : PySem.W.keepIn K (.ref fa) = true) : FAt K mg "_law_is_whole" s__law_is_whole p__law_is_whole :=
  ⟨fa, _, fun_mk l c k, PySem.W.mg_of X G a, (fun_mk l c k).binds fun _ _ _ _ _ _ us hl => match us, hl with | [_], _ => rfl⟩
theorem fat__law_is_within (X : K.In h) (G : h.Ns mainGlobals mg) (a : PySem.W.nsIn K mainGlobals "_law_is_within" = some (some (.ref fa))) (l : K.lookup fa = some ⟨oc, od, .func (PySem.W.fnOf "_law_is_within" "_law_is_within" (defArgs s__law_is_within) (defBody s__law_is_within) (defScope s__law_is_within) .none kV dc pm an cd ct), sl⟩) (c : PySem.W.codeIn K cd "_law_is_within" = true) (k : PySem.W.keepIn K (.ref fa) = true) : FAt K mg "_law_is_within" s__law_is_within p__law_is_within :=
  ⟨fa, _, fun_mk l c k, PySem.W.mg_of X G a, (fun_mk l c k).binds fun _ _ _ _ _ _ us hl => match us, hl with | [_, _, _], _ => rfl⟩
theorem fat__law_is_tuple (X : K.In h) (G : h.Ns mainGlobals mg) (a : PySem.W.nsIn K mainGlobals "_law_is_tuple" = some (some (.ref fa))) (l : K.lookup fa = some ⟨oc, od, .func (PySem.W.fnOf "_law_is_tuple" "_law_is_tuple" (defArgs s__law_is_tuple) (defBody s__law_is_tuple) (defScope s__law_is_tuple) .none kV dc pm an cd ct), sl⟩) (c : PySem.W.codeIn K cd "_law_is_tuple" = true) (k : PySem.W.keepIn K (.ref fa) = true) : FAt K mg "_law_is_tuple" s__law_is_tuple p__law_is_tuple :=
  ⟨fa, _, fun_mk l c k, PySem.W.mg_of X G a, (fun_mk l c k).binds fun _ _ _ _ _ _ us hl => match us, hl with | [_, _], _ => rfl⟩
theorem fat__law_effects (X : K.In h) (G : h.Ns mainGlobals mg) (a : PySem.W.nsIn K mainGlobals "_law_effects" = some (some (.ref fa))) (l : K.lookup fa = some ⟨oc, od, .func (PySem.W.fnOf "_law_effects" "_law_effects" (defArgs s__law_effects) (defBody s__law_effects) (defScope s__law_effects) .none kV dc pm an cd ct), sl⟩) (c : PySem.W.codeIn K cd "_law_effects" = true) (k : PySem.W.keepIn K (.ref fa) = true) : FAt K mg "_law_effects" s__law_effects p__law_effects :=
  ⟨fa, _, fun_mk l c k, PySem.W.mg_of X G a, (fun_mk l c k).binds fun _ _ _ _ _ _ us hl => match us, hl with | [_], _ => rfl⟩
theorem fat__law_runs (X : K.In h) (G : h.Ns mainGlobals mg) (a : PySem.W.nsIn K mainGlobals "_law_runs" = some (some (.ref fa))) (l : K.lookup fa = some ⟨oc, od, .func (PySem.W.fnOf "_law_runs" "_law_runs" (defArgs s__law_runs) (defBody s__law_runs) (defScope s__law_runs) .none kV dc pm an cd ct), sl⟩) (c : PySem.W.codeIn K cd "_law_runs" = true) (k : PySem.W.keepIn K (.ref fa) = true) : FAt K mg "_law_runs" s__law_runs p__law_runs :=
  ⟨fa, _, fun_mk l c k, PySem.W.mg_of X G a, (fun_mk l c k).binds fun _ _ _ _ _ _ us hl => match us, hl with | [_], _ => rfl⟩
theorem fat__law_sign (X : K.In h) (G : h.Ns mainGlobals mg) (a : PySem.W.nsIn K mainGlobals "_law_sign" = some (some (.ref fa))) (l : K.lookup fa = some ⟨oc, od, .func (PySem.W.fnOf "_law_sign" "_law_sign" (defArgs s__law_sign) (defBody s__law_sign) (defScope s__law_sign) .none kV dc pm an cd ct), sl⟩) (c : PySem.W.codeIn K cd "_law_sign" = true) (k : PySem.W.keepIn K (.ref fa) = true) : FAt K mg "_law_sign" s__law_sign p__law_sign :=
  ⟨fa, _, fun_mk l c k, PySem.W.mg_of X G a, (fun_mk l c k).binds fun _ _ _ _ _ _ us hl => match us, hl with | [_, _], _ => rfl⟩
theorem fat__law_parted (X : K.In h) (G : h.Ns mainGlobals mg) (a : PySem.W.nsIn K mainGlobals "_law_parted" = some (some (.ref fa))) (l : K.lookup fa = some ⟨oc, od, .func (PySem.W.fnOf "_law_parted" "_law_parted" (defArgs s__law_parted) (defBody s__law_parted) (defScope s__law_parted) .none kV dc pm an cd ct), sl⟩) (c : PySem.W.codeIn K cd "_law_parted" = true) (k : PySem.W.keepIn K (.ref fa) = true) : FAt K mg "_law_parted" s__law_parted p__law_parted :=
  ⟨fa, _, fun_mk l c k, PySem.W.mg_of X G a, (fun_mk l c k).binds fun _ _ _ _ _ _ us hl => match us, hl with | [_, _], _ => rfl⟩
theorem fat__law_fitting (X : K.In h) (G : h.Ns mainGlobals mg) (a : PySem.W.nsIn K mainGlobals "_law_fitting" = some (some (.ref fa))) (l : K.lookup fa = some ⟨oc, od, .func (PySem.W.fnOf "_law_fitting" "_law_fitting" (defArgs s__law_fitting) (defBody s__law_fitting) (defScope s__law_fitting) .none kV dc pm an cd ct), sl⟩) (c : PySem.W.codeIn K cd "_law_fitting" = true) (k : PySem.W.keepIn K (.ref fa) = true) : FAt K mg "_law_fitting" s__law_fitting p__law_fitting :=
  ⟨fa, _, fun_mk l c k, PySem.W.mg_of X G a, (fun_mk l c k).binds fun _ _ _ _ _ _ us hl => match us, hl with | [_, _], _ => rfl⟩
theorem fat__law_total (X : K.In h) (G : h.Ns mainGlobals mg) (a : PySem.W.nsIn K mainGlobals "_law_total" = some (some (.ref fa))) (l : K.lookup fa = some ⟨oc, od, .func (PySem.W.fnOf "_law_total" "_law_total" (defArgs s__law_total) (defBody s__law_total) (defScope s__law_total) .none kV dc pm an cd ct), sl⟩) (c : PySem.W.codeIn K cd "_law_total" = true) (k : PySem.W.keepIn K (.ref fa) = true) : FAt K mg "_law_total" s__law_total p__law_total :=
  ⟨fa, _, fun_mk l c k, PySem.W.mg_of X G a, (fun_mk l c k).binds fun _ _ _ _ _ _ us hl => match us, hl with | [_, _], _ => rfl⟩
theorem fat__law_is_closed (X : K.In h) (G : h.Ns mainGlobals mg) (a : PySem.W.nsIn K mainGlobals "_law_is_closed" = some (some (.ref fa))) (l : K.lookup fa = some ⟨oc, od, .func (PySem.W.fnOf "_law_is_closed" "_law_is_closed" (defArgs s__law_is_closed) (defBody s__law_is_closed) (defScope s__law_is_closed) .none kV dc pm an cd ct), sl⟩) (c : PySem.W.codeIn K cd "_law_is_closed" = true) (k : PySem.W.keepIn K (.ref fa) = true) : FAt K mg "_law_is_closed" s__law_is_closed p__law_is_closed :=
  ⟨fa, _, fun_mk l c k, PySem.W.mg_of X G a, (fun_mk l c k).binds fun _ _ _ _ _ _ us hl => match us, hl with | [_], _ => rfl⟩
theorem fat__law_effect_fault (X : K.In h) (G : h.Ns mainGlobals mg) (a : PySem.W.nsIn K mainGlobals "_law_effect_fault" = some (some (.ref fa))) (l : K.lookup fa = some ⟨oc, od, .func (PySem.W.fnOf "_law_effect_fault" "_law_effect_fault" (defArgs s__law_effect_fault) (defBody s__law_effect_fault) (defScope s__law_effect_fault) .none kV dc pm an cd ct), sl⟩) (c : PySem.W.codeIn K cd "_law_effect_fault" = true) (k : PySem.W.keepIn K (.ref fa) = true) : FAt K mg "_law_effect_fault" s__law_effect_fault p__law_effect_fault :=
  ⟨fa, _, fun_mk l c k, PySem.W.mg_of X G a, (fun_mk l c k).binds fun _ _ _ _ _ _ us hl => match us, hl with | [_, _], _ => rfl⟩
theorem fat__law_is_word (X : K.In h) (G : h.Ns mainGlobals mg) (a : PySem.W.nsIn K mainGlobals "_law_is_word" = some (some (.ref fa))) (l : K.lookup fa = some ⟨oc, od, .func (PySem.W.fnOf "_law_is_word" "_law_is_word" (defArgs s__law_is_word) (defBody s__law_is_word) (defScope s__law_is_word) .none kV dc pm an cd ct), sl⟩) (c : PySem.W.codeIn K cd "_law_is_word" = true) (k : PySem.W.keepIn K (.ref fa) = true) : FAt K mg "_law_is_word" s__law_is_word p__law_is_word :=
  ⟨fa, _, fun_mk l c k, PySem.W.mg_of X G a, (fun_mk l c k).binds fun _ _ _ _ _ _ us hl => match us, hl with | [_, _], _ => rfl⟩
theorem fat__law_words_fault (X : K.In h) (G : h.Ns mainGlobals mg) (a : PySem.W.nsIn K mainGlobals "_law_words_fault" = some (some (.ref fa))) (l : K.lookup fa = some ⟨oc, od, .func (PySem.W.fnOf "_law_words_fault" "_law_words_fault" (defArgs s__law_words_fault) (defBody s__law_words_fault) (defScope s__law_words_fault) .none kV dc pm an cd ct), sl⟩) (c : PySem.W.codeIn K cd "_law_words_fault" = true) (k : PySem.W.keepIn K (.ref fa) = true) : FAt K mg "_law_words_fault" s__law_words_fault p__law_words_fault :=
  ⟨fa, _, fun_mk l c k, PySem.W.mg_of X G a, (fun_mk l c k).binds fun _ _ _ _ _ _ us hl => match us, hl with | [_, _], _ => rfl⟩
theorem fat__law_is_lot (X : K.In h) (G : h.Ns mainGlobals mg) (a : PySem.W.nsIn K mainGlobals "_law_is_lot" = some (some (.ref fa))) (l : K.lookup fa = some ⟨oc, od, .func (PySem.W.fnOf "_law_is_lot" "_law_is_lot" (defArgs s__law_is_lot) (defBody s__law_is_lot) (defScope s__law_is_lot) .none kV dc pm an cd ct), sl⟩) (c : PySem.W.codeIn K cd "_law_is_lot" = true) (k : PySem.W.keepIn K (.ref fa) = true) : FAt K mg "_law_is_lot" s__law_is_lot p__law_is_lot :=
  ⟨fa, _, fun_mk l c k, PySem.W.mg_of X G a, (fun_mk l c k).binds fun _ _ _ _ _ _ us hl => match us, hl with | [_, _], _ => rfl⟩
theorem fat__law_is_missing (X : K.In h) (G : h.Ns mainGlobals mg) (a : PySem.W.nsIn K mainGlobals "_law_is_missing" = some (some (.ref fa))) (l : K.lookup fa = some ⟨oc, od, .func (PySem.W.fnOf "_law_is_missing" "_law_is_missing" (defArgs s__law_is_missing) (defBody s__law_is_missing) (defScope s__law_is_missing) .none kV dc pm an cd ct), sl⟩) (c : PySem.W.codeIn K cd "_law_is_missing" = true) (k : PySem.W.keepIn K (.ref fa) = true) : FAt K mg "_law_is_missing" s__law_is_missing p__law_is_missing :=
  ⟨fa, _, fun_mk l c k, PySem.W.mg_of X G a, (fun_mk l c k).binds fun _ _ _ _ _ _ us hl => match us, hl with | [_, _], _ => rfl⟩
theorem fat__law_well (X : K.In h) (G : h.Ns mainGlobals mg) (a : PySem.W.nsIn K mainGlobals "_law_well" = some (some (.ref fa))) (l : K.lookup fa = some ⟨oc, od, .func (PySem.W.fnOf "_law_well" "_law_well" (defArgs s__law_well) (defBody s__law_well) (defScope s__law_well) .none kV dc pm an cd ct), sl⟩) (c : PySem.W.codeIn K cd "_law_well" = true) (k : PySem.W.keepIn K (.ref fa) = true) : FAt K mg "_law_well" s__law_well p__law_well :=
  ⟨fa, _, fun_mk l c k, PySem.W.mg_of X G a, (fun_mk l c k).binds fun _ _ _ _ _ _ us hl => match us, hl with | [_, _], _ => rfl⟩
theorem fat__law_draw (X : K.In h) (G : h.Ns mainGlobals mg) (a : PySem.W.nsIn K mainGlobals "_law_draw" = some (some (.ref fa))) (l : K.lookup fa = some ⟨oc, od, .func (PySem.W.fnOf "_law_draw" "_law_draw" (defArgs s__law_draw) (defBody s__law_draw) (defScope s__law_draw) .none kV dc pm an cd ct), sl⟩) (c : PySem.W.codeIn K cd "_law_draw" = true) (k : PySem.W.keepIn K (.ref fa) = true) : FAt K mg "_law_draw" s__law_draw p__law_draw :=
  ⟨fa, _, fun_mk l c k, PySem.W.mg_of X G a, (fun_mk l c k).binds fun _ _ _ _ _ _ us hl => match us, hl with | [_, _], _ => rfl⟩
theorem fat__law_one (X : K.In h) (G : h.Ns mainGlobals mg) (a : PySem.W.nsIn K mainGlobals "_law_one" = some (some (.ref fa))) (l : K.lookup fa = some ⟨oc, od, .func (PySem.W.fnOf "_law_one" "_law_one" (defArgs s__law_one) (defBody s__law_one) (defScope s__law_one) .none kV dc pm an cd ct), sl⟩) (c : PySem.W.codeIn K cd "_law_one" = true) (k : PySem.W.keepIn K (.ref fa) = true) : FAt K mg "_law_one" s__law_one p__law_one :=
  ⟨fa, _, fun_mk l c k, PySem.W.mg_of X G a, (fun_mk l c k).binds fun _ _ _ _ _ _ us hl => match us, hl with | [_, _], _ => rfl⟩
theorem fat__law_run (X : K.In h) (G : h.Ns mainGlobals mg) (a : PySem.W.nsIn K mainGlobals "_law_run" = some (some (.ref fa))) (l : K.lookup fa = some ⟨oc, od, .func (PySem.W.fnOf "_law_run" "_law_run" (defArgs s__law_run) (defBody s__law_run) (defScope s__law_run) .none kV dc pm an cd ct), sl⟩) (c : PySem.W.codeIn K cd "_law_run" = true) (k : PySem.W.keepIn K (.ref fa) = true) : FAt K mg "_law_run" s__law_run p__law_run :=
  ⟨fa, _, fun_mk l c k, PySem.W.mg_of X G a, (fun_mk l c k).binds fun _ _ _ _ _ _ us hl => match us, hl with | [_, _], _ => rfl⟩
theorem fat__law_effect (X : K.In h) (G : h.Ns mainGlobals mg) (a : PySem.W.nsIn K mainGlobals "_law_effect" = some (some (.ref fa))) (l : K.lookup fa = some ⟨oc, od, .func (PySem.W.fnOf "_law_effect" "_law_effect" (defArgs s__law_effect) (defBody s__law_effect) (defScope s__law_effect) .none kV dc pm an cd ct), sl⟩) (c : PySem.W.codeIn K cd "_law_effect" = true) (k : PySem.W.keepIn K (.ref fa) = true) : FAt K mg "_law_effect" s__law_effect p__law_effect :=
  ⟨fa, _, fun_mk l c k, PySem.W.mg_of X G a, (fun_mk l c k).binds fun _ _ _ _ _ _ us hl => match us, hl with | [_, _], _ => rfl⟩
theorem fat__law_words (X : K.In h) (G : h.Ns mainGlobals mg) (a : PySem.W.nsIn K mainGlobals "_law_words" = some (some (.ref fa))) (l : K.lookup fa = some ⟨oc, od, .func (PySem.W.fnOf "_law_words" "_law_words" (defArgs s__law_words) (defBody s__law_words) (defScope s__law_words) .none kV dc pm an cd ct), sl⟩) (c : PySem.W.codeIn K cd "_law_words" = true) (k : PySem.W.keepIn K (.ref fa) = true) : FAt K mg "_law_words" s__law_words p__law_words :=
  ⟨fa, _, fun_mk l c k, PySem.W.mg_of X G a, (fun_mk l c k).binds fun _ _ _ _ _ _ us hl => match us, hl with | [_, _, _, _], _ => rfl⟩
theorem fat__law_mixed (X : K.In h) (G : h.Ns mainGlobals mg) (a : PySem.W.nsIn K mainGlobals "_law_mixed" = some (some (.ref fa))) (l : K.lookup fa = some ⟨oc, od, .func (PySem.W.fnOf "_law_mixed" "_law_mixed" (defArgs s__law_mixed) (defBody s__law_mixed) (defScope s__law_mixed) .none kV dc pm an cd ct), sl⟩) (c : PySem.W.codeIn K cd "_law_mixed" = true) (k : PySem.W.keepIn K (.ref fa) = true) : FAt K mg "_law_mixed" s__law_mixed p__law_mixed :=
  ⟨fa, _, fun_mk l c k, PySem.W.mg_of X G a, (fun_mk l c k).binds fun _ _ _ _ _ _ us hl => match us, hl with | [_, _], _ => rfl⟩
theorem fat__law_plan (X : K.In h) (G : h.Ns mainGlobals mg) (a : PySem.W.nsIn K mainGlobals "_law_plan" = some (some (.ref fa))) (l : K.lookup fa = some ⟨oc, od, .func (PySem.W.fnOf "_law_plan" "_law_plan" (defArgs s__law_plan) (defBody s__law_plan) (defScope s__law_plan) .none kV dc pm an cd ct), sl⟩) (c : PySem.W.codeIn K cd "_law_plan" = true) (k : PySem.W.keepIn K (.ref fa) = true) : FAt K mg "_law_plan" s__law_plan p__law_plan :=
  ⟨fa, _, fun_mk l c k, PySem.W.mg_of X G a, (fun_mk l c k).binds fun _ _ _ _ _ _ us hl => match us, hl with | [_], _ => rfl⟩
theorem fat__law_right (X : K.In h) (G : h.Ns mainGlobals mg) (a : PySem.W.nsIn K mainGlobals "_law_right" = some (some (.ref fa))) (l : K.lookup fa = some ⟨oc, od, .func (PySem.W.fnOf "_law_right" "_law_right" (defArgs s__law_right) (defBody s__law_right) (defScope s__law_right) .none kV dc pm an cd ct), sl⟩) (c : PySem.W.codeIn K cd "_law_right" = true) (k : PySem.W.keepIn K (.ref fa) = true) : FAt K mg "_law_right" s__law_right p__law_right :=
  ⟨fa, _, fun_mk l c k, PySem.W.mg_of X G a, (fun_mk l c k).binds fun _ _ _ _ _ _ us hl => match us, hl with | [_], _ => rfl⟩
theorem fat_law (X : K.In h) (G : h.Ns mainGlobals mg) (a : PySem.W.nsIn K mainGlobals "law" = some (some (.ref fa))) (l : K.lookup fa = some ⟨oc, od, .func (PySem.W.fnOf "law" "law" (defArgs s_law) (defBody s_law) (defScope s_law) .none kV dc pm an cd ct), sl⟩) (c : PySem.W.codeIn K cd "law" = true) (k : PySem.W.keepIn K (.ref fa) = true) : FAt K mg "law" s_law p_law :=
  ⟨fa, _, fun_mk l c k, PySem.W.mg_of X G a, (fun_mk l c k).binds fun _ _ _ _ _ _ us hl => match us, hl with | [_], _ => rfl⟩
theorem with_fat {x : Str} {st : Stmt} {ps : List Str} {C : Prop} (_ : K.In h) (f : FAt K mg x st ps) (c : FAt K mg x st ps → C) : C := c f
theorem with_none {x : Str} {C : Prop} (X : K.In h) (G : h.Ns mainGlobals mg) (a : PySem.W.nsIn K mainGlobals x = some none) (c : mg x = none → C) : C := c (PySem.W.mg_none_of X G a)
theorem with_int {x : Str} {i : Int} {t : Tok} {C : Prop} (X : K.In h) (G : h.Ns mainGlobals mg) (a : PySem.W.nsIn K mainGlobals x = some (some (.int i t))) (c : (∃ t, mg x = some (.int i t)) → C) : C := c ⟨t, PySem.W.mg_of X G a⟩
theorem sq_nothing {o : Obj} {n : Nat} (l : K.lookup fa = some o) (hc : o.cls = .type "tuple") (hd : o.data = .seq #[] n) (H : Hp) : SqT K H fa [] := .inr ⟨o, #[], n, l, hc, hd, by simp, .nil⟩
end
section
variable {P : Program} {w : World} {K : Fr} {h : Heap} {mg : Str → Option Value} {aN fa : Addr}
theorem all_ok (T : Txt K mg aN) (A : FAt K mg "law" s_law p_law) (base : Heap) : OkG P w K mg base 10 "law" p_law (sp_law K) := by
  have F_is_whole := ok_is_whole (P := P) (w := w) (base := base) T 
  have F_is_between := ok_is_between (P := P) (w := w) (base := base) T F_is_whole
  have F_is_tuple_of := ok_is_tuple_of (P := P) (w := w) (base := base) T 
  have F_check_many := ok_check_many (P := P) (w := w) (base := base) T F_is_between
  have F_is_sign := ok_is_sign (P := P) (w := w) (base := base) T F_is_whole
  have F_is_run_by := ok_is_run_by (P := P) (w := w) (base := base) T F_is_sign
  have F_wrong_in_effect := ok_wrong_in_effect (P := P) (w := w) (base := base) T F_is_between
  have F_is_effect_by := ok_is_effect_by (P := P) (w := w) (base := base) T F_wrong_in_effect
  have F_is_word_by := ok_is_word_by (P := P) (w := w) (base := base) T F_is_effect_by F_is_sign F_is_tuple_of
  have F_wrong_in_words := ok_wrong_in_words (P := P) (w := w) (base := base) T F_is_word_by
  have F_sign_in := ok_sign_in (P := P) (w := w) (base := base) T 
  have F_odd_by := ok_odd_by (P := P) (w := w) (base := base) T 
  have F_choices_of := ok_choices_of (P := P) (w := w) (base := base) T 
  have F_all_runs := ok_all_runs (P := P) (w := w) (base := base) T 
  have F_does_agree := ok_does_agree (P := P) (w := w) (base := base) T F_sign_in
  have F_piece_by := ok_piece_by (P := P) (w := w) (base := base) T F_all_runs F_does_agree
  have F_all_effects := ok_all_effects (P := P) (w := w) (base := base) T F_choices_of
  have F_check_words := ok_check_words (P := P) (w := w) (base := base) T F_check_many F_wrong_in_words
  have F_piece := ok_piece (P := P) (w := w) (base := base) T F_check_words F_piece_by
  have F_wrong_in_runs := ok_wrong_in_runs (P := P) (w := w) (base := base) T F_is_run_by
  have F_effect_sum := ok_effect_sum (P := P) (w := w) (base := base) T F_sign_in
  have F_product_run := ok_product_run (P := P) (w := w) (base := base) T 
  have F_like_runs := ok_like_runs (P := P) (w := w) (base := base) T 
  have F_missing_by := ok_missing_by (P := P) (w := w) (base := base) T F_like_runs F_product_run
  have F_fixed_words := ok_fixed_words (P := P) (w := w) (base := base) T F_all_effects F_effect_sum F_odd_by F_sign_in
  have F_is_piece_of := ok_is_piece_of (P := P) (w := w) (base := base) T F_piece_by
  have F_words_by := ok_words_by (P := P) (w := w) (base := base) T F_fixed_words F_is_piece_of
  have F_check_runs := ok_check_runs (P := P) (w := w) (base := base) T F_wrong_in_runs
  have F_words_of := ok_words_of (P := P) (w := w) (base := base) T F_check_runs F_words_by
  have F_missing := ok_missing (P := P) (w := w) (base := base) T F_check_runs F_missing_by
  have F__law_is_whole := ok__law_is_whole (P := P) (w := w) (base := base) T 
  have F__law_is_within := ok__law_is_within (P := P) (w := w) (base := base) T F__law_is_whole
  have F__law_is_tuple := ok__law_is_tuple (P := P) (w := w) (base := base) T 
  have F__law_effects := ok__law_effects (P := P) (w := w) (base := base) T 
  have F__law_runs := ok__law_runs (P := P) (w := w) (base := base) T 
  have F__law_sign := ok__law_sign (P := P) (w := w) (base := base) T 
  have F__law_parted := ok__law_parted (P := P) (w := w) (base := base) T 
  have F__law_fitting := ok__law_fitting (P := P) (w := w) (base := base) T F__law_runs F__law_sign
  have F__law_total := ok__law_total (P := P) (w := w) (base := base) T F__law_sign
  have F__law_is_closed := ok__law_is_closed (P := P) (w := w) (base := base) T F__law_effects F__law_total
  have F__law_effect_fault := ok__law_effect_fault (P := P) (w := w) (base := base) T F__law_is_within
  have F__law_is_word := ok__law_is_word (P := P) (w := w) (base := base) T F__law_effect_fault F__law_is_tuple F__law_is_whole
  have F__law_words_fault := ok__law_words_fault (P := P) (w := w) (base := base) T F__law_is_word
  have F__law_is_lot := ok__law_is_lot (P := P) (w := w) (base := base) T F__law_effect_fault
  have F__law_is_missing := ok__law_is_missing (P := P) (w := w) (base := base) T F__law_is_lot
  have F__law_well := ok__law_well (P := P) (w := w) (base := base) T 
  have F__law_draw := ok__law_draw (P := P) (w := w) (base := base) T 
  have F__law_one := ok__law_one (P := P) (w := w) (base := base) T F__law_draw
  have F__law_run := ok__law_run (P := P) (w := w) (base := base) T F__law_one
  have F__law_effect := ok__law_effect (P := P) (w := w) (base := base) T F__law_draw
  have F__law_words := ok__law_words (P := P) (w := w) (base := base) T F__law_draw F__law_effect F__law_one F__law_parted F__law_run F__law_sign
  have F__law_mixed := ok__law_mixed (P := P) (w := w) (base := base) T F__law_draw
  have F__law_plan := ok__law_plan (P := P) (w := w) (base := base) T F__law_draw F__law_fitting F__law_mixed F__law_one F__law_run F__law_words
  have F__law_right := ok__law_right (P := P) (w := w) (base := base) T F__law_fitting F__law_is_closed F__law_is_missing F__law_plan F__law_words_fault F_missing F_piece F_words_of
  have F_law := ok_law (P := P) (w := w) (base := base) T F__law_well F__law_right A
  exact F_law
theorem all_mk (T : Txt K mg aN) (A : FAt K mg "law" s_law p_law) (hfa : mg "law" = some (.ref fa)) :
    ∃ fd : FuncData, (∀ (s : Shared) (u : Value), BindsTo s fd ⟨[u], []⟩ [("_law_script", u)]) ∧ ∀ base : Heap, K.In base → base.Ns mainGlobals mg → FnG P w K mg base 10 fa fd ["_law_script"] (sp_law K) := by
  obtain ⟨f1, fd, F, hm, hb⟩ := A.ex
  obtain ⟨oc, od, kV, doc, pm, an, cdv, ct, osl, e, lk, _⟩ := F.ex
  rw [hfa] at hm
  cases hm
  refine ⟨fd, fun s u => ?_, fun base _ _ => ?_⟩
  · subst e
    exact .of_eq rfl
  · obtain ⟨f2, fd2, F2, hm2, _, _, oc2, od2, osl2, lk2⟩ := (all_ok (P := P) (w := w) T A base).ex
    rw [hfa] at hm2
    cases hm2
    rw [lk] at lk2
    cases lk2
    exact F2
end
end K31W
open PySem PySem.W PyProof.Rows
set_option maxHeartbeats 0 in
theorem PySem.Challenge.cw_trialground_k31_whole_pieces_told_from_o_holds : PySem.Challenge.rw_trialground_k31_whole_pieces_told_from_o.Holds := by
  w_on; o_law; k_head; (case hw => w_witness2)
  k_fill
  refine K31W.walk_ofG (l := PySem.Challenge.rw_trialground_k31_whole_pieces_told_from_o) (n := 63) (k := 10) (x := "_law_script") (sp := K31W.sp_law) rfl (by decide) rfl ⟨rfl, by decide, by decide⟩ (fun w h Y => PySem.W.kIn_of Y) ?F (fun _ _ a ns hl _ hS => ⟨a, ns, rfl, hS, hl, fun _ => rfl⟩)
  case F =>
    intro w mg fa h KX G hmg
    refine' K31W.with_fat KX (K31W.fat_is_whole KX G ?a ?l ?c ?k) fun f_is_whole => ?_
    (case a => k_is); (case l => k_is); (case c => k_is); (case k => k_is)
    refine' K31W.with_fat KX (K31W.fat_is_between KX G ?a ?l ?c ?k) fun f_is_between => ?_
    (case a => k_is); (case l => k_is); (case c => k_is); (case k => k_is)
    refine' K31W.with_fat KX (K31W.fat_is_tuple_of KX G ?a ?l ?c ?k) fun f_is_tuple_of => ?_
    (case a => k_is); (case l => k_is); (case c => k_is); (case k => k_is)
    refine' K31W.with_fat KX (K31W.fat_check_many KX G ?a ?l ?c ?k) fun f_check_many => ?_
    (case a => k_is); (case l => k_is); (case c => k_is); (case k => k_is)
    refine' K31W.with_fat KX (K31W.fat_is_sign KX G ?a ?l ?c ?k) fun f_is_sign => ?_
    (case a => k_is); (case l => k_is); (case c => k_is); (case k => k_is)
    refine' K31W.with_fat KX (K31W.fat_is_run_by KX G ?a ?l ?c ?k) fun f_is_run_by => ?_
    (case a => k_is); (case l => k_is); (case c => k_is); (case k => k_is)
    refine' K31W.with_fat KX (K31W.fat_wrong_in_effect KX G ?a ?l ?c ?k) fun f_wrong_in_effect => ?_
    (case a => k_is); (case l => k_is); (case c => k_is); (case k => k_is)
    refine' K31W.with_fat KX (K31W.fat_is_effect_by KX G ?a ?l ?c ?k) fun f_is_effect_by => ?_
    (case a => k_is); (case l => k_is); (case c => k_is); (case k => k_is)
    refine' K31W.with_fat KX (K31W.fat_is_word_by KX G ?a ?l ?c ?k) fun f_is_word_by => ?_
    (case a => k_is); (case l => k_is); (case c => k_is); (case k => k_is)
    refine' K31W.with_fat KX (K31W.fat_wrong_in_words KX G ?a ?l ?c ?k) fun f_wrong_in_words => ?_
    (case a => k_is); (case l => k_is); (case c => k_is); (case k => k_is)
    refine' K31W.with_fat KX (K31W.fat_sign_in KX G ?a ?l ?c ?k) fun f_sign_in => ?_
    (case a => k_is); (case l => k_is); (case c => k_is); (case k => k_is)
    refine' K31W.with_fat KX (K31W.fat_odd_by KX G ?a ?l ?c ?k) fun f_odd_by => ?_
    (case a => k_is); (case l => k_is); (case c => k_is); (case k => k_is)
    refine' K31W.with_fat KX (K31W.fat_choices_of KX G ?a ?l ?c ?k) fun f_choices_of => ?_
    (case a => k_is); (case l => k_is); (case c => k_is); (case k => k_is)
    refine' K31W.with_fat KX (K31W.fat_all_runs KX G ?a ?l ?c ?k) fun f_all_runs => ?_
    (case a => k_is); (case l => k_is); (case c => k_is); (case k => k_is)
    refine' K31W.with_fat KX (K31W.fat_does_agree KX G ?a ?l ?c ?k) fun f_does_agree => ?_
    (case a => k_is); (case l => k_is); (case c => k_is); (case k => k_is)
    refine' K31W.with_fat KX (K31W.fat_piece_by KX G ?a ?l ?c ?k) fun f_piece_by => ?_
    (case a => k_is); (case l => k_is); (case c => k_is); (case k => k_is)
    refine' K31W.with_fat KX (K31W.fat_all_effects KX G ?a ?l ?c ?k) fun f_all_effects => ?_
    (case a => k_is); (case l => k_is); (case c => k_is); (case k => k_is)
    refine' K31W.with_fat KX (K31W.fat_check_words KX G ?a ?l ?c ?k) fun f_check_words => ?_
    (case a => k_is); (case l => k_is); (case c => k_is); (case k => k_is)
    refine' K31W.with_fat KX (K31W.fat_piece KX G ?a ?l ?c ?k) fun f_piece => ?_
    (case a => k_is); (case l => k_is); (case c => k_is); (case k => k_is)
    refine' K31W.with_fat KX (K31W.fat_wrong_in_runs KX G ?a ?l ?c ?k) fun f_wrong_in_runs => ?_
    (case a => k_is); (case l => k_is); (case c => k_is); (case k => k_is)
    refine' K31W.with_fat KX (K31W.fat_effect_sum KX G ?a ?l ?c ?k) fun f_effect_sum => ?_
    (case a => k_is); (case l => k_is); (case c => k_is); (case k => k_is)
    refine' K31W.with_fat KX (K31W.fat_product_run KX G ?a ?l ?c ?k) fun f_product_run => ?_
    (case a => k_is); (case l => k_is); (case c => k_is); (case k => k_is)
    refine' K31W.with_fat KX (K31W.fat_like_runs KX G ?a ?l ?c ?k) fun f_like_runs => ?_
    (case a => k_is); (case l => k_is); (case c => k_is); (case k => k_is)
    refine' K31W.with_fat KX (K31W.fat_missing_by KX G ?a ?l ?c ?k) fun f_missing_by => ?_
    (case a => k_is); (case l => k_is); (case c => k_is); (case k => k_is)
    refine' K31W.with_fat KX (K31W.fat_fixed_words KX G ?a ?l ?c ?k) fun f_fixed_words => ?_
    (case a => k_is); (case l => k_is); (case c => k_is); (case k => k_is)
    refine' K31W.with_fat KX (K31W.fat_is_piece_of KX G ?a ?l ?c ?k) fun f_is_piece_of => ?_
    (case a => k_is); (case l => k_is); (case c => k_is); (case k => k_is)
    refine' K31W.with_fat KX (K31W.fat_words_by KX G ?a ?l ?c ?k) fun f_words_by => ?_
    (case a => k_is); (case l => k_is); (case c => k_is); (case k => k_is)
    refine' K31W.with_fat KX (K31W.fat_check_runs KX G ?a ?l ?c ?k) fun f_check_runs => ?_
    (case a => k_is); (case l => k_is); (case c => k_is); (case k => k_is)
    refine' K31W.with_fat KX (K31W.fat_words_of KX G ?a ?l ?c ?k) fun f_words_of => ?_
    (case a => k_is); (case l => k_is); (case c => k_is); (case k => k_is)
    refine' K31W.with_fat KX (K31W.fat_missing KX G ?a ?l ?c ?k) fun f_missing => ?_
    (case a => k_is); (case l => k_is); (case c => k_is); (case k => k_is)
    refine' K31W.with_fat KX (K31W.fat__law_is_whole KX G ?a ?l ?c ?k) fun f__law_is_whole => ?_
    (case a => k_is); (case l => k_is); (case c => k_is); (case k => k_is)
    refine' K31W.with_fat KX (K31W.fat__law_is_within KX G ?a ?l ?c ?k) fun f__law_is_within => ?_
    (case a => k_is); (case l => k_is); (case c => k_is); (case k => k_is)
    refine' K31W.with_fat KX (K31W.fat__law_is_tuple KX G ?a ?l ?c ?k) fun f__law_is_tuple => ?_
    (case a => k_is); (case l => k_is); (case c => k_is); (case k => k_is)
    refine' K31W.with_fat KX (K31W.fat__law_effects KX G ?a ?l ?c ?k) fun f__law_effects => ?_
    (case a => k_is); (case l => k_is); (case c => k_is); (case k => k_is)
    refine' K31W.with_fat KX (K31W.fat__law_runs KX G ?a ?l ?c ?k) fun f__law_runs => ?_
    (case a => k_is); (case l => k_is); (case c => k_is); (case k => k_is)
    refine' K31W.with_fat KX (K31W.fat__law_sign KX G ?a ?l ?c ?k) fun f__law_sign => ?_
    (case a => k_is); (case l => k_is); (case c => k_is); (case k => k_is)
    refine' K31W.with_fat KX (K31W.fat__law_parted KX G ?a ?l ?c ?k) fun f__law_parted => ?_
    (case a => k_is); (case l => k_is); (case c => k_is); (case k => k_is)
    refine' K31W.with_fat KX (K31W.fat__law_fitting KX G ?a ?l ?c ?k) fun f__law_fitting => ?_
    (case a => k_is); (case l => k_is); (case c => k_is); (case k => k_is)
    refine' K31W.with_fat KX (K31W.fat__law_total KX G ?a ?l ?c ?k) fun f__law_total => ?_
    (case a => k_is); (case l => k_is); (case c => k_is); (case k => k_is)
    refine' K31W.with_fat KX (K31W.fat__law_is_closed KX G ?a ?l ?c ?k) fun f__law_is_closed => ?_
    (case a => k_is); (case l => k_is); (case c => k_is); (case k => k_is)
    refine' K31W.with_fat KX (K31W.fat__law_effect_fault KX G ?a ?l ?c ?k) fun f__law_effect_fault => ?_
    (case a => k_is); (case l => k_is); (case c => k_is); (case k => k_is)
    refine' K31W.with_fat KX (K31W.fat__law_is_word KX G ?a ?l ?c ?k) fun f__law_is_word => ?_
    (case a => k_is); (case l => k_is); (case c => k_is); (case k => k_is)
    refine' K31W.with_fat KX (K31W.fat__law_words_fault KX G ?a ?l ?c ?k) fun f__law_words_fault => ?_
    (case a => k_is); (case l => k_is); (case c => k_is); (case k => k_is)
    refine' K31W.with_fat KX (K31W.fat__law_is_lot KX G ?a ?l ?c ?k) fun f__law_is_lot => ?_
    (case a => k_is); (case l => k_is); (case c => k_is); (case k => k_is)
    refine' K31W.with_fat KX (K31W.fat__law_is_missing KX G ?a ?l ?c ?k) fun f__law_is_missing => ?_
    (case a => k_is); (case l => k_is); (case c => k_is); (case k => k_is)
    refine' K31W.with_fat KX (K31W.fat__law_well KX G ?a ?l ?c ?k) fun f__law_well => ?_
    (case a => k_is); (case l => k_is); (case c => k_is); (case k => k_is)
    refine' K31W.with_fat KX (K31W.fat__law_draw KX G ?a ?l ?c ?k) fun f__law_draw => ?_
    (case a => k_is); (case l => k_is); (case c => k_is); (case k => k_is)
    refine' K31W.with_fat KX (K31W.fat__law_one KX G ?a ?l ?c ?k) fun f__law_one => ?_
    (case a => k_is); (case l => k_is); (case c => k_is); (case k => k_is)
    refine' K31W.with_fat KX (K31W.fat__law_run KX G ?a ?l ?c ?k) fun f__law_run => ?_
    (case a => k_is); (case l => k_is); (case c => k_is); (case k => k_is)
    refine' K31W.with_fat KX (K31W.fat__law_effect KX G ?a ?l ?c ?k) fun f__law_effect => ?_
    (case a => k_is); (case l => k_is); (case c => k_is); (case k => k_is)
    refine' K31W.with_fat KX (K31W.fat__law_words KX G ?a ?l ?c ?k) fun f__law_words => ?_
    (case a => k_is); (case l => k_is); (case c => k_is); (case k => k_is)
    refine' K31W.with_fat KX (K31W.fat__law_mixed KX G ?a ?l ?c ?k) fun f__law_mixed => ?_
    (case a => k_is); (case l => k_is); (case c => k_is); (case k => k_is)
    refine' K31W.with_fat KX (K31W.fat__law_plan KX G ?a ?l ?c ?k) fun f__law_plan => ?_
    (case a => k_is); (case l => k_is); (case c => k_is); (case k => k_is)
    refine' K31W.with_fat KX (K31W.fat__law_right KX G ?a ?l ?c ?k) fun f__law_right => ?_
    (case a => k_is); (case l => k_is); (case c => k_is); (case k => k_is)
    refine' K31W.with_fat KX (K31W.fat_law KX G ?a ?l ?c ?k) fun f_law => ?_
    (case a => k_is); (case l => k_is); (case c => k_is); (case k => k_is)
    refine' K31W.with_none (x := "isinstance") KX G ?a fun z_isinstance => ?_
    (case a => k_is)
    refine' K31W.with_none (x := "len") KX G ?a fun z_len => ?_
    (case a => k_is)
    refine' K31W.with_none (x := "all") KX G ?a fun z_all => ?_
    (case a => k_is)
    refine' K31W.with_none (x := "enumerate") KX G ?a fun z_enumerate => ?_
    (case a => k_is)
    refine' K31W.with_none (x := "tuple") KX G ?a fun z_tuple => ?_
    (case a => k_is)
    refine' K31W.with_none (x := "sorted") KX G ?a fun z_sorted => ?_
    (case a => k_is)
    refine' K31W.with_none (x := "range") KX G ?a fun z_range => ?_
    (case a => k_is)
    refine' K31W.with_none (x := "sum") KX G ?a fun z_sum => ?_
    (case a => k_is)
    refine' K31W.with_none (x := "zip") KX G ?a fun z_zip => ?_
    (case a => k_is)
    refine' K31W.with_none (x := "abs") KX G ?a fun z_abs => ?_
    (case a => k_is)
    refine' K31W.with_none (x := "list") KX G ?a fun z_list => ?_
    (case a => k_is)
    refine' K31W.with_none (x := "int") KX G ?a fun z_int => ?_
    (case a => k_is)
    refine' K31W.with_none (x := "bool") KX G ?a fun z_bool => ?_
    (case a => k_is)
    refine' K31W.with_none (x := "divmod") KX G ?a fun z_divmod => ?_
    (case a => k_is)
    refine' K31W.with_none (x := "max") KX G ?a fun z_max => ?_
    (case a => k_is)
    refine' K31W.with_none (x := "min") KX G ?a fun z_min => ?_
    (case a => k_is)
    refine' K31W.with_none (x := "any") KX G ?a fun z_any => ?_
    (case a => k_is)
    refine' K31W.with_none (x := "repr") KX G ?a fun z_repr => ?_
    (case a => k_is)
    refine' K31W.with_int (x := "MOST_FACTORS") (i := 6) KX G ?a fun c_MOST_FACTORS => ?_
    (case a => k_is)
    refine' K31W.with_int (x := "MOST_WORDS") (i := 6) KX G ?a fun c_MOST_WORDS => ?_
    (case a => k_is)
    refine' K31W.with_int (x := "MOST_RUNS") (i := 64) KX G ?a fun c_MOST_RUNS => ?_
    (case a => k_is)
    refine' K31W.all_mk (aN := _) ⟨z_isinstance, z_len, z_all, z_enumerate, z_tuple, z_sorted, z_range, z_sum, z_zip, z_abs, z_list, z_int, z_bool, z_divmod, z_max, z_min, z_any, z_repr, c_MOST_FACTORS, c_MOST_WORDS, c_MOST_RUNS, PySem.W.mg_of KX G ?n, K31W.sq_nothing ?l ?c ?d, f_is_whole, f_is_between, f_is_tuple_of, f_check_many, f_is_sign, f_is_run_by, f_wrong_in_effect, f_is_effect_by, f_is_word_by, f_wrong_in_words, f_sign_in, f_odd_by, f_choices_of, f_all_runs, f_does_agree, f_piece_by, f_all_effects, f_check_words, f_piece, f_wrong_in_runs, f_effect_sum, f_product_run, f_like_runs, f_missing_by, f_fixed_words, f_is_piece_of, f_words_by, f_check_runs, f_words_of, f_missing, f__law_is_whole, f__law_is_within, f__law_is_tuple, f__law_effects, f__law_runs, f__law_sign, f__law_parted, f__law_fitting, f__law_total, f__law_is_closed, f__law_effect_fault, f__law_is_word, f__law_words_fault, f__law_is_lot, f__law_is_missing, f__law_well, f__law_draw, f__law_one, f__law_run, f__law_effect, f__law_words, f__law_mixed, f__law_plan, f__law_right⟩ f_law hmg
    (case n => k_is); (case l => k_is); (case c => exact rfl); (case d => exact rfl)
