import PyProof.Rows.All
import Wide.All
import OpenK.AllK
import Wide.FinOn
import HandS.ForMost
import HandS.ForExc
import HandS.Evl
import HandS.Walk
import HandS.Zip
import HandS.IsInst
import HandS.ExcInit
import HandS.TryOnly
import HandS.Property
import HandS.MakeKwOnly
import HandS.Style
import HandS.WideBits
import HandS.RaiseMore
import HandS.FStr
import KE.DatumIndex
import KE.GoesMore
import PyProof.InstNe
import PySem.Challenge.RW_restkeepers_k21_whole_rooms_made
import KE.RegKIsAll
set_option autoImplicit false
/-! Plain mathematics: rows of rests in steps, their zeros, tables led by tables. No program in sight. -/
namespace RK
abbrev Row := List Int
abbrev Tab := List Row
/-- the item at a place -/
def at0 (r : Row) (i : Nat) : Int := r.getD i 0
/-- a row less so much of another one -/
def sub1 (p m : Int) (r h : Row) : Row := List.zipWith (fun a b => (a - m * b) % p) r h
def scl (p m : Int) (r : Row) : Row := r.map fun a => m * a % p
/-- one place of the law's own steps: nothing is let go -/
def turnL (p : Int) (inv : Int → Int) (k : Nat) (s : Tab × Tab) : Tab × Tab :=
  match s.1.filter (fun r => decide (at0 r k ≠ 0)) with
  | [] => s
  | h :: _ => (s.1.map (fun r => sub1 p (at0 r k) r (scl p (inv (at0 h k)) h)), s.2.map (fun r => sub1 p (at0 r k) r (scl p (inv (at0 h k)) h)) ++ [scl p (inv (at0 h k)) h])
def nz (r : Row) : Bool := r.any fun x => decide (x ≠ 0)
/-- one place of the program's steps: rows of noughts are let go -/
def turnP (p : Int) (inv : Int → Int) (k : Nat) (s : Tab × Tab) : Tab × Tab :=
  match s.1.filter (fun r => decide (at0 r k ≠ 0)) with
  | [] => s
  | h :: _ => ((s.1.map (fun r => sub1 p (at0 r k) r (scl p (inv (at0 h k)) h))).filter nz, s.2.map (fun r => sub1 p (at0 r k) r (scl p (inv (at0 h k)) h)) ++ [scl p (inv (at0 h k)) h])
def wide (rows : Tab) : Nat := match rows with
  | [] => 0
  | r :: _ => r.length
def runL (p : Int) (inv : Int → Int) (rows : Tab) : Nat → Tab × Tab
  | 0 => (rows, [])
  | k + 1 => turnL p inv k (runL p inv rows k)
def runP (p : Int) (inv : Int → Int) (rows : Tab) : Nat → Tab × Tab
  | 0 => (rows, [])
  | k + 1 => turnP p inv k (runP p inv rows k)
def stepsL (p : Int) (inv : Int → Int) (rows : Tab) : Tab := (runL p inv rows (wide rows)).2
def stepsP (p : Int) (inv : Int → Int) (rows : Tab) : Tab := (runP p inv rows (wide rows)).2
def GoodR (p : Int) (n : Nat) (r : Row) : Prop := r.length = n ∧ ∀ x ∈ r, 0 ≤ x ∧ x < p
def Good (p : Int) (n : Nat) (rows : Tab) : Prop := ∀ r ∈ rows, GoodR p n r
/-- the first place that is not nought -/
def headOf (r : Row) : Nat := ((List.range r.length).filter fun i => decide (at0 r i ≠ 0)).headD 0
/-- with nothing but noughts ahead of h, and 1 there -/
def Lead (r : Row) (h : Nat) : Prop := h < r.length ∧ at0 r h = 1 ∧ ∀ j, j < h → at0 r j = 0

/-! ### items -/
theorem at0_nil (i : Nat) : at0 [] i = 0 := by simp [at0]
theorem at0_zipWith {f : Int → Int → Int} {a b : Row} {i : Nat} (h1 : i < a.length) (h2 : i < b.length) : at0 (List.zipWith f a b) i = f (at0 a i) (at0 b i) := by
  simp [at0, List.getD_eq_getElem?_getD, List.getElem?_zipWith, h1, h2]
theorem at0_map {f : Int → Int} {a : Row} {i : Nat} (h1 : i < a.length) : at0 (a.map f) i = f (at0 a i) := by
  simp [at0, List.getD_eq_getElem?_getD, h1]
theorem at0_out {a : Row} {i : Nat} (h : a.length ≤ i) : at0 a i = 0 := by
  simp [at0, List.getD_eq_getElem?_getD, h]
theorem at0_get {a : Row} {i : Nat} (h : i < a.length) : at0 a i = a[i] := by
  simp [at0, List.getD_eq_getElem?_getD, h]
theorem at0_mem {a : Row} {i : Nat} (h : i < a.length) : at0 a i ∈ a := by
  rw [at0_get h]
  exact List.getElem_mem h
theorem row_ext {a b : Row} (hl : a.length = b.length) (h : ∀ i, i < a.length → at0 a i = at0 b i) : a = b := by
  refine List.ext_getElem hl fun i h1 h2 => ?_
  have q := h i h1
  rwa [at0_get h1, at0_get h2] at q
theorem GoodR.at {p : Int} {n : Nat} {r : Row} (g : GoodR p n r) (hp : 0 < p) (i : Nat) : 0 ≤ at0 r i ∧ at0 r i < p := by
  by_cases h : i < r.length
  · exact g.2 _ (at0_mem h)
  · rw [at0_out (by omega)]
    exact ⟨Int.le_refl _, hp⟩
theorem sub1_len {p m : Int} {r h : Row} {n : Nat} (a : r.length = n) (b : h.length = n) : (sub1 p m r h).length = n := by
  simp [sub1, a, b]
theorem sub1_at {p m : Int} {r h : Row} {n i : Nat} (a : r.length = n) (b : h.length = n) (hi : i < n) : at0 (sub1 p m r h) i = (at0 r i - m * at0 h i) % p :=
  at0_zipWith (by omega) (by omega)
theorem sub1_good {p m : Int} {r h : Row} {n : Nat} (hp : 0 < p) (a : r.length = n) (b : h.length = n) : GoodR p n (sub1 p m r h) := by
  refine ⟨sub1_len a b, fun x hx => ?_⟩
  obtain ⟨i, hi, e⟩ := List.mem_iff_getElem.mp hx
  rw [← e, ← at0_get hi, sub1_at a b (by rw [sub1_len a b] at hi; exact hi)]
  exact ⟨Int.emod_nonneg _ (by omega), Int.emod_lt_of_pos _ hp⟩
theorem scl_len {p m : Int} {r : Row} : (scl p m r).length = r.length := by simp [scl]
theorem scl_at {p m : Int} {r : Row} {i : Nat} (hi : i < r.length) : at0 (scl p m r) i = m * at0 r i % p := at0_map hi
theorem scl_good {p m : Int} {r : Row} {n : Nat} (hp : 0 < p) (a : r.length = n) : GoodR p n (scl p m r) := by
  refine ⟨by rw [scl_len, a], fun x hx => ?_⟩
  obtain ⟨y, _, e⟩ := List.mem_map.mp hx
  rw [← e]
  exact ⟨Int.emod_nonneg _ (by omega), Int.emod_lt_of_pos _ hp⟩
theorem nz_false {r : Row} : nz r = false ↔ ∀ i, i < r.length → at0 r i = 0 := by
  simp only [nz, List.any_eq_false, decide_eq_true_eq, Decidable.not_not]
  constructor
  · intro h i hi
    exact h _ (at0_mem hi)
  · intro h x hx
    obtain ⟨i, hi, e⟩ := List.mem_iff_getElem.mp hx
    rw [← e, ← at0_get hi]
    exact h i hi
theorem nz_of {r : Row} {i : Nat} (h : at0 r i ≠ 0) : nz r = true := by
  cases q : nz r with
  | true => rfl
  | false =>
    by_cases hi : i < r.length
    · exact absurd (nz_false.mp q i hi) h
    · exact absurd (at0_out (by omega)) h
theorem Lead.head {r : Row} {h : Nat} (l : Lead r h) : headOf r = h := by
  obtain ⟨h1, h2, h3⟩ := l
  have e : List.range r.length = List.range h ++ (h :: (List.range' (h + 1) (r.length - h - 1))) := by
    rw [List.range_eq_range', List.range_eq_range', ← List.range'_succ, show r.length - h - 1 + 1 = r.length - h by omega]
    have q := List.range'_append (s := 0) (m := h) (n := r.length - h) (step := 1)
    rw [show 0 + 1 * h = h by omega, show h + (r.length - h) = r.length by omega] at q
    exact q.symm
  unfold headOf
  rw [e, List.filter_append, List.filter_eq_nil_iff.mpr fun x hx => by simp [h3 x (List.mem_range.mp hx)], List.nil_append, List.filter_cons, if_pos (by simp [h2])]
  rfl

/-! ### a round of steps -/
/-- what inv is to do -/
def InvOk (p : Int) (inv : Int → Int) : Prop := ∀ x, 0 < x → x < p → inv x * x % p = 1
/-- behind k places -/
structure Stand (p : Int) (n k : Nat) (s : Tab × Tab) : Prop where
  left : Good p n s.1
  found : Good p n s.2
  low : ∀ r ∈ s.1, ∀ j, j < k → at0 r j = 0
  heads : ∃ hs : List Nat, hs.Pairwise (· < ·) ∧ (∀ h ∈ hs, h < k) ∧ hs.length = s.2.length ∧ ∀ (i : Nat) (r : Row) (h : Nat), s.2[i]? = some r → hs[i]? = some h → Lead r h
section
variable {p : Int} {inv : Int → Int} {n k : Nat}
theorem head_row (hp : 1 < p) (hi : InvOk p inv) {h : Row} (g : GoodR p n h) (hk : k < n) (low : ∀ j, j < k → at0 h j = 0) (ne : at0 h k ≠ 0) :
    GoodR p n (scl p (inv (at0 h k)) h) ∧ at0 (scl p (inv (at0 h k)) h) k = 1 ∧ ∀ j, j < k → at0 (scl p (inv (at0 h k)) h) j = 0 := by
  have hl := g.1
  have b := g.at (by omega) k
  refine ⟨scl_good (by omega) hl, ?_, fun j hj => ?_⟩
  · rw [scl_at (by omega)]
    exact hi _ (by omega) b.2
  · rw [scl_at (by omega), low j hj, Int.mul_zero, Int.zero_emod]
theorem emod_self {x : Int} (h0 : 0 ≤ x) (h1 : x < p) : x % p = x := Int.emod_eq_of_lt h0 h1
/-- a row that leads stays one when a multiple of a later head is taken off -/
theorem lead_sub {m : Int} {r hd : Row} {h : Nat} (hp : 1 < p) (g : GoodR p n r) (gh : GoodR p n hd) (l : Lead r h) (hk : h < k) (low : ∀ j, j < k → at0 hd j = 0) : Lead (sub1 p m r hd) h := by
  obtain ⟨h1, h2, h3⟩ := l
  have hn : h < n := by rw [← g.1]; exact h1
  have same : ∀ j, j < k → j < n → at0 (sub1 p m r hd) j = at0 r j := fun j hj hjn => by
    rw [sub1_at g.1 gh.1 hjn, low j hj, Int.mul_zero, Int.sub_zero]
    have b := g.at (by omega) j
    exact emod_self b.1 b.2
  refine ⟨by rw [sub1_len g.1 gh.1]; exact hn, by rw [same h hk hn]; exact h2, fun j hj => by rw [same j (by omega) (by omega)]; exact h3 j hj⟩
theorem filter_cases (k : Nat) (l : Tab) : (l.filter (fun r => decide (at0 r k ≠ 0)) = [] ∧ ∀ r ∈ l, at0 r k = 0) ∨
    ∃ h t A B, l.filter (fun r => decide (at0 r k ≠ 0)) = h :: t ∧ l = A ++ h :: B ∧ (∀ r ∈ A, at0 r k = 0) ∧ at0 h k ≠ 0 := by
  cases q : l.filter (fun r => decide (at0 r k ≠ 0)) with
  | nil =>
    refine .inl ⟨rfl, fun r hr => ?_⟩
    have z := List.filter_eq_nil_iff.mp q r hr
    simpa using z
  | cons h t =>
    obtain ⟨A, B, e, hA, hh, _⟩ := List.filter_eq_cons_iff.mp q
    exact .inr ⟨h, t, A, B, rfl, e, fun r hr => by simpa using hA r hr, by simpa using hh⟩
theorem Stand.turnL {s : Tab × Tab} (st : Stand p n k s) (hp : 1 < p) (hi : InvOk p inv) (hk : k < n) : Stand p n (k + 1) (turnL p inv k s) := by
  obtain ⟨gl, gf, low, hs, h1, h2, h3, h4⟩ := st
  unfold RK.turnL
  rcases filter_cases k s.1 with ⟨e, z⟩ | ⟨h, t, A, B, e, el, hA, hh⟩
  · rw [e]
    refine ⟨gl, gf, fun r hr j hj => ?_, hs, h1, fun h hm => Nat.lt_succ_of_lt (h2 h hm), h3, h4⟩
    by_cases q : j < k
    · exact low r hr j q
    · rw [show j = k by omega]
      exact z r hr
  · rw [e]
    dsimp only
    have hm : h ∈ s.1 := by rw [el]; simp
    obtain ⟨a1, a2, a3⟩ := head_row hp hi (gl h hm) hk (low h hm) hh
    generalize hhd : scl p (inv (at0 h k)) h = hd at a1 a2 a3 ⊢
    refine ⟨fun r hr => ?_, fun r hr => ?_, fun r hr j hj => ?_, hs ++ [k], ?_, fun x hx => ?_, by simp [h3], fun i r x e1 e2 => ?_⟩
    · obtain ⟨y, hy, e⟩ := List.mem_map.mp hr
      rw [← e]
      exact sub1_good (by omega) (gl y hy).1 a1.1
    · rcases List.mem_append.mp hr with hr | hr
      · obtain ⟨y, hy, e⟩ := List.mem_map.mp hr
        rw [← e]
        exact sub1_good (by omega) (gf y hy).1 a1.1
      · rw [List.mem_singleton.mp hr]
        exact a1
    · obtain ⟨y, hy, e⟩ := List.mem_map.mp hr
      rw [← e, sub1_at (gl y hy).1 a1.1 (by omega)]
      by_cases q : j < k
      · rw [low y hy j q, a3 j q, Int.mul_zero, Int.sub_zero, Int.zero_emod]
      · rw [show j = k by omega, a2, Int.mul_one, Int.sub_self, Int.zero_emod]
    · rw [List.pairwise_append]
      exact ⟨h1, List.pairwise_singleton .., fun a ha b hb => by rw [List.mem_singleton.mp hb]; exact h2 a ha⟩
    · rcases List.mem_append.mp hx with hx | hx
      · exact Nat.lt_succ_of_lt (h2 x hx)
      · rw [List.mem_singleton.mp hx]
        exact Nat.lt_succ_self _
    · have e1' : ((s.2.map fun r => sub1 p (at0 r k) r hd) ++ [hd])[i]? = some r := e1
      by_cases q : i < s.2.length
      · rw [List.getElem?_append_left (by simpa using q), List.getElem?_map] at e1'
        rw [List.getElem?_append_left (by omega)] at e2
        obtain ⟨y, hy, ey⟩ := Option.map_eq_some_iff.mp e1'
        rw [← ey]
        exact lead_sub hp (gf y (List.mem_of_getElem? hy)) a1 (h4 i y x hy e2) (h2 x (List.mem_of_getElem? e2)) a3
      · rw [List.getElem?_append_right (by simpa using q)] at e1'
        rw [List.getElem?_append_right (by omega)] at e2
        have z1 : r = hd := by
          have w := List.mem_of_getElem? e1'
          exact List.mem_singleton.mp w
        have z2 : x = k := List.mem_singleton.mp (List.mem_of_getElem? e2)
        rw [z1, z2]
        exact ⟨by rw [a1.1]; exact hk, a2, a3⟩
theorem stand_L {rows : Tab} (hp : 1 < p) (hi : InvOk p inv) (g : Good p n rows) : ∀ k, k ≤ n → Stand p n k (runL p inv rows k)
  | 0, _ => ⟨g, fun r hr => by simp [runL] at hr, fun _ _ j hj => absurd hj (Nat.not_lt_zero j), [], .nil, fun h hm => by simp at hm, rfl, fun i r h e _ => by simp [runL] at e⟩
  | k + 1, hk => (stand_L hp hi g k (by omega)).turnL hp hi (by omega)

/-! ### the program's steps are the law's -/
theorem zero_sub {r hd : Row} (hr : r.length = n) (hh : hd.length = n) (z : nz r = false) : nz (sub1 p (at0 r k) r hd) = false := by
  rw [nz_false] at z ⊢
  have zk : at0 r k = 0 := by
    by_cases q : k < r.length
    · exact z k q
    · exact at0_out (by omega)
  intro i hi
  rw [sub1_len hr hh] at hi
  rw [sub1_at hr hh hi, z i (by omega), zk, Int.zero_mul, Int.sub_self, Int.zero_emod]
theorem filter_sub {hd : Row} {k : Nat} (hh : hd.length = n) : ∀ {l : Tab}, Good p n l → ((l.filter nz).map fun r => sub1 p (at0 r k) r hd).filter nz = (l.map fun r => sub1 p (at0 r k) r hd).filter nz
  | [], _ => rfl
  | r :: l, g => by
    have ih := filter_sub (hd := hd) (k := k) hh (l := l) fun x hx => g x (List.mem_cons_of_mem _ hx)
    cases q : nz r with
    | true =>
      rw [List.filter_cons, if_pos q, List.map_cons, List.map_cons, List.filter_cons, List.filter_cons, ih]
    | false =>
      rw [List.filter_cons, if_neg (by rw [q]; exact Bool.false_ne_true), ih, List.map_cons, List.filter_cons,
        if_neg (by rw [zero_sub (g r List.mem_cons_self).1 hh q]; exact Bool.false_ne_true)]
theorem run_eq {rows : Tab} (hp : 1 < p) (hi : InvOk p inv) (g : Good p n rows) : ∀ k, k ≤ n → (runP p inv rows k).1.filter nz = (runL p inv rows k).1.filter nz ∧ (runP p inv rows k).2 = (runL p inv rows k).2 ∧ Good p n (runP p inv rows k).1
  | 0, _ => ⟨rfl, rfl, g⟩
  | k + 1, hk => by
    obtain ⟨e1, e2, gp⟩ := run_eq hp hi g k (by omega)
    have st := stand_L hp hi g k (by omega)
    have ff : ∀ l : Tab, l.filter (fun r => decide (at0 r k ≠ 0)) = (l.filter nz).filter (fun r => decide (at0 r k ≠ 0)) := fun l => by
      rw [List.filter_filter]
      refine List.filter_congr fun x _ => ?_
      by_cases q : at0 x k = 0
      · simp [q]
      · simp [q, nz_of q]
    have eh : (runP p inv rows k).1.filter (fun r => decide (at0 r k ≠ 0)) = (runL p inv rows k).1.filter (fun r => decide (at0 r k ≠ 0)) := by
      rw [ff, ff (runL p inv rows k).1, e1]
    show (turnP p inv k (runP p inv rows k)).1.filter nz = (turnL p inv k (runL p inv rows k)).1.filter nz ∧ _
    show _ ∧ (turnP p inv k (runP p inv rows k)).2 = (turnL p inv k (runL p inv rows k)).2 ∧ Good p n (turnP p inv k (runP p inv rows k)).1
    unfold turnP turnL
    rw [eh]
    rcases filter_cases k (runL p inv rows k).1 with ⟨e, z⟩ | ⟨h, t, A, B, e, el, hA, hh⟩
    · rw [e]
      exact ⟨e1, e2, gp⟩
    · rw [e]
      have hm : h ∈ (runL p inv rows k).1 := by rw [el]; simp
      have gh := st.left h hm
      have lh : (scl p (inv (at0 h k)) h).length = n := by rw [scl_len, gh.1]
      refine ⟨?_, by rw [e2], fun r hr => ?_⟩
      · show ((((runP p inv rows k).1.map _).filter nz).filter nz) = _
        rw [List.filter_filter]
        simp only [Bool.and_self]
        rw [← filter_sub lh gp, ← filter_sub lh st.left, e1]
      · obtain ⟨y, hy, e⟩ := List.mem_map.mp (List.mem_filter.mp hr).1
        rw [← e]
        exact sub1_good (by omega) (gp y hy).1 lh
theorem steps_eq {rows : Tab} (hp : 1 < p) (hi : InvOk p inv) (g : Good p (wide rows) rows) : stepsP p inv rows = stepsL p inv rows := (run_eq hp hi g _ (Nat.le_refl _)).2.1
end

/-! ### free rows -/
/-- the sum of the rows' items at a place, each times its number -/
def comb : List Int → Tab → Nat → Int
  | c :: cs, r :: rs, j => c * at0 r j + comb cs rs j
  | _, _, _ => 0
def Free (p : Int) (n : Nat) (rows : Tab) : Prop := ∀ cs : List Int, cs.length = rows.length → (∀ j, j < n → p ∣ comb cs rows j) → ∀ c ∈ cs, p ∣ c
section
variable {p : Int} {n k : Nat}
theorem comb_append : ∀ {as : List Int} {A : Tab} {bs : List Int} {B : Tab} {j : Nat}, as.length = A.length → comb (as ++ bs) (A ++ B) j = comb as A j + comb bs B j
  | [], [], _, _, _, _ => by simp [comb]
  | [], _ :: _, _, _, _, h => by simp at h
  | _ :: _, [], _, _, _, h => by simp at h
  | a :: as, r :: A, bs, B, j, h => by
    have ih := comb_append (as := as) (A := A) (bs := bs) (B := B) (j := j) (by simpa using h)
    show a * at0 r j + comb (as ++ bs) (A ++ B) j = a * at0 r j + comb as A j + comb bs B j
    rw [ih]; omega
theorem comb_zero : ∀ (m : Nat) (A : Tab) (j : Nat), comb (List.replicate m 0) A j = 0
  | 0, A, j => by cases A <;> rfl
  | m + 1, [], j => by simp [List.replicate_succ, comb]
  | m + 1, r :: A, j => by
    show (0 : Int) * at0 r j + comb (List.replicate m 0) A j = 0
    rw [comb_zero m A j]; omega
theorem Free.nz (hp : 1 < p) {rows : Tab} (hl : ∀ r ∈ rows, r.length = n) (f : Free p n rows) : ∀ r ∈ rows, nz r = true := by
  intro r hr
  cases q : RK.nz r with
  | true => rfl
  | false =>
    obtain ⟨A, B, e⟩ := List.append_of_mem hr
    have z := f (List.replicate A.length 0 ++ 1 :: List.replicate B.length 0) (by rw [e]; simp) (fun j hj => by
      rw [e, comb_append (by simp)]
      show p ∣ comb (List.replicate A.length 0) A j + (1 * at0 r j + comb (List.replicate B.length 0) B j)
      rw [comb_zero, comb_zero, nz_false.mp q j (by rw [hl r hr]; exact hj)]
      exact ⟨0, by simp⟩) 1 (by simp)
    have := Int.le_of_dvd (by decide) z
    omega
/-- congruence, as a difference divided -/
theorem comb_sub (hd : Row) (hh : hd.length = n) (m : Row → Int) {j : Nat} (hj : j < n) : ∀ {cs : List Int} {A : Tab}, (∀ r ∈ A, r.length = n) → cs.length = A.length →
    p ∣ comb cs (A.map fun r => sub1 p (m r) r hd) j - (comb cs A j - comb cs (A.map fun r => [m r]) 0 * at0 hd j)
  | [], A, _, _ => by
    have e : ∀ (B : Tab) (i : Nat), comb [] B i = 0 := fun B i => by cases B <;> rfl
    rw [e, e, e]; exact ⟨0, by simp⟩
  | c :: cs, [], _, h => by simp at h
  | c :: cs, r :: A, hl, h => by
    obtain ⟨w, hw⟩ := comb_sub hd hh m hj (cs := cs) (A := A) (fun x hx => hl x (List.mem_cons_of_mem _ hx)) (by simpa using h)
    show p ∣ (c * at0 (sub1 p (m r) r hd) j + comb cs (A.map fun r => sub1 p (m r) r hd) j) - ((c * at0 r j + comb cs A j) - (c * at0 [m r] 0 + comb cs (A.map fun r => [m r]) 0) * at0 hd j)
    have e1 : at0 [m r] 0 = m r := rfl
    rw [sub1_at (hl r List.mem_cons_self) hh hj, e1]
    have e2 := Int.emod_def (at0 r j - m r * at0 hd j) p
    refine ⟨w - c * ((at0 r j - m r * at0 hd j) / p), ?_⟩
    rw [e2]
    generalize (at0 r j - m r * at0 hd j) / p = t at *
    generalize comb cs (A.map fun r => sub1 p (m r) r hd) j = u at *
    generalize comb cs A j = v at *
    generalize comb cs (A.map fun r => [m r]) 0 = x at *
    grind
theorem dvd_of_diff {a b : Int} (h : p ∣ a - b) (ha : p ∣ a) : p ∣ b := by
  obtain ⟨x, hx⟩ := h
  obtain ⟨y, hy⟩ := ha
  exact ⟨y - x, by rw [Int.mul_sub, ← hx, ← hy]; omega⟩
/-- a head taken out, the others less their multiples of it: they stay free -/
theorem Free.turn {A B : Tab} {h : Row} (g : Good p n (A ++ h :: B)) (f : Free p n (A ++ h :: B)) (i : Int) :
    Free p n ((A ++ B).map fun r => sub1 p (at0 r k) r (scl p i h)) := by
  have hh : (scl p i h).length = n := by rw [scl_len]; exact (g h (by simp)).1
  have hlA : ∀ r ∈ A, r.length = n := fun r hr => (g r (by simp [hr])).1
  have hlB : ∀ r ∈ B, r.length = n := fun r hr => (g r (by simp [hr])).1
  intro cs hcs hz c hc
  rw [List.map_append] at hcs hz
  obtain ⟨as, bs, rfl, ha⟩ : ∃ as bs, cs = as ++ bs ∧ as.length = A.length := ⟨cs.take A.length, cs.drop A.length, (List.take_append_drop _ _).symm, by
    rw [List.length_take]
    simp at hcs
    omega⟩
  have hb : bs.length = B.length := by
    simp at hcs
    omega
  generalize hm : comb as (A.map fun r => [at0 r k]) 0 + comb bs (B.map fun r => [at0 r k]) 0 = m
  have key := f (as ++ (-(m * i)) :: bs) (by simp [ha, hb]) (fun j hj => by
    have z := hz j hj
    rw [comb_append (by simpa using ha)] at z
    have zA := comb_sub (p := p) (scl p i h) hh (fun r => at0 r k) hj hlA ha
    have zB := comb_sub (p := p) (scl p i h) hh (fun r => at0 r k) hj hlB hb
    rw [comb_append ha]
    show p ∣ comb as A j + (-(m * i) * at0 h j + comb bs B j)
    have e : at0 (scl p i h) j = i * at0 h j % p := scl_at (by rw [(g h (by simp)).1]; exact hj)
    rw [e, Int.emod_def] at zA zB
    obtain ⟨x, hx⟩ := z
    obtain ⟨y, hy⟩ := zA
    obtain ⟨w, hw⟩ := zB
    rw [← hm]
    refine ⟨x - y - w - (comb as (A.map fun r => [at0 r k]) 0 + comb bs (B.map fun r => [at0 r k]) 0) * (i * at0 h j / p), ?_⟩
    generalize i * at0 h j / p = t at *
    generalize comb as (A.map fun r => [at0 r k]) 0 = a1 at *
    generalize comb bs (B.map fun r => [at0 r k]) 0 = b1 at *
    generalize comb as (A.map fun r => sub1 p (at0 r k) r (scl p i h)) j = a2 at *
    generalize comb bs (B.map fun r => sub1 p (at0 r k) r (scl p i h)) j = b2 at *
    grind)
  refine key c ?_
  rcases List.mem_append.mp hc with q | q
  · simp [q]
  · simp [q]
end
section
variable {p : Int} {inv : Int → Int} {n k : Nat}
/-- free rows: each round that finds a head lets one row go; at the end none is left -/
theorem free_run {rows : Tab} (hp : 1 < p) (hi : InvOk p inv) (g : Good p n rows) (f : Free p n rows) : ∀ k, k ≤ n → Free p n (runP p inv rows k).1 ∧ Good p n (runP p inv rows k).1 ∧ (∀ r ∈ (runP p inv rows k).1, ∀ j, j < k → at0 r j = 0) ∧ (runP p inv rows k).1.length + (runP p inv rows k).2.length = rows.length
  | 0, _ => ⟨f, g, fun _ _ j hj => absurd hj (Nat.not_lt_zero j), by simp [runP]⟩
  | k + 1, hk => by
    obtain ⟨f1, g1, low, hl⟩ := free_run hp hi g f k (by omega)
    show Free p n (turnP p inv k (runP p inv rows k)).1 ∧ Good p n (turnP p inv k (runP p inv rows k)).1 ∧ (∀ r ∈ (turnP p inv k (runP p inv rows k)).1, ∀ j, j < k + 1 → at0 r j = 0) ∧ (turnP p inv k (runP p inv rows k)).1.length + (turnP p inv k (runP p inv rows k)).2.length = rows.length
    generalize runP p inv rows k = s at *
    unfold turnP
    rcases filter_cases k s.1 with ⟨e, z⟩ | ⟨h, t, A, B, e, el, hA, hh⟩
    · rw [e]
      refine ⟨f1, g1, fun r hr j hj => ?_, hl⟩
      by_cases q : j < k
      · exact low r hr j q
      · rw [show j = k by omega]
        exact z r hr
    · rw [e]
      dsimp only
      have hm : h ∈ s.1 := by rw [el]; simp
      have a := head_row hp hi (g1 h hm) hk (low h hm) hh
      have ft := Free.turn (k := k) (el ▸ g1) (el ▸ f1) (inv (at0 h k))
      have low' : ∀ r ∈ s.1, ∀ j, j < k + 1 → at0 (sub1 p (at0 r k) r (scl p (inv (at0 h k)) h)) j = 0 := fun r hr j hj => by
        rw [sub1_at (g1 r hr).1 a.1.1 (by omega)]
        by_cases q : j < k
        · rw [low r hr j q, a.2.2 j q, Int.mul_zero, Int.sub_zero, Int.zero_emod]
        · rw [show j = k by omega, a.2.1, Int.mul_one, Int.sub_self, Int.zero_emod]
      have hz : nz (sub1 p (at0 h k) h (scl p (inv (at0 h k)) h)) = false := by
        rw [nz_false]
        intro i hi'
        have hl := (g1 h hm).1
        rw [sub1_len hl a.1.1] at hi'
        rw [sub1_at hl a.1.1 hi', scl_at (by omega), Int.emod_def (inv (at0 h k) * at0 h i) p]
        have b := (g1 h hm).at (by omega) k
        have e1 := hi (at0 h k) (by omega) b.2
        rw [Int.emod_def] at e1
        refine Int.emod_eq_zero_of_dvd ⟨at0 h k * (inv (at0 h k) * at0 h i / p) - (inv (at0 h k) * at0 h k / p) * at0 h i, ?_⟩
        generalize inv (at0 h k) * at0 h k / p = x at *
        generalize inv (at0 h k) * at0 h i / p = y at *
        grind
      generalize scl p (inv (at0 h k)) h = hd at a ft low' hz ⊢
      have gt : Good p n ((A ++ B).map fun r => sub1 p (at0 r k) r hd) := fun r hr => by
        obtain ⟨y, hy, e⟩ := List.mem_map.mp hr
        rw [← e]
        refine sub1_good (by omega) (g1 y ?_).1 a.1.1
        rw [el]
        rcases List.mem_append.mp hy with q | q
        · simp [q]
        · simp [q]
      have fall : ((A ++ B).map fun r => sub1 p (at0 r k) r hd).filter nz = (A ++ B).map fun r => sub1 p (at0 r k) r hd :=
        List.filter_eq_self.mpr (Free.nz hp (fun r hr => (gt r hr).1) ft)
      have eq : ((s.1.map fun r => sub1 p (at0 r k) r hd).filter nz) = (A ++ B).map fun r => sub1 p (at0 r k) r hd := by
        rw [← fall, el, List.map_append, List.map_cons, List.filter_append, List.filter_cons, if_neg (by rw [hz]; exact Bool.false_ne_true), ← List.filter_append, ← List.map_append]
      rw [eq]
      refine ⟨ft, gt, fun r hr j hj => ?_, ?_⟩
      · obtain ⟨y, hy, e⟩ := List.mem_map.mp hr
        rw [← e]
        refine low' y ?_ j hj
        rw [el]
        rcases List.mem_append.mp hy with q | q
        · simp [q]
        · simp [q]
      · have e2 : s.1.length = A.length + B.length + 1 := by rw [el]; simp; omega
        simp
        omega
theorem free_steps {rows : Tab} (hp : 1 < p) (hi : InvOk p inv) (g : Good p n rows) (f : Free p n rows) (hw : rows = [] ∨ wide rows = n) : (stepsP p inv rows).length = rows.length := by
  rcases hw with e | e
  · subst e
    rfl
  · unfold stepsP
    rw [e]
    obtain ⟨f1, g1, low, hl⟩ := free_run hp hi g f n (Nat.le_refl _)
    have e : (runP p inv rows n).1 = [] := by
      cases q : (runP p inv rows n).1 with
      | nil => rfl
      | cons r l =>
        have hm : r ∈ (runP p inv rows n).1 := by rw [q]; simp
        have z := Free.nz hp (fun r hr => (g1 r hr).1) f1 r hm
        have z2 := nz_false.mpr fun i hi => low r hm i (by rw [(g1 r hm).1] at hi; exact hi)
        rw [z] at z2
        cases z2
    rw [e] at hl
    simpa using hl

/-! ### the zeros of rows in steps -/
/-- the row with 1 at a free place, and what undoes the steps' rests there at their heads -/
def zeroRow (p : Int) (n : Nat) (hs : List Nat) (steps : Tab) (f : Nat) : Row := (hs.zip steps).foldl (fun r x => r.set x.1 ((0 - at0 x.2 f) % p)) ((List.replicate n 0).set f 1)
def frees (n : Nat) (hs : List Nat) : List Nat := (List.range n).filter fun i => decide (i ∉ hs)
def zerosOf (p : Int) (n : Nat) (steps : Tab) : Tab := (frees n (steps.map headOf)).map (zeroRow p n (steps.map headOf) steps)
theorem at0_set {r : Row} {i j : Nat} {x : Int} (h : i < r.length) : at0 (r.set i x) j = if i = j then x else at0 r j := by
  unfold at0
  rw [List.getD_eq_getElem?_getD, List.getD_eq_getElem?_getD, List.getElem?_set]
  by_cases e : i = j
  · subst e
    simp [h]
  · simp [e]
theorem zeroFold {n f : Nat} (hp : 0 < p) : ∀ (l : List (Nat × Row)) (r : Row), GoodR p n r → GoodR p n (l.foldl (fun r x => r.set x.1 ((0 - at0 x.2 f) % p)) r) ∧
    ∀ j, (∀ x ∈ l, x.1 ≠ j) → at0 (l.foldl (fun r x => r.set x.1 ((0 - at0 x.2 f) % p)) r) j = at0 r j
  | [], r, g => ⟨g, fun _ _ => rfl⟩
  | x :: l, r, g => by
    have g1 : GoodR p n (r.set x.1 ((0 - at0 x.2 f) % p)) := ⟨by rw [List.length_set]; exact g.1, fun y hy => by
      rcases List.mem_or_eq_of_mem_set hy with q | q
      · exact g.2 y q
      · rw [q]
        exact ⟨Int.emod_nonneg _ (by omega), Int.emod_lt_of_pos _ hp⟩⟩
    obtain ⟨a, b⟩ := zeroFold (n := n) (f := f) hp l _ g1
    refine ⟨a, fun j hj => ?_⟩
    show at0 (l.foldl _ _) j = _
    rw [b j fun y hy => hj y (List.mem_cons_of_mem _ hy)]
    by_cases q : x.1 < r.length
    · rw [at0_set q, if_neg (hj x List.mem_cons_self)]
    · rw [List.set_eq_of_length_le (by omega)]
theorem unit_good (hp : 1 < p) (n f : Nat) : GoodR p n ((List.replicate n 0).set f 1) := ⟨by simp, fun y hy => by
  rcases List.mem_or_eq_of_mem_set hy with q | q
  · rw [List.eq_of_mem_replicate q]; omega
  · omega⟩
theorem zeroRow_good (hp : 1 < p) (hs : List Nat) (steps : Tab) (f : Nat) : GoodR p n (zeroRow p n hs steps f) := (zeroFold (by omega) _ _ (unit_good hp n f)).1
theorem zeroRow_free (hp : 1 < p) {hs : List Nat} (steps : Tab) {f j : Nat} (hf : f < n) (hj : j ∉ hs) : at0 (zeroRow p n hs steps f) j = if f = j then 1 else 0 := by
  unfold zeroRow
  rw [(zeroFold (n := n) (f := f) (p := p) (by omega) (hs.zip steps) _ (unit_good hp n f)).2 j fun x hx e => hj (e ▸ (List.of_mem_zip (a := x.1) (b := x.2) hx).1), at0_set (by simpa using hf)]
  by_cases q : f = j
  · rw [if_pos q, if_pos q]
  · rw [if_neg q, if_neg q]
    unfold at0
    rw [List.getD_eq_getElem?_getD, List.getElem?_replicate]
    split <;> rfl
theorem zerosOf_good (hp : 1 < p) (steps : Tab) : Good p n (zerosOf p n steps) := fun r hr => by
  obtain ⟨f, _, e⟩ := List.mem_map.mp hr
  rw [← e]
  exact zeroRow_good hp _ _ _
theorem comb_units (hp : 1 < p) {hs : List Nat} (steps : Tab) {j : Nat} (hj : j ∉ hs) : ∀ (cs : List Int) (fs : List Nat), cs.length = fs.length → (∀ f ∈ fs, f < n) → fs.Nodup →
    ∀ (i : Nat), fs[i]? = some j → cs[i]? = some (comb cs (fs.map (zeroRow p n hs steps)) j)
  | [], [], _, _, _, i, h => by simp at h
  | [], _ :: _, h, _, _, _, _ => by simp at h
  | _ :: _, [], h, _, _, _, _ => by simp at h
  | c :: cs, f :: fs, hl, hf, nd, i, h => by
    have none : ∀ (cs : List Int) (fs : List Nat), (∀ f ∈ fs, f < n) → j ∉ fs → comb cs (fs.map (zeroRow p n hs steps)) j = 0 := by
      intro cs fs
      induction fs generalizing cs with
      | nil => intro _ _; cases cs <;> rfl
      | cons g fs ih =>
        intro h1 h2
        cases cs with
        | nil => rfl
        | cons c cs =>
          show c * at0 (zeroRow p n hs steps g) j + comb cs (fs.map (zeroRow p n hs steps)) j = 0
          rw [ih cs (fun x hx => h1 x (List.mem_cons_of_mem _ hx)) (fun q => h2 (List.mem_cons_of_mem _ q)), zeroRow_free hp steps (h1 g List.mem_cons_self) hj, if_neg fun q => h2 (by rw [q]; exact List.mem_cons_self)]
          omega
    have nd' := List.nodup_cons.mp nd
    show (c :: cs)[i]? = some (c * at0 (zeroRow p n hs steps f) j + comb cs (fs.map (zeroRow p n hs steps)) j)
    rw [zeroRow_free hp steps (hf f List.mem_cons_self) hj]
    cases i with
    | zero =>
      have e : f = j := by simpa using h
      rw [if_pos e, none cs fs (fun x hx => hf x (List.mem_cons_of_mem _ hx)) (e ▸ nd'.1)]
      simp
    | succ i =>
      have h' : fs[i]? = some j := by simpa using h
      have hm := List.mem_of_getElem? h'
      rw [if_neg fun (q : f = j) => nd'.1 (by rw [q]; exact hm)]
      have ih := comb_units hp steps hj cs fs (by simpa using hl) (fun x hx => hf x (List.mem_cons_of_mem _ hx)) nd'.2 i h'
      rw [List.getElem?_cons_succ, ih]
      simp
theorem zeros_free (hp : 1 < p) (steps : Tab) : Free p n (zerosOf p n steps) := by
  intro cs hl hz c hc
  obtain ⟨i, hi, e⟩ := List.mem_iff_getElem.mp hc
  have hl' : cs.length = (frees n (steps.map headOf)).length := by rw [hl]; simp [zerosOf]
  have hfi : (frees n (steps.map headOf))[i]? = some ((frees n (steps.map headOf))[i]'(by omega)) := List.getElem?_eq_getElem _
  generalize (frees n (steps.map headOf))[i]'(by omega) = j at hfi
  have hm := List.mem_of_getElem? hfi
  obtain ⟨h1, h2⟩ := List.mem_filter.mp hm
  have q := comb_units hp steps (n := n) (hs := steps.map headOf) (j := j) (by simpa using h2) cs (frees n (steps.map headOf)) hl' (fun f hf => List.mem_range.mp (List.mem_filter.mp hf).1)
    (List.Pairwise.filter _ List.nodup_range) i hfi
  rw [List.getElem?_eq_getElem hi] at q
  rw [← e, Option.some.inj q]
  exact hz j (List.mem_range.mp h1)
theorem frees_length (n : Nat) : ∀ hs : List Nat, hs.Nodup → (∀ h ∈ hs, h < n) → (frees n hs).length + hs.length = n
  | [], _, _ => by
    unfold frees
    rw [List.filter_eq_self.mpr fun a _ => by simp]
    simp
  | h :: hs, nd, hn => by
    have nd' := List.nodup_cons.mp nd
    have ih := frees_length n hs nd'.2 fun x hx => hn x (List.mem_cons_of_mem _ hx)
    have hm : h ∈ frees n hs := List.mem_filter.mpr ⟨List.mem_range.mpr (hn h List.mem_cons_self), by simpa using nd'.1⟩
    have ndF : (frees n hs).Nodup := List.Pairwise.filter _ List.nodup_range
    have e : frees n (h :: hs) = (frees n hs).erase h := by
      rw [ndF.erase_eq_filter]
      unfold frees
      rw [List.filter_filter]
      refine List.filter_congr fun x _ => ?_
      by_cases q : x = h
      · simp [q]
      · simp [q]
    have hpos := List.length_pos_of_mem hm
    rw [e, List.length_erase_of_mem hm, List.length_cons]
    omega
/-- the rows that stand behind steps: they lead, their heads are apart -/
theorem heads_of {s : Tab × Tab} (st : Stand p n k s) (hk : k ≤ n) : (s.2.map headOf).Nodup ∧ (∀ h ∈ s.2.map headOf, h < n) ∧ ∀ r ∈ s.2, Lead r (headOf r) := by
  obtain ⟨hs, h1, h2, h3, h4⟩ := st.heads
  have e : s.2.map headOf = hs := by
    refine List.ext_getElem (by simp [h3]) fun i a b => ?_
    rw [List.getElem_map]
    have ia : i < s.2.length := by simpa using a
    exact (h4 i s.2[i] hs[i] (List.getElem?_eq_getElem ia) (List.getElem?_eq_getElem b)).head
  refine ⟨by rw [e]; exact h1.imp fun a => Nat.ne_of_lt a, fun h hm => by rw [e] at hm; exact Nat.lt_of_lt_of_le (h2 h hm) hk, fun r hr => ?_⟩
  obtain ⟨i, hi, er⟩ := List.mem_iff_getElem.mp hr
  have l := h4 i r hs[i] (by rw [List.getElem?_eq_getElem hi, er]) (List.getElem?_eq_getElem (by omega))
  rw [l.head]
  exact l
/-- what the steps of good rows are -/
structure InSteps (p : Int) (n : Nat) (steps : Tab) : Prop where
  good : Good p n steps
  nd : (steps.map headOf).Nodup
  lt : ∀ h ∈ steps.map headOf, h < n
  lead : ∀ r ∈ steps, Lead r (headOf r)
theorem steps_in {rows : Tab} (hp : 1 < p) (hi : InvOk p inv) (g : Good p n rows) (hw : rows = [] ∨ wide rows = n) : InSteps p n (stepsL p inv rows) := by
  rcases hw with e | e
  · subst e
    exact ⟨fun r hr => by simp [stepsL, wide, runL] at hr, by simp [stepsL, wide, runL], fun h hm => by simp [stepsL, wide, runL] at hm, fun r hr => by simp [stepsL, wide, runL] at hr⟩
  · have st := stand_L hp hi g n (Nat.le_refl _)
    unfold stepsL
    rw [e]
    obtain ⟨a, b, c⟩ := heads_of st (Nat.le_refl _)
    exact ⟨st.found, a, b, c⟩
def stillL (p : Int) (inv : Int → Int) (n : Nat) (rows : Tab) : Tab := stepsL p inv (zerosOf p n (stepsL p inv rows))
def stillP (p : Int) (inv : Int → Int) (n : Nat) (rows : Tab) : Tab := stepsP p inv (zerosOf p n (stepsP p inv rows))
theorem wide_of {rows : Tab} (g : Good p n rows) : rows = [] ∨ wide rows = n := by
  cases rows with
  | nil => exact .inl rfl
  | cons r l => exact .inr (g r List.mem_cons_self).1
theorem still_eq {rows : Tab} (hp : 1 < p) (hi : InvOk p inv) (g : Good p n rows) : stillP p inv n rows = stillL p inv n rows := by
  have steps : ∀ {l : Tab}, Good p n l → stepsP p inv l = stepsL p inv l := fun {l} gl => by
    rcases wide_of gl with e | e
    · rw [e] <;> rfl
    · exact steps_eq hp hi (by rw [e]; exact gl)
  unfold stillP stillL
  rw [steps g, steps (zerosOf_good hp _)]
/-- the rank and the still rows make the size -/
theorem rank_still {rows : Tab} (hp : 1 < p) (hi : InvOk p inv) (g : Good p n rows) : (stepsP p inv rows).length + (stillP p inv n rows).length = n := by
  have eq : stepsP p inv rows = stepsL p inv rows := by
    rcases wide_of g with e | e
    · rw [e] <;> rfl
    · exact steps_eq hp hi (by rw [e]; exact g)
  unfold stillP
  rw [free_steps hp hi (zerosOf_good hp _) (zeros_free hp _) (wide_of (zerosOf_good hp _)), eq]
  have st := steps_in hp hi g (wide_of g)
  have h := frees_length n _ st.nd st.lt
  simp [zerosOf] at h ⊢
  omega
end

/-! ### tables led, turned about -/
def isum (l : List Int) : Int := l.sum
def dotL (p : Int) (a b : Row) : Int := (List.zipWith (fun x y => x * y) a b).sum % p
def rowAt (t : Tab) (i : Nat) : Row := t.getD i []
def ledL (p : Int) (row : Row) (t : Tab) : Row := (List.range (wide t)).map fun j => ((List.range row.length).map fun i => at0 row i * at0 (rowAt t i) j).sum % p
def betw (p : Int) (grid : Tab) (a b : Row) : Int := dotL p (ledL p a grid) b
def roomBy (p : Int) (grid t : Tab) : Tab := t.map fun a => t.map fun b => betw p grid a b
def unitRow (n i : Nat) : Row := (List.range n).map fun j => if i = j then 1 else 0
def units (n : Nat) : Tab := (List.range n).map (unitRow n)
def turned (t : Tab) : Tab := (List.range t.length).map fun j => t.map fun r => at0 r j
section
variable {p : Int} {n : Nat}
theorem sum_cong {f g : Nat → Int} : ∀ l : List Nat, (∀ i ∈ l, f i % p = g i % p) → (l.map f).sum % p = (l.map g).sum % p
  | [], _ => rfl
  | i :: l, h => by
    rw [List.map_cons, List.map_cons, List.sum_cons, List.sum_cons, Int.add_emod, h i List.mem_cons_self, sum_cong l fun x hx => h x (List.mem_cons_of_mem _ hx), ← Int.add_emod]
theorem sum_none {f : Nat → Int} : ∀ l : List Nat, (∀ i ∈ l, f i = 0) → (l.map f).sum = 0
  | [], _ => rfl
  | i :: l, h => by
    rw [List.map_cons, List.sum_cons, h i List.mem_cons_self, sum_none l fun x hx => h x (List.mem_cons_of_mem _ hx)]
    rfl
theorem sum_one {f : Nat → Int} {j : Nat} : ∀ l : List Nat, l.Nodup → j ∈ l → (∀ i ∈ l, i ≠ j → f i = 0) → (l.map f).sum = f j
  | [], _, h, _ => by simp at h
  | i :: l, nd, hj, h => by
    have nd' := List.nodup_cons.mp nd
    rw [List.map_cons, List.sum_cons]
    by_cases e : i = j
    · rw [e, sum_none l fun x hx => h x (List.mem_cons_of_mem _ hx) fun q => nd'.1 (by rw [e, ← q]; exact hx)]
      omega
    · have hm : j ∈ l := by
        rcases List.mem_cons.mp hj with q | q
        · exact absurd q.symm e
        · exact q
      rw [h i List.mem_cons_self e, sum_one l nd'.2 hm fun x hx => h x (List.mem_cons_of_mem _ hx)]
      omega
theorem zip_range {a b : Row} (ha : a.length = n) (hb : b.length = n) : List.zipWith (fun x y => x * y) a b = (List.range n).map fun i => at0 a i * at0 b i := by
  refine List.ext_getElem (by simp [ha, hb]) fun i h1 h2 => ?_
  have hi : i < n := by simpa using h2
  rw [List.getElem_zipWith, List.getElem_map, List.getElem_range, at0_get (by omega), at0_get (by omega)]
/-- nothing beside (i, i) -/
structure Diag (n : Nat) (t : Tab) : Prop where
  len : t.length = n
  rows : ∀ r ∈ t, r.length = n
  off : ∀ i j, i < n → j < n → j ≠ i → at0 (rowAt t i) j = 0
theorem wide_sq {t : Tab} (hl : t.length = n) (hr : ∀ r ∈ t, r.length = n) : wide t = n := by
  cases t with
  | nil => simpa [wide] using hl
  | cons r t => exact hr r List.mem_cons_self
theorem rowAt_mem {t : Tab} {i : Nat} (h : i < t.length) : rowAt t i ∈ t := by
  unfold rowAt
  rw [List.getD_eq_getElem?_getD, List.getElem?_eq_getElem h]
  exact List.getElem_mem h
theorem rowAt_get {t : Tab} {i : Nat} (h : i < t.length) : rowAt t i = t[i] := by
  unfold rowAt
  rw [List.getD_eq_getElem?_getD, List.getElem?_eq_getElem h]
  rfl
theorem led_len (row : Row) (t : Tab) : (ledL p row t).length = wide t := by simp [ledL]
theorem led_at (row : Row) (t : Tab) {j : Nat} (h : j < wide t) : at0 (ledL p row t) j = ((List.range row.length).map fun i => at0 row i * at0 (rowAt t i) j).sum % p := by
  rw [at0_get (by rw [led_len]; exact h)]
  simp [ledL]
theorem led_diag {row : Row} {t : Tab} (d : Diag n t) (hr : row.length = n) {j : Nat} (h : j < n) : at0 (ledL p row t) j = at0 row j * at0 (rowAt t j) j % p := by
  rw [led_at row t (by rw [wide_sq d.len d.rows]; exact h), sum_one (j := j) _ List.nodup_range (List.mem_range.mpr (by omega)) fun i hi e => by
    rw [d.off i j (by have := List.mem_range.mp hi; omega) h (Ne.symm e), Int.mul_zero]]
theorem betw_symm {t : Tab} {a b : Row} (d : Diag n t) (ha : a.length = n) (hb : b.length = n) : betw p t a b = betw p t b a := by
  have hw := wide_sq d.len d.rows
  unfold betw dotL
  rw [zip_range (by rw [led_len, hw]) hb, zip_range (by rw [led_len, hw]) ha]
  have e : ∀ (x y : Row), x.length = n → (List.map (fun i => at0 (ledL p x t) i * at0 y i) (List.range n)).sum % p = (List.map (fun i => at0 x i * at0 (rowAt t i) i * at0 y i) (List.range n)).sum % p := fun x y hx =>
    sum_cong _ fun i hi => by rw [led_diag d hx (List.mem_range.mp hi), Int.mul_emod, Int.emod_emod_of_dvd _ (Int.dvd_refl p), ← Int.mul_emod]
  rw [e a b ha, e b a hb]
  congr 3
  funext i
  grind
theorem roomBy_good {grid t : Tab} (hp : 0 < p) (hl : t.length = n) : Good p n (roomBy p grid t) ∧ (roomBy p grid t).length = n := by
  refine ⟨fun r hr => ?_, by simp [roomBy, hl]⟩
  obtain ⟨a, _, e⟩ := List.mem_map.mp hr
  rw [← e]
  refine ⟨by simp [hl], fun x hx => ?_⟩
  obtain ⟨b, _, e⟩ := List.mem_map.mp hx
  rw [← e]
  exact ⟨Int.emod_nonneg _ (by omega), Int.emod_lt_of_pos _ hp⟩
theorem turned_sym {t : Tab} (hl : t.length = n) (hr : ∀ r ∈ t, r.length = n) : turned t = t ↔ ∀ i j, i < n → j < n → at0 (rowAt t i) j = at0 (rowAt t j) i := by
  have e : ∀ i j, i < n → j < n → at0 (rowAt (turned t) i) j = at0 (rowAt t j) i := fun i j hi hj => by
    have h1 : rowAt (turned t) i = t.map fun r => at0 r i := by
      rw [rowAt_get (by simp [turned, hl, hi])]
      simp [turned]
    rw [h1, rowAt_get (by omega), at0_get (by simp [hl, hj]), List.getElem_map]
  have tl : (turned t).length = n := by simp [turned, hl]
  have tr : ∀ r ∈ turned t, r.length = n := fun r h => by
    obtain ⟨j, _, e⟩ := List.mem_map.mp h
    rw [← e]
    simp [hl]
  constructor
  · intro h i j hi hj
    rw [← e j i hj hi, h]
  · intro h
    refine List.ext_getElem (by rw [tl, hl]) fun i h1 h2 => ?_
    rw [← rowAt_get h1, ← rowAt_get h2]
    rw [tl] at h1
    refine row_ext (by rw [tr _ (rowAt_mem (by omega)), hr _ (rowAt_mem (by omega))]) fun j hj => ?_
    rw [tr _ (rowAt_mem (by omega))] at hj
    rw [e i j h1 hj, h i j h1 hj]
theorem roomBy_sym {grid t : Tab} (d : Diag n grid) (hl : t.length = n) (hr : ∀ r ∈ t, r.length = n) : turned (roomBy p grid t) = roomBy p grid t := by
  refine (turned_sym (n := n) (by simp [roomBy, hl]) fun r h => ?_).mpr fun i j hi hj => ?_
  · obtain ⟨a, _, e⟩ := List.mem_map.mp h
    rw [← e]
    simp [hl]
  · have e : ∀ i j, i < n → j < n → at0 (rowAt (roomBy p grid t) i) j = betw p grid (rowAt t i) (rowAt t j) := fun i j hi hj => by
      have h1 : rowAt (roomBy p grid t) i = t.map fun b => betw p grid (rowAt t i) b := by
        rw [rowAt_get (by simp [roomBy, hl, hi]), rowAt_get (t := t) (by omega)]
        simp [roomBy]
      rw [h1, at0_get (by simp [hl, hj]), List.getElem_map, rowAt_get (t := t) (i := j) (by omega)]
    rw [e i j hi hj, e j i hj hi, betw_symm d (hr _ (rowAt_mem (by omega))) (hr _ (rowAt_mem (by omega)))]
theorem unit_at {i j : Nat} (h : j < n) : at0 (unitRow n i) j = if i = j then 1 else 0 := by
  rw [at0_get (by simp [unitRow, h])]
  simp [unitRow]
theorem led_unit {grid : Tab} {i : Nat} (hl : grid.length = n) (g : Good p n grid) (hi : i < n) : ledL p (unitRow n i) grid = rowAt grid i := by
  have hw := wide_sq hl fun r hr => (g r hr).1
  have gi := g _ (rowAt_mem (t := grid) (i := i) (by omega))
  refine row_ext (by rw [led_len, hw, gi.1]) fun j hj => ?_
  rw [led_len] at hj
  rw [led_at _ _ hj, sum_one (j := i) _ List.nodup_range (List.mem_range.mpr (by simpa [unitRow] using hi)) fun x hx e => by
    have hx' : x < n := by simpa [unitRow] using hx
    rw [unit_at hx', if_neg (Ne.symm e), Int.zero_mul]]
  rw [unit_at hi, if_pos rfl, Int.one_mul]
  rw [hw] at hj
  have b := gi.2 _ (at0_mem (a := rowAt grid i) (by rw [gi.1]; exact hj))
  exact emod_self b.1 b.2
theorem led_units {grid : Tab} (hl : grid.length = n) (g : Good p n grid) : (units n).map (fun r => ledL p r grid) = grid := by
  refine List.ext_getElem (by simp [units, hl]) fun i h1 h2 => ?_
  have hi : i < n := by simpa [units] using h1
  rw [List.getElem_map, ← rowAt_get h2, ← led_unit hl g hi]
  simp [units]
/-- the law's still rows: the steps of all that are led to noughts -/
def lawStill (p : Int) (inv : Int → Int) (grid : Tab) : Tab := stepsL p inv (zerosOf p grid.length (stepsL p inv ((units grid.length).map fun r => ledL p r grid)))
theorem lawStill_eq {inv : Int → Int} {grid : Tab} (hl : grid.length = n) (g : Good p n grid) : lawStill p inv grid = stillL p inv n grid := by
  unfold lawStill stillL
  rw [hl, led_units hl g]
end
end RK

set_option Elab.async false
set_option linter.all false
set_option maxRecDepth 100000
set_option maxHeartbeats 4000000
/-! Rules of our own over the hand layer: enumerate of a tuple, repr of data and of an own instance, own == and != with both answers, a, b stored to attributes, calls whose errors are wished for at the slots. -/
namespace RK
open PySem PySem.Spec PyProof.Rows
open AutoSeq1 (wpAny_loadPart')
/-! ### enumerate(tuple) -/
theorem meets_enumT (l : Addr) (items : Array Value) (n : Nat) (dct : Option Addr) (sl : Array (Option Value)) :
    Meets (Builtin.«enumerate.__new__» ⟨[.type "enumerate", .ref l], []⟩) (fun _ R s => s.heap.get? l = some { cls := .type "tuple", dict := dct, data := .seq items n, slots := sl } ∧
      R (.ok (.ret (.ref (s.heap.push { cls := .type "tuple_iterator", data := .fields #[.ref l, .int 0 0] }).objs.size)))
        { s with heap := (s.heap.push { cls := .type "tuple_iterator", data := .fields #[.ref l, .int 0 0] }).push { cls := .type "enumerate", data := .fields #[.none, .bool false, .ref s.heap.objs.size, rawInt 0, .none, .none] } }) :=
  .of_wp fun prog w A R s h => by
    obtain ⟨hp, g, d, tk, os⟩ := s
    obtain ⟨ht, h⟩ := h
    have hsub := sub_enumerate
    have hT : Heap.IsTuple (Shared.heap ⟨hp, g, d, tk, os⟩) l items := ⟨_, ht, rfl, n, rfl⟩
    wp_walk using wpAny_loadPart' ht
    refine wpAny_stack_any fun st => wpAny_pure ?_
    split
    · rename_i c _ _ _ _ _
      cases (c == Value.type "enumerate")
      · wp_walk using wpAny_loadPart' ht, wpAny_pyIter_tuple hT
        exact ⟨_, rfl, h⟩
      · wp_walk using wpAny_loadPart' ht, wpAny_pyIter_tuple hT
        exact ⟨_, rfl, h⟩
    · wp_walk using wpAny_loadPart' ht, wpAny_pyIter_tuple hT
      exact ⟨_, rfl, h⟩
theorem call_enumT {prog : Program} {w : World} {A : Around} {E : Value → Shared → Prop} {s : Shared} {l : Addr} {items : Array Value} {Q : Value → Shared → Prop} (hL : s.heap.IsTuple l items)
    (h : ∀ h', IsEnum h' (s.heap.objs.size + 1) s.heap.objs.size 0 .none → h'.IsTupleIter s.heap.objs.size l 0 → (∀ b o, s.heap.get? b = some o → h'.get? b = some o) → Q (.ref (s.heap.objs.size + 1)) { s with heap := h' }) :
    wpAny (model prog w) A (call (.type "enumerate") [.ref l]) Q E s := by
  obtain ⟨⟨c, dct, dt, sl⟩, hl, hc, n, hd⟩ := hL
  simp only at hc hd
  subst hc hd
  refine callType_new F.called_enumerate (by decide) (F.typeCall_enumerate_1 _) (F.newCall_enumerate_1 _) (fun obj => F.args_object_init_2 obj _) F.entry_enumerate_new (meets_enumT l items n dct sl) ⟨hl, ?_⟩
  have hz : (s.heap.push { cls := .type "tuple_iterator", data := .fields #[.ref l, .int 0 0] }).objs.size = s.heap.objs.size + 1 := Heap.size_push ..
  show _ ∧ _
  rw [hz]
  have he : IsEnum ((s.heap.push { cls := .type "tuple_iterator", data := .fields #[.ref l, .int 0 0] }).push
      { cls := .type "enumerate", data := .fields #[.none, .bool false, .ref s.heap.objs.size, rawInt 0, .none, .none] }) (s.heap.objs.size + 1) s.heap.objs.size 0 .none := by
    have q := Heap.get?_push_size (s.heap.push { cls := .type "tuple_iterator", data := .fields #[.ref l, .int 0 0] })
      (o := { cls := .type "enumerate", data := .fields #[.none, .bool false, .ref s.heap.objs.size, rawInt 0, .none, .none] }) rfl
    rw [hz] at q
    exact q
  exact ⟨⟨_, he, rfl⟩, h _ he ⟨_, Heap.get?_push_of_some _ (Heap.get?_push_size _ rfl), rfl, rfl⟩ fun b o x => Heap.get?_push_of_some _ (Heap.get?_push_of_some _ x)⟩
end RK
namespace RK
open PySem PySem.Spec PyProof.Rows L2
/-- the tuple at a, each item in a new pair with its place -/
def ItnT (K : PySem.W.Frag) (a : Addr) : It :=
  ⟨fun i H => ∃ (xs : List V) (x : V), SqT K H a xs ∧ xs[i]? = some x, fun i H v H' => ∃ T x, v = .ref T ∧ H T = none ∧ H' = upd H T (.tup [.int (i : Nat), x]) ∧ ∀ xs, SqT K H a xs → xs[i]? = some x,
    fun i H => ∃ xs : List V, SqT K H a xs ∧ xs.length = i⟩
theorem turn_enumT {P : Program} {w : World} {K : PySem.W.Frag} {elts : List Expr} {kk : Nat} {tpos : Pos} {a e it : Addr} (hea : a ≠ it) :
    Turn P w K (.Tuple elts kk tpos) (ItnT K a) [e, it] e (fun i h => (∃ old, IsEnum h e it ((i : Nat) : Int) old) ∧ h.IsTupleIter it a i ∧ e ≠ it ∧ a ≠ e) where
  mem := by simp
  obj := fun i h st b hb => by
    obtain ⟨⟨old, he⟩, ⟨o, ho, hc, hd⟩, _⟩ := st
    rcases List.mem_cons.mp hb with z | z
    · rw [z]
      exact ⟨_, he, fun v q => nomatch q⟩
    · rw [List.mem_singleton.mp z]
      exact ⟨o, ho, fun v q => by rw [hd] at q; cases q⟩
  keep := fun i h h' st k => by
    obtain ⟨⟨old, he⟩, ⟨o, ho, hc, hd⟩, ne⟩ := st
    exact ⟨⟨old, k e (by simp) _ he⟩, ⟨o, k it (by simp) _ ho, hc, hd⟩, ne⟩
  item := by
    intro X hP hw hK hc i pins s σ H E I hf st hg
    subst hP hw hK
    obtain ⟨⟨old, he⟩, hit, hne, hae⟩ := st
    obtain ⟨xs, x, hq, hx⟩ := hg
    obtain ⟨its, rv, p, hz⟩ := I.tuple hq
    obtain ⟨u, hu, ru⟩ := rv.get hx
    have hel : e < s.heap.objs.size := Heap.lt_size he
    have hil : it < s.heap.objs.size := by
      obtain ⟨_, q, _⟩ := hit
      exact Heap.lt_size q
    have hlt : i < its.toArray.size := by
      rw [List.size_toArray]
      exact (List.getElem?_eq_some_iff.mp hu).1
    refine wpAny_pyNext_enum_itemD (Draws.tuple (A := X.A.in1) (I.ok.hd hc) it a hea its.toArray) he ⟨hit, show s.heap.IsTuple a its.toArray from p⟩ hlt hne (fun m => by
      rcases List.mem_cons.mp m with z | z
      · exact hne z
      · exact hae (List.mem_singleton.mp z).symm) fun y h' tk hy ho hit' hT hsz hk => ?_
    have ey : y = u := by
      have q : its.toArray[i]? = some u := by simpa using hu
      exact Option.some.inj (hy.symm.trans q)
    subst ey
    refine ⟨_, rfl, wpAny_letOwnedTupleGo_enum (s := { s with heap := h', toks := tk + 1 }) ho fun h'' he' sb => ?_⟩
    have hT2 : h''.get? s.heap.objs.size = some { cls := .type "tuple", data := .seq #[.int i tk, y] } := (sb.2 _ (Nat.ne_of_gt hel)).trans hT
    have new : ObjOk X.prog X.w (upd H s.heap.objs.size (.tup [.int (i : Nat), x])) h'' s.heap.objs.size (.tup [.int (i : Nat), x]) :=
      ⟨by show 2 ≤ sizeLine; decide, [.int i tk, y], .cons ⟨_, rfl⟩ (.cons ru .nil), ⟨_, hT2, rfl, _, rfl⟩⟩
    have I1 : Inv X pins σ (upd H s.heap.objs.size (.tup [.int (i : Nat), x])) { s with heap := h'', toks := tk + 1 } :=
      I.turnedNew (ch := [e, it]) (fun b ob hb q => (sb.2 b (fun z => hb (by simp [z]))).trans (hk b ob (fun z => hb (by simp [z])) (fun z => hb (by simp [z])) q)) hf (Nat.le_refl _) new
    obtain ⟨⟨o2, ho2, hc2, hd2⟩, _⟩ := hit'
    refine ⟨.ref s.heap.objs.size, _, I1, rfl, ⟨_, x, rfl, I.hok.fresh (Nat.le_refl _), rfl, fun ys hy => by rw [I.tuple_inj hy hq]; exact hx⟩, ⟨⟨y, ?_⟩, ⟨o2, (sb.2 it (Ne.symm hne)).trans ho2, hc2, hd2⟩, hne, hae⟩, fun b hb => ?_⟩
    · rw [show ((i + 1 : Nat) : Int) = (i : Int) + 1 by omega]
      exact he'
    · have hb' : b < s.heap.objs.size := by
        rcases List.mem_cons.mp hb with z | z
        · rw [z]
          exact hel
        · rw [List.mem_singleton.mp z]
          exact hil
      rw [upd_ne (Nat.ne_of_lt hb')]
      exact (hf b hb).1
  done := by
    intro X hP hw hK hc i pins s σ H E I hf st hg
    subst hP hw hK
    obtain ⟨⟨old, he⟩, hit, hne, hae⟩ := st
    obtain ⟨xs, hq, hx⟩ := hg
    obtain ⟨its, rv, p, hz⟩ := I.tuple hq
    obtain ⟨f0, f1, f2, f3, f4, f5⟩ := hf it (by simp)
    have hl : its.toArray.size = i := by
      rw [List.size_toArray, ← rv.length, hx]
    exact wpAny_pyNext_enum_endD (Draws.tuple (A := X.A.in1) (I.ok.hd hc) it a hea its.toArray) he (by rw [hl]; exact ⟨hit, p⟩) fun h' eb => ⟨rfl, I.turned (t' := s.toks) (fun b o hb q => eb b o hb q) f0 f1 f3 f4 f5⟩
  self := fun A i s Q E st h => by
    obtain ⟨⟨_, he⟩, _⟩ := st
    exact wpAny_pyIter_enum he h
def iEnumT (K : PySem.W.Frag) (ta : TA) : TI := fun σ H R => ta σ H fun vs H1 => ∃ a xs, vs = [.ref a] ∧ SqT K H1 a xs ∧ R (ItnT K a) H1
theorem pi_enumT {X : Cx} {e : Expr} {ta : TA} {p pos tpos : Pos} {elts : List Expr} {kk : Nat} (hg : Gl X "enumerate") (hm : X.mg "enumerate" = none) (ha : PA X [e] ta) (hs : starEach [e] X.env = [(false, eval e X.env)] := by rfl) :
    PI X (.Tuple elts kk tpos) (.Call (.Name "enumerate" p) [e] [] pos) (iEnumT X.K ta) := by
  refine ⟨fun pins s σ H R I h => ?_⟩
  refine Call_ (ld_blt I hg hm boot_enumerate (PyProof.Rows.callWith_type1 (thn (ha.run pos pins s σ H _ I h) fun us s1 ⟨vs, H1, I1, r1, q1⟩ => ?_) hs rfl))
  obtain ⟨a, xs, ex, hq, q⟩ := q1
  subst ex
  cases r1 with
  | cons r rr =>
    cases rr
    cases r
    obtain ⟨its, rv, p', hz⟩ := I1.tuple hq
    have hal : a < s1.heap.objs.size := by
      obtain ⟨_, q, _⟩ := p'
      exact Heap.lt_size q
    refine call_enumT (show s1.heap.IsTuple a its.toArray from p') fun h' he hit hk => wpAny_pyIter_enum he ?_
    have I2 : Inv X pins σ H1 { s1 with heap := h' } := I1.kept (t' := s1.toks) hk
    refine ⟨s1.heap.objs.size + 1, [s1.heap.objs.size + 1, s1.heap.objs.size], _, _, H1, rfl, I2, turn_enumT (Nat.ne_of_lt hal), ⟨⟨.none, he⟩, hit, Nat.succ_ne_self _, Nat.ne_of_lt (Nat.lt_succ_of_lt hal)⟩, fun b hb => ?_, q⟩
    have hle : s1.heap.objs.size ≤ b := by
      rcases List.mem_cons.mp hb with z | z
      · rw [z]
        exact Nat.le_add_right _ _
      · rw [List.mem_singleton.mp z]
        exact Nat.le_refl _
    exact I1.fpOk hle (I1.hok.fresh hle)
theorem walk_enumT {K : PySem.W.Frag} {a : Addr} {xs : List V} : Walk (ItnT K a) xs.length (fun H => SqT K H a xs) (YPair (fun i => some (.int (i : Nat))) (fun i => xs[i]?)) := by
  refine ⟨fun i _ hi q => ⟨xs, xs[i], q, by simp [hi]⟩, fun _ q => ⟨xs, q, rfl⟩, fun i H v H' _ q y => ?_⟩
  obtain ⟨T, x, h1, h2, h3, h4⟩ := y
  exact ⟨T, .int (i : Nat), x, h1, h2, h3, rfl, h4 xs q⟩
end RK

set_option Elab.async false
set_option linter.all false
set_option maxRecDepth 100000
set_option maxHeartbeats 4000000
namespace RK
open PySem PySem.Spec PyProof.Rows L2
section
variable {X : Cx} {k : Nat}
/-! ### repr of data: nothing is under way -/
theorem call_reprD (hg : X.A.guards = some []) (hr : Room k X.A) : CallR X (.builtin "repr") (fun xs H Q => ∃ (a : Addr) (d : PyData), xs = [.ref a] ∧ Dp X.K H (.ref a) d ∧ d.showable = true ∧ d.hasDict = false ∧ d.depth ≤ 10 ∧ d.shown.length ≤ sizeLine ∧ Q (.str d.shown) H) := by
  intro pins s σ H xs us Q I r h
  obtain ⟨a, d, rfl, hd, hs, hn, hp, hz, q⟩ := h
  obtain ⟨u, rfl, ru⟩ := vals1 r
  cases ru
  obtain ⟨as, rd⟩ := Dp.reads I d (.ref a) (.ref a) hd rfl
  have hu := hr.units
  exact repr_of_reads' rd hs (PyData.noDict_hsm hn) hg (by omega) (fun _ _ e => e) (fun h' u tk hk => ⟨.str d.shown, H, I.kept (t' := tk) hk, ⟨u, rfl⟩, q⟩) hz
end

/-! ### a def's promise where no repr is under way -/
structure FnG (P : Program) (w : World) (K : PySem.W.Frag) (mg : Str → Option Value) (base : Heap) (CX : CXT) (k : Nat) (f : Addr) (fd : FuncData) (ps : List Str) (sp : Sp) : Prop where
  len : ∀ vs H Q E, sp vs H Q E → vs.length = ps.length
  run : ∀ (A : Around) (outer : List Env) (s : Shared) (H : Hp) (args : Args) (us : List Value) (vs : List V) (Q : VK) (E : XK), A.guards = some [] → Room k A → Env0 P w K mg base A outer s H → BindsTo s fd args (ps.zip us) → Vals vs us → sp vs H Q E →
    codeAny (model P w) A (.call (.ref f) args) (CR CX outer P w H s Q E) s
section
variable {P : Program} {w : World} {K : PySem.W.Frag} {mg : Str → Option Value} {base : Heap}
theorem FunG.ok {x qual : Str} {st : Stmt} {f : Addr} {fd : FuncData} {N ps : List Str} {k : Nat} {sp : Sp} (F : Fun K x qual st f fd) (S : FnScope N ps (defScope st)) (len : ∀ vs H Q E, sp vs H Q E → vs.length = ps.length)
    (hbody : ∀ (cdv : Value) (A : Around) (outer : List Env) (s : Shared) (H : Hp) (vs : List V) (Q : VK) (E : XK), A.guards = some [] → Room k (A.deeper (envOfC qual (defScope st) s.heap.objs.size f cdv)) → sp vs H Q E →
      ∃ t, PSs (cxOf CX0 P w K mg base N qual (defScope st) f cdv A outer s H E).nox (defBody st) t ∧ t { nx := fun _ H' => Q .non H', rt := Q } (start N vs) H) : FnG P w K mg base CX0 (k + 1) f fd ps sp := by
  obtain ⟨oc, od, kV, doc, pm, an, cdv, ct, osl, rfl, lk, hcd⟩ := F.ex
  refine ⟨len, fun A outer s H args us vs Q E hg hr e0 hb r hsp => ?_⟩
  have hl := len _ _ _ _ hsp
  have KX : K.In s.heap := e0.mod.kin.keeps fun b o e => (e0.bs b o e).1
  have lim : s.heap.NoLimit := e0.mod.nolimit.keeps fun b o e => (e0.bs b o e).1
  have hkind : ∀ y ∈ ps.zip us, (defScope st).names.lookup y.1 = some .local ∨ ((defScope st).names.lookup y.1 = some .cell ∧ ((cellsFrom (s.heap.objs.size + 1) (defScope st).names []).lookup y.1).isSome = true) := by
    rintro ⟨n, v⟩ hy
    rcases S.par n (List.of_mem_zip hy).1 with q | q
    · exact .inl q
    · exact .inr ⟨q, PySem.W.cellsFrom_some _ _ _ (.inl q)⟩
  refine codeAny_call_function hr.depth (KX _ _ lk) rfl S.co S.gen rfl (PySem.W.codeRec_of KX hcd) (hb _ _ _ _ ?_)
  refine wpAny_newFunctionEnv_cells S.kind hkind fun env he s1 x => ?_
  subst he
  refine ⟨lim.keeps x.toInCall.keep, codeAny_func ?_⟩
  obtain ⟨t, ht, hq⟩ := hbody cdv A outer s H vs Q E hg (hr.deeper _) hsp
  have I : Inv (cxOf CX0 P w K mg base N qual (defScope st) f cdv A outer s H E) [] (start N vs) H s1 := inv_start S hr.hd e0 hl r x
  refine wpAny_mono (ht.nox.run [] s1 (start N vs) H _ I hq) (fun fl s' hs => ?_) fun e s' hs => hs
  cases fl with
  | ret u =>
    obtain ⟨v, σ', H', J, rv, q⟩ := hs
    exact ⟨v, H', J.os, J.bare, J.base, J.hok, rv, q⟩
  | next =>
    obtain ⟨σ', H', J, q⟩ := hs
    exact ⟨.non, H', J.os, J.bare, J.base, J.hok, rfl, q⟩
  | brk =>
    obtain ⟨_, _, _, q⟩ := hs
    exact False.elim q
  | cont =>
    obtain ⟨_, _, _, q⟩ := hs
    exact False.elim q
end
section
variable {X : Cx} {CX : CXT} {k : Nat} {f C : Addr} {fd : FuncData} {ps : List Str} {sp : Sp} {E : XK} {x : Str} {p pos : Pos} {e : Expr} {es : List Expr} {t : TA}
/-- such a def runs, called with all its arguments, somewhere below X -/
theorem run_at {A : Around} {pins : List (Addr × Obj)} {σ : L2.St} {H : Hp} {s : Shared} {Q : VK} {us : List Value} {vs : List V} (F : FnG X.prog X.w X.K X.mg X.base CX k f fd ps sp) (hg : A.guards = some []) (hr : Room k A) (hA : A.frames = X.A.frames) (hb : Binds X.K fd ps []) (hx : Passes CX X E)
    (I : Inv X pins σ H s) (r : Vals vs us) (h : sp vs H Q E) : wpAny (model X.prog X.w) A (call (.ref f) us) (EP X pins σ Q) X.xe s := by
  have hl : us.length = ps.length := by
    rw [← r.length]
    exact F.len _ _ _ _ h
  have b := hb s us I.kIn (by rw [List.append_nil]; exact hl)
  rw [List.append_nil] at b
  have e := I.env0
  refine wpAny_call (codeAny_mono (F.run A X.stack s H ⟨us, []⟩ us vs Q E hg hr ⟨by rw [hA]; exact e.frames, e.mod, e.bs, e.bsz, e.funs, e.frf, e.hok, e.bare⟩ b r h) fun rr s' hq => ?_)
  cases rr with
  | error er => exact hx pins σ H s er s' I hq
  | ok fl =>
    cases fl with
    | ret u => exact I.after hq
    | next => exact False.elim hq
    | brk => exact False.elim hq
    | cont => exact False.elim hq
theorem FnOk.toG {P : Program} {w : World} {K : PySem.W.Frag} {mg : Str → Option Value} {base : Heap} (F : FnOk P w K mg base CX k f fd ps sp) : FnG P w K mg base CX k f fd ps sp :=
  ⟨F.len, fun A outer s H args us vs Q E _ hr e0 hb r h => F.run A outer s H args us vs Q E hr e0 hb r h⟩
def tCallG (sp : Sp) (E : XK) (t : TA) : TE := fun σ H Q => t σ H fun vs H1 => sp vs H1 Q E
theorem pe_callG (F : FnG X.prog X.w X.K X.mg X.base CX k f fd ps sp) (hgd : X.A.guards = some []) (hr : Room k X.A) (hg : Gl X x) (hm : X.mg x = some (.ref f)) (hk : PySem.W.keepIn X.K (.ref f) = true) (hb : Binds X.K fd ps []) (hx : Passes CX X E)
    (ha : PA X (e :: es) t) (hdb : (x == ("__debug__" : Str)) = false := by decide) (he : starEach (e :: es) X.env = (false, eval e X.env) :: starEach es X.env := by rfl) (hpl : (backTo pos (starEach es X.env)).any (·.1) = false := by rfl) :
    PE X (.Call (.Name x p) (e :: es) [] pos) (tCallG sp E t) := by
  refine ⟨fun pins s σ H Q I h => ?_⟩
  refine wpAny_Call_Name_kw (ld_glob I hg hm ?_ hdb)
  refine PySem.W.callWith_K (h₀ := X.base) I.ok.mod.kin hk (thn (ha.run pos pins s σ H _ I h) fun us s1 ⟨vs, H1, I1, r, q⟩ => ⟨I1.kIn, ?_⟩) he hpl
  exact run_at F hgd hr rfl hb hx I1 r q
/-- repr(x), x an instance of the class at C with its own __repr__ -/
theorem call_reprI (F : FnG X.prog X.w X.K X.mg X.base CX k f fd ps sp) (hgd : X.A.guards = some []) (hr : Room (k + 1) X.A) (hs : PySem.W.findIn X.K (.ref C) "__repr__" = some (some (.ref f))) (hf : PySem.W.isFn X.K (.ref f) = true) (hb : Binds X.K fd ps []) (hx : Passes CX X E) :
    CallR X (.builtin "repr") (fun xs H Q => ∃ (a dx : Addr) (fs : List (Str × V)), xs = [.ref a] ∧ H a = some (.ins C dx fs) ∧ sp [.ref a] H (fun v H' => (∃ z, v = .str z) ∧ Q v H') E) := by
  intro pins s σ H xs us Q I r h
  obtain ⟨a, dx, fs, rfl, ha, q⟩ := h
  obtain ⟨u, rfl, ru⟩ := vals1 r
  cases ru
  obtain ⟨mA, J, _⟩ := ins_get I.hok ha
  obtain ⟨od, J, _⟩ := J.look
  obtain ⟨m, hF⟩ := I.fr
  have hu := (hr.in1).units0
  refine PySem.W.repr_K hu hF I.ok.mod.kin J hs hf (wpAny_mono (run_at (vs := [.ref a]) F hgd hr.in1 rfl hb hx I (.cons rfl .nil) q) (fun v s' hv => ?_) fun _ _ e => e)
  obtain ⟨v', H', I', rv, ⟨z, rfl⟩, qq⟩ := hv
  obtain ⟨tk, rfl⟩ := rv
  exact ⟨.str z, H', I', ⟨tk, rfl⟩, qq⟩
end

/-! ### own == and !=, both answers -/
section
variable {X : Cx} {CX : CXT} {k : Nat} {f C : Addr} {fd : FuncData} {ps : List Str} {sp : Sp} {E : XK}
theorem op_eqI (F : FnOk X.prog X.w X.K X.mg X.base CX k f fd ps sp) (hr : Room k X.A) (hs : PySem.W.findIn X.K (.ref C) "__eq__" = some (some (.ref f))) (hf : PySem.W.isFn X.K (.ref f) = true) (hb : Binds X.K fd ps []) (hx : Passes CX X E) :
    OpR X (compareOp .Eq) (fun x y H Q => ∃ (a dx : Addr) (fs : List (Str × V)) (tb : Value), x = .ref a ∧ H a = some (.ins C dx fs) ∧ TyX X.K H y tb ∧ PySem.W.notFirst X.K C tb = true ∧ sp [x, y] H (fun v H' => (∃ b, v = .bl b) ∧ Q v H') E) := by
  intro pins s σ H x y v u Q I rx ry h
  obtain ⟨a, dx, fs, tb, rfl, ha, ty, hn, q⟩ := h
  have rx' : v = Value.ref a := rx
  subst rx'
  obtain ⟨mA, J, _⟩ := ins_get I.hok ha
  obtain ⟨od, J, _⟩ := J.look
  obtain ⟨m, hF⟩ := I.fr
  obtain ⟨PZ, Z, pz, _⟩ := kit_of I ry ty
  show wpAny (model X.prog X.w) X.A (richCompare .Eq (.ref a) u) (EP X pins σ Q) X.xe s
  refine PySem.W.cmp_K (op := .Eq) (tb := tb) hr.units0 hF I.ok.mod.kin J (Z.ty _ _ I.kIn pz) hn hs hf (wpAny_mono (run_fn (vs := [.ref a, y]) F hr hb .nil hx I (.cons rfl (.cons ry .nil)) (by rw [List.append_nil]; exact q)) (fun w s' hw => ?_) fun _ _ e => e)
  obtain ⟨w', H', I', rw', ⟨b, rfl⟩, qq⟩ := hw
  cases (show w = Value.bool b from rw')
  exact ⟨.bl b, H', I', rfl, qq⟩
theorem ns_some {K : PySem.W.Frag} {h : Heap} {N : Addr} {mN : Str → Option Value} {n : Str} {v : Value} (X : K.In h) (G : h.Ns N mN) (e : PySem.W.nsIn K N n = some (some v)) : mN n = some v := by
  obtain ⟨o, es, ep, ho, hd, _, hf⟩ := G
  unfold PySem.W.nsIn at e
  split at e
  · rename_i q
    have z := X _ _ q
    rw [ho] at z
    cases z
    cases hd
    have w := hf n
    split at e
    · rename_i en hq
      cases e
      rw [← w]
      unfold nsFind findBy
      rw [← Array.find?_toList, hq]
      rfl
    · split at e <;> simp at e
  · cases e
/-- what != asks of the class: its own ==, no != -/
structure NeTxt (K : PySem.W.Frag) (C f : Addr) : Prop where
  cls : ∃ nm q N bs hdct sn sub ab col dd k0 k1 k2 k3 k5 newId, K.lookup C = some (excClassObj nm q C N bs [.type "object"] hdct sn sub ab col dd k0 k1 k2 k3 k5 newId) ∧ PySem.W.nsOkIn K N = true ∧ PySem.W.nsIn K N "__eq__" = some (some (.ref f)) ∧ PySem.W.nsIn K N "__ne__" = some none
  fn : PySem.W.isFn K (.ref f) = true
theorem op_neI (T : NeTxt X.K C f) (F : FnOk X.prog X.w X.K X.mg X.base CX k f fd ps sp) (hr : Room (k + 1) X.A) (hb : Binds X.K fd ps []) (hx : Passes CX X E) :
    OpR X (compareOp .NotEq) (fun x y H Q => ∃ (a b dx dy : Addr) (fs gs : List (Str × V)), x = .ref a ∧ y = .ref b ∧ H a = some (.ins C dx fs) ∧ H b = some (.ins C dy gs) ∧ sp [x, y] H (fun v H' => ∃ c, v = .bl c ∧ Q (.bl (!c)) H') E) := by
  intro pins s σ H x y v u Q I rx ry h
  obtain ⟨a, b, dx, dy, fs, gs, rfl, rfl, ha, hb', q⟩ := h
  cases (show v = Value.ref a from rx)
  cases (show u = Value.ref b from ry)
  obtain ⟨nm, qn, N, bs, hdct, sn, sub, ab, col, dd, k0, k1, k2, k3, k5, newId, hC, hN, he, hne⟩ := T.cls
  obtain ⟨of, hof, hoc⟩ := Option.map_eq_some_iff.mp (beq_iff_eq.mp T.fn)
  have hn : s.heap.Ns N (s.heap.nsMap N) := .of_isNs (PySem.W.isNs_of_in I.kIn hN)
  obtain ⟨_, _, _, q1, _⟩ := I.hok a _ ha
  obtain ⟨_, _, _, q2, _⟩ := I.hok b _ hb'
  have XX : s.heap.OwnEqNoNe a C f "object" [.type "object"] := ⟨_, of, nm, qn, N, bs, hdct, sn, sub, ab, col, dd, k0, k1, k2, k3, k5, newId, _, _, q1, rfl, I.kIn _ _ hC, hn, ns_some I.kIn hn he, I.kIn _ _ hof, hoc, PySem.F.cmp_object.mro, PySem.F.cmp_object.eq.lookup, PySem.W.nsMap_none_of_in I.kIn hN hne⟩
  obtain ⟨hp, g, d, tk, os⟩ := s
  have hu := hr.units
  refine compareOp_ne_ownEq PySem.F.cmp_object XX q2 rfl (by omega) (wpAny_mono (Q := EP X pins σ (fun v H' => ∃ c, v = .bl c ∧ Q (.bl (!c)) H')) ?_ (fun w s' hw => ?_) fun _ _ e => e)
  · have hl := F.len _ _ _ _ q
    have bb := hb ⟨hp, g, d, tk, os⟩ [.ref a, .ref b] I.kIn (by rw [List.append_nil]; exact hl)
    rw [List.append_nil] at bb
    refine wpAny_call (codeAny_mono (F.run X.A.in1 X.stack _ H ⟨[.ref a, .ref b], []⟩ [.ref a, .ref b] [.ref a, .ref b] _ E hr.in1 I.env0.in1 bb (.cons rfl (.cons rfl .nil)) q) fun rr s' hq => ?_)
    cases rr with
    | error er => exact hx pins σ H _ er s' I hq
    | ok fl =>
      cases fl with
      | ret u => exact I.after hq
      | next => exact False.elim hq
      | brk => exact False.elim hq
      | cont => exact False.elim hq
  · obtain ⟨w', H', I', rw', c, rfl, qq⟩ := hw
    cases (show w = Value.bool c from rw')
    exact ⟨c, rfl, .bl (!c), H', I', rfl, qq⟩
end
end RK

set_option Elab.async false
set_option linter.all false
set_option maxRecDepth 100000
set_option maxHeartbeats 4000000
namespace RK
open PySem PySem.Spec PyProof.Rows L2
section
variable {X : Cx} {CX : CXT} {k : Nat} {f C : Addr} {fd : FuncData} {ps : List Str} {sp : Sp} {x : Str} {p pos : Pos} {e o : Expr} {es : List Expr} {t : TA}
/-! ### o.f as a target among others -/
def gFld (K : PySem.W.Frag) (ta : TE) (f : Str) : TG := fun v σ H Q => ta σ H fun x H1 => ∃ a C dx fs, x = .ref a ∧ H1 a = some (.ins C dx fs) ∧ Cls K C ∧ NoAttr K C f ∧ fs.length < 1000 ∧ Q σ (upd H1 a (.ins C dx (putF f v fs)))
theorem pg_fld {ta : TE} {f : Str} (ho : PE X o ta) : PG X (.Attribute o f pos) (gFld X.K ta f) := by
  refine ⟨fun pins s σ H v u Q I r h => ?_⟩
  refine PySem.W.kas_attr (thn (ho.run pins s σ H _ I h) fun ov s1 ⟨x, H1, I1, rx, a, C, dx, fs, ex, ea, c, n, l, q⟩ => ?_)
  subst ex
  obtain rfl : ov = Value.ref a := rx
  exact setattr_ok I1 ea c n l r fun s2 I2 => ⟨σ, _, I2, q⟩

/-! ### C(e, ..), its errors wished for at the slots -/
def tMakeS (C : Addr) (sp : Sp) (E : L2.St → XK) (t : TA) : TE := fun σ H Q => t σ H fun vs H1 => ∀ x dx, H1 x = none → H1 dx = none → dx ≠ x → sp (.ref x :: vs) (upd (upd H1 dx (.own x)) x (.ins C dx [])) (fun v H2 => v = .non ∧ Q (.ref x) H2) (E σ)
/-- what a new instance's __init__ lets out, wished for ahead of the instance -/
def PassesMk (CX : CXT) (X : Cx) (C : Addr) (σ : L2.St) (E : XK) : Prop := ∀ (pins : List (Addr × Obj)) (H : Hp) (s : Shared) (x dx : Addr) (e : Value) (s1 s' : Shared), Inv X pins σ (upd (upd H dx (.own x)) x (.ins C dx [])) s1 → CX X.stack (upd (upd H dx (.own x)) x (.ins C dx [])) s1 E e s' → X.xe e s'
theorem PassesAt.mk {σ : L2.St} {E : XK} (h : PassesAt CX X σ E) : PassesMk CX X C σ E := fun pins H s x dx e s1 s' I c => h pins _ _ e s' I c
theorem pe_makeS {E : L2.St → XK} (M : Mk X.K C f) (F : FnOk X.prog X.w X.K X.mg X.base CX k f fd ps sp) (hr : Room (k + 1) X.A) (hg : Gl X x) (hm : X.mg x = some (.ref C)) (hb : Binds X.K fd ps []) (hx : ∀ σ, PassesAt CX X σ (E σ))
    (ha : PA X (e :: es) t) (hdb : (x == ("__debug__" : Str)) = false := by decide) (he : starEach (e :: es) X.env = (false, eval e X.env) :: starEach es X.env := by rfl) (hpl : (backTo pos (starEach es X.env)).any (·.1) = false := by rfl) :
    PE X (.Call (.Name x p) (e :: es) [] pos) (tMakeS C sp E t) := by
  refine ⟨fun pins s σ H Q I h => ?_⟩
  refine wpAny_Call_Name_kw (ld_glob I hg hm ?_ hdb)
  refine PySem.W.callWith_K (h₀ := X.base) I.ok.mod.kin M.kp (thn (ha.run pos pins s σ H _ I h) fun us s1 ⟨vs, H1, I1, r, q⟩ => ⟨I1.kIn, ?_⟩) he hpl
  show wpAny _ _ (call (.ref C) us) _ _ _
  have hq := q (s1.heap.objs.size + 1) s1.heap.objs.size (I1.hok.fresh (Nat.le_succ _)) (I1.hok.fresh (Nat.le_refl _)) (Nat.ne_of_lt (Nat.lt_succ_self _))
  have I2 := Inv.made (C := C) I1
  have r2 : Vals (V.ref (s1.heap.objs.size + 1) :: vs) (Value.ref (s1.heap.objs.size + 1) :: us) := .cons rfl r
  have hl : (Value.ref (s1.heap.objs.size + 1) :: us).length = ps.length := by
    rw [← r2.length]
    exact F.len _ _ _ _ hq
  have bb := hb _ (Value.ref (s1.heap.objs.size + 1) :: us) I2.kIn (by rw [List.append_nil]; exact hl)
  rw [List.append_nil] at bb
  refine wpAny_call (make_map (f := f) I1.kIn M.makes M.init (beq_iff_eq.mp M.fn) (codeAny_mono (F.run _ X.stack _ _ ⟨Value.ref (s1.heap.objs.size + 1) :: us, []⟩ (Value.ref (s1.heap.objs.size + 1) :: us) _ _ (E σ) (hr.make C us [])
    (I2.env0.make C us []) bb r2 hq) fun rr s' hq' => ?_))
  cases rr with
  | error er => exact hx σ pins _ _ er s' I2 hq'
  | ok fl =>
    cases fl with
    | ret u =>
      obtain ⟨v, H', I3, rv, ev, q3⟩ := I2.after hq'
      subst ev
      exact ⟨rv, ⟨V.ref (s1.heap.objs.size + 1), H', I3, rfl, q3⟩⟩
    | next => exact False.elim hq'
    | brk => exact False.elim hq'
    | cont => exact False.elim hq'
theorem pass_none {X : Cx} : Passes (L2.CX X.prog X.w) X E0 := fun pins σ H s e s' I c => by
  obtain ⟨_, _, _, _, _, _, _, _, _, _, _, _, hE⟩ := c
  exact hE.elim
end

/-! ### the end: the law's def where no repr is under way -/
theorem law_callG {P : Program} {w : World} {K : PySem.W.Frag} {mg mb : Str → Option Value} {k : Nat} {fa a : Addr} {fd : FuncData} {x : Str} {sp : Sp} {s₁ : Shared} {vs : List Value} {ns : List Int}
    (KX : K.In s₁.heap) (hns : s₁.heap.Ns mainGlobals mg) (hb : s₁.heap.Ns builtinsNs mb) (hbb : ∀ x : Str, x ≠ "__name__" → mb x = bootBuiltins x) (hlim : s₁.heap.NoLimit) (hg : s₁.gens = #[])
    (ha : s₁.heap.get? a = some { cls := .type "list", data := .seq vs.toArray }) (hi : IntsAre vs ns) (hl : ns.length ≤ sizeLine) (hr : Room k callerA)
    (F : ∀ base : Heap, K.In base → base.Ns mainGlobals mg → FnG P w K mg base CX0 k fa fd [x] sp) (hbind : ∀ (s : Shared) (u : Value), BindsTo s fd ⟨[u], []⟩ [(x, u)])
    (hsp : ∀ H : Hp, Only H → SqL K H a (ns.map V.int) → sp [.ref a] H (fun v _ => v = .bl true) E0) :
    codeAny (model P w) callerA (.call (.ref fa) ⟨[.ref a], []⟩) (fun r s' => r = .ok (.ret (.bool true)) ∧ OldK s₁.heap s'.heap ∧ s'.os = s₁.os ∧ AllBare s'.gens) s₁ := by
  have rv := vals_ints hi
  have lenV := hi.length
  have core : ∀ H : Hp, Only H → SqL K H a (ns.map V.int) → HOk P w H s₁.heap → (∀ b, H b ≠ none → b = a) → (H a ≠ none → K.lookup a = none) →
      codeAny (model P w) callerA (.call (.ref fa) ⟨[.ref a], []⟩) (fun r s' => r = .ok (.ret (.bool true)) ∧ OldK s₁.heap s'.heap ∧ s'.os = s₁.os ∧ AllBare s'.gens) s₁ := by
    intro H hO hS hok hA hK
    have isA : ∀ {b : Addr} {u : HO}, H b = some u → b = a := fun {b u} q => hA b (by rw [q]; simp)
    have noA : ∀ {b : Addr} {o : Obj} {es : Array DictEntry} {ep : Nat}, s₁.heap.get? b = some o → o.data = .dict es ep → H b = none := fun {b o es ep} e d => by
      cases q : H b with
      | none => rfl
      | some u =>
        have e' := isA q
        subst e'
        rw [ha] at e
        cases e
        have d' : Data.seq vs.toArray _ = Data.dict es ep := d
        cases d'
    have nsK : ∀ {b : Addr} {m : Str → Option Value}, s₁.heap.Ns b m → (hidT s₁.heap H).Ns b m := fun {b m} z => by
      obtain ⟨o, es, ep, e, d, r⟩ := z
      exact ⟨o, es, ep, hidT_get e (noA e d), d, r⟩
    have hKb : K.In (hidT s₁.heap H) := fun b o e => hidT_get (KX b o e) (by
      cases q : H b with
      | none => rfl
      | some u =>
        have e' := isA q
        subst e'
        rw [hK (by rw [q]; simp)] at e
        cases e)
    have hM : Mod K mg (hidT s₁.heap H) := ⟨hKb, nsK hns, ⟨mb, nsK hb, hbb⟩, let ⟨mc, h1, h2⟩ := hlim; ⟨mc, nsK h1, h2⟩⟩
    have e0 : Env0 P w K mg (hidT s₁.heap H) callerA [] s₁ H := ⟨rfl, hM, fun b o e => of_hidT e, Nat.le_of_eq (hidT_size _ _), trivial, fun b hb => absurd (show b ∈ ([] : List Addr) from hb) (by simp), hok, .of_eq hg⟩
    refine codeAny_mono ((F _ hKb (nsK hns)).run callerA [] s₁ H ⟨[.ref a], []⟩ [.ref a] [.ref a] _ _ rfl hr e0 (hbind s₁ (.ref a)) (.cons rfl .nil) (hsp H hO hS)) fun r s' h => ?_
    cases r with
    | error e => exact False.elim h
    | ok fl =>
      cases fl with
      | next => exact False.elim h
      | brk => exact False.elim h
      | cont => exact False.elim h
      | ret u =>
        obtain ⟨v, H', os, bare, un, hok', r', q⟩ := h
        have q' : v = .bl true := q
        subst q'
        obtain rfl : u = Value.bool true := r'
        refine ⟨rfl, OldK.of_keep fun b o e => ?_, os, bare⟩
        cases q : H b with
        | none => exact un.keep b o e q (by intro z; exact absurd (show b ∈ ([] : List Addr) from z) (by simp)) (by simp)
        | some u =>
          rcases hO b with z | ⟨ob, xs, z⟩
          · rw [q] at z
            cases z
          · obtain ⟨e1, _⟩ := hok b _ z
            obtain ⟨e2, _⟩ := hok' b _ (un.frzs b ob _ z)
            rw [e] at e1
            cases e1
            exact e2
  cases hk : K.lookup a with
  | some o =>
    have e := KX a o hk
    rw [ha] at e
    cases e
    refine core (fun _ => none) (fun _ => .inl rfl) (.inr ⟨_, vs.toArray, _, hk, rfl, rfl, rfl, by rw [List.size_toArray, lenV]; exact hl, by simpa using rv⟩) (fun b u z => ?_) (fun b z => absurd rfl z) fun z => absurd rfl z
    have z' : (none : Option HO) = some u := z
    cases z'
  | none =>
    refine core (fun b => if b = a then some (.frz { cls := .type "list", data := .seq vs.toArray } (.lst (ns.map V.int))) else none) (fun b => ?_) (.inl (.inr ⟨{ cls := .type "list", data := .seq vs.toArray }, if_pos rfl⟩)) (fun b u z => ?_) (fun b z => ?_) fun _ => hk
    · by_cases hb : b = a
      · exact .inr ⟨_, _, if_pos hb⟩
      · exact .inl (if_neg hb)
    · by_cases hb : b = a
      · have z' := (if_pos hb).symm.trans z
        cases z'
        subst hb
        exact ⟨ha, by rw [List.length_map]; exact hl, vs, _, rv, ha⟩
      · have z' := (if_neg hb).symm.trans z
        cases z'
    · by_cases hb : b = a
      · exact hb
      · exact absurd (if_neg hb) z
open PySem.W in
theorem walk_ofG {l : PySem.W.OpenLaw} {n k : Nat} {q : Program} {loose : List Str} {XP : (Str → Option Value) → Heap → Prop} {YP : World → Heap → Prop} {d : DefRec} {K : Params → PySem.W.Frag} {sp : PySem.W.Frag → Sp} {x : Str}
    (hn : l.most = some n) (hn2 : n ≤ sizeLine) (hdf : d.params.defaults = []) (hr : Room k callerA)
    (hY : ∀ (w : World) (h : Heap), YP w h → (K w.params).In h)
    (F : ∀ (w : World) (mg : Str → Option Value) (fa : Addr) (h : Heap), (K w.params).In h → h.Ns mainGlobals mg → mg d.name = some (.ref fa) →
      ∃ fd : FuncData, (∀ (s : Shared) (u : Value), BindsTo s fd ⟨[u], []⟩ [(x, u)]) ∧
        ∀ base : Heap, (K w.params).In base → base.Ns mainGlobals mg → FnG l.prog w (K w.params) mg base CX0 k fa fd [x] (sp (K w.params)))
    (hsp : ∀ (K : PySem.W.Frag) (H : Hp) (a : Addr) (ns : List Int), ns.length ≤ n → Only H → SqL K H a (ns.map V.int) → sp K [.ref a] H (fun v _ => v = .bl true) E0) :
    PySem.W.WalkO q loose XP YP l.row.toRowW d [] (fun f vs => PySem.call f vs) := by
  refine Att.attach_call hn hdf fun w s₀ s₁ mg mb fa o pm cd doc a vs ns G Y ho hd hcd hmg hobj hints hlen hg => ?_
  have KX := hY w _ Y
  obtain ⟨fd, hb, hF⟩ := F w mg fa _ KX G.T.g hmg
  exact law_callG KX G.T.g G.T.b G.T.builtins G.T.nolimit hg hobj hints (Nat.le_trans hlen hn2) hr hF hb fun H hO hS => hsp (K w.params) H a ns hlen hO hS
end RK

set_option Elab.async false
set_option linter.all false
set_option maxRecDepth 100000
set_option maxHeartbeats 4000000
/-! Data in the abstract heap, what evaluates to what (over Evl), comprehensions. -/
namespace RK
open PySem L2 Evl

/-! ### rows and tables -/
/-- a tuple of ints -/
def RowT (H : Hp) (v : V) (r : Row) : Prop := ∃ a, v = .ref a ∧ H a = some (.tup (r.map V.int))
/-- a tuple, a list of rows -/
def TabT (H : Hp) (v : V) (t : Tab) : Prop := ∃ a vs, v = .ref a ∧ H a = some (.tup vs) ∧ Paired (RowT H) vs t
def TabL (H : Hp) (v : V) (t : Tab) : Prop := ∃ a vs, v = .ref a ∧ H a = some (.lst vs) ∧ Paired (RowT H) vs t
def TabA (H : Hp) (v : V) (t : Tab) : Prop := TabT H v t ∨ TabL H v t
section
variable {H H' : Hp} {v : V} {r : Row} {t : Tab} {vs : List V}
theorem RowT.ex (h : RowT H v r) (e : Ex H H') : RowT H' v r := by
  obtain ⟨a, e1, h1⟩ := h
  exact ⟨a, e1, e _ _ h1⟩
theorem rows_ex (h : Paired (RowT H) vs t) (e : Ex H H') : Paired (RowT H') vs t := Paired.mono (fun _ _ z => z.ex e) h
theorem TabT.ex (h : TabT H v t) (e : Ex H H') : TabT H' v t := by
  obtain ⟨a, vs, e1, h1, h2⟩ := h
  exact ⟨a, vs, e1, e _ _ h1, rows_ex h2 e⟩
theorem TabL.ex (h : TabL H v t) (e : Ex H H') : TabL H' v t := by
  obtain ⟨a, vs, e1, h1, h2⟩ := h
  exact ⟨a, vs, e1, e _ _ h1, rows_ex h2 e⟩
theorem TabA.ex (h : TabA H v t) (e : Ex H H') : TabA H' v t := h.elim (fun z => .inl (z.ex e)) fun z => .inr (z.ex e)
theorem paired_get {α β : Type} {F : α → β → Prop} : ∀ {xs : List α} {ys : List β} {i : Nat} {x : α}, Paired F xs ys → xs[i]? = some x → ∃ y, ys[i]? = some y ∧ F x y
  | _, _, _, _, .nil, h => by simp at h
  | _, _, 0, _, .cons f _, h => by
    simp at h
    subst h
    exact ⟨_, rfl, f⟩
  | _, _, i + 1, _, .cons _ t, h => by
    obtain ⟨y, h1, h2⟩ := paired_get (i := i) t (by simpa using h)
    exact ⟨y, by simpa using h1, h2⟩
theorem paired_get2 {α β : Type} {F : α → β → Prop} : ∀ {xs : List α} {ys : List β} {i : Nat} {y : β}, Paired F xs ys → ys[i]? = some y → ∃ x, xs[i]? = some x ∧ F x y
  | _, _, _, _, .nil, h => by simp at h
  | _, _, 0, _, .cons f _, h => by
    simp at h
    subst h
    exact ⟨_, rfl, f⟩
  | _, _, i + 1, _, .cons _ t, h => by
    obtain ⟨y, h1, h2⟩ := paired_get2 (i := i) t (by simpa using h)
    exact ⟨y, by simpa using h1, h2⟩
theorem paired_int : ∀ {vs : List V} {r : List Int}, Paired (fun v (i : Int) => v = V.int i) vs r → vs = r.map V.int
  | _, _, .nil => rfl
  | _, _, .cons h t => by rw [h, paired_int t] <;> rfl
theorem paired_bl : ∀ {vs : List V} {r : List Bool}, Paired (fun v (i : Bool) => v = V.bl i) vs r → vs = r.map V.bl
  | _, _, .nil => rfl
  | _, _, .cons h t => by rw [h, paired_bl t] <;> rfl
theorem paired_of_map {α β γ : Type} {F : α → γ → Prop} {f : β → γ} : ∀ {xs : List α} {ys : List β}, Paired (fun x y => F x (f y)) xs ys → Paired F xs (ys.map f)
  | _, _, .nil => .nil
  | _, _, .cons h t => .cons h (paired_of_map t)
theorem row_item {i : Nat} {x : V} (h : (r.map V.int)[i]? = some x) : x = V.int (at0 r i) ∧ i < r.length := by
  rw [List.getElem?_map] at h
  obtain ⟨y, hy, e⟩ := Option.map_eq_some_iff.mp h
  obtain ⟨h1, h2⟩ := List.getElem?_eq_some_iff.mp hy
  exact ⟨by rw [← e, at0_get h1, h2], h1⟩
theorem row_at {i : Nat} (h : i < r.length) : (r.map V.int)[i]? = some (V.int (at0 r i)) := by
  rw [List.getElem?_map, List.getElem?_eq_getElem h, at0_get h] <;> rfl
end

/-! ### what evaluates to what -/
def EvP (te : TE) (σ : L2.St) (H : Hp) (P : V → Hp → Prop) : Prop := ∀ H1, Ex H H1 → ∀ Q : VK, (∀ v H2, Ex H1 H2 → P v H2 → Q v H2) → te σ H1 Q
/-- a new list -/
def EvLP (te : TE) (σ : L2.St) (H : Hp) (P : List V → Hp → Prop) : Prop := ∀ H1, Ex H H1 → ∀ Q : VK, (∀ p vs H2, H1 p = none → Ex H1 H2 → H2 p = some (.lst vs) → P vs H2 → Q (.ref p) H2) → te σ H1 Q
def EvAP (ta : TA) (σ : L2.St) (H : Hp) (P : List V → Hp → Prop) : Prop := ∀ H1, Ex H H1 → ∀ Q : List V → Hp → Prop, (∀ vs H2, Ex H1 H2 → P vs H2 → Q vs H2) → ta σ H1 Q
section
variable {K : PySem.W.Frag} {σ : L2.St} {H H' : Hp} {ta tb te : TE} {tr : TA} {P P' : V → Hp → Prop} {PL PL' : List V → Hp → Prop} {v x y z : V}
theorem EvP.up (e : Ex H H') (h : EvP te σ H P) : EvP te σ H' P := fun H1 a Q q => h H1 (e.trans a) Q q
theorem EvLP.up (e : Ex H H') (h : EvLP te σ H PL) : EvLP te σ H' PL := fun H1 a Q q => h H1 (e.trans a) Q q
theorem EvP.imp (h : EvP te σ H P) (k : ∀ v H1, Ex H H1 → P v H1 → P' v H1) : EvP te σ H P' := fun H1 e Q q => h H1 e Q fun v H2 e2 p => q v H2 e2 (k v H2 (e.trans e2) p)
theorem EvLP.imp (h : EvLP te σ H PL) (k : ∀ vs H1, Ex H H1 → PL vs H1 → PL' vs H1) : EvLP te σ H PL' := fun H1 e Q q => h H1 e Q fun p vs H2 n e2 hp p2 => q p vs H2 n e2 hp (k vs H2 (e.trans e2) p2)
theorem ev_p (h : Ev te σ H v) (hp : ∀ H1, Ex H H1 → P v H1) : EvP te σ H P := fun H1 e Q q => h H1 e Q fun H2 e2 => q v H2 e2 (hp H2 (e.trans e2))
theorem EvP.ev (h : EvP te σ H (fun w _ => w = v)) : Ev te σ H v := fun H1 e Q q => h H1 e Q fun w H2 e2 p => by
  rw [p]
  exact q H2 e2
theorem EvLP.p (h : EvLP te σ H PL) : EvP te σ H (fun v H2 => ∃ p vs, v = .ref p ∧ H2 p = some (.lst vs) ∧ PL vs H2) := fun H1 e Q q => h H1 e Q fun p vs H2 n e2 hp p2 => q _ H2 e2 ⟨p, vs, rfl, hp, p2⟩
theorem eap_nil : EvAP tNil σ H (fun vs _ => vs = []) := fun H1 _ _ q => q [] H1 (Ex.refl H1) rfl
theorem eap_cons (h : EvP te σ H P) (hr : ∀ v H1, Ex H H1 → P v H1 → EvAP tr σ H1 (fun vs H2 => PL (v :: vs) H2)) : EvAP (tCons te tr) σ H PL := fun H1 e Q q =>
  h H1 e _ fun v H2 e2 p => hr v H2 (e.trans e2) p H2 (Ex.refl H2) _ fun vs H3 e3 p3 => q _ H3 (e2.trans e3) p3
theorem eap_one (h : EvP te σ H P) (hr : ∀ v H1, Ex H H1 → P v H1 → PL [v] H1) : EvAP (tCons te tNil) σ H PL := fun H1 e Q q =>
  h H1 e _ fun v H2 e2 p => q [v] H2 e2 (hr v H2 (e.trans e2) p)
theorem eap_of {vs : List V} (h : EvA tr σ H vs) (hp : ∀ H1, Ex H H1 → PL vs H1) : EvAP tr σ H PL := fun H1 e Q q => h H1 e Q fun H2 e2 => q vs H2 e2 (hp H2 (e.trans e2))
/-- a call, its arguments told -/
theorem evp_call {sp : Sp} {dvs : List V} {E : XK} (h : EvAP tr σ H PL) (hs : ∀ vs H1, Ex H H1 → PL vs H1 → ∀ Q : VK, (∀ v H2, Ex H1 H2 → P v H2 → Q v H2) → sp (vs ++ dvs) H1 Q E) : EvP (tCall sp dvs E tr) σ H P := fun H1 e Q q =>
  h H1 e _ fun vs H2 e2 p => hs vs H2 (e.trans e2) p Q fun v H3 e3 p3 => q v H3 (e2.trans e3) p3
theorem evlp_call {sp : Sp} {dvs : List V} {E : XK} (h : EvAP tr σ H PL) (hs : ∀ vs H1, Ex H H1 → PL vs H1 → ∀ Q : VK, (∀ p vs H2, H1 p = none → Ex H1 H2 → H2 p = some (.lst vs) → PL' vs H2 → Q (.ref p) H2) → sp (vs ++ dvs) H1 Q E) : EvLP (tCall sp dvs E tr) σ H PL' := fun H1 e Q q =>
  h H1 e _ fun vs H2 e2 p => hs vs H2 (e.trans e2) p Q fun l ws H3 n e3 hl p3 => q l ws H3 (fresh_back e2 n) (e2.trans e3) hl p3
theorem evp_op {r : R2} (ha : EvP ta σ H P) (hb : ∀ x H1, Ex H H1 → P x H1 → EvP tb σ H1 (fun y H2 => ∀ Q : VK, (∀ z H3, Ex H2 H3 → P' z H3 → Q z H3) → r x y H2 Q)) : EvP (tOp r ta tb) σ H P' := fun H1 e Q q =>
  ha H1 e _ fun x H2 e2 p => hb x H2 (e.trans e2) p H2 (Ex.refl H2) _ fun y H3 e3 p3 => p3 Q fun z H4 e4 p4 => q z H4 ((e2.trans e3).trans e4) p4
theorem evp_cb {r : List V → Hp → VK → Prop} (h : EvAP tr σ H PL) (hr : ∀ vs H1, Ex H H1 → PL vs H1 → ∀ Q : VK, (∀ v H2, Ex H1 H2 → P v H2 → Q v H2) → r vs H1 Q) : EvP (tCB r tr) σ H P := fun H1 e Q q =>
  h H1 e _ fun vs H2 e2 p => hr vs H2 (e.trans e2) p Q fun v H3 e3 p3 => q v H3 (e2.trans e3) p3
theorem evp_if {t : TT} {b : Bool} (h : EvT t σ H b) (h1 : b = true → EvP ta σ H P) (h2 : b = false → EvP tb σ H P) : EvP (tIf t ta tb) σ H P := fun H1 e Q q => h H1 e _ fun H2 e2 => by
  cases b with
  | true =>
    show ta σ H2 Q
    exact h1 rfl H2 (e.trans e2) Q fun v H3 e3 => q v H3 (e2.trans e3)
  | false =>
    show tb σ H2 Q
    exact h2 rfl H2 (e.trans e2) Q fun v H3 e3 => q v H3 (e2.trans e3)
def rTupOf (K : PySem.W.Frag) : List V → Hp → VK → Prop := fun xs H Q => ∃ p ys, xs = [.ref p] ∧ ((SqL K H p ys ∧ ∀ l, H l = none → Q (.ref l) (upd H l (.tup ys))) ∨ (SqT K H p ys ∧ Q (.ref p) H))
/-- tuple(a new list) -/
theorem evp_tupOf (h : EvLP te σ H PL) (hm : ∀ vs H1 H2, Ex H1 H2 → PL vs H1 → PL vs H2) : EvP (tCB (rTupOf K) (tCons te tNil)) σ H (fun v H2 => ∃ a vs, v = .ref a ∧ H2 a = some (.tup vs) ∧ PL vs H2) := fun H1 e Q q =>
  h H1 e _ fun p vs H2 n e2 hp p2 => ⟨p, vs, rfl, .inl ⟨sq_of hp, fun l hl => q _ _ (e2.trans (Ex.new hl)) ⟨l, vs, rfl, upd_same, hm vs _ _ (Ex.new hl) p2⟩⟩⟩
end

/-! ### comprehensions -/
/-- a relation of values that does not look into lists -/
structure LF {β : Type} (R : Hp → V → β → Prop) : Prop where
  ex : ∀ H H' v b, Ex H H' → R H v b → R H' v b
  lst : ∀ H D xs ys v b, H D = some (.lst xs) → R H v b → R (upd H D (.lst ys)) v b
theorem lf_row : LF RowT := ⟨fun _ _ _ _ e h => h.ex e, fun H D xs ys v b hD h => by
  obtain ⟨a, e, h1⟩ := h
  exact ⟨a, e, by rw [upd_ne (ne_of h1 hD (by intro z; cases z))]; exact h1⟩⟩
theorem lf_val {β : Type} {R : V → β → Prop} : LF (fun (_ : Hp) v b => R v b) := ⟨fun _ _ _ _ _ h => h, fun _ _ _ _ _ _ _ h => h⟩
theorem lf_paired {β : Type} {R : Hp → V → β → Prop} (l : LF R) {H H' : Hp} {vs : List V} {bs : List β} (e : Ex H H') (h : Paired (R H) vs bs) : Paired (R H') vs bs := Paired.mono (fun _ _ z => l.ex _ _ _ _ e z) h
section
variable {β : Type} {K : PySem.W.Frag} {σ : L2.St} {g : TG} {tt : TT} {te tl : TE} {vs : List Nat} {H : Hp} {J : It} {n : Nat} {G : Hp → Prop} {Y : Nat → Hp → V → Hp → Prop} {R : Hp → V → β → Prop}
/-- the items that stay -/
def pick (n : Nat) (f : Nat → Bool) (ys : Nat → β) : List β := ((List.range n).filter f).map ys
theorem pick_yes {f : Nat → Bool} {ys : Nat → β} (h : f n = true) : pick (n + 1) f ys = pick n f ys ++ [ys n] := by
  unfold pick
  rw [List.range_succ, List.filter_append, List.map_append, List.filter_cons, if_pos h] <;> rfl
theorem pick_no {f : Nat → Bool} {ys : Nat → β} (h : f n = false) : pick (n + 1) f ys = pick n f ys := by
  unfold pick
  rw [List.range_succ, List.filter_append, List.map_append, List.filter_cons, if_neg (by rw [h]; decide)]
  show _ ++ [] = _
  rw [List.append_nil]
theorem pick_len (n : Nat) (f : Nat → Bool) (ys : Nat → β) : (pick n f ys).length ≤ n := by
  unfold pick
  rw [List.length_map]
  have h := List.length_filter_le f (List.range n)
  rw [List.length_range] at h
  exact h
theorem pick_all (n : Nat) (ys : Nat → β) : pick n (fun _ => true) ys = (List.range n).map ys := by
  unfold pick
  rw [List.filter_eq_self.mpr fun _ _ => rfl]
theorem lc_lf (w : Walk J n G Y) (lf : LF R) (f : Nat → Bool) (ys : Nat → β) {D : Addr} (hD : H D = none) (hn : n ≤ 40000) (hG : ∀ H', Ex H H' → G H') {Qd : Hp → Prop}
    (turn : ∀ i x H1 H1', i < n → Ex H H1 → Y i H1 x H1' → ∃ σ2 H2, Ex H1 H2 ∧ (∀ Q : L2.St → Hp → Prop, Q σ2 H2 → g x (wipe σ vs) H1' Q) ∧ wipe σ2 vs = wipe σ vs ∧ EvT tt σ2 H2 (f i) ∧ (f i = true → EvP te σ2 H2 (fun v H3 => R H3 v (ys i))))
    (hd : ∀ H' ws, Ex H H' → H' D = some (.lst ws) → Paired (R H') ws (pick n f ys) → Qd H') :
    ∃ W : Nat → Nat → Hp → Prop, (∃ m, W 0 m (upd H D (.lst []))) ∧ ∀ i m H, W i m H →
      (J.stop i H ∧ Qd H) ∨ (J.go i H ∧ ∃ Nx : Hp → Prop, (∀ H', Nx H' → ∃ m', m' < m ∧ W (i + 1) m' H') ∧ ∀ x H', J.yld i H x H' → g x (wipe σ vs) H' fun σ2 H2 => wipe σ2 vs = wipe σ vs ∧ tt σ2 H2 fun b H3 =>
        if b = true then te σ2 H3 fun y H4 => ∃ acc, H4 D = some (.lst acc) ∧ acc.length < sizeLine ∧ Nx (upd H4 D (.lst (acc ++ [y]))) else Nx H3) := by
  refine lc_it w (fun i H' => Ex H H' ∧ ∃ ws, H' D = some (.lst ws) ∧ Paired (R H') ws (pick i f ys)) ⟨Ex.new hD, [], upd_same, .nil⟩ (fun i H' _ p => hG H' p.1) (fun i x H1 H1' hi p y => ?_) fun H' p => ?_
  · obtain ⟨e1, ws, hw, pw⟩ := p
    obtain ⟨σ2, H2, e2, hg, hwp, ht, he⟩ := turn i x H1 H1' hi e1 y
    refine hg _ ⟨hwp, ht H2 (Ex.refl H2) _ fun H3 e3 => ?_⟩
    cases hf : f i with
    | true =>
      show te σ2 H3 _
      refine he hf H3 e3 _ fun v H4 e4 r => ⟨ws, (e4 _ _ (e3 _ _ (e2 _ _ hw))), ?_, Ex.mut (((e1.trans e2).trans e3).trans e4) hD, ws ++ [v], upd_same, ?_⟩
      · have hl := pw.length
        have := pick_len i f ys
        exact sz_lt (by omega)
      · have hw4 := e4 _ _ (e3 _ _ (e2 _ _ hw))
        rw [pick_yes hf]
        exact Paired.snoc (Paired.mono (fun _ _ z => lf.lst _ _ _ _ _ _ hw4 (lf.ex _ _ _ _ ((e2.trans e3).trans e4) z)) pw) (lf.lst _ _ _ _ _ _ hw4 r)
    | false =>
      show _ ∧ _
      refine ⟨(e1.trans e2).trans e3, ws, e3 _ _ (e2 _ _ hw), ?_⟩
      rw [pick_no hf]
      exact lf_paired lf (e2.trans e3) pw
  · obtain ⟨e1, ws, hw, pw⟩ := p
    exact hd H' ws e1 hw pw
/-- over a list that is known -/
theorem evlp_list {a : Addr} {xs : List V} {j : Nat} (lf : LF R) (f : Nat → Bool) (ys : Nat → β) (h : Ev tl σ H (.ref a)) (hx : H a = some (.lst xs)) (hz : xs.length ≤ 40000) (hw : ∀ x, wipe ((wipe σ vs).set j (some x)) vs = wipe σ vs)
    (ht : ∀ (i : Nat) (x : V) H1, Ex H H1 → xs[i]? = some x → EvT tt ((wipe σ vs).set j (some x)) H1 (f i) ∧ (f i = true → EvP te ((wipe σ vs).set j (some x)) H1 (fun v H3 => R H3 v (ys i)))) :
    EvLP (tLc (iList K tl) (gName j) tt te vs) σ H (fun ws H2 => Paired (R H2) ws (pick xs.length f ys)) := fun H0 e Q q => h H0 e _ fun H1 e1 => ⟨a, rfl, ⟨xs, sq_of (e1 _ _ (e _ _ hx))⟩, fun D hD =>
  lc_lf (walk_list (K := K) (a := a) (xs := xs)) lf f ys hD hz (fun H' e2 => sq_of (e2 _ _ (e1 _ _ (e _ _ hx)))) (fun i x H2 H2' hi e2 y => by
    obtain ⟨rfl, hi⟩ := y
    obtain ⟨t1, t2⟩ := ht i x _ ((e.trans e1).trans e2) hi
    exact ⟨_, _, Ex.refl _, fun Q q => q, hw x, t1, t2⟩) fun H' ws e2 hD' pw => q D ws H' (fresh_back e1 hD) (e1.trans e2) hD' pw⟩
/-- over a new list -/
theorem evlp_new {PL : List V → Hp → Prop} {j : Nat} (lf : LF R) (m : Nat) (f : Nat → Bool) (ys : Nat → β) (h : EvLP tl σ H PL) (hz : m ≤ 40000) (hl : ∀ xs H1, PL xs H1 → xs.length = m) (hw : ∀ x, wipe ((wipe σ vs).set j (some x)) vs = wipe σ vs)
    (ht : ∀ xs H0, Ex H H0 → PL xs H0 → ∀ (i : Nat) (x : V) H1, Ex H0 H1 → xs[i]? = some x → EvT tt ((wipe σ vs).set j (some x)) H1 (f i) ∧ (f i = true → EvP te ((wipe σ vs).set j (some x)) H1 (fun v H3 => R H3 v (ys i)))) :
    EvLP (tLc (iList K tl) (gName j) tt te vs) σ H (fun ws H2 => Paired (R H2) ws (pick m f ys)) := fun H0 e Q q => h H0 e _ fun a xs H1 na e1 hx p => ⟨a, rfl, ⟨xs, sq_of hx⟩, fun D hD => by
  have el := hl xs H1 p
  subst el
  exact lc_lf (walk_list (K := K) (a := a) (xs := xs)) lf f ys hD hz (fun H' e2 => sq_of (e2 _ _ hx)) (fun i x H2 H2' hi e2 y => by
    obtain ⟨rfl, hi⟩ := y
    obtain ⟨t1, t2⟩ := ht xs H1 (e.trans e1) p i x _ e2 hi
    exact ⟨_, _, Ex.refl _, fun Q q => q, hw x, t1, t2⟩) fun H' ws e2 hD' pw => q D ws H' (fresh_back e1 hD) (e1.trans e2) hD' pw⟩
/-- over a tuple -/
theorem evlp_tup {a : Addr} {xs : List V} {j : Nat} (lf : LF R) (f : Nat → Bool) (ys : Nat → β) (h : Ev tl σ H (.ref a)) (hx : H a = some (.tup xs)) (hz : xs.length ≤ 40000) (hw : ∀ x, wipe ((wipe σ vs).set j (some x)) vs = wipe σ vs)
    (ht : ∀ (i : Nat) (x : V) H1, Ex H H1 → xs[i]? = some x → EvT tt ((wipe σ vs).set j (some x)) H1 (f i) ∧ (f i = true → EvP te ((wipe σ vs).set j (some x)) H1 (fun v H3 => R H3 v (ys i)))) :
    EvLP (tLc (iTup K tl) (gName j) tt te vs) σ H (fun ws H2 => Paired (R H2) ws (pick xs.length f ys)) := fun H0 e Q q => h H0 e _ fun H1 e1 => ⟨a, rfl, ⟨xs, st_of (e1 _ _ (e _ _ hx))⟩, fun D hD =>
  lc_lf (walk_tup (K := K) (a := a) (xs := xs)) lf f ys hD hz (fun H' e2 => st_of (e2 _ _ (e1 _ _ (e _ _ hx)))) (fun i x H2 H2' hi e2 y => by
    obtain ⟨rfl, hi⟩ := y
    obtain ⟨t1, t2⟩ := ht i x _ ((e.trans e1).trans e2) hi
    exact ⟨_, _, Ex.refl _, fun Q q => q, hw x, t1, t2⟩) fun H' ws e2 hD' pw => q D ws H' (fresh_back e1 hD) (e1.trans e2) hD' pw⟩
/-- over range(n) -/
theorem evlp_rng {ta : TA} {j : Nat} {m : Nat} (lf : LF R) (f : Nat → Bool) (ys : Nat → β) (h : EvA ta σ H [.int (m : Int)]) (hz : m ≤ 40000) (hw : ∀ x, wipe ((wipe σ vs).set j (some x)) vs = wipe σ vs)
    (ht : ∀ (i : Nat) H1, Ex H H1 → i < m → EvT tt ((wipe σ vs).set j (some (.int (i : Int)))) H1 (f i) ∧ (f i = true → EvP te ((wipe σ vs).set j (some (.int (i : Int)))) H1 (fun v H3 => R H3 v (ys i)))) :
    EvLP (tLc (iRng1 ta) (gName j) tt te vs) σ H (fun ws H2 => Paired (R H2) ws (pick m f ys)) := fun H0 e Q q => h H0 e _ fun H1 e1 => ⟨(m : Int), rfl, by omega, by omega, fun D hD =>
  lc_lf (walk_range (lo := 0) (n := (m : Int).toNat)) lf f ys hD (by simpa using hz) (fun _ _ => trivial) (fun i x H2 H2' hi e2 y => by
    obtain ⟨rfl, rfl⟩ := y
    have hi' : i < m := by simpa using hi
    obtain ⟨t1, t2⟩ := ht i _ ((e.trans e1).trans e2) hi'
    have e0 : (0 : Int) + (i : Int) = (i : Int) := Int.zero_add _
    refine ⟨(wipe σ vs).set j (some (.int (i : Int))), _, Ex.refl _, fun Q q => ?_, hw _, t1, t2⟩
    show Q ((wipe σ vs).set j (some (.int ((0 : Int) + (i : Int))))) _
    rw [e0]
    exact q) fun H' ws e2 hD' pw => q D ws H' (fresh_back e1 hD) (e1.trans e2) hD' (by simpa using pw)⟩
/-- over range(lo, hi) -/
theorem evlp_rng2 {ta : TA} {j : Nat} {lo hi : Int} (lf : LF R) (f : Nat → Bool) (ys : Nat → β) (h : EvA ta σ H [.int lo, .int hi]) (hb : 0 ≤ lo ∧ lo ≤ 40000 ∧ 0 ≤ hi ∧ hi ≤ 40000) (hw : ∀ x, wipe ((wipe σ vs).set j (some x)) vs = wipe σ vs)
    (ht : ∀ (i : Nat) H1, Ex H H1 → i < (hi - lo).toNat → EvT tt ((wipe σ vs).set j (some (.int (lo + (i : Int))))) H1 (f i) ∧ (f i = true → EvP te ((wipe σ vs).set j (some (.int (lo + (i : Int))))) H1 (fun v H3 => R H3 v (ys i)))) :
    EvLP (tLc (iRng2 ta) (gName j) tt te vs) σ H (fun ws H2 => Paired (R H2) ws (pick (hi - lo).toNat f ys)) := fun H0 e Q q => h H0 e _ fun H1 e1 => ⟨lo, hi, rfl, ⟨by omega, by omega, by omega, by omega⟩, fun D hD =>
  lc_lf (walk_range (lo := lo) (n := (hi - lo).toNat)) lf f ys hD (by omega) (fun _ _ => trivial) (fun i x H2 H2' hi e2 y => by
    obtain ⟨rfl, rfl⟩ := y
    obtain ⟨t1, t2⟩ := ht i _ ((e.trans e1).trans e2) hi
    exact ⟨_, _, Ex.refl _, fun Q q => q, hw _, t1, t2⟩) fun H' ws e2 hD' pw => q D ws H' (fresh_back e1 hD) (e1.trans e2) hD' pw⟩
/-- over zip of two tuples of one length -/
theorem evlp_zipT {ta : TA} {a b : Addr} {xs zs : List V} {i j : Nat} (lf : LF R) (f : Nat → Bool) (ys : Nat → β) (h : EvAP ta σ H (fun us H1 => us = [.ref a, .ref b] ∧ H1 a = some (.tup xs) ∧ H1 b = some (.tup zs))) (hl : xs.length = zs.length) (hz : xs.length ≤ 40000)
    (hw : ∀ x y, wipe (((wipe σ vs).set i (some x)).set j (some y)) vs = wipe σ vs)
    (ht : ∀ (k : Nat) (x y : V) H1, Ex H H1 → xs[k]? = some x → zs[k]? = some y → EvT tt (((wipe σ vs).set i (some x)).set j (some y)) H1 (f k) ∧ (f k = true → EvP te (((wipe σ vs).set i (some x)).set j (some y)) H1 (fun v H3 => R H3 v (ys k)))) :
    EvLP (tLc (RZ.iZipA K ta) (gTup K 2 (gCons (gName i) (gCons (gName j) gNil))) tt te vs) σ H (fun ws H2 => Paired (R H2) ws (pick xs.length f ys)) := fun H0 e Q q => h H0 e _ fun us H1 e1 p => by
  obtain ⟨rfl, ha, hb⟩ := p
  refine ⟨a, b, xs, zs, rfl, .inr ⟨st_of ha, st_of hb, fun D hD => ?_⟩⟩
  have w : Walk (RZ.ItzT K a b) xs.length (fun H => SqT K H a xs ∧ SqT K H b zs) (YPair (fun k => xs[k]?) (fun k => zs[k]?)) := by
    refine ⟨fun k _ hk q => ⟨xs, zs, xs[k], zs[k]'(by omega), q.1, q.2, by simp [hk], by simp [show k < zs.length by omega]⟩, fun _ q => ⟨xs, zs, q.1, q.2, .inl (Nat.le_refl _)⟩, fun k H v H' _ q y => ?_⟩
    obtain ⟨T, x, z, h1, h2, h3, h4, h5⟩ := y
    exact ⟨T, x, z, h1, h2, h3, h4 xs q.1, h5 zs q.2⟩
  refine lc_lf w lf f ys hD hz (fun H' e2 => ⟨st_of (e2 _ _ ha), st_of (e2 _ _ hb)⟩) (fun k x H2 H2' hk e2 y => ?_) fun H' ws e2 hD' pw => q D ws H' (fresh_back e1 hD) (e1.trans e2) hD' pw
  obtain ⟨T, x1, y1, rfl, hT, rfl, h1, h2⟩ := y
  obtain ⟨t1, t2⟩ := ht k x1 y1 (upd H2 T (.tup [x1, y1])) (((e.trans e1).trans e2).trans (Ex.new hT)) h1 h2
  exact ⟨_, _, Ex.new hT, fun Q q => ⟨T, [x1, y1], rfl, st_of upd_same, rfl, x1, [y1], rfl, y1, [], rfl, rfl, q⟩, hw x1 y1, t1, t2⟩
/-- over zip of two lists of one length -/
theorem evlp_zipL {ta : TA} {a b : Addr} {xs zs : List V} {i j : Nat} (lf : LF R) (f : Nat → Bool) (ys : Nat → β) (h : EvAP ta σ H (fun us H1 => us = [.ref a, .ref b] ∧ H1 a = some (.lst xs) ∧ H1 b = some (.lst zs))) (hl : xs.length = zs.length) (hz : xs.length ≤ 40000)
    (hw : ∀ x y, wipe (((wipe σ vs).set i (some x)).set j (some y)) vs = wipe σ vs)
    (ht : ∀ (k : Nat) (x y : V) H1, Ex H H1 → xs[k]? = some x → zs[k]? = some y → EvT tt (((wipe σ vs).set i (some x)).set j (some y)) H1 (f k) ∧ (f k = true → EvP te (((wipe σ vs).set i (some x)).set j (some y)) H1 (fun v H3 => R H3 v (ys k)))) :
    EvLP (tLc (RZ.iZipA K ta) (gTup K 2 (gCons (gName i) (gCons (gName j) gNil))) tt te vs) σ H (fun ws H2 => Paired (R H2) ws (pick xs.length f ys)) := fun H0 e Q q => h H0 e _ fun us H1 e1 p => by
  obtain ⟨rfl, ha, hb⟩ := p
  refine ⟨a, b, xs, zs, rfl, .inl ⟨sq_of ha, sq_of hb, fun D hD => ?_⟩⟩
  refine lc_lf (walk_zip (K := K) (a := a) (b := b) (xs := xs) (ys := zs) (n := xs.length) (by omega)) lf f ys hD hz (fun H' e2 => ⟨sq_of (e2 _ _ ha), sq_of (e2 _ _ hb)⟩) (fun k x H2 H2' hk e2 y => ?_) fun H' ws e2 hD' pw => q D ws H' (fresh_back e1 hD) (e1.trans e2) hD' pw
  obtain ⟨T, x1, y1, rfl, hT, rfl, h1, h2⟩ := y
  obtain ⟨t1, t2⟩ := ht k x1 y1 (upd H2 T (.tup [x1, y1])) (((e.trans e1).trans e2).trans (Ex.new hT)) h1 h2
  exact ⟨_, _, Ex.new hT, fun Q q => ⟨T, [x1, y1], rfl, st_of upd_same, rfl, x1, [y1], rfl, y1, [], rfl, rfl, q⟩, hw x1 y1, t1, t2⟩
/-- over enumerate of a tuple -/
theorem evlp_enumT {ta : TA} {a : Addr} {xs : List V} {i j : Nat} (lf : LF R) (f : Nat → Bool) (ys : Nat → β) (h : EvAP ta σ H (fun us H1 => us = [.ref a] ∧ H1 a = some (.tup xs))) (hz : xs.length ≤ 40000)
    (hw : ∀ x y, wipe (((wipe σ vs).set i (some x)).set j (some y)) vs = wipe σ vs)
    (ht : ∀ (k : Nat) (y : V) H1, Ex H H1 → xs[k]? = some y → EvT tt (((wipe σ vs).set i (some (.int (k : Nat)))).set j (some y)) H1 (f k) ∧ (f k = true → EvP te (((wipe σ vs).set i (some (.int (k : Nat)))).set j (some y)) H1 (fun v H3 => R H3 v (ys k)))) :
    EvLP (tLc (iEnumT K ta) (gTup K 2 (gCons (gName i) (gCons (gName j) gNil))) tt te vs) σ H (fun ws H2 => Paired (R H2) ws (pick xs.length f ys)) := fun H0 e Q q => h H0 e _ fun us H1 e1 p => by
  obtain ⟨rfl, ha⟩ := p
  refine ⟨a, xs, rfl, st_of ha, fun D hD => ?_⟩
  refine lc_lf (walk_enumT (K := K) (a := a) (xs := xs)) lf f ys hD hz (fun H' e2 => st_of (e2 _ _ ha)) (fun k x H2 H2' hk e2 y => ?_) fun H' ws e2 hD' pw => q D ws H' (fresh_back e1 hD) (e1.trans e2) hD' pw
  obtain ⟨T, x1, y1, rfl, hT, rfl, h1, h2⟩ := y
  cases h1
  obtain ⟨t1, t2⟩ := ht k y1 (upd H2 T (.tup [.int (k : Nat), y1])) (((e.trans e1).trans e2).trans (Ex.new hT)) h2
  exact ⟨_, _, Ex.new hT, fun Q q => ⟨T, [.int (k : Nat), y1], rfl, st_of upd_same, rfl, .int (k : Nat), [y1], rfl, y1, [], rfl, rfl, q⟩, hw _ y1, t1, t2⟩
end
theorem et_yes {σ : L2.St} {H : Hp} : EvT tYes σ H true := fun H1 _ _ q => q H1 (Ex.refl H1)

/-! ### the rules with the written part as a letter (for a comprehension's element) -/
section
variable {X : Cx} {K : PySem.W.Frag}
theorem ix_tupK (h : X.K = K := by rfl) : IxR X (rIxT K) := h ▸ ix_tup
theorem ix_listK (h : X.K = K := by rfl) : IxR X (rIxL K) := h ▸ ix_list
theorem callTupK (h : X.K = K := by rfl) : CallR X (.type "tuple") (rTupOf K) := h ▸ call_tuple_of
theorem callListK (h : X.K = K := by rfl) : CallR X (.type "list") (rListS K) := h ▸ call_list_of
theorem callLenK (h : X.K = K := by rfl) : CallR X (.builtin "len") (rLenS K) := h ▸ call_len_seq
theorem callSumK (hc : X.calm = true) (h : X.K = K := by rfl) : CallR X (.builtin "sum") (rSum K) := h ▸ cr_sum hc
theorem callAllK (hc : X.calm = true) (h : X.K = K := by rfl) : CallR X (.builtin "all") (rAll K) := h ▸ cr_all hc
theorem callAnyK (hc : X.calm = true) (h : X.K = K := by rfl) : CallR X (.builtin "any") (rAny K) := h ▸ cr_any hc
theorem callIsiTK (h : X.K = K := by rfl) : CallR X (.builtin "isinstance") (rIsiT K) := h ▸ call_isiT
theorem callIsiK (h : X.K = K := by rfl) : CallR X (.builtin "isinstance") (rIsi K) := h ▸ call_isi
theorem op_inK (h : X.K = K := by rfl) : OpR X (compareOp .In) (rIn K false) := h ▸ op_in_seq
theorem op_notInK (h : X.K = K := by rfl) : OpR X (compareOp .NotIn) (rIn K true) := h ▸ op_notIn_seq
theorem pi_tupK {l : Expr} {tl : TE} {tg : Expr} (hl : PE X l tl) (h : X.K = K := by rfl) : PI X tg l (iTup K tl) := h ▸ pi_tup hl
theorem pi_listK {l : Expr} {tl : TE} {tg : Expr} (hl : PE X l tl) (h : X.K = K := by rfl) : PI X tg l (iList K tl) := h ▸ pi_list hl
theorem pi_zipK {e e2 : Expr} {ta : TA} {p pos tpos : Pos} {elts : List Expr} {kk : Nat} (hg : Gl X "zip") (hm : X.mg "zip" = none) (ha : PA X [e, e2] ta)
    (hs : starEach [e, e2] X.env = (false, eval e X.env) :: starEach [e2] X.env := by rfl) (hpl : (backTo pos (starEach [e2] X.env)).any (·.1) = false := by rfl) (h : X.K = K := by rfl) :
    PI X (.Tuple elts kk tpos) (.Call (.Name "zip" p) [e, e2] [] pos) (RZ.iZipA K ta) := h ▸ RZ.pi_zipA hg hm ha hs hpl
theorem pi_enumK {e : Expr} {ta : TA} {p pos tpos : Pos} {elts : List Expr} {kk : Nat} (hg : Gl X "enumerate") (hm : X.mg "enumerate" = none) (ha : PA X [e] ta) (hs : starEach [e] X.env = [(false, eval e X.env)] := by rfl) (h : X.K = K := by rfl) :
    PI X (.Tuple elts kk tpos) (.Call (.Name "enumerate" p) [e] [] pos) (iEnumT K ta) := h ▸ pi_enumT hg hm ha hs
theorem pg_tupK {es : List Expr} {k : Nat} {t : TGs} {n : Nat} {pos : Pos} (hc : X.calm = true) (hg : PGs X es t)
    (hn : (assignEach es X.env).length = n := by rfl) (hst : (assignEach es X.env).findIdx? (·.1) = none := by rfl) (h : X.K = K := by rfl) : PG X (.Tuple es k pos) (gTup K n t) := h ▸ pg_tup hc hg hn hst
end
end RK

set_option Elab.async false
set_option linter.all false
set_option maxRecDepth 100000
set_option maxHeartbeats 4000000
/-! The text by places: each def's statement, its names by slot. Printed by gen_txt.py. -/
namespace RK
open PySem L2
def top (i : Nat) : Stmt := PySem.Challenge.pw_restkeepers_k21_whole_rooms_made.main.body.getD i (.Pass ⟨0, 0, 0, 0⟩)
abbrev sInvalidPrimeInit : Stmt := inClass (top 3) 0
abbrev nInvalidPrimeInit : List Str := ["self", "value"]
theorem scInvalidPrimeInit : FnScope nInvalidPrimeInit ["self", "value"] (defScope sInvalidPrimeInit) := ⟨rfl, rfl, rfl, by decide +kernel, rfl, by decide +kernel, by decide +kernel⟩
abbrev sInvalidRowsInit : Stmt := inClass (top 4) 0
abbrev nInvalidRowsInit : List Str := ["self", "value"]
theorem scInvalidRowsInit : FnScope nInvalidRowsInit ["self", "value"] (defScope sInvalidRowsInit) := ⟨rfl, rfl, rfl, by decide +kernel, rfl, by decide +kernel, by decide +kernel⟩
abbrev sIsInteger : Stmt := top 6
abbrev nIsInteger : List Str := ["value"]
theorem scIsInteger : FnScope nIsInteger ["value"] (defScope sIsInteger) := ⟨rfl, rfl, rfl, by decide +kernel, rfl, by decide +kernel, by decide +kernel⟩
abbrev sIsList : Stmt := top 7
abbrev nIsList : List Str := ["value"]
theorem scIsList : FnScope nIsList ["value"] (defScope sIsList) := ⟨rfl, rfl, rfl, by decide +kernel, rfl, by decide +kernel, by decide +kernel⟩
abbrev sPowerOf : Stmt := top 10
abbrev nPowerOf : List Str := ["prime", "number", "many", "found", "turn"]
theorem scPowerOf : FnScope nPowerOf ["prime", "number", "many"] (defScope sPowerOf) := ⟨rfl, rfl, rfl, by decide +kernel, rfl, by decide +kernel, by decide +kernel⟩
abbrev sUndoneOf : Stmt := top 11
abbrev nUndoneOf : List Str := ["prime", "rest"]
theorem scUndoneOf : FnScope nUndoneOf ["prime", "rest"] (defScope sUndoneOf) := ⟨rfl, rfl, rfl, by decide +kernel, rfl, by decide +kernel, by decide +kernel⟩
abbrev sIsRestBy : Stmt := top 12
abbrev nIsRestBy : List Str := ["prime", "value"]
theorem scIsRestBy : FnScope nIsRestBy ["prime", "value"] (defScope sIsRestBy) := ⟨rfl, rfl, rfl, by decide +kernel, rfl, by decide +kernel, by decide +kernel⟩
abbrev sWantPrime : Stmt := top 13
abbrev nWantPrime : List Str := ["value"]
theorem scWantPrime : FnScope nWantPrime ["value"] (defScope sWantPrime) := ⟨rfl, rfl, rfl, by decide +kernel, rfl, by decide +kernel, by decide +kernel⟩
abbrev sIsPrime : Stmt := top 14
abbrev nIsPrime : List Str := ["value"]
theorem scIsPrime : FnScope nIsPrime ["value"] (defScope sIsPrime) := ⟨rfl, rfl, rfl, by decide +kernel, rfl, by decide +kernel, by decide +kernel⟩
abbrev sUnit : Stmt := top 17
abbrev nUnit : List Str := ["size", "place", "at"]
theorem scUnit : FnScope nUnit ["size", "place"] (defScope sUnit) := ⟨rfl, rfl, rfl, by decide +kernel, rfl, by decide +kernel, by decide +kernel⟩
abbrev sSumOf : Stmt := top 18
abbrev nSumOf : List Str := ["prime", "row", "other", "rest", "near", "far"]
theorem scSumOf : FnScope nSumOf ["prime", "row", "other", "rest"] (defScope sSumOf) := ⟨rfl, rfl, rfl, by decide +kernel, rfl, by decide +kernel, by decide +kernel⟩
abbrev sScaledOf : Stmt := top 19
abbrev nScaledOf : List Str := ["prime", "row", "rest", "number"]
theorem scScaledOf : FnScope nScaledOf ["prime", "row", "rest"] (defScope sScaledOf) := ⟨rfl, rfl, rfl, by decide +kernel, rfl, by decide +kernel, by decide +kernel⟩
abbrev sTurnedOf : Stmt := top 20
abbrev nTurnedOf : List Str := ["table", "place", "row"]
theorem scTurnedOf : FnScope nTurnedOf ["table"] (defScope sTurnedOf) := ⟨rfl, rfl, rfl, by decide +kernel, rfl, by decide +kernel, by decide +kernel⟩
abbrev sRowIn : Stmt := top 21
abbrev nRowIn : List Str := ["prime", "value", "size", "number"]
theorem scRowIn : FnScope nRowIn ["prime", "value", "size"] (defScope sRowIn) := ⟨rfl, rfl, rfl, by decide +kernel, rfl, by decide +kernel, by decide +kernel⟩
abbrev sTableIn : Stmt := top 22
abbrev nTableIn : List Str := ["prime", "value", "found", "row"]
theorem scTableIn : FnScope nTableIn ["prime", "value"] (defScope sTableIn) := ⟨rfl, rfl, rfl, by decide +kernel, rfl, by decide +kernel, by decide +kernel⟩
abbrev sHeadOf : Stmt := top 24
abbrev nHeadOf : List Str := ["row", "place", "number"]
theorem scHeadOf : FnScope nHeadOf ["row"] (defScope sHeadOf) := ⟨rfl, rfl, rfl, by decide +kernel, rfl, by decide +kernel, by decide +kernel⟩
abbrev sHeadsOf : Stmt := top 25
abbrev nHeadsOf : List Str := ["steps", "row"]
theorem scHeadsOf : FnScope nHeadsOf ["steps"] (defScope sHeadsOf) := ⟨rfl, rfl, rfl, by decide +kernel, rfl, by decide +kernel, by decide +kernel⟩
abbrev sWithout : Stmt := top 26
abbrev nWithout : List Str := ["prime", "row", "head", "place"]
theorem scWithout : FnScope nWithout ["prime", "row", "head", "place"] (defScope sWithout) := ⟨rfl, rfl, rfl, by decide +kernel, rfl, by decide +kernel, by decide +kernel⟩
abbrev sStepsOf : Stmt := top 27
abbrev nStepsOf : List Str := ["prime", "rows", "left", "found", "place", "heads", "row", "head", "made"]
theorem scStepsOf : FnScope nStepsOf ["prime", "rows"] (defScope sStepsOf) := ⟨rfl, rfl, rfl, by decide +kernel, rfl, by decide +kernel, by decide +kernel⟩
abbrev sZerosOf : Stmt := top 28
abbrev nZerosOf : List Str := ["prime", "size", "rows", "solved", "heads", "found", "place", "at", "row", "head", "step"]
theorem scZerosOf : FnScope nZerosOf ["prime", "size", "rows"] (defScope sZerosOf) := ⟨rfl, rfl, rfl, by decide +kernel, rfl, by decide +kernel, by decide +kernel⟩
abbrev sKnownInit : Stmt := inClass (top 30) 0
abbrev nKnownInit : List Str := ["self", "prime", "rows"]
theorem scKnownInit : FnScope nKnownInit ["self", "prime", "rows"] (defScope sKnownInit) := ⟨rfl, rfl, rfl, by decide +kernel, rfl, by decide +kernel, by decide +kernel⟩
abbrev sRightRows : Stmt := top 31
abbrev nRightRows : List Str := ["prime", "value", "found"]
theorem scRightRows : FnScope nRightRows ["prime", "value"] (defScope sRightRows) := ⟨rfl, rfl, rfl, by decide +kernel, rfl, by decide +kernel, by decide +kernel⟩
abbrev sRoomInit : Stmt := inClass (top 32) 0
abbrev nRoomInit : List Str := ["self", "prime", "rows"]
theorem scRoomInit : FnScope nRoomInit ["self", "prime", "rows"] (defScope sRoomInit) := ⟨rfl, rfl, rfl, by decide +kernel, rfl, by decide +kernel, by decide +kernel⟩
abbrev sRoomPrime : Stmt := inClass (top 32) 1
abbrev nRoomPrime : List Str := ["self"]
theorem scRoomPrime : FnScope nRoomPrime ["self"] (defScope sRoomPrime) := ⟨rfl, rfl, rfl, by decide +kernel, rfl, by decide +kernel, by decide +kernel⟩
abbrev sRoomSize : Stmt := inClass (top 32) 2
abbrev nRoomSize : List Str := ["self"]
theorem scRoomSize : FnScope nRoomSize ["self"] (defScope sRoomSize) := ⟨rfl, rfl, rfl, by decide +kernel, rfl, by decide +kernel, by decide +kernel⟩
abbrev sRoomRank : Stmt := inClass (top 32) 3
abbrev nRoomRank : List Str := ["self"]
theorem scRoomRank : FnScope nRoomRank ["self"] (defScope sRoomRank) := ⟨rfl, rfl, rfl, by decide +kernel, rfl, by decide +kernel, by decide +kernel⟩
abbrev sRoomRows : Stmt := inClass (top 32) 4
abbrev nRoomRows : List Str := ["self"]
theorem scRoomRows : FnScope nRoomRows ["self"] (defScope sRoomRows) := ⟨rfl, rfl, rfl, by decide +kernel, rfl, by decide +kernel, by decide +kernel⟩
abbrev sRoomStill : Stmt := inClass (top 32) 7
abbrev nRoomStill : List Str := ["self"]
theorem scRoomStill : FnScope nRoomStill ["self"] (defScope sRoomStill) := ⟨rfl, rfl, rfl, by decide +kernel, rfl, by decide +kernel, by decide +kernel⟩
abbrev sRoomEq : Stmt := inClass (top 32) 9
abbrev nRoomEq : List Str := ["self", "other"]
theorem scRoomEq : FnScope nRoomEq ["self", "other"] (defScope sRoomEq) := ⟨rfl, rfl, rfl, by decide +kernel, rfl, by decide +kernel, by decide +kernel⟩
abbrev sRoomRepr : Stmt := inClass (top 32) 10
abbrev nRoomRepr : List Str := ["self"]
theorem scRoomRepr : FnScope nRoomRepr ["self"] (defScope sRoomRepr) := ⟨rfl, rfl, rfl, by decide +kernel, rfl, by decide +kernel, by decide +kernel⟩
abbrev sStillOf : Stmt := top 33
abbrev nStillOf : List Str := ["room"]
theorem scStillOf : FnScope nStillOf ["room"] (defScope sStillOf) := ⟨rfl, rfl, rfl, by decide +kernel, rfl, by decide +kernel, by decide +kernel⟩
abbrev sLPot : Stmt := top 35
abbrev nLPot : List Str := ["_law_script", "_law_k", "_law_cell"]
theorem scLPot : FnScope nLPot ["_law_script", "_law_k"] (defScope sLPot) := ⟨rfl, rfl, rfl, by decide +kernel, rfl, by decide +kernel, by decide +kernel⟩
abbrev sLDraw : Stmt := top 36
abbrev nLDraw : List Str := ["_law_pot_here", "_law_many", "_law_digit"]
theorem scLDraw : FnScope nLDraw ["_law_pot_here", "_law_many"] (defScope sLDraw) := ⟨rfl, rfl, rfl, by decide +kernel, rfl, by decide +kernel, by decide +kernel⟩
abbrev sLPick : Stmt := top 37
abbrev nLPick : List Str := ["_law_pot_here", "_law_some"]
theorem scLPick : FnScope nLPick ["_law_pot_here", "_law_some"] (defScope sLPick) := ⟨rfl, rfl, rfl, by decide +kernel, rfl, by decide +kernel, by decide +kernel⟩
abbrev sLMixed : Stmt := top 38
abbrev nLMixed : List Str := ["_law_pot_here", "_law_some", "_law_left", "_law_found", "_law_turn_here"]
theorem scLMixed : FnScope nLMixed ["_law_pot_here", "_law_some"] (defScope sLMixed) := ⟨rfl, rfl, rfl, by decide +kernel, rfl, by decide +kernel, by decide +kernel⟩
abbrev sLDot : Stmt := top 39
abbrev nLDot : List Str := ["_law_prime", "_law_one", "_law_other", "_law_mine", "_law_yours"]
theorem scLDot : FnScope nLDot ["_law_prime", "_law_one", "_law_other"] (defScope sLDot) := ⟨rfl, rfl, rfl, by decide +kernel, rfl, by decide +kernel, by decide +kernel⟩
abbrev sLLed : Stmt := top 40
abbrev nLLed : List Str := ["_law_prime", "_law_row", "_law_table", "_law_wide", "_law_to", "_law_at"]
theorem scLLed : FnScope nLLed ["_law_prime", "_law_row", "_law_table"] (defScope sLLed) := ⟨rfl, rfl, rfl, by decide +kernel, rfl, by decide +kernel, by decide +kernel⟩
abbrev sLBetween : Stmt := top 41
abbrev nLBetween : List Str := ["_law_prime", "_law_grid_here", "_law_one", "_law_other"]
theorem scLBetween : FnScope nLBetween ["_law_prime", "_law_grid_here", "_law_one", "_law_other"] (defScope sLBetween) := ⟨rfl, rfl, rfl, by decide +kernel, rfl, by decide +kernel, by decide +kernel⟩
abbrev sLUnits : Stmt := top 42
abbrev nLUnits : List Str := ["_law_size", "_law_at", "_law_to"]
theorem scLUnits : FnScope nLUnits ["_law_size"] (defScope sLUnits) := ⟨rfl, rfl, rfl, by decide +kernel, rfl, by decide +kernel, by decide +kernel⟩
abbrev sLRoomBy : Stmt := top 43
abbrev nLRoomBy : List Str := ["_law_prime", "_law_grid_here", "_law_table", "_law_one", "_law_other"]
theorem scLRoomBy : FnScope nLRoomBy ["_law_prime", "_law_grid_here", "_law_table"] (defScope sLRoomBy) := ⟨rfl, rfl, rfl, by decide +kernel, rfl, by decide +kernel, by decide +kernel⟩
abbrev sLTurn : Stmt := top 44
abbrev nLTurn : List Str := ["_law_prime", "_law_rest", "_law_one"]
theorem scLTurn : FnScope nLTurn ["_law_prime", "_law_rest"] (defScope sLTurn) := ⟨rfl, rfl, rfl, by decide +kernel, rfl, by decide +kernel, by decide +kernel⟩
abbrev sLSteps : Stmt := top 45
abbrev nLSteps : List Str := ["_law_prime", "_law_rows", "_law_left", "_law_found", "_law_row", "_law_place", "_law_heads", "_law_turn_here", "_law_head", "_law_number"]
theorem scLSteps : FnScope nLSteps ["_law_prime", "_law_rows"] (defScope sLSteps) := ⟨rfl, rfl, rfl, by decide +kernel, rfl, by decide +kernel, by decide +kernel⟩
abbrev sLLess : Stmt := top 46
abbrev nLLess : List Str := ["_law_prime", "_law_row", "_law_head", "_law_much", "_law_number", "_law_other"]
theorem scLLess : FnScope nLLess ["_law_prime", "_law_row", "_law_head", "_law_much"] (defScope sLLess) := ⟨rfl, rfl, rfl, by decide +kernel, rfl, by decide +kernel, by decide +kernel⟩
abbrev sLAngles : Stmt := top 47
abbrev nLAngles : List Str := ["_law_prime", "_law_grid_here", "_law_rows", "_law_size", "_law_known", "_law_row", "_law_heads", "_law_found", "_law_at", "_law_number", "_law_free", "_law_head", "_law_step"]
theorem scLAngles : FnScope nLAngles ["_law_prime", "_law_grid_here", "_law_rows"] (defScope sLAngles) := ⟨rfl, rfl, rfl, by decide +kernel, rfl, by decide +kernel, by decide +kernel⟩
abbrev sLStill : Stmt := top 48
abbrev nLStill : List Str := ["_law_prime", "_law_grid_here"]
theorem scLStill : FnScope nLStill ["_law_prime", "_law_grid_here"] (defScope sLStill) := ⟨rfl, rfl, rfl, by decide +kernel, rfl, by decide +kernel, by decide +kernel⟩
abbrev sLLetters : Stmt := top 49
abbrev nLLetters : List Str := ["_law_pot_here", "_law_prime", "_law_size", "_law_found", "_law_row", "_law_turn_here", "_law_one", "_law_other", "_law_much", "_law_mine", "_law_yours", "_law_number"]
theorem scLLetters : FnScope nLLetters ["_law_pot_here", "_law_prime", "_law_size"] (defScope sLLetters) := ⟨rfl, rfl, rfl, by decide +kernel, rfl, by decide +kernel, by decide +kernel⟩
abbrev sLGrid : Stmt := top 50
abbrev nLGrid : List Str := ["_law_pot_here", "_law_prime", "_law_size", "_law_way", "_law_found", "_law_at", "_law_to", "_law_row", "_law_full", "_law_squares", "_law_number"]
theorem scLGrid : FnScope nLGrid ["_law_pot_here", "_law_prime", "_law_size"] (defScope sLGrid) := ⟨rfl, rfl, rfl, by decide +kernel, rfl, by decide +kernel, by decide +kernel⟩
abbrev sLDrawn : Stmt := top 51
abbrev nLDrawn : List Str := ["_law_pot_here", "_law_most", "_law_prime", "_law_size"]
theorem scLDrawn : FnScope nLDrawn ["_law_pot_here", "_law_most"] (defScope sLDrawn) := ⟨rfl, rfl, rfl, by decide +kernel, rfl, by decide +kernel, by decide +kernel⟩
abbrev sLGiven : Stmt := top 52
abbrev nLGiven : List Str := ["_law_pot_here", "_law_rows", "_law_found", "_law_row"]
theorem scLGiven : FnScope nLGiven ["_law_pot_here", "_law_rows"] (defScope sLGiven) := ⟨rfl, rfl, rfl, by decide +kernel, rfl, by decide +kernel, by decide +kernel⟩
abbrev sLIsTable : Stmt := top 53
abbrev nLIsTable : List Str := ["_law_prime", "_law_value", "_law_row", "_law_number", "_law_at", "_law_to"]
theorem scLIsTable : FnScope nLIsTable ["_law_prime", "_law_value"] (defScope sLIsTable) := ⟨rfl, rfl, rfl, by decide +kernel, rfl, by decide +kernel, by decide +kernel⟩
abbrev sLBent : Stmt := top 54
abbrev nLBent : List Str := ["_law_pot_here", "_law_prime", "_law_grid_here", "_law_rows", "_law_size", "_law_row", "_law_found", "_law_at", "_law_to", "_law_odd", "_law_changed"]
theorem scLBent : FnScope nLBent ["_law_pot_here", "_law_prime", "_law_grid_here"] (defScope sLBent) := ⟨rfl, rfl, rfl, by decide +kernel, rfl, by decide +kernel, by decide +kernel⟩
abbrev sLToldRight : Stmt := top 55
abbrev nLToldRight : List Str := ["_law_room", "_law_prime", "_law_grid_here", "_law_still_here", "_law_size"]
theorem scLToldRight : FnScope nLToldRight ["_law_room", "_law_prime", "_law_grid_here"] (defScope sLToldRight) := ⟨rfl, rfl, rfl, by decide +kernel, rfl, by decide +kernel, by decide +kernel⟩
abbrev sLRight : Stmt := top 56
abbrev nLRight : List Str := ["_law_pot_here", "_law_prime", "_law_size", "_law_grid_here", "_law_handed", "_law_room", "_law_rows", "_law_row", "_law_later", "_law_told", "_law_other", "_law_found", "_law_value", "_law_due"]
theorem scLRight : FnScope nLRight ["_law_pot_here"] (defScope sLRight) := ⟨rfl, rfl, rfl, by decide +kernel, rfl, by decide +kernel, by decide +kernel⟩
abbrev sLaw : Stmt := top 57
abbrev nLaw : List Str := ["_law_script"]
theorem scLaw : FnScope nLaw ["_law_script"] (defScope sLaw) := ⟨rfl, rfl, rfl, by decide +kernel, rfl, by decide +kernel, by decide +kernel⟩
/-- the built-ins that the text names are the built-ins -/
structure Bt (mg : Str → Option Value) : Prop where
  «isinstance» : mg "isinstance" = none
  «int» : mg "int" = none
  «bool» : mg "bool" = none
  «list» : mg "list" = none
  «tuple» : mg "tuple" = none
  «range» : mg "range" = none
  «zip» : mg "zip" = none
  «len» : mg "len" = none
  «all» : mg "all" = none
  «any» : mg "any" = none
  «enumerate» : mg "enumerate" = none
  «sum» : mg "sum" = none
  «abs» : mg "abs" = none
  «max» : mg "max" = none
  «divmod» : mg "divmod" = none
  «repr» : mg "repr" = none
  «str» : mg "str" = none
/-- a def of the module, as it stands behind the top -/
def DefIn (K : PySem.W.Frag) (mg : Str → Option Value) (x : Str) (st : Stmt) (ps : List Str) : Prop := ∃ (f : Addr) (fd : FuncData), Fun K x x st f fd ∧ mg x = some (.ref f) ∧ L2.Binds K fd ps []
/-- .. with its promise -/
def Held (P : Program) (w : World) (K : PySem.W.Frag) (mg : Str → Option Value) (base : Heap) (CX : CXT) (k : Nat) (x : Str) (ps : List Str) (sp : Sp) : Prop :=
  ∃ (f : Addr) (fd : FuncData), mg x = some (.ref f) ∧ PySem.W.keepIn K (.ref f) = true ∧ L2.Binds K fd ps [] ∧ FnOk P w K mg base CX k f fd ps sp
theorem DefIn.held {P : Program} {w : World} {K : PySem.W.Frag} {mg : Str → Option Value} {base : Heap} {CX : CXT} {k : Nat} {x : Str} {st : Stmt} {ps : List Str} {sp : Sp} (D : DefIn K mg x st ps)
    (h : ∀ (f : Addr) (fd : FuncData), Fun K x x st f fd → FnOk P w K mg base CX k f fd ps sp) : Held P w K mg base CX k x ps sp := by
  obtain ⟨f, fd, F, g, b⟩ := D
  exact ⟨f, fd, g, F.kp, b, h f fd F⟩
end RK

set_option Elab.async false
set_option linter.all false
set_option maxRecDepth 100000
set_option maxHeartbeats 4000000
/-! The defs one by one: numbers, rows. -/
namespace RK
open PySem L2 Evl

/-! ### data of any kind -/
mutual
theorem dp_ex {K : PySem.W.Frag} {H H' : Hp} (e : Ex H H') : ∀ {v : V} {d : PyData}, Dp K H v d → Dp K H' v d
  | _, _, .non => .non
  | _, _, .bl b => .bl b
  | _, _, .int i => .int i
  | _, _, .str x => .str x
  | _, _, .lst h t => .lst (ex_l e h) (dpAll_ex e t)
  | _, _, .tup h t => .tup (ex_t e h) (dpAll_ex e t)
theorem dpAll_ex {K : PySem.W.Frag} {H H' : Hp} (e : Ex H H') : ∀ {vs : List V} {ds : List PyData}, DpAll K H vs ds → DpAll K H' vs ds
  | _, _, .nil => .nil
  | _, _, .cons h t => .cons (dp_ex e h) (dpAll_ex e t)
end
def isIntD : PyData → Bool
  | .int _ => true
  | _ => false
def isListD : PyData → Bool
  | .list _ | .tuple _ => true
  | _ => false
def restD (p : Int) : PyData → Bool
  | .int i => decide (0 ≤ i ∧ i < p)
  | _ => false
def tyN : PyData → String
  | .none => "NoneType"
  | .bool _ => "bool"
  | .int _ => "int"
  | .str _ => "str"
  | .list _ => "list"
  | .tuple _ => "tuple"
  | .dict _ => "dict"
theorem tyx_of {K : PySem.W.Frag} {H : Hp} {v : V} {d : PyData} (h : Dp K H v d) : TyX K H v (.type (tyN d)) := by
  cases h with
  | non => exact .base .non
  | bl b => exact .base (.bl b)
  | int i => exact .base (.int i)
  | str x => exact .base (.str x)
  | lst h _ =>
    rcases h with (h | ⟨o, h⟩) | ⟨o, its, n, e, c, _⟩
    · exact .base (.lst h)
    · exact .base (.frz h)
    · exact .kList e c
  | tup h _ =>
    rcases h with (h | ⟨o, h⟩) | ⟨o, its, n, e, c, _⟩
    · exact .base (.tup h)
    · exact .fTuple h
    · exact .kTuple e c
theorem no_dict {K : PySem.W.Frag} {H : Hp} {v : V} {kvs : List (PyData × PyData)} (h : Dp K H v (.dict kvs)) : False := nomatch h

def isBoolD : PyData → Bool
  | .bool _ => true
  | _ => false
/-- what isinstance says of data -/
theorem kb_int : ∀ d : PyData, (∀ kvs, d ≠ .dict kvs) → kitB (tyN d) "int" = some (isIntD d || isBoolD d)
  | .none, _ => (by decide +kernel : kitB "NoneType" "int" = some false)
  | .bool _, _ => (by decide +kernel : kitB "bool" "int" = some true)
  | .int _, _ => (by decide +kernel : kitB "int" "int" = some true)
  | .str _, _ => (by decide +kernel : kitB "str" "int" = some false)
  | .list _, _ => (by decide +kernel : kitB "list" "int" = some false)
  | .tuple _, _ => (by decide +kernel : kitB "tuple" "int" = some false)
  | .dict kvs, h => absurd rfl (h kvs)
theorem kb_bool : ∀ d : PyData, (∀ kvs, d ≠ .dict kvs) → kitB (tyN d) "bool" = some (isBoolD d)
  | .none, _ => (by decide +kernel : kitB "NoneType" "bool" = some false)
  | .bool _, _ => (by decide +kernel : kitB "bool" "bool" = some true)
  | .int _, _ => (by decide +kernel : kitB "int" "bool" = some false)
  | .str _, _ => (by decide +kernel : kitB "str" "bool" = some false)
  | .list _, _ => (by decide +kernel : kitB "list" "bool" = some false)
  | .tuple _, _ => (by decide +kernel : kitB "tuple" "bool" = some false)
  | .dict kvs, h => absurd rfl (h kvs)
def isL : PyData → Bool
  | .list _ => true
  | _ => false
def isT : PyData → Bool
  | .tuple _ => true
  | _ => false
theorem kb_list : ∀ d : PyData, (∀ kvs, d ≠ .dict kvs) → kitB (tyN d) "list" = some (isL d)
  | .none, _ => (by decide +kernel : kitB "NoneType" "list" = some false)
  | .bool _, _ => (by decide +kernel : kitB "bool" "list" = some false)
  | .int _, _ => (by decide +kernel : kitB "int" "list" = some false)
  | .str _, _ => (by decide +kernel : kitB "str" "list" = some false)
  | .list _, _ => (by decide +kernel : kitB "list" "list" = some true)
  | .tuple _, _ => (by decide +kernel : kitB "tuple" "list" = some false)
  | .dict kvs, h => absurd rfl (h kvs)
theorem kb_tuple : ∀ d : PyData, (∀ kvs, d ≠ .dict kvs) → kitB (tyN d) "tuple" = some (isT d)
  | .none, _ => (by decide +kernel : kitB "NoneType" "tuple" = some false)
  | .bool _, _ => (by decide +kernel : kitB "bool" "tuple" = some false)
  | .int _, _ => (by decide +kernel : kitB "int" "tuple" = some false)
  | .str _, _ => (by decide +kernel : kitB "str" "tuple" = some false)
  | .list _, _ => (by decide +kernel : kitB "list" "tuple" = some false)
  | .tuple _, _ => (by decide +kernel : kitB "tuple" "tuple" = some true)
  | .dict kvs, h => absurd rfl (h kvs)
theorem isList_or (d : PyData) : isListD d = (isL d || isT d) := by cases d <;> rfl
theorem dp_nd {K : PySem.W.Frag} {H : Hp} {v : V} {d : PyData} (h : Dp K H v d) : ∀ kvs, d ≠ .dict kvs := fun kvs e => by
  subst e
  exact no_dict h

/-! ### the promises -/
def spIsInteger (K : PySem.W.Frag) : Sp := fun vs H Q _ => ∃ v d, vs = [v] ∧ Dp K H v d ∧ RetV (.bl (isIntD d)) H Q
def spIsList (K : PySem.W.Frag) : Sp := fun vs H Q _ => ∃ v d, vs = [v] ∧ Dp K H v d ∧ RetV (.bl (isListD d)) H Q
def powR (p n : Int) : Nat → Int
  | 0 => 1
  | k + 1 => powR p n k * n % p
def spPower : Sp := fun vs H Q _ => ∃ (p n : Int) (m : Nat), vs = [.int p, .int n, .int (m : Int)] ∧ 0 < p ∧ p ≤ 100 ∧ 0 ≤ n ∧ n ≤ 100 ∧ m ≤ 100 ∧ RetV (.int (powR p n m)) H Q
def undP (p r : Int) : Int := powR p r (p - 2).toNat
def spUndone : Sp := fun vs H Q _ => ∃ (p r : Int), vs = [.int p, .int r] ∧ 2 ≤ p ∧ p ≤ 100 ∧ 0 ≤ r ∧ r ≤ 100 ∧ RetV (.int (undP p r)) H Q
def spIsRest (K : PySem.W.Frag) : Sp := fun vs H Q _ => ∃ (p : Int) (v : V) (d : PyData), vs = [.int p, v] ∧ Dp K H v d ∧ RetV (.bl (restD p d)) H Q
def Prime5 (p : Int) : Prop := p = 3 ∨ p = 5 ∨ p = 7 ∨ p = 11 ∨ p = 13
def spIsPrime : Sp := fun vs H Q _ => ∃ (p : Int), vs = [.int p] ∧ Prime5 p ∧ RetV (.bl true) H Q
def spWantPrime : Sp := fun vs H Q _ => ∃ (p : Int), vs = [.int p] ∧ Prime5 p ∧ RetV .non H Q

section
variable {P : Program} {w : World} {K : PySem.W.Frag} {mg : Str → Option Value} {base : Heap}
theorem ok_isInteger (B : Bt mg) (D : DefIn K mg "is_integer" sIsInteger ["value"]) : Held P w K mg base CX0 1 "is_integer" ["value"] (spIsInteger K) := by
  refine D.held fun f fd F => F.ok scIsInteger (fun vs H Q E h => ?_) (fun cdv A outer s H vs Q E hr h => ?_)
  · obtain ⟨v, d, rfl, _⟩ := h
    rfl
  · obtain ⟨v, d, rfl, hd, k⟩ := h
    refine ⟨_, pss_one (ps_ret (pe_and (pe_callB call_isi (by rfl) B.isinstance (by decide +kernel) (pa_cons (pv 0) (pa_cons (pe_bltn (v := .ty "int") (by rfl) B.int (by decide +kernel) rfl) pa_nil)))
      (pe_one (pe_not (pe_callB call_isi (by rfl) B.isinstance (by decide +kernel) (pa_cons (pv 0) (pa_cons (pe_bltn (v := .ty "bool") (by rfl) B.bool (by decide +kernel) rfl) pa_nil))))))), ?_⟩
    have ty := tyx_of hd
    have nd := dp_nd hd
    have k0 := k H (Ex.refl H)
    refine ⟨_, rfl, _, _, _, _, _, rfl, .ty "int", ty, kit_ty (kb_int d nd), _, rfl, ?_⟩
    refine ite2 (fun c => ⟨_, rfl, _, _, _, _, _, rfl, .ty "bool", ty, kit_ty (kb_bool d nd), _, rfl, ?_⟩) (fun c => ?_)
    · have e : (!isBoolD d) = isIntD d := by cases d <;> first | rfl | simp [isIntD, isBoolD] at c
      rw [e]
      exact k0
    · have e : isIntD d = false := by cases d <;> first | rfl | simp [isIntD, isBoolD] at c
      rw [e] at k0
      exact k0
theorem ok_isList (B : Bt mg) (D : DefIn K mg "is_list" sIsList ["value"]) : Held P w K mg base CX0 1 "is_list" ["value"] (spIsList K) := by
  refine D.held fun f fd F => F.ok scIsList (fun vs H Q E h => ?_) (fun cdv A outer s H vs Q E hr h => ?_)
  · obtain ⟨v, d, rfl, _⟩ := h
    rfl
  · obtain ⟨v, d, rfl, hd, k⟩ := h
    refine ⟨_, pss_one (ps_ret (pe_callB call_isiT (by rfl) B.isinstance (by decide +kernel) (pa_cons (pv 0) (pa_cons (pe_tup (pa_cons (pe_bltn (v := .ty "list") (by rfl) B.list (by decide +kernel) rfl) (pa_cons (pe_bltn (v := .ty "tuple") (by rfl) B.tuple (by decide +kernel) rfl) pa_nil))) pa_nil)))), ?_⟩
    refine ⟨_, rfl, by show 2 ≤ sizeLine; decide, fun p hp => ?_⟩
    have e := Ex.new (o := .tup [.ty "list", .ty "tuple"]) hp
    have ty := tyx_of (dp_ex e hd)
    have k0 := k _ e
    have nd := dp_nd hd
    refine ⟨_, p, _, _, _, isListD d, rfl, upd_same, .cons (.ty "list") (.cons (.ty "tuple") .nil), ty, ?_, k0⟩
    rw [isList_or]
    exact kitAny_cons (kit_ty (kb_list d nd)) (fun e1 => kitAny_cons (kit_ty (kb_tuple d nd)) (fun e2 => by rw [e1, e2]; rfl) (fun e2 => by rw [e2]; simp)) (fun e1 => by rw [e1]; rfl)
theorem powR_bd {p n : Int} (hp : 0 < p) (hp2 : p ≤ 100) : ∀ m, -(2 ^ 64) < powR p n m ∧ powR p n m < 2 ^ 64
  | 0 => by
    unfold powR
    omega
  | m + 1 => by
    unfold powR
    have h1 := Int.emod_nonneg (powR p n m * n) (show p ≠ 0 by omega)
    have h2 := Int.emod_lt_of_pos (powR p n m * n) hp
    omega
theorem ok_power (B : Bt mg) (D : DefIn K mg "power_of" sPowerOf ["prime", "number", "many"]) : Held P w K mg base CX0 1 "power_of" ["prime", "number", "many"] spPower := by
  refine D.held fun f fd F => F.ok scPowerOf (fun vs H Q E h => ?_) (fun cdv A outer s H vs Q E hr h => ?_)
  · obtain ⟨p, n, m, rfl, _⟩ := h
    rfl
  · obtain ⟨p, n, m, rfl, hp, hp2, hn, hn2, hm, k⟩ := h
    refine ⟨_, pss_cons (ps_set (i := 3) scPowerOf.nd rfl (Or.inl rfl) pe_int) (pss_cons (ps_for PassesOwn.never rfl (pi_range1 rfl B.range (pa_cons (pv 2) pa_nil)) (pg_name (i := 4) scPowerOf.nd rfl (Or.inl rfl))
      (pss_one (ps_set (i := 3) scPowerOf.nd rfl (Or.inl rfl) (pe_op op_mod (pe_op op_mul (pv 3) (pv 1)) (pv 0))))) (pss_one (ps_ret (pv 3)))), ?_⟩
    refine s_forR1 (ea_cons (ev_var rfl) ea_nil) (by omega) (fun i σ H' => ∃ u, σ = [some (.int p), some (.int n), some (.int (m : Int)), some (.int (powR p n i)), u] ∧ Ex H H') (fun H1 e => ⟨none, rfl, e⟩) ?_ ?_
    · rintro i σ H' hi ⟨u, rfl, e⟩
      exact ⟨_, rfl, _, rfl, _, _, rfl, rfl, .inl (powR_bd hp hp2 i), _, rfl, _, _, rfl, rfl, hp, _, rfl, e⟩
    · rintro σ H' ⟨u, rfl, e⟩
      have q := k H' e
      rw [Int.toNat_natCast]
      exact ⟨_, rfl, q⟩
theorem ok_undone (B : Bt mg) (D : DefIn K mg "undone_of" sUndoneOf ["prime", "rest"]) (h1 : Held P w K mg base CX0 1 "power_of" ["prime", "number", "many"] spPower) : Held P w K mg base CX0 2 "undone_of" ["prime", "rest"] spUndone := by
  obtain ⟨f1, fd1, g1, k1, b1, G1⟩ := h1
  refine D.held fun f fd F => F.ok scUndoneOf (fun vs H Q E h => ?_) (fun cdv A outer s H vs Q E hr h => ?_)
  · obtain ⟨p, r, rfl, _⟩ := h
    rfl
  · obtain ⟨p, r, rfl, hp, hp2, hr1, hr2, k⟩ := h
    refine ⟨_, pss_one (ps_ret (pe_call G1 (hr.mono (by decide)) rfl g1 k1 b1 .nil pass0 (pa_cons (pv 0) (pa_cons (pv 1) (pa_cons (pe_op op_sub (pv 0) pe_int) pa_nil))))), ?_⟩
    refine ⟨_, rfl, _, rfl, _, rfl, _, _, rfl, rfl, p, r, (p - 2).toNat, ?_, by omega, hp2, hr1, hr2, by omega, k⟩
    show [V.int p, V.int r, V.int (p - 2)] = _
    rw [show ((p - 2).toNat : Int) = p - 2 by omega]
theorem ok_isRest (B : Bt mg) (D : DefIn K mg "is_rest_by" sIsRestBy ["prime", "value"]) (h1 : Held P w K mg base CX0 1 "is_integer" ["value"] (spIsInteger K)) : Held P w K mg base CX0 2 "is_rest_by" ["prime", "value"] (spIsRest K) := by
  obtain ⟨f1, fd1, g1, k1, b1, G1⟩ := h1
  refine D.held fun f fd F => F.ok scIsRestBy (fun vs H Q E h => ?_) (fun cdv A outer s H vs Q E hr h => ?_)
  · obtain ⟨p, v, d, rfl, _⟩ := h
    rfl
  · obtain ⟨p, v, d, rfl, hd, k⟩ := h
    refine ⟨_, pss_one (ps_ret (pe_and (pe_call G1 (hr.mono (by decide)) rfl g1 k1 b1 .nil pass0 (pa_cons (pv 1) pa_nil)) (pe_one (pe_chain op_le op_lt pe_int (pv 1) (pv 0))))), ?_⟩
    refine ⟨_, rfl, v, d, rfl, hd, fun H2 e => ⟨_, rfl, ?_⟩⟩
    have k0 := k H2 e
    cases hd with
    | int i =>
      refine iteT ⟨_, rfl, _, _, rfl, rfl, _, rfl, ?_⟩
      by_cases c : 0 ≤ i
      · rw [decide_eq_true c]
        refine iteT ⟨_, rfl, _, _, rfl, rfl, ?_⟩
        have q : restD p (.int i) = decide (i < p) := by simp [restD, c]
        rw [q] at k0
        exact k0
      · rw [decide_eq_false c]
        have q : restD p (.int i) = false := by simp [restD, c]
        rw [q] at k0
        exact iteF k0
    | non => exact iteF k0
    | bl b => exact iteF k0
    | str x => exact iteF k0
    | lst h t => exact iteF k0
    | tup h t => exact iteF k0
end
end RK

set_option Elab.async false
set_option linter.all false
set_option maxRecDepth 100000
set_option maxHeartbeats 4000000
namespace RK
open PySem L2 Evl

/-! ### statements over EvP -/
section
variable {σ : L2.St} {H : Hp} {te : TE} {P : V → Hp → Prop} {PL : List V → Hp → Prop} {D : Ends} {tz : TS} {i : Nat}
theorem s_retP (h : EvP te σ H P) (k : ∀ v H1, Ex H H1 → P v H1 → D.rt v H1) : tRet te D σ H := h H (Ex.refl H) _ k
theorem q_asgP (h : EvP te σ H P) (k : ∀ v H1, Ex H H1 → P v H1 → tz D (σ.set i (some v)) H1) : tSeq (tAsg te (gName i)) tz D σ H := h H (Ex.refl H) _ k
theorem s_asgP (h : EvP te σ H P) (k : ∀ v H1, Ex H H1 → P v H1 → D.nx (σ.set i (some v)) H1) : tAsg te (gName i) D σ H := h H (Ex.refl H) _ k
theorem q_asgLP (h : EvLP te σ H PL) (k : ∀ p vs H1, H p = none → Ex H H1 → H1 p = some (.lst vs) → PL vs H1 → tz D (σ.set i (some (.ref p))) H1) : tSeq (tAsg te (gName i)) tz D σ H := h H (Ex.refl H) _ k
theorem s_asgLP (h : EvLP te σ H PL) (k : ∀ p vs H1, H p = none → Ex H H1 → H1 p = some (.lst vs) → PL vs H1 → D.nx (σ.set i (some (.ref p))) H1) : tAsg te (gName i) D σ H := h H (Ex.refl H) _ k
end
/-- ints, bools as values -/
abbrev RI : Hp → V → Int → Prop := fun _ v b => v = V.int b
abbrev RB : Hp → V → Bool → Prop := fun _ v b => v = V.bl b
theorem lf_int : LF RI := lf_val (R := fun v (b : Int) => v = V.int b)
theorem lf_bool : LF RB := lf_val (R := fun v (b : Bool) => v = V.bl b)
theorem row_of {H : Hp} {v : V} {l r : List Int} (h : ∃ a vs, v = .ref a ∧ H a = some (.tup vs) ∧ Paired (RI H) vs l) (e : l = r) : RowT H v r := by
  obtain ⟨a, vs, e1, h1, h2⟩ := h
  subst e
  exact ⟨a, e1, by rw [h1, paired_int h2]⟩
theorem tab_of {H : Hp} {v : V} {l t : Tab} (h : ∃ a vs, v = .ref a ∧ H a = some (.tup vs) ∧ Paired (RowT H) vs l) (e : l = t) : TabT H v t := by
  subst e
  exact h
theorem paired_up {β : Type} {R : Hp → V → β → Prop} (lf : LF R) {bs : List β} : ∀ (vs : List V) (H1 H2 : Hp), Ex H1 H2 → Paired (R H1) vs bs → Paired (R H2) vs bs := fun _ _ _ e h => lf_paired lf e h
/-- tuple([ints]) -/
theorem evp_row {K : PySem.W.Frag} {σ : L2.St} {H : Hp} {te : TE} {l r : List Int} (h : EvLP te σ H (fun vs H2 => Paired (RI H2) vs l)) (e : l = r) : EvP (tCB (rTupOf K) (tCons te tNil)) σ H (fun v H2 => RowT H2 v r) :=
  (evp_tupOf h (paired_up lf_int)).imp fun v H1 _ q => row_of q e
/-- tuple([rows]) -/
theorem evp_tab {K : PySem.W.Frag} {σ : L2.St} {H : Hp} {te : TE} {l r : Tab} (h : EvLP te σ H (fun vs H2 => Paired (RowT H2) vs l)) (e : l = r) : EvP (tCB (rTupOf K) (tCons te tNil)) σ H (fun v H2 => TabT H2 v r) :=
  (evp_tupOf h (paired_up lf_row)).imp fun v H1 _ q => tab_of q e
theorem pick_map {β : Type} (n : Nat) (ys : Nat → β) : pick n (fun _ => true) ys = (List.range n).map ys := pick_all n ys
theorem map_range_at {α : Type} (r : Row) (f : Int → α) : (List.range r.length).map (fun i => f (at0 r i)) = r.map f := by
  refine List.ext_getElem (by simp) fun i h1 h2 => ?_
  have hi : i < r.length := by simpa using h1
  rw [List.getElem_map, List.getElem_map, List.getElem_range, at0_get hi]
theorem map_range_zip (r o : Row) (f : Int → Int → Int) (hl : r.length = o.length) : (List.range r.length).map (fun i => f (at0 r i) (at0 o i)) = List.zipWith f r o := by
  refine List.ext_getElem (by simp [hl]) fun i h1 h2 => ?_
  have hi : i < r.length := by simpa using h1
  rw [List.getElem_map, List.getElem_zipWith, List.getElem_range, at0_get hi, at0_get (by omega)]
theorem map_range_row {α : Type} (t : Tab) (f : Row → α) : (List.range t.length).map (fun i => f (rowAt t i)) = t.map f := by
  refine List.ext_getElem (by simp) fun i h1 h2 => ?_
  have hi : i < t.length := by simpa using h1
  rw [List.getElem_map, List.getElem_map, List.getElem_range, rowAt_get hi]
/-- the row at a place of a table's values -/
theorem rows_item {H : Hp} {vs : List V} {t : Tab} (h : Paired (RowT H) vs t) {i : Nat} {x : V} (e : vs[i]? = some x) : RowT H x (rowAt t i) ∧ i < t.length := by
  obtain ⟨r, h1, h2⟩ := paired_get h e
  obtain ⟨h3, h4⟩ := List.getElem?_eq_some_iff.mp h1
  refine ⟨?_, h3⟩
  rw [rowAt_get h3, h4]
  exact h2
theorem rows_at {H : Hp} {vs : List V} {t : Tab} (h : Paired (RowT H) vs t) {i : Nat} (hi : i < t.length) : ∃ x, vs[i]? = some x ∧ RowT H x (rowAt t i) := by
  obtain ⟨x, h1, h2⟩ := paired_get2 h (List.getElem?_eq_getElem hi)
  rw [rowAt_get hi]
  exact ⟨x, h1, h2⟩

/-! ### the module's own constants -/
structure Consts (K : PySem.W.Frag) (mg : Str → Option Value) : Prop where
  primes : ∃ (a : Addr) (o : Obj) (its : Array Value) (n : Nat), mg "PRIMES" = some (.ref a) ∧ K.lookup a = some o ∧ o.cls = .type "tuple" ∧ o.data = .seq its n ∧ Vals [.int 3, .int 5, .int 7, .int 11, .int 13] its.toList
  most : ∃ t, mg "MOST_SIZE" = some (.int 6 t)

/-! ### promises -/
def addm (p m : Int) (r o : Row) : Row := List.zipWith (fun a b => (a + m * b) % p) r o
theorem addm_sub (p m : Int) (r o : Row) : addm p (0 - m) r o = sub1 p m r o := by
  unfold addm sub1
  congr 1
  funext a b
  rw [Int.sub_mul, Int.zero_mul]
  congr 1
  omega
def spUnit : Sp := fun vs H Q _ => ∃ (n k : Nat), vs = [.int (n : Int), .int (k : Int)] ∧ n ≤ 100 ∧ ∀ v H', Ex H H' → RowT H' v (unitRow n k) → Q v H'
def spSumOf : Sp := fun vs H Q _ => ∃ (p m : Int) (x y : V) (r o : Row), vs = [.int p, x, y, .int m] ∧ RowT H x r ∧ RowT H y o ∧ r.length = o.length ∧ r.length ≤ 100 ∧ 0 < p ∧ -1000 ≤ m ∧ m ≤ 1000 ∧ ∀ v H', Ex H H' → RowT H' v (addm p m r o) → Q v H'
def spScaled : Sp := fun vs H Q _ => ∃ (p m : Int) (x : V) (r : Row), vs = [.int p, x, .int m] ∧ RowT H x r ∧ r.length ≤ 100 ∧ 0 < p ∧ -1000 ≤ m ∧ m ≤ 1000 ∧ ∀ v H', Ex H H' → RowT H' v (scl p m r) → Q v H'
def spTurned : Sp := fun vs H Q _ => ∃ (x : V) (t : Tab), vs = [x] ∧ TabT H x t ∧ t.length ≤ 100 ∧ (∀ r ∈ t, r.length = t.length) ∧ ∀ v H', Ex H H' → TabT H' v (turned t) → Q v H'
def spWithout : Sp := fun vs H Q _ => ∃ (p : Int) (k : Nat) (x y : V) (r o : Row), vs = [.int p, x, y, .int (k : Int)] ∧ RowT H x r ∧ RowT H y o ∧ r.length = o.length ∧ r.length ≤ 100 ∧ k < r.length ∧ 0 < p ∧ -1000 < at0 r k ∧ at0 r k < 1000 ∧ ∀ v H', Ex H H' → RowT H' v (sub1 p (at0 r k) r o) → Q v H'
/-- the expression that a def hands back; a call's first argument; a comprehension's scope, element -/
def retE (s : Stmt) : Expr := match defBody s with
  | [.Return (some e) _] => e
  | _ => .Constant .none 0 ⟨0, 0, 0, 0⟩
def argE : Expr → Expr
  | .Call _ (a :: _) _ _ => a
  | e => e
def lcScope : Expr → Scope
  | .ListComp _ _ sc _ => sc
  | _ => { kind := .function, names := [], isGenerator := false, isCoroutine := false }
section
variable {P : Program} {w : World} {K : PySem.W.Frag} {mg : Str → Option Value} {base : Heap}
theorem ok_isPrime (C : Consts K mg) (D : DefIn K mg "is_prime" sIsPrime ["value"]) (h1 : Held P w K mg base CX0 1 "is_integer" ["value"] (spIsInteger K)) : Held P w K mg base CX0 2 "is_prime" ["value"] spIsPrime := by
  obtain ⟨f1, fd1, g1, k1, b1, G1⟩ := h1
  obtain ⟨aP, oP, its, n, gP, lP, cP, dP, vP⟩ := C.primes
  refine D.held fun f fd F => F.ok scIsPrime (fun vs H Q E h => ?_) (fun cdv A outer s H vs Q E hr h => ?_)
  · obtain ⟨p, rfl, _⟩ := h
    rfl
  · obtain ⟨p, rfl, hp, k⟩ := h
    refine ⟨_, pss_one (ps_ret (pe_and (pe_call G1 (hr.mono (by decide)) rfl g1 k1 b1 .nil pass0 (pa_cons (pv 0) pa_nil)) (pe_one (pe_cmpR op_in_seq (pv 0) (pe_glob (v := .ref aP) rfl gP rfl) (by rfl))))), ?_⟩
    refine ⟨_, rfl, _, .int p, rfl, .int p, fun H2 e => ⟨_, rfl, iteT ⟨_, rfl, aP, _, rfl, .inr (.inr ⟨oP, its, n, lP, cP, dP, ?_, vP⟩), rfl, rfl, ?_⟩⟩⟩
    · have hl := vP.length
      have : its.size = 5 := by simpa using hl.symm
      rw [this]
      decide
    · have e1 : inV (.int p) [.int 3, .int 5, .int 7, .int 11, .int 13] = true := by
        rcases hp with rfl | rfl | rfl | rfl | rfl <;> rfl
      show Q (.bl (if false = true then _ else inV (.int p) [.int 3, .int 5, .int 7, .int 11, .int 13])) H2
      rw [e1]
      exact k H2 e
theorem ok_wantPrime (D : DefIn K mg "want_prime" sWantPrime ["value"]) (h1 : Held P w K mg base CX0 2 "is_prime" ["value"] spIsPrime) : Held P w K mg base CX0 3 "want_prime" ["value"] spWantPrime := by
  obtain ⟨f1, fd1, g1, k1, b1, G1⟩ := h1
  refine D.held fun f fd F => F.ok scWantPrime (fun vs H Q E h => ?_) (fun cdv A outer s H vs Q E hr h => ?_)
  · obtain ⟨p, rfl, _⟩ := h
    rfl
  · obtain ⟨p, rfl, hp, k⟩ := h
    refine ⟨_, pss_one (ps_if (pt_not (pt_val (pe_call G1 (hr.mono (by decide)) rfl g1 k1 b1 .nil pass0 (pa_cons (pv 0) pa_nil)))) pss_never pss_nil), ?_⟩
    exact ⟨_, rfl, p, rfl, hp, fun H2 e => ⟨_, rfl, iteF (k H2 e)⟩⟩
theorem ok_unit (B : Bt mg) (D : DefIn K mg "unit" sUnit ["size", "place"]) : Held P w K mg base CX0 1 "unit" ["size", "place"] spUnit := by
  refine D.held fun f fd F => F.ok scUnit (fun vs H Q E h => ?_) (fun cdv A outer s H vs Q E hr h => ?_)
  · obtain ⟨n, k, rfl, _⟩ := h
    rfl
  · obtain ⟨n, j, rfl, hn, k⟩ := h
    refine ⟨_, pss_one (ps_ret (pe_callTy (callTupK (K := K)) (by rfl) B.tuple (by decide +kernel) (pa_cons (pe_lc (own := [("at", 2)]) (g := gName 2) (tt := tYes) rfl scUnit.nd (pi_range1 (by rfl) B.range (pa_cons (pv 0) pa_nil))
      (blkOk_by (N := nUnit) (sc := defScope sUnit) (by decide +kernel)) (fun _ _ _ _ _ => pg_name (i := 2) scUnit.nd rfl (Or.inl rfl)) (fun _ _ _ _ _ => pts_nil) (fun _ _ _ _ _ => pe_ifExp (pt_cmpR op_eq (pv 2) (pv 1) (nomark _)) pe_int pe_int)) pa_nil))), ?_⟩
    refine s_retP (evp_row (K := K) (evlp_rng (m := n) lf_int (fun _ => true) (fun i => if j = i then 1 else 0) (ea_cons (ev_var rfl) ea_nil) (by omega) (fun _ => rfl) fun i H1 e hi => ⟨et_yes, fun _ => ?_⟩) (pick_map _ _)) k
    refine evp_if (et_test (ev_op (ev_var rfl) (ev_var rfl) (rv_eq rfl))) (fun c => ev_p ev_c fun _ _ => ?_) (fun c => ev_p ev_c fun _ _ => ?_)
    · have q : (i : Int) = (j : Int) := by simpa using c
      rw [if_pos (by omega)]
    · have q : ¬ (i : Int) = (j : Int) := by simpa using c
      rw [if_neg (by omega)]
theorem ok_sumOf (B : Bt mg) (D : DefIn K mg "sum_of" sSumOf ["prime", "row", "other", "rest"]) : Held P w K mg base CX0 1 "sum_of" ["prime", "row", "other", "rest"] spSumOf := by
  refine D.held fun f fd F => F.ok scSumOf (fun vs H Q E h => ?_) (fun cdv A outer s H vs Q E hr h => ?_)
  · obtain ⟨p, m, x, y, r, o, rfl, _⟩ := h
    rfl
  · obtain ⟨p, m, x, y, r, o, rfl, ⟨a, rfl, ha⟩, ⟨b, rfl, hb⟩, hl, hz, hp, hm1, hm2, k⟩ := h
    refine ⟨_, pss_one (ps_ret (pe_callTy (callTupK (K := K)) (by rfl) B.tuple (by decide +kernel) (pa_cons (pe_lc (own := [("near", 4), ("far", 5)]) (g := gTup K 2 (gCons (gName 4) (gCons (gName 5) gNil))) (tt := tYes) rfl scSumOf.nd (pi_zipK (K := K) (by rfl) B.zip (pa_cons (pv 1) (pa_cons (pv 2) pa_nil)))
      (blkOk_by (N := nSumOf) (sc := defScope sSumOf) (by decide +kernel)) (fun _ _ _ _ _ => pg_tupK (K := K) rfl (pgs_cons (pg_name (i := 4) scSumOf.nd rfl (Or.inl rfl)) (pgs_cons (pg_name (i := 5) scSumOf.nd rfl (Or.inl rfl)) pgs_nil))) (fun _ _ _ _ _ => pts_nil)
      (fun _ _ _ _ _ => pe_op op_mod (pe_op op_add (pv 4) (pe_op op_mul (pv 3) (pv 5))) (pv 0))) pa_nil))), ?_⟩
    refine s_retP (evp_row (K := K) (evlp_zipT (a := a) (b := b) lf_int (fun _ => true) (fun i => (at0 r i + m * at0 o i) % p) (eap_of (ea_cons (ev_var rfl) (ea_cons (ev_var rfl) ea_nil)) fun H1 e => ⟨rfl, e _ _ ha, e _ _ hb⟩) (by simpa using hl) (by simp; omega) (fun _ _ => rfl)
      fun i u v H1 e h1 h2 => ⟨et_yes, fun _ => ?_⟩) ?_) k
    · obtain ⟨rfl, _⟩ := row_item h1
      obtain ⟨rfl, _⟩ := row_item h2
      exact ev_p (ev_op (ev_op (ev_var rfl) (ev_op (ev_var rfl) (ev_var rfl) (rv_I (.inl ⟨by omega, by omega⟩))) rv_I0) (ev_var rfl) (rv_I hp)) fun _ _ => rfl
    · rw [pick_map, List.length_map]
      exact map_range_zip r o (fun x y => (x + m * y) % p) hl
theorem ok_scaled (B : Bt mg) (D : DefIn K mg "scaled_of" sScaledOf ["prime", "row", "rest"]) : Held P w K mg base CX0 1 "scaled_of" ["prime", "row", "rest"] spScaled := by
  refine D.held fun f fd F => F.ok scScaledOf (fun vs H Q E h => ?_) (fun cdv A outer s H vs Q E hr h => ?_)
  · obtain ⟨p, m, x, r, rfl, _⟩ := h
    rfl
  · obtain ⟨p, m, x, r, rfl, ⟨a, rfl, ha⟩, hz, hp, hm1, hm2, k⟩ := h
    refine ⟨_, pss_one (ps_ret (pe_callTy (callTupK (K := K)) (by rfl) B.tuple (by decide +kernel) (pa_cons (pe_lc (own := [("number", 3)]) (g := gName 3) (tt := tYes) rfl scScaledOf.nd (pi_tupK (K := K) (pv 1))
      (blkOk_by (N := nScaledOf) (sc := defScope sScaledOf) (by decide +kernel)) (fun _ _ _ _ _ => pg_name (i := 3) scScaledOf.nd rfl (Or.inl rfl)) (fun _ _ _ _ _ => pts_nil)
      (fun _ _ _ _ _ => pe_op op_mod (pe_op op_mul (pv 2) (pv 3)) (pv 0))) pa_nil))), ?_⟩
    refine s_retP (evp_row (K := K) (evlp_tup (a := a) lf_int (fun _ => true) (fun i => m * at0 r i % p) (ev_var rfl) ha (by simp; omega) (fun _ => rfl) fun i u H1 e h1 => ⟨et_yes, fun _ => ?_⟩) ?_) k
    · obtain ⟨rfl, _⟩ := row_item h1
      exact ev_p (ev_op (ev_op (ev_var rfl) (ev_var rfl) (rv_I (.inl ⟨by omega, by omega⟩))) (ev_var rfl) (rv_I hp)) fun _ _ => rfl
    · rw [pick_map, List.length_map]
      exact map_range_at r fun x => m * x % p
theorem ok_without (D : DefIn K mg "without" sWithout ["prime", "row", "head", "place"]) (h1 : Held P w K mg base CX0 1 "sum_of" ["prime", "row", "other", "rest"] spSumOf) : Held P w K mg base CX0 2 "without" ["prime", "row", "head", "place"] spWithout := by
  obtain ⟨f1, fd1, g1, k1, b1, G1⟩ := h1
  refine D.held fun f fd F => F.ok scWithout (fun vs H Q E h => ?_) (fun cdv A outer s H vs Q E hr h => ?_)
  · obtain ⟨p, j, x, y, r, o, rfl, _⟩ := h
    rfl
  · obtain ⟨p, j, x, y, r, o, rfl, hx, hy, hl, hz, hj, hp, hm1, hm2, k⟩ := h
    obtain ⟨a, rfl, ha⟩ := id hx
    refine ⟨_, pss_one (ps_ret (pe_call G1 (hr.mono (by decide)) rfl g1 k1 b1 .nil pass0 (pa_cons (pv 0) (pa_cons (pv 1) (pa_cons (pv 2) (pa_cons (pe_op op_sub pe_int (pe_ix (ix_tupK (K := K)) (pv 1) (pv 3) (fun _ _ => rfl))) pa_nil)))))), ?_⟩
    refine ⟨_, rfl, _, rfl, _, rfl, _, rfl, _, rfl, a, _, _, _, rfl, rfl, SqT.of ha, atI_nat (row_at hj), _, _, rfl, rfl, p, 0 - at0 r j, _, _, r, o, rfl, hx, hy, hl, hz, hp, by omega, by omega, ?_⟩
    rw [addm_sub]
    exact k
theorem ok_turned (B : Bt mg) (D : DefIn K mg "turned_of" sTurnedOf ["table"]) : Held P w K mg base CX0 1 "turned_of" ["table"] spTurned := by
  refine D.held fun f fd F => F.ok scTurnedOf (fun vs H Q E h => ?_) (fun cdv A outer s H vs Q E hr h => ?_)
  · obtain ⟨x, t, rfl, _⟩ := h
    rfl
  · obtain ⟨x, t, rfl, ⟨a, ws, rfl, ha, hw⟩, hz, hsq, k⟩ := h
    refine ⟨_, pss_one (ps_ret (pe_callTy (callTupK (K := K)) (by rfl) B.tuple (by decide +kernel) (pa_cons (pe_lc (own := [("place", 1)]) (g := gName 1) (tt := tYes) rfl scTurnedOf.nd (pi_range1 (by rfl) B.range (pa_cons (pe_callB (callLenK (K := K)) (by rfl) B.len PySem.boot_len (pa_cons (pv 0) pa_nil)) pa_nil))
      (blkOk_by (N := nTurnedOf) (sc := defScope sTurnedOf) (by decide +kernel)) (fun _ _ _ _ _ => pg_name (i := 1) scTurnedOf.nd rfl (Or.inr rfl)) (fun _ _ _ _ _ => pts_nil)
      (fun _ _ _ _ _ => pe_callTy (callTupK (K := K)) (by rfl) B.tuple (by decide +kernel) (pa_cons (pe_lc (own := [("row", 2)]) (g := gName 2) (tt := tYes) rfl scTurnedOf.nd (pi_tupK (K := K) (pv 0))
        (blkOk_by (N := nTurnedOf) (sc := relS (lcScope (argE (retE sTurnedOf))) (defScope sTurnedOf)) (by decide +kernel)) (fun _ _ _ _ _ => pg_name (i := 2) scTurnedOf.nd rfl (Or.inl rfl)) (fun _ _ _ _ _ => pts_nil)
        (fun _ _ _ _ _ => pe_ix (ix_tupK (K := K)) (pv 2) (pv 1) (fun _ _ => rfl))) pa_nil))) pa_nil))), ?_⟩
    have hlen := Paired.length hw
    refine s_retP (evp_tab (K := K) (evlp_rng (m := t.length) lf_row (fun _ => true) (fun j => t.map fun r => at0 r j) (ea_cons (fun H1 e Q q => ?_) ea_nil) (by omega) (fun _ => rfl) fun j H1 e hj => ⟨et_yes, fun _ => ?_⟩) (pick_map _ _)) k
    · rw [← hlen] at q
      exact ⟨_, rfl, a, _, rfl, .inr (SqT.of (e _ _ ha)), q H1 (Ex.refl H1)⟩
    · refine evp_row (K := K) (evlp_tup (a := a) lf_int (fun _ => true) (fun i => at0 (rowAt t i) j) (ev_var rfl) (e _ _ ha) (by omega) (fun _ => rfl) fun i u H2 e2 h1 => ⟨et_yes, fun _ => ?_⟩) ?_
      · obtain ⟨⟨b, rfl, hb⟩, hi⟩ := rows_item (rows_ex hw (e.trans e2)) h1
        exact ev_p (ev_op (ev_var rfl) (ev_var rfl) (rv_ixT (st_of hb) (atI_nat (row_at (by rw [hsq _ (rowAt_mem hi)]; exact hj))))) fun _ _ => rfl
      · rw [pick_map, hlen]
        exact map_range_row t fun r => at0 r j
end
end RK

set_option Elab.async false
set_option linter.all false
set_option maxRecDepth 100000
set_option maxHeartbeats 4000000
namespace RK
open PySem PySem.Spec PyProof.Rows L2 Evl
/-! ### data that stands in tracked lists and tuples -/
mutual
inductive Dt (H : Hp) : V → PyData → Prop
  | non : Dt H .non .none
  | bl (b : Bool) : Dt H (.bl b) (.bool b)
  | int (i : Int) : Dt H (.int i) (.int i)
  | str (x : Str) : Dt H (.str x) (.str x)
  | lst {a : Addr} {xs : List V} {ds : List PyData} : H a = some (.lst xs) → DtAll H xs ds → Dt H (.ref a) (.list ds)
  | tup {a : Addr} {xs : List V} {ds : List PyData} : H a = some (.tup xs) → DtAll H xs ds → Dt H (.ref a) (.tuple ds)
inductive DtAll (H : Hp) : List V → List PyData → Prop
  | nil : DtAll H [] []
  | cons {v : V} {vs : List V} {d : PyData} {ds : List PyData} : Dt H v d → DtAll H vs ds → DtAll H (v :: vs) (d :: ds)
end
mutual
theorem Dt.dp {K : PySem.W.Frag} {H : Hp} : ∀ {v : V} {d : PyData}, Dt H v d → Dp K H v d
  | _, _, .non => .non
  | _, _, .bl b => .bl b
  | _, _, .int i => .int i
  | _, _, .str x => .str x
  | _, _, .lst h t => .lst (sq_of h) (DtAll.dp t)
  | _, _, .tup h t => .tup (st_of h) (DtAll.dp t)
theorem DtAll.dp {K : PySem.W.Frag} {H : Hp} : ∀ {vs : List V} {ds : List PyData}, DtAll H vs ds → DpAll K H vs ds
  | _, _, .nil => .nil
  | _, _, .cons h t => .cons (Dt.dp h) (DtAll.dp t)
end
mutual
theorem Dt.ex {H H' : Hp} (e : Ex H H') : ∀ {v : V} {d : PyData}, Dt H v d → Dt H' v d
  | _, _, .non => .non
  | _, _, .bl b => .bl b
  | _, _, .int i => .int i
  | _, _, .str x => .str x
  | _, _, .lst h t => .lst (e _ _ h) (DtAll.ex e t)
  | _, _, .tup h t => .tup (e _ _ h) (DtAll.ex e t)
theorem DtAll.ex {H H' : Hp} (e : Ex H H') : ∀ {vs : List V} {ds : List PyData}, DtAll H vs ds → DtAll H' vs ds
  | _, _, .nil => .nil
  | _, _, .cons h t => .cons (Dt.ex e h) (DtAll.ex e t)
end
theorem DtAll.length {H : Hp} : ∀ {vs : List V} {ds : List PyData}, DtAll H vs ds → vs.length = ds.length
  | _, _, .nil => rfl
  | _, _, .cons _ t => by rw [List.length_cons, List.length_cons, DtAll.length t]
theorem DtAll.get {H : Hp} : ∀ {vs : List V} {ds : List PyData} {i : Nat} {v : V}, DtAll H vs ds → vs[i]? = some v → ∃ d, ds[i]? = some d ∧ Dt H v d
  | _, _, _, _, .nil, h => by simp at h
  | _, _, 0, _, .cons f _, h => by
    simp at h
    subst h
    exact ⟨_, rfl, f⟩
  | _, _, i + 1, _, .cons _ t, h => by
    obtain ⟨y, h1, h2⟩ := DtAll.get (i := i) t (by simpa using h)
    exact ⟨y, by simpa using h1, h2⟩
theorem dtAll_ints {H : Hp} : ∀ (r : List Int), DtAll H (r.map V.int) (r.map PyData.int)
  | [] => .nil
  | x :: r => .cons (.int x) (dtAll_ints r)
def dRow (r : Row) : PyData := .tuple (r.map .int)
def dRowL (r : Row) : PyData := .list (r.map .int)
theorem RowT.dt {H : Hp} {v : V} {r : Row} (h : RowT H v r) : Dt H v (dRow r) := by
  obtain ⟨a, rfl, h⟩ := h
  exact .tup h (dtAll_ints r)
theorem rows_dt {H : Hp} : ∀ {vs : List V} {t : Tab}, Paired (RowT H) vs t → DtAll H vs (t.map dRow)
  | _, _, .nil => .nil
  | _, _, .cons h t => .cons h.dt (rows_dt t)
theorem TabT.dt {H : Hp} {v : V} {t : Tab} (h : TabT H v t) : Dt H v (.tuple (t.map dRow)) := by
  obtain ⟨a, vs, rfl, h1, h2⟩ := h
  exact .tup h1 (rows_dt h2)
theorem TabL.dt {H : Hp} {v : V} {t : Tab} (h : TabL H v t) : Dt H v (.list (t.map dRow)) := by
  obtain ⟨a, vs, rfl, h1, h2⟩ := h
  exact .lst h1 (rows_dt h2)

/-! ### any(a tuple of ints) -/
section
variable {X : Cx}
def rAnyT (K : PySem.W.Frag) : List V → Hp → VK → Prop := fun vs H Q => ∃ (a : Addr) (ns : List Int), vs = [V.ref a] ∧ SqT K H a (ns.map V.int) ∧ Q (.bl (ns.any fun x => decide (x ≠ 0))) H
theorem any_rangeI : ∀ ns : List Int, (List.range ns.length).any (fun i => decide (ns.getD i 0 ≠ 0)) = ns.any fun x => decide (x ≠ 0)
  | [] => rfl
  | b :: bs => by
    rw [List.length_cons, List.range_succ_eq_map, List.any_cons, List.any_map, List.any_cons, ← any_rangeI bs]
    all_goals rfl
theorem truth_intsT {prog : Program} {w : World} {A : Around} {ns : List Int} {its : List Value} (rv : Vals (ns.map V.int) its) : TruthOf prog w A (fun i v => its.toArray[i]? = some v) (fun i => decide (ns.getD i 0 ≠ 0)) := fun i v s Q E hv hq => by
  have hv' : its[i]? = some v := by simpa using hv
  have hi : i < ns.length := by
    have h1 := (List.getElem?_eq_some_iff.mp hv').1
    rw [← rv.length] at h1
    simpa using h1
  obtain ⟨u, hu, t, rfl⟩ := rv.get (x := V.int ns[i]) (i := i) (by rw [List.getElem?_map, List.getElem?_eq_getElem hi]; rfl)
  rw [hv'] at hu
  cases hu
  have hg : ns.getD i 0 = ns[i] := by rw [List.getD_eq_getElem?_getD, List.getElem?_eq_getElem hi] <;> rfl
  have hq' : Q (decide (ns.getD i 0 ≠ 0)) s := hq
  rw [hg] at hq'
  refine PyProof.Rows.truthy_int ?_
  have e : (ns[i] != 0) = decide (ns[i] ≠ 0) := by by_cases c : ns[i] = 0 <;> simp [c]
  rw [e]
  exact hq'
theorem callAnyT (hc : X.calm = true) {K : PySem.W.Frag} (hK : X.K = K := by rfl) : CallR X (.builtin "any") (rAnyT K) := by
  subst hK
  intro pins s σ H vs us Q I r h
  obtain ⟨a, ns, rfl, hs, q⟩ := h
  obtain ⟨its, rv, hl, _⟩ := I.tuple hs
  rw [Vals.ref1 r]
  have hlt : a < s.heap.objs.size := by
    obtain ⟨_, e, _⟩ := hl
    exact Heap.lt_size e
  have ht : s.heap.IsTuple a its.toArray := hl
  refine call_any_walk (wpAny_pyIter_tuple ht ?_)
  refine ⟨_, _, _, _, _, _, _, rfl, Walks.tuple (A := X.A.in1) (I.ok.hd hc) _ a (Nat.ne_of_lt hlt) its.toArray, ⟨⟨_, Heap.get?_push_size _ rfl, rfl, rfl⟩, ?_⟩, truth_intsT rv, fun h' tk hk => ?_⟩
  · obtain ⟨o, e, z⟩ := ht
    exact ⟨o, Heap.get?_push_of_some _ e, z⟩
  · refine ⟨.bl _, H, I.kept fun b o eo => hk b o (fun hmem => ?_) (Heap.get?_push_of_some _ eo), ?_, q⟩
    · rcases List.mem_cons.mp hmem with e1 | hmem
      · exact absurd (e1 ▸ Heap.lt_size eo) (Nat.lt_irrefl _)
      · cases hmem
    · show Value.bool _ = Value.bool _
      rw [← any_rangeI, List.size_toArray, ← rv.length, List.length_map]

/-! ### a sequence of either kind, walked -/
def iSeq (K : PySem.W.Frag) (tl : TE) : TI := fun σ H R => tl σ H fun x H1 => ∃ a, x = .ref a ∧ (((∃ xs, SqL K H1 a xs) ∧ R (Itl K a) H1) ∨ ((∃ xs, SqT K H1 a xs) ∧ R (Itt K a) H1))
theorem pi_seq {l tg : Expr} {tl : TE} {K : PySem.W.Frag} (hl : PE X l tl) (hK : X.K = K := by rfl) : PI X tg l (iSeq K tl) := by
  subst hK
  refine ⟨fun pins s σ H R I h => ?_⟩
  refine thn (hl.run pins s σ H _ I h) fun v s1 ⟨x, H1, I1, r1, q1⟩ => ?_
  obtain ⟨a, e, q⟩ := q1
  subst e
  cases r1
  have fresh : ∀ b ∈ [s1.heap.objs.size], FpOk X pins H1 b := fun b hb => by
    rw [List.mem_singleton.mp hb]
    exact I1.fpOk (Nat.le_refl _) (I1.hok.fresh (Nat.le_refl _))
  rcases q with ⟨⟨xs, hq⟩, q⟩ | ⟨⟨xs, hq⟩, q⟩
  · obtain ⟨its, rv, p, hz⟩ := I1.list hq
    refine wpAny_pyIter_list p.isList ?_
    exact ⟨s1.heap.objs.size, [s1.heap.objs.size], _, _, H1, rfl, I1.kept (t' := s1.toks) fun b o e => Heap.get?_push_of_some _ e, turn_list a _, ⟨_, Heap.get?_push_size _ rfl, rfl, rfl⟩, fresh, q⟩
  · obtain ⟨its, rv, p, hz⟩ := I1.tuple hq
    refine wpAny_pyIter_tuple (show s1.heap.IsTuple a its.toArray from p) ?_
    exact ⟨s1.heap.objs.size, [s1.heap.objs.size], _, _, H1, rfl, I1.kept (t' := s1.toks) fun b o e => Heap.get?_push_of_some _ e, turn_tuple a _, ⟨_, Heap.get?_push_size _ rfl, rfl, rfl⟩, fresh, q⟩
theorem ix_seqK {K : PySem.W.Frag} (h : X.K = K := by rfl) : IxR X (rIx K) := h ▸ ix_seq
end
/-- at a stands the list or the tuple xs -/
def SeqAt2 (H : Hp) (a : Addr) (xs : List V) : Prop := H a = some (.lst xs) ∨ H a = some (.tup xs)
theorem SeqAt2.ex {H H' : Hp} {a : Addr} {xs : List V} (h : SeqAt2 H a xs) (e : Ex H H') : SeqAt2 H' a xs := h.elim (fun z => .inl (e _ _ z)) fun z => .inr (e _ _ z)
section
variable {β : Type} {K : PySem.W.Frag} {σ : L2.St} {tt : TT} {te tl : TE} {vs : List Nat} {H : Hp} {R : Hp → V → β → Prop}
/-- a comprehension over a list or a tuple -/
theorem evlp_seq {a : Addr} {xs : List V} {j : Nat} (lf : LF R) (f : Nat → Bool) (ys : Nat → β) (h : Ev tl σ H (.ref a)) (hx : SeqAt2 H a xs) (hz : xs.length ≤ 40000) (hw : ∀ x, wipe ((wipe σ vs).set j (some x)) vs = wipe σ vs)
    (ht : ∀ (i : Nat) (x : V) H1, Ex H H1 → xs[i]? = some x → EvT tt ((wipe σ vs).set j (some x)) H1 (f i) ∧ (f i = true → EvP te ((wipe σ vs).set j (some x)) H1 (fun v H3 => R H3 v (ys i)))) :
    EvLP (tLc (iSeq K tl) (gName j) tt te vs) σ H (fun ws H2 => Paired (R H2) ws (pick xs.length f ys)) := fun H0 e Q q => h H0 e _ fun H1 e1 => by
  rcases hx with hx | hx
  · refine ⟨a, rfl, .inl ⟨⟨xs, sq_of (e1 _ _ (e _ _ hx))⟩, fun D hD => ?_⟩⟩
    exact lc_lf (walk_list (K := K) (a := a) (xs := xs)) lf f ys hD hz (fun H' e2 => sq_of (e2 _ _ (e1 _ _ (e _ _ hx)))) (fun i x H2 H2' hi e2 y => by
      obtain ⟨rfl, hi⟩ := y
      obtain ⟨t1, t2⟩ := ht i x _ ((e.trans e1).trans e2) hi
      exact ⟨_, _, Ex.refl _, fun Q q => q, hw x, t1, t2⟩) fun H' ws e2 hD' pw => q D ws H' (fresh_back e1 hD) (e1.trans e2) hD' pw
  · refine ⟨a, rfl, .inr ⟨⟨xs, st_of (e1 _ _ (e _ _ hx))⟩, fun D hD => ?_⟩⟩
    exact lc_lf (walk_tup (K := K) (a := a) (xs := xs)) lf f ys hD hz (fun H' e2 => st_of (e2 _ _ (e1 _ _ (e _ _ hx)))) (fun i x H2 H2' hi e2 y => by
      obtain ⟨rfl, hi⟩ := y
      obtain ⟨t1, t2⟩ := ht i x _ ((e.trans e1).trans e2) hi
      exact ⟨_, _, Ex.refl _, fun Q q => q, hw x, t1, t2⟩) fun H' ws e2 hD' pw => q D ws H' (fresh_back e1 hD) (e1.trans e2) hD' pw
theorem evp_all {te : TE} {bs : List Bool} (h : EvLP te σ H (fun ws H2 => Paired (RB H2) ws bs)) : Ev (tCB (rAll K) (tCons te tNil)) σ H (.bl (bs.all id)) := fun H1 e Q q => h H1 e _ fun p ws H2 n e2 hp pw => by
  have e3 := paired_bl pw
  subst e3
  exact ⟨p, bs, rfl, sq_of hp, q H2 e2⟩
theorem evp_any {te : TE} {bs : List Bool} (h : EvLP te σ H (fun ws H2 => Paired (RB H2) ws bs)) : Ev (tCB (rAny K) (tCons te tNil)) σ H (.bl (bs.any id)) := fun H1 e Q q => h H1 e _ fun p ws H2 n e2 hp pw => by
  have e3 := paired_bl pw
  subst e3
  exact ⟨p, bs, rfl, sq_of hp, q H2 e2⟩
theorem evp_sum {te : TE} {ns : List Int} (h : EvLP te σ H (fun ws H2 => Paired (RI H2) ws ns)) : Ev (tCB (rSum K) (tCons te tNil)) σ H (.int ns.sum) := fun H1 e Q q => h H1 e _ fun p ws H2 n e2 hp pw => by
  have e3 := paired_int pw
  subst e3
  exact ⟨p, ns, rfl, sq_of hp, q H2 e2⟩
theorem ev_lenS {te : TE} {a : Addr} {xs : List V} (h : Ev te σ H (.ref a)) (hx : SeqAt2 H a xs) : Ev (tCB (rLenS K) (tCons te tNil)) σ H (.int (xs.length : Nat)) := fun H1 e Q q => h H1 e _ fun H2 e2 =>
  ⟨a, xs, rfl, (hx.ex (e.trans e2)).elim (fun z => .inl (sq_of z)) (fun z => .inr (st_of z)), q H2 e2⟩
end
end RK

set_option Elab.async false
set_option linter.all false
set_option maxRecDepth 100000
set_option maxHeartbeats 4000000
namespace RK
open PySem L2 Evl

/-! ### a row, a table read out of data -/
def seqD : PyData → List PyData
  | .list ds => ds
  | .tuple ds => ds
  | _ => []
def intD : PyData → Int
  | .int i => i
  | _ => 0
def rowIn (p : Int) (n : Nat) (d : PyData) : Option Row :=
  if (isListD d && decide ((seqD d).length = n) && (seqD d).all (restD p)) = true then some ((seqD d).map intD) else none
def tableIn (p : Int) (d : PyData) : Option Tab :=
  if (isListD d && decide ((seqD d).length ≤ 6)) = true then
    (if (((seqD d).map (rowIn p (seqD d).length)).any (·.isNone)) = true then none else some (((seqD d).map (rowIn p (seqD d).length)).map (·.getD [])))
  else none
def ORow (H : Hp) (v : V) (o : Option Row) : Prop :=
  match o with
  | none => v = .non
  | some r => RowT H v r
def OTab (H : Hp) (v : V) (o : Option Tab) : Prop :=
  match o with
  | none => v = .non
  | some t => TabT H v t
theorem ORow.ex {H H' : Hp} {v : V} {o : Option Row} (h : ORow H v o) (e : Ex H H') : ORow H' v o := by
  cases o with
  | none => exact h
  | some r => exact RowT.ex (show RowT H v r from h) e
theorem lf_orow : LF ORow := ⟨fun _ _ _ _ e h => h.ex e, fun H D xs ys v o hD h => by
  cases o with
  | none => exact h
  | some r => exact lf_row.lst H D xs ys v r hD h⟩
theorem orow_isNon {H : Hp} {v : V} {o : Option Row} (h : ORow H v o) : decide (v = .non) = o.isNone := by
  cases o with
  | none =>
    have h' : v = .non := h
    subst h'
    rfl
  | some r =>
    obtain ⟨a, rfl, _⟩ := h
    rfl
theorem Dt.seq {H : Hp} {v : V} {d : PyData} (h : Dt H v d) : isListD d = false ∨ (isListD d = true ∧ ∃ a xs, v = .ref a ∧ SeqAt2 H a xs ∧ DtAll H xs (seqD d)) := by
  cases h with
  | lst h t => exact .inr ⟨rfl, _, _, rfl, .inl h, t⟩
  | tup h t => exact .inr ⟨rfl, _, _, rfl, .inr h, t⟩
  | non => exact .inl rfl
  | bl b => exact .inl rfl
  | int i => exact .inl rfl
  | str x => exact .inl rfl
theorem dt_rest {H : Hp} {v : V} {d : PyData} {p : Int} (h : Dt H v d) (e : restD p d = true) : v = .int (intD d) := by
  cases h with
  | int i => rfl
  | non => cases e
  | bl b => cases e
  | str x => cases e
  | lst h t => cases e
  | tup h t => cases e
theorem dtAll_rest {H : Hp} {p : Int} : ∀ {xs : List V} {ds : List PyData}, DtAll H xs ds → ds.all (restD p) = true → xs = (ds.map intD).map V.int
  | _, _, .nil, _ => rfl
  | _, _, .cons h t, e => by
    rw [List.all_cons, Bool.and_eq_true] at e
    rw [dt_rest h e.1, dtAll_rest t e.2]
    rfl
theorem seqAt_len {H : Hp} {a : Addr} {xs : List V} {ds : List PyData} (h : DtAll H xs ds) : xs.length = ds.length := h.length
theorem map_range_get {α β : Type} (ds : List α) (d0 : α) (f : α → β) : (List.range ds.length).map (fun i => f (ds.getD i d0)) = ds.map f := by
  refine List.ext_getElem (by simp) fun i h1 h2 => ?_
  have hi : i < ds.length := by simpa using h1
  rw [List.getElem_map, List.getElem_map, List.getElem_range, List.getD_eq_getElem?_getD, List.getElem?_eq_getElem hi] <;> rfl
theorem getD_of {α : Type} {ds : List α} {d0 d : α} {i : Nat} (h : ds[i]? = some d) : ds.getD i d0 = d := by
  rw [List.getD_eq_getElem?_getD, h]
  rfl
theorem orow_rows {H : Hp} : ∀ {vs : List V} {os : List (Option Row)}, Paired (ORow H) vs os → os.any (·.isNone) = false → Paired (RowT H) vs (os.map (·.getD []))
  | _, _, .nil, _ => .nil
  | _, _, .cons (b := o) h t, e => by
    rw [List.any_cons, Bool.or_eq_false_iff] at e
    cases o with
    | none => cases e.1
    | some r => exact .cons h (orow_rows t e.2)
def spRowIn : Sp := fun vs H Q _ => ∃ (p : Int) (n : Nat) (v : V) (d : PyData), vs = [.int p, v, .int (n : Int)] ∧ Dt H v d ∧ n ≤ 100 ∧ ∀ u H', Ex H H' → ORow H' u (rowIn p n d) → Q u H'
def spTableIn : Sp := fun vs H Q _ => ∃ (p : Int) (v : V) (d : PyData), vs = [.int p, v] ∧ Dt H v d ∧ ∀ u H', Ex H H' → OTab H' u (tableIn p d) → Q u H'
section
variable {P : Program} {w : World} {K : PySem.W.Frag} {mg : Str → Option Value} {base : Heap}
theorem ok_rowIn (B : Bt mg) (D : DefIn K mg "row_in" sRowIn ["prime", "value", "size"]) (h1 : Held P w K mg base CX0 1 "is_list" ["value"] (spIsList K)) (h2 : Held P w K mg base CX0 2 "is_rest_by" ["prime", "value"] (spIsRest K)) :
    Held P w K mg base CX0 3 "row_in" ["prime", "value", "size"] spRowIn := by
  obtain ⟨f1, fd1, g1, k1, b1, G1⟩ := h1
  obtain ⟨f2, fd2, g2, k2, b2, G2⟩ := h2
  refine D.held fun f fd F => F.ok scRowIn (fun vs H Q E h => ?_) (fun cdv A outer s H vs Q E hr h => ?_)
  · obtain ⟨p, n, v, d, rfl, _⟩ := h
    rfl
  · obtain ⟨p, n, v, d, rfl, hd, hn, k⟩ := h
    refine ⟨_, pss_cons (ps_if (pw_or (pt_not (pt_val (pe_call G1 (hr.mono (by decide)) (by rfl) g1 k1 b1 .nil pass0 (pa_cons (pv 1) pa_nil)))) (pw_or (pt_cmpR op_ne (pe_callB (callLenK (K := K)) (by rfl) B.len PySem.boot_len (pa_cons (pv 1) pa_nil)) (pv 2) (nomark _))
      (pw_or1 (pt_not (pt_val (pe_callB (callAllK (K := K) rfl) (by rfl) B.all (by decide +kernel) (pa_cons (pe_lc (own := [("number", 3)]) (g := gName 3) (tt := tYes) rfl scRowIn.nd (pi_seq (K := K) (pv 1))
        (blkOk_by (N := nRowIn) (sc := defScope sRowIn) (by decide +kernel)) (fun _ _ _ _ _ => pg_name (i := 3) scRowIn.nd rfl (Or.inl rfl)) (fun _ _ _ _ _ => pts_nil)
        (fun _ _ _ _ _ => pe_call G2 (hr.mono (by decide)) (by rfl) g2 k2 b2 .nil pass0 (pa_cons (pv 0) (pa_cons (pv 3) pa_nil)))) pa_nil))))))).pt (pss_one (ps_ret pe_non)) pss_nil)
      (pss_one (ps_ret (pe_callTy (callTupK (K := K)) (by rfl) B.tuple (by decide +kernel) (pa_cons (pv 1) pa_nil)))), ?_⟩
    have t1 : ∀ H1, Ex H H1 → EvT (tB (tCall (spIsList K) [] E0 (tCons (tVar 1) tNil))) [some (.int p), some v, some (.int (n : Int)), none] H1 (isListD d) := fun H1 e H2 e2 Q q =>
      ⟨v, rfl, v, d, rfl, (hd.ex (e.trans e2)).dp, fun H3 e3 => ⟨_, rfl, q H3 e3⟩⟩
    rcases hd.seq with hl | ⟨hl, a, xs, rfl, hs, hx⟩
    · refine q_when (b := true) (et_is (et_or (b := true) (et_not (t1 H (Ex.refl H))) (fun c => by rw [hl] at c; cases c)) (by rw [hl]; rfl)) (fun _ H1 e1 => s_ret ev_c fun H2 e2 => k .non H2 (e1.trans e2) ?_) (fun c => by cases c)
      have : rowIn p n d = none := by unfold rowIn; rw [hl]; rfl
      rw [this]
      rfl
    · have hlen := hx.length
      refine q_when (b := (!isListD d || (!decide (V.int (xs.length : Nat) = V.int (n : Int)) || !((seqD d).all (restD p)))))
        (et_or (et_not (t1 H (Ex.refl H))) fun _ => et_or (et_test (ev_op (ev_lenS (K := K) (ev_var rfl) hs) (ev_var rfl) (rv_ne rfl))) fun c => et_not (et_B (ev_is (evp_all (K := K) (bs := (seqD d).map (restD p)) ?_) ?_))) ?_ ?_
      · have c' : (xs.length : Int) = (n : Int) := by
          have : decide (V.int (xs.length : Nat) = V.int (n : Int)) = true := by simpa using c
          have := of_decide_eq_true this
          injection this
        refine (evlp_seq (K := K) (a := a) lf_bool (fun _ => true) (fun i => restD p ((seqD d).getD i .none)) (ev_var rfl) hs (by omega) (fun _ => rfl) fun i x H1 e h => ⟨et_yes, fun _ => ?_⟩).imp fun vs H1 _ q => ?_
        · obtain ⟨dd, h1, h2⟩ := hx.get h
          rw [getD_of h1]
          exact evp_call (PL := fun vs _ => vs = [V.int p, x]) (eap_of (ea_cons (ev_var rfl) (ea_cons (ev_var rfl) ea_nil)) fun _ _ => rfl) (fun vs H2 e2 hv Q q => by
            subst hv
            exact ⟨p, x, dd, rfl, (h2.ex (e.trans e2)).dp, fun H3 e3 => q _ H3 e3 rfl⟩)
        · rw [pick_map, hlen, map_range_get (seqD d) .none (restD p)] at q
          exact q
      · rw [List.all_map]
        rfl
      · refine fun c H1 e1 => s_ret ev_c fun H2 e2 => k .non H2 (e1.trans e2) ?_
        have : rowIn p n d = none := by
          unfold rowIn
          refine if_neg fun z => ?_
          simp only [Bool.and_eq_true, decide_eq_true_eq] at z
          rw [hl, z.2, hlen, z.1.2] at c
          simp at c
        rw [this]
        rfl
      · refine fun c H1 e1 => s_retP (P := fun u H2 => ORow H2 u (rowIn p n d)) ?_ fun u H2 e2 q => k u H2 (e1.trans e2) q
        rw [Bool.or_eq_false_iff, Bool.or_eq_false_iff] at c
        have c2 : (xs.length : Int) = (n : Int) := by
          have : decide (V.int (xs.length : Nat) = V.int (n : Int)) = true := by simpa using c.2.1
          have := of_decide_eq_true this
          injection this
        have c3 : (seqD d).all (restD p) = true := by simpa using c.2.2
        have e3 : rowIn p n d = some ((seqD d).map intD) := by
          unfold rowIn
          refine if_pos ?_
          simp only [Bool.and_eq_true, decide_eq_true_eq]
          exact ⟨⟨hl, by omega⟩, c3⟩
        rw [e3]
        have ex := dtAll_rest hx c3
        intro H2 e2 Q q
        refine ⟨_, rfl, a, xs, rfl, ?_⟩
        rcases hs.ex (e1.trans e2) with h | h
        · exact .inl ⟨sq_of h, fun l hl => q _ _ (Ex.new hl) ⟨l, rfl, by rw [upd_same, ex]⟩⟩
        · exact .inr ⟨st_of h, q _ _ (Ex.refl _) ⟨a, rfl, by rw [h, ex]⟩⟩
theorem paired_in {H : Hp} {vs : List V} {os : List (Option Row)} (h : Paired (ORow H) vs os) {i : Nat} {x : V} (e : vs[i]? = some x) : ORow H x (os.getD i none) := by
  obtain ⟨o, h1, h2⟩ := paired_get h e
  rw [getD_of h1]
  exact h2
theorem ok_tableIn (B : Bt mg) (C : Consts K mg) (D : DefIn K mg "table_in" sTableIn ["prime", "value"]) (h1 : Held P w K mg base CX0 1 "is_list" ["value"] (spIsList K)) (h2 : Held P w K mg base CX0 3 "row_in" ["prime", "value", "size"] spRowIn) :
    Held P w K mg base CX0 4 "table_in" ["prime", "value"] spTableIn := by
  obtain ⟨f1, fd1, g1, k1, b1, G1⟩ := h1
  obtain ⟨f2, fd2, g2, k2, b2, G2⟩ := h2
  obtain ⟨tm, gM⟩ := C.most
  refine D.held fun f fd F => F.ok scTableIn (fun vs H Q E h => ?_) (fun cdv A outer s H vs Q E hr h => ?_)
  · obtain ⟨p, v, d, rfl, _⟩ := h
    rfl
  · obtain ⟨p, v, d, rfl, hd, k⟩ := h
    refine ⟨_, pss_cons (ps_if (pw_or (pt_not (pt_val (pe_call G1 (hr.mono (by decide)) (by rfl) g1 k1 b1 .nil pass0 (pa_cons (pv 1) pa_nil)))) (pw_or1 (pt_cmpR op_gt (pe_callB (callLenK (K := K)) (by rfl) B.len PySem.boot_len (pa_cons (pv 1) pa_nil)) (pe_glob (v := .int 6) (by rfl) gM ⟨_, rfl⟩) (by rfl)))).pt (pss_one (ps_ret pe_non)) pss_nil)
      (pss_cons (ps_setLc (i := 2) (own := [("row", 3)]) (g := gName 3) (tt := tYes) rfl scTableIn.nd rfl rfl (by rfl) (pi_seq (K := K) (pv 1))
        (blkOk_by (N := nTableIn) (sc := defScope sTableIn) (by decide +kernel)) (fun _ _ _ _ _ => pg_name (i := 3) scTableIn.nd rfl (Or.inl rfl)) (fun _ _ _ _ _ => pts_nil)
        (fun _ _ _ _ _ => pe_call G2 (hr.mono (by decide)) (by rfl) g2 k2 b2 .nil pass0 (pa_cons (pv 0) (pa_cons (pv 3) (pa_cons (pe_callB (callLenK (K := K)) (by rfl) B.len PySem.boot_len (pa_cons (pv 1) pa_nil)) pa_nil)))))
      (pss_one (ps_ret (pe_ifExp (pt_val (pe_callB (callAnyK (K := K) rfl) (by rfl) B.any (by decide +kernel) (pa_cons (pe_lc (own := [("row", 3)]) (g := gName 3) (tt := tYes) rfl scTableIn.nd (pi_listK (K := K) (pv 2))
        (blkOk_by (N := nTableIn) (sc := defScope sTableIn) (by decide +kernel)) (fun _ _ _ _ _ => pg_name (i := 3) scTableIn.nd rfl (Or.inl rfl)) (fun _ _ _ _ _ => pts_nil)
        (fun _ _ _ _ _ => pe_cmpR op_isN (pv 3) pe_non (nomark _))) pa_nil))) pe_non (pe_callTy (callTupK (K := K)) (by rfl) B.tuple (by decide +kernel) (pa_cons (pv 2) pa_nil)))))), ?_⟩
    have t1 : ∀ H1, Ex H H1 → EvT (tB (tCall (spIsList K) [] E0 (tCons (tVar 1) tNil))) [some (.int p), some v, none, none] H1 (isListD d) := fun H1 e H2 e2 Q q =>
      ⟨v, rfl, v, d, rfl, (hd.ex (e.trans e2)).dp, fun H3 e3 => ⟨_, rfl, q H3 e3⟩⟩
    have none_of : (isListD d && decide ((seqD d).length ≤ 6)) = false → tableIn p d = none := fun z => by
      unfold tableIn
      rw [if_neg (by rw [z]; decide)]
    rcases hd.seq with hl | ⟨hl, a, xs, rfl, hs, hx⟩
    · refine q_when (b := true) (et_is (et_or (b := true) (et_not (t1 H (Ex.refl H))) (fun c => by rw [hl] at c; cases c)) (by rw [hl]; rfl)) (fun _ H1 e1 => s_ret ev_c fun H2 e2 => k .non H2 (e1.trans e2) ?_) (fun c => by cases c)
      rw [none_of (by rw [hl]; rfl)]
      rfl
    · have hlen := hx.length
      refine q_when (b := (!isListD d || decide ((xs.length : Int) > 6))) (et_or (et_not (t1 H (Ex.refl H))) fun _ => et_test (ev_op (ev_lenS (K := K) (ev_var rfl) hs) ev_c rv_I0)) (fun c H1 e1 => s_ret ev_c fun H2 e2 => k .non H2 (e1.trans e2) ?_) (fun c H1 e1 => ?_)
      · rw [hl] at c
        have c' : (xs.length : Int) > 6 := by simpa using c
        rw [none_of (by rw [hl, Bool.true_and]; exact decide_eq_false (by omega))]
        rfl
      · rw [hl] at c
        have c' : (xs.length : Int) ≤ 6 := by simpa using c
        refine q_asgLP (i := 2) (PL := fun vs H2 => Paired (ORow H2) vs ((seqD d).map (rowIn p (seqD d).length)))
          ((evlp_seq (K := K) (a := a) lf_orow (fun _ => true) (fun i => rowIn p (seqD d).length ((seqD d).getD i .none)) (ev_var rfl) (hs.ex e1) (by omega) (fun _ => rfl) fun i x H2 e2 h => ⟨et_yes, fun _ => ?_⟩).imp fun vs H2 _ q => ?_) fun q vs H2 nq e2 hq pq => ?_
        · obtain ⟨dd, h1, h2⟩ := hx.get h
          rw [getD_of h1]
          exact evp_call (PL := fun vs _ => vs = [V.int p, x, .int (xs.length : Nat)]) (eap_of (ea_cons (ev_var rfl) (ea_cons (ev_var rfl) (ea_cons (ev_lenS (K := K) (ev_var rfl) (hs.ex (e1.trans e2))) ea_nil))) fun _ _ => rfl) (fun vs H3 e3 hv Q q => by
            subst hv
            refine ⟨p, xs.length, x, dd, rfl, (h2.ex ((e1.trans e2).trans e3)), by omega, fun u H4 e4 r => q u H4 e4 ?_⟩
            rw [hlen] at r
            exact r)
        · rw [pick_map, hlen, map_range_get (seqD d) .none (rowIn p (seqD d).length)] at q
          exact q
        · have lq := pq.length
          have tin : tableIn p d = if (((seqD d).map (rowIn p (seqD d).length)).any (·.isNone)) = true then none else some (((seqD d).map (rowIn p (seqD d).length)).map (·.getD [])) := by
            unfold tableIn
            rw [if_pos]
            rw [hl, Bool.true_and]
            exact decide_eq_true (by omega)
          rw [List.length_map] at lq
          generalize (seqD d).map (rowIn p (seqD d).length) = os at pq lq tin
          refine s_retP (P := fun u H3 => OTab H3 u (tableIn p d)) (evp_if (b := os.any (·.isNone)) (et_B (ev_is (evp_any (K := K) (bs := os.map (·.isNone)) ((evlp_list (K := K) (a := q) lf_bool (fun _ => true) (fun i => (os.getD i none).isNone) (ev_var rfl) hq (by omega) (fun _ => rfl) fun i x H3 e3 h => ⟨et_yes, fun _ => ?_⟩).imp fun ws H3 _ z => ?_)) ?_)) (fun c => ?_) fun c => ?_) fun u H3 e3 z => k u H3 ((e1.trans e2).trans e3) z
          · have r := paired_in pq h
            intro H4 e4 Q qq
            refine ⟨x, rfl, rfl, qq _ _ (Ex.refl _) ?_⟩
            rw [orow_isNon r]
          · have l2 : vs.length = os.length := pq.length
            rw [pick_map] at z
            have := map_range_get os none (·.isNone)
            rw [← this]
            rw [l2] at z
            exact z
          · rw [List.any_map]
            rfl
          · refine ev_p ev_c fun H3 e3 => ?_
            rw [tin, if_pos c]
            rfl
          · intro H3 e3 Q qq
            refine ⟨_, rfl, q, vs, rfl, .inl ⟨sq_of (e3 _ _ hq), fun l hl => qq _ _ (Ex.new hl) ?_⟩⟩
            rw [tin, if_neg (by rw [c]; decide)]
            exact ⟨l, vs, rfl, upd_same, orow_rows (lf_paired lf_orow (e3.trans (Ex.new hl)) pq) c⟩
end
end RK

set_option Elab.async false
set_option linter.all false
set_option maxRecDepth 100000
set_option maxHeartbeats 4000000
namespace RK
open PySem L2 Evl
theorem eqvAll_ints : ∀ r o : Row, PyData.eqvAll (r.map PyData.int) (o.map PyData.int) = decide (r = o)
  | [], [] => by simp [PyData.eqvAll]
  | [], _ :: _ => by simp [PyData.eqvAll]
  | _ :: _, [] => by simp [PyData.eqvAll]
  | a :: r, b :: t => by
    simp only [List.map_cons, PyData.eqvAll, PyData.eqv, eqvAll_ints r t]
    by_cases h : a = b <;> by_cases h' : r = t <;> simp [h, h']
theorem eqvAll_rows : ∀ t u : Tab, PyData.eqvAll (t.map dRow) (u.map dRow) = decide (t = u)
  | [], [] => by simp [PyData.eqvAll]
  | [], _ :: _ => by simp [PyData.eqvAll]
  | _ :: _, [] => by simp [PyData.eqvAll]
  | a :: r, b :: t => by
    have e : PyData.eqv (dRow a) (dRow b) = decide (a = b) := by
      show PyData.eqv (.tuple (a.map .int)) (.tuple (b.map .int)) = _
      rw [PyData.eqv]
      exact eqvAll_ints a b
    rw [List.map_cons, List.map_cons, PyData.eqvAll, e, eqvAll_rows r t]
    by_cases h : a = b <;> by_cases h' : r = t <;> simp [h, h']
theorem eqv_tab (t u : Tab) : PyData.eqv (.tuple (t.map dRow)) (.tuple (u.map dRow)) = decide (t = u) := by
  rw [PyData.eqv]
  exact eqvAll_rows t u
theorem eqv_tabL (t u : Tab) : PyData.eqv (.list (t.map dRow)) (.list (u.map dRow)) = decide (t = u) := by
  rw [PyData.eqv]
  exact eqvAll_rows t u
theorem lay_rows : ∀ t : Tab, PyData.canLayAll0 (t.map dRow) = true
  | [] => rfl
  | r :: t => by
    have e : PyData.canLay0 (dRow r) = true := by
      show PyData.canLay0 (.tuple (r.map .int)) = true
      rw [PyData.canLay0]
      exact PySem.W.ke_canLayAll0 r
    rw [List.map_cons, PyData.canLayAll0, e, lay_rows t]
    rfl
theorem depth_rows : ∀ t : Tab, PyData.depthAll (t.map dRow) ≤ 1
  | [] => by simp [PyData.depthAll]
  | r :: t => by
    have e : PyData.depth (dRow r) = 1 := by
      show PyData.depth (.tuple (r.map .int)) = 1
      rw [PyData.depth, PySem.W.ke_depthAll]
    have h := depth_rows t
    rw [List.map_cons, PyData.depthAll, e]
    omega
theorem shaped_tab (t : Tab) : SeqAt.shaped (.tuple (t.map dRow)) = true := by
  have h := depth_rows t
  have h2 : PyData.depth (.tuple (t.map dRow)) ≤ 64 := by
    rw [PyData.depth]
    omega
  show (PyData.canLay0 (.tuple (t.map dRow)) && decide (PyData.depth (.tuple (t.map dRow)) ≤ 64)) = true
  rw [Bool.and_eq_true]
  exact ⟨by rw [PyData.canLay0]; exact lay_rows t, decide_eq_true h2⟩
theorem shaped_tabL (t : Tab) : SeqAt.shaped (.list (t.map dRow)) = true := by
  have h := depth_rows t
  have h2 : PyData.depth (.list (t.map dRow)) ≤ 64 := by
    rw [PyData.depth]
    omega
  show (PyData.canLay0 (.list (t.map dRow)) && decide (PyData.depth (.list (t.map dRow)) ≤ 64)) = true
  rw [Bool.and_eq_true]
  exact ⟨by rw [PyData.canLay0]; exact lay_rows t, decide_eq_true h2⟩
section
variable {K : PySem.W.Frag} {σ : L2.St} {H : Hp} {ta tb : TE}
theorem rv_neTab {x y : V} {t u : Tab} (hx : TabT H x t) (hy : TabT H y u) : RV (rNeD K) x y H (.bl (!decide (t = u))) := fun H1 e Q q =>
  ⟨_, _, (hx.ex e).dt.dp, (hy.ex e).dt.dp, shaped_tab t, shaped_tab u, by rw [eqv_tab]; exact q H1 (Ex.refl H1)⟩
theorem rv_eqTab {x y : V} {t u : Tab} (hx : TabT H x t) (hy : TabT H y u) : RV (rEqD K) x y H (.bl (decide (t = u))) := fun H1 e Q q =>
  ⟨_, _, (hx.ex e).dt.dp, (hy.ex e).dt.dp, shaped_tab t, shaped_tab u, by rw [eqv_tab]; exact q H1 (Ex.refl H1)⟩
/-- rows != [] -/
theorem rv_neNil {x y : V} {t : Tab} (hx : TabL H x t) (hy : TabL H y []) : RV (rNeD K) x y H (.bl (!decide (t = []))) := fun H1 e Q q =>
  ⟨_, _, (hx.ex e).dt.dp, (hy.ex e).dt.dp, shaped_tabL t, shaped_tabL [], by rw [eqv_tabL]; exact q H1 (Ex.refl H1)⟩
end
/-- what a table read out of data is -/
def Fit (p : Int) (n : Nat) (t : Tab) : Prop := ∀ r ∈ t, r.length = n ∧ ∀ x ∈ r, 0 ≤ x ∧ x < p
theorem restD_of {p : Int} {d : PyData} (h : restD p d = true) : 0 ≤ intD d ∧ intD d < p := by
  cases d <;> simp_all [restD, intD]
theorem rowIn_fit {p : Int} {n : Nat} {d : PyData} {r : Row} (h : rowIn p n d = some r) : r.length = n ∧ ∀ x ∈ r, 0 ≤ x ∧ x < p := by
  unfold rowIn at h
  split at h
  · rename_i c
    simp only [Bool.and_eq_true, decide_eq_true_eq, List.all_eq_true] at c
    cases h
    refine ⟨by rw [List.length_map]; exact c.1.2, fun x hx => ?_⟩
    obtain ⟨d2, h1, rfl⟩ := List.mem_map.mp hx
    exact restD_of (c.2 d2 h1)
  · cases h
theorem tableIn_fit {p : Int} {d : PyData} {t : Tab} (h : tableIn p d = some t) : t.length ≤ 6 ∧ Fit p t.length t := by
  unfold tableIn at h
  split at h
  · rename_i c
    simp only [Bool.and_eq_true, decide_eq_true_eq] at c
    split at h
    · cases h
    · rename_i c2
      cases h
      have hl : ((List.map (rowIn p (seqD d).length) (seqD d)).map (·.getD [])).length = (seqD d).length := by simp
      rw [hl]
      refine ⟨c.2, fun r hr => ?_⟩
      obtain ⟨o, ho, rfl⟩ := List.mem_map.mp hr
      obtain ⟨d2, h2, rfl⟩ := List.mem_map.mp ho
      cases e : rowIn p (seqD d).length d2 with
      | none =>
        refine absurd ?_ c2
        rw [List.any_eq_true]
        exact ⟨_, ho, by rw [e]; rfl⟩
      | some r => exact rowIn_fit e
  · cases h
def rightIn (p : Int) (d : PyData) : Option Tab :=
  match tableIn p d with
  | some t => if turned t = t then some t else none
  | none => none
end RK

set_option Elab.async false
set_option linter.all false
set_option maxRecDepth 100000
set_option maxHeartbeats 4000000
namespace RK
open PySem L2 Evl
def spHeadOf : Sp := fun vs H Q _ => ∃ (x : V) (r : Row), vs = [x] ∧ RowT H x r ∧ r.length ≤ 100 ∧ nz r = true ∧ RetV (.int (headOf r : Nat)) H Q
def natsV (l : List Nat) : List V := l.map fun n => V.int (n : Nat)
def spHeadsOf : Sp := fun vs H Q _ => ∃ (x : V) (t : Tab), vs = [x] ∧ TabL H x t ∧ t.length ≤ 100 ∧ (∀ r ∈ t, r.length ≤ 100 ∧ nz r = true) ∧ RetL (natsV (t.map headOf)) H Q
theorem at0_any {r : Row} (h : nz r = true) : ∃ i, i < r.length ∧ at0 r i ≠ 0 := by
  refine Classical.byContradiction fun c => ?_
  have : nz r = false := nz_false.mpr fun i hi => Classical.byContradiction fun z => c ⟨i, hi, z⟩
  rw [h] at this
  cases this
theorem head_pick {r : Row} (h : nz r = true) : (pick r.length (fun k => decide (at0 r k ≠ 0)) fun k => (k : Int))[0]? = some (headOf r : Int) := by
  obtain ⟨i, hi, hn⟩ := at0_any h
  unfold pick headOf
  cases q : (List.range r.length).filter fun k => decide (at0 r k ≠ 0) with
  | nil =>
    have := List.filter_eq_nil_iff.mp q i (List.mem_range.mpr hi)
    simp [hn] at this
  | cons a l => rfl
theorem ne_dec (a : Int) : (!decide (V.int a = V.int 0)) = decide (a ≠ 0) := by
  by_cases h : a = 0
  · subst h
    rfl
  · have : ¬ V.int a = V.int 0 := fun z => h (by injection z)
    simp [h]
section
variable {P : Program} {w : World} {K : PySem.W.Frag} {mg : Str → Option Value} {base : Heap}
theorem ok_headOf (B : Bt mg) (D : DefIn K mg "head_of" sHeadOf ["row"]) : Held P w K mg base CX0 1 "head_of" ["row"] spHeadOf := by
  refine D.held fun f fd F => F.ok scHeadOf (fun vs H Q E h => ?_) (fun cdv A outer s H vs Q E hr h => ?_)
  · obtain ⟨x, r, rfl, _⟩ := h
    rfl
  · obtain ⟨x, r, rfl, ⟨a, rfl, ha⟩, hz, hn, k⟩ := h
    refine ⟨_, pss_one (ps_ret (pe_ix (ix_listK (K := K)) (pe_lc (own := [("place", 1), ("number", 2)]) (g := gTup K 2 (gCons (gName 1) (gCons (gName 2) gNil))) rfl scHeadOf.nd (pi_enumK (K := K) (by rfl) B.enumerate (pa_cons (pv 0) pa_nil))
      (blkOk_by (N := nHeadOf) (sc := defScope sHeadOf) (by decide +kernel)) (fun _ _ _ _ _ => pg_tupK (K := K) rfl (pgs_cons (pg_name (i := 1) scHeadOf.nd rfl (Or.inl rfl)) (pgs_cons (pg_name (i := 2) scHeadOf.nd rfl (Or.inl rfl)) pgs_nil)))
      (fun _ _ _ _ _ => pts_one (pt_cmpR op_ne (pv 2) pe_int (nomark _))) (fun _ _ _ _ _ => pv 1)) pe_int (fun _ _ => rfl))), ?_⟩
    refine s_ret ?_ k
    intro H1 e Q1 q1
    refine (evlp_enumT (K := K) (a := a) lf_int (fun k => decide (at0 r k ≠ 0)) (fun k => (k : Int)) (eap_of (ea_cons (ev_var rfl) ea_nil) fun H1 e => ⟨rfl, e _ _ ha⟩) (by simp; omega) (fun _ _ => rfl)
      fun i y H1 e h1 => ⟨?_, fun _ => ?_⟩) H1 e _ fun p vs H2 n e2 hp p2 => ?_
    · obtain ⟨rfl, _⟩ := row_item h1
      exact et_is (et_test (ev_op (ev_var rfl) ev_c (rv_ne rfl))) (ne_dec _)
    · exact ev_p (ev_var rfl) fun _ _ => rfl
    · have e3 := paired_int p2
      refine ⟨p, vs, 0, _, rfl, rfl, sq_of hp, ?_, q1 H2 e2⟩
      rw [List.length_map] at e3
      rw [e3]
      exact atI_nat (j := 0) (by rw [List.getElem?_map, head_pick hn] <;> rfl)
theorem ok_headsOf (D : DefIn K mg "heads_of" sHeadsOf ["steps"]) (h1 : Held P w K mg base CX0 1 "head_of" ["row"] spHeadOf) : Held P w K mg base CX0 2 "heads_of" ["steps"] spHeadsOf := by
  obtain ⟨f1, fd1, g1, k1, b1, G1⟩ := h1
  refine D.held fun f fd F => F.ok scHeadsOf (fun vs H Q E h => ?_) (fun cdv A outer s H vs Q E hr h => ?_)
  · obtain ⟨x, t, rfl, _⟩ := h
    rfl
  · obtain ⟨x, t, rfl, ⟨a, ws, rfl, ha, hw⟩, hz, hn, k⟩ := h
    refine ⟨_, pss_one (ps_ret (pe_lc (own := [("row", 1)]) (g := gName 1) (tt := tYes) rfl scHeadsOf.nd (pi_listK (K := K) (pv 0))
      (blkOk_by (N := nHeadsOf) (sc := defScope sHeadsOf) (by decide +kernel)) (fun _ _ _ _ _ => pg_name (i := 1) scHeadsOf.nd rfl (Or.inl rfl)) (fun _ _ _ _ _ => pts_nil)
      (fun _ _ _ _ _ => pe_call G1 (hr.mono (by decide)) (by rfl) g1 k1 b1 .nil pass0 (pa_cons (pv 1) pa_nil)))), ?_⟩
    have hl := hw.length
    refine (evlp_list (K := K) (a := a) lf_int (fun _ => true) (fun i => (headOf (rowAt t i) : Int)) (ev_var rfl) ha (by omega) (fun _ => rfl) fun i x H1 e h1 => ⟨et_yes, fun _ => ?_⟩) H (Ex.refl H) _ fun p vs H2 n e2 hp p2 => ?_
    · obtain ⟨rx, hi⟩ := rows_item (rows_ex hw e) h1
      exact evp_call (PL := fun vs _ => vs = [x]) (eap_of (ea_cons (ev_var rfl) ea_nil) fun _ _ => rfl) (fun vs H2 e2 hv Q q => by
        subst hv
        have := hn _ (rowAt_mem hi)
        exact ⟨x, _, rfl, rx.ex e2, this.1, this.2, fun H3 e3 => q _ H3 e3 rfl⟩)
    · have e3 := paired_int p2
      refine k p H2 n e2 ?_
      rw [hp, e3, pick_map, hl, map_range_row t fun r => (headOf r : Int)]
      unfold natsV
      rw [List.map_map, List.map_map]
      rfl
end
end RK

set_option Elab.async false
set_option linter.all false
set_option maxRecDepth 100000
set_option maxHeartbeats 4000000
namespace RK
open PySem L2 Evl
def TabNew (H : Hp) (t : Tab) (Q : VK) : Prop := ∀ q vs H', H q = none → Ex H H' → H' q = some (.lst vs) → Paired (RowT H') vs t → Q (.ref q) H'
def spSteps : Sp := fun vs H Q _ => ∃ (p : Int) (x : V) (n : Nat) (t : Tab), vs = [.int p, x] ∧ TabA H x t ∧ t.length ≤ 40 ∧ n ≤ 40 ∧ Good p n t ∧ 2 ≤ p ∧ p ≤ 100 ∧ TabNew H (stepsP p (undP p) t) Q
theorem TabA.seq {H : Hp} {v : V} {t : Tab} (h : TabA H v t) : ∃ a vs, v = .ref a ∧ SeqAt2 H a vs ∧ Paired (RowT H) vs t := by
  rcases h with ⟨a, vs, e, h1, h2⟩ | ⟨a, vs, e, h1, h2⟩
  · exact ⟨a, vs, e, .inr h1, h2⟩
  · exact ⟨a, vs, e, .inl h1, h2⟩
theorem pick_filter (t : Tab) (f : Row → Bool) : pick t.length (fun i => f (rowAt t i)) (rowAt t) = t.filter f := by
  unfold pick
  have h := map_range_row t (fun r => r)
  have e : (List.range t.length).map (rowAt t) = t := by rw [h]; exact List.map_id t
  conv => rhs; rw [← e]
  rw [List.filter_map]
  rfl
theorem good_wide {p : Int} {n : Nat} {t : Tab} (g : Good p n t) : wide t ≤ n := by
  rcases wide_of g with e | e
  · rw [e]; exact Nat.zero_le _
  · omega
theorem turnP_good {p : Int} {n k : Nat} {inv : Int → Int} {s : Tab × Tab} (hp : 0 < p) (g1 : Good p n s.1) (g2 : Good p n s.2) : Good p n (turnP p inv k s).1 ∧ Good p n (turnP p inv k s).2 := by
  unfold turnP
  split
  · exact ⟨g1, g2⟩
  · rename_i h t e
    have hm : h ∈ s.1 := by
      have : h ∈ s.1.filter (fun r => decide (at0 r k ≠ 0)) := by rw [e]; exact List.mem_cons_self
      exact (List.mem_filter.mp this).1
    have gh : GoodR p n (scl p (inv (at0 h k)) h) := scl_good hp (g1 h hm).1
    refine ⟨fun r hr => ?_, fun r hr => ?_⟩
    · obtain ⟨r2, h2, rfl⟩ := List.mem_map.mp (List.mem_filter.mp hr).1
      exact sub1_good hp (g1 _ h2).1 gh.1
    · rcases List.mem_append.mp hr with hr | hr
      · obtain ⟨r2, h2, rfl⟩ := List.mem_map.mp hr
        exact sub1_good hp (g2 _ h2).1 gh.1
      · rw [List.mem_singleton.mp hr]
        exact gh
theorem runP_good {p : Int} {n : Nat} {inv : Int → Int} {t : Tab} (hp : 0 < p) (g : Good p n t) : ∀ k, Good p n (runP p inv t k).1 ∧ Good p n (runP p inv t k).2
  | 0 => ⟨g, fun r hr => by simp [runP] at hr⟩
  | k + 1 => by
    have h := runP_good (inv := inv) hp g k
    exact turnP_good hp h.1 h.2
theorem turnP_len {p : Int} {k : Nat} {inv : Int → Int} {s : Tab × Tab} : (turnP p inv k s).1.length ≤ s.1.length ∧ (turnP p inv k s).2.length ≤ s.2.length + 1 := by
  unfold turnP
  split
  · exact ⟨Nat.le_refl _, Nat.le_succ _⟩
  · refine ⟨?_, by simp⟩
    refine Nat.le_trans (List.length_filter_le _ _) ?_
    simp
theorem runP_len {p : Int} {inv : Int → Int} {t : Tab} : ∀ k, (runP p inv t k).1.length ≤ t.length ∧ (runP p inv t k).2.length ≤ k
  | 0 => ⟨Nat.le_refl _, by simp [runP]⟩
  | k + 1 => by
    have h := runP_len (p := p) (inv := inv) (t := t) k
    have h2 := turnP_len (p := p) (k := k) (inv := inv) (s := runP p inv t k)
    exact ⟨by show (turnP p inv k (runP p inv t k)).1.length ≤ _; omega, by show (turnP p inv k (runP p inv t k)).2.length ≤ _; omega⟩
theorem good_bd {p : Int} {n : Nat} {r : Row} (hp : 0 < p) (hp2 : p ≤ 100) (g : GoodR p n r) (k : Nat) : -1000 < at0 r k ∧ at0 r k < 1000 := by
  have := g.at hp k
  omega
/-- a row that is known in a sequence, its length -/
theorem rv_ixSeq {K : PySem.W.Frag} {H : Hp} {a : Addr} {xs : List V} {i : Nat} {v : V} (h : SeqAt2 H a xs) (ha : xs[i]? = some v) : RV (rIx K) (.ref a) (.int (i : Int)) H v := fun H1 e Q q => by
  rcases h with h | h
  · exact .inl ⟨a, xs, i, v, rfl, rfl, sq_of (e _ _ h), atI_nat ha, q H1 (Ex.refl H1)⟩
  · exact .inr (.inl ⟨a, xs, i, v, rfl, rfl, st_of (e _ _ h), atI_nat ha, q H1 (Ex.refl H1)⟩)
theorem RowT.seq {H : Hp} {v : V} {r : Row} (h : RowT H v r) : ∃ a, v = .ref a ∧ SeqAt2 H a (r.map V.int) := by
  obtain ⟨a, e, h⟩ := h
  exact ⟨a, e, .inr h⟩
/-- a new list + [a value] -/
theorem evlp_cat {σ : L2.St} {H : Hp} {ta tb : TE} {β : Type} {R : Hp → V → β → Prop} (lf : LF R) {bs : List β} {v : V} {b : β} (h : EvLP ta σ H (fun vs H2 => Paired (R H2) vs bs)) (hz : bs.length ≤ 40000) (hb : ∀ H1, Ex H H1 → EvL tb σ H1 [v]) (hv : R H v b) :
    EvLP (tOp rCat ta tb) σ H (fun vs H2 => Paired (R H2) vs (bs ++ [b])) := fun H1 e Q q => h H1 e _ fun p vs H2 n2 e2 hp pw => hb H2 (e.trans e2) H2 (Ex.refl H2) _ fun p2 H3 n3 e3 hp3 =>
  ⟨p, p2, vs, [v], rfl, rfl, e3 _ _ hp, hp3, by
    have := pw.length
    show vs.length + 1 ≤ sizeLine
    exact Nat.le_trans (by omega : vs.length + 1 ≤ 100000) (by decide), fun l hl => q l _ _ (fresh_back (e2.trans e3) hl) ((e2.trans e3).trans (Ex.new hl)) upd_same
      (Paired.snoc (lf_paired lf (e3.trans (Ex.new hl)) pw) (lf.ex _ _ _ _ (((e.trans e2).trans e3).trans (Ex.new hl)) hv))⟩
theorem powR_rng {p n : Int} (hp : 1 < p) : ∀ m, 0 ≤ powR p n m ∧ powR p n m < p
  | 0 => by
    unfold powR
    omega
  | m + 1 => by
    unfold powR
    exact ⟨Int.emod_nonneg _ (by omega), Int.emod_lt_of_pos _ (by omega)⟩
section
variable {P : Program} {w : World} {K : PySem.W.Frag} {mg : Str → Option Value} {base : Heap}
theorem ok_stepsOf (B : Bt mg) (D : DefIn K mg "steps_of" sStepsOf ["prime", "rows"]) (h1 : Held P w K mg base CX0 1 "scaled_of" ["prime", "row", "rest"] spScaled) (h2 : Held P w K mg base CX0 2 "undone_of" ["prime", "rest"] spUndone)
    (h3 : Held P w K mg base CX0 2 "without" ["prime", "row", "head", "place"] spWithout) : Held P w K mg base CX0 3 "steps_of" ["prime", "rows"] spSteps := by
  obtain ⟨f1, fd1, g1, k1, b1, G1⟩ := h1
  obtain ⟨f2, fd2, g2, k2, b2, G2⟩ := h2
  obtain ⟨f3, fd3, g3, k3, b3, G3⟩ := h3
  refine D.held fun f fd F => F.ok scStepsOf (fun vs H Q E h => ?_) (fun cdv A outer s H vs Q E hr h => ?_)
  · obtain ⟨p, x, n, t, rfl, _⟩ := h
    rfl
  · obtain ⟨p, x, n, t, rfl, hx, hz, hn, g, hp, hp2, k⟩ := h
    obtain ⟨a, ws, rfl, ha, hw⟩ := hx.seq
    refine ⟨_, pss_cons (ps_par (i := 2) (j := 3) rfl scStepsOf.nd rfl rfl (by decide) rfl rfl (pa_cons (pe_callTy (callListK (K := K)) (by rfl) B.list (by decide +kernel) (pa_cons (pv 1) pa_nil)) (pa_cons (pe_lst pa_nil) pa_nil)) (by rfl))
      (pss_cons (ps_for PassesOwn.never rfl (pi_range1 (by rfl) B.range (pa_cons (pe_ifExp (pt_cmpR op_gt (pe_callB (callLenK (K := K)) (by rfl) B.len PySem.boot_len (pa_cons (pv 1) pa_nil)) pe_int (nomark _))
          (pe_callB (callLenK (K := K)) (by rfl) B.len PySem.boot_len (pa_cons (pe_ix (ix_seqK (K := K)) (pv 1) pe_int (fun _ _ => rfl)) pa_nil)) pe_int) pa_nil)) (pg_name (i := 4) scStepsOf.nd rfl (Or.inr rfl))
        (pss_cons (ps_setLc (i := 5) (own := [("row", 6)]) (g := gName 6) rfl scStepsOf.nd rfl rfl (by rfl) (pi_listK (K := K) (pv 2)) (blkOk_by (N := nStepsOf) (sc := defScope sStepsOf) (by decide +kernel)) (fun _ _ _ _ _ => pg_name (i := 6) scStepsOf.nd rfl (Or.inl rfl))
          (fun _ _ _ _ _ => pts_one (pt_cmpR op_ne (pe_ix (ix_tupK (K := K)) (pv 6) (pv 4) (fun _ _ => rfl)) pe_int (nomark _))) (fun _ _ _ _ _ => pv 6))
        (pss_one (ps_if (pt_cmpR (op_neD hr.units) (pv 5) (pe_lst pa_nil) (nomark _))
          (pss_cons (ps_asg (pe_call G1 (hr.mono (by decide)) (by rfl) g1 k1 b1 .nil pass0 (pa_cons (pv 0) (pa_cons (pe_ix (ix_listK (K := K)) (pv 5) pe_int (fun _ _ => rfl)) (pa_cons (pe_call G2 (hr.mono (by decide)) (by rfl) g2 k2 b2 .nil pass0
              (pa_cons (pv 0) (pa_cons (pe_ix (ix_tupK (K := K)) (pe_ix (ix_listK (K := K)) (pv 5) pe_int (fun _ _ => rfl)) (pv 4) (fun _ _ => rfl)) pa_nil))) pa_nil)))) (pg_name (i := 7) scStepsOf.nd rfl (Or.inr rfl)))
          (pss_cons (ps_setLc (i := 8) (own := [("row", 6)]) (g := gName 6) (tt := tYes) rfl scStepsOf.nd rfl rfl (by rfl) (pi_listK (K := K) (pv 2)) (blkOk_by (N := nStepsOf) (sc := defScope sStepsOf) (by decide +kernel)) (fun _ _ _ _ _ => pg_name (i := 6) scStepsOf.nd rfl (Or.inl rfl))
            (fun _ _ _ _ _ => pts_nil) (fun _ _ _ _ _ => pe_call G3 (hr.mono (by decide)) (by rfl) g3 k3 b3 .nil pass0 (pa_cons (pv 0) (pa_cons (pv 6) (pa_cons (pv 7) (pa_cons (pv 4) pa_nil))))))
          (pss_cons (ps_setLc (i := 2) (own := [("row", 6)]) (g := gName 6) rfl scStepsOf.nd rfl rfl (by rfl) (pi_listK (K := K) (pv 8)) (blkOk_by (N := nStepsOf) (sc := defScope sStepsOf) (by decide +kernel)) (fun _ _ _ _ _ => pg_name (i := 6) scStepsOf.nd rfl (Or.inl rfl))
            (fun _ _ _ _ _ => pts_one (pt_val (pe_callB (callAnyT (K := K) rfl) (by rfl) B.any (by decide +kernel) (pa_cons (pv 6) pa_nil)))) (fun _ _ _ _ _ => pv 6))
          (pss_one (ps_set (i := 3) scStepsOf.nd rfl (Or.inl rfl) (pe_op op_cat (pe_lc (own := [("row", 6)]) (g := gName 6) (tt := tYes) rfl scStepsOf.nd (pi_listK (K := K) (pv 3)) (blkOk_by (N := nStepsOf) (sc := defScope sStepsOf) (by decide +kernel)) (fun _ _ _ _ _ => pg_name (i := 6) scStepsOf.nd rfl (Or.inl rfl))
            (fun _ _ _ _ _ => pts_nil) (fun _ _ _ _ _ => pe_call G3 (hr.mono (by decide)) (by rfl) g3 k3 b3 .nil pass0 (pa_cons (pv 0) (pa_cons (pv 6) (pa_cons (pv 7) (pa_cons (pv 4) pa_nil))))))
            (pe_lst (pa_cons (pv 7) pa_nil))))))))
          pss_nil))))
      (pss_one (ps_ret (pv 3)))), ?_⟩
    have hwl := hw.length
    refine ⟨_, rfl, a, ws, rfl, ha.elim (fun z => .inl (sq_of z)) (fun z => .inr (st_of z)), fun L hL => ⟨by decide, fun Fa hF => ⟨_, _, rfl, ?_⟩⟩⟩
    have eF : Ex H (upd (upd H L (.lst ws)) Fa (.lst [])) := (Ex.new hL).trans (Ex.new hF)
    have hFn : H Fa = none := fresh_back (Ex.new hL) hF
    have hLF : L ≠ Fa := fun z => by rw [z, upd_same] at hF; cases hF
    have gw := good_wide g
    dsimp only
    refine q_forR1 (n := (wide t : Nat)) (ea_cons ?_ ea_nil) (by omega) (fun i σ' H' => ∃ (L F : Addr) (ls fs : List V) (u4 u5 u6 u7 u8 : Option V), σ' = [some (.int p), some (.ref a), some (.ref L), some (.ref F), u4, u5, u6, u7, u8] ∧ Ex H H' ∧ H F = none ∧
        H' L = some (.lst ls) ∧ Paired (RowT H') ls (runP p (undP p) t i).1 ∧ H' F = some (.lst fs) ∧ Paired (RowT H') fs (runP p (undP p) t i).2) (fun H1 e => ?_) ?_ ?_
    · refine ev_if (b := decide ((ws.length : Int) > 0)) (et_test (ev_op (ev_lenS (K := K) (ev_var rfl) (ha.ex eF)) ev_c rv_I0)) (fun c => ?_) (fun c => ?_)
      · have c' : (ws.length : Int) > 0 := of_decide_eq_true c
        obtain ⟨x0, hx0, r0⟩ := rows_at hw (i := 0) (by omega)
        obtain ⟨a0, rfl, s0⟩ := r0.seq
        have e0 : wide t = (rowAt t 0).length := by
          cases t with
          | nil =>
            have : ws.length = 0 := hwl
            omega
          | cons r l => rfl
        rw [e0]
        exact ev_is (ev_lenS (K := K) (ev_op (ev_var rfl) ev_c (rv_ixSeq (i := 0) (ha.ex eF) hx0)) (s0.ex eF)) (by simp)
      · have c' : ¬ (ws.length : Int) > 0 := of_decide_eq_false c
        have e0 : t = [] := List.eq_nil_of_length_eq_zero (by omega)
        rw [e0]
        exact ev_c
    · refine ⟨L, Fa, ws, [], none, none, none, none, none, rfl, eF.trans e, hFn, e _ _ ?_, rows_ex hw (eF.trans e), e _ _ upd_same, .nil⟩
      rw [upd_ne hLF, upd_same]
    · rintro i σ' H' hi ⟨L, F, ls, fs, u4, u5, u6, u7, u8, rfl, eH, nF, hL, pL, hF, pF⟩
      have gg := runP_good (inv := undP p) (by omega) g i
      have ll := runP_len (p := p) (inv := undP p) (t := t) i
      have hin : i < n := by omega
      have step : runP p (undP p) t (i + 1) = turnP p (undP p) i (runP p (undP p) t i) := rfl
      rw [step]
      generalize runP p (undP p) t i = S at pL pF gg ll
      obtain ⟨S1, S2⟩ := S
      have pLl := pL.length
      have pFl := pF.length
      simp only at pL pF gg ll pLl pFl
      refine q_asgLP (i := 5) (PL := fun vs H2 => Paired (RowT H2) vs (S1.filter fun r => decide (at0 r i ≠ 0))) ((evlp_list (K := K) (a := L) lf_row (fun j => decide (at0 (rowAt S1 j) i ≠ 0)) (rowAt S1) (ev_var rfl) hL (by omega) (fun _ => rfl) fun j x H1 e1 h => ?_).imp fun vs H1 _ q => ?_) fun hd vs H1 nhd e1 hhd pw => ?_
      · obtain ⟨rx, hj⟩ := rows_item (rows_ex pL e1) h
        obtain ⟨ax, rfl, hax⟩ := id rx
        refine ⟨et_is (et_test (ev_op (ev_op (ev_var rfl) (ev_var rfl) (rv_ixT (st_of hax) (atI_nat (row_at (by rw [(gg.1 _ (rowAt_mem hj)).1]; exact hin))))) ev_c (rv_ne rfl))) (ne_dec _), fun _ => ev_p (ev_var rfl) fun H2 e2 => rx.ex e2⟩
      · rw [pLl] at q
        have := pick_filter S1 (fun r => decide (at0 r i ≠ 0))
        rw [this] at q
        exact q
      · refine s_when (b := !decide ((S1.filter fun r => decide (at0 r i ≠ 0)) = [])) (et_test (ev_opL (ev_var rfl) (el_lst ea_nil (by decide)) fun q H2 hq e2 => rv_neNil ⟨hd, vs, rfl, e2 _ _ hhd, rows_ex pw e2⟩ ⟨q, [], rfl, hq, .nil⟩)) (fun c H2 e2 => ?_) (fun c H2 e2 => ?_)
        · cases hf : S1.filter fun r => decide (at0 r i ≠ 0) with
          | nil =>
            rw [hf] at c
            simp at c
          | cons h0 tl =>
            have hm : h0 ∈ S1 := by
              have : h0 ∈ S1.filter fun r => decide (at0 r i ≠ 0) := by rw [hf]; exact List.mem_cons_self
              exact (List.mem_filter.mp this).1
            have gh0 := gg.1 h0 hm
            have gb := gh0.at (by omega) i
            rw [hf] at pw
            obtain ⟨x0, hx0, r0⟩ := paired_get2 pw (i := 0) (y := h0) rfl
            obtain ⟨a0, rfl, ha0⟩ := id r0
            have gs : GoodR p n (scl p (undP p (at0 h0 i)) h0) := scl_good (by omega) gh0.1
            have ub : -1000 ≤ undP p (at0 h0 i) ∧ undP p (at0 h0 i) ≤ 1000 := by
              have := powR_rng (p := p) (n := at0 h0 i) (by omega) (p - 2).toNat
              unfold undP
              omega
            have ix0 : ∀ σ : L2.St, σ[5]? = some (some (.ref hd)) → Ev (tOp (rIxL K) (tVar 5) (tC (.int 0))) σ H2 (.ref a0) := fun σ hσ => ev_op (ev_var hσ) ev_c (rv_ixL (sq_of (e2 _ _ hhd)) (atI_nat (j := 0) hx0))
            refine q_asgP (i := 7) (P := fun v H3 => RowT H3 v (scl p (undP p (at0 h0 i)) h0)) (evp_call (PL := fun vs _ => vs = [.int p, .ref a0, .int (undP p (at0 h0 i))]) (eap_of (ea_cons (ev_var rfl) (ea_cons (ix0 _ rfl) (ea_cons
                (ev_call (vs := [.int p, .int (at0 h0 i)]) (ea_cons (ev_var rfl) (ea_cons (ev_op (ix0 _ rfl) (ev_var rfl) (rv_ixT (st_of (e2 _ _ ha0)) (atI_nat (row_at (by rw [gh0.1]; exact hin))))) ea_nil)) (fun H3 e3 Q q E => ⟨p, at0 h0 i, rfl, hp, hp2, gb.1, by omega, q⟩)) ea_nil))) fun _ _ => rfl)
                (fun vs H3 e3 hv Q q => ?_)) fun u7 H3 e3 r7 => ?_
            · subst hv
              exact ⟨p, undP p (at0 h0 i), .ref a0, h0, rfl, r0.ex (e2.trans e3), by rw [gh0.1]; omega, by omega, ub.1, ub.2, fun v H4 e4 r => q v H4 e4 r⟩
            · generalize hsc : scl p (undP p (at0 h0 i)) h0 = hs at r7 gs
              have less : ∀ (T : Tab) (ts : List V) (q : Addr) (j : Nat) (σs : L2.St) (H4 : Hp), True := fun _ _ _ _ _ _ => trivial
              refine q_asgLP (i := 8) (PL := fun vs H4 => Paired (RowT H4) vs (S1.map fun r => sub1 p (at0 r i) r hs)) ((evlp_list (K := K) (a := L) lf_row (fun _ => true) (fun j => sub1 p (at0 (rowAt S1 j) i) (rowAt S1 j) hs) (ev_var rfl) (e3 _ _ (e2 _ _ (e1 _ _ hL))) (by omega) (fun _ => rfl) fun j x H4 e4 h => ⟨et_yes, fun _ => ?_⟩).imp fun vs H4 _ q => ?_) fun md vs2 H4 nmd e4 hmd pm => ?_
              · obtain ⟨rx, hj⟩ := rows_item (rows_ex pL (((e1.trans e2).trans e3).trans e4)) h
                have gj := gg.1 _ (rowAt_mem hj)
                have bj := good_bd (by omega) hp2 gj i
                refine evp_call (PL := fun vs _ => vs = [.int p, x, u7, .int (i : Int)]) (eap_of (ea_cons (ev_var rfl) (ea_cons (ev_var rfl) (ea_cons (ev_var rfl) (ea_cons (ev_var rfl) ea_nil)))) fun _ _ => rfl) fun vs H5 e5 hv Q q => ?_
                subst hv
                exact ⟨p, i, x, u7, _, hs, rfl, rx.ex e5, r7.ex (e4.trans e5), by rw [gj.1, gs.1], by rw [gj.1]; omega, by rw [gj.1]; exact hin, by omega, bj.1, bj.2, q⟩
              · rw [pick_map, pLl] at q
                rw [map_range_row S1 fun r => sub1 p (at0 r i) r hs] at q
                exact q
              · have pml := pm.length
                rw [List.length_map] at pml
                refine q_asgLP (i := 2) (PL := fun vs H5 => Paired (RowT H5) vs ((S1.map fun r => sub1 p (at0 r i) r hs).filter nz)) ((evlp_list (K := K) (a := md) lf_row (fun j => nz (rowAt (S1.map fun r => sub1 p (at0 r i) r hs) j)) (rowAt (S1.map fun r => sub1 p (at0 r i) r hs)) (ev_var rfl) hmd (by omega) (fun _ => rfl) fun j x H5 e5 h => ?_).imp fun vs H5 _ q => ?_) fun lf vs3 H5 nlf e5 hlf plf => ?_
                · obtain ⟨rx, hj⟩ := rows_item (rows_ex pm e5) h
                  refine ⟨et_B ?_, fun _ => ev_p (ev_var rfl) fun H6 e6 => rx.ex e6⟩
                  obtain ⟨ax, rfl, hax⟩ := rx
                  intro H6 e6 Q q
                  exact ⟨_, rfl, ax, _, rfl, st_of (e6 _ _ hax), q H6 (Ex.refl H6)⟩
                · have e9 := pick_filter (S1.map fun r => sub1 p (at0 r i) r hs) nz
                  rw [List.length_map] at e9
                  rw [pml, e9] at q
                  exact q
                · refine s_asgLP (i := 3) (PL := fun vs H6 => Paired (RowT H6) vs ((S2.map fun r => sub1 p (at0 r i) r hs) ++ [hs])) (evlp_cat lf_row (v := u7) ((evlp_list (K := K) (a := F) lf_row (fun _ => true) (fun j => sub1 p (at0 (rowAt S2 j) i) (rowAt S2 j) hs) (ev_var rfl) (e5 _ _ (e4 _ _ (e3 _ _ (e2 _ _ (e1 _ _ hF))))) (by omega) (fun _ => rfl) fun j x H6 e6 h => ⟨et_yes, fun _ => ?_⟩).imp fun vs H6 _ q => ?_) (by simp; omega) (fun H6 e6 => el_lst (ea_cons (ev_var rfl) ea_nil) (by show (1:Nat) ≤ 100000; decide)) (r7.ex (e4.trans e5))) fun fd2 vs4 H6 nfd e6 hfd pfd => ?_
                  · obtain ⟨rx, hj⟩ := rows_item (rows_ex pF (((((e1.trans e2).trans e3).trans e4).trans e5).trans e6)) h
                    have gj := gg.2 _ (rowAt_mem hj)
                    have bj := good_bd (by omega) hp2 gj i
                    refine evp_call (PL := fun vs _ => vs = [.int p, x, u7, .int (i : Int)]) (eap_of (ea_cons (ev_var rfl) (ea_cons (ev_var rfl) (ea_cons (ev_var rfl) (ea_cons (ev_var rfl) ea_nil)))) fun _ _ => rfl) fun vs H7 e7 hv Q q => ?_
                    subst hv
                    exact ⟨p, i, x, u7, _, hs, rfl, rx.ex e7, r7.ex (((e4.trans e5).trans e6).trans e7), by rw [gj.1, gs.1], by rw [gj.1]; omega, by rw [gj.1]; exact hin, by omega, bj.1, bj.2, q⟩
                  · rw [pick_map, pFl] at q
                    rw [map_range_row S2 fun r => sub1 p (at0 r i) r hs] at q
                    exact q
                  · have et : turnP p (undP p) i (S1, S2) = ((S1.map fun r => sub1 p (at0 r i) r hs).filter nz, (S2.map fun r => sub1 p (at0 r i) r hs) ++ [hs]) := by
                      unfold turnP
                      simp only [hf]
                      rw [hsc]
                    rw [et]
                    have e06 : Ex H' H6 := ((((e1.trans e2).trans e3).trans e4).trans e5).trans e6
                    have e05 : Ex H' H5 := (((e1.trans e2).trans e3).trans e4).trans e5
                    exact ⟨lf, fd2, vs3, vs4, _, _, _, _, _, rfl, eH.trans e06, fresh_back (eH.trans e05) nfd, e6 _ _ hlf, rows_ex plf e6, hfd, pfd⟩
        · have c' : (S1.filter fun r => decide (at0 r i ≠ 0)) = [] := by simpa using c
          have et : turnP p (undP p) i (S1, S2) = (S1, S2) := by
            unfold turnP
            simp only [c']
          rw [et]
          exact ⟨L, F, ls, fs, _, _, _, _, _, rfl, eH.trans (e1.trans e2), nF, e2 _ _ (e1 _ _ hL), rows_ex pL (e1.trans e2), e2 _ _ (e1 _ _ hF), rows_ex pF (e1.trans e2)⟩
    · rintro σ' H' ⟨L, F, ls, fs, u4, u5, u6, u7, u8, rfl, eH, nF, hL, pL, hF, pF⟩
      rw [Int.toNat_natCast] at pF
      exact ⟨_, rfl, k F fs H' nF eH hF pF⟩
end
end RK

set_option Elab.async false
set_option linter.all false
set_option maxRecDepth 100000
set_option maxHeartbeats 4000000
namespace RK
open PySem L2 Evl
theorem steps_eqN {p : Int} {n : Nat} {inv : Int → Int} {rows : Tab} (hp : 1 < p) (hi : InvOk p inv) (g : Good p n rows) : stepsP p inv rows = stepsL p inv rows := by
  rcases wide_of g with e | e
  · rw [e] <;> rfl
  · refine steps_eq hp hi ?_
    rw [e]
    exact g
theorem steps_inP {p : Int} {n : Nat} {inv : Int → Int} {rows : Tab} (hp : 1 < p) (hi : InvOk p inv) (g : Good p n rows) : InSteps p n (stepsP p inv rows) := by
  rw [steps_eqN hp hi g]
  exact steps_in hp hi g (wide_of g)
theorem InSteps.nz {p : Int} {n : Nat} {S : Tab} (h : InSteps p n S) : ∀ r ∈ S, nz r = true := fun r hr => by
  have l := h.lead r hr
  exact nz_of (i := headOf r) (by rw [l.2.1]; decide)
theorem unitRow_set {n f : Nat} (h : f < n) : unitRow n f = (List.replicate n (0 : Int)).set f 1 := by
  refine row_ext (by simp [unitRow]) fun i hi => ?_
  have hi' : i < n := by simpa [unitRow] using hi
  rw [at0_set (by simpa using h), unit_at hi']
  by_cases c : f = i
  · rw [if_pos c, if_pos c]
  · rw [if_neg c, if_neg c, at0_get (by simpa using hi')]
    simp
theorem eqV_int (a b : Int) : eqV (.int a) (.int b) = decide (a = b) := by
  first
    | rfl
    | (show (a == b) = _; by_cases h : a = b <;> simp [h])
theorem inV_nats (i : Nat) : ∀ hs : List Nat, inV (.int (i : Int)) (natsV hs) = decide (i ∈ hs)
  | [] => by simp [inV, natsV]
  | h :: hs => by
    have ih := inV_nats i hs
    unfold inV natsV at *
    rw [List.map_cons, List.any_cons, ih, eqV_int]
    by_cases c : i = h
    · subst c
      simp
    · have c2 : ¬ ((h : Nat) : Int) = (i : Int) := fun z => c (by omega)
      simp [c, c2]
theorem flat_nats (hs : List Nat) : (natsV hs).all flatV = true := by
  rw [List.all_eq_true]
  intro v hv
  obtain ⟨h, _, rfl⟩ := List.mem_map.mp hv
  rfl
theorem natsV_get {hs : List Nat} {i : Nat} {x : V} (h : (natsV hs)[i]? = some x) : ∃ a, hs[i]? = some a ∧ x = .int (a : Nat) := by
  unfold natsV at h
  rw [List.getElem?_map] at h
  obtain ⟨a, h1, h2⟩ := Option.map_eq_some_iff.mp h
  exact ⟨a, h1, h2.symm⟩
theorem EvLP.ints {te : TE} {σ : L2.St} {H : Hp} {bs : List Int} (h : EvLP te σ H (fun vs H2 => Paired (RI H2) vs bs)) : EvL te σ H (bs.map V.int) := fun H1 e Q q => h H1 e Q fun p vs H2 n e2 hp pw => q p H2 n e2 (by rw [hp, paired_int pw])
theorem pick_frees (n : Nat) (hs : List Nat) : pick n (fun i => decide (i ∉ hs)) (fun i => (i : Int)) = (frees n hs).map fun (i : Nat) => (i : Int) := rfl
theorem frees_lt {n : Nat} {hs : List Nat} {f : Nat} (h : f ∈ frees n hs) : f < n := List.mem_range.mp (List.mem_filter.mp h).1
theorem frees_len (n : Nat) (hs : List Nat) : (frees n hs).length ≤ n := by
  have h := List.length_filter_le (fun i => decide (i ∉ hs)) (List.range n)
  rw [List.length_range] at h
  exact h
theorem take_snoc {α : Type} {l : List α} {i : Nat} {x : α} (h : l[i]? = some x) : l.take (i + 1) = l.take i ++ [x] := by
  obtain ⟨hi, e⟩ := List.getElem?_eq_some_iff.mp h
  rw [List.take_succ, h] <;> rfl
theorem zip_get {α β : Type} {as : List α} {bs : List β} {i : Nat} {a : α} {b : β} (h1 : as[i]? = some a) (h2 : bs[i]? = some b) : (as.zip bs)[i]? = some (a, b) := by
  rw [List.getElem?_zip_eq_some]
  exact ⟨h1, h2⟩
def spZeros : Sp := fun vs H Q _ => ∃ (p : Int) (x : V) (n : Nat) (t : Tab), vs = [.int p, .int (n : Int), x] ∧ TabA H x t ∧ t.length ≤ 40 ∧ n ≤ 40 ∧ Good p n t ∧ 2 ≤ p ∧ p ≤ 100 ∧ InvOk p (undP p) ∧ TabNew H (stillP p (undP p) n t) Q
section
variable {P : Program} {w : World} {K : PySem.W.Frag} {mg : Str → Option Value} {base : Heap}
theorem ok_zerosOf (B : Bt mg) (D : DefIn K mg "zeros_of" sZerosOf ["prime", "size", "rows"]) (h1 : Held P w K mg base CX0 3 "steps_of" ["prime", "rows"] spSteps) (h2 : Held P w K mg base CX0 2 "heads_of" ["steps"] spHeadsOf)
    (h3 : Held P w K mg base CX0 1 "unit" ["size", "place"] spUnit) : Held P w K mg base CX0 4 "zeros_of" ["prime", "size", "rows"] spZeros := by
  obtain ⟨f1, fd1, g1, k1, b1, G1⟩ := h1
  obtain ⟨f2, fd2, g2, k2, b2, G2⟩ := h2
  obtain ⟨f3, fd3, g3, k3, b3, G3⟩ := h3
  refine D.held fun f fd F => F.ok scZerosOf (fun vs H Q E h => ?_) (fun cdv A outer s H vs Q E hr h => ?_)
  · obtain ⟨p, x, n, t, rfl, _⟩ := h
    rfl
  · obtain ⟨p, x, n, t, rfl, hx, hz, hn, g, hp, hp2, hi, k⟩ := h
    refine ⟨_, pss_cons (ps_set (i := 3) scZerosOf.nd rfl (Or.inl rfl) (pe_call G1 (hr.mono (by decide)) (by rfl) g1 k1 b1 .nil pass0 (pa_cons (pv 0) (pa_cons (pv 2) pa_nil))))
      (pss_cons (ps_asg (g := gTup K 2 (gCons (gName 4) (gCons (gName 5) gNil))) (pe_tup (pa_cons (pe_call G2 (hr.mono (by decide)) (by rfl) g2 k2 b2 .nil pass0 (pa_cons (pv 3) pa_nil)) (pa_cons (pe_lst pa_nil) pa_nil))) (pg_tupK (K := K) rfl (pgs_cons (pg_name (i := 4) scZerosOf.nd rfl (Or.inr rfl)) (pgs_cons (pg_name (i := 5) scZerosOf.nd rfl (Or.inl rfl)) pgs_nil))))
      (pss_cons (ps_for PassesOwn.never rfl (pi_listK (K := K) (pe_lc (own := [("at", 7)]) (g := gName 7) rfl scZerosOf.nd (pi_range1 (by rfl) B.range (pa_cons (pv 1) pa_nil)) (blkOk_by (N := nZerosOf) (sc := defScope sZerosOf) (by decide +kernel))
          (fun _ _ _ _ _ => pg_name (i := 7) scZerosOf.nd rfl (Or.inl rfl)) (fun _ _ _ _ _ => pts_one (pt_cmpR (op_notInK (K := K)) (pv 7) (pv 4) (by rfl))) (fun _ _ _ _ _ => pv 7))) (pg_name (i := 6) scZerosOf.nd rfl (Or.inl rfl))
        (pss_cons (ps_set (i := 8) scZerosOf.nd rfl (Or.inl rfl) (pe_callTy (callListK (K := K)) (by rfl) B.list (by decide +kernel) (pa_cons (pe_call G3 (hr.mono (by decide)) (by rfl) g3 k3 b3 .nil pass0 (pa_cons (pv 1) (pa_cons (pv 6) pa_nil))) pa_nil)))
        (pss_cons (ps_for (g := gTup K 2 (gCons (gName 9) (gCons (gName 10) gNil))) PassesOwn.never rfl (pi_zipK (K := K) (by rfl) B.zip (pa_cons (pv 4) (pa_cons (pv 3) pa_nil))) (pg_tupK (K := K) rfl (pgs_cons (pg_name (i := 9) scZerosOf.nd rfl (Or.inl rfl)) (pgs_cons (pg_name (i := 10) scZerosOf.nd rfl (Or.inl rfl)) pgs_nil)))
          (pss_one (ps_asg (pe_op op_mod (pe_op op_sub pe_int (pe_ix (ix_tupK (K := K)) (pv 10) (pv 6) (fun _ _ => rfl))) (pv 0)) (pg_sub (pv 8) (pv 9) set_list))))
        (pss_one (ps_expr (pe_bm PySem.F.plainAttrs_list PySem.F.slot_list_append PySem.F.type_list_append mt_append (pv 5) (pa_cons (pe_callTy (callTupK (K := K)) (by rfl) B.tuple (by decide +kernel) (pa_cons (pv 8) pa_nil)) pa_nil)))))))
      (pss_one (ps_ret (pe_call G1 (hr.mono (by decide)) (by rfl) g1 k1 b1 .nil pass0 (pa_cons (pv 0) (pa_cons (pv 5) pa_nil))))))), ?_⟩
    have iS := steps_inP (by omega) hi g
    have lS : (stepsP p (undP p) t).length ≤ n := Nat.le_trans (runP_len (wide t)).2 (good_wide g)
    have kk : TabNew H (stepsP p (undP p) (zerosOf p n (stepsP p (undP p) t))) Q := k
    refine q_asgLP (i := 3) (PL := fun vs H2 => Paired (RowT H2) vs (stepsP p (undP p) t)) (evlp_call (PL := fun vs _ => vs = [.int p, x]) (eap_of (ea_cons (ev_var rfl) (ea_cons (ev_var rfl) ea_nil)) fun _ _ => rfl) fun vs H1 e1 hv Q q => ?_) fun sd vs H1 nsd e1 hsd psd => ?_
    · subst hv
      exact ⟨p, x, n, t, rfl, hx.ex e1, hz, hn, g, hp, hp2, q⟩
    · generalize stepsP p (undP p) t = S at iS lS kk psd
      have lsd := psd.length
      dsimp only
      refine ⟨_, rfl, .ref sd, S, rfl, ⟨sd, vs, rfl, hsd, psd⟩, by omega, fun r hr => ⟨by rw [(iS.good r hr).1]; omega, iS.nz r hr⟩, fun hd H2 nhd e2 hhd => ⟨by decide, fun Fa nF => ⟨by show 2 ≤ sizeLine; decide, fun T nT => ⟨T, _, rfl, st_of upd_same, rfl, _, _, rfl, _, _, rfl, rfl, ?_⟩⟩⟩⟩
      generalize hH3 : upd (upd H2 Fa (.lst [])) T (.tup [.ref hd, .ref Fa]) = H3
      have e3 : Ex H2 H3 := by
        rw [← hH3]
        exact (Ex.new nF).trans (Ex.new nT)
      have hF3 : H3 Fa = some (.lst []) := by
        rw [← hH3, upd_ne (fun z => by rw [← z, upd_same] at nT; cases nT), upd_same]
      clear hH3 nT
      have hhd3 := e3 _ _ hhd
      have hsd3 := e3 _ _ (e2 _ _ hsd)
      have psd2 : Paired (RowT H2) vs S := rows_ex psd e2
      have nF0 : H Fa = none := fresh_back (e1.trans e2) nF
      dsimp only
      refine q_forNLn (xs := ((frees n (S.map headOf)).map fun (i : Nat) => (i : Int)).map V.int) (EvLP.ints ((evlp_rng (m := n) lf_int (fun i => decide (i ∉ S.map headOf)) (fun i => (i : Int)) (ea_cons (ev_var rfl) ea_nil) (by omega) (fun _ => rfl) fun i H4 e4 hi => ⟨?_, fun _ => ev_p (ev_var rfl) fun _ _ => rfl⟩).imp fun vs H4 _ q => q))
        (fun pl i σ' H' => ∃ (fs : List V) (u6 u7 u8 u9 u10 : Option V), σ' = [some (.int p), some (.int (n : Int)), some x, some (.ref sd), some (.ref hd), some (.ref Fa), u6, u7, u8, u9, u10] ∧ Ex H2 H' ∧ H' Fa = some (.lst fs) ∧
          H' pl = some (.lst (((frees n (S.map headOf)).map fun (i : Nat) => (i : Int)).map V.int)) ∧ pl ≠ Fa ∧ Paired (RowT H') fs (((frees n (S.map headOf)).take i).map (zeroRow p n (S.map headOf) S)))
        (fun pl H4 npl e4 hpl => ⟨[], none, none, none, none, none, rfl, e3.trans e4, e4 _ _ hF3, hpl, (fun z => by rw [z, hF3] at npl; cases npl), .nil⟩)
        (fun pl i σ' H' _ ⟨_, _, _, _, _, _, _, _, _, hpl, _, _⟩ => sq_of hpl) ?_ ?_
      · refine et_is (et_test (ev_op (ev_var rfl) (ev_var rfl) (rv_niL (sq_of (e4 _ _ hhd3)) rfl (flat_nats _)))) ?_
        rw [inV_nats]
        by_cases c : i ∈ S.map headOf <;> simp [c]
      · rintro pl i x' σ' H' hx' ⟨fs, u6, u7, u8, u9, u10, rfl, eH, hFa, hpl, nplF, pfs⟩
        obtain ⟨z, hz1, rfl⟩ : ∃ z : Nat, (frees n (S.map headOf))[i]? = some z ∧ x' = V.int (z : Int) := by
          rw [List.map_map, List.getElem?_map] at hx'
          obtain ⟨z, h1, h2⟩ := Option.map_eq_some_iff.mp hx'
          exact ⟨z, h1, h2.symm⟩
        have hfl := frees_lt (List.mem_of_getElem? hz1)
        have fl := frees_len n (S.map headOf)
        have hi2 := (List.getElem?_eq_some_iff.mp hz1).1
        have lfs := pfs.length
        rw [List.length_map, List.length_take] at lfs
        refine q_asgL (i := 8) (xs := (unitRow n z).map V.int) (fun H4 e4 Q q => ?_) fun R H4 nR e4 hR => ?_
        · refine ⟨_, rfl, _, rfl, n, z, rfl, by omega, fun u H5 e5 ⟨b, eb, hb⟩ => ⟨b, _, by rw [eb], .inr (st_of hb), fun l hl => q l _ (fresh_back e5 hl) (e5.trans (Ex.new hl)) upd_same⟩⟩
        · have neRF : R ≠ Fa := fun z => by rw [z, hFa] at nR; cases nR
          have neRp : R ≠ pl := fun z => by rw [z, hpl] at nR; cases nR
          -- the inner loop
          have hd4 := e4 _ _ (eH _ _ hhd)
          have sd4 := e4 _ _ (eH _ _ (e2 _ _ hsd))
          refine ⟨_, rfl, _, rfl, hd, sd, natsV (S.map headOf), vs, rfl, .inl ⟨sq_of hd4, sq_of sd4, ?_⟩⟩
          refine for_it (walk_zip (K := K) (a := hd) (b := sd) (xs := natsV (S.map headOf)) (ys := vs) (n := S.length) (by simp [natsV]; omega))
            (fun j σ2 H5 => ∃ u9 u10, σ2 = [some (.int p), some (.int (n : Int)), some x, some (.ref sd), some (.ref hd), some (.ref Fa), some (.int (z : Int)), u7, some (.ref R), u9, u10] ∧ Ex H' H5 ∧
              H5 R = some (.lst (((((S.map headOf).zip S).take j).foldl (fun r x => r.set x.1 ((0 - at0 x.2 z) % p)) ((List.replicate n 0).set z 1)).map V.int))) ⟨u9, u10, rfl, e4, by rw [hR, unitRow_set hfl]; rfl⟩ (fun j σ2 H5 _ ⟨_, _, _, e5, _⟩ => ⟨sq_of (e5 _ _ (eH _ _ hhd)), sq_of (e5 _ _ (eH _ _ (e2 _ _ hsd)))⟩) ?_ ?_
          · rintro j v σ2 H5 H6 hj ⟨v9, v10, rfl, e5, hR5⟩ ⟨T, x1, y1, rfl, nT, rfl, hx1, hy1⟩
            obtain ⟨h0, hh0, rfl⟩ := natsV_get hx1
            obtain ⟨ry, hjS⟩ := rows_item (rows_ex psd2 (eH.trans (e5.trans (Ex.new (o := .tup [.int (h0 : Nat), y1]) nT)))) hy1
            have gS := iS.good _ (rowAt_mem hjS)
            have hhlt : h0 < n := iS.lt h0 (List.mem_of_getElem? hh0)
            obtain ⟨ay, rfl, hay⟩ := ry
            have sg := (zeroFold (n := n) (f := z) (p := p) (by omega) (((S.map headOf).zip S).take j) _ (unit_good (by omega) n z)).1
            have neTR : R ≠ T := fun w => by rw [← w, hR5] at nT; cases nT
            refine ⟨T, [.int (h0 : Nat), .ref ay], rfl, st_of upd_same, rfl, _, _, rfl, _, _, rfl, rfl, ?_⟩
            have hR6 : (upd H5 T (.tup [.int (h0 : Nat), .ref ay])) R = _ := (upd_ne neTR).trans hR5
            refine s_setL (l := R) (j := h0) (v := .int ((0 - at0 (rowAt S j) z) % p)) hR6 (ev_op (ev_op ev_c (ev_op (ev_var rfl) (ev_var rfl) (rv_ixT (st_of hay) (atI_nat (row_at (by rw [gS.1]; exact hfl))))) rv_I0) (ev_var rfl) (rv_I (by omega))) (ev_var rfl) (ev_var rfl) (by rw [List.length_map, sg.1]; exact hhlt) fun H7 e7 => ?_
            refine ⟨_, _, rfl, Ex.mut ((e5.trans (Ex.new nT)).trans e7) nR, ?_⟩
            have eS : S[j]? = some (rowAt S j) := by rw [rowAt_get hjS]; exact List.getElem?_eq_getElem hjS
            rw [upd_same, take_snoc (zip_get hh0 eS), List.foldl_append, List.foldl_cons, List.foldl_nil, ← List.map_set]
          · rintro σ2 H5 ⟨v9, v10, rfl, e5, hR5⟩
            have eZ : ((((S.map headOf).zip S).take S.length).foldl (fun r x => r.set x.1 ((0 - at0 x.2 z) % p)) ((List.replicate n 0).set z 1)) = zeroRow p n (S.map headOf) S z := by
              unfold zeroRow
              rw [List.take_of_length_le (by simp)]
            rw [eZ] at hR5
            have e5b : Ex H' H5 := e5
            refine s_appU (l := Fa) (xs := fs) (ys := (zeroRow p n (S.map headOf) S z).map V.int) (e5 _ _ hFa) (ev_var rfl) (fun H6 e6 Q q => ?_) (by omega) fun u H6 nu e6 hu => ?_
            · exact ⟨_, rfl, R, _, rfl, .inl ⟨sq_of (e6 _ _ hR5), fun l hl => q l _ hl (Ex.new hl) upd_same⟩⟩
            · have nF2 : H2 Fa = none := nF
              have hF6 := e6 _ _ (e5 _ _ hFa)
              refine ⟨_, _, _, _, _, _, rfl, Ex.mut ((eH.trans e5).trans e6) nF2, upd_same, ?_, nplF, ?_⟩
              · rw [upd_ne nplF]
                exact e6 _ _ (e5 _ _ hpl)
              · rw [take_snoc hz1, List.map_append]
                refine Paired.snoc (Paired.mono (fun _ _ w => lf_row.lst _ _ _ _ _ _ hF6 (RowT.ex w (e5.trans e6))) pfs) ⟨u, rfl, ?_⟩
                rw [upd_ne (fun w => by rw [w, hF6] at hu; cases hu)]
                exact hu
      · rintro pl σ' H' ⟨fs, u6, u7, u8, u9, u10, rfl, eH, hFa, hpl, nplF, pfs⟩
        rw [List.length_map, List.length_map, List.take_length] at pfs
        have fl := frees_len n (S.map headOf)
        refine ⟨_, rfl, _, rfl, p, .ref Fa, n, zerosOf p n S, rfl, .inr ⟨Fa, fs, rfl, hFa, pfs⟩, by simp [zerosOf]; omega, hn, zerosOf_good (by omega) S, hp, hp2, fun q vs' H'' nq e hq pq => kk q vs' H'' (fresh_back ((e1.trans e2).trans eH) nq) (((e1.trans e2).trans eH).trans e) hq pq⟩
end
end RK

set_option Elab.async false
set_option linter.all false
set_option maxRecDepth 100000
set_option maxHeartbeats 4000000
namespace RK
open PySem L2 Evl
theorem upd_upd {H : Hp} {a : Addr} {o u : HO} : upd (upd H a o) a u = upd H a u := by
  funext b
  by_cases h : b = a
  · rw [h, upd_same, upd_same]
  · rw [upd_ne h, upd_ne h, upd_ne h]

/-! ### the error -/
structure BadC (K : PySem.W.Frag) (mg : Str → Option Value) (C : Addr) : Prop where
  gC : mg "InvalidRows" = some (.ref C)
  T : OexC K C
  noV : PySem.W.findIn K (.ref C) "value" = some none
  init : ∃ (fI : Addr) (fd : FuncData), PySem.W.findIn K (.ref C) "__init__" = some (some (.ref fI)) ∧ PySem.W.typeIn K (.ref fI) = some (.type "function") ∧ Fun K "__init__" "InvalidRows.__init__" sInvalidRowsInit fI fd ∧ L2.Binds K fd ["self", "value"] []
def spBadInit (K : PySem.W.Frag) (C : Addr) : Sp := fun vs H Q _ => ∃ (a : Addr) (v : V), vs = [.ref a, v] ∧ H a = some (exo a C none) ∧ ∀ dx, H dx = none → dx ≠ a → Q .non (upd (upd H dx (exd dx [(("value" : Str), v)])) a (exo a C (some dx)))
def spRight (C : Addr) : Sp := fun vs H Q E => ∃ (p : Int) (v : V) (d : PyData), vs = [.int p, v] ∧ Dt H v d ∧ 0 < p ∧ (∀ t, rightIn p d = some t → ∀ u H', Ex H H' → TabT H' u t → Q u H') ∧ (rightIn p d = none → ∀ dd H', Ex H H' → E (.ref C) (some dd) H')
theorem fit_sq {p : Int} {d : PyData} {t : Tab} (h : tableIn p d = some t) : ∀ r ∈ t, r.length = t.length := fun r hr => ((tableIn_fit h).2 r hr).1
section
variable {P : Program} {w : World} {K : PySem.W.Frag} {mg : Str → Option Value} {base : Heap} {C : Addr}
theorem ok_badInit (T : BadC K mg C) {fI : Addr} {fd : FuncData} (F : Fun K "__init__" "InvalidRows.__init__" sInvalidRowsInit fI fd) : FnOk P w K mg base CX0 1 fI fd ["self", "value"] (spBadInit K C) := by
  refine F.ok scInvalidRowsInit (fun vs H Q E h => ?_) (fun cdv A outer s H vs Q E hr h => ?_)
  · obtain ⟨a, v, rfl, _⟩ := h
    rfl
  · obtain ⟨a, v, rfl, ha, k⟩ := h
    refine ⟨_, pss_one (ps_ost (pv 0) (pv 1)), ?_⟩
    exact ⟨v, rfl, .ref a, rfl, a, C, rfl, T.T, T.noV, .inl ⟨ha, k⟩⟩
theorem ok_rightRows (T : BadC K mg C) (D : DefIn K mg "right_rows" sRightRows ["prime", "value"]) (h1 : Held P w K mg base CX0 4 "table_in" ["prime", "value"] spTableIn) (h2 : Held P w K mg base CX0 1 "turned_of" ["table"] spTurned) :
    Held P w K mg base (L2.CX P w) 5 "right_rows" ["prime", "value"] (spRight C) := by
  obtain ⟨f1, fd1, g1, k1, b1, G1⟩ := h1
  obtain ⟨f2, fd2, g2, k2, b2, G2⟩ := h2
  obtain ⟨fI, fdI, iC, tI, FI, bI⟩ := T.init
  have GI : FnOk P w K mg base CX0 1 fI fdI ["self", "value"] (spBadInit K C) := ok_badInit T FI
  refine D.held fun f fd F => F.okX scRightRows (fun vs H Q E h => ?_) (fun cdv A outer s H vs Q E hr h => ?_)
  · obtain ⟨p, v, d, rfl, _⟩ := h
    rfl
  · obtain ⟨p, v, d, rfl, hd, hp, k, kE⟩ := h
    refine ⟨_, pss_cons (ps_set (i := 2) scRightRows.nd rfl (Or.inl rfl) (pe_call G1 (hr.mono (by decide)) (by rfl) g1 k1 b1 .nil pass0 (pa_cons (pv 0) (pa_cons (pv 1) pa_nil))))
      (pss_cons (ps_if (pw_or (pt_cmpR op_isN (pv 2) pe_non (nomark _)) (pw_or1 (pt_cmpR (op_neD hr.units) (pe_call G2 (hr.mono (by decide)) (by rfl) g2 k2 b2 .nil pass0 (pa_cons (pv 2) pa_nil)) (pv 2) (by rfl)))).pt
        (pss_one (ps_raise rfl (takes_of rfl rfl rfl rfl) (pmk_oex T.T iC tI GI (hr.mono (by decide)) bI .nil pass0 (by rfl) T.gC (pa_cons (pv 1) pa_nil)))) pss_nil)
      (pss_one (ps_ret (pv 2)))), ?_⟩
    refine q_asgP (i := 2) (P := fun u H1 => OTab H1 u (tableIn p d)) (evp_call (PL := fun vs _ => vs = [.int p, v]) (eap_of (ea_cons (ev_var rfl) (ea_cons (ev_var rfl) ea_nil)) fun _ _ => rfl) fun vs H1 e1 hv Q q => by
      subst hv
      exact ⟨p, v, d, rfl, hd.ex e1, q⟩) fun u H1 e1 hu => ?_
    have bad : rightIn p d = none → tMkO C (spBadInit K C) [] (tCons (tVar 1) tNil) [some (.int p), some v, some u] H1 (fun cls d H' => E cls d H') := fun z =>
      ⟨v, rfl, by show 1 ≤ 1000; decide, fun a na => ⟨a, v, rfl, upd_same, fun dx nx ne => ⟨rfl, dx, [(("value" : Str), v)], upd_same, by rw [upd_ne ne]; exact upd_same, by rw [upd_ne ne] at nx; exact nx, kE z dx _ (e1.trans fun b o hb => by
        have ha : b ≠ a := fun w => by rw [w, na] at hb; cases hb
        have hx : b ≠ dx := fun w => by rw [← w, upd_ne ha, hb] at nx; cases nx
        rw [upd_ne hx, del_ne ha, upd_ne ha, upd_ne hx, upd_ne ha]
        exact hb)⟩⟩⟩
    cases ht : tableIn p d with
    | none =>
      rw [ht] at hu
      have hu' : u = .non := hu
      subst hu'
      have hr0 : rightIn p d = none := by unfold rightIn; rw [ht]
      exact ⟨_, rfl, rfl, true, rfl, bad hr0⟩
    | some t =>
      rw [ht] at hu
      obtain ⟨a, ws, rfl, ha, hw⟩ := id (show TabT H1 u t from hu)
      have fit := tableIn_fit ht
      refine q_when (b := (false || !decide (turned t = t))) (et_or (fun H2 e2 Q q => ⟨_, rfl, rfl, false, rfl, q H2 (Ex.refl H2)⟩) fun _ => fun H2 e2 Q q => ?_) (fun c H2 e2 => ?_) (fun c H2 e2 => ?_)
      · refine ⟨_, rfl, .ref a, t, rfl, TabT.ex hu e2, by omega, fit_sq ht, fun v3 H3 e3 r3 => ⟨_, rfl, ?_⟩⟩
        exact rv_neTab (K := K) r3 (TabT.ex hu (e2.trans e3)) H3 (Ex.refl H3) _ fun H4 e4 => ⟨_, rfl, q H4 (e3.trans e4)⟩
      · have c' : ¬ turned t = t := by simpa using c
        have hr0 : rightIn p d = none := by unfold rightIn; rw [ht]; exact if_neg c'
        have kE2 := bad hr0
        show tMkO C (spBadInit K C) [] (tCons (tVar 1) tNil) _ H2 _
        exact ⟨v, rfl, by show 1 ≤ 1000; decide, fun a na => ⟨a, v, rfl, upd_same, fun dx nx ne => ⟨rfl, dx, [(("value" : Str), v)], upd_same, by rw [upd_ne ne]; exact upd_same, by rw [upd_ne ne] at nx; exact nx, kE hr0 dx _ ((e1.trans e2).trans fun b o hb => by
          have ha : b ≠ a := fun w => by rw [w, na] at hb; cases hb
          have hx : b ≠ dx := fun w => by rw [← w, upd_ne ha, hb] at nx; cases nx
          rw [upd_ne hx, del_ne ha, upd_ne ha, upd_ne hx, upd_ne ha]
          exact hb)⟩⟩⟩
      · have c' : turned t = t := by simpa using c
        have hr0 : rightIn p d = some t := by unfold rightIn; rw [ht]; exact if_pos c'
        exact ⟨_, rfl, k t hr0 _ H2 (e1.trans e2) (TabT.ex hu e2)⟩
end
end RK

set_option Elab.async false
set_option linter.all false
set_option maxRecDepth 100000
set_option maxHeartbeats 4000000
namespace RK
open PySem L2 Evl
/-- what isinstance asks of an own class -/
structure InsR (K : PySem.W.Frag) (C : Addr) : Prop where
  cl : Cls K C
  ha : PySem.W.findIn K (.ref C) "__class__" = some (some (.builtin "object.__class__"))
  hn : PySem.W.specialIn K (.builtin "object.__class__") "__get__" = some (some (.builtin "getset_descriptor.__get__"))
  htk : PySem.W.takesIn K (.builtin "object.__class__") = some true
  hm : PySem.W.mroIn K C (.type "object") = some true
  me : PySem.W.kitOne K (.ref C) (.ref C) = some true
structure RoomC (K : PySem.W.Frag) (mg : Str → Option Value) (R : Addr) : Prop where
  gR : mg "Room" = some (.ref R)
  ins : InsR K R
  nP : NoAttr K R "own_prime"
  nR : NoAttr K R "own_rows"
  known : ∃ Kn : Addr, mg "Known" = some (.ref Kn) ∧ PySem.W.kitOne K (.type "int") (.ref Kn) = some false
  notR : ∀ T ∈ (["NoneType", "bool", "int", "str", "list", "tuple"] : List String), PySem.W.kitOne K (.type T) (.ref R) = some false
def roomF (p : Int) (x : V) : List (Str × V) := [(("own_prime" : Str), .int p), (("own_rows" : Str), x)]
/-- a room: its prime, its rows -/
def RoomI (R : Addr) (H : Hp) (v : V) (p : Int) (t : Tab) : Prop := ∃ (a dx : Addr) (x : V), v = .ref a ∧ H a = some (.ins R dx (roomF p x)) ∧ TabT H x t
theorem RoomI.ex {R : Addr} {H H' : Hp} {v : V} {p : Int} {t : Tab} (h : RoomI R H v p t) (e : Ex H H') : RoomI R H' v p t := by
  obtain ⟨a, dx, x, h1, h2, h3⟩ := h
  exact ⟨a, dx, x, h1, e _ _ h2, h3.ex e⟩
theorem roomF_p (p : Int) (x : V) : (roomF p x).lookup ("own_prime" : Str) = some (.int p) := by
  unfold roomF
  rw [List.lookup_cons_self]
theorem roomF_r (p : Int) (x : V) : (roomF p x).lookup ("own_rows" : Str) = some x := by
  unfold roomF
  rw [List.lookup_cons, show (("own_rows" : Str) == ("own_prime" : Str)) = false by decide]
  show List.lookup ("own_rows" : Str) [(("own_rows" : Str), x)] = _
  rw [List.lookup_cons_self]
def spRoomInit (C R : Addr) : Sp := fun vs H Q E => ∃ (a dx : Addr) (p : Int) (v : V) (d : PyData), vs = [.ref a, .int p, v] ∧ H a = some (.ins R dx []) ∧ Prime5 p ∧ Dt H v d ∧
  (∀ t, rightIn p d = some t → ∀ x H1, Ex H H1 → TabT H1 x t → Q .non (upd H1 a (.ins R dx (roomF p x)))) ∧ (rightIn p d = none → ∀ dd H', Ex H H' → E (.ref C) (some dd) H')
theorem s_retNew {te : TE} {σ : L2.St} {H : Hp} {D : Ends} {t : Tab} (h : EvLP te σ H (fun vs H2 => Paired (RowT H2) vs t)) (k : TabNew H t D.rt) : tRet te D σ H := h H (Ex.refl H) _ fun p vs H1 n e hp pw => k p vs H1 n e hp pw
theorem ev_lenLP {K : PySem.W.Frag} {te : TE} {σ : L2.St} {H : Hp} {PL : List V → Hp → Prop} {n : Nat} (h : EvLP te σ H PL) (hl : ∀ vs H1, PL vs H1 → vs.length = n) : Ev (tCB (rLenS K) (tCons te tNil)) σ H (.int (n : Nat)) := fun H1 e Q q => h H1 e _ fun p vs H2 n2 e2 hp pw => ⟨p, vs, rfl, .inl (sq_of hp), by
  rw [hl vs H2 pw]
  exact q H2 e2⟩
theorem prime_pos {p : Int} (h : Prime5 p) : 3 ≤ p ∧ p ≤ 13 := by
  rcases h with rfl | rfl | rfl | rfl | rfl <;> decide
theorem invOk_und {p : Int} (h : Prime5 p) : InvOk p (undP p) := by
  intro x h1 h2
  rcases h with rfl | rfl | rfl | rfl | rfl
  · have : x = 1 ∨ x = 2 := by omega
    rcases this with rfl | rfl <;> decide +kernel
  · have : x = 1 ∨ x = 2 ∨ x = 3 ∨ x = 4 := by omega
    rcases this with rfl | rfl | rfl | rfl <;> decide +kernel
  · have : x = 1 ∨ x = 2 ∨ x = 3 ∨ x = 4 ∨ x = 5 ∨ x = 6 := by omega
    rcases this with rfl | rfl | rfl | rfl | rfl | rfl <;> decide +kernel
  · have : x = 1 ∨ x = 2 ∨ x = 3 ∨ x = 4 ∨ x = 5 ∨ x = 6 ∨ x = 7 ∨ x = 8 ∨ x = 9 ∨ x = 10 := by omega
    rcases this with rfl | rfl | rfl | rfl | rfl | rfl | rfl | rfl | rfl | rfl <;> decide +kernel
  · have : x = 1 ∨ x = 2 ∨ x = 3 ∨ x = 4 ∨ x = 5 ∨ x = 6 ∨ x = 7 ∨ x = 8 ∨ x = 9 ∨ x = 10 ∨ x = 11 ∨ x = 12 := by omega
    rcases this with rfl | rfl | rfl | rfl | rfl | rfl | rfl | rfl | rfl | rfl | rfl | rfl <;> decide +kernel
/-- a room of the law -/
structure Gr (p : Int) (t : Tab) : Prop where
  pr : Prime5 p
  sz : t.length ≤ 6
  good : Good p t.length t
def spStillOf (R : Addr) : Sp := fun vs H Q _ => ∃ (v : V) (p : Int) (t : Tab), vs = [v] ∧ RoomI R H v p t ∧ Gr p t ∧ TabNew H (stillP p (undP p) t.length t) Q
def spPrimeG (R : Addr) : Sp := fun vs H Q _ => ∃ (v : V) (p : Int) (t : Tab), vs = [v] ∧ RoomI R H v p t ∧ RetV (.int p) H Q
def spSizeG (R : Addr) : Sp := fun vs H Q _ => ∃ (v : V) (p : Int) (t : Tab), vs = [v] ∧ RoomI R H v p t ∧ RetV (.int (t.length : Nat)) H Q
def spRankG (R : Addr) : Sp := fun vs H Q _ => ∃ (v : V) (p : Int) (t : Tab), vs = [v] ∧ RoomI R H v p t ∧ Gr p t ∧ RetV (.int ((stepsP p (undP p) t).length : Nat)) H Q
def spRowsM (R : Addr) : Sp := fun vs H Q _ => ∃ (v : V) (p : Int) (t : Tab), vs = [v] ∧ RoomI R H v p t ∧ ∀ u H', Ex H H' → TabT H' u t → Q u H'
inductive EqArg (R : Addr) (H : Hp) (p : Int) (t : Tab) : V → Bool → Prop
  | room {v : V} {q : Int} {u : Tab} (h : RoomI R H v q u) : EqArg R H p t v (decide (p = q ∧ t = u))
  | data {v : V} {d : PyData} (h : Dt H v d) : EqArg R H p t v false
def spRoomEq (R : Addr) : Sp := fun vs H Q _ => ∃ (v o : V) (p : Int) (t : Tab) (b : Bool), vs = [v, o] ∧ RoomI R H v p t ∧ EqArg R H p t o b ∧ RetV (.bl b) H Q
def roomText (p : Int) (t : Tab) : Str := "Room(" ++ (toString p : Str) ++ ", " ++ (PyData.tuple (t.map dRow)).shown ++ ")"
section
variable {P : Program} {w : World} {K : PySem.W.Frag} {mg : Str → Option Value} {base : Heap} {C R : Addr}
theorem ok_roomInit (B : Bt mg) (RC : RoomC K mg R) {dvs : List V} {fI : Addr} {fd : FuncData} (F : FunD K "__init__" "Room.__init__" (defArgs sRoomInit) (defBody sRoomInit) (defScope sRoomInit) dvs [] fI fd)
    (h1 : Held P w K mg base CX0 3 "want_prime" ["value"] spWantPrime) (h2 : Held P w K mg base (L2.CX P w) 5 "right_rows" ["prime", "value"] (spRight C)) : FnOk P w K mg base (L2.CX P w) 6 fI fd ["self", "prime", "rows"] (spRoomInit C R) := by
  obtain ⟨f1, fd1, g1, k1, b1, G1⟩ := h1
  obtain ⟨f2, fd2, g2, k2, b2, G2⟩ := h2
  obtain ⟨Kn, gK, kK⟩ := RC.known
  refine F.ok scRoomInit (fun vs H Q E h => ?_) (fun cdv A outer s H vs Q E hr h => ?_)
  · obtain ⟨a, dx, p, v, d, rfl, _⟩ := h
    rfl
  · obtain ⟨a, dx, p, v, d, rfl, ha, hp, hd, k, kE⟩ := h
    refine ⟨_, pss_one (ps_if (pt_val (pe_callB (callIsiK (K := K)) (by rfl) B.isinstance (by decide +kernel) (pa_cons (pv 1) (pa_cons (pe_glob (v := .ref Kn) (by rfl) gK rfl) pa_nil)))) pss_never
      (pss_cons (ps_expr (pe_call G1 (hr.mono (by decide)) (by rfl) g1 k1 b1 .nil pass0 (pa_cons (pv 1) pa_nil)))
      (pss_one (ps_asg (pe_tup (pa_cons (pv 1) (pa_cons (pe_call (E := E) G2 (hr.mono (by decide)) (by rfl) g2 k2 b2 .nil (passes_call (takes_of rfl rfl rfl rfl) fun _ _ _ _ z => z) (pa_cons (pv 1) (pa_cons (pv 2) pa_nil))) pa_nil)))
        (pg_tupK (K := K) rfl (pgs_cons (pg_fld (pv 0)) (pgs_cons (pg_fld (pv 0)) pgs_nil))))))), ?_⟩
    have pp := prime_pos hp
    refine ⟨_, rfl, .int p, .ref Kn, .type "int", .ref Kn, false, rfl, .own Kn, .base (.int p), kK, false, rfl, ?_⟩
    refine ⟨_, rfl, p, rfl, hp, fun H1 e1 => ?_⟩
    refine ⟨_, rfl, _, rfl, _, rfl, p, v, d, rfl, hd.ex e1, by omega, fun t ht x H2 e2 hx => ⟨by show 2 ≤ sizeLine; decide, fun T nT => ?_⟩, fun hn dd H' e => kE hn dd H' (e1.trans e)⟩
    have aT : a ≠ T := fun z => by rw [← z, e2 _ _ (e1 _ _ ha)] at nT; cases nT
    have ha3 : (upd H2 T (.tup [.int p, x])) a = some (.ins R dx []) := (upd_ne aT).trans (e2 _ _ (e1 _ _ ha))
    refine ⟨T, _, rfl, st_of upd_same, rfl, _, _, rfl, ⟨_, rfl, a, R, dx, _, rfl, ha3, RC.ins.cl, RC.nP, by show 0 < 1000; decide, _, _, rfl, ⟨_, rfl, a, R, dx, _, rfl, upd_same, RC.ins.cl, RC.nR, by show 1 < 1000; decide, rfl, ?_⟩⟩⟩
    rw [upd_upd]
    have e3 : Ex H (upd H2 T (.tup [.int p, x])) := (e1.trans e2).trans (Ex.new nT)
    exact k t ht x _ e3 (hx.ex (Ex.new nT))
/-- the object's fields -/
theorem fld_p (RC : RoomC K mg R) {σ : L2.St} {H : Hp} {te : TE} {v : V} {p : Int} {t : Tab} (h : Ev te σ H v) (hi : RoomI R H v p t) : Ev (tFld K te "own_prime") σ H (.int p) := fun H1 e Q q => h H1 e _ fun H2 e2 => by
  obtain ⟨a, dx, x, rfl, ha, hx⟩ := hi
  exact ⟨a, R, dx, roomF p x, _, rfl, e2 _ _ (e _ _ ha), RC.ins.cl, RC.nP, roomF_p p x, q H2 e2⟩
theorem fld_r (RC : RoomC K mg R) {σ : L2.St} {H : Hp} {te : TE} {v : V} {p : Int} {t : Tab} (h : Ev te σ H v) (hi : RoomI R H v p t) : ∃ x, TabT H x t ∧ Ev (tFld K te "own_rows") σ H x := by
  obtain ⟨a, dx, x, rfl, ha, hx⟩ := hi
  exact ⟨x, hx, fun H1 e Q q => h H1 e _ fun H2 e2 => ⟨a, R, dx, roomF p x, _, rfl, e2 _ _ (e _ _ ha), RC.ins.cl, RC.nR, roomF_r p x, q H2 e2⟩⟩
theorem ok_stillOf (B : Bt mg) (RC : RoomC K mg R) (D : DefIn K mg "still_of" sStillOf ["room"]) (h1 : Held P w K mg base CX0 4 "zeros_of" ["prime", "size", "rows"] spZeros) : Held P w K mg base CX0 5 "still_of" ["room"] (spStillOf R) := by
  obtain ⟨f1, fd1, g1, k1, b1, G1⟩ := h1
  refine D.held fun f fd F => F.ok scStillOf (fun vs H Q E h => ?_) (fun cdv A outer s H vs Q E hr h => ?_)
  · obtain ⟨v, p, t, rfl, _⟩ := h
    rfl
  · obtain ⟨v, p, t, rfl, hi, g, k⟩ := h
    refine ⟨_, pss_one (ps_ret (pe_call G1 (hr.mono (by decide)) (by rfl) g1 k1 b1 .nil pass0 (pa_cons (pe_fld (pv 0) rfl) (pa_cons (pe_callB (callLenK (K := K)) (by rfl) B.len PySem.boot_len (pa_cons (pe_fld (pv 0) rfl) pa_nil)) (pa_cons (pe_fld (pv 0) rfl) pa_nil))))), ?_⟩
    have sz := g.sz
    have pp := prime_pos g.pr
    obtain ⟨x, hx, ex⟩ := fld_r (K := K) (σ := [some v]) (te := tVar 0) RC (ev_var (i := 0) rfl) hi
    obtain ⟨ax, ws, rfl, hax, hw⟩ := id hx
    have hwl := hw.length
    have hk := k
    rw [← hwl] at hk
    refine s_retNew (evlp_call (PL := fun vs _ => vs = [.int p, .int (ws.length : Nat), .ref ax]) (eap_of (ea_cons (fld_p (K := K) (te := tVar 0) RC (ev_var (i := 0) rfl) hi) (ea_cons (ev_lenS (K := K) (xs := ws) ex (.inr hax)) (ea_cons ex ea_nil))) fun _ _ => rfl) fun vs H1 e1 hv Q q => ?_) hk
    subst hv
    rw [hwl] at q ⊢
    exact ⟨p, _, t.length, t, rfl, .inl (hx.ex e1), by omega, by omega, g.good, by omega, by omega, invOk_und g.pr, q⟩
/-- a def of the class's text -/
def MethD (K : PySem.W.Frag) (q : Str) (x : Str) (st : Stmt) (ps : List Str) (f : Addr) (fd : FuncData) : Prop := Fun K x q st f fd ∧ L2.Binds K fd ps []
theorem pe_fldK {X : Cx} {e : Expr} {f : Str} {pos : Pos} {ta : TE} (he : PE X e ta) (hb : attributeBase e f X.env (eval e X.env) = eval e X.env := by rfl) (h : X.K = K := by rfl) : PE X (.Attribute e f pos) (tFld K ta f) := h ▸ pe_fld he hb
theorem op_eqDK {X : Cx} (hu : X.A.units + 64 < cLine) (h : X.K = K := by rfl) : OpR X (compareOp .Eq) (rEqD K) := h ▸ op_eqD hu
theorem op_neDK {X : Cx} (hu : X.A.units + 64 < cLine) (h : X.K = K := by rfl) : OpR X (compareOp .NotEq) (rNeD K) := h ▸ op_neD hu
theorem ok_primeG (RC : RoomC K mg R) {f : Addr} {fd : FuncData} (F : Fun K "prime" "Room.prime" sRoomPrime f fd) : FnOk P w K mg base CX0 1 f fd ["self"] (spPrimeG R) := by
  refine F.ok scRoomPrime (fun vs H Q E h => ?_) (fun cdv A outer s H vs Q E hr h => ?_)
  · obtain ⟨v, p, t, rfl, _⟩ := h
    rfl
  · obtain ⟨v, p, t, rfl, hi, k⟩ := h
    refine ⟨_, pss_one (ps_ret (pe_fldK (K := K) (pv 0))), ?_⟩
    exact s_ret (fld_p RC (ev_var rfl) hi) k
theorem ok_sizeG (B : Bt mg) (RC : RoomC K mg R) {f : Addr} {fd : FuncData} (F : Fun K "size" "Room.size" sRoomSize f fd) : FnOk P w K mg base CX0 1 f fd ["self"] (spSizeG R) := by
  refine F.ok scRoomSize (fun vs H Q E h => ?_) (fun cdv A outer s H vs Q E hr h => ?_)
  · obtain ⟨v, p, t, rfl, _⟩ := h
    rfl
  · obtain ⟨v, p, t, rfl, hi, k⟩ := h
    refine ⟨_, pss_one (ps_ret (pe_callB (callLenK (K := K)) (by rfl) B.len PySem.boot_len (pa_cons (pe_fldK (K := K) (pv 0)) pa_nil))), ?_⟩
    obtain ⟨x, hx, ex⟩ := fld_r (K := K) (σ := [some v]) (te := tVar 0) RC (ev_var (i := 0) rfl) hi
    obtain ⟨ax, ws, rfl, hax, hw⟩ := id hx
    have hwl := hw.length
    rw [← hwl] at k
    exact s_ret (ev_lenS (K := K) ex (.inr hax)) k
theorem ok_rankG (B : Bt mg) (RC : RoomC K mg R) {f : Addr} {fd : FuncData} (F : Fun K "rank" "Room.rank" sRoomRank f fd) (h1 : Held P w K mg base CX0 3 "steps_of" ["prime", "rows"] spSteps) : FnOk P w K mg base CX0 4 f fd ["self"] (spRankG R) := by
  obtain ⟨f1, fd1, g1, k1, b1, G1⟩ := h1
  refine F.ok scRoomRank (fun vs H Q E h => ?_) (fun cdv A outer s H vs Q E hr h => ?_)
  · obtain ⟨v, p, t, rfl, _⟩ := h
    rfl
  · obtain ⟨v, p, t, rfl, hi, g, k⟩ := h
    refine ⟨_, pss_one (ps_ret (pe_callB (callLenK (K := K)) (by rfl) B.len PySem.boot_len (pa_cons (pe_call G1 (hr.mono (by decide)) (by rfl) g1 k1 b1 .nil pass0 (pa_cons (pe_fldK (K := K) (pv 0)) (pa_cons (pe_fldK (K := K) (pv 0)) pa_nil))) pa_nil))), ?_⟩
    obtain ⟨x, hx, ex⟩ := fld_r (K := K) (σ := [some v]) (te := tVar 0) RC (ev_var (i := 0) rfl) hi
    have sz := g.sz
    have pp := prime_pos g.pr
    refine s_ret (ev_lenLP (K := K) (PL := fun vs H2 => Paired (RowT H2) vs (stepsP p (undP p) t)) (evlp_call (PL := fun vs _ => vs = [.int p, x]) (eap_of (ea_cons (fld_p (K := K) (te := tVar 0) RC (ev_var (i := 0) rfl) hi) (ea_cons ex ea_nil)) fun _ _ => rfl) fun vs H1 e1 hv Q q => ?_) fun vs H1 pw => pw.length) k
    subst hv
    exact ⟨p, x, t.length, t, rfl, .inl (hx.ex e1), by omega, by omega, g.good, by omega, by omega, q⟩
theorem ok_rowsM (RC : RoomC K mg R) {f : Addr} {fd : FuncData} (F : Fun K "rows" "Room.rows" sRoomRows f fd) : FnOk P w K mg base CX0 1 f fd ["self"] (spRowsM R) := by
  refine F.ok scRoomRows (fun vs H Q E h => ?_) (fun cdv A outer s H vs Q E hr h => ?_)
  · obtain ⟨v, p, t, rfl, _⟩ := h
    rfl
  · obtain ⟨v, p, t, rfl, hi, k⟩ := h
    refine ⟨_, pss_one (ps_ret (pe_fldK (K := K) (pv 0))), ?_⟩
    obtain ⟨x, hx, ex⟩ := fld_r (K := K) (σ := [some v]) (te := tVar 0) RC (ev_var (i := 0) rfl) hi
    exact s_ret ex fun H1 e => k x H1 e (hx.ex e)
theorem ok_stillM {f : Addr} {fd : FuncData} (F : Fun K "still" "Room.still" sRoomStill f fd) (h1 : Held P w K mg base CX0 5 "still_of" ["room"] (spStillOf R)) : FnOk P w K mg base CX0 6 f fd ["self"] (spStillOf R) := by
  obtain ⟨f1, fd1, g1, k1, b1, G1⟩ := h1
  refine F.ok scRoomStill (fun vs H Q E h => ?_) (fun cdv A outer s H vs Q E hr h => ?_)
  · obtain ⟨v, p, t, rfl, _⟩ := h
    rfl
  · obtain ⟨v, p, t, rfl, hi, g, k⟩ := h
    refine ⟨_, pss_one (ps_ret (pe_call G1 (hr.mono (by decide)) (by rfl) g1 k1 b1 .nil pass0 (pa_cons (pv 0) pa_nil))), ?_⟩
    exact ⟨_, rfl, v, p, t, rfl, hi, g, k⟩
theorem tyn_in {H : Hp} {v : V} {d : PyData} (h : Dt H v d) : tyN d ∈ (["NoneType", "bool", "int", "str", "list", "tuple"] : List String) := by
  cases h <;> simp [tyN]
theorem ok_roomEq (B : Bt mg) (RC : RoomC K mg R) {f : Addr} {fd : FuncData} (F : Fun K "__eq__" "Room.__eq__" sRoomEq f fd) : FnOk P w K mg base CX0 1 f fd ["self", "other"] (spRoomEq R) := by
  refine F.ok scRoomEq (fun vs H Q E h => ?_) (fun cdv A outer s H vs Q E hr h => ?_)
  · obtain ⟨v, o, p, t, b, rfl, _⟩ := h
    rfl
  · obtain ⟨v, o, p, t, b, rfl, hi, ho, k⟩ := h
    refine ⟨_, pss_cons (ps_if (pt_not (pt_val (pe_callB (callIsiK (K := K)) (by rfl) B.isinstance (by decide +kernel) (pa_cons (pv 1) (pa_cons (pe_glob (v := .ref R) (by rfl) RC.gR rfl) pa_nil))))) (pss_one (ps_ret pe_bl)) pss_nil)
      (pss_one (ps_ret (pe_and (pe_cmpR op_eq (pe_fldK (K := K) (pv 0)) (pe_fldK (K := K) (pv 1)) (by rfl)) (pe_one (pe_cmpR (op_eqDK (K := K) hr.units) (pe_fldK (K := K) (pv 0)) (pe_fldK (K := K) (pv 1)) (by rfl)))))), ?_⟩
    cases ho with
    | @data d hd =>
      refine ⟨_, rfl, o, .ref R, _, .ref R, false, rfl, .own R, tyx_of (K := K) hd.dp, RC.notR _ (tyn_in hd), false, rfl, ?_⟩
      exact k H (Ex.refl H)
    | @room q u hq =>
      obtain ⟨a, dx, x, rfl, ha, hx⟩ := id hq
      refine ⟨_, rfl, .ref a, .ref R, .ref R, .ref R, true, rfl, .own R, .base (.ins ha RC.ins.cl RC.ins.ha RC.ins.hn RC.ins.htk RC.ins.hm), RC.ins.me, true, rfl, ?_⟩
      dsimp only
      obtain ⟨x1, hx1, ex1⟩ := fld_r (K := K) (σ := [some v, some (.ref a)]) (te := tVar 0) RC (ev_var (i := 0) rfl) hi
      obtain ⟨x2, hx2, ex2⟩ := fld_r (K := K) (σ := [some v, some (.ref a)]) (te := tVar 1) RC (ev_var (i := 1) rfl) hq
      refine s_ret (v := .bl (decide (V.int p = V.int q) && decide (t = u))) (ev_andV (ev_op (fld_p RC (ev_var (i := 0) rfl) hi) (fld_p RC (ev_var (i := 1) rfl) hq) (rv_eq rfl)) fun _ => ev_op ex1 ex2 (rv_eqTab hx1 hx2)) fun H1 e => ?_
      have e1 : (decide (V.int p = V.int q) && decide (t = u)) = decide (p = q ∧ t = u) := by
        by_cases c1 : p = q <;> by_cases c2 : t = u <;> simp [c1, c2]
      rw [e1]
      exact k H1 e
end
end RK

set_option Elab.async false
set_option linter.all false
set_option maxRecDepth 100000
set_option maxHeartbeats 4000000
namespace RK
open PySem L2 Evl
/-- data whose text is short -/
structure Ez (k w : Nat) (d : PyData) : Prop where
  lay : PyData.canLay0 d = true
  dep : PyData.depth d ≤ k
  wt : PyData.weight d ≤ w
  sh : PyData.intsShort 13 d = true
  sw : PyData.showable d = true
structure EzAll (k w : Nat) (ds : List PyData) : Prop where
  lay : PyData.canLayAll0 ds = true
  dep : PyData.depthAll ds ≤ k
  wt : PyData.weightAll ds ≤ w
  sh : PyData.intsShortAll 13 ds = true
  sw : PyData.showableAll ds = true
theorem EzAll.nil {k w : Nat} : EzAll k w [] := ⟨by simp [PyData.canLayAll0], by simp [PyData.depthAll], by simp [PyData.weightAll], by simp [PyData.intsShortAll], by simp [PyData.showableAll]⟩
theorem EzAll.cons {k a b w : Nat} {d : PyData} {ds : List PyData} (h : Ez k a d) (t : EzAll k b ds) (hw : a + 1 + b ≤ w) : EzAll k w (d :: ds) :=
  ⟨by simp [PyData.canLayAll0, h.lay, t.lay], by have := h.dep; have := t.dep; simp only [PyData.depthAll]; omega, by have := h.wt; have := t.wt; simp only [PyData.weightAll]; omega, by simp [PyData.intsShortAll, h.sh, t.sh], by simp [PyData.showableAll, h.sw, t.sw]⟩
theorem Ez.tup {k w : Nat} {ds : List PyData} (h : EzAll k w ds) : Ez (k + 1) w (.tuple ds) :=
  ⟨by simp [PyData.canLay0, h.lay], by have := h.dep; simp only [PyData.depth]; omega, by have := h.wt; simp only [PyData.weight]; omega, by simp [PyData.intsShort, h.sh], by simp [PyData.showable, h.sw]⟩
theorem Ez.lst {k w : Nat} {ds : List PyData} (h : EzAll k w ds) : Ez (k + 1) w (.list ds) :=
  ⟨by simp [PyData.canLay0, h.lay], by have := h.dep; simp only [PyData.depth]; omega, by have := h.wt; simp only [PyData.weight]; omega, by simp [PyData.intsShort, h.sh], by simp [PyData.showable, h.sw]⟩
theorem small_cases {P : Int → Prop} (h : ∀ n : Nat, n < 14 → P n) {i : Int} (h1 : 0 ≤ i) (h2 : i < 14) : P i := by
  have := h i.toNat (by omega)
  rwa [Int.toNat_of_nonneg h1] at this
theorem Ez.int {k : Nat} {i : Int} (h1 : 0 ≤ i) (h2 : i < 14) : Ez k 10 (.int i) := by
  refine small_cases (P := fun i => Ez k 10 (.int i)) (fun n hn => ?_) h1 h2
  refine ⟨by simp [PyData.canLay0], by simp [PyData.depth], ?_, ?_, ?_⟩
  · have h : ∀ n : Fin 14, PyData.weight (.int (n.val : Int)) ≤ 10 := by decide +kernel
    exact h ⟨n, hn⟩
  · have h : ∀ n : Fin 14, PyData.intsShort 13 (.int (n.val : Int)) = true := by decide +kernel
    exact h ⟨n, hn⟩
  · have h : ∀ n : Fin 14, PyData.showable (.int (n.val : Int)) = true := by decide +kernel
    exact h ⟨n, hn⟩
theorem Ez.bl {k : Nat} {b : Bool} : Ez k 10 (.bool b) := ⟨by simp [PyData.canLay0], by simp [PyData.depth], by simp [PyData.weight], by simp [PyData.intsShort], by simp [PyData.showable]⟩
theorem Ez.up {k k' w w' : Nat} {d : PyData} (h : Ez k w d) (hk : k ≤ k') (hw : w ≤ w') : Ez k' w' d := ⟨h.lay, Nat.le_trans h.dep hk, Nat.le_trans h.wt hw, h.sh, h.sw⟩
theorem ez_ints : ∀ {r : Row}, (∀ x ∈ r, 0 ≤ x ∧ x < 14) → EzAll 0 (11 * r.length) (r.map PyData.int)
  | [], _ => .nil
  | x :: r, h => .cons (Ez.int (h x List.mem_cons_self).1 (h x List.mem_cons_self).2) (ez_ints fun y hy => h y (List.mem_cons_of_mem _ hy)) (by rw [List.length_cons]; omega)
theorem ez_rows : ∀ {t : Tab}, (∀ r ∈ t, r.length ≤ 6 ∧ ∀ x ∈ r, 0 ≤ x ∧ x < 14) → EzAll 1 (67 * t.length) (t.map dRow)
  | [], _ => .nil
  | r :: t, h => .cons (a := 66) ((Ez.tup (ez_ints (h r List.mem_cons_self).2)).up (Nat.le_refl _) (by have := (h r List.mem_cons_self).1; omega)) (ez_rows fun y hy => h y (List.mem_cons_of_mem _ hy)) (by rw [List.length_cons]; omega)
theorem Ez.len {k w : Nat} {d : PyData} (h : Ez k w d) (hk : k ≤ 10) (hw : w ≤ 100000) : d.shown.length ≤ 15728653 := by
  refine PyProof.Rows.shown_le13 ?_ h.sh
  have h1 := h.dep
  have h2 := h.wt
  show (PyData.canLay0 d && decide (PyData.depth d ≤ 64) && decide (PyData.weight d ≤ 2 ^ 20)) = true
  rw [h.lay, decide_eq_true (by omega), decide_eq_true (Nat.le_trans (Nat.le_trans h2 hw) (by decide))]
  rfl
theorem Ez.nd {k w : Nat} {d : PyData} (h : Ez k w d) : d.hasDict = false := PyData.hasDict_of_canLay d h.lay
end RK

set_option Elab.async false
set_option linter.all false
set_option maxRecDepth 100000
set_option maxHeartbeats 4000000
namespace RK
open PySem L2 Evl
def tabD (t : Tab) : PyData := .tuple (t.map dRow)
def tabLD (t : Tab) : PyData := .list (t.map dRow)
theorem good_rows {p : Int} {n : Nat} {t : Tab} (hp : Prime5 p) (hn : n ≤ 6) (g : Good p n t) : ∀ r ∈ t, r.length ≤ 6 ∧ ∀ x ∈ r, 0 ≤ x ∧ x < 14 := fun r hr => by
  have pp := prime_pos hp
  have h := g r hr
  refine ⟨by rw [h.1]; exact hn, fun x hx => ?_⟩
  have := h.2 x hx
  omega
theorem Gr.ez {p : Int} {t : Tab} (g : Gr p t) : Ez 2 402 (tabD t) := (Ez.tup (ez_rows (good_rows g.pr g.sz g.good))).up (Nat.le_refl _) (by have := g.sz; omega)
def primeText (p : Int) : Str := (toString p : String)
def roomText1 (p : Int) (t : Tab) : Str := ((((("Room(" : Str) ++ primeText p) ++ (", " : Str)) ++ (tabD t).shown) ++ (")" : Str))
theorem prime_text {p : Int} (h : Prime5 p) : (primeText p).length ≤ 2 := by
  rcases h with rfl | rfl | rfl | rfl | rfl <;> decide +kernel
theorem prime_bits {p : Int} (h : Prime5 p) : p.natAbs.log2 < 1920 := by
  rcases h with rfl | rfl | rfl | rfl | rfl <;> decide +kernel
theorem sz17 {n : Nat} (h : n ≤ 15800000) : n ≤ sizeLine := Nat.le_trans h (by decide)
theorem str_nil (x : Str) : Str.empty ++ x = x := by
  first
    | exact Str.empty_append x
    | (cases x; rfl)
    | (apply Str.ext; simp [Str.cps_append])
def spRoomRepr (R : Addr) : Sp := fun vs H Q _ => ∃ (v : V) (p : Int) (t : Tab), vs = [v] ∧ RoomI R H v p t ∧ Gr p t ∧ RetV (.str (roomText1 p t)) H Q
section
variable {P : Program} {w : World} {K : PySem.W.Frag} {mg : Str → Option Value} {base : Heap} {C R : Addr}
theorem call_reprDK {X : Cx} {k : Nat} (hg : X.A.guards = some []) (hr : Room k X.A) (h : X.K = K := by rfl) : CallR X (.builtin "repr") (fun xs H Q => ∃ (a : Addr) (d : PyData), xs = [.ref a] ∧ Dp K H (.ref a) d ∧ d.showable = true ∧ d.hasDict = false ∧ d.depth ≤ 10 ∧ d.shown.length ≤ sizeLine ∧ Q (.str d.shown) H) := h ▸ call_reprD hg hr
theorem ok_roomRepr (B : Bt mg) (RC : RoomC K mg R) {f : Addr} {fd : FuncData} (F : Fun K "__repr__" "Room.__repr__" sRoomRepr f fd) : FnG P w K mg base CX0 1 f fd ["self"] (spRoomRepr R) := by
  refine FunG.ok F scRoomRepr (fun vs H Q E h => ?_) (fun cdv A outer s H vs Q E hg hr h => ?_)
  · obtain ⟨v, p, t, rfl, _⟩ := h
    rfl
  · obtain ⟨v, p, t, rfl, hi, g, k⟩ := h
    refine ⟨_, pss_one (ps_ret (pe_joined (.cons pe_str (.cons (pe_fmt (pe_fldK (K := K) (pv 0))) (.cons pe_str (.cons (pe_fmt (pe_callB (call_reprDK (K := K) (by exact hg) hr) (by rfl) B.repr (by decide +kernel) (pa_cons (pe_fldK (K := K) (pv 0)) pa_nil))) (.cons pe_str .nil))))))), ?_⟩
    obtain ⟨x, hx, ex⟩ := fld_r (K := K) (σ := [some v]) (te := tVar 0) RC (ev_var (i := 0) rfl) hi
    obtain ⟨ax, ws, rfl, hax, hw⟩ := id hx
    have ez := g.ez
    have lz := ez.len (by decide) (by decide)
    have l2 := prime_text g.pr
    have l3 : ("Room(" : Str).length = 5 := by decide +kernel
    have l4 : (", " : Str).length = 2 := by decide +kernel
    have l5 : (")" : Str).length = 1 := by decide +kernel
    refine ⟨_, rfl, ?_, ?_⟩
    · rw [str_nil, l3]
      decide
    · dsimp only [tJs, tFmt]
      refine fld_p (K := K) (te := tVar 0) RC (ev_var (i := 0) rfl) hi H (Ex.refl H) _ fun H1 e1 => .inr ⟨p, rfl, prime_bits g.pr, _, rfl, ?_, ?_⟩
      · refine sz17 ?_
        rw [str_nil, Str.length_append, l3]
        exact Nat.le_trans (Nat.add_le_add_left l2 5) (by decide)
      · refine ⟨_, rfl, ?_, ?_⟩
        · refine sz17 ?_
          rw [str_nil, Str.length_append, Str.length_append, l3, l4]
          exact Nat.le_trans (Nat.add_le_add_right (Nat.add_le_add_left l2 5) 2) (by decide)
        · dsimp only [tCB, tCons]
          refine ex H1 e1 _ fun H2 e2 => ⟨ax, tabD t, rfl, (hx.ex (e1.trans e2)).dt.dp, ez.sw, ez.nd, Nat.le_trans ez.dep (by decide), sz17 (by omega), .inl ⟨_, rfl, sz17 (by omega), _, rfl, ?_, ?_⟩⟩
          · refine sz17 ?_
            have l2' : (((toString p : String) : Str)).length ≤ 2 := l2
            rw [str_nil, Str.length_append, Str.length_append, Str.length_append, l3, l4]
            omega
          · refine ⟨_, rfl, ?_, ?_⟩
            · refine sz17 ?_
              have l2' : (((toString p : String) : Str)).length ≤ 2 := l2
              rw [str_nil, Str.length_append, Str.length_append, Str.length_append, Str.length_append, l3, l4, l5]
              omega
            · have k' := k H2 (e1.trans e2)
              unfold roomText1 at k'
              rw [str_nil]
              exact k'
end
end RK

set_option Elab.async false
set_option linter.all false
set_option maxRecDepth 100000
set_option maxHeartbeats 4000000
namespace RK
open PySem L2 Evl
/-! ### the pot -/
def Pot (H : Hp) (q : Addr) : Prop := ∃ a b : Int, H q = some (.lst [.int a, .int b]) ∧ 0 ≤ a ∧ 0 ≤ b ∧ b < 2147483648
theorem del_ex {H : Hp} {q : Addr} : Ex (del H q) H := fun a o h => by
  by_cases c : a = q
  · rw [c, del_same] at h
    cases h
  · rwa [del_ne c] at h
theorem del_some {H : Hp} {q a : Addr} {o : HO} (h : H a = some o) (n : a ≠ q) : del H q a = some o := (del_ne n).trans h
/-- what B knows stands ahead of a draw and behind it -/
theorem Ex.dr {B H H' : Hp} {q : Addr} (hq : B q = none) (e : Ex B H) (d : Ex (del H q) H') : Ex B H' := fun a o h => d a o (del_some (e a o h) fun z => by rw [z, hq] at h; cases h)
theorem del_trans {H H1 H2 : Hp} {q : Addr} (e : Ex (del H q) H1) (d : Ex (del H1 q) H2) : Ex (del H q) H2 := Ex.dr del_same e d
theorem del_mono {H H1 : Hp} {q : Addr} (e : Ex H H1) : Ex (del H q) (del H1 q) := fun a o h => by
  by_cases c : a = q
  · rw [c, del_same] at h
    cases h
  · rw [del_ne c] at h ⊢
    exact e a o h
theorem pot_ex {H H' : Hp} {q : Addr} (h : Pot H q) (e : Ex H H') : Pot H' q := by
  obtain ⟨a, b, h1, h2⟩ := h
  exact ⟨a, b, e _ _ h1, h2⟩
theorem pot_ne {H : Hp} {q a : Addr} {xs : List V} (h : Pot H q) (ha : H a = some (.tup xs)) : a ≠ q := fun z => by
  obtain ⟨x, y, h1, _⟩ := h
  rw [z, h1] at ha
  cases ha
theorem pot_new {H : Hp} {q a : Addr} (h : Pot H q) (ha : H a = none) : a ≠ q := fun z => by
  obtain ⟨x, y, h1, _⟩ := h
  rw [z, h1] at ha
  cases ha
theorem RowT.del {H : Hp} {q : Addr} {v : V} {r : Row} (p : Pot H q) (h : RowT H v r) : RowT (del H q) v r := by
  obtain ⟨a, e, h⟩ := h
  exact ⟨a, e, del_some h (pot_ne p h)⟩
theorem rows_del {H : Hp} {q : Addr} {vs : List V} {t : Tab} (p : Pot H q) (h : Paired (RowT H) vs t) : Paired (RowT (L2.del H q)) vs t := Paired.mono (fun _ _ z => RowT.del p z) h
theorem TabT.del {H : Hp} {q : Addr} {v : V} {t : Tab} (p : Pot H q) (h : TabT H v t) : TabT (L2.del H q) v t := by
  obtain ⟨a, vs, e, h1, h2⟩ := h
  exact ⟨a, vs, e, del_some h1 (pot_ne p h1), rows_del p h2⟩
def spPot (K : PySem.W.Frag) : Sp := fun vs H Q _ => ∃ (a : Addr) (ns : List Int), vs = [.ref a, .int 0] ∧ SqL K H a (ns.map V.int) ∧ ∀ q H', H q = none → Ex H H' → Pot H' q → Q (.ref q) H'
def spDraw : Sp := fun vs H Q _ => ∃ (q : Addr) (m : Nat), vs = [.ref q, .int (m : Int)] ∧ Pot H q ∧ 0 < m ∧ m ≤ 1000 ∧ ∀ (d : Nat) H', d < m → Ex (del H q) H' → Pot H' q → Q (.int (d : Int)) H'
def spPick : Sp := fun vs H Q _ => ∃ (q a : Addr) (ns : List Int), vs = [.ref q, .ref a] ∧ Pot H q ∧ H a = some (.lst (ns.map V.int)) ∧ a ≠ q ∧ ns ≠ [] ∧ ns.length ≤ 1000 ∧ ∀ (i : Int) H', i ∈ ns → Ex (del H q) H' → Pot H' q → Q (.int i) H'
def spMixed : Sp := fun vs H Q _ => ∃ (q a : Addr) (ws : List V), vs = [.ref q, .ref a] ∧ Pot H q ∧ H a = some (.tup ws) ∧ ws.length ≤ 100 ∧
  ∀ (l : Addr) (fs : List V) H', H l = none → Ex (del H q) H' → Pot H' q → H' l = some (.lst fs) → fs.length = ws.length → (∀ v ∈ fs, v ∈ ws) → Q (.ref l) H'
def rInt1 : List V → Hp → VK → Prop := fun xs H Q => (∃ i, xs = [.int i] ∧ Q (.int i) H) ∨ ∃ k, xs = [.bl k] ∧ Q (.int (if k then 1 else 0)) H
def rAbs1 : List V → Hp → VK → Prop := fun xs H Q => ∃ i, xs = [.int i] ∧ Q (.int (if i < 0 then -i else i)) H
theorem rc_int {i : Int} {H : Hp} : RC rInt1 [.int i] H (.int i) := fun H1 _ _ q => .inl ⟨i, rfl, q H1 (Ex.refl H1)⟩
theorem rc_intB {b : Bool} {H : Hp} : RC rInt1 [.bl b] H (.int (if b then 1 else 0)) := fun H1 _ _ q => .inr ⟨b, rfl, q H1 (Ex.refl H1)⟩
theorem rc_abs {i : Int} {H : Hp} : RC rAbs1 [.int i] H (.int (if i < 0 then -i else i)) := fun H1 _ _ q => ⟨i, rfl, q H1 (Ex.refl H1)⟩
theorem callInt {X : Cx} : CallR X (.type "int") rInt1 := call_int1
theorem callAbs {X : Cx} : CallR X (.builtin "abs") rAbs1 := call_abs
theorem callMax {X : Cx} (hc : X.calm = true) : CallR X (.builtin "max") rMax2 := call_max2 hc
section
variable {P : Program} {w : World} {K : PySem.W.Frag} {mg : Str → Option Value} {base : Heap}
theorem ok_pot (B : Bt mg) (D : DefIn K mg "_law_pot" sLPot ["_law_script", "_law_k"]) : Held P w K mg base CX0 1 "_law_pot" ["_law_script", "_law_k"] (spPot K) := by
  refine D.held fun f fd F => F.ok scLPot (fun vs H Q E h => ?_) (fun cdv A outer s H vs Q E hr h => ?_)
  · obtain ⟨a, ns, rfl, _⟩ := h
    rfl
  · obtain ⟨a, ns, rfl, hs, k⟩ := h
    refine ⟨_, pss_cons (ps_set (i := 2) scLPot.nd rfl (Or.inl rfl) (pe_ifExp (pt_cmpR op_lt (pv 1) (pe_callB (callLenK (K := K)) (by rfl) B.len PySem.boot_len (pa_cons (pv 0) pa_nil)) (by rfl))
        (pe_callB callAbs (by rfl) B.abs (by decide +kernel) (pa_cons (pe_ix (ix_listK (K := K)) (pv 0) (pv 1) (fun _ _ => rfl)) pa_nil)) (pe_op op_add (pe_op op_mul pe_int (pv 1)) pe_int)))
      (pss_one (ps_ret (pe_lst (pa_cons (pe_callB (callMax rfl) (by rfl) B.max (by decide +kernel) (pa_cons pe_int (pa_cons (pe_op op_sub (pv 2) (pe_op op_pow pe_int pe_int)) pa_nil)))
        (pa_cons (pe_op op_add (pe_op op_mod (pe_callTy callInt (by rfl) B.int (by decide +kernel) (pa_cons (pe_op op_add (pe_op op_add (pe_op op_mul (pe_op op_mod (pe_callTy callInt (by rfl) B.int (by decide +kernel) (pa_cons (pv 2) pa_nil)) pe_int) pe_int) (pe_op op_mul pe_int (pv 1))) pe_int) pa_nil)) pe_int) pe_int) pa_nil))))), ?_⟩
    have e0 : Ev (tVar 1) [some (.ref a), some (.int 0), none] H (.int 0) := ev_var rfl
    have key : ∀ c : Int, ∀ H1, Ex H H1 → EvL (tLst (tCons (tCB rMax2 (tCons (tC (.int 0)) (tCons (tOp (rI0 fun i j => .int (i - j)) (tVar 2) (tOp (rI CPow fun i j => .int (i ^ j.toNat)) (tC (.int 10)) (tC (.int 18)))) tNil)))
        (tCons (tOp (rI0 fun i j => .int (i + j)) (tOp (rI (fun _ j => 0 < j) fun i j => .int (i % j)) (tCB rInt1 (tCons (tOp (rI0 fun i j => .int (i + j)) (tOp (rI0 fun i j => .int (i + j)) (tOp (rI CMul fun i j => .int (i * j)) (tOp (rI (fun _ j => 0 < j) fun i j => .int (i % j)) (tCB rInt1 (tCons (tVar 2) tNil)) (tC (.int 2147483549))) (tC (.int 48271))) (tOp (rI CMul fun i j => .int (i * j)) (tC (.int 2737)) (tVar 1))) (tC (.int 81))) tNil)) (tC (.int 2147483579))) (tC (.int 1))) tNil)))
        [some (.ref a), some (.int 0), some (.int c)] H1 [.int (if c - 10 ^ (18 : Int).toNat > 0 then c - 10 ^ (18 : Int).toNat else 0), .int ((c % 2147483549 * 48271 + 2737 * 0 + 81) % 2147483579 + 1)] := fun c H1 e1 =>
      el_lst (ea_cons (ev_max2 ev_c (ev_op (ev_var (i := 2) rfl) (ev_op ev_c ev_c (rv_I ⟨by decide, by decide, by decide⟩)) rv_I0)) (ea_cons (ev_op (ev_op (ev_cb (ea_cons (ev_op (ev_op (ev_op (ev_op (ev_cb (ea_cons (ev_var (i := 2) rfl) ea_nil) rc_int) ev_c (rv_I (by decide))) ev_c (rv_I (.inr ⟨by decide, by decide⟩))) (ev_op ev_c (ev_var (i := 1) rfl) (rv_I (.inl ⟨by decide, by decide⟩))) rv_I0) ev_c rv_I0) ea_nil) rc_int) ev_c (rv_I (by decide))) ev_c rv_I0) ea_nil)) (by show 2 ≤ 100000; decide)
    have fin : ∀ c : Int, ∀ H1, Ex H H1 → ∀ p H2, H1 p = none → Ex H1 H2 → H2 p = some (.lst [.int (if c - 10 ^ (18 : Int).toNat > 0 then c - 10 ^ (18 : Int).toNat else 0), .int ((c % 2147483549 * 48271 + 2737 * 0 + 81) % 2147483579 + 1)]) → Q (.ref p) H2 := fun c H1 e1 p H2 np e2 hp => by
      refine k p H2 (fresh_back e1 np) (e1.trans e2) ⟨_, _, hp, ?_, ?_, ?_⟩
      · split <;> omega
      · have := Int.emod_nonneg (c % 2147483549 * 48271 + 2737 * 0 + 81) (b := 2147483579) (by decide)
        omega
      · have := Int.emod_lt_of_pos (c % 2147483549 * 48271 + 2737 * 0 + 81) (b := 2147483579) (by decide)
        omega
    cases ns with
    | nil =>
      refine q_asg (v := .int (57 * 0 + 95)) (ev_if (b := decide ((0 : Int) < (([] : List V).length : Nat))) (et_test (ev_op (ev_var rfl) (ev_len (ev_var rfl) hs) rv_I0)) (fun c => by cases c) (fun c => ev_op (ev_op ev_c (ev_var rfl) (rv_I (.inl ⟨by decide, by decide⟩))) ev_c rv_I0)) fun H1 e1 => ?_
      exact s_retL (key _ H1 e1) (fin _ H1 e1)
    | cons n0 ns =>
      refine q_asg (v := .int (if n0 < 0 then -n0 else n0)) (ev_if (b := decide ((0 : Int) < (((n0 :: ns).map V.int).length : Nat))) (et_test (ev_op (ev_var rfl) (ev_len (ev_var rfl) hs) rv_I0)) (fun c => ev_cb (ea_cons (ev_op (ev_var rfl) (ev_var rfl) (rv_ixL hs (atI_nat (j := 0) rfl))) ea_nil) rc_abs) (fun c => ?_)) fun H1 e1 => ?_
      · have := of_decide_eq_false c
        simp at this
      · exact s_retL (key _ H1 e1) (fin _ H1 e1)
theorem pot_set {H : Hp} {q : Addr} {a b : Int} (ha : 0 ≤ a) (hb : 0 ≤ b) (hb2 : b < 2147483648) : Pot (upd H q (.lst [.int a, .int b])) q := ⟨a, b, upd_same, ha, hb, hb2⟩
theorem del_upd {H H' : Hp} {q : Addr} {o : HO} (e : Ex H H') : Ex (del H q) (upd H' q o) := Ex.mut (del_ex.trans e) del_same
def rDivmod : List V → Hp → VK → Prop := fun xs H Q => ∃ i j, xs = [.int i, .int j] ∧ CDiv i j ∧ ∀ p, H p = none → Q (.ref p) (upd H p (.tup [.int (i / j), .int (i % j)]))
theorem callDivmod {X : Cx} : CallR X (.builtin "divmod") rDivmod := call_divmod
theorem ok_draw (B : Bt mg) (D : DefIn K mg "_law_draw" sLDraw ["_law_pot_here", "_law_many"]) : Held P w K mg base CX0 1 "_law_draw" ["_law_pot_here", "_law_many"] spDraw := by
  refine D.held fun f fd F => F.ok scLDraw (fun vs H Q E h => ?_) (fun cdv A outer s H vs Q E hr h => ?_)
  · obtain ⟨q, m, rfl, _⟩ := h
    rfl
  · obtain ⟨q, m, rfl, hq, hm, hm2, k⟩ := h
    obtain ⟨a, b, hq, ha, hb, hb2⟩ := hq
    refine ⟨_, pss_cons (ps_if (pt_cmpR op_gt (pe_ix (ix_listK (K := K)) (pv 0) pe_int (fun _ _ => rfl)) pe_int (nomark _))
        (pss_cons (ps_asg (g := gTup K 2 (gCons (gSub (tVar 0) (tC (.int 0)) rSetL) (gCons (gName 2) gNil))) (pe_callB callDivmod (by rfl) B.divmod (by decide +kernel) (pa_cons (pe_ix (ix_listK (K := K)) (pv 0) pe_int (fun _ _ => rfl)) (pa_cons (pv 1) pa_nil)))
          (pg_tupK (K := K) rfl (pgs_cons (pg_sub (pv 0) pe_int set_list) (pgs_cons (pg_name (i := 2) scLDraw.nd rfl (Or.inl rfl)) pgs_nil)))) (pss_one (ps_ret (pv 2)))) pss_nil)
      (pss_cons (ps_asg (g := gSub (tVar 0) (tC (.int 1)) rSetL) (pe_op op_mod (pe_callTy callInt (by rfl) B.int (by decide +kernel) (pa_cons (pe_op op_add (pe_op op_mul (pe_ix (ix_listK (K := K)) (pv 0) pe_int (fun _ _ => rfl)) pe_int) pe_int) pa_nil)) pe_int) (pg_sub (pv 0) pe_int set_list))
      (pss_one (ps_ret (pe_op op_mod (pe_callTy callInt (by rfl) B.int (by decide +kernel) (pa_cons (pe_op op_fdiv (pe_op op_mod (pe_callTy callInt (by rfl) B.int (by decide +kernel) (pa_cons (pe_op op_mul (pe_ix (ix_listK (K := K)) (pv 0) pe_int (fun _ _ => rfl)) (pe_ix (ix_listK (K := K)) (pv 0) pe_int (fun _ _ => rfl))) pa_nil)) pe_int) pe_int) pa_nil)) (pv 1))))), ?_⟩
    have ix0 : ∀ σ : L2.St, σ[0]? = some (some (.ref q)) → Ev (tOp (rIxL K) (tVar 0) (tC (.int 0))) σ H (.int a) := fun σ hσ => ev_op (ev_var hσ) ev_c (rv_ixL (sq_of hq) (atI_nat (j := 0) rfl))
    have ix1 : ∀ σ : L2.St, σ[0]? = some (some (.ref q)) → Ev (tOp (rIxL K) (tVar 0) (tC (.int 1))) σ H (.int b) := fun σ hσ => ev_op (ev_var hσ) ev_c (rv_ixL (sq_of hq) (atI_nat (j := 1) rfl))
    refine q_when (b := decide (0 < a)) (et_test (ev_op (ix0 _ rfl) ev_c rv_I0)) (fun c H1 e1 => ?_) (fun c H1 e1 => ?_)
    · have c' : 0 < a := of_decide_eq_true c
      dsimp only [tSeq, tAsg, tCB]
      refine (ea_cons (ix0 _ rfl) (ea_cons (ev_var (i := 1) rfl) ea_nil)) H1 e1 _ fun H2 e2 => ⟨a, m, rfl, ⟨by omega, by omega⟩, fun p hp => ?_⟩
      have hq3 : (upd H2 p (.tup [.int (a / m), .int (a % m)])) q = some (.lst [.int a, .int b]) := (Ex.new hp) _ _ (e2 _ _ (e1 _ _ hq))
      refine ⟨p, _, rfl, st_of upd_same, rfl, _, _, rfl, ⟨_, rfl, q, _, 0, 0, rfl, rfl, hq3, rfl, _, _, rfl, rfl, _, rfl, ?_⟩⟩
      have hd1 := Int.emod_nonneg a (b := (m : Int)) (by omega)
      have hd2 := Int.emod_lt_of_pos a (b := (m : Int)) (by omega)
      have e3 : ((a % (m : Int)).toNat : Int) = a % (m : Int) := Int.toNat_of_nonneg hd1
      have kk := k (a % (m : Int)).toNat (upd (upd H2 p (.tup [.int (a / m), .int (a % m)])) q (.lst [.int (a / m), .int b])) (by omega) (del_upd ((e1.trans e2).trans (Ex.new hp))) (pot_set (Int.ediv_nonneg ha (by omega)) hb hb2)
      rw [e3] at kk
      exact kk
    · dsimp only [tSeq, tAsg]
      refine (ev_op (ev_cb (ea_cons (ev_op (ev_op (ix1 _ rfl) ev_c (rv_I (.inr ⟨by decide, by decide⟩))) ev_c rv_I0) ea_nil) rc_int) ev_c (rv_I (by decide))) H1 e1 _ fun H2 e2 => ?_
      have hq2 := e2 _ _ (e1 _ _ hq)
      refine ⟨_, rfl, q, _, 1, 1, rfl, rfl, hq2, rfl, ?_⟩
      have hb1 := Int.emod_nonneg (b * 39373 + 431) (b := 2147483629) (by decide)
      have hb2' := Int.emod_lt_of_pos (b * 39373 + 431) (b := 2147483629) (by decide)
      generalize (b * 39373 + 431) % 2147483629 = b2 at hb1 hb2'
      have e4 : Ex (del H q) (upd H2 q (.lst [.int a, .int b2])) := del_upd (e1.trans e2)
      have ix1' : ∀ σ : L2.St, σ[0]? = some (some (.ref q)) → Ev (tOp (rIxL K) (tVar 0) (tC (.int 1))) σ (upd H2 q (.lst [.int a, .int b2])) (.int b2) := fun σ hσ => ev_op (ev_var hσ) ev_c (rv_ixL (sq_of upd_same) (atI_nat (j := 1) rfl))
      refine s_ret (ev_op (ev_cb (ea_cons (ev_op (ev_op (ev_cb (ea_cons (ev_op (ix1' _ rfl) (ix1' _ rfl) (rv_I (.inl ⟨by omega, by omega⟩))) ea_nil) rc_int) ev_c (rv_I (by decide))) ev_c (rv_I ⟨by decide, by decide⟩)) ea_nil) rc_int) (ev_var (i := 1) rfl) (rv_I (by omega))) fun H5 e5 => ?_
      have hd1 := Int.emod_nonneg (b2 * b2 % 2147483587 / 13) (b := (m : Int)) (by omega)
      have hd2 := Int.emod_lt_of_pos (b2 * b2 % 2147483587 / 13) (b := (m : Int)) (by omega)
      have e3 := Int.toNat_of_nonneg hd1
      have kk := k (b2 * b2 % 2147483587 / 13 % (m : Int)).toNat H5 (by omega) (e4.trans e5) (pot_ex (pot_set ha hb1 (by omega)) e5)
      rw [e3] at kk
      exact kk
theorem ok_pick (B : Bt mg) (D : DefIn K mg "_law_pick" sLPick ["_law_pot_here", "_law_some"]) (h1 : Held P w K mg base CX0 1 "_law_draw" ["_law_pot_here", "_law_many"] spDraw) : Held P w K mg base CX0 2 "_law_pick" ["_law_pot_here", "_law_some"] spPick := by
  obtain ⟨f1, fd1, g1, k1, b1, G1⟩ := h1
  refine D.held fun f fd F => F.ok scLPick (fun vs H Q E h => ?_) (fun cdv A outer s H vs Q E hr h => ?_)
  · obtain ⟨q, a, ns, rfl, _⟩ := h
    rfl
  · obtain ⟨q, a, ns, rfl, hq, ha, ne, nn, hl, k⟩ := h
    refine ⟨_, pss_one (ps_ret (pe_ix (ix_listK (K := K)) (pv 1) (pe_call G1 (hr.mono (by decide)) (by rfl) g1 k1 b1 .nil pass0 (pa_cons (pv 0) (pa_cons (pe_callB (callLenK (K := K)) (by rfl) B.len PySem.boot_len (pa_cons (pv 1) pa_nil)) pa_nil))) (fun _ _ => rfl))), ?_⟩
    have hp : 0 < ns.length := List.length_pos_iff.mpr nn
    refine ⟨_, rfl, _, rfl, _, rfl, a, _, rfl, .inl (sq_of ha), q, ns.length, by rw [List.length_map] <;> rfl, hq, hp, hl, fun d H' hd e hq' => ?_⟩
    have ha' := e _ _ (del_some ha ne)
    refine ⟨a, _, d, .int (ns[d]), rfl, rfl, sq_of ha', atI_nat (by rw [List.getElem?_map, List.getElem?_eq_getElem hd] <;> rfl), k _ H' (List.getElem_mem hd) e hq'⟩
end
end RK

set_option Elab.async false
set_option linter.all false
set_option maxRecDepth 100000
set_option maxHeartbeats 4000000
namespace RK
open PySem L2 Evl
theorem seqIndex_nat {d n : Nat} (h : d < n) : seqIndex? (d : Int) n = some d := by
  unfold seqIndex?
  have h1 : ¬ ((d : Int) < 0) := by omega
  simp only [if_neg h1]
  have h2 : (decide (0 ≤ (d : Int)) && decide ((d : Int) < (n : Int))) = true := by simp; omega
  rw [if_pos h2, Int.toNat_natCast]
/-- entries that stay small -/
def Sm (r : Row) : Prop := ∀ x ∈ r, -1000 ≤ x ∧ x ≤ 1000
theorem Sm.at {r : Row} (h : Sm r) (i : Nat) : -1000 ≤ at0 r i ∧ at0 r i ≤ 1000 := by
  by_cases c : i < r.length
  · exact h _ (at0_mem c)
  · rw [at0_out (by omega)]
    omega
def spDot : Sp := fun vs H Q _ => ∃ (p : Int) (x y : V) (r o : Row), vs = [.int p, x, y] ∧ RowT H x r ∧ RowT H y o ∧ r.length = o.length ∧ r.length ≤ 100 ∧ Sm r ∧ 0 < p ∧ RetV (.int (dotL p r o)) H Q
def spLed : Sp := fun vs H Q _ => ∃ (p : Int) (x y : V) (r : Row) (t : Tab), vs = [.int p, x, y] ∧ RowT H x r ∧ TabT H y t ∧ t.length = r.length ∧ (∀ o ∈ t, o.length = wide t) ∧ r.length ≤ 100 ∧ wide t ≤ 100 ∧ Sm r ∧ 0 < p ∧ ∀ v H', Ex H H' → RowT H' v (ledL p r t) → Q v H'
def spBetween : Sp := fun vs H Q _ => ∃ (p : Int) (n : Nat) (g x y : V) (t : Tab) (r o : Row), vs = [.int p, g, x, y] ∧ TabT H g t ∧ RowT H x r ∧ RowT H y o ∧ t.length = n ∧ r.length = n ∧ o.length = n ∧ (∀ o ∈ t, o.length = n) ∧ n ≤ 100 ∧ Sm r ∧ 0 < p ∧ p ≤ 100 ∧ RetV (.int (betw p t r o)) H Q
def spUnits : Sp := fun vs H Q _ => ∃ (n : Nat), vs = [.int (n : Int)] ∧ n ≤ 100 ∧ ∀ v H', Ex H H' → TabT H' v (units n) → Q v H'
def spRoomBy : Sp := fun vs H Q _ => ∃ (p : Int) (n : Nat) (g x : V) (t u : Tab), vs = [.int p, g, x] ∧ TabT H g t ∧ TabT H x u ∧ t.length = n ∧ u.length = n ∧ (∀ o ∈ t, o.length = n) ∧ (∀ o ∈ u, o.length = n ∧ Sm o) ∧ n ≤ 100 ∧ 0 < p ∧ p ≤ 100 ∧ ∀ v H', Ex H H' → TabT H' v (roomBy p t u) → Q v H'
def spTurn : Sp := fun vs H Q _ => ∃ (p x : Int), vs = [.int p, .int x] ∧ Prime5 p ∧ 0 < x ∧ x < p ∧ RetV (.int (undP p x)) H Q
theorem led_sm {p : Int} {r : Row} {t : Tab} (hp : 0 < p) (hp2 : p ≤ 100) : Sm (ledL p r t) := fun x hx => by
  unfold ledL at hx
  obtain ⟨i, _, rfl⟩ := List.mem_map.mp hx
  have h1 := Int.emod_nonneg (((List.range r.length).map fun j => at0 r j * at0 (rowAt t j) i).sum) (b := p) (by omega)
  have h2 := Int.emod_lt_of_pos (((List.range r.length).map fun j => at0 r j * at0 (rowAt t j) i).sum) hp
  omega
theorem turn_pick {p x : Int} (h : Prime5 p) (h1 : 0 < x) (h2 : x < p) : (pick (p - 1).toNat (fun i => decide ((1 + (i : Int)) * x % p = 1)) (fun i => 1 + (i : Int)))[0]? = some (undP p x) := by
  rcases h with rfl | rfl | rfl | rfl | rfl
  · have : x = 1 ∨ x = 2 := by omega
    rcases this with rfl | rfl <;> decide +kernel
  · have : x = 1 ∨ x = 2 ∨ x = 3 ∨ x = 4 := by omega
    rcases this with rfl | rfl | rfl | rfl <;> decide +kernel
  · have : x = 1 ∨ x = 2 ∨ x = 3 ∨ x = 4 ∨ x = 5 ∨ x = 6 := by omega
    rcases this with rfl | rfl | rfl | rfl | rfl | rfl <;> decide +kernel
  · have : x = 1 ∨ x = 2 ∨ x = 3 ∨ x = 4 ∨ x = 5 ∨ x = 6 ∨ x = 7 ∨ x = 8 ∨ x = 9 ∨ x = 10 := by omega
    rcases this with rfl | rfl | rfl | rfl | rfl | rfl | rfl | rfl | rfl | rfl <;> decide +kernel
  · have : x = 1 ∨ x = 2 ∨ x = 3 ∨ x = 4 ∨ x = 5 ∨ x = 6 ∨ x = 7 ∨ x = 8 ∨ x = 9 ∨ x = 10 ∨ x = 11 ∨ x = 12 := by omega
    rcases this with rfl | rfl | rfl | rfl | rfl | rfl | rfl | rfl | rfl | rfl | rfl | rfl <;> decide +kernel
theorem map_range_zipN (r o : Row) (f : Int → Int → Int) (hl : r.length = o.length) : (List.range r.length).map (fun i => f (at0 r i) (at0 o i)) = List.zipWith f r o := map_range_zip r o f hl
/-- the second statement's returned expression -/
def retE2 (s : Stmt) : Expr := match defBody s with
  | [_, .Return (some e) _] => e
  | _ => .Constant .none 0 ⟨0, 0, 0, 0⟩
section
variable {P : Program} {w : World} {K : PySem.W.Frag} {mg : Str → Option Value} {base : Heap}
theorem ok_mixed (B : Bt mg) (D : DefIn K mg "_law_mixed" sLMixed ["_law_pot_here", "_law_some"]) (h1 : Held P w K mg base CX0 1 "_law_draw" ["_law_pot_here", "_law_many"] spDraw) : Held P w K mg base CX0 2 "_law_mixed" ["_law_pot_here", "_law_some"] spMixed := by
  obtain ⟨f1, fd1, g1, k1, b1, G1⟩ := h1
  refine D.held fun f fd F => F.ok scLMixed (fun vs H Q E h => ?_) (fun cdv A outer s H vs Q E hr h => ?_)
  · obtain ⟨q, a, ws, rfl, _⟩ := h
    rfl
  · obtain ⟨q, a, ws, rfl, hq, ha, hz, k⟩ := h
    refine ⟨_, pss_cons (ps_par (i := 2) (j := 3) rfl scLMixed.nd rfl rfl (by decide) rfl rfl (pa_cons (pe_callTy (callListK (K := K)) (by rfl) B.list (by decide +kernel) (pa_cons (pv 1) pa_nil)) (pa_cons (pe_lst pa_nil) pa_nil)) (by rfl))
      (pss_cons (ps_for PassesOwn.never rfl (pi_range1 (by rfl) B.range (pa_cons (pe_callB (callLenK (K := K)) (by rfl) B.len PySem.boot_len (pa_cons (pv 1) pa_nil)) pa_nil)) (pg_name (i := 4) scLMixed.nd rfl (Or.inl rfl))
        (pss_one (ps_expr (pe_bm PySem.F.plainAttrs_list PySem.F.slot_list_append PySem.F.type_list_append mt_append (pv 3) (pa_cons (pe_bm PySem.F.plainAttrs_list PySem.F.slot_list_pop PySem.F.type_list_pop mt_popAt (pv 2)
          (pa_cons (pe_call G1 (hr.mono (by decide)) (by rfl) g1 k1 b1 .nil pass0 (pa_cons (pv 0) (pa_cons (pe_callB (callLenK (K := K)) (by rfl) B.len PySem.boot_len (pa_cons (pv 2) pa_nil)) pa_nil))) pa_nil)) pa_nil)))))
      (pss_one (ps_ret (pv 3)))), ?_⟩
    have aq := pot_ne hq ha
    refine ⟨_, rfl, a, ws, rfl, .inr (st_of ha), fun L hL => ⟨by decide, fun F hF => ⟨_, _, rfl, ?_⟩⟩⟩
    have eF : Ex H (upd (upd H L (.lst ws)) F (.lst [])) := (Ex.new hL).trans (Ex.new hF)
    have hFn : H F = none := fresh_back (Ex.new hL) hF
    have hLF : L ≠ F := fun z => by rw [z, upd_same] at hF; cases hF
    have Lq := pot_new hq hL
    have Fq := pot_new hq hFn
    dsimp only
    refine q_forR1 (n := (ws.length : Nat)) (ea_cons (ev_lenS (K := K) (ev_var rfl) (.inr (eF _ _ ha))) ea_nil) (by omega) (fun i σ' H' => ∃ (ls fs : List V) (u4 : Option V), σ' = [some (.ref q), some (.ref a), some (.ref L), some (.ref F), u4] ∧ Ex (del H q) H' ∧ Pot H' q ∧
        H' L = some (.lst ls) ∧ H' F = some (.lst fs) ∧ ls.length + i = ws.length ∧ fs.length = i ∧ (∀ v ∈ ls, v ∈ ws) ∧ (∀ v ∈ fs, v ∈ ws)) (fun H1 e => ?_) ?_ ?_
    · refine ⟨ws, [], none, rfl, del_ex.trans (eF.trans e), pot_ex hq (eF.trans e), e _ _ ?_, e _ _ upd_same, rfl, rfl, fun _ h => h, fun v h => by cases h⟩
      rw [upd_ne hLF, upd_same]
    · rintro i σ' H' hi ⟨ls, fs, u4, rfl, eH, hq', hL', hF', l1, l2, m1, m2⟩
      refine ⟨_, rfl, .inl ⟨rfl, fs, sq_of hF'⟩, _, rfl, .inl ⟨rfl, ls, sq_of hL'⟩, _, rfl, _, rfl, L, ls, rfl, .inl (sq_of hL'), q, ls.length, rfl, hq', by omega, by omega, fun d H2 hd e2 hq2 => ?_⟩
      have hL2 := e2 _ _ (del_some hL' Lq)
      have hF2 := e2 _ _ (del_some hF' Fq)
      have hF3 : (upd H2 L (.lst (ls.eraseIdx d))) F = some (.lst fs) := (upd_ne (Ne.symm hLF)).trans hF2
      refine ⟨L, ls, (d : Int), d, ls[d], rfl, rfl, hL2, by omega, by omega, seqIndex_nat hd, List.getElem?_eq_getElem hd, F, fs, ls[d], rfl, rfl, hF3, sz_lt (by omega), ?_⟩
      have Bq : (del H q) L = none := by rw [del_ne Lq]; exact hL
      have BF : (del H q) F = none := by rw [del_ne Fq]; exact hFn
      have e4 : Ex (del H q) H2 := Ex.dr del_same eH e2
      refine ⟨ls.eraseIdx d, fs ++ [ls[d]], _, rfl, Ex.mut (Ex.mut e4 Bq) BF, ?_, ?_, upd_same, ?_, ?_, fun v hv => m1 v (List.mem_of_mem_eraseIdx hv), fun v hv => ?_⟩
      · obtain ⟨x, y, h1, h2⟩ := hq2
        exact ⟨x, y, by rw [upd_ne (Ne.symm Fq), upd_ne (Ne.symm Lq)]; exact h1, h2⟩
      · rw [upd_ne hLF, upd_same]
      · rw [List.length_eraseIdx_of_lt hd]
        omega
      · rw [List.length_append, l2]
        rfl
      · rcases List.mem_append.mp hv with h | h
        · exact m2 v h
        · rw [List.mem_singleton.mp h]
          exact m1 _ (List.getElem_mem hd)
    · rintro σ' H' ⟨ls, fs, u4, rfl, eH, hq', hL', hF', l1, l2, m1, m2⟩
      rw [Int.toNat_natCast] at l1 l2
      exact ⟨_, rfl, k F fs H' hFn eH hq' hF' l2 m2⟩
theorem ok_dot (B : Bt mg) (D : DefIn K mg "_law_dot" sLDot ["_law_prime", "_law_one", "_law_other"]) : Held P w K mg base CX0 1 "_law_dot" ["_law_prime", "_law_one", "_law_other"] spDot := by
  refine D.held fun f fd F => F.ok scLDot (fun vs H Q E h => ?_) (fun cdv A outer s H vs Q E hr h => ?_)
  · obtain ⟨p, x, y, r, o, rfl, _⟩ := h
    rfl
  · obtain ⟨p, x, y, r, o, rfl, ⟨a, rfl, ha⟩, ⟨b, rfl, hb⟩, hl, hz, sm, hp, k⟩ := h
    refine ⟨_, pss_one (ps_ret (pe_op op_mod (pe_callTy callInt (by rfl) B.int (by decide +kernel) (pa_cons (pe_callB (callSumK (K := K) rfl) (by rfl) B.sum (by decide +kernel) (pa_cons (pe_lc (own := [("_law_mine", 3), ("_law_yours", 4)]) (g := gTup K 2 (gCons (gName 3) (gCons (gName 4) gNil))) (tt := tYes) rfl scLDot.nd (pi_zipK (K := K) (by rfl) B.zip (pa_cons (pv 1) (pa_cons (pv 2) pa_nil)))
      (blkOk_by (N := nLDot) (sc := defScope sLDot) (by decide +kernel)) (fun _ _ _ _ _ => pg_tupK (K := K) rfl (pgs_cons (pg_name (i := 3) scLDot.nd rfl (Or.inl rfl)) (pgs_cons (pg_name (i := 4) scLDot.nd rfl (Or.inl rfl)) pgs_nil))) (fun _ _ _ _ _ => pts_nil)
      (fun _ _ _ _ _ => pe_op op_mul (pv 3) (pv 4))) pa_nil)) pa_nil)) (pv 0))), ?_⟩
    refine s_ret (ev_op (ev_cb (ea_cons (evp_sum (K := K) (ns := List.zipWith (fun x y => x * y) r o) ((evlp_zipT (K := K) (a := a) (b := b) lf_int (fun _ => true) (fun i => at0 r i * at0 o i) (eap_of (ea_cons (ev_var rfl) (ea_cons (ev_var rfl) ea_nil)) fun H1 e => ⟨rfl, e _ _ ha, e _ _ hb⟩) (by simpa using hl) (by simp; omega) (fun _ _ => rfl)
      fun i u v H1 e h1 h2 => ⟨et_yes, fun _ => ?_⟩).imp fun vs H1 _ q => ?_)) ea_nil) rc_int) (ev_var rfl) (rv_I hp)) k
    · obtain ⟨rfl, _⟩ := row_item h1
      obtain ⟨rfl, _⟩ := row_item h2
      have := sm.at i
      exact ev_p (ev_op (ev_var rfl) (ev_var rfl) (rv_I (.inl ⟨by omega, by omega⟩))) fun _ _ => rfl
    · rw [pick_map, List.length_map, map_range_zip r o (fun x y => x * y) hl] at q
      exact q
theorem ok_led (B : Bt mg) (D : DefIn K mg "_law_led" sLLed ["_law_prime", "_law_row", "_law_table"]) : Held P w K mg base CX0 1 "_law_led" ["_law_prime", "_law_row", "_law_table"] spLed := by
  refine D.held fun f fd F => F.ok scLLed (fun vs H Q E h => ?_) (fun cdv A outer s H vs Q E hr h => ?_)
  · obtain ⟨p, x, y, r, t, rfl, _⟩ := h
    rfl
  · obtain ⟨p, x, y, r, t, rfl, ⟨a, rfl, ha⟩, ⟨b, ws, rfl, hb, hw⟩, hl, hsq, hz, hz2, sm, hp, k⟩ := h
    have hwl := hw.length
    refine ⟨_, pss_cons (ps_asg (pe_ifExp (pt_cmpR op_gt (pe_callB (callLenK (K := K)) (by rfl) B.len PySem.boot_len (pa_cons (pv 2) pa_nil)) pe_int (nomark _)) (pe_callB (callLenK (K := K)) (by rfl) B.len PySem.boot_len (pa_cons (pe_ix (ix_tupK (K := K)) (pv 2) pe_int (fun _ _ => rfl)) pa_nil)) pe_int) (pg_name (i := 3) scLLed.nd rfl (Or.inl rfl)))
      (pss_one (ps_ret (pe_callTy (callTupK (K := K)) (by rfl) B.tuple (by decide +kernel) (pa_cons (pe_lc (own := [("_law_to", 4)]) (g := gName 4) (tt := tYes) rfl scLLed.nd (pi_range1 (by rfl) B.range (pa_cons (pv 3) pa_nil))
        (blkOk_by (N := nLLed) (sc := defScope sLLed) (by decide +kernel)) (fun _ _ _ _ _ => pg_name (i := 4) scLLed.nd rfl (Or.inr rfl)) (fun _ _ _ _ _ => pts_nil)
        (fun _ _ _ _ _ => pe_op op_mod (pe_callTy callInt (by rfl) B.int (by decide +kernel) (pa_cons (pe_callB (callSumK (K := K) rfl) (by rfl) B.sum (by decide +kernel) (pa_cons (pe_lc (own := [("_law_at", 5)]) (g := gName 5) (tt := tYes) rfl scLLed.nd (pi_range1 (by rfl) B.range (pa_cons (pe_callB (callLenK (K := K)) (by rfl) B.len PySem.boot_len (pa_cons (pv 1) pa_nil)) pa_nil))
          (blkOk_by (N := nLLed) (sc := relS (lcScope (argE (retE2 sLLed))) (defScope sLLed)) (by decide +kernel)) (fun _ _ _ _ _ => pg_name (i := 5) scLLed.nd rfl (Or.inl rfl)) (fun _ _ _ _ _ => pts_nil)
          (fun _ _ _ _ _ => pe_op op_mul (pe_ix (ix_tupK (K := K)) (pv 1) (pv 5) (fun _ _ => rfl)) (pe_ix (ix_tupK (K := K)) (pe_ix (ix_tupK (K := K)) (pv 2) (pv 5) (fun _ _ => rfl)) (pv 4) (fun _ _ => rfl)))) pa_nil)) pa_nil)) (pv 0))) pa_nil)))), ?_⟩
    refine q_asg (v := .int (wide t : Nat)) (ev_if (b := decide ((ws.length : Int) > 0)) (et_test (ev_op (ev_lenS (K := K) (ev_var rfl) (.inr hb)) ev_c rv_I0)) (fun c => ?_) (fun c => ?_)) fun H1 e1 => ?_
    · have c' : (ws.length : Int) > 0 := of_decide_eq_true c
      obtain ⟨x0, hx0, r0⟩ := rows_at hw (i := 0) (by omega)
      obtain ⟨a0, rfl, s0⟩ := r0.seq
      have e0 : wide t = (rowAt t 0).length := by
        cases t with
        | nil =>
          have : ws.length = 0 := hwl
          omega
        | cons r l => rfl
      rw [e0]
      exact ev_is (ev_lenS (K := K) (ev_op (ev_var rfl) ev_c (rv_ixT (st_of hb) (atI_nat (j := 0) hx0))) s0) (by simp)
    · have c' : ¬ (ws.length : Int) > 0 := of_decide_eq_false c
      have e0 : t = [] := List.eq_nil_of_length_eq_zero (by omega)
      rw [e0]
      exact ev_c
    · refine s_retP (evp_row (K := K) (evlp_rng (m := wide t) lf_int (fun _ => true) (fun j => ((List.range r.length).map fun i => at0 r i * at0 (rowAt t i) j).sum % p) (ea_cons (ev_var rfl) ea_nil) (by omega) (fun _ => rfl) fun j H2 e2 hj => ⟨et_yes, fun _ => ?_⟩) (pick_map _ _)) fun v H2 e2 q => k v H2 (e1.trans e2) q
      refine ev_p (ev_op (ev_cb (ea_cons (evp_sum (K := K) (ns := (List.range r.length).map fun i => at0 r i * at0 (rowAt t i) j) ((evlp_rng (m := r.length) lf_int (fun _ => true) (fun i => at0 r i * at0 (rowAt t i) j) (ea_cons (ev_is (ev_lenS (K := K) (xs := r.map V.int) (ev_var rfl) (.inr (e2 _ _ (e1 _ _ ha)))) (by simp)) ea_nil) (by omega) (fun _ => rfl) fun i H3 e3 hi => ⟨et_yes, fun _ => ?_⟩).imp fun vs H3 _ q => ?_)) ea_nil) rc_int) (ev_var rfl) (rv_I hp)) fun _ _ => rfl
      · obtain ⟨xr, hxr, rr⟩ := rows_at (rows_ex hw ((e1.trans e2).trans e3)) (i := i) (by omega)
        obtain ⟨ar, rfl, har⟩ := rr
        have := sm.at i
        have e4 := ((e1.trans e2).trans e3)
        refine ev_p (ev_op (ev_op (ev_var rfl) (ev_var rfl) (rv_ixT (st_of (e4 _ _ ha)) (atI_nat (row_at hi)))) (ev_op (ev_op (ev_var rfl) (ev_var rfl) (rv_ixT (st_of (e4 _ _ hb)) (atI_nat hxr))) (ev_var rfl) (rv_ixT (st_of har) (atI_nat (row_at (by rw [hsq _ (rowAt_mem (by omega))]; exact hj))))) (rv_I (.inl ⟨by omega, by omega⟩))) fun _ _ => rfl
      · rw [pick_map] at q
        exact q
end
end RK

set_option Elab.async false
set_option linter.all false
set_option maxRecDepth 100000
set_option maxHeartbeats 4000000
namespace RK
open PySem L2 Evl
def spLess : Sp := fun vs H Q _ => ∃ (p m : Int) (x y : V) (r o : Row), vs = [.int p, x, y, .int m] ∧ RowT H x r ∧ RowT H y o ∧ r.length = o.length ∧ r.length ≤ 100 ∧ 0 < p ∧ -1000 ≤ m ∧ m ≤ 1000 ∧ ∀ v H', Ex H H' → RowT H' v (sub1 p m r o) → Q v H'
def spLSteps : Sp := fun vs H Q _ => ∃ (p : Int) (x : V) (n : Nat) (t : Tab), vs = [.int p, x] ∧ TabL H x t ∧ t.length ≤ 40 ∧ n ≤ 40 ∧ Good p n t ∧ Prime5 p ∧ TabNew H (stepsL p (undP p) t) Q
theorem row_at_map (t : Tab) : (List.range t.length).map (rowAt t) = t := by
  rw [map_range_row t fun r => r]
  exact List.map_id t
theorem turnL_good {p : Int} {n k : Nat} {inv : Int → Int} {s : Tab × Tab} (hp : 0 < p) (g1 : Good p n s.1) (g2 : Good p n s.2) : Good p n (turnL p inv k s).1 ∧ Good p n (turnL p inv k s).2 := by
  unfold turnL
  split
  · exact ⟨g1, g2⟩
  · rename_i h t e
    have hm : h ∈ s.1 := by
      have : h ∈ s.1.filter (fun r => decide (at0 r k ≠ 0)) := by rw [e]; exact List.mem_cons_self
      exact (List.mem_filter.mp this).1
    have gh : GoodR p n (scl p (inv (at0 h k)) h) := scl_good hp (g1 h hm).1
    refine ⟨fun r hr => ?_, fun r hr => ?_⟩
    · obtain ⟨r2, h2, rfl⟩ := List.mem_map.mp hr
      exact sub1_good hp (g1 _ h2).1 gh.1
    · rcases List.mem_append.mp hr with hr | hr
      · obtain ⟨r2, h2, rfl⟩ := List.mem_map.mp hr
        exact sub1_good hp (g2 _ h2).1 gh.1
      · rw [List.mem_singleton.mp hr]
        exact gh
theorem runL_good {p : Int} {n : Nat} {inv : Int → Int} {t : Tab} (hp : 0 < p) (g : Good p n t) : ∀ k, Good p n (runL p inv t k).1 ∧ Good p n (runL p inv t k).2
  | 0 => ⟨g, fun r hr => by simp [runL] at hr⟩
  | k + 1 => by
    have h := runL_good (inv := inv) hp g k
    exact turnL_good hp h.1 h.2
theorem turnL_len {p : Int} {k : Nat} {inv : Int → Int} {s : Tab × Tab} : (turnL p inv k s).1.length ≤ s.1.length ∧ (turnL p inv k s).2.length ≤ s.2.length + 1 := by
  unfold turnL
  split
  · exact ⟨Nat.le_refl _, Nat.le_succ _⟩
  · exact ⟨by simp, by simp⟩
theorem runL_len {p : Int} {inv : Int → Int} {t : Tab} : ∀ k, (runL p inv t k).1.length ≤ t.length ∧ (runL p inv t k).2.length ≤ k
  | 0 => ⟨Nat.le_refl _, by simp [runL]⟩
  | k + 1 => by
    have h := runL_len (p := p) (inv := inv) (t := t) k
    have h2 := turnL_len (p := p) (k := k) (inv := inv) (s := runL p inv t k)
    exact ⟨by show (turnL p inv k (runL p inv t k)).1.length ≤ _; omega, by show (turnL p inv k (runL p inv t k)).2.length ≤ _; omega⟩
theorem scl_comm (p m : Int) (r : Row) : r.map (fun a => a * m % p) = scl p m r := by
  unfold scl
  congr 1
  funext a
  rw [Int.mul_comm]
section
variable {P : Program} {w : World} {K : PySem.W.Frag} {mg : Str → Option Value} {base : Heap}
theorem ok_between (D : DefIn K mg "_law_between" sLBetween ["_law_prime", "_law_grid_here", "_law_one", "_law_other"]) (h1 : Held P w K mg base CX0 1 "_law_dot" ["_law_prime", "_law_one", "_law_other"] spDot)
    (h2 : Held P w K mg base CX0 1 "_law_led" ["_law_prime", "_law_row", "_law_table"] spLed) : Held P w K mg base CX0 2 "_law_between" ["_law_prime", "_law_grid_here", "_law_one", "_law_other"] spBetween := by
  obtain ⟨f1, fd1, g1, k1, b1, G1⟩ := h1
  obtain ⟨f2, fd2, g2, k2, b2, G2⟩ := h2
  refine D.held fun f fd F => F.ok scLBetween (fun vs H Q E h => ?_) (fun cdv A outer s H vs Q E hr h => ?_)
  · obtain ⟨p, n, g, x, y, t, r, o, rfl, _⟩ := h
    rfl
  · obtain ⟨p, n, g, x, y, t, r, o, rfl, hg, hx, hy, l1, l2, l3, hsq, hz, sm, hp, hp2, k⟩ := h
    refine ⟨_, pss_one (ps_ret (pe_call G1 (hr.mono (by decide)) (by rfl) g1 k1 b1 .nil pass0 (pa_cons (pv 0) (pa_cons (pe_call G2 (hr.mono (by decide)) (by rfl) g2 k2 b2 .nil pass0 (pa_cons (pv 0) (pa_cons (pv 2) (pa_cons (pv 1) pa_nil)))) (pa_cons (pv 3) pa_nil))))), ?_⟩
    have hw := wide_sq l1 hsq
    refine ⟨_, rfl, _, rfl, _, rfl, _, rfl, p, x, g, r, t, rfl, hx, hg, by omega, fun o ho => by rw [hsq o ho, hw], by omega, by omega, sm, hp, fun v H1 e1 hv => ?_⟩
    exact ⟨_, rfl, p, v, y, _, o, rfl, hv, hy.ex e1, by rw [led_len]; omega, by rw [led_len]; omega, led_sm hp hp2, hp, fun H2 e2 => k H2 (e1.trans e2)⟩
theorem ok_units (B : Bt mg) (D : DefIn K mg "_law_units" sLUnits ["_law_size"]) : Held P w K mg base CX0 1 "_law_units" ["_law_size"] spUnits := by
  refine D.held fun f fd F => F.ok scLUnits (fun vs H Q E h => ?_) (fun cdv A outer s H vs Q E hr h => ?_)
  · obtain ⟨n, rfl, _⟩ := h
    rfl
  · obtain ⟨n, rfl, hn, k⟩ := h
    refine ⟨_, pss_one (ps_ret (pe_callTy (callTupK (K := K)) (by rfl) B.tuple (by decide +kernel) (pa_cons (pe_lc (own := [("_law_at", 1)]) (g := gName 1) (tt := tYes) rfl scLUnits.nd (pi_range1 (by rfl) B.range (pa_cons (pv 0) pa_nil))
      (blkOk_by (N := nLUnits) (sc := defScope sLUnits) (by decide +kernel)) (fun _ _ _ _ _ => pg_name (i := 1) scLUnits.nd rfl (Or.inr rfl)) (fun _ _ _ _ _ => pts_nil)
      (fun _ _ _ _ _ => pe_callTy (callTupK (K := K)) (by rfl) B.tuple (by decide +kernel) (pa_cons (pe_lc (own := [("_law_to", 2)]) (g := gName 2) (tt := tYes) rfl scLUnits.nd (pi_range1 (by rfl) B.range (pa_cons (pv 0) pa_nil))
        (blkOk_by (N := nLUnits) (sc := relS (lcScope (argE (retE sLUnits))) (defScope sLUnits)) (by decide +kernel)) (fun _ _ _ _ _ => pg_name (i := 2) scLUnits.nd rfl (Or.inl rfl)) (fun _ _ _ _ _ => pts_nil)
        (fun _ _ _ _ _ => pe_callTy callInt (by rfl) B.int (by decide +kernel) (pa_cons (pe_cmpR op_eq (pv 1) (pv 2) (nomark _)) pa_nil))) pa_nil))) pa_nil))), ?_⟩
    refine s_retP (evp_tab (K := K) (evlp_rng (m := n) lf_row (fun _ => true) (unitRow n) (ea_cons (ev_var rfl) ea_nil) (by omega) (fun _ => rfl) fun j H1 e hj => ⟨et_yes, fun _ => ?_⟩) (pick_map _ _)) k
    refine evp_row (K := K) (evlp_rng (m := n) lf_int (fun _ => true) (fun i => if j = i then 1 else 0) (ea_cons (ev_var rfl) ea_nil) (by omega) (fun _ => rfl) fun i H2 e2 hi => ⟨et_yes, fun _ => ?_⟩) (pick_map _ _)
    refine ev_p (ev_cb (ea_cons (ev_op (ev_var rfl) (ev_var rfl) (rv_eq rfl)) ea_nil) rc_intB) fun _ _ => ?_
    by_cases c : j = i
    · subst c
      simp
    · have c2 : ¬ (j : Int) = (i : Int) := by omega
      simp [c, c2]
theorem ok_roomBy (B : Bt mg) (D : DefIn K mg "_law_room_by" sLRoomBy ["_law_prime", "_law_grid_here", "_law_table"]) (h1 : Held P w K mg base CX0 2 "_law_between" ["_law_prime", "_law_grid_here", "_law_one", "_law_other"] spBetween) :
    Held P w K mg base CX0 3 "_law_room_by" ["_law_prime", "_law_grid_here", "_law_table"] spRoomBy := by
  obtain ⟨f1, fd1, g1, k1, b1, G1⟩ := h1
  refine D.held fun f fd F => F.ok scLRoomBy (fun vs H Q E h => ?_) (fun cdv A outer s H vs Q E hr h => ?_)
  · obtain ⟨p, n, g, x, t, u, rfl, _⟩ := h
    rfl
  · obtain ⟨p, n, g, x, t, u, rfl, hg, ⟨a, ws, rfl, ha, hw⟩, l1, l2, hsq, hu, hz, hp, hp2, k⟩ := h
    have hwl := hw.length
    refine ⟨_, pss_one (ps_ret (pe_callTy (callTupK (K := K)) (by rfl) B.tuple (by decide +kernel) (pa_cons (pe_lc (own := [("_law_one", 3)]) (g := gName 3) (tt := tYes) rfl scLRoomBy.nd (pi_tupK (K := K) (pv 2))
      (blkOk_by (N := nLRoomBy) (sc := defScope sLRoomBy) (by decide +kernel)) (fun _ _ _ _ _ => pg_name (i := 3) scLRoomBy.nd rfl (Or.inr rfl)) (fun _ _ _ _ _ => pts_nil)
      (fun _ _ _ _ _ => pe_callTy (callTupK (K := K)) (by rfl) B.tuple (by decide +kernel) (pa_cons (pe_lc (own := [("_law_other", 4)]) (g := gName 4) (tt := tYes) rfl scLRoomBy.nd (pi_tupK (K := K) (pv 2))
        (blkOk_by (N := nLRoomBy) (sc := relS (lcScope (argE (retE sLRoomBy))) (defScope sLRoomBy)) (by decide +kernel)) (fun _ _ _ _ _ => pg_name (i := 4) scLRoomBy.nd rfl (Or.inl rfl)) (fun _ _ _ _ _ => pts_nil)
        (fun _ _ _ _ _ => pe_call G1 (hr.mono (by decide)) (by rfl) g1 k1 b1 .nil pass0 (pa_cons (pv 0) (pa_cons (pv 1) (pa_cons (pv 3) (pa_cons (pv 4) pa_nil)))))) pa_nil))) pa_nil))), ?_⟩
    refine s_retP (evp_tab (K := K) (l := roomBy p t u) ((evlp_tup (a := a) lf_row (fun _ => true) (fun i => u.map fun b => betw p t (rowAt u i) b) (ev_var rfl) ha (by omega) (fun _ => rfl) fun i x1 H1 e1 h1 => ⟨et_yes, fun _ => ?_⟩).imp fun vs H1 _ q => ?_) rfl) k
    · obtain ⟨r1, hi⟩ := rows_item (rows_ex hw e1) h1
      refine evp_row (K := K) (l := u.map fun b => betw p t (rowAt u i) b) ((evlp_tup (a := a) lf_int (fun _ => true) (fun j => betw p t (rowAt u i) (rowAt u j)) (ev_var rfl) (e1 _ _ ha) (by omega) (fun _ => rfl) fun j x2 H2 e2 h2 => ⟨et_yes, fun _ => ?_⟩).imp fun vs H2 _ q => ?_) rfl
      · obtain ⟨r2, hj⟩ := rows_item (rows_ex hw (e1.trans e2)) h2
        refine evp_call (PL := fun vs _ => vs = [.int p, g, x1, x2]) (eap_of (ea_cons (ev_var rfl) (ea_cons (ev_var rfl) (ea_cons (ev_var rfl) (ea_cons (ev_var rfl) ea_nil)))) fun _ _ => rfl) fun vs H3 e3 hv Q q => ?_
        subst hv
        have u1 := hu _ (rowAt_mem hi)
        have u2 := hu _ (rowAt_mem hj)
        exact ⟨p, n, g, x1, x2, t, _, _, rfl, hg.ex ((e1.trans e2).trans e3), r1.ex (e2.trans e3), r2.ex e3, l1, u1.1, u2.1, hsq, hz, u1.2, hp, hp2, fun H4 e4 => q _ H4 e4 rfl⟩
      · rw [pick_map, hwl, map_range_row u fun b => betw p t (rowAt u i) b] at q
        exact q
    · rw [pick_map, hwl, map_range_row u fun a => u.map fun b => betw p t a b] at q
      exact q
theorem ok_turn (B : Bt mg) (D : DefIn K mg "_law_turn" sLTurn ["_law_prime", "_law_rest"]) : Held P w K mg base CX0 1 "_law_turn" ["_law_prime", "_law_rest"] spTurn := by
  refine D.held fun f fd F => F.ok scLTurn (fun vs H Q E h => ?_) (fun cdv A outer s H vs Q E hr h => ?_)
  · obtain ⟨p, x, rfl, _⟩ := h
    rfl
  · obtain ⟨p, x, rfl, hp, h1, h2, k⟩ := h
    have pp := prime_pos hp
    refine ⟨_, pss_one (ps_ret (pe_ix (ix_listK (K := K)) (pe_lc (own := [("_law_one", 2)]) (g := gName 2) rfl scLTurn.nd (pi_range2 (by rfl) B.range (pa_cons pe_int (pa_cons (pv 0) pa_nil)))
      (blkOk_by (N := nLTurn) (sc := defScope sLTurn) (by decide +kernel)) (fun _ _ _ _ _ => pg_name (i := 2) scLTurn.nd rfl (Or.inl rfl))
      (fun _ _ _ _ _ => pts_one (pt_cmpR op_eq (pe_op op_mod (pe_op op_mul (pv 2) (pv 1)) (pv 0)) pe_int (nomark _))) (fun _ _ _ _ _ => pv 2)) pe_int (fun _ _ => rfl))), ?_⟩
    refine s_ret ?_ k
    intro H1 e Q1 q1
    refine (evlp_rng2 (lo := 1) (hi := p) lf_int (fun i => decide ((1 + (i : Int)) * x % p = 1)) (fun i => 1 + (i : Int)) (ea_cons ev_c (ea_cons (ev_var rfl) ea_nil)) ⟨by omega, by omega, by omega, by omega⟩ (fun _ => rfl)
      fun i H2 e2 hi => ⟨?_, fun _ => ev_p (ev_var rfl) fun _ _ => rfl⟩) H1 e _ fun pl vs H2 n e2 hpl p2 => ?_
    · refine et_is (et_test (ev_op (ev_op (ev_op (ev_var rfl) (ev_var rfl) (rv_I (.inl ⟨by omega, by omega⟩))) (ev_var rfl) (rv_I (by omega))) ev_c (rv_eq rfl))) ?_
      by_cases c : (1 + (i : Int)) * x % p = 1 <;> simp [c]
    · have e3 := paired_int p2
      refine ⟨pl, vs, 0, _, rfl, rfl, sq_of hpl, ?_, q1 H2 e2⟩
      rw [e3]
      exact atI_nat (j := 0) (by rw [List.getElem?_map, turn_pick hp h1 h2] <;> rfl)
theorem ok_less (B : Bt mg) (D : DefIn K mg "_law_less" sLLess ["_law_prime", "_law_row", "_law_head", "_law_much"]) : Held P w K mg base CX0 1 "_law_less" ["_law_prime", "_law_row", "_law_head", "_law_much"] spLess := by
  refine D.held fun f fd F => F.ok scLLess (fun vs H Q E h => ?_) (fun cdv A outer s H vs Q E hr h => ?_)
  · obtain ⟨p, m, x, y, r, o, rfl, _⟩ := h
    rfl
  · obtain ⟨p, m, x, y, r, o, rfl, ⟨a, rfl, ha⟩, ⟨b, rfl, hb⟩, hl, hz, hp, hm1, hm2, k⟩ := h
    refine ⟨_, pss_one (ps_ret (pe_callTy (callTupK (K := K)) (by rfl) B.tuple (by decide +kernel) (pa_cons (pe_lc (own := [("_law_number", 4), ("_law_other", 5)]) (g := gTup K 2 (gCons (gName 4) (gCons (gName 5) gNil))) (tt := tYes) rfl scLLess.nd (pi_zipK (K := K) (by rfl) B.zip (pa_cons (pv 1) (pa_cons (pv 2) pa_nil)))
      (blkOk_by (N := nLLess) (sc := defScope sLLess) (by decide +kernel)) (fun _ _ _ _ _ => pg_tupK (K := K) rfl (pgs_cons (pg_name (i := 4) scLLess.nd rfl (Or.inl rfl)) (pgs_cons (pg_name (i := 5) scLLess.nd rfl (Or.inl rfl)) pgs_nil))) (fun _ _ _ _ _ => pts_nil)
      (fun _ _ _ _ _ => pe_op op_mod (pe_op op_sub (pv 4) (pe_op op_mul (pv 3) (pv 5))) (pv 0))) pa_nil))), ?_⟩
    refine s_retP (evp_row (K := K) (evlp_zipT (a := a) (b := b) lf_int (fun _ => true) (fun i => (at0 r i - m * at0 o i) % p) (eap_of (ea_cons (ev_var rfl) (ea_cons (ev_var rfl) ea_nil)) fun H1 e => ⟨rfl, e _ _ ha, e _ _ hb⟩) (by simpa using hl) (by simp; omega) (fun _ _ => rfl)
      fun i u v H1 e h1 h2 => ⟨et_yes, fun _ => ?_⟩) ?_) k
    · obtain ⟨rfl, _⟩ := row_item h1
      obtain ⟨rfl, _⟩ := row_item h2
      exact ev_p (ev_op (ev_op (ev_var rfl) (ev_op (ev_var rfl) (ev_var rfl) (rv_I (.inl ⟨by omega, by omega⟩))) rv_I0) (ev_var rfl) (rv_I hp)) fun _ _ => rfl
    · rw [pick_map, List.length_map]
      exact map_range_zip r o (fun x y => (x - m * y) % p) hl
end
end RK

set_option Elab.async false
set_option linter.all false
set_option maxRecDepth 100000
set_option maxHeartbeats 4000000
namespace RK
open PySem L2 Evl
def spAngles : Sp := fun vs H Q _ => ∃ (p : Int) (g x : V) (n : Nat) (t u : Tab), vs = [.int p, g, x] ∧ TabT H g t ∧ TabT H x u ∧ t.length = n ∧ u.length ≤ 40 ∧ n ≤ 40 ∧ (∀ o ∈ t, o.length = n) ∧ (∀ o ∈ u, o.length = n ∧ Sm o) ∧ Prime5 p ∧
  TabNew H (stepsL p (undP p) (zerosOf p n (stepsL p (undP p) (u.map fun r => ledL p r t)))) Q
def spLStill : Sp := fun vs H Q _ => ∃ (p : Int) (g : V) (t : Tab), vs = [.int p, g] ∧ TabT H g t ∧ Gr p t ∧ TabNew H (lawStill p (undP p) t) Q
theorem led_good {p : Int} {n : Nat} {t u : Tab} (hp : 0 < p) (l : t.length = n) (hsq : ∀ o ∈ t, o.length = n) : Good p n (u.map fun r => ledL p r t) := fun r hr => by
  obtain ⟨o, _, rfl⟩ := List.mem_map.mp hr
  refine ⟨by rw [led_len, wide_sq l hsq], fun x hx => ?_⟩
  unfold ledL at hx
  obtain ⟨i, _, rfl⟩ := List.mem_map.mp hx
  exact ⟨Int.emod_nonneg _ (by omega), Int.emod_lt_of_pos _ hp⟩
theorem unitRow_sm (n i : Nat) : Sm (unitRow n i) := fun x hx => by
  unfold unitRow at hx
  obtain ⟨j, _, rfl⟩ := List.mem_map.mp hx
  split <;> omega
section
variable {P : Program} {w : World} {K : PySem.W.Frag} {mg : Str → Option Value} {base : Heap}
theorem ok_lsteps (B : Bt mg) (D : DefIn K mg "_law_steps" sLSteps ["_law_prime", "_law_rows"]) (h1 : Held P w K mg base CX0 1 "_law_turn" ["_law_prime", "_law_rest"] spTurn)
    (h3 : Held P w K mg base CX0 1 "_law_less" ["_law_prime", "_law_row", "_law_head", "_law_much"] spLess) : Held P w K mg base CX0 2 "_law_steps" ["_law_prime", "_law_rows"] spLSteps := by
  obtain ⟨f1, fd1, g1, k1, b1, G1⟩ := h1
  obtain ⟨f3, fd3, g3, k3, b3, G3⟩ := h3
  refine D.held fun f fd F => F.ok scLSteps (fun vs H Q E h => ?_) (fun cdv A outer s H vs Q E hr h => ?_)
  · obtain ⟨p, x, n, t, rfl, _⟩ := h
    rfl
  · obtain ⟨p, x, n, t, rfl, ⟨a, ws, rfl, ha, hw⟩, hz, hn, g, hpr, k⟩ := h
    have pp := prime_pos hpr
    refine ⟨_, pss_cons (ps_par (i := 2) (j := 3) rfl scLSteps.nd rfl rfl (by decide) rfl rfl (pa_cons (pe_lc (own := [("_law_row", 4)]) (g := gName 4) (tt := tYes) rfl scLSteps.nd (pi_listK (K := K) (pv 1))
        (blkOk_by (N := nLSteps) (sc := defScope sLSteps) (by decide +kernel)) (fun _ _ _ _ _ => pg_name (i := 4) scLSteps.nd rfl (Or.inl rfl)) (fun _ _ _ _ _ => pts_nil) (fun _ _ _ _ _ => pe_callTy (callTupK (K := K)) (by rfl) B.tuple (by decide +kernel) (pa_cons (pv 4) pa_nil))) (pa_cons (pe_lst pa_nil) pa_nil)) (by rfl))
      (pss_cons (ps_for PassesOwn.never rfl (pi_range1 (by rfl) B.range (pa_cons (pe_ifExp (pt_cmpR op_gt (pe_callB (callLenK (K := K)) (by rfl) B.len PySem.boot_len (pa_cons (pv 1) pa_nil)) pe_int (nomark _))
          (pe_callB (callLenK (K := K)) (by rfl) B.len PySem.boot_len (pa_cons (pe_ix (ix_listK (K := K)) (pv 1) pe_int (fun _ _ => rfl)) pa_nil)) pe_int) pa_nil)) (pg_name (i := 5) scLSteps.nd rfl (Or.inr rfl))
        (pss_cons (ps_setLc (i := 6) (own := [("_law_row", 4)]) (g := gName 4) rfl scLSteps.nd rfl rfl (by rfl) (pi_listK (K := K) (pv 2)) (blkOk_by (N := nLSteps) (sc := defScope sLSteps) (by decide +kernel)) (fun _ _ _ _ _ => pg_name (i := 4) scLSteps.nd rfl (Or.inl rfl))
          (fun _ _ _ _ _ => pts_one (pt_cmpR op_ne (pe_ix (ix_tupK (K := K)) (pv 4) (pv 5) (fun _ _ => rfl)) pe_int (nomark _))) (fun _ _ _ _ _ => pv 4))
        (pss_one (ps_if (pt_cmpR (op_neDK (K := K) hr.units) (pv 6) (pe_lst pa_nil) (nomark _))
          (pss_cons (ps_asg (g := gName 7) (pe_call G1 (hr.mono (by decide)) (by rfl) g1 k1 b1 .nil pass0 (pa_cons (pv 0) (pa_cons (pe_ix (ix_tupK (K := K)) (pe_ix (ix_listK (K := K)) (pv 6) pe_int (fun _ _ => rfl)) (pv 5) (fun _ _ => rfl)) pa_nil))) (pg_name (i := 7) scLSteps.nd rfl (Or.inr rfl)))
          (pss_cons (ps_asg (g := gName 8) (pe_callTy (callTupK (K := K)) (by rfl) B.tuple (by decide +kernel) (pa_cons (pe_lc (own := [("_law_number", 9)]) (g := gName 9) (tt := tYes) rfl scLSteps.nd (pi_tupK (K := K) (pe_ix (ix_listK (K := K)) (pv 6) pe_int (fun _ _ => rfl)))
              (blkOk_by (N := nLSteps) (sc := defScope sLSteps) (by decide +kernel)) (fun _ _ _ _ _ => pg_name (i := 9) scLSteps.nd rfl (Or.inl rfl)) (fun _ _ _ _ _ => pts_nil) (fun _ _ _ _ _ => pe_op op_mod (pe_op op_mul (pv 9) (pv 7)) (pv 0))) pa_nil)) (pg_name (i := 8) scLSteps.nd rfl (Or.inr rfl)))
          (pss_cons (ps_setLc (i := 2) (own := [("_law_row", 4)]) (g := gName 4) (tt := tYes) rfl scLSteps.nd rfl rfl (by rfl) (pi_listK (K := K) (pv 2)) (blkOk_by (N := nLSteps) (sc := defScope sLSteps) (by decide +kernel)) (fun _ _ _ _ _ => pg_name (i := 4) scLSteps.nd rfl (Or.inl rfl))
            (fun _ _ _ _ _ => pts_nil) (fun _ _ _ _ _ => pe_call G3 (hr.mono (by decide)) (by rfl) g3 k3 b3 .nil pass0 (pa_cons (pv 0) (pa_cons (pv 4) (pa_cons (pv 8) (pa_cons (pe_ix (ix_tupK (K := K)) (pv 4) (pv 5) (fun _ _ => rfl)) pa_nil))))))
          (pss_one (ps_set (i := 3) scLSteps.nd rfl (Or.inl rfl) (pe_op op_cat (pe_lc (own := [("_law_row", 4)]) (g := gName 4) (tt := tYes) rfl scLSteps.nd (pi_listK (K := K) (pv 3)) (blkOk_by (N := nLSteps) (sc := defScope sLSteps) (by decide +kernel)) (fun _ _ _ _ _ => pg_name (i := 4) scLSteps.nd rfl (Or.inl rfl))
            (fun _ _ _ _ _ => pts_nil) (fun _ _ _ _ _ => pe_call G3 (hr.mono (by decide)) (by rfl) g3 k3 b3 .nil pass0 (pa_cons (pv 0) (pa_cons (pv 4) (pa_cons (pv 8) (pa_cons (pe_ix (ix_tupK (K := K)) (pv 4) (pv 5) (fun _ _ => rfl)) pa_nil))))))
            (pe_lst (pa_cons (pv 8) pa_nil))))))))
          pss_nil))))
      (pss_one (ps_ret (pv 3)))), ?_⟩
    have hwl := hw.length
    dsimp only [tSeq, tPar]
    refine (evlp_list (K := K) (a := a) lf_row (fun _ => true) (rowAt t) (ev_var rfl) ha (by omega) (fun _ => rfl) fun j x H1 e1 h => ⟨et_yes, fun _ => ?_⟩) H (Ex.refl H) _ fun L ls H1 nL e1 hL pL => ⟨by decide, fun Fa nF => ⟨_, _, rfl, ?_⟩⟩
    · obtain ⟨⟨b, rfl, hb⟩, hj⟩ := rows_item (rows_ex hw e1) h
      intro H2 e2 Q q
      exact ⟨_, rfl, b, _, rfl, .inr ⟨st_of (e2 _ _ hb), q _ H2 (Ex.refl H2) ⟨b, rfl, e2 _ _ hb⟩⟩⟩
    have pL : Paired (RowT H1) ls t := by
      rw [pick_map, hwl, row_at_map t] at pL
      exact pL
    have hFn : H Fa = none := fresh_back e1 nF
    have hLF : L ≠ Fa := fun z => by rw [z] at hL; rw [hL] at nF; cases nF
    have gw := good_wide g
    have eF : Ex H (upd H1 Fa (.lst [])) := e1.trans (Ex.new nF)
    refine q_forR1 (n := (wide t : Nat)) (ea_cons ?_ ea_nil) (by omega) (fun i σ' H' => ∃ (L F : Addr) (ls fs : List V) (u4 u5 u6 u7 u8 u9 : Option V), σ' = [some (.int p), some (.ref a), some (.ref L), some (.ref F), u4, u5, u6, u7, u8, u9] ∧ Ex H H' ∧ H F = none ∧
        H' L = some (.lst ls) ∧ Paired (RowT H') ls (runL p (undP p) t i).1 ∧ H' F = some (.lst fs) ∧ Paired (RowT H') fs (runL p (undP p) t i).2) (fun H2 e => ?_) ?_ ?_
    · refine ev_if (b := decide ((ws.length : Int) > 0)) (et_test (ev_op (ev_lenS (K := K) (ev_var rfl) (.inl (eF _ _ ha))) ev_c rv_I0)) (fun c => ?_) (fun c => ?_)
      · have c' : (ws.length : Int) > 0 := of_decide_eq_true c
        obtain ⟨x0, hx0, r0⟩ := rows_at hw (i := 0) (by omega)
        obtain ⟨a0, rfl, s0⟩ := r0.seq
        have e0 : wide t = (rowAt t 0).length := by
          cases t with
          | nil =>
            have : ws.length = 0 := hwl
            omega
          | cons r l => rfl
        rw [e0]
        exact ev_is (ev_lenS (K := K) (ev_op (ev_var rfl) ev_c (rv_ixL (sq_of (eF _ _ ha)) (atI_nat (j := 0) hx0))) (s0.ex eF)) (by simp)
      · have c' : ¬ (ws.length : Int) > 0 := of_decide_eq_false c
        have e0 : t = [] := List.eq_nil_of_length_eq_zero (by omega)
        rw [e0]
        exact ev_c
    · refine ⟨L, Fa, ls, [], none, none, none, none, none, none, rfl, eF.trans e, hFn, e _ _ ?_, rows_ex pL ((Ex.new nF).trans e), e _ _ upd_same, .nil⟩
      rw [upd_ne hLF]
      exact hL
    · rintro i σ' H' hi ⟨L, F, ls, fs, u4, u5, u6, u7, u8, u9, rfl, eH, nF, hL, pL, hF, pF⟩
      have gg := runL_good (inv := undP p) (by omega) g i
      have ll := runL_len (p := p) (inv := undP p) (t := t) i
      have hin : i < n := by omega
      have step : runL p (undP p) t (i + 1) = turnL p (undP p) i (runL p (undP p) t i) := rfl
      rw [step]
      generalize runL p (undP p) t i = S at pL pF gg ll
      obtain ⟨S1, S2⟩ := S
      have pLl := pL.length
      have pFl := pF.length
      simp only at pL pF gg ll pLl pFl
      refine q_asgLP (i := 6) (PL := fun vs H2 => Paired (RowT H2) vs (S1.filter fun r => decide (at0 r i ≠ 0))) ((evlp_list (K := K) (a := L) lf_row (fun j => decide (at0 (rowAt S1 j) i ≠ 0)) (rowAt S1) (ev_var rfl) hL (by omega) (fun _ => rfl) fun j x H1 e1 h => ?_).imp fun vs H1 _ q => ?_) fun hd vs H1 nhd e1 hhd pw => ?_
      · obtain ⟨rx, hj⟩ := rows_item (rows_ex pL e1) h
        obtain ⟨ax, rfl, hax⟩ := id rx
        refine ⟨et_is (et_test (ev_op (ev_op (ev_var rfl) (ev_var rfl) (rv_ixT (st_of hax) (atI_nat (row_at (by rw [(gg.1 _ (rowAt_mem hj)).1]; exact hin))))) ev_c (rv_ne rfl))) (ne_dec _), fun _ => ev_p (ev_var rfl) fun H2 e2 => rx.ex e2⟩
      · rw [pLl] at q
        have := pick_filter S1 (fun r => decide (at0 r i ≠ 0))
        rw [this] at q
        exact q
      · refine s_when (b := !decide ((S1.filter fun r => decide (at0 r i ≠ 0)) = [])) (et_test (ev_opL (ev_var rfl) (el_lst ea_nil (by decide)) fun q H2 hq e2 => rv_neNil ⟨hd, vs, rfl, e2 _ _ hhd, rows_ex pw e2⟩ ⟨q, [], rfl, hq, .nil⟩)) (fun c H2 e2 => ?_) (fun c H2 e2 => ?_)
        · cases hf : S1.filter fun r => decide (at0 r i ≠ 0) with
          | nil =>
            rw [hf] at c
            simp at c
          | cons h0 tl =>
            have hm2 : h0 ∈ S1.filter fun r => decide (at0 r i ≠ 0) := by rw [hf]; exact List.mem_cons_self
            have hm : h0 ∈ S1 := (List.mem_filter.mp hm2).1
            have hne : at0 h0 i ≠ 0 := of_decide_eq_true (List.mem_filter.mp hm2).2
            have gh0 := gg.1 h0 hm
            have gb := gh0.at (by omega) i
            rw [hf] at pw
            obtain ⟨x0, hx0, r0⟩ := paired_get2 pw (i := 0) (y := h0) rfl
            obtain ⟨a0, rfl, ha0⟩ := id r0
            have gs : GoodR p n (scl p (undP p (at0 h0 i)) h0) := scl_good (by omega) gh0.1
            have ub : 0 ≤ undP p (at0 h0 i) ∧ undP p (at0 h0 i) < p := powR_rng (p := p) (n := at0 h0 i) (by omega) (p - 2).toNat
            have ix0 : ∀ σ : L2.St, σ[6]? = some (some (.ref hd)) → Ev (tOp (rIxL K) (tVar 6) (tC (.int 0))) σ H2 (.ref a0) := fun σ hσ => ev_op (ev_var hσ) ev_c (rv_ixL (sq_of (e2 _ _ hhd)) (atI_nat (j := 0) hx0))
            refine q_asg (i := 7) (v := .int (undP p (at0 h0 i))) (ev_call (vs := [.int p, .int (at0 h0 i)]) (ea_cons (ev_var rfl) (ea_cons (ev_op (ix0 _ rfl) (ev_var rfl) (rv_ixT (st_of (e2 _ _ ha0)) (atI_nat (row_at (by rw [gh0.1]; exact hin))))) ea_nil)) (fun H3 e3 Q q E => ⟨p, at0 h0 i, rfl, hpr, by omega, gb.2, q⟩)) fun H3 e3 => ?_
            refine q_asgP (i := 8) (P := fun v H4 => RowT H4 v (scl p (undP p (at0 h0 i)) h0)) (evp_row (K := K) (l := scl p (undP p (at0 h0 i)) h0) ((evlp_tup (a := a0) lf_int (fun _ => true) (fun j => at0 h0 j * undP p (at0 h0 i) % p) ((ix0 _ rfl).mono e3) (e3 _ _ (e2 _ _ ha0)) (by rw [List.length_map, gh0.1]; omega) (fun _ => rfl) fun j y H4 e4 h => ⟨et_yes, fun _ => ?_⟩).imp fun vs H4 _ q => ?_) rfl) fun u8 H4 e4 r7 => ?_
            · obtain ⟨rfl, _⟩ := row_item h
              have bj := gh0.at (by omega) j
              exact ev_p (ev_op (ev_op (ev_var rfl) (ev_var rfl) (rv_I (.inl ⟨by omega, by omega⟩))) (ev_var rfl) (rv_I (by omega))) fun _ _ => rfl
            · rw [pick_map, List.length_map, map_range_at h0 (fun z => z * undP p (at0 h0 i) % p), scl_comm] at q
              exact q
            · generalize hsc : scl p (undP p (at0 h0 i)) h0 = hs at r7 gs
              have e34 := e3.trans e4
              refine q_asgLP (i := 2) (PL := fun vs H5 => Paired (RowT H5) vs (S1.map fun r => sub1 p (at0 r i) r hs)) ((evlp_list (K := K) (a := L) lf_row (fun _ => true) (fun j => sub1 p (at0 (rowAt S1 j) i) (rowAt S1 j) hs) (ev_var rfl) (e34 _ _ (e2 _ _ (e1 _ _ hL))) (by omega) (fun _ => rfl) fun j x H5 e5 h => ⟨et_yes, fun _ => ?_⟩).imp fun vs H5 _ q => ?_) fun lf vs3 H5 nlf e5 hlf plf => ?_
              · obtain ⟨rx, hj⟩ := rows_item (rows_ex pL (((e1.trans e2).trans e34).trans e5)) h
                have gj := gg.1 _ (rowAt_mem hj)
                have bj := good_bd (by omega) (by omega) gj i
                obtain ⟨ax, rfl, hax⟩ := id rx
                refine evp_call (PL := fun vs _ => vs = [.int p, .ref ax, u8, .int (at0 (rowAt S1 j) i)]) (eap_of (ea_cons (ev_var rfl) (ea_cons (ev_var rfl) (ea_cons (ev_var rfl) (ea_cons (ev_op (ev_var rfl) (ev_var rfl) (rv_ixT (st_of hax) (atI_nat (row_at (by rw [gj.1]; exact hin))))) ea_nil)))) fun _ _ => rfl) fun vs H6 e6 hv Q q => ?_
                subst hv
                exact ⟨p, at0 (rowAt S1 j) i, .ref ax, u8, _, hs, rfl, rx.ex e6, r7.ex (e5.trans e6), by rw [gj.1, gs.1], by rw [gj.1]; omega, by omega, by omega, by omega, q⟩
              · rw [pick_map, pLl] at q
                rw [map_range_row S1 fun r => sub1 p (at0 r i) r hs] at q
                exact q
              · refine s_asgLP (i := 3) (PL := fun vs H6 => Paired (RowT H6) vs ((S2.map fun r => sub1 p (at0 r i) r hs) ++ [hs])) (evlp_cat lf_row (v := u8) ((evlp_list (K := K) (a := F) lf_row (fun _ => true) (fun j => sub1 p (at0 (rowAt S2 j) i) (rowAt S2 j) hs) (ev_var rfl) (e5 _ _ (e34 _ _ (e2 _ _ (e1 _ _ hF)))) (by omega) (fun _ => rfl) fun j x H6 e6 h => ⟨et_yes, fun _ => ?_⟩).imp fun vs H6 _ q => ?_) (by simp; omega) (fun H6 e6 => el_lst (ea_cons (ev_var rfl) ea_nil) (by show (1:Nat) ≤ 100000; decide)) (r7.ex e5)) fun fd2 vs4 H6 nfd e6 hfd pfd => ?_
                · obtain ⟨rx, hj⟩ := rows_item (rows_ex pF ((((e1.trans e2).trans e34).trans e5).trans e6)) h
                  have gj := gg.2 _ (rowAt_mem hj)
                  have bj := good_bd (by omega) (by omega) gj i
                  obtain ⟨ax, rfl, hax⟩ := id rx
                  refine evp_call (PL := fun vs _ => vs = [.int p, .ref ax, u8, .int (at0 (rowAt S2 j) i)]) (eap_of (ea_cons (ev_var rfl) (ea_cons (ev_var rfl) (ea_cons (ev_var rfl) (ea_cons (ev_op (ev_var rfl) (ev_var rfl) (rv_ixT (st_of hax) (atI_nat (row_at (by rw [gj.1]; exact hin))))) ea_nil)))) fun _ _ => rfl) fun vs H7 e7 hv Q q => ?_
                  subst hv
                  exact ⟨p, at0 (rowAt S2 j) i, .ref ax, u8, _, hs, rfl, rx.ex e7, r7.ex ((e5.trans e6).trans e7), by rw [gj.1, gs.1], by rw [gj.1]; omega, by omega, by omega, by omega, q⟩
                · rw [pick_map, pFl] at q
                  rw [map_range_row S2 fun r => sub1 p (at0 r i) r hs] at q
                  exact q
                · have et : turnL p (undP p) i (S1, S2) = (S1.map fun r => sub1 p (at0 r i) r hs, (S2.map fun r => sub1 p (at0 r i) r hs) ++ [hs]) := by
                    unfold turnL
                    simp only [hf]
                    rw [hsc]
                  rw [et]
                  have e05 : Ex H' H5 := ((e1.trans e2).trans e34).trans e5
                  have e06 : Ex H' H6 := e05.trans e6
                  exact ⟨lf, fd2, vs3, vs4, _, _, _, _, _, _, rfl, eH.trans e06, fresh_back (eH.trans e05) nfd, e6 _ _ hlf, rows_ex plf e6, hfd, pfd⟩
        · have c' : (S1.filter fun r => decide (at0 r i ≠ 0)) = [] := by simpa using c
          have et : turnL p (undP p) i (S1, S2) = (S1, S2) := by
            unfold turnL
            simp only [c']
          rw [et]
          exact ⟨L, F, ls, fs, _, _, _, _, _, _, rfl, eH.trans (e1.trans e2), nF, e2 _ _ (e1 _ _ hL), rows_ex pL (e1.trans e2), e2 _ _ (e1 _ _ hF), rows_ex pF (e1.trans e2)⟩
    · rintro σ' H' ⟨L, F, ls, fs, u4, u5, u6, u7, u8, u9, rfl, eH, nF, hL, pL, hF, pF⟩
      rw [Int.toNat_natCast] at pF
      exact ⟨_, rfl, k F fs H' nF eH hF pF⟩
end
end RK

set_option Elab.async false
set_option linter.all false
set_option maxRecDepth 100000
set_option maxHeartbeats 4000000
namespace RK
open PySem L2 Evl
/-- the i-th statement's value; a tuple's first part -/
def asgE (s : Stmt) (i : Nat) : Expr := match (defBody s)[i]? with
  | some (.Assign _ e _) => e
  | _ => .Constant .none 0 ⟨0, 0, 0, 0⟩
def tup0 : Expr → Expr
  | .Tuple (a :: _) _ _ => a
  | e => e
theorem pick_len2 {β : Type} (n : Nat) (f : Nat → Bool) (ys : Nat → β) : (pick n f ys).length ≤ n := pick_len n f ys
theorem rep_flat (n : Nat) (v : V) : (List.replicate n [v]).flatten = List.replicate n v := by
  induction n with
  | zero => rfl
  | succ n ih => rw [List.replicate_succ, List.replicate_succ, List.flatten_cons, ih] <;> rfl
section
variable {P : Program} {w : World} {K : PySem.W.Frag} {mg : Str → Option Value} {base : Heap}
theorem ok_angles (B : Bt mg) (D : DefIn K mg "_law_angles" sLAngles ["_law_prime", "_law_grid_here", "_law_rows"]) (h1 : Held P w K mg base CX0 2 "_law_steps" ["_law_prime", "_law_rows"] spLSteps)
    (h2 : Held P w K mg base CX0 1 "_law_led" ["_law_prime", "_law_row", "_law_table"] spLed) : Held P w K mg base CX0 3 "_law_angles" ["_law_prime", "_law_grid_here", "_law_rows"] spAngles := by
  obtain ⟨f1, fd1, g1, k1, b1, G1⟩ := h1
  obtain ⟨f2, fd2, g2, k2, b2, G2⟩ := h2
  refine D.held fun f fd F => F.ok scLAngles (fun vs H Q E h => ?_) (fun cdv A outer s H vs Q E hr h => ?_)
  · obtain ⟨p, g, x, n, t, u, rfl, _⟩ := h
    rfl
  · obtain ⟨p, g, x, n, t, u, rfl, hg, ⟨a, us, rfl, ha, hu⟩, l1, l2, hn, hsq, hus, hpr, k⟩ := h
    have pp := prime_pos hpr
    refine ⟨_, pss_cons (ps_set (i := 3) scLAngles.nd rfl (Or.inl rfl) (pe_callB (callLenK (K := K)) (by rfl) B.len PySem.boot_len (pa_cons (pv 1) pa_nil)))
      (pss_cons (ps_set (i := 4) scLAngles.nd rfl (Or.inl rfl) (pe_call G1 (hr.mono (by decide)) (by rfl) g1 k1 b1 .nil pass0 (pa_cons (pv 0) (pa_cons (pe_lc (own := [("_law_row", 5)]) (g := gName 5) (tt := tYes) rfl scLAngles.nd (pi_tupK (K := K) (pv 2))
        (blkOk_by (N := nLAngles) (sc := defScope sLAngles) (by decide +kernel)) (fun _ _ _ _ _ => pg_name (i := 5) scLAngles.nd rfl (Or.inl rfl)) (fun _ _ _ _ _ => pts_nil)
        (fun _ _ _ _ _ => pe_call G2 (hr.mono (by decide)) (by rfl) g2 k2 b2 .nil pass0 (pa_cons (pv 0) (pa_cons (pv 5) (pa_cons (pv 1) pa_nil))))) pa_nil))))
      (pss_cons (ps_par (i := 6) (j := 7) rfl scLAngles.nd rfl rfl (by decide) rfl rfl (pa_cons (pe_lc (own := [("_law_row", 5)]) (g := gName 5) (tt := tYes) rfl scLAngles.nd (pi_listK (K := K) (pv 4))
        (blkOk_by (N := nLAngles) (sc := defScope sLAngles) (by decide +kernel)) (fun _ _ _ _ _ => pg_name (i := 5) scLAngles.nd rfl (Or.inl rfl)) (fun _ _ _ _ _ => pts_nil)
        (fun _ _ _ _ _ => pe_ix (ix_listK (K := K)) (pe_lc (own := [("_law_at", 8), ("_law_number", 9)]) (g := gTup K 2 (gCons (gName 8) (gCons (gName 9) gNil))) rfl scLAngles.nd (pi_enumK (K := K) (by rfl) B.enumerate (pa_cons (pv 5) pa_nil))
          (blkOk_by (N := nLAngles) (sc := relS (lcScope (tup0 (asgE sLAngles 2))) (defScope sLAngles)) (by decide +kernel)) (fun _ _ _ _ _ => pg_tupK (K := K) rfl (pgs_cons (pg_name (i := 8) scLAngles.nd rfl (Or.inl rfl)) (pgs_cons (pg_name (i := 9) scLAngles.nd rfl (Or.inl rfl)) pgs_nil)))
          (fun _ _ _ _ _ => pts_one (pt_cmpR op_ne (pv 9) pe_int (nomark _))) (fun _ _ _ _ _ => pv 8)) pe_int (fun _ _ => rfl))) (pa_cons (pe_lst pa_nil) pa_nil)) (by rfl))
      (pss_cons (ps_for PassesOwn.never rfl (pi_range1 (by rfl) B.range (pa_cons (pv 3) pa_nil)) (pg_name (i := 10) scLAngles.nd rfl (Or.inl rfl))
        (pss_one (ps_if (pt_cmpR (op_notInK (K := K)) (pv 10) (pv 6) (by rfl))
          (pss_cons (ps_set (i := 5) scLAngles.nd rfl (Or.inl rfl) (pe_op op_rep (pe_lst (pa_cons pe_int pa_nil)) (pv 3)))
          (pss_cons (ps_asg (g := gSub (tVar 5) (tVar 10) rSetL) pe_int (pg_sub (pv 5) (pv 10) set_list))
          (pss_cons (ps_for (g := gTup K 2 (gCons (gName 11) (gCons (gName 12) gNil))) PassesOwn.never rfl (pi_zipK (K := K) (by rfl) B.zip (pa_cons (pv 6) (pa_cons (pv 4) pa_nil))) (pg_tupK (K := K) rfl (pgs_cons (pg_name (i := 11) scLAngles.nd rfl (Or.inl rfl)) (pgs_cons (pg_name (i := 12) scLAngles.nd rfl (Or.inl rfl)) pgs_nil)))
            (pss_one (ps_asg (pe_op op_mod (pe_op op_sub pe_int (pe_ix (ix_tupK (K := K)) (pv 12) (pv 10) (fun _ _ => rfl))) (pv 0)) (pg_sub (pv 5) (pv 11) set_list))))
          (pss_one (ps_expr (pe_bm PySem.F.plainAttrs_list PySem.F.slot_list_append PySem.F.type_list_append mt_append (pv 7) (pa_cons (pe_callTy (callTupK (K := K)) (by rfl) B.tuple (by decide +kernel) (pa_cons (pv 5) pa_nil)) pa_nil)))))))
          pss_nil)))
      (pss_one (ps_ret (pe_call G1 (hr.mono (by decide)) (by rfl) g1 k1 b1 .nil pass0 (pa_cons (pv 0) (pa_cons (pv 7) pa_nil)))))))), ?_⟩
    obtain ⟨ga, gs, rfl, hga, hgs⟩ := id hg
    have hgl := hgs.length
    have hul := hu.length
    have gl := led_good (u := u) (p := p) (by omega) l1 hsq
    have iS : InSteps p n (stepsL p (undP p) (u.map fun r => ledL p r t)) := steps_in (by omega) (invOk_und hpr) gl (wide_of gl)
    have lS : (stepsL p (undP p) (u.map fun r => ledL p r t)).length ≤ n := Nat.le_trans (runL_len (wide (u.map fun r => ledL p r t))).2 (good_wide gl)
    have hwt := wide_sq l1 hsq
    refine q_asg (i := 3) (v := .int (n : Nat)) (ev_is (ev_lenS (K := K) (ev_var rfl) (.inr hga)) (by rw [hgl, l1])) fun H0 e0 => ?_
    refine q_asgLP (i := 4) (PL := fun vs H2 => Paired (RowT H2) vs (stepsL p (undP p) (u.map fun r => ledL p r t))) (evlp_call (PL := fun vs H2 => ∃ y, vs = [.int p, y] ∧ TabL H2 y (u.map fun r => ledL p r t)) (eap_cons (ev_p (P := fun v _ => v = .int p) (ev_var rfl) fun _ _ => rfl) fun v H1 e1 hv => by
        subst hv
        refine eap_one (EvLP.p ((evlp_tup (a := a) lf_row (fun _ => true) (fun i => ledL p (rowAt u i) t) (ev_var rfl) (e1 _ _ (e0 _ _ ha)) (by omega) (fun _ => rfl) fun i x1 H2 e2 h2 => ⟨et_yes, fun _ => ?_⟩).imp fun vs H2 _ q => ?_)) fun v H2 e2 ⟨pl, vs, ev, hp, pw⟩ => ⟨v, rfl, pl, vs, ev, hp, pw⟩
        · obtain ⟨r1, hi⟩ := rows_item (rows_ex hu ((e0.trans e1).trans e2)) h2
          have u1 := hus _ (rowAt_mem hi)
          refine evp_call (PL := fun vs _ => vs = [.int p, x1, .ref ga]) (eap_of (ea_cons (ev_var rfl) (ea_cons (ev_var rfl) (ea_cons (ev_var rfl) ea_nil))) fun _ _ => rfl) fun vs H3 e3 hv Q q => ?_
          subst hv
          exact ⟨p, x1, .ref ga, _, t, rfl, r1.ex e3, hg.ex (((e0.trans e1).trans e2).trans e3), by rw [u1.1, l1], fun o ho => by rw [hsq o ho, hwt], by omega, by omega, u1.2, by omega, q⟩
        · rw [pick_map, hul, map_range_row u fun r => ledL p r t] at q
          exact q) fun vs H1 e1 ⟨y, hv, hy⟩ Q q => by
        subst hv
        exact ⟨p, y, n, _, rfl, hy, by rw [List.length_map]; omega, hn, gl, hpr, q⟩) fun sd vs H1 nsd e1 hsd psd => ?_
    have kk := k
    generalize stepsL p (undP p) (u.map fun r => ledL p r t) = S at iS lS kk psd
    have lsd := psd.length
    dsimp only [tSeq, tPar]
    refine (evlp_list (K := K) (a := sd) lf_int (fun _ => true) (fun i => (headOf (rowAt S i) : Int)) (ev_var rfl) hsd (by omega) (fun _ => rfl) fun i x1 H2 e2 h2 => ⟨et_yes, fun _ => ?_⟩) H1 (Ex.refl H1) _ fun hd hs H2 nhd e2 hhd phd => ⟨by decide, fun Fa nF => ⟨_, _, rfl, ?_⟩⟩
    · obtain ⟨⟨ar, rfl, har⟩, hi⟩ := rows_item (rows_ex psd e2) h2
      have nzr := iS.nz _ (rowAt_mem hi)
      have glr := (iS.good _ (rowAt_mem hi)).1
      intro H3 e3 Q3 q3
      refine (evlp_enumT (K := K) (a := ar) lf_int (fun k => decide (at0 (rowAt S i) k ≠ 0)) (fun k => (k : Int)) (eap_of (ea_cons (ev_var rfl) ea_nil) fun H4 e4 => ⟨rfl, e4 _ _ har⟩) (by simp; omega) (fun _ _ => rfl)
        fun j y H4 e4 h4 => ⟨?_, fun _ => ev_p (ev_var rfl) fun _ _ => rfl⟩) H3 e3 _ fun pl ws H4 n4 e4 hpl pw => ?_
      · obtain ⟨rfl, _⟩ := row_item h4
        exact et_is (et_test (ev_op (ev_var rfl) ev_c (rv_ne rfl))) (ne_dec _)
      · have e5 := paired_int pw
        rw [List.length_map] at e5
        refine ⟨pl, ws, 0, _, rfl, rfl, sq_of hpl, ?_, q3 _ H4 e4 rfl⟩
        rw [e5]
        exact atI_nat (j := 0) (by rw [List.getElem?_map, head_pick nzr] <;> rfl)
    have hhd : H2 hd = some (.lst (natsV (S.map headOf))) := by
      rw [hhd, paired_int phd, pick_map, lsd, map_range_row S fun r => (headOf r : Int)]
      unfold natsV
      rw [List.map_map, List.map_map]
      rfl
    have psd2 : Paired (RowT H2) vs S := rows_ex psd e2
    have e3 : Ex H2 (upd H2 Fa (.lst [])) := Ex.new nF
    have nF0 : H Fa = none := fresh_back ((e0.trans e1).trans e2) nF
    refine q_forR1 (n := (n : Nat)) (ea_cons (ev_var rfl) ea_nil) (by omega)
      (fun i σ' H' => ∃ (fs : List V) (u5 u8 u9 u10 u11 u12 : Option V), σ' = [some (.int p), some (.ref ga), some (.ref a), some (.int (n : Nat)), some (.ref sd), u5, some (.ref hd), some (.ref Fa), u8, u9, u10, u11, u12] ∧ Ex H2 H' ∧ H' Fa = some (.lst fs) ∧
          Paired (RowT H') fs (pick i (fun i => decide (i ∉ S.map headOf)) (zeroRow p n (S.map headOf) S)))
      (fun H4 e4 => ⟨[], none, none, none, none, none, none, rfl, e3.trans e4, e4 _ _ upd_same, .nil⟩) ?_ ?_
    · rintro i σ' H' hi ⟨fs, u5, u8, u9, u10, u11, u12, rfl, eH, hFa, pfs⟩
      have hin : i < n := by omega
      have lfs := pfs.length
      have lpk := pick_len i (fun i => decide (i ∉ S.map headOf)) (zeroRow p n (S.map headOf) S)
      refine s_when (b := decide (i ∉ S.map headOf)) (et_is (et_test (ev_op (ev_var rfl) (ev_var rfl) (rv_niL (sq_of (eH _ _ hhd)) rfl (flat_nats _)))) ?_) (fun c H3 e3' => ?_) (fun c H3 e3' => ?_)
      · rw [inV_nats]
        by_cases c : i ∈ S.map headOf <;> simp [c]
      · refine q_asgL (i := 5) (xs := (List.replicate n (0 : Int)).map V.int) (fun H4 e4 Q q => ?_) fun R H4 nR e4 hR => ?_
        · refine ⟨by decide, fun l hl => ⟨_, rfl, l, (n : Int), _, rfl, rfl, upd_same, by omega, by omega, ?_, fun p2 hp2 => ?_⟩⟩
          · rw [Int.toNat_natCast]
            show 1 * n ≤ sizeLine
            exact Nat.le_trans (by omega : 1 * n ≤ 100) (by decide)
          · refine q p2 _ (fresh_back (Ex.new hl) hp2) ((Ex.new hl).trans (Ex.new hp2)) ?_
            rw [upd_same, Int.toNat_natCast]
            rw [List.map_replicate]
            exact congrArg (fun z => some (HO.lst z)) (rep_flat n (V.int 0))
        · have neRF : R ≠ Fa := fun z => by rw [z, e3' _ _ hFa] at nR; cases nR
          have eH4 := eH.trans e3'
          refine q_setL (l := R) (j := i) (v := .int 1) hR ev_c (ev_var rfl) (ev_var rfl) (by simp; omega) fun H5 e5 => ?_
          have hR5 : (upd H5 R (.lst (((List.replicate n (0 : Int)).map V.int).set i (.int 1)))) R = some (.lst (((List.replicate n (0 : Int)).set i 1).map V.int)) := by
            rw [upd_same, List.map_set]
          have e45 : Ex H3 (upd H5 R (.lst (((List.replicate n (0 : Int)).map V.int).set i (.int 1)))) := Ex.mut (e4.trans e5) nR
          generalize upd H5 R (.lst (((List.replicate n (0 : Int)).map V.int).set i (.int 1))) = H6 at hR5 e45
          have hd6 := e45 _ _ (eH4 _ _ hhd)
          have sd6 := e45 _ _ (eH4 _ _ (e2 _ _ hsd))
          dsimp only [tSeq]
          refine ⟨_, rfl, _, rfl, hd, sd, natsV (S.map headOf), vs, rfl, .inl ⟨sq_of hd6, sq_of sd6, ?_⟩⟩
          refine for_it (walk_zip (K := K) (a := hd) (b := sd) (xs := natsV (S.map headOf)) (ys := vs) (n := S.length) (by simp [natsV]; omega))
            (fun j σ2 H7 => ∃ u11 u12, σ2 = [some (.int p), some (.ref ga), some (.ref a), some (.int (n : Nat)), some (.ref sd), some (.ref R), some (.ref hd), some (.ref Fa), u8, u9, some (.int (i : Nat)), u11, u12] ∧ Ex H3 H7 ∧
              H7 R = some (.lst (((((S.map headOf).zip S).take j).foldl (fun r x => r.set x.1 ((0 - at0 x.2 i) % p)) ((List.replicate n 0).set i 1)).map V.int))) ⟨u11, u12, rfl, e45, hR5⟩ (fun j σ2 H7 _ ⟨_, _, _, e7, _⟩ => ⟨sq_of (e7 _ _ (eH4 _ _ hhd)), sq_of (e7 _ _ (eH4 _ _ (e2 _ _ hsd)))⟩) ?_ ?_
          · rintro j v σ2 H7 H8 hj ⟨v9, v10, rfl, e7, hR7⟩ ⟨T, x1, y1, rfl, nT, rfl, hx1, hy1⟩
            obtain ⟨h0, hh0, rfl⟩ := natsV_get hx1
            obtain ⟨ry, hjS⟩ := rows_item (rows_ex psd2 (eH4.trans (e7.trans (Ex.new (o := .tup [.int (h0 : Nat), y1]) nT)))) hy1
            have gS := iS.good _ (rowAt_mem hjS)
            have hhlt : h0 < n := iS.lt h0 (List.mem_of_getElem? hh0)
            obtain ⟨ay, rfl, hay⟩ := ry
            have sg := (zeroFold (n := n) (f := i) (p := p) (by omega) (((S.map headOf).zip S).take j) _ (unit_good (by omega) n i)).1
            have neTR : R ≠ T := fun w => by rw [← w, hR7] at nT; cases nT
            refine ⟨T, [.int (h0 : Nat), .ref ay], rfl, st_of upd_same, rfl, _, _, rfl, _, _, rfl, rfl, ?_⟩
            have hR8 : (upd H7 T (.tup [.int (h0 : Nat), .ref ay])) R = _ := (upd_ne neTR).trans hR7
            refine s_setL (l := R) (j := h0) (v := .int ((0 - at0 (rowAt S j) i) % p)) hR8 (ev_op (ev_op ev_c (ev_op (ev_var rfl) (ev_var rfl) (rv_ixT (st_of hay) (atI_nat (row_at (by rw [gS.1]; exact hin))))) rv_I0) (ev_var rfl) (rv_I (by omega))) (ev_var rfl) (ev_var rfl) (by rw [List.length_map, sg.1]; exact hhlt) fun H9 e9 => ?_
            refine ⟨_, _, rfl, Ex.mut ((e7.trans (Ex.new nT)).trans e9) nR, ?_⟩
            have eS : S[j]? = some (rowAt S j) := by rw [rowAt_get hjS]; exact List.getElem?_eq_getElem hjS
            rw [upd_same, take_snoc (zip_get hh0 eS), List.foldl_append, List.foldl_cons, List.foldl_nil, ← List.map_set]
          · rintro σ2 H7 ⟨v9, v10, rfl, e7, hR7⟩
            have eZ : ((((S.map headOf).zip S).take S.length).foldl (fun r x => r.set x.1 ((0 - at0 x.2 i) % p)) ((List.replicate n 0).set i 1)) = zeroRow p n (S.map headOf) S i := by
              unfold zeroRow
              rw [List.take_of_length_le (by simp)]
            rw [eZ] at hR7
            refine s_appU (l := Fa) (xs := fs) (ys := (zeroRow p n (S.map headOf) S i).map V.int) (e7 _ _ (e3' _ _ hFa)) (ev_var rfl) (fun H8 e8 Q q => ?_) (by omega) fun uu H8 nu e8 hu => ?_
            · exact ⟨_, rfl, R, _, rfl, .inl ⟨sq_of (e8 _ _ hR7), fun l hl => q l _ hl (Ex.new hl) upd_same⟩⟩
            · have hF8 := e8 _ _ (e7 _ _ (e3' _ _ hFa))
              refine ⟨_, _, _, _, _, _, _, rfl, Ex.mut ((eH4.trans e7).trans e8) nF, upd_same, ?_⟩
              rw [pick_yes c]
              refine Paired.snoc (Paired.mono (fun _ _ w => lf_row.lst _ _ _ _ _ _ hF8 (RowT.ex w ((e3'.trans e7).trans e8))) pfs) ⟨uu, rfl, ?_⟩
              rw [upd_ne (fun w => by rw [w, hF8] at hu; cases hu)]
              exact hu
      · rw [pick_no c]
        exact ⟨fs, _, _, _, _, _, _, rfl, eH.trans e3', e3' _ _ hFa, rows_ex pfs e3'⟩
    · rintro σ' H' ⟨fs, u5, u8, u9, u10, u11, u12, rfl, eH, hFa, pfs⟩
      rw [Int.toNat_natCast] at pfs
      have lfz : (zerosOf p n S).length ≤ 40 := by
        unfold zerosOf
        rw [List.length_map]
        exact Nat.le_trans (frees_len n (S.map headOf)) hn
      have eAll := ((e0.trans e1).trans e2).trans eH
      exact ⟨_, rfl, _, rfl, p, .ref Fa, n, zerosOf p n S, rfl, ⟨Fa, fs, rfl, hFa, pfs⟩, lfz, hn, zerosOf_good (by omega) S, hpr, fun q vs' H'' nq e hq pq => kk q vs' H'' (fresh_back eAll nq) (eAll.trans e) hq pq⟩
theorem ok_lstill (B : Bt mg) (D : DefIn K mg "_law_still" sLStill ["_law_prime", "_law_grid_here"]) (h1 : Held P w K mg base CX0 3 "_law_angles" ["_law_prime", "_law_grid_here", "_law_rows"] spAngles)
    (h2 : Held P w K mg base CX0 1 "_law_units" ["_law_size"] spUnits) : Held P w K mg base CX0 4 "_law_still" ["_law_prime", "_law_grid_here"] spLStill := by
  obtain ⟨f1, fd1, g1, k1, b1, G1⟩ := h1
  obtain ⟨f2, fd2, g2, k2, b2, G2⟩ := h2
  refine D.held fun f fd F => F.ok scLStill (fun vs H Q E h => ?_) (fun cdv A outer s H vs Q E hr h => ?_)
  · obtain ⟨p, g, t, rfl, _⟩ := h
    rfl
  · obtain ⟨p, g, t, rfl, hg, gr, k⟩ := h
    refine ⟨_, pss_one (ps_ret (pe_call G1 (hr.mono (by decide)) (by rfl) g1 k1 b1 .nil pass0 (pa_cons (pv 0) (pa_cons (pv 1) (pa_cons (pe_call G2 (hr.mono (by decide)) (by rfl) g2 k2 b2 .nil pass0 (pa_cons (pe_callB (callLenK (K := K)) (by rfl) B.len PySem.boot_len (pa_cons (pv 1) pa_nil)) pa_nil)) pa_nil))))), ?_⟩
    obtain ⟨ga, gs, rfl, hga, hgs⟩ := id hg
    have hgl := hgs.length
    have sz := gr.sz
    refine ⟨_, rfl, _, rfl, _, rfl, ga, gs, rfl, .inr (st_of hga), gs.length, rfl, by omega, fun x H1 e1 hx => ?_⟩
    rw [hgl] at hx
    exact ⟨p, .ref ga, x, t.length, t, units t.length, rfl, hg.ex e1, hx, rfl, by simp [units]; omega, by omega, fun o ho => (gr.good o ho).1, fun o ho => by
      unfold units at ho
      obtain ⟨i, _, rfl⟩ := List.mem_map.mp ho
      exact ⟨by simp [unitRow], unitRow_sm _ _⟩, gr.pr, fun q vs H' nq e hq pq => k q vs H' (fresh_back e1 nq) (e1.trans e) hq pq⟩
end
end RK

set_option Elab.async false
set_option linter.all false
set_option maxRecDepth 100000
set_option maxHeartbeats 4000000
namespace RK
open PySem L2 Evl
/-! ### comprehensions whose items are new lists -/
/-- a list that the heap H0 does not know -/
def RN (H0 H : Hp) (v : V) (r : List V) : Prop := ∃ b, v = .ref b ∧ H0 b = none ∧ H b = some (.lst r)
theorem RN.ex {H0 H H' : Hp} {v : V} {r : List V} (h : RN H0 H v r) (e : Ex H H') : RN H0 H' v r := by
  obtain ⟨b, h1, h2, h3⟩ := h
  exact ⟨b, h1, h2, e _ _ h3⟩
theorem paired_mem {α β : Type} {F : α → β → Prop} : ∀ {xs : List α} {ys : List β} {x : α}, Paired F xs ys → x ∈ xs → ∃ y, y ∈ ys ∧ F x y
  | _, _, _, .nil, h => by cases h
  | _, _, _, .cons f t, h => by
    rcases List.mem_cons.mp h with rfl | h
    · exact ⟨_, List.mem_cons_self, f⟩
    · obtain ⟨y, h1, h2⟩ := paired_mem t h
      exact ⟨y, List.mem_cons_of_mem _ h1, h2⟩
theorem paired_set {α β : Type} {F : α → β → Prop} : ∀ {xs : List α} {ys : List β} {i : Nat} {x : α} {y : β}, Paired F xs ys → F x y → Paired F (xs.set i x) (ys.set i y)
  | _, _, _, _, _, .nil, _ => .nil
  | _, _, 0, _, _, .cons _ t, h => .cons h t
  | _, _, _ + 1, _, _, .cons f t, h => .cons f (paired_set t h)
def PNew (H : Hp) (rs : List (List V)) (ws : List V) (H2 : Hp) : Prop := Paired (RN H H2) ws rs ∧ ws.Nodup
section
variable {K : PySem.W.Frag} {σ : L2.St} {g : TG} {tt : TT} {te tl : TE} {vs : List Nat} {H : Hp} {J : It} {n : Nat} {G : Hp → Prop} {Y : Nat → Hp → V → Hp → Prop}
theorem lc_new (w : Walk J n G Y) (ys : Nat → List V) {D : Addr} (hD : H D = none) (hn : n ≤ 40000) (hG : ∀ H', Ex H H' → G H') {Qd : Hp → Prop}
    (turn : ∀ i x H1 H1', i < n → Ex H H1 → Y i H1 x H1' → ∃ σ2 H2, Ex H1 H2 ∧ (∀ Q : L2.St → Hp → Prop, Q σ2 H2 → g x (wipe σ vs) H1' Q) ∧ wipe σ2 vs = wipe σ vs ∧ EvT tt σ2 H2 true ∧ EvL te σ2 H2 (ys i))
    (hd : ∀ H' ws, Ex H H' → H' D = some (.lst ws) → PNew H ((List.range n).map ys) ws H' → Qd H') :
    ∃ W : Nat → Nat → Hp → Prop, (∃ m, W 0 m (upd H D (.lst []))) ∧ ∀ i m H, W i m H →
      (J.stop i H ∧ Qd H) ∨ (J.go i H ∧ ∃ Nx : Hp → Prop, (∀ H', Nx H' → ∃ m', m' < m ∧ W (i + 1) m' H') ∧ ∀ x H', J.yld i H x H' → g x (wipe σ vs) H' fun σ2 H2 => wipe σ2 vs = wipe σ vs ∧ tt σ2 H2 fun b H3 =>
        if b = true then te σ2 H3 fun y H4 => ∃ acc, H4 D = some (.lst acc) ∧ acc.length < sizeLine ∧ Nx (upd H4 D (.lst (acc ++ [y]))) else Nx H3) := by
  refine lc_it w (fun i H' => Ex H H' ∧ ∃ ws, H' D = some (.lst ws) ∧ Paired (RN (upd H D (.lst [])) H') ws ((List.range i).map ys) ∧ ws.Nodup) ⟨Ex.new hD, [], upd_same, .nil, .nil⟩ (fun i H' _ p => hG H' p.1) (fun i x H1 H1' hi p y => ?_) fun H' p => ?_
  · obtain ⟨e1, ws, hw, pw, nd⟩ := p
    obtain ⟨σ2, H2, e2, hg, hwp, ht, he⟩ := turn i x H1 H1' hi e1 y
    refine hg _ ⟨hwp, ht H2 (Ex.refl H2) _ fun H3 e3 => ?_⟩
    show te σ2 H3 _
    refine he H3 e3 _ fun q H4 nq e4 hq => ⟨ws, (e4 _ _ (e3 _ _ (e2 _ _ hw))), ?_, Ex.mut (((e1.trans e2).trans e3).trans e4) hD, ws ++ [.ref q], upd_same, ?_, ?_⟩
    · have hl := pw.length
      rw [List.length_map, List.length_range] at hl
      exact sz_lt (by omega)
    · have hD3 := e3 _ _ (e2 _ _ hw)
      have hD4 := e4 _ _ hD3
      have qD : q ≠ D := fun z => by rw [z, hD3] at nq; cases nq
      have up : ∀ v r, RN (upd H D (.lst [])) H1 v r → RN (upd H D (.lst [])) (upd H4 D (.lst (ws ++ [.ref q]))) v r := fun v r ⟨b, h1, h2, h3⟩ => by
        have bD : b ≠ D := fun z => by rw [z, upd_same] at h2; cases h2
        exact ⟨b, h1, h2, by rw [upd_ne bD]; exact e4 _ _ (e3 _ _ (e2 _ _ h3))⟩
      rw [List.range_succ, List.map_append, List.map_cons, List.map_nil]
      refine Paired.snoc (Paired.mono up pw) ⟨q, rfl, ?_, by rw [upd_ne qD]; exact hq⟩
      rw [upd_ne qD]
      exact fresh_back (((e1.trans e2).trans e3)) nq
    · refine List.nodup_append.mpr ⟨nd, by simp, fun a ha b hb => ?_⟩
      rw [List.mem_singleton.mp hb]
      rintro rfl
      obtain ⟨r, _, b, h1, h2, h3⟩ := paired_mem pw ha
      cases h1
      rw [e3 _ _ (e2 _ _ h3)] at nq
      cases nq
  · obtain ⟨e1, ws, hw, pw, nd⟩ := p
    refine hd H' ws e1 hw ⟨Paired.mono (fun v r ⟨b, h1, h2, h3⟩ => ⟨b, h1, ?_, h3⟩) pw, nd⟩
    by_cases z : b = D
    · rw [z, upd_same] at h2
      cases h2
    · rwa [upd_ne z] at h2
/-- over a list, a tuple that is known; over range(n) -/
theorem evlp_seqN {a : Addr} {xs : List V} {j : Nat} (ys : Nat → List V) (h : Ev tl σ H (.ref a)) (hx : H a = some (.lst xs)) (hz : xs.length ≤ 40000) (hw : ∀ x, wipe ((wipe σ vs).set j (some x)) vs = wipe σ vs)
    (ht : ∀ (i : Nat) (x : V) H1, Ex H H1 → xs[i]? = some x → EvT tt ((wipe σ vs).set j (some x)) H1 true ∧ EvL te ((wipe σ vs).set j (some x)) H1 (ys i)) :
    EvLP (tLc (iList K tl) (gName j) tt te vs) σ H (PNew H ((List.range xs.length).map ys)) := fun H0 e Q q => h H0 e _ fun H1 e1 => ⟨a, rfl, ⟨xs, sq_of (e1 _ _ (e _ _ hx))⟩, fun D hD =>
  lc_new (walk_list (K := K) (a := a) (xs := xs)) ys hD hz (fun H' e2 => sq_of (e2 _ _ (e1 _ _ (e _ _ hx)))) (fun i x H2 H2' hi e2 y => by
    obtain ⟨rfl, hi⟩ := y
    obtain ⟨t1, t2⟩ := ht i x _ ((e.trans e1).trans e2) hi
    exact ⟨_, _, Ex.refl _, fun Q q => q, hw x, t1, t2⟩) fun H' ws e2 hD' pw => q D ws H' (fresh_back e1 hD) (e1.trans e2) hD' ⟨Paired.mono (fun v r ⟨b, h1, h2, h3⟩ => ⟨b, h1, fresh_back (e.trans e1) h2, h3⟩) pw.1, pw.2⟩⟩
theorem evlp_tupN {a : Addr} {xs : List V} {j : Nat} (ys : Nat → List V) (h : Ev tl σ H (.ref a)) (hx : H a = some (.tup xs)) (hz : xs.length ≤ 40000) (hw : ∀ x, wipe ((wipe σ vs).set j (some x)) vs = wipe σ vs)
    (ht : ∀ (i : Nat) (x : V) H1, Ex H H1 → xs[i]? = some x → EvT tt ((wipe σ vs).set j (some x)) H1 true ∧ EvL te ((wipe σ vs).set j (some x)) H1 (ys i)) :
    EvLP (tLc (iTup K tl) (gName j) tt te vs) σ H (PNew H ((List.range xs.length).map ys)) := fun H0 e Q q => h H0 e _ fun H1 e1 => ⟨a, rfl, ⟨xs, st_of (e1 _ _ (e _ _ hx))⟩, fun D hD =>
  lc_new (walk_tup (K := K) (a := a) (xs := xs)) ys hD hz (fun H' e2 => st_of (e2 _ _ (e1 _ _ (e _ _ hx)))) (fun i x H2 H2' hi e2 y => by
    obtain ⟨rfl, hi⟩ := y
    obtain ⟨t1, t2⟩ := ht i x _ ((e.trans e1).trans e2) hi
    exact ⟨_, _, Ex.refl _, fun Q q => q, hw x, t1, t2⟩) fun H' ws e2 hD' pw => q D ws H' (fresh_back e1 hD) (e1.trans e2) hD' ⟨Paired.mono (fun v r ⟨b, h1, h2, h3⟩ => ⟨b, h1, fresh_back (e.trans e1) h2, h3⟩) pw.1, pw.2⟩⟩
theorem evlp_rngN {ta : TA} {j : Nat} {m : Nat} (ys : Nat → List V) (h : EvA ta σ H [.int (m : Int)]) (hz : m ≤ 40000) (hw : ∀ x, wipe ((wipe σ vs).set j (some x)) vs = wipe σ vs)
    (ht : ∀ (i : Nat) H1, Ex H H1 → i < m → EvT tt ((wipe σ vs).set j (some (.int (i : Int)))) H1 true ∧ EvL te ((wipe σ vs).set j (some (.int (i : Int)))) H1 (ys i)) :
    EvLP (tLc (iRng1 ta) (gName j) tt te vs) σ H (PNew H ((List.range m).map ys)) := fun H0 e Q q => h H0 e _ fun H1 e1 => ⟨(m : Int), rfl, by omega, by omega, fun D hD =>
  lc_new (walk_range (lo := 0) (n := (m : Int).toNat)) ys hD (by simpa using hz) (fun _ _ => trivial) (fun i x H2 H2' hi e2 y => by
    obtain ⟨rfl, rfl⟩ := y
    have hi' : i < m := by simpa using hi
    obtain ⟨t1, t2⟩ := ht i _ ((e.trans e1).trans e2) hi'
    have e0 : (0 : Int) + (i : Int) = (i : Int) := Int.zero_add _
    refine ⟨(wipe σ vs).set j (some (.int (i : Int))), _, Ex.refl _, fun Q q => ?_, hw _, t1, t2⟩
    show Q ((wipe σ vs).set j (some (.int ((0 : Int) + (i : Int))))) _
    rw [e0]
    exact q) fun H' ws e2 hD' pw => q D ws H' (fresh_back e1 hD) (e1.trans e2) hD' (by
      rw [Int.toNat_natCast] at pw
      exact ⟨Paired.mono (fun v r ⟨b, h1, h2, h3⟩ => ⟨b, h1, fresh_back (e.trans e1) h2, h3⟩) pw.1, pw.2⟩)⟩
/-- list(a row | a list) -/
theorem el_listS {te : TE} {a : Addr} {xs : List V} (h : Ev te σ H (.ref a)) (hx : SeqAt2 H a xs) : EvL (tCB (rListS K) (tCons te tNil)) σ H xs := fun H1 e Q q => h H1 e _ fun H2 e2 =>
  ⟨a, xs, rfl, (hx.ex (e.trans e2)).elim (fun z => .inl (sq_of z)) (fun z => .inr (st_of z)), fun l hl => q l _ (fresh_back e2 hl) (e2.trans (Ex.new hl)) upd_same⟩
/-- [x] * n -/
theorem el_rep {te tb : TE} {v : V} {n : Nat} (h : EvL te σ H [v]) (hb : ∀ H1, Ex H H1 → Ev tb σ H1 (.int (n : Nat))) (hz : n ≤ 40000) : EvL (tOp rRep te tb) σ H (List.replicate n v) := fun H1 e Q q => h H1 e _ fun p H2 np e2 hp => hb H2 (e.trans e2) H2 (Ex.refl H2) _ fun H3 e3 =>
  ⟨p, (n : Int), [v], rfl, rfl, e3 _ _ hp, by omega, by omega, by
    rw [Int.toNat_natCast]
    show 1 * n ≤ sizeLine
    exact Nat.le_trans (by omega : 1 * n ≤ 100000) (by decide), fun l hl => q l _ (fresh_back (e2.trans e3) hl) ((e2.trans e3).trans (Ex.new hl)) (by rw [upd_same, Int.toNat_natCast, rep_flat])⟩
end
/-! ### the letters -/
/-- a list of ints that stands apart from q and L -/
def LR (q L : Addr) (H : Hp) (v : V) (r : Row) : Prop := ∃ b, v = .ref b ∧ b ≠ q ∧ b ≠ L ∧ H b = some (.lst (r.map V.int))
theorem LR.ex {q L : Addr} {H H' : Hp} {v : V} {r : Row} (h : LR q L H v r) (e : Ex H H') : LR q L H' v r := by
  obtain ⟨b, h1, h2, h3, h4⟩ := h
  exact ⟨b, h1, h2, h3, e _ _ h4⟩
theorem LR.dr {q L : Addr} {H H' : Hp} {v : V} {r : Row} (h : LR q L H v r) (e : Ex (del H q) H') : LR q L H' v r := by
  obtain ⟨b, h1, h2, h3, h4⟩ := h
  exact ⟨b, h1, h2, h3, e _ _ (del_some h4 h2)⟩
theorem LR.up {q L : Addr} {H : Hp} {v : V} {r : Row} {o : HO} (h : LR q L H v r) : LR q L (upd H L o) v r := by
  obtain ⟨b, h1, h2, h3, h4⟩ := h
  exact ⟨b, h1, h2, h3, by rw [upd_ne h3]; exact h4⟩
def Sq (n : Nat) (t : Tab) : Prop := t.length = n ∧ ∀ r ∈ t, r.length = n ∧ Sm r
theorem Sq.set {n i : Nat} {t : Tab} {r : Row} (h : Sq n t) (hr : r.length = n ∧ Sm r) : Sq n (t.set i r) := ⟨by rw [List.length_set]; exact h.1, fun x hx => by
  rcases List.mem_or_eq_of_mem_set hx with hx | rfl
  · exact h.2 x hx
  · exact hr⟩
def spLetters : Sp := fun vs H Q _ => ∃ (q : Addr) (p : Int) (n : Nat), vs = [.ref q, .int p, .int (n : Int)] ∧ Pot H q ∧ Prime5 p ∧ n ≤ 6 ∧ ∀ u H' t, Ex (del H q) H' → Pot H' q → TabT H' u t → Sq n t → Q u H'
/-- what stands while the letters are mixed -/
structure LT (B : Hp) (q L : Addr) (n : Nat) (H : Hp) (vs : List V) (t : Tab) : Prop where
  ex : Ex B H
  pot : Pot H q
  at_ : H L = some (.lst vs)
  rows : Paired (LR q L H) vs t
  sq : Sq n t
theorem LT.ev {B : Hp} {q L : Addr} {n : Nat} {H H' : Hp} {vs : List V} {t : Tab} (h : LT B q L n H vs t) (e : Ex H H') : LT B q L n H' vs t :=
  ⟨h.ex.trans e, pot_ex h.pot e, e _ _ h.at_, Paired.mono (fun _ _ z => LR.ex z e) h.rows, h.sq⟩
theorem LT.dr {B : Hp} {q L : Addr} {n : Nat} {H H' : Hp} {vs : List V} {t : Tab} (hB : B q = none) (hL : L ≠ q) (h : LT B q L n H vs t) (e : Ex (del H q) H') (p : Pot H' q) : LT B q L n H' vs t :=
  ⟨Ex.dr hB h.ex e, p, e _ _ (del_some h.at_ hL), Paired.mono (fun _ _ z => LR.dr z e) h.rows, h.sq⟩
theorem row_sm {p : Int} {r : Row} (hp : Prime5 p) (h : ∀ x ∈ r, ∃ y : Int, x = y % p) : Sm r := fun x hx => by
  have pp := prime_pos hp
  obtain ⟨y, rfl⟩ := h x hx
  have h1 := Int.emod_nonneg y (b := p) (by omega)
  have h2 := Int.emod_lt_of_pos y (b := p) (by omega)
  omega
/-- one row set anew -/
theorem LT.put {B : Hp} {q L : Addr} {n i : Nat} {H H' : Hp} {vs : List V} {t : Tab} {pn : Addr} {r : Row} (hB : B L = none) (hL : L ≠ q) (h : LT B q L n H vs t) (np : H pn = none) (e : Ex H H') (hp : H' pn = some (.lst (r.map V.int))) (hr : r.length = n ∧ Sm r) :
    LT B q L n (upd H' L (.lst (vs.set i (.ref pn)))) (vs.set i (.ref pn)) (t.set i r) := by
  have pq := pot_new h.pot np
  have pL : pn ≠ L := fun z => by rw [z, h.at_] at np; cases np
  obtain ⟨x, y, h1, h2⟩ := pot_ex h.pot e
  refine ⟨Ex.mut (h.ex.trans e) hB, ⟨x, y, by rw [upd_ne (Ne.symm hL)]; exact h1, h2⟩, upd_same, ?_, h.sq.set hr⟩
  exact paired_set (Paired.mono (fun _ _ z => (LR.ex z e).up) h.rows) ⟨pn, rfl, pq, pL, by rw [upd_ne pL]; exact hp⟩
theorem paired_choose {α β : Type} {F : α → β → Prop} {Pr : β → Prop} : ∀ {xs : List α}, (∀ x ∈ xs, ∃ y, F x y ∧ Pr y) → ∃ ys, Paired F xs ys ∧ ∀ y ∈ ys, Pr y
  | [], _ => ⟨[], .nil, fun y h => by cases h⟩
  | x :: xs, h => by
    obtain ⟨y, h1, h2⟩ := h x List.mem_cons_self
    obtain ⟨ys, h3, h4⟩ := paired_choose (xs := xs) fun z hz => h z (List.mem_cons_of_mem _ hz)
    refine ⟨y :: ys, .cons h1 h3, fun z hz => ?_⟩
    rcases List.mem_cons.mp hz with rfl | hz
    · exact h2
    · exact h4 z hz
theorem paired_unmap {α β γ : Type} {F : α → γ → Prop} {f : β → γ} : ∀ {xs : List α} {ys : List β}, Paired F xs (ys.map f) → Paired (fun x y => F x (f y)) xs ys
  | _, [], h => by
    cases h
    exact .nil
  | _, y :: ys, h => by
    cases h with
    | cons h1 h2 => exact .cons h1 (paired_unmap h2)
theorem paired_monoM {α β : Type} {F G : α → β → Prop} : ∀ {xs : List α} {ys : List β}, (∀ x y, x ∈ xs → F x y → G x y) → Paired F xs ys → Paired G xs ys
  | _, _, _, .nil => .nil
  | _, _, h, .cons f t => .cons (h _ _ List.mem_cons_self f) (paired_monoM (fun x y hx => h x y (List.mem_cons_of_mem _ hx)) t)
/-- new lists of ints stand apart -/
theorem rn_lr {q L : Addr} {H0 H : Hp} {vs : List V} {t : Tab} (hq : H0 q ≠ none) (hL : H L = some (.lst vs)) (h : Paired (RN H0 H) vs (t.map fun r => r.map V.int)) : Paired (LR q L H) vs t :=
  paired_monoM (fun v r hv ⟨b, h1, h2, h3⟩ => ⟨b, h1, fun z => hq (by rw [← z]; exact h2), (fun z => by
    rw [z, hL] at h3
    have e : vs = r.map V.int := by
      have := Option.some.inj h3
      injection this
    rw [e] at hv
    obtain ⟨y, _, h4⟩ := List.mem_map.mp hv
    rw [h1] at h4
    cases h4), h3⟩) (paired_unmap h)
theorem gName_go {i : Nat} {v : V} {σ : L2.St} {H : Hp} {Q : L2.St → Hp → Prop} (h : Q (σ.set i (some v)) H) : gName i v σ H Q := h
theorem pot_some {H : Hp} {q : Addr} (h : Pot H q) : H q ≠ none := fun z => by
  obtain ⟨x, y, h1, _⟩ := h
  rw [h1] at z
  cases z
theorem ev_turns {σ : L2.St} {H : Hp} {q : Addr} {n : Nat} {Kont : List V → Hp → Prop} (h0 : σ[0]? = some (some (.ref q))) (h2 : σ[2]? = some (some (.int (n : Int)))) (hq : Pot H q)
    (hk : ∀ (m : Nat) H', m < 5 → (m = 0 ∨ 1 < n) → Ex (del H q) H' → Pot H' q → Kont [.int (m : Int)] H') :
    tCons (tIf (tTest (tOp (rI0 fun i j => .bl (decide (j < i))) (tVar 2) (tC (.int 1)))) (tCall spDraw [] E0 (tCons (tVar 0) (tCons (tC (.int 5)) tNil))) (tC (.int 0))) tNil σ H Kont := by
  refine ⟨_, h2, _, _, rfl, rfl, _, rfl, ?_⟩
  by_cases c : (1 : Int) < (n : Int)
  · rw [decide_eq_true c]
    exact ⟨_, h0, q, 5, rfl, hq, by omega, by omega, fun d H' hd e hq' => hk d H' hd (.inr (by omega)) e hq'⟩
  · rw [decide_eq_false c]
    exact hk 0 H (by omega) (.inl rfl) del_ex hq
theorem q_for_turns {σ : L2.St} {H : Hp} {q : Addr} {n : Nat} {g : TG} {tb tz : TS} {D : Ends} (h0 : σ[0]? = some (some (.ref q))) (h2 : σ[2]? = some (some (.int (n : Int)))) (hq : Pot H q)
    (hk : ∀ (m : Nat) H', m < 5 → (m = 0 ∨ 1 < n) → Ex (del H q) H' → Pot H' q → tSeq (tFor (iRng1 (tCons (tC (.int (m : Int))) tNil)) g tb) tz D σ H') :
    tSeq (tFor (iRng1 (tCons (tIf (tTest (tOp (rI0 fun i j => .bl (decide (j < i))) (tVar 2) (tC (.int 1)))) (tCall spDraw [] E0 (tCons (tVar 0) (tCons (tC (.int 5)) tNil))) (tC (.int 0))) tNil)) g tb) tz D σ H :=
  ev_turns (Kont := fun vs H1 => tSeq (tFor (iRng1 (fun _ _ Q => Q vs H1)) g tb) tz D σ H1) h0 h2 hq hk
section
variable {P : Program} {w : World} {K : PySem.W.Frag} {mg : Str → Option Value} {base : Heap}
theorem ok_letters (B : Bt mg) (D : DefIn K mg "_law_letters" sLLetters ["_law_pot_here", "_law_prime", "_law_size"]) (h1 : Held P w K mg base CX0 1 "_law_draw" ["_law_pot_here", "_law_many"] spDraw)
    (h2 : Held P w K mg base CX0 2 "_law_mixed" ["_law_pot_here", "_law_some"] spMixed) (h3 : Held P w K mg base CX0 1 "_law_units" ["_law_size"] spUnits) : Held P w K mg base CX0 3 "_law_letters" ["_law_pot_here", "_law_prime", "_law_size"] spLetters := by
  obtain ⟨f1, fd1, g1, k1, b1, G1⟩ := h1
  obtain ⟨f2, fd2, g2, k2, b2, G2⟩ := h2
  obtain ⟨f3, fd3, g3, k3, b3, G3⟩ := h3
  refine D.held fun f fd F => F.ok scLLetters (fun vs H Q E h => ?_) (fun cdv A outer s H vs Q E hr h => ?_)
  · obtain ⟨q, p, n, rfl, _⟩ := h
    rfl
  · obtain ⟨q, p, n, rfl, hq, hp, hn, k⟩ := h
    refine ⟨_, pss_cons (ps_setLc (i := 3) (own := [("_law_row", 4)]) (g := gName 4) (tt := tYes) rfl scLLetters.nd rfl rfl (by rfl) (pi_listK (K := K) (pe_call G2 (hr.mono (by decide)) (by rfl) g2 k2 b2 .nil pass0 (pa_cons (pv 0) (pa_cons (pe_call G3 (hr.mono (by decide)) (by rfl) g3 k3 b3 .nil pass0 (pa_cons (pv 2) pa_nil)) pa_nil))))
        (blkOk_by (N := nLLetters) (sc := defScope sLLetters) (by decide +kernel)) (fun _ _ _ _ _ => pg_name (i := 4) scLLetters.nd rfl (Or.inl rfl)) (fun _ _ _ _ _ => pts_nil) (fun _ _ _ _ _ => pe_callTy (callListK (K := K)) (by rfl) B.list (by decide +kernel) (pa_cons (pv 4) pa_nil)))
      (pss_cons (ps_for PassesOwn.never rfl (pi_range1 (by rfl) B.range (pa_cons (pe_ifExp (pt_cmpR op_gt (pv 2) pe_int (nomark _)) (pe_call G1 (hr.mono (by decide)) (by rfl) g1 k1 b1 .nil pass0 (pa_cons (pv 0) (pa_cons pe_int pa_nil))) pe_int) pa_nil)) (pg_name (i := 5) scLLetters.nd rfl (Or.inl rfl))
        (pss_cons (ps_asg (g := gName 6) (pe_call G1 (hr.mono (by decide)) (by rfl) g1 k1 b1 .nil pass0 (pa_cons (pv 0) (pa_cons (pv 2) pa_nil))) (pg_name (i := 6) scLLetters.nd rfl (Or.inl rfl)))
        (pss_cons (ps_asg (g := gTup K 2 (gCons (gName 7) (gCons (gName 8) gNil))) (pe_tup (pa_cons (pe_op op_mod (pe_op op_add (pe_op op_add (pv 6) pe_int) (pe_call G1 (hr.mono (by decide)) (by rfl) g1 k1 b1 .nil pass0 (pa_cons (pv 0) (pa_cons (pe_op op_sub (pv 2) pe_int) pa_nil)))) (pv 2))
            (pa_cons (pe_op op_add pe_int (pe_call G1 (hr.mono (by decide)) (by rfl) g1 k1 b1 .nil pass0 (pa_cons (pv 0) (pa_cons (pe_op op_sub (pv 1) pe_int) pa_nil)))) pa_nil))) (pg_tupK (K := K) rfl (pgs_cons (pg_name (i := 7) scLLetters.nd rfl (Or.inl rfl)) (pgs_cons (pg_name (i := 8) scLLetters.nd rfl (Or.inr rfl)) pgs_nil))))
        (pss_one (ps_asg (g := gSub (tVar 3) (tVar 6) rSetL) (pe_lc (own := [("_law_mine", 9), ("_law_yours", 10)]) (g := gTup K 2 (gCons (gName 9) (gCons (gName 10) gNil))) (tt := tYes) rfl scLLetters.nd (pi_zipK (K := K) (by rfl) B.zip (pa_cons (pe_ix (ix_listK (K := K)) (pv 3) (pv 6) (fun _ _ => rfl)) (pa_cons (pe_ix (ix_listK (K := K)) (pv 3) (pv 7) (fun _ _ => rfl)) pa_nil)))
            (blkOk_by (N := nLLetters) (sc := defScope sLLetters) (by decide +kernel)) (fun _ _ _ _ _ => pg_tupK (K := K) rfl (pgs_cons (pg_name (i := 9) scLLetters.nd rfl (Or.inl rfl)) (pgs_cons (pg_name (i := 10) scLLetters.nd rfl (Or.inl rfl)) pgs_nil))) (fun _ _ _ _ _ => pts_nil)
            (fun _ _ _ _ _ => pe_op op_mod (pe_op op_add (pv 9) (pe_op op_mul (pv 8) (pv 10))) (pv 1))) (pg_sub (pv 3) (pv 6) set_list))))))
      (pss_cons (ps_if (pt_cmpR op_gt (pv 2) pe_int (nomark _))
        (pss_cons (ps_asg (g := gTup K 2 (gCons (gName 6) (gCons (gName 8) gNil))) (pe_tup (pa_cons (pe_call G1 (hr.mono (by decide)) (by rfl) g1 k1 b1 .nil pass0 (pa_cons (pv 0) (pa_cons (pv 2) pa_nil)))
            (pa_cons (pe_op op_add pe_int (pe_call G1 (hr.mono (by decide)) (by rfl) g1 k1 b1 .nil pass0 (pa_cons (pv 0) (pa_cons (pe_op op_sub (pv 1) pe_int) pa_nil)))) pa_nil))) (pg_tupK (K := K) rfl (pgs_cons (pg_name (i := 6) scLLetters.nd rfl (Or.inl rfl)) (pgs_cons (pg_name (i := 8) scLLetters.nd rfl (Or.inr rfl)) pgs_nil))))
        (pss_one (ps_asg (g := gSub (tVar 3) (tVar 6) rSetL) (pe_lc (own := [("_law_number", 11)]) (g := gName 11) (tt := tYes) rfl scLLetters.nd (pi_listK (K := K) (pe_ix (ix_listK (K := K)) (pv 3) (pv 6) (fun _ _ => rfl)))
            (blkOk_by (N := nLLetters) (sc := defScope sLLetters) (by decide +kernel)) (fun _ _ _ _ _ => pg_name (i := 11) scLLetters.nd rfl (Or.inl rfl)) (fun _ _ _ _ _ => pts_nil)
            (fun _ _ _ _ _ => pe_op op_mod (pe_op op_mul (pv 8) (pv 11)) (pv 1))) (pg_sub (pv 3) (pv 6) set_list)))) pss_nil)
      (pss_one (ps_ret (pe_callTy (callTupK (K := K)) (by rfl) B.tuple (by decide +kernel) (pa_cons (pe_lc (own := [("_law_row", 4)]) (g := gName 4) (tt := tYes) rfl scLLetters.nd (pi_listK (K := K) (pv 3)) (blkOk_by (N := nLLetters) (sc := defScope sLLetters) (by decide +kernel))
        (fun _ _ _ _ _ => pg_name (i := 4) scLLetters.nd rfl (Or.inl rfl)) (fun _ _ _ _ _ => pts_nil) (fun _ _ _ _ _ => pe_callTy (callTupK (K := K)) (by rfl) B.tuple (by decide +kernel) (pa_cons (pv 4) pa_nil))) pa_nil)))))), ?_⟩
    refine ⟨_, rfl, _, rfl, n, rfl, by omega, fun x H1 e1 hx => ?_⟩
    obtain ⟨ua, uw, rfl, hua, huw⟩ := hx
    have huwl : uw.length = n := by
      rw [huw.length]
      simp [units]
    have hq1 := pot_ex hq e1
    refine ⟨q, ua, uw, rfl, hq1, hua, by omega, fun l fs H2 nl e2 hq2 hl lfs mem => ?_⟩
    obtain ⟨T, pT, sT⟩ : ∃ T : Tab, Paired (RowT H2) fs T ∧ ∀ r ∈ T, r.length = n ∧ Sm r := paired_choose fun v hv => by
      obtain ⟨r, hr, rv⟩ := paired_mem huw (mem v hv)
      unfold units at hr
      obtain ⟨i, _, rfl⟩ := List.mem_map.mp hr
      exact ⟨_, (RowT.del hq1 rv).ex e2, by simp [unitRow], unitRow_sm n i⟩
    have lT : T.length = n := by rw [← pT.length]; omega
    refine (evlp_seqN (K := K) (σ := L2.start nLLetters [.ref q, .int p, .int (n : Int)]) (tl := tC (.ref l)) (a := l) (tt := tYes) (te := tCB (rListS K) (tCons (tVar 4) tNil)) (j := 4) (vs := [4]) (fun i => (rowAt T i).map V.int) ev_c hl (by omega) (fun _ => rfl) fun i x H3 e3 h => ⟨et_yes, ?_⟩) H2 (Ex.refl H2) (fun x H9 => gName 3 x (L2.start nLLetters [.ref q, .int p, .int (n : Int)]) H9 _) fun L ls H3 nL e3 hL pw => ?_
    · obtain ⟨rx, _⟩ := rows_item (rows_ex pT e3) h
      obtain ⟨ax, rfl, sx⟩ := rx.seq
      exact el_listS (ev_var rfl) sx
    have hq3 := pot_ex hq2 e3
    have Lq : L ≠ q := fun z => pot_some hq2 (by rw [← z]; exact nL)
    have eB : Ex (del H q) H3 := (Ex.dr del_same (del_ex.trans e1) e2).trans e3
    have BL : (del H q) L = none := fresh_back (Ex.dr del_same (del_ex.trans e1) e2) nL
    have lt0 : LT (del H q) q L n H3 ls T := ⟨eB, hq3, hL, rn_lr (pot_some hq2) hL (by
      have := pw.1
      rw [lfs, huwl, ← lT, map_range_row T fun r => r.map V.int] at this
      exact this), lT, sT⟩
    generalize hBe : del H q = Bs at eB BL lt0
    have Bq : Bs q = none := by rw [← hBe]; exact del_same
    have kB : ∀ u H' t, Ex Bs H' → Pot H' q → TabT H' u t → Sq n t → Q u H' := by rw [← hBe]; exact k
    have pp := prime_pos hp
    clear pw hL hq3
    refine gName_go ?_
    dsimp only
    refine q_for_turns rfl rfl lt0.pot fun m H4 hm hmn e4 hq4 => q_forR1 (n := (m : Nat)) (ea_cons ev_c ea_nil) (by omega)
      (fun i σ' H' => ∃ (vs : List V) (t : Tab) (u4 u5 u6 u7 u8 u9 u10 u11 : Option V), σ' = [some (.ref q), some (.int p), some (.int (n : Int)), some (.ref L), u4, u5, u6, u7, u8, u9, u10, u11] ∧ LT Bs q L n H' vs t) (fun H5 e5 => ⟨_, _, none, none, none, none, none, none, none, none, rfl, (lt0.dr Bq Lq e4 hq4).ev e5⟩) ?_ ?_
    · rintro i σ' H' hi ⟨vs, t, u4, u5, u6, u7, u8, u9, u10, u11, rfl, lt⟩
      have hn1 : 1 < n := by
        rcases hmn with c | c
        · omega
        · exact c
      refine ⟨_, rfl, _, rfl, q, n, rfl, lt.pot, by omega, by omega, fun d1 H5 hd1 e5 hq5 => ?_⟩
      have lt5 := lt.dr Bq Lq e5 hq5
      refine ⟨_, rfl, _, _, rfl, rfl, _, rfl, _, rfl, _, _, rfl, rfl, q, n - 1, by rw [show (((n - 1 : Nat) : Nat) : Int) = (n : Int) - 1 by omega] <;> rfl, lt5.pot, by omega, by omega, fun d2 H6 hd2 e6 hq6 => ?_⟩
      have lt6 := lt5.dr Bq Lq e6 hq6
      refine ⟨_, _, rfl, rfl, _, rfl, _, _, rfl, rfl, by omega, _, rfl, _, rfl, _, _, rfl, rfl, q, (p - 1).toNat, by rw [show (((p - 1).toNat : Nat) : Int) = p - 1 by omega] <;> rfl, lt6.pot, by omega, by omega, fun d3 H7 hd3 e7 hq7 => ?_⟩
      have lt7 := lt6.dr Bq Lq e7 hq7
      refine ⟨_, _, rfl, rfl, by show 2 ≤ sizeLine; decide, fun T nT => ⟨T, _, rfl, st_of upd_same, rfl, _, _, rfl, _, _, rfl, rfl, ?_⟩⟩
      have lt8 := lt7.ev (Ex.new (o := .tup [.int (((d1 : Int) + 1 + (d2 : Int)) % (n : Int)), .int (1 + (d3 : Int))]) nT)
      generalize upd H7 T (.tup [.int (((d1 : Int) + 1 + (d2 : Int)) % (n : Int)), .int (1 + (d3 : Int))]) = H8 at lt8
      have ho1 := Int.emod_nonneg ((d1 : Int) + 1 + (d2 : Int)) (b := (n : Int)) (by omega)
      have ho2 := Int.emod_lt_of_pos ((d1 : Int) + 1 + (d2 : Int)) (b := (n : Int)) (by omega)
      obtain ⟨o, ho⟩ : ∃ o : Nat, ((d1 : Int) + 1 + (d2 : Int)) % (n : Int) = (o : Int) := ⟨_, (Int.toNat_of_nonneg ho1).symm⟩
      rw [ho] at ho1 ho2
      have lvs := lt8.rows.length
      have ltl := lt8.sq.1
      obtain ⟨v1, hv1, b1, rfl, b1q, b1L, hb1⟩ := paired_get2 lt8.rows (i := d1) (List.getElem?_eq_getElem (by omega))
      obtain ⟨v2, hv2, b2, rfl, b2q, b2L, hb2⟩ := paired_get2 lt8.rows (i := o) (List.getElem?_eq_getElem (by omega))
      obtain ⟨r1, hb1, s1⟩ : ∃ r1 : Row, H8 b1 = some (.lst (r1.map V.int)) ∧ (r1.length = n ∧ Sm r1) := ⟨_, hb1, lt8.sq.2 _ (List.getElem_mem (show d1 < t.length by omega))⟩
      obtain ⟨r2, hb2, s2⟩ : ∃ r2 : Row, H8 b2 = some (.lst (r2.map V.int)) ∧ (r2.length = n ∧ Sm r2) := ⟨_, hb2, lt8.sq.2 _ (List.getElem_mem (show o < t.length by omega))⟩
      dsimp only [tAsg]
      refine (EvLP.ints (bs := List.zipWith (fun x y => (x + (1 + (d3 : Int)) * y) % p) r1 r2) ((evlp_zipL (K := K) (a := b1) (b := b2) (xs := r1.map V.int) (zs := r2.map V.int) lf_int (fun _ => true) (fun i => (at0 r1 i + (1 + (d3 : Int)) * at0 r2 i) % p) (eap_of (ea_cons (ev_op (ev_var rfl) (ev_var rfl) (rv_ixL (sq_of lt8.at_) (atI_nat hv1))) (ea_cons (ev_op (ev_var rfl) (ev_is (ev_var rfl) (congrArg V.int ho)) (rv_ixL (sq_of lt8.at_) (atI_nat hv2))) ea_nil)) fun H9 e9 => ⟨rfl, e9 _ _ hb1, e9 _ _ hb2⟩) (by simp; omega) (by simp; omega) (fun _ _ => rfl)
        fun i u v H9 e9 h1 h2 => ⟨et_yes, fun _ => ?_⟩).imp fun ws H9 _ z => ?_)) H8 (Ex.refl H8) _ fun pn H9 np e9 hpn => ?_
      · obtain ⟨rfl, _⟩ := row_item h1
        obtain ⟨rfl, _⟩ := row_item h2
        exact ev_p (ev_op (ev_op (ev_var rfl) (ev_op (ev_var rfl) (ev_var rfl) (rv_I (.inl ⟨by omega, by omega⟩))) rv_I0) (ev_var rfl) (rv_I (by omega))) fun _ _ => rfl
      · rw [pick_map, List.length_map, map_range_zip r1 r2 (fun x y => (x + (1 + (d3 : Int)) * y) % p) (by omega)] at z
        exact z
      · refine ⟨_, rfl, _, rfl, L, vs, (d1 : Int), d1, rfl, rfl, e9 _ _ lt8.at_, ixN_nat (by omega), ?_⟩
        refine ⟨_, _, _, _, _, _, _, _, _, _, rfl, lt8.put BL Lq np e9 hpn ⟨by rw [List.length_zipWith]; omega, row_sm hp fun x hx => ?_⟩⟩
        obtain ⟨i, hi, e⟩ := List.mem_iff_getElem.mp hx
        rw [List.getElem_zipWith] at e
        exact ⟨_, e.symm⟩
    · rintro σ' H' ⟨vs, t, u4, u5, u6, u7, u8, u9, u10, u11, rfl, lt⟩
      have fin : ∀ (vs : List V) (t : Tab) (u4 u5 u6 u7 u8 u9 u10 u11 : Option V) H', LT Bs q L n H' vs t → tRet (tCB (rTupOf K) (tCons (tLc (iList K (tVar 3)) (gName 4) tYes (tCB (rTupOf K) (tCons (tVar 4) tNil)) [4]) tNil)) { nx := fun _ H' => Q .non H', rt := Q } [some (.ref q), some (.int p), some (.int (n : Int)), some (.ref L), u4, u5, u6, u7, u8, u9, u10, u11] H' := fun vs t u4 u5 u6 u7 u8 u9 u10 u11 H' lt => by
        have lvs := lt.rows.length
        have ltl := lt.sq.1
        refine s_retP (evp_tab (K := K) (l := t) ((evlp_list (K := K) (a := L) lf_row (fun _ => true) (rowAt t) (ev_var rfl) lt.at_ (by omega) (fun _ => rfl) fun i x H9 e9 h => ⟨et_yes, fun _ => ?_⟩).imp fun ws H9 _ z => ?_) rfl) fun v H9 e9 z => kB v H9 t (lt.ex.trans e9) (pot_ex lt.pot e9) z lt.sq
        · obtain ⟨r, h1, b, rfl, _, _, hb⟩ := paired_get lt.rows h
          obtain ⟨h3, h4⟩ := List.getElem?_eq_some_iff.mp h1
          rw [rowAt_get h3, h4]
          intro H10 e10 Q q
          exact ⟨_, rfl, b, _, rfl, .inl ⟨sq_of (e10 _ _ (e9 _ _ hb)), fun l hl => q _ _ (Ex.new hl) ⟨l, rfl, upd_same⟩⟩⟩
        · rw [pick_map, lvs, row_at_map] at z
          exact z
      refine q_when (b := decide ((n : Int) > 0)) (et_test (ev_op (ev_var rfl) ev_c rv_I0)) (fun c H5 e5 => ?_) (fun c H5 e5 => fin _ _ _ _ _ _ _ _ _ _ H5 (lt.ev e5))
      have c' : (n : Int) > 0 := of_decide_eq_true c
      have lt := lt.ev e5
      dsimp only [tSeq]
      refine ⟨_, rfl, _, rfl, q, n, rfl, lt.pot, by omega, by omega, fun d1 H6 hd1 e6 hq6 => ?_⟩
      have lt6 := lt.dr Bq Lq e6 hq6
      refine ⟨_, rfl, _, rfl, _, _, rfl, rfl, q, (p - 1).toNat, by rw [show (((p - 1).toNat : Nat) : Int) = p - 1 by omega] <;> rfl, lt6.pot, by omega, by omega, fun d3 H7 hd3 e7 hq7 => ?_⟩
      have lt7 := lt6.dr Bq Lq e7 hq7
      refine ⟨_, _, rfl, rfl, by show 2 ≤ sizeLine; decide, fun T nT => ⟨T, _, rfl, st_of upd_same, rfl, _, _, rfl, _, _, rfl, rfl, ?_⟩⟩
      have lt8 := lt7.ev (Ex.new (o := .tup [.int (d1 : Int), .int (1 + (d3 : Int))]) nT)
      generalize upd H7 T (.tup [.int (d1 : Int), .int (1 + (d3 : Int))]) = H8 at lt8
      have lvs := lt8.rows.length
      have ltl := lt8.sq.1
      obtain ⟨v1, hv1, b1, rfl, b1q, b1L, hb1⟩ := paired_get2 lt8.rows (i := d1) (List.getElem?_eq_getElem (by omega))
      obtain ⟨r1, hb1, s1⟩ : ∃ r1 : Row, H8 b1 = some (.lst (r1.map V.int)) ∧ (r1.length = n ∧ Sm r1) := ⟨_, hb1, lt8.sq.2 _ (List.getElem_mem (show d1 < t.length by omega))⟩
      dsimp only [tAsg]
      refine (EvLP.ints (bs := r1.map fun x => (1 + (d3 : Int)) * x % p) ((evlp_list (K := K) (a := b1) (xs := r1.map V.int) lf_int (fun _ => true) (fun i => (1 + (d3 : Int)) * at0 r1 i % p) (ev_op (ev_var rfl) (ev_var rfl) (rv_ixL (sq_of lt8.at_) (atI_nat hv1))) hb1 (by simp; omega) (fun _ => rfl)
        fun i u H9 e9 h1 => ⟨et_yes, fun _ => ?_⟩).imp fun ws H9 _ z => ?_)) H8 (Ex.refl H8) _ fun pn H9 np e9 hpn => ?_
      · obtain ⟨rfl, _⟩ := row_item h1
        exact ev_p (ev_op (ev_op (ev_var rfl) (ev_var rfl) (rv_I (.inl ⟨by omega, by omega⟩))) (ev_var rfl) (rv_I (by omega))) fun _ _ => rfl
      · rw [pick_map, List.length_map, map_range_at r1 (fun x => (1 + (d3 : Int)) * x % p)] at z
        exact z
      · refine ⟨_, rfl, _, rfl, L, vs, (d1 : Int), d1, rfl, rfl, e9 _ _ lt8.at_, ixN_nat (by omega), ?_⟩
        refine fin _ _ _ _ _ _ _ _ _ _ _ (lt8.put BL Lq np e9 hpn ⟨by rw [List.length_map]; omega, row_sm hp fun x hx => ?_⟩)
        obtain ⟨y, _, rfl⟩ := List.mem_map.mp hx
        exact ⟨_, rfl⟩
end
end RK

set_option Elab.async false
set_option linter.all false
set_option maxRecDepth 100000
set_option maxHeartbeats 4000000
namespace RK
open PySem L2 Evl
def CellR (H : Hp) (b : Addr) (r : Row) : Prop := H b = some (.lst (r.map V.int))
theorem paired_upd {H : Hp} {b : Addr} {r' : Row} : ∀ {bs : List Addr} {M : Tab} {i : Nat}, bs.Nodup → bs[i]? = some b → Paired (CellR H) bs M → Paired (CellR (upd H b (.lst (r'.map V.int)))) bs (M.set i r')
  | _, _, _, _, h, .nil => by simp at h
  | c :: bs, _, 0, nd, h, .cons f t => by
    have e : c = b := by simpa using h
    subst e
    have nd' := List.nodup_cons.mp nd
    refine .cons upd_same (paired_monoM (fun x y hx g => ?_) t)
    show upd H c _ x = _
    rw [upd_ne (fun z => nd'.1 (by rw [← z]; exact hx))]
    exact g
  | c :: bs, _, i + 1, nd, h, .cons f t => by
    have nd' := List.nodup_cons.mp nd
    have h' : bs[i]? = some b := by simpa using h
    refine .cons ?_ (paired_upd nd'.2 h' t)
    show upd H b _ c = _
    rw [upd_ne (fun z => nd'.1 (by rw [z]; exact List.mem_of_getElem? h'))]
    exact f
theorem rowAt_set {M : Tab} {i k : Nat} {r : Row} (h : i < M.length) : rowAt (M.set i r) k = if i = k then r else rowAt M k := by
  unfold rowAt
  rw [List.getD_eq_getElem?_getD, List.getElem?_set]
  by_cases c : i = k
  · subst c
    simp [h]
  · simp [c, List.getD_eq_getElem?_getD]
def Sym (n : Nat) (M : Tab) : Prop := ∀ i j, i < n → j < n → at0 (rowAt M i) j = at0 (rowAt M j) i
structure MatAt (B : Hp) (q L : Addr) (p : Int) (n : Nat) (H : Hp) (bs : List Addr) (M : Tab) : Prop where
  ex : Ex B H
  pot : Pot H q
  at_ : H L = some (.lst (bs.map V.ref))
  nd : bs.Nodup
  nq : ∀ b ∈ bs, b ≠ q ∧ b ≠ L ∧ B b = none
  rows : Paired (CellR H) bs M
  len : bs.length = n
  good : Good p n M
section
variable {B : Hp} {q L : Addr} {p : Int} {n : Nat} {H H' : Hp} {bs : List Addr} {M : Tab}
theorem MatAt.ev (h : MatAt B q L p n H bs M) (e : Ex H H') : MatAt B q L p n H' bs M :=
  ⟨h.ex.trans e, pot_ex h.pot e, e _ _ h.at_, h.nd, h.nq, Paired.mono (fun _ _ z => e _ _ z) h.rows, h.len, h.good⟩
theorem MatAt.dr (hB : B q = none) (hL : L ≠ q) (h : MatAt B q L p n H bs M) (e : Ex (del H q) H') (po : Pot H' q) : MatAt B q L p n H' bs M :=
  ⟨Ex.dr hB h.ex e, po, e _ _ (del_some h.at_ hL), h.nd, h.nq, paired_monoM (fun b _ hb z => e _ _ (del_some z (h.nq b hb).1)) h.rows, h.len, h.good⟩
theorem MatAt.get (h : MatAt B q L p n H bs M) {i : Nat} (hi : i < n) : ∃ b, bs[i]? = some b ∧ H b = some (.lst ((rowAt M i).map V.int)) ∧ (bs.map V.ref)[i]? = some (.ref b) ∧ i < M.length ∧ GoodR p n (rowAt M i) := by
  have hl := h.rows.length
  have hb := h.len
  refine ⟨bs[i]'(by omega), List.getElem?_eq_getElem (by omega), ?_, by rw [List.getElem?_map, List.getElem?_eq_getElem (by omega)] <;> rfl, by omega, h.good _ (rowAt_mem (by omega))⟩
  obtain ⟨r, h1, h2⟩ := paired_get h.rows (List.getElem?_eq_getElem (show i < bs.length by omega))
  obtain ⟨h3, h4⟩ := List.getElem?_eq_some_iff.mp h1
  rw [rowAt_get h3, h4]
  exact h2
theorem MatAt.put (hL : L ≠ q) (h : MatAt B q L p n H bs M) {i j : Nat} {b : Addr} {x : Int} (hi : i < n) (hj : j < n) (hb : bs[i]? = some b) (hx : 0 ≤ x ∧ x < p) :
    MatAt B q L p n (upd H b (.lst (((rowAt M i).map V.int).set j (.int x)))) bs (M.set i ((rowAt M i).set j x)) := by
  have bm := List.mem_of_getElem? hb
  obtain ⟨n1, n2, n3⟩ := h.nq b bm
  have hl := h.rows.length
  have hlen := h.len
  rw [← List.map_set]
  refine ⟨Ex.mut h.ex n3, ?_, ?_, h.nd, h.nq, paired_upd h.nd hb h.rows, h.len, fun r hr => ?_⟩
  · obtain ⟨x, y, h1, h2⟩ := h.pot
    exact ⟨x, y, by rw [upd_ne (Ne.symm n1)]; exact h1, h2⟩
  · rw [upd_ne (Ne.symm n2)]
    exact h.at_
  · rcases List.mem_or_eq_of_mem_set hr with hr | rfl
    · exact h.good r hr
    · have gi := h.good _ (rowAt_mem (i := i) (by omega))
      refine ⟨by rw [List.length_set]; exact gi.1, fun y hy => ?_⟩
      rcases List.mem_or_eq_of_mem_set hy with hy | rfl
      · exact gi.2 y hy
      · exact hx
theorem sym_put {i j : Nat} {x : Int} (s : Sym n M) (hl : M.length = n) (hr : ∀ r ∈ M, r.length = n) (hi : i < n) (hj : j < n) :
    Sym n ((M.set i ((rowAt M i).set j x)).set j ((rowAt (M.set i ((rowAt M i).set j x)) j).set i x)) := by
  have e1 : ∀ k l, l < n → at0 (rowAt (M.set i ((rowAt M i).set j x)) k) l = if i = k ∧ j = l then x else at0 (rowAt M k) l := fun k l hl2 => by
    rw [rowAt_set (by omega)]
    by_cases c : i = k
    · subst c
      rw [if_pos rfl, at0_set (by rw [hr _ (rowAt_mem (by omega))]; exact hj)]
      by_cases c2 : j = l <;> simp [c2]
    · simp [c]
  have hl2 : (M.set i ((rowAt M i).set j x)).length = n := by rw [List.length_set]; exact hl
  have hr2 : (rowAt (M.set i ((rowAt M i).set j x)) j).length = n := by
    rw [rowAt_set (by omega)]
    split
    · rw [List.length_set]; exact hr _ (rowAt_mem (by omega))
    · exact hr _ (rowAt_mem (by omega))
  have e2 : ∀ k l, l < n → at0 (rowAt ((M.set i ((rowAt M i).set j x)).set j ((rowAt (M.set i ((rowAt M i).set j x)) j).set i x)) k) l = if (i = k ∧ j = l) ∨ (j = k ∧ i = l) then x else at0 (rowAt M k) l := fun k l hl3 => by
    rw [rowAt_set (by omega)]
    by_cases c : j = k
    · subst c
      rw [if_pos rfl, at0_set (by omega)]
      by_cases c2 : i = l
      · simp [c2]
      · rw [if_neg c2, e1 _ _ hl3]
        by_cases c3 : i = j ∧ j = l
        · exact absurd (c3.1.trans c3.2) c2
        · simp [c2, c3]
    · rw [if_neg c, e1 _ _ hl3]
      simp [c]
  intro k l hk hl3
  rw [e2 k l hl3, e2 l k hk]
  by_cases c : (i = k ∧ j = l) ∨ (j = k ∧ i = l)
  · rw [if_pos c, if_pos (by rcases c with ⟨a, b⟩ | ⟨a, b⟩; exact .inr ⟨b, a⟩; exact .inl ⟨b, a⟩)]
  · rw [if_neg c, if_neg (by rintro (⟨a, b⟩ | ⟨a, b⟩); exact c (.inr ⟨b, a⟩); exact c (.inl ⟨b, a⟩))]
    exact s k l hk hl3
theorem sym_zero : Sym n (List.replicate n (List.replicate n 0)) := fun i j hi hj => by
  have e : ∀ k l, k < n → l < n → at0 (rowAt (List.replicate n (List.replicate n (0 : Int))) k) l = 0 := fun k l hk hl => by
    rw [rowAt_get (by simpa using hk), List.getElem_replicate, at0_get (by simpa using hl), List.getElem_replicate]
  rw [e i j hi hj, e j i hj hi]
end
def drow (n a : Nat) (full x : Int) : Row := (List.range n).map fun t => if t = a ∧ (a : Int) < full then x else 0
theorem drow_off {n a : Nat} {full x : Int} {j : Nat} (hj : j < n) (h : j ≠ a) : at0 (drow n a full x) j = 0 := by
  rw [at0_get (by simp [drow, hj])]
  simp [drow, h]
theorem refs_of {H2 H3 : Hp} {L : Addr} : ∀ {vs : List V} {M : Tab}, Paired (fun v r => RN H2 H3 v (r.map V.int)) vs M → (∀ v ∈ vs, ∀ b, v = .ref b → b ≠ L) → ∃ bs : List Addr, vs = bs.map V.ref ∧ Paired (CellR H3) bs M ∧ ∀ b ∈ bs, H2 b = none ∧ b ≠ L
  | _, _, .nil, _ => ⟨[], rfl, .nil, fun b h => by cases h⟩
  | _, _, .cons ⟨b, h1, h2, h3⟩ t, hL => by
    obtain ⟨bs, e, p, q⟩ := refs_of t fun v hv => hL v (List.mem_cons_of_mem _ hv)
    refine ⟨b :: bs, by rw [h1, e] <;> rfl, .cons h3 p, fun c hc => ?_⟩
    rcases List.mem_cons.mp hc with rfl | hc
    · exact ⟨h2, hL _ List.mem_cons_self _ h1⟩
    · exact q c hc
theorem nodup_refs : ∀ {bs : List Addr}, (bs.map V.ref).Nodup → bs.Nodup
  | [], _ => List.nodup_nil
  | b :: bs, h => by
    have h' := List.nodup_cons.mp h
    exact List.nodup_cons.mpr ⟨fun z => h'.1 (List.mem_map.mpr ⟨b, z, rfl⟩), nodup_refs h'.2⟩
theorem ev_full {σ : L2.St} {H : Hp} {q : Addr} {n wy : Nat} {Kont : V → Hp → Prop} (h0 : σ[0]? = some (some (.ref q))) (h2 : σ[2]? = some (some (.int (n : Int)))) (h3 : σ[3]? = some (some (.int (wy : Int)))) (hq : Pot H q) (hn : n ≤ 100)
    (hk : ∀ (f : Int) H', Ex (del H q) H' → Pot H' q → Kont (.int f) H') :
    tIf (tTest (tOp rEq (tVar 3) (tC (.int 1)))) (tCall spDraw [] E0 (tCons (tVar 0) (tCons (tOp (rI0 fun i j => .int (i + j)) (tVar 2) (tC (.int 1))) tNil))) (tVar 2) σ H Kont := by
  refine ⟨_, h3, rfl, _, rfl, ?_⟩
  by_cases c : (V.int (wy : Int)) = V.int 1
  · rw [decide_eq_true c]
    exact ⟨_, h0, _, h2, _, _, rfl, rfl, q, n + 1, rfl, hq, by omega, by omega, fun d H' hd e hq' => hk d H' e hq'⟩
  · rw [decide_eq_false c]
    exact ⟨_, h2, hk n H del_ex hq⟩
theorem s_appP {K : PySem.W.Frag} {ta te : TE} {σ : L2.St} {H : Hp} {D : Ends} {P : V → Hp → Prop} {l : Addr} {xs : List V} (hl : H l = some (.lst xs)) (ha : Ev ta σ H (.ref l)) (h : EvP te σ H P) (hz : xs.length < 100000) (k : ∀ v H1, Ex H H1 → P v H1 → D.nx σ (upd H1 l (.lst (xs ++ [v])))) :
    tDrop (tBM K "list" rAppend ta (tCons te tNil)) D σ H := ha H (Ex.refl H) _ fun H1 e1 =>
  ⟨Or.inl ⟨rfl, xs, sq_of (e1 l _ hl)⟩, h H1 e1 _ fun v H2 e2 hp => ⟨l, xs, v, rfl, rfl, e2 l _ (e1 l _ hl), sz_lt hz, k v H2 (e1.trans e2) hp⟩⟩
def spGrid : Sp := fun vs H Q _ => ∃ (q : Addr) (p : Int) (n : Nat), vs = [.ref q, .int p, .int (n : Int)] ∧ Pot H q ∧ Prime5 p ∧ n ≤ 6 ∧ ∀ u H' t, Ex (del H q) H' → Pot H' q → TabT H' u t → t.length = n → Gr p t → turned t = t → Q u H'
section
variable {P : Program} {w : World} {K : PySem.W.Frag} {mg : Str → Option Value} {base : Heap}
theorem ok_grid (B : Bt mg) (D : DefIn K mg "_law_grid" sLGrid ["_law_pot_here", "_law_prime", "_law_size"]) (h1 : Held P w K mg base CX0 1 "_law_draw" ["_law_pot_here", "_law_many"] spDraw)
    (h2 : Held P w K mg base CX0 3 "_law_room_by" ["_law_prime", "_law_grid_here", "_law_table"] spRoomBy) (h3 : Held P w K mg base CX0 3 "_law_letters" ["_law_pot_here", "_law_prime", "_law_size"] spLetters) : Held P w K mg base CX0 4 "_law_grid" ["_law_pot_here", "_law_prime", "_law_size"] spGrid := by
  obtain ⟨f1, fd1, g1, k1, b1, G1⟩ := h1
  obtain ⟨f2, fd2, g2, k2, b2, G2⟩ := h2
  obtain ⟨f3, fd3, g3, k3, b3, G3⟩ := h3
  refine D.held fun f fd F => F.ok scLGrid (fun vs H Q E h => ?_) (fun cdv A outer s H vs Q E hr h => ?_)
  · obtain ⟨q, p, n, rfl, _⟩ := h
    rfl
  · obtain ⟨q, p, n, rfl, hq, hp, hn, k⟩ := h
    refine ⟨_, pss_cons (ps_asg (g := gName 3) (pe_call G1 (hr.mono (by decide)) (by rfl) g1 k1 b1 .nil pass0 (pa_cons (pv 0) (pa_cons pe_int pa_nil))) (pg_name (i := 3) scLGrid.nd rfl (Or.inl rfl)))
      (pss_cons (ps_if (pt_cmpR op_eq (pv 3) pe_int (nomark _))
        (pss_cons (ps_setLc (i := 4) (own := [("_law_at", 5)]) (g := gName 5) (tt := tYes) rfl scLGrid.nd rfl rfl (by rfl) (pi_range1 (by rfl) B.range (pa_cons (pv 2) pa_nil)) (blkOk_by (N := nLGrid) (sc := defScope sLGrid) (by decide +kernel))
          (fun _ _ _ _ _ => pg_name (i := 5) scLGrid.nd rfl (Or.inl rfl)) (fun _ _ _ _ _ => pts_nil) (fun _ _ _ _ _ => pe_op op_rep (pe_lst (pa_cons pe_int pa_nil)) (pv 2)))
        (pss_cons (ps_for PassesOwn.never rfl (pi_range1 (by rfl) B.range (pa_cons (pv 2) pa_nil)) (pg_name (i := 5) scLGrid.nd rfl (Or.inr rfl))
          (pss_one (ps_for PassesOwn.never rfl (pi_range2 (by rfl) B.range (pa_cons (pv 5) (pa_cons (pv 2) pa_nil))) (pg_name (i := 6) scLGrid.nd rfl (Or.inl rfl))
            (pss_cons (ps_asg (g := gSub (tOp (rIxL K) (tVar 4) (tVar 5)) (tVar 6) rSetL) (pe_call G1 (hr.mono (by decide)) (by rfl) g1 k1 b1 .nil pass0 (pa_cons (pv 0) (pa_cons (pv 1) pa_nil))) (pg_sub (pe_ix (ix_listK (K := K)) (pv 4) (pv 5) (fun _ _ => rfl)) (pv 6) set_list))
            (pss_one (ps_asg (g := gSub (tOp (rIxL K) (tVar 4) (tVar 6)) (tVar 5) rSetL) (pe_ix (ix_listK (K := K)) (pe_ix (ix_listK (K := K)) (pv 4) (pv 5) (fun _ _ => rfl)) (pv 6) (fun _ _ => rfl)) (pg_sub (pe_ix (ix_listK (K := K)) (pv 4) (pv 6) (fun _ _ => rfl)) (pv 5) set_list)))))))
        (pss_one (ps_ret (pe_callTy (callTupK (K := K)) (by rfl) B.tuple (by decide +kernel) (pa_cons (pe_lc (own := [("_law_row", 7)]) (g := gName 7) (tt := tYes) rfl scLGrid.nd (pi_listK (K := K) (pv 4)) (blkOk_by (N := nLGrid) (sc := defScope sLGrid) (by decide +kernel))
          (fun _ _ _ _ _ => pg_name (i := 7) scLGrid.nd rfl (Or.inl rfl)) (fun _ _ _ _ _ => pts_nil) (fun _ _ _ _ _ => pe_callTy (callTupK (K := K)) (by rfl) B.tuple (by decide +kernel) (pa_cons (pv 7) pa_nil))) pa_nil)))))) pss_nil)
      (pss_cons (ps_asg (g := gTup K 2 (gCons (gName 8) (gCons (gName 9) gNil))) (pe_tup (pa_cons (pe_ifExp (pt_cmpR op_eq (pv 3) pe_int (nomark _)) (pe_call G1 (hr.mono (by decide)) (by rfl) g1 k1 b1 .nil pass0 (pa_cons (pv 0) (pa_cons (pe_op op_add (pv 2) pe_int) pa_nil))) (pv 2)) (pa_cons (pe_lst pa_nil) pa_nil)))
          (pg_tupK (K := K) rfl (pgs_cons (pg_name (i := 8) scLGrid.nd rfl (Or.inr rfl)) (pgs_cons (pg_name (i := 9) scLGrid.nd rfl (Or.inl rfl)) pgs_nil))))
      (pss_cons (ps_for PassesOwn.never rfl (pi_range1 (by rfl) B.range (pa_cons (pv 2) pa_nil)) (pg_name (i := 5) scLGrid.nd rfl (Or.inr rfl))
        (pss_cons (ps_asg (g := gName 10) (pe_op op_add pe_int (pe_call G1 (hr.mono (by decide)) (by rfl) g1 k1 b1 .nil pass0 (pa_cons (pv 0) (pa_cons (pe_op op_sub (pv 1) pe_int) pa_nil)))) (pg_name (i := 10) scLGrid.nd rfl (Or.inr rfl)))
        (pss_one (ps_expr (pe_bm PySem.F.plainAttrs_list PySem.F.slot_list_append PySem.F.type_list_append mt_append (pv 9) (pa_cons (pe_callTy (callTupK (K := K)) (by rfl) B.tuple (by decide +kernel) (pa_cons (pe_lc (own := [("_law_to", 6)]) (g := gName 6) (tt := tYes) rfl scLGrid.nd (pi_range1 (by rfl) B.range (pa_cons (pv 2) pa_nil)) (blkOk_by (N := nLGrid) (sc := defScope sLGrid) (by decide +kernel))
          (fun _ _ _ _ _ => pg_name (i := 6) scLGrid.nd rfl (Or.inl rfl)) (fun _ _ _ _ _ => pts_nil) (fun _ _ _ _ _ => pe_ifExp (pw_and (pt_cmpR op_eq (pv 6) (pv 5) (nomark _)) (pw_and1 (pt_cmpR op_lt (pv 5) (pv 8) (by rfl)))).pt (pv 10) pe_int)) pa_nil)) pa_nil))))))
      (pss_one (ps_ret (pe_call G2 (hr.mono (by decide)) (by rfl) g2 k2 b2 .nil pass0 (pa_cons (pv 1) (pa_cons (pe_callTy (callTupK (K := K)) (by rfl) B.tuple (by decide +kernel) (pa_cons (pv 9) pa_nil)) (pa_cons (pe_call G3 (hr.mono (by decide)) (by rfl) g3 k3 b3 .nil pass0 (pa_cons (pv 0) (pa_cons (pv 1) (pa_cons (pv 2) pa_nil)))) pa_nil))))))))), ?_⟩
    refine ⟨_, rfl, q, 4, rfl, hq, by omega, by omega, fun wy H1 hwy e1 hq1 => ?_⟩
    refine gName_go ?_
    dsimp only
    have pp := prime_pos hp
    generalize hBe : del H q = Bs at e1 k
    have Bq : Bs q = none := by rw [← hBe]; exact del_same
    refine q_when (b := decide (V.int (wy : Int) = V.int 0)) (et_test (ev_op (ev_var rfl) ev_c (rv_eq rfl))) (fun c H2 e2 => ?_) (fun c H2 e2 => ?_)
    · have hq2 := pot_ex hq1 e2
      have eB2 := e1.trans e2
      refine q_asgLP (i := 4) (PL := PNew H2 ((List.range n).map fun _ => List.replicate n (V.int 0))) (evlp_rngN (fun _ => List.replicate n (V.int 0)) (ea_cons (ev_var rfl) ea_nil) (by omega) (fun _ => rfl) fun i H3 e3 hi => ⟨et_yes, el_rep (el_lst (ea_cons ev_c ea_nil) (by show 1 ≤ 100000; decide)) (fun H4 e4 => ev_var rfl) (by omega)⟩) fun L vs H3 nL e3 hL pw => ?_
      obtain ⟨pw, nd⟩ := pw
      have eM : (List.range n).map (fun _ => List.replicate n (V.int 0)) = (List.replicate n (List.replicate n (0 : Int))).map fun r => r.map V.int := by
        rw [List.map_replicate, List.map_replicate]
        refine List.ext_getElem (by simp) fun i h1 h2 => ?_
        rw [List.getElem_map, List.getElem_replicate]
      rw [eM] at pw
      have plr := rn_lr (pot_some hq2) hL pw
      obtain ⟨bs, rfl, pbs, nbs⟩ := refs_of (L := L) (paired_unmap pw) fun v hv b hb => by
        obtain ⟨r, _, b', h1, _, h2, _⟩ := paired_mem plr hv
        rw [hb] at h1
        cases h1
        exact h2
      have Lq : L ≠ q := fun z => pot_some hq2 (by rw [← z]; exact nL)
      have mat0 : MatAt Bs q L p n H3 bs (List.replicate n (List.replicate n 0)) := ⟨eB2.trans e3, pot_ex hq2 e3, hL, nodup_refs nd, fun b hb => ⟨fun z => pot_some hq2 (by rw [← z]; exact (nbs b hb).1), (nbs b hb).2, fresh_back eB2 (nbs b hb).1⟩, pbs, by rw [pbs.length]; simp, fun r hr => by
        rw [List.eq_of_mem_replicate hr]
        exact ⟨by simp, fun x hx => by rw [List.eq_of_mem_replicate hx]; omega⟩⟩
      have sym0 : Sym n (List.replicate n (List.replicate n 0)) := sym_zero
      clear plr pw nd eM
      refine q_forR1 (n := (n : Nat)) (ea_cons (ev_var rfl) ea_nil) (by omega) (fun i σ' H' => ∃ (M : Tab) (u5 u6 u7 u8 u9 u10 : Option V), σ' = [some (.ref q), some (.int p), some (.int (n : Int)), some (.int (wy : Int)), some (.ref L), u5, u6, u7, u8, u9, u10] ∧ MatAt Bs q L p n H' bs M ∧ Sym n M)
        (fun H4 e4 => ⟨_, none, none, none, none, none, none, rfl, mat0.ev e4, sym0⟩) ?_ ?_
      · rintro i σ' H' hi ⟨M, u5, u6, u7, u8, u9, u10, rfl, mat, sym⟩
        refine s_forR2 (lo := (i : Int)) (n := (n : Int)) (ea_cons (ev_var rfl) (ea_cons (ev_var rfl) ea_nil)) ⟨by omega, by omega, by omega, by omega⟩ (fun j σ' H' => ∃ (M : Tab) (u6 u7 u8 u9 u10 : Option V), σ' = [some (.ref q), some (.int p), some (.int (n : Int)), some (.int (wy : Int)), some (.ref L), some (.int (i : Int)), u6, u7, u8, u9, u10] ∧ MatAt Bs q L p n H' bs M ∧ Sym n M)
          (fun H4 e4 => ⟨_, _, _, _, _, _, rfl, mat.ev e4, sym⟩) ?_ ?_
        · rintro j σ' H' hj ⟨M, u6, u7, u8, u9, u10, rfl, mat, sym⟩
          have ej : (i : Int) + (j : Int) = ((i + j : Nat) : Int) := by omega
          rw [ej] at hj ⊢
          generalize i + j = t at hj
          have hin : i < n := by omega
          have htn : t < n := by omega
          refine ⟨_, rfl, _, rfl, q, p.toNat, by rw [Int.toNat_of_nonneg (by omega)] <;> rfl, mat.pot, by omega, by omega, fun d H5 hd e5 hq5 => ?_⟩
          have m5 := mat.dr Bq Lq e5 hq5
          obtain ⟨b, hb, hbH, hbV, hlM, grow⟩ := m5.get hin
          refine ⟨_, rfl, _, rfl, L, _, (i : Int), .ref b, rfl, rfl, sq_of m5.at_, atI_nat hbV, _, rfl, b, _, (t : Int), t, rfl, rfl, hbH, ixN_nat (by rw [List.length_map, grow.1]; exact htn), ?_⟩
          have m6 := m5.put Lq hin htn hb (x := (d : Int)) ⟨by omega, by omega⟩
          have s6 := sym_put (x := (d : Int)) sym (by rw [← m5.rows.length]; exact m5.len) (fun r hr => (m5.good r hr).1) hin htn
          have ex : at0 (rowAt (M.set i ((rowAt M i).set t (d : Int))) i) t = (d : Int) := by
            rw [rowAt_set hlM, if_pos rfl, at0_set (by rw [grow.1]; exact htn), if_pos rfl]
          generalize upd H5 b (.lst (((rowAt M i).map V.int).set t (.int (d : Int)))) = H6 at m6
          generalize M.set i ((rowAt M i).set t (d : Int)) = M1 at m6 s6 ex
          obtain ⟨b', hb', hbH', hbV', hlM', grow'⟩ := m6.get hin
          obtain ⟨b2, hb2, hbH2, hbV2, hlM2, grow2⟩ := m6.get htn
          refine ⟨_, rfl, _, rfl, L, _, (i : Int), .ref b', rfl, rfl, sq_of m6.at_, atI_nat hbV', _, rfl, b', _, (t : Int), .int (at0 (rowAt M1 i) t), rfl, rfl, sq_of hbH', atI_nat (row_at (by rw [grow'.1]; exact htn)), ?_⟩
          rw [ex]
          refine ⟨_, rfl, _, rfl, L, _, (t : Int), .ref b2, rfl, rfl, sq_of m6.at_, atI_nat hbV2, _, rfl, b2, _, (i : Int), i, rfl, rfl, hbH2, ixN_nat (by rw [List.length_map, grow2.1]; exact hin), ?_⟩
          exact ⟨_, _, _, _, _, _, rfl, m6.put Lq htn hin hb2 (x := (d : Int)) ⟨by omega, by omega⟩, s6⟩
        · rintro σ' H' ⟨M, u6, u7, u8, u9, u10, rfl, mat, sym⟩
          exact ⟨M, _, _, _, _, _, _, rfl, mat, sym⟩
      · rintro σ' H' ⟨M, u5, u6, u7, u8, u9, u10, rfl, mat, sym⟩
        have lM : M.length = n := by rw [← mat.rows.length]; exact mat.len
        have lb := mat.len
        refine s_retP (evp_tab (K := K) (l := M) ((evlp_list (K := K) (a := L) lf_row (fun _ => true) (rowAt M) (ev_var rfl) mat.at_ (by rw [List.length_map]; omega) (fun _ => rfl) fun i x H9 e9 h => ⟨et_yes, fun _ => ?_⟩).imp fun ws H9 _ z => ?_) rfl) fun v H9 e9 z => k v H9 M (mat.ex.trans e9) (pot_ex mat.pot e9) z lM ⟨hp, by omega, by rw [lM]; exact mat.good⟩ ((turned_sym lM fun r hr => (mat.good r hr).1).mpr sym)
        · rw [List.getElem?_map] at h
          obtain ⟨b, hb, rfl⟩ := Option.map_eq_some_iff.mp h
          obtain ⟨r, h1, hbr⟩ := paired_get mat.rows hb
          obtain ⟨h3, h4⟩ := List.getElem?_eq_some_iff.mp h1
          rw [rowAt_get h3, h4]
          intro H10 e10 Q q
          exact ⟨_, rfl, b, _, rfl, .inl ⟨sq_of (e10 _ _ (e9 _ _ hbr)), fun l hl => q _ _ (Ex.new hl) ⟨l, rfl, upd_same⟩⟩⟩
        · rw [pick_map, List.length_map, lb, ← lM, row_at_map] at z
          exact z
    · have hq2 := pot_ex hq1 e2
      have eB2 := e1.trans e2
      dsimp only [tSeq, tAsg, tTup, tCons]
      refine ev_full rfl rfl rfl hq2 (by omega) fun ff H3 e3 hq3 => ?_
      have eB3 := Ex.dr Bq eB2 e3
      refine ⟨by decide, fun Fa nF => ⟨by show 2 ≤ sizeLine; decide, fun T nT => ⟨T, _, rfl, st_of upd_same, rfl, _, _, rfl, _, _, rfl, rfl, ?_⟩⟩⟩
      have Fq := pot_new hq3 nF
      have BF := fresh_back eB3 nF
      have e4 : Ex H3 (upd (upd H3 Fa (.lst [])) T (.tup [.int ff, .ref Fa])) := (Ex.new nF).trans (Ex.new nT)
      have hF4 : (upd (upd H3 Fa (.lst [])) T (.tup [.int ff, .ref Fa])) Fa = some (.lst []) := by
        rw [upd_ne (fun z => by rw [← z, upd_same] at nT; cases nT), upd_same]
      generalize upd (upd H3 Fa (.lst [])) T (.tup [.int ff, .ref Fa]) = H4 at e4 hF4
      refine q_forR1 (n := (n : Nat)) (ea_cons (ev_var rfl) ea_nil) (by omega) (fun i σ' H' => ∃ (fs : List V) (Sq : Tab) (u5 u6 u10 : Option V), σ' = [some (.ref q), some (.int p), some (.int (n : Int)), some (.int (wy : Int)), none, u5, u6, none, some (.int ff), some (.ref Fa), u10] ∧ Ex Bs H' ∧ Pot H' q ∧ H' Fa = some (.lst fs) ∧
          Paired (RowT H') fs Sq ∧ Sq.length = i ∧ ∀ k, k < i → (rowAt Sq k).length = n ∧ ∀ j, j < n → j ≠ k → at0 (rowAt Sq k) j = 0) (fun H5 e5 => ⟨[], [], none, none, none, rfl, (eB3.trans e4).trans e5, pot_ex (pot_ex hq3 e4) e5, e5 _ _ hF4, .nil, rfl, fun k hk => absurd hk (Nat.not_lt_zero k)⟩) ?_ ?_
      · rintro i σ' H' hi ⟨fs, Sq, u5, u6, u10, rfl, eH, hq', hF', pS, lS, oS⟩
        have lfs := pS.length
        refine ⟨_, rfl, _, rfl, _, _, rfl, rfl, q, (p - 1).toNat, by rw [show (((p - 1).toNat : Nat) : Int) = p - 1 by omega] <;> rfl, hq', by omega, by omega, fun d H5 hd e5 hq5 => ⟨_, _, rfl, rfl, ?_⟩⟩
        refine gName_go ?_
        dsimp only
        have hF5 := e5 _ _ (del_some hF' Fq)
        refine s_appP (l := Fa) (xs := fs) (P := fun v H6 => RowT H6 v (drow n i ff (1 + (d : Int)))) hF5 (ev_var rfl) (evp_row (K := K) (evlp_rng (m := n) lf_int (fun _ => true) (fun t => if t = i ∧ (i : Int) < ff then 1 + (d : Int) else 0) (ea_cons (ev_var rfl) ea_nil) (by omega) (fun _ => rfl) fun t H6 e6 ht => ⟨et_yes, fun _ => ?_⟩) (pick_map _ _)) (by omega) fun v H6 e6 hv => ?_
        · refine evp_if (b := (decide (V.int (t : Int) = V.int (i : Int)) && decide ((i : Int) < ff))) (et_and (et_test (ev_op (ev_var rfl) (ev_var rfl) (rv_eq rfl))) fun _ => et_test (ev_op (ev_var rfl) (ev_var rfl) rv_I0)) (fun c => ev_p (ev_var rfl) fun _ _ => ?_) (fun c => ev_p ev_c fun _ _ => ?_)
          · rw [Bool.and_eq_true] at c
            have c1 : (t : Int) = (i : Int) := by have := of_decide_eq_true c.1; injection this
            rw [if_pos ⟨by omega, of_decide_eq_true c.2⟩]
          · rw [if_neg]
            rintro ⟨c1, c2⟩
            subst c1
            simp [c2] at c
        · have BqF : Ex Bs (upd H6 Fa (.lst (fs ++ [v]))) := Ex.mut ((Ex.dr Bq eH e5).trans e6) BF
          have hF6 := e6 _ _ hF5
          refine ⟨fs ++ [v], Sq ++ [drow n i ff (1 + (d : Int))], _, _, _, rfl, BqF, ?_, upd_same, Paired.snoc (Paired.mono (fun _ _ w => lf_row.lst _ _ _ _ _ _ hF6 (RowT.ex w e6)) (Paired.mono (fun _ _ w => RowT.ex (RowT.del hq' w) e5) pS)) (lf_row.lst _ _ _ _ _ _ hF6 hv), by rw [List.length_append, lS] <;> rfl, fun k hk => ?_⟩
          · obtain ⟨x, y, h1, h2⟩ := pot_ex hq5 e6
            exact ⟨x, y, by rw [upd_ne (Ne.symm Fq)]; exact h1, h2⟩
          · by_cases c : k < i
            · have e7 : rowAt (Sq ++ [drow n i ff (1 + (d : Int))]) k = rowAt Sq k := by
                rw [rowAt_get (by rw [List.length_append]; omega), rowAt_get (by omega), List.getElem_append_left (by omega)]
              rw [e7]
              exact oS k c
            · have ek : k = i := by omega
              subst ek
              have e7 : rowAt (Sq ++ [drow n k ff (1 + (d : Int))]) k = drow n k ff (1 + (d : Int)) := by
                rw [rowAt_get (by rw [List.length_append, lS]; show k < k + 1; omega), List.getElem_append_right (by omega)]
                simp [lS]
              rw [e7]
              exact ⟨by simp [drow], fun j hj hne => drow_off hj hne⟩
      · rintro σ' H' ⟨fs, Sq, u5, u6, u10, rfl, eH, hq', hF', pS, lS, oS⟩
        rw [Int.toNat_natCast] at lS oS
        have hsq : ∀ o ∈ Sq, o.length = n := fun o ho => by
          obtain ⟨k, hk, e⟩ := List.mem_iff_getElem.mp ho
          have := (oS k (by omega)).1
          rw [rowAt_get hk, e] at this
          exact this
        refine ⟨_, rfl, _, rfl, Fa, fs, rfl, .inl ⟨sq_of hF', fun S nS => ?_⟩⟩
        have tS : TabT (upd H' S (.tup fs)) (.ref S) Sq := ⟨S, fs, rfl, upd_same, rows_ex pS (Ex.new nS)⟩
        have hqS := pot_ex hq' (Ex.new (o := .tup fs) nS)
        refine ⟨_, rfl, _, rfl, _, rfl, q, p, n, rfl, hqS, hp, hn, fun u H6 t e6 hq6 ht sqt => ?_⟩
        have eB6 := Ex.dr Bq (eH.trans (Ex.new (o := .tup fs) nS)) e6
        refine ⟨p, n, .ref S, u, Sq, t, rfl, (TabT.del hqS tS).ex e6, ht, lS, sqt.1, hsq, sqt.2, by omega, by omega, by omega, fun v H7 e7 hv => ?_⟩
        have rg := roomBy_good (p := p) (grid := Sq) (by omega) sqt.1
        exact k v H7 _ (eB6.trans e7) (pot_ex hq6 e7) hv rg.2 ⟨hp, by rw [rg.2]; exact hn, by rw [rg.2]; exact rg.1⟩ (roomBy_sym ⟨lS, hsq, fun i j hi hj hne => (oS i hi).2 j hj hne⟩ sqt.1 fun r hr => (sqt.2 r hr).1)
end
end RK

set_option Elab.async false
set_option linter.all false
set_option maxRecDepth 100000
set_option maxHeartbeats 4000000
namespace RK
open PySem L2 Evl
def spDrawn : Sp := fun vs H Q _ => ∃ (q : Addr), vs = [.ref q, .int 11] ∧ Pot H q ∧ ∀ (T : Addr) H' (p : Int) (t : Tab) (u : V), Ex (del H q) H' → Pot H' q → H' T = some (.tup [.int p, .int (t.length : Nat), u]) → TabT H' u t → Gr p t → turned t = t → Q (.ref T) H'
def IsRow (d : PyData) (r : Row) : Prop := d = dRow r ∨ d = dRowL r
def GivD (d : PyData) (t : Tab) : Prop := ∃ ds, (d = .list ds ∨ d = .tuple ds) ∧ Paired IsRow ds t
def spGiven : Sp := fun vs H Q _ => ∃ (q : Addr) (g : V) (t : Tab), vs = [.ref q, g] ∧ Pot H q ∧ TabT H g t ∧ t.length ≤ 6 ∧ ∀ u H' d, Ex (del H q) H' → Pot H' q → Dt (del H' q) u d → GivD d t → Q u H'
/-- a row as a tuple, or as a list apart from q and F -/
def LRT (q F : Addr) (H : Hp) (v : V) (r : Row) : Prop := RowT H v r ∨ LR q F H v r
theorem LRT.ex {q F : Addr} {H H' : Hp} {v : V} {r : Row} (h : LRT q F H v r) (e : Ex H H') : LRT q F H' v r := h.elim (fun z => .inl (RowT.ex z e)) fun z => .inr (LR.ex z e)
theorem LRT.dr {q F : Addr} {H H' : Hp} {v : V} {r : Row} (p : Pot H q) (h : LRT q F H v r) (e : Ex (del H q) H') : LRT q F H' v r := h.elim (fun z => .inl (RowT.ex (RowT.del p z) e)) fun z => .inr (LR.dr z e)
theorem LRT.up {q F : Addr} {H : Hp} {v : V} {r : Row} {xs ys : List V} (hF : H F = some (.lst xs)) (h : LRT q F H v r) : LRT q F (upd H F (.lst ys)) v r := h.elim (fun z => .inl (lf_row.lst _ _ _ _ _ _ hF z)) fun z => .inr (LR.up z)
theorem lrt_data {q F : Addr} {H : Hp} (p : Pot H q) : ∀ {vs : List V} {t : Tab}, Paired (LRT q F H) vs t → ∃ ds, DtAll (del H q) vs ds ∧ Paired IsRow ds t
  | _, _, .nil => ⟨[], .nil, .nil⟩
  | _, _, .cons h t => by
    obtain ⟨ds, h1, h2⟩ := lrt_data p t
    rcases h with h | ⟨b, rfl, bq, _, hb⟩
    · exact ⟨_, .cons (RowT.del p h).dt h1, .cons (.inl rfl) h2⟩
    · exact ⟨_, .cons (.lst (del_some hb bq) (dtAll_ints _)) h1, .cons (.inr rfl) h2⟩
section
variable {P : Program} {w : World} {K : PySem.W.Frag} {mg : Str → Option Value} {base : Heap}
theorem ok_drawn (B : Bt mg) (D : DefIn K mg "_law_drawn" sLDrawn ["_law_pot_here", "_law_most"]) (h1 : Held P w K mg base CX0 2 "_law_pick" ["_law_pot_here", "_law_some"] spPick)
    (h2 : Held P w K mg base CX0 4 "_law_grid" ["_law_pot_here", "_law_prime", "_law_size"] spGrid) : Held P w K mg base CX0 5 "_law_drawn" ["_law_pot_here", "_law_most"] spDrawn := by
  obtain ⟨f1, fd1, g1, k1, b1, G1⟩ := h1
  obtain ⟨f2, fd2, g2, k2, b2, G2⟩ := h2
  refine D.held fun f fd F => F.ok scLDrawn (fun vs H Q E h => ?_) (fun cdv A outer s H vs Q E hr h => ?_)
  · obtain ⟨q, rfl, _⟩ := h
    rfl
  · obtain ⟨q, rfl, hq, k⟩ := h
    refine ⟨_, pss_cons (ps_asg (g := gName 2) (pe_call G1 (hr.mono (by decide)) (by rfl) g1 k1 b1 .nil pass0 (pa_cons (pv 0) (pa_cons (pe_lst (pa_cons pe_int (pa_cons pe_int (pa_cons pe_int (pa_cons pe_int (pa_cons pe_int (pa_cons pe_int (pa_cons pe_int pa_nil)))))))) pa_nil))) (pg_name (i := 2) scLDrawn.nd rfl (Or.inl rfl)))
      (pss_cons (ps_asg (g := gName 3) (pe_call G1 (hr.mono (by decide)) (by rfl) g1 k1 b1 .nil pass0 (pa_cons (pv 0) (pa_cons (pe_slice (r := rSlL K) sl_list (pe_lst (pa_cons pe_int (pa_cons pe_int (pa_cons pe_int (pa_cons pe_int (pa_cons pe_int (pa_cons pe_int (pa_cons pe_int (pa_cons pe_int (pa_cons pe_int (pa_cons pe_int (pa_cons pe_int pa_nil)))))))))))) po_none (po_some (pv 1))) pa_nil))) (pg_name (i := 3) scLDrawn.nd rfl (Or.inl rfl)))
      (pss_one (ps_ret (pe_tup (pa_cons (pv 2) (pa_cons (pv 3) (pa_cons (pe_call G2 (hr.mono (by decide)) (by rfl) g2 k2 b2 .nil pass0 (pa_cons (pv 0) (pa_cons (pv 2) (pa_cons (pv 3) pa_nil)))) pa_nil))))))), ?_⟩
    refine ⟨_, rfl, by decide, fun l hl => ⟨q, l, [3, 3, 5, 5, 7, 11, 13], rfl, pot_ex hq (Ex.new hl), upd_same, pot_new hq hl, by decide, by decide, fun p H1 hp e1 hq1 => ?_⟩⟩
    have hp5 : Prime5 p := by
      simp only [List.mem_cons, List.not_mem_nil, or_false] at hp
      unfold Prime5
      omega
    have eB1 : Ex (del H q) H1 := Ex.dr del_same (del_ex.trans (Ex.new hl)) e1
    refine gName_go ?_
    dsimp only
    refine ⟨_, rfl, by decide, fun l2 hl2 => ⟨_, rfl, 11, rfl, l2, _, rfl, sq_of upd_same, fun l3 hl3 => ⟨q, l3, [0, 1, 2, 2, 3, 3, 3, 4, 4, 5, 6], rfl, pot_ex (pot_ex hq1 (Ex.new hl2)) (Ex.new hl3), by rw [upd_same]; rfl, pot_new (pot_ex hq1 (Ex.new hl2)) hl3, by decide, by decide, fun n H2 hn e2 hq2 => ?_⟩⟩⟩
    have hn6 : 0 ≤ n ∧ n ≤ 6 := by
      simp only [List.mem_cons, List.not_mem_nil, or_false] at hn
      omega
    have eB2 : Ex (del H q) H2 := Ex.dr del_same ((eB1.trans (Ex.new hl2)).trans (Ex.new hl3)) e2
    refine gName_go ?_
    dsimp only
    refine ⟨_, rfl, _, rfl, _, rfl, _, rfl, _, rfl, q, p, n.toNat, by rw [Int.toNat_of_nonneg hn6.1] <;> rfl, hq2, hp5, by omega, fun u H3 t e3 hq3 ht lt gr tu => ⟨by show 3 ≤ sizeLine; decide, fun T nT => ?_⟩⟩
    have e4 := Ex.new (o := .tup [.int p, .int n, u]) nT
    refine k T _ p t u ((Ex.dr del_same eB2 e3).trans e4) (pot_ex hq3 e4) ?_ (ht.ex e4) gr tu
    rw [upd_same, lt, Int.toNat_of_nonneg hn6.1]
theorem ok_given (B : Bt mg) (D : DefIn K mg "_law_given" sLGiven ["_law_pot_here", "_law_rows"]) (h1 : Held P w K mg base CX0 1 "_law_draw" ["_law_pot_here", "_law_many"] spDraw) : Held P w K mg base CX0 2 "_law_given" ["_law_pot_here", "_law_rows"] spGiven := by
  obtain ⟨f1, fd1, g1, k1, b1, G1⟩ := h1
  refine D.held fun f fd F => F.ok scLGiven (fun vs H Q E h => ?_) (fun cdv A outer s H vs Q E hr h => ?_)
  · obtain ⟨q, g, t, rfl, _⟩ := h
    rfl
  · obtain ⟨q, g, t, rfl, hq, ⟨a, ws, rfl, ha, hw⟩, hz, k⟩ := h
    refine ⟨_, pss_cons (ps_set (i := 2) scLGiven.nd rfl (Or.inl rfl) (pe_lst pa_nil))
      (pss_cons (ps_for PassesOwn.never rfl (pi_tupK (K := K) (pv 1)) (pg_name (i := 3) scLGiven.nd rfl (Or.inl rfl))
        (pss_one (ps_expr (pe_bm PySem.F.plainAttrs_list PySem.F.slot_list_append PySem.F.type_list_append mt_append (pv 2) (pa_cons (pe_ifExp (pt_cmpR op_eq (pe_call G1 (hr.mono (by decide)) (by rfl) g1 k1 b1 .nil pass0 (pa_cons (pv 0) (pa_cons pe_int pa_nil))) pe_int (nomark _))
          (pe_callTy (callListK (K := K)) (by rfl) B.list (by decide +kernel) (pa_cons (pv 3) pa_nil)) (pe_callTy (callTupK (K := K)) (by rfl) B.tuple (by decide +kernel) (pa_cons (pv 3) pa_nil))) pa_nil)))))
      (pss_one (ps_ret (pe_ifExp (pt_cmpR op_eq (pe_call G1 (hr.mono (by decide)) (by rfl) g1 k1 b1 .nil pass0 (pa_cons (pv 0) (pa_cons pe_int pa_nil))) pe_int (nomark _)) (pe_callTy (callTupK (K := K)) (by rfl) B.tuple (by decide +kernel) (pa_cons (pv 2) pa_nil)) (pv 2))))), ?_⟩
    have aq := pot_ne hq ha
    have hwl := hw.length
    refine q_asgL (i := 2) (el_lst ea_nil (by decide)) fun Fa H1 nF e1 hF => ?_
    have Fq := pot_new hq nF
    have BF : (del H q) Fa = none := by rw [del_ne Fq]; exact nF
    have haB : (del H q) a = some (.tup ws) := del_some ha aq
    have hwB : Paired (RowT (del H q)) ws t := rows_del hq hw
    refine q_forT (K := K) (xs := ws) (ev_var rfl) (st_of (e1 _ _ ha)) (fun i σ' H' => ∃ (fs : List V) (u3 : Option V), σ' = [some (.ref q), some (.ref a), some (.ref Fa), u3] ∧ Ex (del H q) H' ∧ Pot H' q ∧ H' Fa = some (.lst fs) ∧ Paired (LRT q Fa H') fs (t.take i))
      (fun H2 e2 => ⟨[], none, rfl, del_ex.trans (e1.trans e2), pot_ex hq (e1.trans e2), e2 _ _ hF, .nil⟩) (fun i σ' H' _ ⟨fs, u3, _, eH, _⟩ => st_of (eH _ _ haB)) ?_ ?_
    · rintro i x σ' H' hx ⟨fs, u3, rfl, eH, hq', hF', pf⟩
      obtain ⟨hrow, hi⟩ := rows_item hwB hx
      have lf := pf.length
      rw [List.length_take] at lf
      refine gName_go ?_
      refine ⟨_, rfl, .inl ⟨rfl, fs, sq_of hF'⟩, _, rfl, q, 2, rfl, hq', by omega, by omega, fun d H2 hd e2 hq2 => ⟨rfl, _, rfl, ?_⟩⟩
      have hF2 := e2 _ _ (del_some hF' Fq)
      have eB2 := Ex.dr del_same eH e2
      have pf2 := Paired.mono (fun _ _ z => LRT.dr hq' z e2) pf
      obtain ⟨b, rfl, hb⟩ := hrow.ex eB2
      have et : t[i]? = some (rowAt t i) := by rw [rowAt_get hi]; exact List.getElem?_eq_getElem hi
      have fin : ∀ (v : V) H3, Ex H2 H3 → LRT q Fa H3 v (rowAt t i) → ∃ (fs' : List V) (u3' : Option V), [some (.ref q), some (.ref a), some (.ref Fa), some (V.ref b)] = [some (.ref q), some (.ref a), some (.ref Fa), u3'] ∧ Ex (del H q) (upd H3 Fa (.lst (fs ++ [v]))) ∧ Pot (upd H3 Fa (.lst (fs ++ [v]))) q ∧ (upd H3 Fa (.lst (fs ++ [v]))) Fa = some (.lst fs') ∧ Paired (LRT q Fa (upd H3 Fa (.lst (fs ++ [v])))) fs' (t.take (i + 1)) := fun v H3 e3 hv => by
        refine ⟨_, _, rfl, Ex.mut (eB2.trans e3) BF, ?_, upd_same, ?_⟩
        · obtain ⟨x, y, h1, h2⟩ := pot_ex hq2 e3
          exact ⟨x, y, by rw [upd_ne (Ne.symm Fq)]; exact h1, h2⟩
        · rw [take_snoc et]
          exact Paired.snoc (Paired.mono (fun _ _ z => LRT.up (e3 _ _ hF2) (LRT.ex z e3)) pf2) (LRT.up (e3 _ _ hF2) hv)
      by_cases c : V.int (d : Int) = V.int 0
      · rw [decide_eq_true c]
        refine ⟨_, rfl, b, _, rfl, .inr (st_of hb), fun l hl => ⟨Fa, fs, .ref l, rfl, rfl, (Ex.new hl) _ _ hF2, sz_lt (by omega), ?_⟩⟩
        exact fin (.ref l) _ (Ex.new hl) (.inr ⟨l, rfl, pot_new hq2 hl, (fun z => by rw [z, hF2] at hl; cases hl), upd_same⟩)
      · rw [decide_eq_false c]
        refine ⟨_, rfl, b, _, rfl, .inr ⟨st_of hb, Fa, fs, .ref b, rfl, rfl, hF2, sz_lt (by omega), ?_⟩⟩
        exact fin (.ref b) _ (Ex.refl H2) (.inl ⟨b, rfl, hb⟩)
    · rintro σ' H' ⟨fs, u3, rfl, eH, hq', hF', pf⟩
      rw [List.take_of_length_le (by omega)] at pf
      refine ⟨_, rfl, q, 2, rfl, hq', by omega, by omega, fun d H2 hd e2 hq2 => ⟨rfl, _, rfl, ?_⟩⟩
      have hF2 := e2 _ _ (del_some hF' Fq)
      have eB2 := Ex.dr del_same eH e2
      obtain ⟨ds, h1, h2⟩ := lrt_data hq2 (Paired.mono (fun _ _ z => LRT.dr hq' z e2) pf)
      by_cases c : V.int (d : Int) = V.int 0
      · rw [decide_eq_true c]
        exact ⟨_, rfl, Fa, fs, rfl, .inl ⟨sq_of hF2, fun l hl => k _ _ (.tuple ds) (eB2.trans (Ex.new hl)) (pot_ex hq2 (Ex.new hl)) (.tup (del_some upd_same (pot_new hq2 hl)) (h1.ex (del_mono (Ex.new hl)))) ⟨ds, .inr rfl, h2⟩⟩⟩
      · rw [decide_eq_false c]
        exact ⟨_, rfl, k _ _ (.list ds) eB2 hq2 (.lst (del_some hF2 Fq) h1) ⟨ds, .inl rfl, h2⟩⟩
end
end RK

set_option Elab.async false
set_option linter.all false
set_option maxRecDepth 100000
set_option maxHeartbeats 4000000
namespace RK
open PySem L2 Evl
section
variable {K : PySem.W.Frag} {σ : L2.St} {H : Hp} {te tl : TE} {v : V} {d : PyData} {g : TG} {tu : TS} {D : Ends}
theorem s_forS {a : Addr} {xs : List V} (h : Ev tl σ H (.ref a)) (hx : SeqAt2 H a xs) (Pv : Nat → L2.St → Hp → Prop) (h0 : ∀ H1, Ex H H1 → Pv 0 σ H1) (hl : ∀ i σ' H', Pv i σ' H' → Ex H H')
    (hs : ∀ i x σ' H', xs[i]? = some x → Pv i σ' H' → g x σ' H' fun σ2 H2 => tu { D with nx := Pv (i + 1), ct := Pv (i + 1), bk := D.nx } σ2 H2) (hd : ∀ σ' H', Pv xs.length σ' H' → D.nx σ' H') : tFor (iSeq K tl) g tu D σ H :=
  h H (Ex.refl H) _ fun H1 e => by
    rcases hx with hx | hx
    · exact ⟨a, rfl, .inl ⟨⟨xs, sq_of (e _ _ hx)⟩, for_list Pv (h0 H1 e) (fun i σ' H' _ p => sq_of (hl i σ' H' p _ _ hx)) hs hd⟩⟩
    · exact ⟨a, rfl, .inr ⟨⟨xs, st_of (e _ _ hx)⟩, for_tup Pv (h0 H1 e) (fun i σ' H' _ p => st_of (hl i σ' H' p _ _ hx)) hs hd⟩⟩
theorem q_forS {tz : TS} {a : Addr} {xs : List V} (h : Ev tl σ H (.ref a)) (hx : SeqAt2 H a xs) (Pv : Nat → L2.St → Hp → Prop) (h0 : ∀ H1, Ex H H1 → Pv 0 σ H1) (hl : ∀ i σ' H', Pv i σ' H' → Ex H H')
    (hs : ∀ i x σ' H', xs[i]? = some x → Pv i σ' H' → g x σ' H' fun σ2 H2 => tu { D with nx := Pv (i + 1), ct := Pv (i + 1), bk := tz D } σ2 H2) (hd : ∀ σ' H', Pv xs.length σ' H' → tz D σ' H') : tSeq (tFor (iSeq K tl) g tu) tz D σ H :=
  s_forS (D := { D with nx := tz D }) h hx Pv h0 hl hs hd
theorem et_isList (hv : Ev te σ H v) (hd : Dt H v d) : EvT (tB (tCB (rIsiT K) (tCons te (tCons (tTup (tCons (tC (.ty "list")) (tCons (tC (.ty "tuple")) tNil))) tNil)))) σ H (isListD d) := fun H1 e Q q => hv H1 e _ fun H2 e2 => ⟨by show 2 ≤ sizeLine; decide, fun p hp => by
  have e3 := Ex.new (o := .tup [.ty "list", .ty "tuple"]) hp
  have hd3 := (hd.ex ((e.trans e2).trans e3)).dp (K := K)
  have nd := dp_nd hd3
  refine ⟨_, p, _, _, _, isListD d, rfl, upd_same, .cons (.ty "list") (.cons (.ty "tuple") .nil), tyx_of hd3, ?_, _, rfl, q _ (e2.trans e3)⟩
  rw [isList_or]
  exact kitAny_cons (kit_ty (kb_list d nd)) (fun e1 => kitAny_cons (kit_ty (kb_tuple d nd)) (fun e2 => by rw [e1, e2]; rfl) (fun e2 => by rw [e2]; simp)) (fun e1 => by rw [e1]; rfl)⟩
theorem et_isInt (hv : Ev te σ H v) (hd : Dt H v d) : EvT (tB (tCB (rIsi K) (tCons te (tCons (tC (.ty "int")) tNil)))) σ H (isIntD d || isBoolD d) := fun H1 e Q q => hv H1 e _ fun H2 e2 => by
  have hd3 := (hd.ex (e.trans e2)).dp (K := K)
  exact ⟨_, _, _, _, _, rfl, .ty "int", tyx_of hd3, kit_ty (kb_int d (dp_nd hd3)), _, rfl, q _ e2⟩
theorem et_isBool (hv : Ev te σ H v) (hd : Dt H v d) : EvT (tB (tCB (rIsi K) (tCons te (tCons (tC (.ty "bool")) tNil)))) σ H (isBoolD d) := fun H1 e Q q => hv H1 e _ fun H2 e2 => by
  have hd3 := (hd.ex (e.trans e2)).dp (K := K)
  exact ⟨_, _, _, _, _, rfl, .ty "bool", tyx_of hd3, kit_ty (kb_bool d (dp_nd hd3)), _, rfl, q _ e2⟩
end
def spIsTable : Sp := fun vs H Q _ => ∃ (p : Int) (v : V) (d : PyData), vs = [.int p, v] ∧ Dt H v d ∧ RetV (.bl (rightIn p d).isSome) H Q
theorem table_none {p : Int} {d : PyData} {i : Nat} {e : PyData} (h : (seqD d)[i]? = some e) (z : rowIn p (seqD d).length e = none) : (rightIn p d).isSome = false := by
  have : tableIn p d = none := by
    unfold tableIn
    split
    · rw [if_pos]
      rw [List.any_eq_true]
      exact ⟨none, List.mem_map.mpr ⟨e, List.mem_of_getElem? h, z⟩, rfl⟩
    · rfl
  unfold rightIn
  rw [this]
  rfl
theorem row_none {p : Int} {n : Nat} {e : PyData} (h : ¬ (isListD e = true ∧ (seqD e).length = n ∧ (seqD e).all (restD p) = true)) : rowIn p n e = none := by
  unfold rowIn
  refine if_neg fun z => h ?_
  simp only [Bool.and_eq_true, decide_eq_true_eq] at z
  exact ⟨z.1.1, z.1.2, z.2⟩
theorem row_some {p : Int} {n : Nat} {e : PyData} (h1 : isListD e = true) (h2 : (seqD e).length = n) (h3 : (seqD e).all (restD p) = true) : rowIn p n e = some ((seqD e).map intD) := by
  unfold rowIn
  refine if_pos ?_
  simp only [Bool.and_eq_true, decide_eq_true_eq]
  exact ⟨⟨h1, h2⟩, h3⟩
/-- a row's value, its data read -/
def SRow (H : Hp) (v : V) (r : Row) : Prop := ∃ b, v = .ref b ∧ SeqAt2 H b (r.map V.int)
theorem srows {H : Hp} {p : Int} {n : Nat} : ∀ {xs : List V} {ds : List PyData}, DtAll H xs ds → (∀ (i : Nat) (e : PyData), ds[i]? = some e → (rowIn p n e).isSome = true) → Paired (SRow H) xs (ds.map fun e => (rowIn p n e).getD []) ∧ (ds.map (rowIn p n)).any (·.isNone) = false
  | _, _, .nil, _ => ⟨.nil, rfl⟩
  | _, _, .cons (d := e) h t, hh => by
    have h0 := hh 0 e rfl
    obtain ⟨p1, p2⟩ := srows (p := p) (n := n) t fun i e2 h2 => hh (i + 1) e2 (by simpa using h2)
    cases hr : rowIn p n e with
    | none => rw [hr] at h0; cases h0
    | some r =>
      refine ⟨?_, by rw [List.map_cons, List.any_cons, hr, p2] <;> rfl⟩
      rw [List.map_cons, hr]
      refine .cons ?_ p1
      have hr2 := hr
      unfold rowIn at hr2
      split at hr2
      · rename_i c
        simp only [Bool.and_eq_true, decide_eq_true_eq] at c
        cases hr2
        rcases h.seq with hl | ⟨_, a, xs, rfl, hs, hx⟩
        · rw [hl] at c
          exact absurd c.1.1 (by decide)
        · refine ⟨a, rfl, ?_⟩
          show SeqAt2 H a (List.map V.int (List.map intD (seqD e)))
          rw [← dtAll_rest hx c.2]
          exact hs
      · cases hr2
theorem table_some {p : Int} {d : PyData} (hl : isListD d = true) (h6 : (seqD d).length ≤ 6) (ha : ((seqD d).map (rowIn p (seqD d).length)).any (·.isNone) = false) : tableIn p d = some ((seqD d).map fun e => (rowIn p (seqD d).length e).getD []) := by
  unfold tableIn
  rw [if_pos (by rw [hl, Bool.true_and]; exact decide_eq_true h6), if_neg (by rw [ha]; decide), List.map_map]
  rfl
theorem all_range (n : Nat) (f : Nat → Bool) : ((List.range n).map f).all id = decide (∀ i, i < n → f i = true) := by
  rw [Bool.eq_iff_iff, decide_eq_true_iff, List.all_map, List.all_eq_true]
  constructor
  · intro h i hi
    exact h i (List.mem_range.mpr hi)
  · intro h i hi
    exact h i (List.mem_range.mp hi)
theorem all_sym {n : Nat} {t : Tab} (hl : t.length = n) (hr : ∀ r ∈ t, r.length = n) :
    ((List.range n).map fun i => ((List.range n).map fun j => decide (V.int (at0 (rowAt t i) j) = V.int (at0 (rowAt t j) i))).all id).all id = decide (turned t = t) := by
  rw [all_range, Bool.eq_iff_iff, decide_eq_true_iff, decide_eq_true_iff, turned_sym hl hr]
  constructor
  · intro h i j hi hj
    have := h i hi
    rw [all_range, decide_eq_true_iff] at this
    have := of_decide_eq_true (this j hj)
    injection this
  · intro h i hi
    rw [all_range, decide_eq_true_iff]
    intro j hj
    exact decide_eq_true (by rw [h i j hi hj])
theorem fit_of_some {p : Int} {d : PyData} {t : Tab} (h : tableIn p d = some t) : ∀ r ∈ t, r.length = t.length := fit_sq h
section
variable {P : Program} {w : World} {K : PySem.W.Frag} {mg : Str → Option Value} {base : Heap}
theorem rest_int {p : Int} {d : PyData} (h : restD p d = true) : isIntD d = true ∧ isBoolD d = false := by
  cases d <;> first | exact ⟨rfl, rfl⟩ | cases h
/-- the third statement's returned expression -/
def retE3 (s : Stmt) : Expr := match defBody s with
  | [_, _, .Return (some e) _] => e
  | _ => .Constant .none 0 ⟨0, 0, 0, 0⟩
theorem ok_isTable (B : Bt mg) (D : DefIn K mg "_law_is_table" sLIsTable ["_law_prime", "_law_value"]) : Held P w K mg base CX0 1 "_law_is_table" ["_law_prime", "_law_value"] spIsTable := by
  refine D.held fun f fd F => F.ok scLIsTable (fun vs H Q E h => ?_) (fun cdv A outer s H vs Q E hr h => ?_)
  · obtain ⟨p, v, d, rfl, _⟩ := h
    rfl
  · obtain ⟨p, v, d, rfl, hd, k⟩ := h
    refine ⟨_, pss_cons (ps_if (pw_or (pt_not (pt_val (pe_callB (callIsiTK (K := K)) (by rfl) B.isinstance (by decide +kernel) (pa_cons (pv 1) (pa_cons (pe_tup (pa_cons (pe_bltn (v := .ty "list") (by rfl) B.list (by decide +kernel) rfl) (pa_cons (pe_bltn (v := .ty "tuple") (by rfl) B.tuple (by decide +kernel) rfl) pa_nil))) pa_nil)))))
          (pw_or1 (pt_cmpR op_gt (pe_callB (callLenK (K := K)) (by rfl) B.len PySem.boot_len (pa_cons (pv 1) pa_nil)) pe_int (nomark _)))).pt (pss_one (ps_ret pe_bl)) pss_nil)
      (pss_cons (ps_for PassesOwn.never rfl (pi_seq (K := K) (pv 1)) (pg_name (i := 2) scLIsTable.nd rfl (Or.inl rfl))
        (pss_cons (ps_if (pw_or (pt_not (pt_val (pe_callB (callIsiTK (K := K)) (by rfl) B.isinstance (by decide +kernel) (pa_cons (pv 2) (pa_cons (pe_tup (pa_cons (pe_bltn (v := .ty "list") (by rfl) B.list (by decide +kernel) rfl) (pa_cons (pe_bltn (v := .ty "tuple") (by rfl) B.tuple (by decide +kernel) rfl) pa_nil))) pa_nil)))))
            (pw_or1 (pt_cmpR op_ne (pe_callB (callLenK (K := K)) (by rfl) B.len PySem.boot_len (pa_cons (pv 2) pa_nil)) (pe_callB (callLenK (K := K)) (by rfl) B.len PySem.boot_len (pa_cons (pv 1) pa_nil)) (by rfl)))).pt (pss_one (ps_ret pe_bl)) pss_nil)
        (pss_one (ps_for PassesOwn.never rfl (pi_seq (K := K) (pv 2)) (pg_name (i := 3) scLIsTable.nd rfl (Or.inl rfl))
          (pss_one (ps_if (pw_or (pt_not (pt_val (pe_callB (callIsiK (K := K)) (by rfl) B.isinstance (by decide +kernel) (pa_cons (pv 3) (pa_cons (pe_bltn (v := .ty "int") (by rfl) B.int (by decide +kernel) rfl) pa_nil)))))
            (pw_or (pt_val (pe_callB (callIsiK (K := K)) (by rfl) B.isinstance (by decide +kernel) (pa_cons (pv 3) (pa_cons (pe_bltn (v := .ty "bool") (by rfl) B.bool (by decide +kernel) rfl) pa_nil)))) (pw_or1 (pt_not (pt_chain op_le op_lt pe_int (pv 3) (pv 0)))))).pt (pss_one (ps_ret pe_bl)) pss_nil))))))
      (pss_one (ps_ret (pe_callB (callAllK (K := K) rfl) (by rfl) B.all (by decide +kernel) (pa_cons (pe_lc (own := [("_law_at", 4)]) (g := gName 4) (tt := tYes) rfl scLIsTable.nd (pi_range1 (by rfl) B.range (pa_cons (pe_callB (callLenK (K := K)) (by rfl) B.len PySem.boot_len (pa_cons (pv 1) pa_nil)) pa_nil))
        (blkOk_by (N := nLIsTable) (sc := defScope sLIsTable) (by decide +kernel)) (fun _ _ _ _ _ => pg_name (i := 4) scLIsTable.nd rfl (Or.inr rfl)) (fun _ _ _ _ _ => pts_nil)
        (fun _ _ _ _ _ => pe_callB (callAllK (K := K) rfl) (by rfl) B.all (by decide +kernel) (pa_cons (pe_lc (own := [("_law_to", 5)]) (g := gName 5) (tt := tYes) rfl scLIsTable.nd (pi_range1 (by rfl) B.range (pa_cons (pe_callB (callLenK (K := K)) (by rfl) B.len PySem.boot_len (pa_cons (pv 1) pa_nil)) pa_nil))
          (blkOk_by (N := nLIsTable) (sc := relS (lcScope (argE (retE3 sLIsTable))) (defScope sLIsTable)) (by decide +kernel)) (fun _ _ _ _ _ => pg_name (i := 5) scLIsTable.nd rfl (Or.inl rfl)) (fun _ _ _ _ _ => pts_nil)
          (fun _ _ _ _ _ => pe_cmpR op_eq (pe_ix (ix_seqK (K := K)) (pe_ix (ix_seqK (K := K)) (pv 1) (pv 4) (fun _ _ => rfl)) (pv 5) (fun _ _ => rfl)) (pe_ix (ix_seqK (K := K)) (pe_ix (ix_seqK (K := K)) (pv 1) (pv 5) (fun _ _ => rfl)) (pv 4) (fun _ _ => rfl)) (by rfl))) pa_nil))) pa_nil))))), ?_⟩
    have no_of : tableIn p d = none → (rightIn p d).isSome = false := fun z => by
      unfold rightIn
      rw [z]
      rfl
    have none_of : (isListD d && decide ((seqD d).length ≤ 6)) = false → tableIn p d = none := fun z => by
      unfold tableIn
      rw [if_neg (by rw [z]; decide)]
    rcases hd.seq with hl | ⟨hl, a, xs, rfl, hs, hx⟩
    · refine q_when (b := true) (et_is (et_or (b := true) (et_not (et_isList (K := K) (ev_var rfl) hd)) (fun c => by rw [hl] at c; cases c)) (by rw [hl]; rfl)) (fun _ H1 e1 => s_ret ev_c fun H2 e2 => ?_) (fun c => by cases c)
      have kk := k H2 (e1.trans e2)
      rw [no_of (none_of (by rw [hl]; rfl))] at kk
      exact kk
    · have hlen := hx.length
      refine q_when (b := (!isListD d || decide ((xs.length : Int) > 6))) (et_or (et_not (et_isList (K := K) (ev_var rfl) hd)) fun _ => et_test (ev_op (ev_lenS (K := K) (ev_var rfl) hs) ev_c rv_I0)) (fun c H1 e1 => s_ret ev_c fun H2 e2 => ?_) (fun c H1 e1 => ?_)
      · rw [hl] at c
        have c' : (xs.length : Int) > 6 := by simpa using c
        have kk := k H2 (e1.trans e2)
        rw [no_of (none_of (by rw [hl, Bool.true_and]; exact decide_eq_false (by omega)))] at kk
        exact kk
      · rw [hl] at c
        have c' : (xs.length : Int) ≤ 6 := by simpa using c
        have bad : ∀ (i : Nat) (e : PyData) H', (seqD d)[i]? = some e → rowIn p (seqD d).length e = none → Ex H1 H' → Q (.bl false) H' := fun i e H' h1 h2 e2 => by
          have kk := k H' (e1.trans e2)
          rw [table_none h1 h2] at kk
          exact kk
        refine q_forS (K := K) (a := a) (ev_var rfl) (hs.ex e1) (fun i σ' H' => ∃ (u2 u3 u4 u5 : Option V), σ' = [some (.int p), some (.ref a), u2, u3, u4, u5] ∧ Ex H1 H' ∧ ∀ (m : Nat) (e : PyData), m < i → (seqD d)[m]? = some e → (rowIn p (seqD d).length e).isSome = true)
          (fun H2 e2 => ⟨none, none, none, none, rfl, e2, fun m e hm => absurd hm (Nat.not_lt_zero m)⟩) (fun i σ' H' ⟨_, _, _, _, _, e, _⟩ => e) ?_ ?_
        · rintro i x σ' H' hx' ⟨u2, u3, u4, u5, rfl, eH, hgood⟩
          obtain ⟨e, he, hxe⟩ := hx.get hx'
          have hxe := hxe.ex (e1.trans eH)
          refine gName_go ?_
          have badi : ∀ H2, rowIn p (seqD d).length e = none → Ex H' H2 → Q (.bl false) H2 := fun H2 z e2 => bad i e H2 he z (eH.trans e2)
          rcases hxe.seq with hl2 | ⟨hl2, b, es, rfl, hs2, hes⟩
          · refine q_when (b := true) (et_is (et_or (b := true) (et_not (et_isList (K := K) (ev_var rfl) hxe)) (fun c => by rw [hl2] at c; cases c)) (by rw [hl2]; rfl)) (fun _ H2 e2 => s_ret ev_c fun H3 e3 => ?_) (fun c => by cases c)
            exact badi H3 (row_none fun z => by rw [hl2] at z; cases z.1) (e2.trans e3)
          · have hlen2 := hes.length
            refine q_when (b := (!isListD e || !decide (V.int (es.length : Nat) = V.int (xs.length : Nat)))) (et_or (et_not (et_isList (K := K) (ev_var rfl) hxe)) fun _ => et_test (ev_op (ev_lenS (K := K) (ev_var rfl) hs2) (ev_lenS (K := K) (ev_var rfl) (hs.ex (e1.trans eH))) (rv_ne rfl))) (fun c H2 e2 => s_ret ev_c fun H3 e3 => ?_) (fun c H2 e2 => ?_)
            · refine badi H3 (row_none fun z => ?_) (e2.trans e3)
              rw [z.1] at c
              have : ¬ V.int (es.length : Nat) = V.int (xs.length : Nat) := by simpa using c
              exact this (by rw [hlen2, z.2.1, hlen])
            · have c2 : (es.length : Int) = (xs.length : Int) := by
                rw [hl2] at c
                have : V.int (es.length : Nat) = V.int (xs.length : Nat) := by simpa using c
                injection this
              refine s_forS (K := K) (a := b) (ev_var rfl) (hs2.ex e2) (fun j σ' H3 => ∃ (u3 u4 u5 : Option V), σ' = [some (.int p), some (.ref a), some (.ref b), u3, u4, u5] ∧ Ex H2 H3 ∧ ∀ (m : Nat) (y : PyData), m < j → (seqD e)[m]? = some y → restD p y = true)
                (fun H3 e3 => ⟨_, _, _, rfl, e3, fun m y hm => absurd hm (Nat.not_lt_zero m)⟩) (fun j σ' H' ⟨_, _, _, _, e, _⟩ => e) ?_ ?_
              · rintro j y σ' H3 hy ⟨u3, u4, u5, rfl, e3, hrest⟩
                obtain ⟨dy, hdy, hyd⟩ := hes.get hy
                have hyd := hyd.ex (e2.trans e3)
                refine gName_go ?_
                refine s_when (b := (!(isIntD dy || isBoolD dy) || (isBoolD dy || !(restD p dy)))) (et_or (et_not (et_isInt (K := K) (ev_var rfl) hyd)) fun c1 => et_or (et_isBool (K := K) (ev_var rfl) hyd) fun c2 => et_not ?_) (fun c H4 e4 => s_ret ev_c fun H5 e5 => ?_) (fun c H4 e4 => ?_)
                · cases hyd with
                  | int z =>
                    intro H4 e4 Q4 q4
                    refine ⟨_, rfl, _, _, rfl, rfl, _, rfl, ?_⟩
                    by_cases c : 0 ≤ z
                    · rw [decide_eq_true c]
                      refine iteT ⟨_, rfl, _, _, rfl, rfl, _, rfl, ?_⟩
                      have qq : restD p (.int z) = decide (z < p) := by simp [restD, c]
                      rw [← qq]
                      exact q4 H4 (Ex.refl H4)
                    · rw [decide_eq_false c]
                      refine iteF ⟨_, rfl, ?_⟩
                      have qq : restD p (.int z) = false := by simp [restD, c]
                      rw [← qq]
                      exact q4 H4 (Ex.refl H4)
                  | bl z => cases c2
                  | non => cases c1
                  | str z => cases c1
                  | lst h1 h2 => cases c1
                  | tup h1 h2 => cases c1
                · refine badi H5 (row_none fun z => ?_) (((e2.trans e3).trans e4).trans e5)
                  have hr0 : restD p dy = true := (List.all_eq_true.mp z.2.2) dy (List.mem_of_getElem? hdy)
                  obtain ⟨i1, i2⟩ := rest_int hr0
                  rw [i1, i2, hr0] at c
                  cases c
                · refine ⟨_, _, _, rfl, e3.trans e4, fun m y2 hm hy2 => ?_⟩
                  by_cases cm : m < j
                  · exact hrest m y2 cm hy2
                  · have em : m = j := by omega
                    subst em
                    rw [hdy] at hy2
                    cases hy2
                    cases dy <;> simp_all [isIntD, isBoolD, restD]
              · rintro σ' H3 ⟨u3, u4, u5, rfl, e3, hrest⟩
                refine ⟨_, _, _, _, rfl, (eH.trans e2).trans e3, fun m e' hm he' => ?_⟩
                by_cases cm : m < i
                · exact hgood m e' cm he'
                · have em : m = i := by omega
                  subst em
                  rw [he] at he'
                  cases he'
                  rw [row_some hl2 (by omega) (List.all_eq_true.mpr fun y hy => by
                    obtain ⟨m2, hm2, ey⟩ := List.mem_iff_getElem.mp hy
                    exact hrest m2 y (by omega) (by rw [← ey]; exact List.getElem?_eq_getElem hm2))]
                  rfl
        · rintro σ' H' ⟨u2, u3, u4, u5, rfl, eH, hgood⟩
          have hx' := hx.ex (e1.trans eH)
          have hs' := hs.ex (e1.trans eH)
          obtain ⟨pr, an⟩ := srows (p := p) (n := (seqD d).length) hx' fun i e he => hgood i e (by have := (List.getElem?_eq_some_iff.mp he).1; omega) he
          have ts := table_some hl (by omega) an
          have fit := fit_sq ts
          have ltt : ((seqD d).map fun e => (rowIn p (seqD d).length e).getD []).length = xs.length := by rw [List.length_map]; omega
          generalize ((seqD d).map fun e => (rowIn p (seqD d).length e).getD []) = t at pr ts fit ltt
          have eR : (rightIn p d).isSome = decide (turned t = t) := by
            unfold rightIn
            rw [ts]
            by_cases c : turned t = t
            · rw [decide_eq_true c]
              dsimp only
              rw [if_pos c]
              rfl
            · rw [decide_eq_false c]
              dsimp only
              rw [if_neg c]
              rfl
          have item : ∀ i, i < xs.length → ∀ H2, Ex H' H2 → ∃ b, xs[i]? = some (.ref b) ∧ SeqAt2 H2 b ((rowAt t i).map V.int) := fun i hi H2 e2 => by
            obtain ⟨r, h1, b, h2, h3⟩ := paired_get pr (List.getElem?_eq_getElem hi)
            obtain ⟨h4, h5⟩ := List.getElem?_eq_some_iff.mp h1
            rw [rowAt_get h4, h5]
            exact ⟨b, by rw [List.getElem?_eq_getElem hi, h2], h3.ex e2⟩
          refine s_ret (v := .bl (decide (turned t = t))) (ev_is (evp_all (K := K) (bs := (List.range xs.length).map fun i => ((List.range xs.length).map fun j => decide (V.int (at0 (rowAt t i) j) = V.int (at0 (rowAt t j) i))).all id) ((evlp_rng (m := xs.length) lf_bool (fun _ => true) (fun i => ((List.range xs.length).map fun j => decide (V.int (at0 (rowAt t i) j) = V.int (at0 (rowAt t j) i))).all id) (ea_cons (ev_lenS (K := K) (ev_var rfl) hs') ea_nil) (by omega) (fun _ => rfl) fun i H2 e2 hi => ⟨et_yes, fun _ => ?_⟩).imp fun vs H2 _ z => by rw [pick_map] at z; exact z)) (by rw [all_sym ltt (fun r hr => by rw [fit r hr, ltt])])) fun H2 e2 => ?_
          · refine ev_p (evp_all (K := K) (bs := (List.range xs.length).map fun j => decide (V.int (at0 (rowAt t i) j) = V.int (at0 (rowAt t j) i))) ((evlp_rng (m := xs.length) lf_bool (fun _ => true) (fun j => decide (V.int (at0 (rowAt t i) j) = V.int (at0 (rowAt t j) i))) (ea_cons (ev_lenS (K := K) (ev_var rfl) (hs'.ex e2)) ea_nil) (by omega) (fun _ => rfl) fun j H3 e3 hj => ⟨et_yes, fun _ => ?_⟩).imp fun vs H3 _ z => by rw [pick_map] at z; exact z)) fun _ _ => rfl
            obtain ⟨b1, hb1, hr1⟩ := item i hi H3 (e2.trans e3)
            obtain ⟨b2, hb2, hr2⟩ := item j hj H3 (e2.trans e3)
            have l1 := fit _ (rowAt_mem (t := t) (i := i) (by omega))
            have l2 := fit _ (rowAt_mem (t := t) (i := j) (by omega))
            exact ev_p (ev_op (ev_op (ev_op (ev_var rfl) (ev_var rfl) (rv_ixSeq (hs'.ex (e2.trans e3)) hb1)) (ev_var rfl) (rv_ixSeq hr1 (row_at (by omega)))) (ev_op (ev_op (ev_var rfl) (ev_var rfl) (rv_ixSeq (hs'.ex (e2.trans e3)) hb2)) (ev_var rfl) (rv_ixSeq hr2 (row_at (by omega)))) (rv_eq rfl)) fun _ _ => rfl
          · have kk := k H2 ((e1.trans eH).trans e2)
            rw [eR] at kk
            exact kk
end
end RK

set_option Elab.async false
set_option linter.all false
set_option maxRecDepth 100000
set_option maxHeartbeats 4000000
namespace RK
open PySem L2 Evl
/-! ### data apart from some addresses -/
def Cl (A : List Addr) (H : Hp) : Hp := fun b => if b ∈ A then none else H b
theorem cl_in {A : List Addr} {H : Hp} {b : Addr} (h : b ∉ A) : Cl A H b = H b := if_neg h
theorem cl_mono {A : List Addr} {H H' : Hp} (e : Ex H H') : Ex (Cl A H) (Cl A H') := fun b o h => by
  unfold Cl at h ⊢
  by_cases c : b ∈ A
  · rw [if_pos c] at h
    cases h
  · rw [if_neg c] at h ⊢
    exact e b o h
theorem cl_ex {A : List Addr} {H : Hp} : Ex (Cl A H) H := fun b o h => by
  unfold Cl at h
  by_cases c : b ∈ A
  · rw [if_pos c] at h
    cases h
  · rwa [if_neg c] at h
def Da (A : List Addr) (H : Hp) (v : V) : Prop := ∃ d, Dt (Cl A H) v d
def DA (A : List Addr) (H : Hp) (xs : List V) : Prop := ∀ x ∈ xs, Da A H x
def LD (A : List Addr) (k : Nat) (H : Hp) (v : V) : Prop := ∃ l xs, v = .ref l ∧ l ∉ A ∧ H l = some (.lst xs) ∧ DA A H xs ∧ xs.length ≤ k
/-- the addresses are taken -/
def Tk (A : List Addr) (H : Hp) : Prop := ∀ a ∈ A, H a ≠ none
theorem Tk.ex {A : List Addr} {H H' : Hp} (h : Tk A H) (e : Ex H H') : Tk A H' := fun a ha z => by
  cases q : H a with
  | none => exact h a ha q
  | some o =>
    rw [e a o q] at z
    cases z
theorem Tk.new {A : List Addr} {H : Hp} {p : Addr} (h : Tk A H) (n : H p = none) : p ∉ A := fun z => h p z n
section
variable {A : List Addr} {H H' : Hp} {v : V} {xs ys : List V} {k : Nat}
theorem Da.ex (h : Da A H v) (e : Ex H H') : Da A H' v := by
  obtain ⟨d, h⟩ := h
  exact ⟨d, h.ex (cl_mono e)⟩
theorem DA.ex (h : DA A H xs) (e : Ex H H') : DA A H' xs := fun x hx => (h x hx).ex e
theorem LD.ex (h : LD A k H v) (e : Ex H H') : LD A k H' v := by
  obtain ⟨l, xs, h1, h2, h3, h4, h5⟩ := h
  exact ⟨l, xs, h1, h2, e _ _ h3, h4.ex e, h5⟩
theorem da_all : ∀ {xs : List V}, DA A H xs → ∃ ds, DtAll (Cl A H) xs ds
  | [], _ => ⟨[], .nil⟩
  | x :: xs, h => by
    obtain ⟨d, hd⟩ := h x List.mem_cons_self
    obtain ⟨ds, hds⟩ := da_all (xs := xs) fun y hy => h y (List.mem_cons_of_mem _ hy)
    exact ⟨d :: ds, .cons hd hds⟩
theorem LD.da (h : LD A k H v) : Da A H v := by
  obtain ⟨l, xs, rfl, h2, h3, h4, h5⟩ := h
  obtain ⟨ds, hd⟩ := da_all h4
  exact ⟨.list ds, .lst ((cl_in h2).trans h3) hd⟩
theorem LD.up (h : LD A k H v) {k' : Nat} (hk : k ≤ k') : LD A k' H v := by
  obtain ⟨l, xs, h1, h2, h3, h4, h5⟩ := h
  exact ⟨l, xs, h1, h2, h3, h4, Nat.le_trans h5 hk⟩
theorem DA.append (h1 : DA A H xs) (h2 : DA A H ys) : DA A H (xs ++ ys) := fun x hx => (List.mem_append.mp hx).elim (h1 x) (h2 x)
theorem ld_new {p : Addr} (hA : Tk A H) (n : H p = none) (h : DA A H xs) (hk : xs.length ≤ k) : LD A k (upd H p (.lst xs)) (.ref p) := ⟨p, xs, rfl, hA.new n, upd_same, h.ex (Ex.new n), hk⟩
/-- a value that is data in every heap -/
def Scal (v : V) : Prop := ∃ d, ∀ H, Dt H v d
theorem Scal.da (h : Scal v) : Da A H v := by
  obtain ⟨d, h⟩ := h
  exact ⟨d, h _⟩
theorem sc_int (i : Int) : Scal (.int i) := ⟨_, fun _ => .int i⟩
theorem sc_bl (i : Bool) : Scal (.bl i) := ⟨_, fun _ => .bl i⟩
theorem sc_str (i : Str) : Scal (.str i) := ⟨_, fun _ => .str i⟩
theorem sc_non : Scal .non := ⟨_, fun _ => .non⟩
theorem sc_da {xs : List V} (h : ∀ x ∈ xs, Scal x) : DA A H xs := fun x hx => (h x hx).da
end
abbrev Pda (A : List Addr) : V → Hp → Prop := fun v H => Da A H v
abbrev Pld (A : List Addr) (k : Nat) : V → Hp → Prop := fun v H => LD A k H v
section
variable {K : PySem.W.Frag} {A : List Addr} {σ : L2.St} {H : Hp} {ta tb te : TE} {tr : TA} {k k1 k2 n : Nat}
theorem ead_nil : EvAP tNil σ H (fun vs H2 => DA A H2 vs ∧ vs.length = 0) := fun H1 _ _ q => q [] H1 (Ex.refl H1) ⟨fun x hx => (by cases hx), rfl⟩
theorem ead_cons (h : EvP te σ H (Pda A)) (hr : ∀ H1, Ex H H1 → EvAP tr σ H1 (fun vs H2 => DA A H2 vs ∧ vs.length = k)) : EvAP (tCons te tr) σ H (fun vs H2 => DA A H2 vs ∧ vs.length = k + 1) := fun H1 e Q q =>
  h H1 e _ fun v H2 e2 hv => hr H2 (e.trans e2) H2 (Ex.refl H2) _ fun vs H3 e3 hvs => q _ H3 (e2.trans e3) ⟨fun x hx => (List.mem_cons.mp hx).elim (fun z => by rw [z]; exact hv.ex e3) (hvs.1 x), by rw [List.length_cons, hvs.2]⟩
theorem evp_lstD (hA : Tk A H) (h : EvAP tr σ H (fun vs H2 => DA A H2 vs ∧ vs.length = k)) (hk : k ≤ 40000) : EvP (tLst tr) σ H (Pld A k) := fun H1 e Q q => h H1 e _ fun vs H2 e2 hv =>
  ⟨sz_of (by omega), fun p hp => q _ _ (e2.trans (Ex.new hp)) (ld_new (hA.ex (e.trans e2)) hp hv.1 (by omega))⟩
theorem evl_ld {ys : List V} (hA : Tk A H) (h : EvL te σ H ys) (hd : DA A H ys) (hk : ys.length ≤ k) : EvP te σ H (Pld A k) := fun H1 e Q q => h H1 e Q fun p H2 np e2 hp => q _ H2 e2 ⟨p, ys, rfl, (hA.ex e).new np, hp, hd.ex (e.trans e2), hk⟩
theorem evp_catD (hA : Tk A H) (ha : EvP ta σ H (Pld A k1)) (hb : ∀ H1, Ex H H1 → EvP tb σ H1 (Pld A k2)) (hk : k1 + k2 ≤ 40000) : EvP (tOp rCat ta tb) σ H (Pld A (k1 + k2)) := fun H1 e Q q =>
  ha H1 e _ fun v H2 e2 h2 => hb H2 (e.trans e2) H2 (Ex.refl H2) _ fun u H3 e3 h3 => by
    obtain ⟨l, xs, rfl, n1, m1, d1, z1⟩ := h2
    obtain ⟨m, ys, rfl, n2, m2, d2, z2⟩ := h3
    exact ⟨l, m, xs, ys, rfl, rfl, e3 _ _ m1, m2, sz_of (by omega), fun p hp => q _ _ ((e2.trans e3).trans (Ex.new hp)) (ld_new (hA.ex ((e.trans e2).trans e3)) hp ((d1.ex e3).append d2) (by rw [List.length_append]; omega))⟩
theorem evp_repD (hA : Tk A H) (ha : EvP ta σ H (Pld A 1)) (hb : ∀ H1, Ex H H1 → Ev tb σ H1 (.int (n : Nat))) (hk : n ≤ 40000) : EvP (tOp rRep ta tb) σ H (Pld A n) := fun H1 e Q q =>
  ha H1 e _ fun v H2 e2 h2 => hb H2 (e.trans e2) H2 (Ex.refl H2) _ fun H3 e3 => by
    obtain ⟨l, xs, rfl, n1, m1, d1, z1⟩ := h2
    have hlen : ((List.replicate n xs).flatten).length ≤ n := by
      rw [List.length_flatten, List.map_replicate, List.sum_replicate_nat]
      exact Nat.le_trans (Nat.mul_le_mul_left n z1) (by omega)
    refine ⟨l, (n : Int), xs, rfl, rfl, e3 _ _ m1, by omega, by omega, sz_of ?_, fun p hp => q _ _ ((e2.trans e3).trans (Ex.new hp)) ?_⟩
    · rw [Int.toNat_natCast]
      exact Nat.le_trans (Nat.mul_le_mul_right n z1) (by omega)
    · rw [Int.toNat_natCast]
      refine ld_new (hA.ex ((e.trans e2).trans e3)) hp (fun x hx => ?_) hlen
      obtain ⟨l2, h1, h2⟩ := List.mem_flatten.mp hx
      rw [List.eq_of_mem_replicate h1] at h2
      exact (d1 x h2).ex e3
theorem evp_slD {tl th : TO} {a : Addr} {xs : List V} {lo hi : Option Int} (hA : Tk A H) (h : Ev te σ H (.ref a)) (hs : H a = some (.lst xs)) (hd : DA A H xs) (h1 : EvO tl σ H lo) (h2 : EvO th σ H hi) (hk : xs.length ≤ k) : EvP (tSl (rSlL K) te tl th) σ H (Pld A k) :=
  evl_ld hA (el_sl h h1 h2 (sq_of hs)) (fun x hx => hd x (List.mem_of_mem_drop (List.mem_of_mem_take hx))) (Nat.le_trans (cutV_length xs lo hi) hk)
theorem el_revL {a : Addr} {xs : List V} (h : Ev te σ H (.ref a)) (hs : H a = some (.lst xs)) : EvL (tRevL K te) σ H xs.reverse := fun H1 e Q q => h H1 e _ fun H2 e2 => ⟨a, xs, rfl, sq_of (e2 _ _ (e _ _ hs)), fun p hp => q p _ (fresh_back e2 hp) (e2.trans (Ex.new hp)) upd_same⟩
theorem evp_revD {a : Addr} {xs : List V} (hA : Tk A H) (h : Ev te σ H (.ref a)) (hs : H a = some (.lst xs)) (hd : DA A H xs) (hk : xs.length ≤ k) : EvP (tRevL K te) σ H (Pld A k) :=
  evl_ld hA (el_revL h hs) (fun x hx => hd x (List.mem_reverse.mp hx)) (by rw [List.length_reverse]; exact hk)
/-- new lists of plain values are data -/
theorem pnew_da {H0 H2 : Hp} {rs : List (List V)} {ws : List V} (hA : Tk A H0) (h : PNew H0 rs ws H2) (hs : ∀ r ∈ rs, ∀ x ∈ r, Scal x) : DA A H2 ws := fun x hx => by
  obtain ⟨r, hr, b, rfl, nb, hb⟩ := paired_mem h.1 hx
  obtain ⟨ds, hds⟩ := da_all (A := A) (H := H2) (sc_da (hs r hr))
  exact ⟨.list ds, .lst ((cl_in (hA.new nb)).trans hb) hds⟩
theorem evlp_pn {rs : List (List V)} (hA : Tk A H) (h : EvLP te σ H (PNew H rs)) (hs : ∀ r ∈ rs, ∀ x ∈ r, Scal x) (hk : rs.length ≤ k) : EvP te σ H (Pld A k) := fun H1 e Q q => h H1 e Q fun p ws H2 np e2 hp pw =>
  q _ H2 e2 ⟨p, ws, rfl, (hA.ex e).new np, hp, pnew_da hA pw hs, by rw [pw.1.length]; exact hk⟩
theorem evd_of (h : EvP te σ H (Pld A k)) : EvP te σ H (Pda A) := h.imp fun v H1 _ z => z.da
theorem evd_sc {v : V} (h : Ev te σ H v) (hs : Scal v) : EvP te σ H (Pda A) := ev_p h fun _ _ => hs.da
end
end RK

set_option Elab.async false
set_option linter.all false
set_option maxRecDepth 100000
set_option maxHeartbeats 4000000
namespace RK
open PySem L2 Evl
def spBent : Sp := fun vs H Q _ => ∃ (q : Addr) (p : Int) (g : V) (t : Tab), vs = [.ref q, .int p, g] ∧ Pot H q ∧ TabT H g t ∧ Gr p t ∧ ∀ (l : Addr) (ws : List V) H', Ex (del H q) H' → H' l = some (.lst ws) → ws.length ≤ 40 → (∀ v ∈ ws, ∃ d, Dt H' v d) → Q (.ref l) H'
theorem cl_new {A : List Addr} {H : Hp} {p : Addr} {o : HO} (n : H p = none) : Ex (Cl A H) (Cl (p :: A) (upd H p o)) := fun b u h => by
  unfold Cl at h
  by_cases c : b ∈ A
  · rw [if_pos c] at h
    cases h
  · rw [if_neg c] at h
    have bp : b ≠ p := fun z => by rw [z, n] at h; cases h
    rw [cl_in (by simp [bp, c]), upd_ne bp]
    exact h
theorem cl_dr {A : List Addr} {H H' : Hp} {q : Addr} (hq : q ∈ A) (e : Ex (del H q) H') : Ex (Cl A H) (Cl A H') := fun b u h => by
  unfold Cl at h
  by_cases c : b ∈ A
  · rw [if_pos c] at h
    cases h
  · rw [if_neg c] at h
    rw [cl_in c]
    exact e b u (del_some h fun z => c (by rw [z]; exact hq))
theorem cl_upd {A : List Addr} {H : Hp} {F : Addr} {o : HO} (hF : F ∈ A) : Cl A (upd H F o) = Cl A H := by
  funext b
  unfold Cl
  by_cases c : b ∈ A
  · rw [if_pos c, if_pos c]
  · rw [if_neg c, if_neg c, upd_ne fun z => c (by rw [z]; exact hF)]
theorem DA.cl {A A' : List Addr} {H H' : Hp} {xs : List V} (h : DA A H xs) (e : Ex (Cl A H) (Cl A' H')) : DA A' H' xs := fun x hx => by
  obtain ⟨d, hd⟩ := h x hx
  exact ⟨d, hd.ex e⟩
section
variable {K : PySem.W.Frag} {A : List Addr} {σ : L2.St} {H : Hp} {ta tb te : TE} {tr : TA} {k n : Nat}
theorem evp_one (hA : Tk A H) (h : EvP te σ H (Pda A)) : EvP (tLst (tCons te tNil)) σ H (Pld A 1) := evp_lstD hA (ead_cons h fun H1 _ => ead_nil) (by decide)
theorem evp_zeros (hA : Tk A H) (hb : ∀ H1, Ex H H1 → Ev tb σ H1 (.int (n : Nat))) (hk : n ≤ 40000) : EvP (tOp rRep (tLst (tCons (tC (.int 0)) tNil)) tb) σ H (Pld A n) := evp_repD hA (evp_one hA (evd_sc ev_c (sc_int 0))) hb hk
theorem el_cat1 {a : Addr} {xs : List V} {v : V} (h : Ev ta σ H (.ref a)) (hx : H a = some (.lst xs)) (hz : xs.length ≤ 40000) (hb : ∀ H1, Ex H H1 → EvL tb σ H1 [v]) : EvL (tOp rCat ta tb) σ H (xs ++ [v]) := fun H1 e Q q => h H1 e _ fun H2 e2 => hb H2 (e.trans e2) H2 (Ex.refl H2) _ fun p H3 np e3 hp =>
  ⟨a, p, xs, [v], rfl, rfl, e3 _ _ (e2 _ _ (e _ _ hx)), hp, sz_of (by show xs.length + 1 ≤ _; omega), fun l hl => q l _ (fresh_back (e2.trans e3) hl) ((e2.trans e3).trans (Ex.new hl)) upd_same⟩
end
theorem pe_revLK {X : Cx} {K : PySem.W.Frag} {e : Expr} {te : TE} {kk : Nat} {p1 p2 p3 pos : Pos} (he : PE X e te) (h : X.K = K := by rfl) : PE X (.Subscript e (.Slice none none (some (.UnaryOp .USub (.Constant (.int 1) kk p1) p2)) p3) pos) (tRevL K te) := h ▸ pe_revL he
section
variable {P : Program} {w : World} {K : PySem.W.Frag} {mg : Str → Option Value} {base : Heap}
theorem ok_bent (B : Bt mg) (D : DefIn K mg "_law_bent" sLBent ["_law_pot_here", "_law_prime", "_law_grid_here"]) (h1 : Held P w K mg base CX0 1 "_law_draw" ["_law_pot_here", "_law_many"] spDraw) : Held P w K mg base CX0 2 "_law_bent" ["_law_pot_here", "_law_prime", "_law_grid_here"] spBent := by
  obtain ⟨f1, fd1, g1, k1, b1, G1⟩ := h1
  refine D.held fun f fd F => F.ok scLBent (fun vs H Q E h => ?_) (fun cdv A outer s H vs Q E hr h => ?_)
  · obtain ⟨q, p, g, t, rfl, _⟩ := h
    rfl
  · obtain ⟨q, p, g, t, rfl, hq, ⟨ga, gs, rfl, hga, hgs⟩, gr, k⟩ := h
    refine ⟨_, pss_cons (ps_par (i := 3) (j := 4) rfl scLBent.nd rfl rfl (by decide) rfl rfl (pa_cons (pe_lc (own := [("_law_row", 5)]) (g := gName 5) (tt := tYes) rfl scLBent.nd (pi_tupK (K := K) (pv 2)) (blkOk_by (N := nLBent) (sc := defScope sLBent) (by decide +kernel))
          (fun _ _ _ _ _ => pg_name (i := 5) scLBent.nd rfl (Or.inl rfl)) (fun _ _ _ _ _ => pts_nil) (fun _ _ _ _ _ => pe_callTy (callListK (K := K)) (by rfl) B.list (by decide +kernel) (pa_cons (pv 5) pa_nil)))
          (pa_cons (pe_callB (callLenK (K := K)) (by rfl) B.len PySem.boot_len (pa_cons (pv 2) pa_nil)) pa_nil)) (by rfl))
      (pss_cons (ps_set (i := 6) scLBent.nd rfl (Or.inl rfl) (pe_lst (pa_cons (pe_op op_cat (pv 3) (pe_lst (pa_cons (pe_op op_rep (pe_lst (pa_cons pe_int pa_nil)) (pv 4)) pa_nil)))
        (pa_cons (pe_lc (own := [("_law_row", 5)]) (g := gName 5) (tt := tYes) rfl scLBent.nd (pi_listK (K := K) (pv 3)) (blkOk_by (N := nLBent) (sc := defScope sLBent) (by decide +kernel)) (fun _ _ _ _ _ => pg_name (i := 5) scLBent.nd rfl (Or.inl rfl)) (fun _ _ _ _ _ => pts_nil)
            (fun _ _ _ _ _ => pe_op op_cat (pv 5) (pe_lst (pa_cons pe_int pa_nil))))
        (pa_cons (pe_op op_cat (pv 3) (pe_lst (pa_cons (pe_op op_rep (pe_lst (pa_cons pe_int pa_nil)) (pe_op op_add (pv 4) pe_int)) pa_nil)))
        (pa_cons (pe_op op_rep (pe_lst (pa_cons (pe_op op_rep (pe_lst (pa_cons pe_int pa_nil)) (pv 4)) pa_nil)) (pe_op op_add (pv 4) pe_int)) pa_nil))))))
      (pss_cons (ps_if (pt_cmpR op_gt (pv 4) pe_int (nomark _))
        (pss_cons (ps_par (i := 7) (j := 8) rfl scLBent.nd rfl rfl (by decide) rfl rfl (pa_cons (pe_call G1 (hr.mono (by decide)) (by rfl) g1 k1 b1 .nil pass0 (pa_cons (pv 0) (pa_cons (pv 4) pa_nil))) (pa_cons (pe_call G1 (hr.mono (by decide)) (by rfl) g1 k1 b1 .nil pass0 (pa_cons (pv 0) (pa_cons (pv 4) pa_nil))) pa_nil)) (by rfl))
        (pss_cons (ps_for PassesOwn.never rfl (pi_listK (K := K) (pe_lst (pa_cons (pe_op op_mod (pe_op op_add (pe_ix (ix_listK (K := K)) (pe_ix (ix_listK (K := K)) (pv 3) (pv 7) (fun _ _ => rfl)) (pv 8) (fun _ _ => rfl)) pe_int) (pv 1)) (pa_cons (pv 1) (pa_cons (pe_un un_neg pe_int) (pa_cons pe_bl (pa_cons pe_str (pa_cons pe_non pa_nil)))))))) (pg_name (i := 9) scLBent.nd rfl (Or.inl rfl))
          (pss_cons (ps_setLc (i := 10) (own := [("_law_row", 5)]) (g := gName 5) (tt := tYes) rfl scLBent.nd rfl rfl (by rfl) (pi_listK (K := K) (pv 3)) (blkOk_by (N := nLBent) (sc := defScope sLBent) (by decide +kernel))
              (fun _ _ _ _ _ => pg_name (i := 5) scLBent.nd rfl (Or.inl rfl)) (fun _ _ _ _ _ => pts_nil) (fun _ _ _ _ _ => pe_callTy (callListK (K := K)) (by rfl) B.list (by decide +kernel) (pa_cons (pv 5) pa_nil)))
          (pss_cons (ps_asg (g := gSub (tOp (rIxL K) (tVar 10) (tVar 7)) (tVar 8) rSetL) (pv 9) (pg_sub (pe_ix (ix_listK (K := K)) (pv 10) (pv 7) (fun _ _ => rfl)) (pv 8) set_list))
          (pss_one (ps_expr (pe_bm PySem.F.plainAttrs_list PySem.F.slot_list_append PySem.F.type_list_append mt_append (pv 6) (pa_cons (pv 10) pa_nil)))))))
        (pss_one (ps_set (i := 6) scLBent.nd rfl (Or.inl rfl) (pe_op op_cat (pv 6) (pe_lst (pa_cons (pe_slice (r := rSlL K) sl_list (pv 3) (po_some pe_int) po_none)
          (pa_cons (pe_op op_cat (pe_op op_cat (pe_slice (r := rSlL K) sl_list (pv 3) po_none (po_some (pv 7))) (pe_lst (pa_cons pe_non pa_nil))) (pe_slice (r := rSlL K) sl_list (pv 3) (po_some (pe_op op_add (pv 7) pe_int)) po_none))
          (pa_cons (pe_revLK (K := K) (pv 3)) (pa_cons (pe_lc (own := [("_law_row", 5)]) (g := gName 5) (tt := tYes) rfl scLBent.nd (pi_listK (K := K) (pv 3)) (blkOk_by (N := nLBent) (sc := defScope sLBent) (by decide +kernel)) (fun _ _ _ _ _ => pg_name (i := 5) scLBent.nd rfl (Or.inl rfl)) (fun _ _ _ _ _ => pts_nil)
            (fun _ _ _ _ _ => pe_revLK (K := K) (pv 5))) pa_nil)))))))))) pss_nil)
      (pss_one (ps_ret (pv 6))))), ?_⟩
    have hgl := hgs.length
    have sz := gr.sz
    have pp := prime_pos gr.pr
    have hms : gs.length ≤ 6 := by omega
    dsimp only [tSeq, tPar]
    refine (evlp_tupN (K := K) (a := ga) (fun i => (rowAt t i).map V.int) (ev_var rfl) hga (by omega) (fun _ => rfl) fun i x H1 e1 h => ⟨et_yes, ?_⟩) H (Ex.refl H) _ fun R rv H1 nR e1 hR pw => ?_
    · obtain ⟨rx, _⟩ := rows_item (rows_ex hgs e1) h
      obtain ⟨ax, rfl, sx⟩ := rx.seq
      exact el_listS (ev_var rfl) sx
    refine ⟨_, rfl, ga, gs, rfl, .inr (st_of (e1 _ _ hga)), _, _, rfl, ?_⟩
    have tkq : Tk [q] H := fun a ha => by
      rw [List.mem_singleton.mp ha]
      exact pot_some hq
    have rvl : rv.length = gs.length := by rw [pw.1.length]; simp
    have scr : ∀ r ∈ (List.range gs.length).map (fun i => (rowAt t i).map V.int), ∀ x ∈ r, Scal x := fun r hr x hx => by
      obtain ⟨i, _, rfl⟩ := List.mem_map.mp hr
      obtain ⟨y, _, rfl⟩ := List.mem_map.mp hx
      exact sc_int y
    have daR : DA [q] H1 rv := pnew_da tkq pw scr
    have prv : Paired (fun v r => RN H H1 v (r.map V.int)) rv t := by
      have := pw.1
      rw [hgl, map_range_row t fun r => r.map V.int] at this
      exact paired_unmap this
    have Rq : R ∉ [q] := tkq.new nR
    have tk1 := tkq.ex e1
    have ldR : ∀ H2, Ex H1 H2 → LD [q] gs.length H2 (.ref R) := fun H2 e2 => ⟨R, rv, rfl, Rq, e2 _ _ hR, daR.ex e2, by omega⟩
    have hq1 := pot_ex hq e1
    generalize hm : gs.length = m at *
    dsimp only [tSeq, tAsg]
    refine (ead_cons (A := [q]) (k := 3) (evd_of (evp_catD (k1 := m) (k2 := 1) tk1 (ev_p (ev_var rfl) ldR) (fun H2 e2 => evp_one (tk1.ex e2) (evd_of (evp_zeros (n := m) (tk1.ex e2) (fun H3 e3 => ev_var rfl) (by omega)))) (by omega))) fun H2 e2 =>
      ead_cons (k := 2) (evd_of (evlp_pn (k := m) (rs := (List.range rv.length).map fun i => (rowAt t i).map V.int ++ [V.int 0]) (tk1.ex e2) (evlp_seqN (K := K) (a := R) (fun i => (rowAt t i).map V.int ++ [V.int 0]) (ev_var rfl) (e2 _ _ hR) (by omega) (fun _ => rfl) fun i x H3 e3 h => ⟨et_yes, ?_⟩) ?_ (by simp; omega))) fun H3 e3 =>
      ead_cons (k := 1) (evd_of (evp_catD (k1 := m) (k2 := 1) (tk1.ex (e2.trans e3)) (ev_p (ev_var rfl) fun H4 e4 => ldR _ ((e2.trans e3).trans e4)) (fun H4 e4 => evp_one (tk1.ex ((e2.trans e3).trans e4)) (evd_of (evp_zeros (n := m + 1) (tk1.ex ((e2.trans e3).trans e4)) (fun H5 e5 => ev_op (ev_var rfl) ev_c rv_I0) (by omega)))) (by omega))) fun H4 e4 =>
      ead_cons (k := 0) (evd_of (evp_repD (n := m + 1) (tk1.ex ((e2.trans e3).trans e4)) (evp_one (tk1.ex ((e2.trans e3).trans e4)) (evd_of (evp_zeros (n := m) (tk1.ex ((e2.trans e3).trans e4)) (fun H5 e5 => ev_var rfl) (by omega)))) (fun H5 e5 => ev_op (ev_var rfl) ev_c rv_I0) (by omega))) fun H5 e5 => ead_nil) H1 (Ex.refl H1) _ fun fs H2 e2 hfs => ⟨sz_of (by omega), fun Fa nF => ?_⟩
    · obtain ⟨r, h1, b, rfl, _, hb⟩ := paired_get prv h
      obtain ⟨h3, h4⟩ := List.getElem?_eq_some_iff.mp h1
      rw [rowAt_get h3, h4]
      have hb3 := e3 _ _ (e2 _ _ hb)
      have gl := (gr.good r (by rw [← h4]; exact List.getElem_mem h3)).1
      exact el_cat1 (ev_var rfl) hb3 (by rw [List.length_map]; omega) fun H4 e4 => el_lst (ea_cons ev_c ea_nil) (by show 1 ≤ 100000; decide)
    · intro r hr x hx
      obtain ⟨i, _, rfl⟩ := List.mem_map.mp hr
      rcases List.mem_append.mp hx with hx | hx
      · obtain ⟨y, _, rfl⟩ := List.mem_map.mp hx
        exact sc_int y
      · rw [List.mem_singleton.mp hx]
        exact sc_int 0
    obtain ⟨hfs, lfs⟩ := hfs
    refine gName_go ?_
    have hq2 := pot_ex hq1 e2
    have Fq : Fa ≠ q := pot_new hq2 nF
    have hF3 : (upd H2 Fa (.lst fs)) Fa = some (.lst fs) := upd_same
    have da3 : DA [Fa, q] (upd H2 Fa (.lst fs)) fs := hfs.cl (cl_new nF)
    have e23 : Ex H1 (upd H2 Fa (.lst fs)) := e2.trans (Ex.new nF)
    have hq3 := pot_ex hq1 e23
    have hR3 := e23 _ _ hR
    have nF1 : H1 Fa = none := fresh_back e2 nF
    have RF : R ≠ Fa := fun z => by rw [z, nF1] at hR; cases hR
    have nFH : H Fa = none := fresh_back e1 nF1
    -- what stays: all but Fa, q
    have eB : Ex (del H q) (Cl [Fa, q] (upd H2 Fa (.lst fs))) := fun b o h => by
      by_cases c : b = q
      · rw [c, del_same] at h
        cases h
      · rw [del_ne c] at h
        rw [cl_in (by simp [c]; intro z; rw [z, nFH] at h; cases h)]
        exact e23 _ _ (e1 _ _ h)
    have prB : Paired (fun v r => ∃ b, v = .ref b ∧ Cl [Fa, q] (upd H2 Fa (.lst fs)) b = some (.lst (r.map V.int))) rv t := Paired.mono (fun v r ⟨b, h1, h2, h3⟩ => ⟨b, h1, by
      have b1 : b ≠ q := fun z => pot_some hq (by rw [← z]; exact h2)
      have b2 : b ≠ Fa := fun z => by rw [z, nF1] at h3; cases h3
      rw [cl_in (by simp [b1, b2])]
      exact e23 _ _ h3⟩) prv
    have hRB : Cl [Fa, q] (upd H2 Fa (.lst fs)) R = some (.lst rv) := by
      rw [cl_in (by simp [RF]; intro z; exact Rq (by simp [z]))]
      exact hR3
    have daB : ∀ H', Ex (Cl [Fa, q] (upd H2 Fa (.lst fs))) H' → DA [Fa, q] H' rv := fun H' e => by
      have h1 : DA [Fa, q] (upd H2 Fa (.lst fs)) rv := (daR.ex e2).cl (cl_new nF)
      refine h1.cl fun b o h => ?_
      have hb : b ∉ [Fa, q] := fun z => by
        unfold Cl at h
        rw [if_pos z] at h
        cases h
      rw [cl_in hb]
      exact e b o h
    have BF : Cl [Fa, q] (upd H2 Fa (.lst fs)) Fa = none := by unfold Cl; rw [if_pos (by simp)]
    have Bq : Cl [Fa, q] (upd H2 Fa (.lst fs)) q = none := by unfold Cl; rw [if_pos (by simp)]
    have e0 : Ex (Cl [Fa, q] (upd H2 Fa (.lst fs))) (upd H2 Fa (.lst fs)) := cl_ex
    generalize upd H2 Fa (.lst fs) = H3 at *
    generalize Cl [Fa, q] H3 = Bs at *
    have fin : ∀ (l : Addr) (ws : List V) H' (u5 u7 u8 u9 u10 : Option V), Ex Bs H' → H' l = some (.lst ws) → ws.length ≤ 40 → DA [Fa, q] H' ws → Q (.ref l) H' := fun l ws H' u5 u7 u8 u9 u10 e hl hz hd =>
      k l ws H' (eB.trans e) hl hz fun v hv => by
        obtain ⟨d, h⟩ := hd v hv
        exact ⟨d, h.ex cl_ex⟩
    refine q_when (b := decide ((m : Int) > 0)) (et_test (ev_op (ev_var rfl) ev_c rv_I0)) (fun c H4 e4 => ?_) (fun c H4 e4 => ⟨_, rfl, fin Fa fs H4 none none none none none (e0.trans e4) (e4 _ _ hF3) (by omega) (da3.ex e4)⟩)
    have c' : (m : Int) > 0 := of_decide_eq_true c
    dsimp only [tSeq, tPar]
    refine ⟨_, rfl, _, rfl, q, m, rfl, pot_ex hq3 e4, by omega, by omega, fun d1 H5 hd1 e5 hq5 => ⟨_, rfl, _, rfl, q, m, rfl, hq5, by omega, by omega, fun d2 H6 hd2 e6 hq6 => ⟨_, _, rfl, ?_⟩⟩⟩
    have eB6 : Ex Bs H6 := Ex.dr Bq (Ex.dr Bq (e0.trans e4) e5) e6
    have hF6 : H6 Fa = some (.lst fs) := e6 _ _ (del_some (e5 _ _ (del_some (e4 _ _ hF3) Fq)) Fq)
    have da6 : DA [Fa, q] H6 fs := ((da3.ex e4).cl (cl_dr (by simp) e5)).cl (cl_dr (by simp) e6)
    obtain ⟨v1, hv1, bb, rfl, hbB⟩ := paired_get2 prB (i := d1) (List.getElem?_eq_getElem (by omega))
    have g1' := gr.good _ (List.getElem_mem (show d1 < t.length by omega))
    generalize t[d1]'(by omega) = r1 at hbB g1'
    refine q_forNLn (xs := [V.int ((at0 r1 d2 + 1) % p), .int p, .int (-1), .bl true, .str "1", .non]) (el_lst (ea_cons (ev_op (ev_op (ev_op (ev_op (ev_var rfl) (ev_var rfl) (rv_ixL (sq_of (eB6 _ _ hRB)) (atI_nat hv1))) (ev_var rfl) (rv_ixL (sq_of (eB6 _ _ hbB)) (atI_nat (row_at (by rw [g1'.1]; omega))))) ev_c rv_I0) (ev_var rfl) (rv_I (by omega))) (ea_cons (ev_var rfl) (ea_cons (ev_un ev_c ru_neg) (ea_cons ev_c (ea_cons ev_c (ea_cons ev_c ea_nil)))))) (by show 6 ≤ 100000; decide))
      (fun pl i σ' H' => ∃ (fs : List V) (u5 u9 u10 : Option V), σ' = [some (.ref q), some (.int p), some (.ref ga), some (.ref R), some (.int (m : Nat)), u5, some (.ref Fa), some (.int (d1 : Int)), some (.int (d2 : Int)), u9, u10] ∧ Ex Bs H' ∧ H' Fa = some (.lst fs) ∧ DA [Fa, q] H' fs ∧ fs.length ≤ 4 + i ∧ Pot H' q ∧
        H' pl = some (.lst [V.int ((at0 r1 d2 + 1) % p), .int p, .int (-1), .bl true, .str "1", .non]) ∧ pl ≠ Fa)
      (fun pl H7 npl e7 hpl => ⟨fs, none, none, none, rfl, eB6.trans e7, e7 _ _ hF6, da6.ex e7, by omega, pot_ex hq6 e7, hpl, fun z => by rw [z, hF6] at npl; cases npl⟩)
      (fun pl i σ' H' _ ⟨_, _, _, _, _, _, _, _, _, _, hpl, _⟩ => sq_of hpl) ?_ ?_
    · rintro pl i x σ' H' hx ⟨fs, u5, u9, u10, rfl, eH, hF', da', lf, hq', hpl, npl⟩
      have sx : Scal x := by
        have : x ∈ [V.int ((at0 r1 d2 + 1) % p), .int p, .int (-1), .bl true, .str "1", .non] := List.mem_of_getElem? hx
        simp only [List.mem_cons, List.not_mem_nil, or_false] at this
        rcases this with rfl | rfl | rfl | rfl | rfl | rfl
        · exact sc_int _
        · exact sc_int _
        · exact sc_int _
        · exact sc_bl _
        · exact sc_str _
        · exact sc_non
      have hi6 : i < 6 := (List.getElem?_eq_some_iff.mp hx).1
      refine q_asgLP (i := 10) (PL := PNew H' ((List.range rv.length).map fun i => (rowAt t i).map V.int)) (evlp_seqN (K := K) (a := R) (fun i => (rowAt t i).map V.int) (ev_var rfl) (eH _ _ hRB) (by omega) (fun _ => rfl) fun i y H7 e7 h => ⟨et_yes, ?_⟩) fun C cv H7 nC e7 hC pw7 => ?_
      · obtain ⟨r, h1, b, rfl, hb⟩ := paired_get prB h
        obtain ⟨h3, h4⟩ := List.getElem?_eq_some_iff.mp h1
        rw [rowAt_get h3, h4]
        exact el_listS (ev_var rfl) (.inl (e7 _ _ (eH _ _ hb)))
      · have pw8 : Paired (RN H' H7) cv (t.map fun r => r.map V.int) := by
          have := pw7.1
          rw [prB.length, map_range_row t fun r => r.map V.int] at this
          exact this
        have plr := rn_lr (q := q) (L := C) (pot_some hq') hC pw8
        have prn := paired_unmap pw8
        obtain ⟨vb, hvb, b, rfl, nb, hb⟩ := paired_get2 prn (i := d1) (List.getElem?_eq_getElem (by omega))
        obtain ⟨r2, hr2, hbr⟩ := paired_get plr hvb
        obtain ⟨b', eb, _, bC, _⟩ := hbr
        cases eb
        have g2 := gr.good _ (List.getElem_mem (show d1 < t.length by omega))
        generalize t[d1]'(by omega) = r3 at hb g2
        dsimp only [tSeq, tAsg]
        refine ⟨_, rfl, _, rfl, _, rfl, C, cv, (d1 : Int), .ref b, rfl, rfl, sq_of hC, atI_nat hvb, _, rfl, b, _, (d2 : Int), d2, rfl, rfl, hb, ixN_nat (by rw [List.length_map, g2.1]; omega), ?_⟩
        have bF : b ≠ Fa := fun z => by rw [z, hF'] at nb; cases nb
        have bq : b ≠ q := fun z => pot_some hq' (by rw [← z]; exact nb)
        have CF : C ≠ Fa := fun z => by rw [z, hF'] at nC; cases nC
        have Cq : C ≠ q := fun z => pot_some hq' (by rw [← z]; exact nC)
        have e8 : Ex H' (upd H7 b (.lst ((r3.map V.int).set d2 x))) := Ex.mut e7 nb
        have hC8 : (upd H7 b (.lst ((r3.map V.int).set d2 x))) C = some (.lst cv) := by rw [upd_ne (Ne.symm bC)]; exact hC
        have dC : Da [Fa, q] (upd H7 b (.lst ((r3.map V.int).set d2 x))) (.ref C) := by
          obtain ⟨ds, hds⟩ := da_all (A := [Fa, q]) (H := upd H7 b (.lst ((r3.map V.int).set d2 x))) (xs := cv) fun y hy => by
            obtain ⟨r, hr, c, rfl, nc, hc⟩ := paired_mem prn hy
            have cF : c ≠ Fa := fun z => by rw [z, hF'] at nc; cases nc
            have cq : c ≠ q := fun z => pot_some hq' (by rw [← z]; exact nc)
            by_cases cb : c = b
            · subst cb
              obtain ⟨es, hes⟩ := da_all (A := [Fa, q]) (H := upd H7 c (.lst ((r3.map V.int).set d2 x))) (xs := (r3.map V.int).set d2 x) (sc_da fun y hy => by
                rcases List.mem_or_eq_of_mem_set hy with hy | rfl
                · obtain ⟨z, _, rfl⟩ := List.mem_map.mp hy
                  exact sc_int z
                · exact sx)
              exact ⟨.list es, .lst (by rw [cl_in (by simp [cF, cq])]; exact upd_same) hes⟩
            · obtain ⟨es, hes⟩ := da_all (A := [Fa, q]) (H := upd H7 b (.lst ((r3.map V.int).set d2 x))) (xs := r.map V.int) (sc_da fun y hy => by
                obtain ⟨z, _, rfl⟩ := List.mem_map.mp hy
                exact sc_int z)
              exact ⟨.list es, .lst (by rw [cl_in (by simp [cF, cq]), upd_ne cb]; exact hc) hes⟩
          exact ⟨.list ds, .lst (by rw [cl_in (by simp [CF, Cq])]; exact hC8) hds⟩
        have hF8 := e8 _ _ hF'
        have da8 := da'.ex e8
        have eB8 := eH.trans e8
        have hq8 := pot_ex hq' e8
        have hpl8 := e8 _ _ hpl
        generalize upd H7 b (.lst ((r3.map V.int).set d2 x)) = H8 at hF8 da8 eB8 hq8 hpl8 dC
        refine s_app (l := Fa) (xs := fs) (v := .ref C) hF8 (ev_var rfl) (ev_var rfl) (by omega) fun H9 e9 => ?_
        refine ⟨fs ++ [.ref C], _, _, _, rfl, Ex.mut (eB8.trans e9) BF, upd_same, ?_, by rw [List.length_append]; show fs.length + 1 ≤ _; omega, ?_, ?_, npl⟩
        · have h1 : DA [Fa, q] H9 (fs ++ [.ref C]) := (da8.ex e9).append fun y hy => by
            rw [List.mem_singleton.mp hy]
            exact dC.ex e9
          exact h1.cl (by rw [cl_upd (by simp)]; exact Ex.refl _)
        · obtain ⟨x1, y1, h1, h2⟩ := pot_ex hq8 e9
          exact ⟨x1, y1, by rw [upd_ne (Ne.symm Fq)]; exact h1, h2⟩
        · rw [upd_ne npl]
          exact e9 _ _ hpl8
    · rintro pl σ' H' ⟨fs, u5, u9, u10, rfl, eH, hF', da', lf, hq', hpl, npl⟩
      have lf' : fs.length ≤ 10 := lf
      have tk' : Tk [Fa, q] H' := fun a ha => by
        simp only [List.mem_cons, List.not_mem_nil, or_false] at ha
        rcases ha with rfl | rfl
        · rw [hF']; simp
        · exact pot_some hq'
      have hRn : R ∉ [Fa, q] := by simp [RF]; intro z; exact Rq (by simp [z])
      have hR' := eH _ _ hRB
      have dR' := daB H' eH
      have sl1 : ∀ (tl th : TO) (lo hi : Option Int) H2, Ex H' H2 → (∀ H3, EvO tl _ H3 lo) → (∀ H3, EvO th _ H3 hi) → EvP (tSl (rSlL K) (tVar 3) tl th) [some (.ref q), some (.int p), some (.ref ga), some (.ref R), some (.int (m : Nat)), u5, some (.ref Fa), some (.int (d1 : Int)), some (.int (d2 : Int)), u9, u10] H2 (Pld [Fa, q] m) := fun tl th lo hi H2 e2 h1 h2 =>
        evp_slD (tk'.ex e2) (ev_var rfl) (e2 _ _ hR') (dR'.ex e2) (h1 H2) (h2 H2) (by omega)
      dsimp only [tAsg]
      refine ⟨_, rfl, ?_⟩
      refine (evp_lstD (A := [Fa, q]) (k := 4) tk' (ead_cons (k := 3) (evd_of (sl1 _ _ (some 1) none H' (Ex.refl H') (fun _ => eo_some ev_c) fun _ => eo_none)) fun H2 e2 =>
        ead_cons (k := 2) (evd_of (evp_catD (k1 := m + 1) (k2 := m) (tk'.ex e2) (evp_catD (k1 := m) (k2 := 1) (tk'.ex e2) (sl1 _ _ none (some (d1 : Int)) H2 e2 (fun _ => eo_none) fun _ => eo_some (ev_var rfl)) (fun H3 e3 => evp_one (tk'.ex (e2.trans e3)) (evd_sc ev_c sc_non)) (by omega)) (fun H3 e3 => sl1 _ _ (some ((d1 : Int) + 1)) none H3 (e2.trans e3) (fun _ => eo_some (ev_op (ev_var rfl) ev_c rv_I0)) fun _ => eo_none) (by omega))) fun H3 e3 =>
        ead_cons (k := 1) (evd_of (evp_revD (k := m) (tk'.ex (e2.trans e3)) (ev_var rfl) ((e2.trans e3) _ _ hR') (dR'.ex (e2.trans e3)) (by omega))) fun H4 e4 =>
        ead_cons (k := 0) (evd_of (evlp_pn (k := m) (rs := (List.range rv.length).map fun i => ((rowAt t i).map V.int).reverse) (tk'.ex ((e2.trans e3).trans e4)) (evlp_seqN (K := K) (a := R) (fun i => ((rowAt t i).map V.int).reverse) (ev_var rfl) (((e2.trans e3).trans e4) _ _ hR') (by omega) (fun _ => rfl) fun i x H5 e5 h => ⟨et_yes, ?_⟩) ?_ (by simp; omega))) fun H5 e5 => ead_nil) (by decide)) H' (Ex.refl H') _ fun v H2 e2 hv => ?_
      · obtain ⟨r, h1, b, rfl, hb⟩ := paired_get prB h
        obtain ⟨h3, h4⟩ := List.getElem?_eq_some_iff.mp h1
        rw [rowAt_get h3, h4]
        exact el_revL (ev_var rfl) (e5 _ _ (((e2.trans e3).trans e4) _ _ (eH _ _ hb)))
      · intro r hr x hx
        obtain ⟨i, _, rfl⟩ := List.mem_map.mp hr
        obtain ⟨y, _, rfl⟩ := List.mem_map.mp (List.mem_reverse.mp hx)
        exact sc_int y
      · obtain ⟨l2, ys, rfl, _, hl2, dl2, zl2⟩ := hv
        refine ⟨Fa, l2, fs, ys, rfl, rfl, e2 _ _ hF', hl2, sz_of (by omega), fun l hl => ?_⟩
        refine ⟨_, rfl, fin l _ _ none none none none none ((eH.trans e2).trans (Ex.new hl)) upd_same (by rw [List.length_append]; omega) (((da'.ex e2).append dl2).ex (Ex.new hl))⟩
end
end RK

set_option Elab.async false
set_option linter.all false
set_option maxRecDepth 100000
set_option maxHeartbeats 4000000
namespace RK
open PySem L2 Evl
def rReprD (K : PySem.W.Frag) : List V → Hp → VK → Prop := fun xs H Q => ∃ (a : Addr) (d : PyData), xs = [.ref a] ∧ Dp K H (.ref a) d ∧ d.showable = true ∧ d.hasDict = false ∧ d.depth ≤ 10 ∧ d.shown.length ≤ sizeLine ∧ Q (.str d.shown) H
theorem callReprD {X : Cx} {K : PySem.W.Frag} {k : Nat} (hg : X.A.guards = some []) (hr : Room k X.A) (h : X.K = K := by rfl) : CallR X (.builtin "repr") (rReprD K) := call_reprDK hg hr h
def rReprI (R : Addr) : List V → Hp → VK → Prop := fun xs H Q => ∃ (a dx : Addr) (fs : List (Str × V)), xs = [.ref a] ∧ H a = some (.ins R dx fs) ∧ spRoomRepr R [.ref a] H (fun v H' => (∃ z, v = .str z) ∧ Q v H') E0
def rAddS : R2 := fun x y H Q => ∃ i j, x = .str i ∧ y = .str j ∧ i.length + j.length ≤ sizeLine ∧ Q (.str (i ++ j)) H
theorem opAddS {X : Cx} : OpR X (binaryOp .Add) rAddS := op_add_str
def rStrI : List V → Hp → VK → Prop := fun xs H Q => ∃ i, xs = [.int i] ∧ i.natAbs.log2 < 1920 ∧ Q (.str (toString i)) H
theorem callStrI {X : Cx} : CallR X (.type "str") rStrI := call_str_int
section
variable {K : PySem.W.Frag} {σ : L2.St} {H : Hp} {te : TE} {ta : TA} {ds : List PyData} {d : PyData} {v : V} {k w : Nat}
theorem ev_reprL (h : EvAP ta σ H (fun vs H' => DtAll H' vs ds)) (ez : Ez k w (.list ds)) (hk : k ≤ 10) (hw : w ≤ 100000) (hz : ds.length ≤ 100) : Ev (tCB (rReprD K) (tCons (tLst ta) tNil)) σ H (.str (PyData.list ds).shown) := fun H1 e Q q =>
  h H1 e _ fun vs H2 e2 hd => ⟨sz_of (by rw [hd.length]; omega), fun p hp => ⟨p, .list ds, rfl, (Dt.lst upd_same (hd.ex (Ex.new hp))).dp, ez.sw, ez.nd, Nat.le_trans ez.dep hk, sz17 (Nat.le_trans (ez.len hk hw) (by decide)), q _ (e2.trans (Ex.new hp))⟩⟩
theorem ev_reprV {a : Addr} (h : Ev te σ H (.ref a)) (hd : Dt H (.ref a) d) (ez : Ez k w d) (hk : k ≤ 10) (hw : w ≤ 100000) : Ev (tCB (rReprD K) (tCons te tNil)) σ H (.str d.shown) := fun H1 e Q q =>
  h H1 e _ fun H2 e2 => ⟨a, d, rfl, (hd.ex (e.trans e2)).dp, ez.sw, ez.nd, Nat.le_trans ez.dep hk, sz17 (Nat.le_trans (ez.len hk hw) (by decide)), q _ e2⟩
theorem eapd_nil : EvAP tNil σ H (fun vs H2 => DtAll H2 vs []) := fun H1 _ _ q => q [] H1 (Ex.refl H1) .nil
theorem eapd_cons {tr : TA} (h : EvP te σ H (fun v H' => Dt H' v d)) (hr : ∀ H1, Ex H H1 → EvAP tr σ H1 (fun vs H2 => DtAll H2 vs ds)) : EvAP (tCons te tr) σ H (fun vs H2 => DtAll H2 vs (d :: ds)) := fun H1 e Q q =>
  h H1 e _ fun v H2 e2 hv => hr H2 (e.trans e2) H2 (Ex.refl H2) _ fun vs H3 e3 hvs => q _ H3 (e2.trans e3) (.cons (hv.ex e3) hvs)
end
/-- the class's own things, their promises held -/
structure RoomH (P : Program) (w : World) (K : PySem.W.Frag) (mg : Str → Option Value) (base : Heap) (R : Addr) : Prop where
  prime : ∃ (pp f : Addr) (fd : FuncData), PropOf K R "prime" pp f ∧ L2.Binds K fd ["self"] [] ∧ FnOk P w K mg base CX0 1 f fd ["self"] (spPrimeG R)
  size : ∃ (pp f : Addr) (fd : FuncData), PropOf K R "size" pp f ∧ L2.Binds K fd ["self"] [] ∧ FnOk P w K mg base CX0 1 f fd ["self"] (spSizeG R)
  rank : ∃ (pp f : Addr) (fd : FuncData), PropOf K R "rank" pp f ∧ L2.Binds K fd ["self"] [] ∧ FnOk P w K mg base CX0 4 f fd ["self"] (spRankG R)
  rows : ∃ (f : Addr) (fd : FuncData), Meth K R "rows" f ∧ L2.Binds K fd ["self"] [] ∧ FnOk P w K mg base CX0 1 f fd ["self"] (spRowsM R)
  still : ∃ (f : Addr) (fd : FuncData), Meth K R "still" f ∧ L2.Binds K fd ["self"] [] ∧ FnOk P w K mg base CX0 6 f fd ["self"] (spStillOf R)
  eq : ∃ (f : Addr) (fd : FuncData), PySem.W.findIn K (.ref R) "__eq__" = some (some (.ref f)) ∧ PySem.W.isFn K (.ref f) = true ∧ NeTxt K R f ∧ L2.Binds K fd ["self", "other"] [] ∧ FnOk P w K mg base CX0 1 f fd ["self", "other"] (spRoomEq R)
  repr : ∃ (f : Addr) (fd : FuncData), PySem.W.findIn K (.ref R) "__repr__" = some (some (.ref f)) ∧ PySem.W.isFn K (.ref f) = true ∧ L2.Binds K fd ["self"] [] ∧ FnG P w K mg base CX0 1 f fd ["self"] (spRoomRepr R)
def spTold (R : Addr) : Sp := fun vs H Q _ => ∃ (v g : V) (p : Int) (t : Tab), vs = [v, .int p, g] ∧ RoomI R H v p t ∧ TabT H g t ∧ Gr p t ∧ RetV (.bl true) H Q
theorem roomF_no {m : Str} (p : Int) (x : V) (h1 : (m == ("own_prime" : Str)) = false) (h2 : (m == ("own_rows" : Str)) = false) : (roomF p x).lookup m = none := by
  unfold roomF
  rw [List.lookup_cons, h1]
  show List.lookup m [(("own_rows" : Str), x)] = none
  rw [List.lookup_cons, h2]
  rfl
section
variable {P : Program} {w : World} {K : PySem.W.Frag} {mg : Str → Option Value} {base : Heap} {C R : Addr}
theorem callReprI {X : Cx} {f : Addr} {fd : FuncData} (F : FnG X.prog X.w X.K X.mg X.base CX0 1 f fd ["self"] (spRoomRepr R)) (hgd : X.A.guards = some []) (hr : Room 2 X.A) (hs : PySem.W.findIn X.K (.ref R) "__repr__" = some (some (.ref f))) (hf : PySem.W.isFn X.K (.ref f) = true) (hb : L2.Binds X.K fd ["self"] []) :
    CallR X (.builtin "repr") (rReprI R) := call_reprI F hgd hr hs hf hb pass0
theorem ev_prime {σ : L2.St} {H : Hp} {te : TE} {v : V} {p : Int} {t : Tab} (h : Ev te σ H v) (hi : RoomI R H v p t) : Ev (tProp R (spPrimeG R) [] E0 te) σ H (.int p) := fun H1 e Q q => h H1 e _ fun H2 e2 => by
  obtain ⟨a, dx, x, rfl, ha, hx⟩ := id (hi.ex (e.trans e2))
  exact ⟨a, dx, _, rfl, ha, .ref a, p, t, rfl, hi.ex (e.trans e2), fun H3 e3 => q H3 (e2.trans e3)⟩
theorem ev_size {σ : L2.St} {H : Hp} {te : TE} {v : V} {p : Int} {t : Tab} (h : Ev te σ H v) (hi : RoomI R H v p t) : Ev (tProp R (spSizeG R) [] E0 te) σ H (.int (t.length : Nat)) := fun H1 e Q q => h H1 e _ fun H2 e2 => by
  obtain ⟨a, dx, x, rfl, ha, hx⟩ := id (hi.ex (e.trans e2))
  exact ⟨a, dx, _, rfl, ha, .ref a, p, t, rfl, hi.ex (e.trans e2), fun H3 e3 => q H3 (e2.trans e3)⟩
theorem ev_rank {σ : L2.St} {H : Hp} {te : TE} {v : V} {p : Int} {t : Tab} (h : Ev te σ H v) (hi : RoomI R H v p t) (g : Gr p t) : Ev (tProp R (spRankG R) [] E0 te) σ H (.int ((stepsP p (undP p) t).length : Nat)) := fun H1 e Q q => h H1 e _ fun H2 e2 => by
  obtain ⟨a, dx, x, rfl, ha, hx⟩ := id (hi.ex (e.trans e2))
  exact ⟨a, dx, _, rfl, ha, .ref a, p, t, rfl, hi.ex (e.trans e2), g, fun H3 e3 => q H3 (e2.trans e3)⟩
theorem evp_rows {σ : L2.St} {H : Hp} {te : TE} {v : V} {p : Int} {t : Tab} (h : Ev te σ H v) (hi : RoomI R H v p t) : EvP (tMeth R "rows" (spRowsM R) [] E0 te tNil) σ H (fun u H' => TabT H' u t) := fun H1 e Q q => h H1 e _ fun H2 e2 => by
  obtain ⟨a, dx, x, rfl, ha, hx⟩ := id (hi.ex (e.trans e2))
  exact ⟨a, dx, _, rfl, ha, roomF_no p x (by decide) (by decide), .ref a, p, t, rfl, hi.ex (e.trans e2), fun u H3 e3 hu => q u H3 (e2.trans e3) hu⟩
theorem evlp_still {σ : L2.St} {H : Hp} {te : TE} {v : V} {p : Int} {t : Tab} (h : Ev te σ H v) (hi : RoomI R H v p t) (g : Gr p t) : EvLP (tMeth R "still" (spStillOf R) [] E0 te tNil) σ H (fun vs H' => Paired (RowT H') vs (stillP p (undP p) t.length t)) := fun H1 e Q q => h H1 e _ fun H2 e2 => by
  obtain ⟨a, dx, x, rfl, ha, hx⟩ := id (hi.ex (e.trans e2))
  exact ⟨a, dx, _, rfl, ha, roomF_no p x (by decide) (by decide), .ref a, p, t, rfl, hi.ex (e.trans e2), g, fun l vs H3 nl e3 hl pl => q l vs H3 (fresh_back e2 nl) (e2.trans e3) hl pl⟩
theorem still_facts {p : Int} {t : Tab} (g : Gr p t) : stillP p (undP p) t.length t = lawStill p (undP p) t ∧ (stepsP p (undP p) t).length + (lawStill p (undP p) t).length = t.length ∧ Good p t.length (lawStill p (undP p) t) := by
  have pp := prime_pos g.pr
  have h1 : lawStill p (undP p) t = stillL p (undP p) t.length t := lawStill_eq rfl g.good
  have h2 := still_eq (n := t.length) (by omega : 1 < p) (invOk_und g.pr) g.good
  have h3 := rank_still (n := t.length) (by omega : 1 < p) (invOk_und g.pr) g.good
  refine ⟨by rw [h1, h2], by rw [h1, ← h2]; exact h3, ?_⟩
  unfold lawStill
  exact (runL_good (by omega) (zerosOf_good (by omega) _) _).2
theorem sNe {a : Str} : (!decide (V.str a = V.str a)) = false := by simp
theorem ok_told (B : Bt mg) (RC : RoomC K mg R) (RH : RoomH P w K mg base R) (D : DefIn K mg "_law_told_right" sLToldRight ["_law_room", "_law_prime", "_law_grid_here"]) (h1 : Held P w K mg base CX0 4 "_law_still" ["_law_prime", "_law_grid_here"] spLStill) :
    ∃ (f : Addr) (fd : FuncData), mg "_law_told_right" = some (.ref f) ∧ PySem.W.keepIn K (.ref f) = true ∧ L2.Binds K fd ["_law_room", "_law_prime", "_law_grid_here"] [] ∧ FnG P w K mg base CX0 7 f fd ["_law_room", "_law_prime", "_law_grid_here"] (spTold R) := by
  obtain ⟨f1, fd1, g1, k1, b1, G1⟩ := h1
  obtain ⟨pp1, fp1, fdp1, po1, bp1, GP1⟩ := RH.prime
  obtain ⟨pp2, fp2, fdp2, po2, bp2, GP2⟩ := RH.size
  obtain ⟨pp3, fp3, fdp3, po3, bp3, GP3⟩ := RH.rank
  obtain ⟨fm1, fdm1, mm1, bm1, GM1⟩ := RH.rows
  obtain ⟨fm2, fdm2, mm2, bm2, GM2⟩ := RH.still
  obtain ⟨fr, fdr, rs, rf, br, GR⟩ := RH.repr
  obtain ⟨f, fd, F, gf, bf⟩ := D
  refine ⟨f, fd, gf, F.kp, bf, FunG.ok F scLToldRight (fun vs H Q E h => ?_) (fun cdv A outer s H vs Q E hg hr h => ?_)⟩
  · obtain ⟨v, g, p, t, rfl, _⟩ := h
    rfl
  · obtain ⟨v, g, p, t, rfl, hi, hgr, gr, k⟩ := h
    refine ⟨_, pss_cons (ps_par (i := 3) (j := 4) rfl scLToldRight.nd rfl rfl (by decide) rfl rfl (pa_cons (pe_call G1 (hr.mono (by decide)) (by rfl) g1 k1 b1 .nil pass0 (pa_cons (pv 1) (pa_cons (pv 2) pa_nil))) (pa_cons (pe_callB (callLenK (K := K)) (by rfl) B.len PySem.boot_len (pa_cons (pv 2) pa_nil)) pa_nil)) (by rfl))
      (pss_cons (ps_if (pt_cmpR op_ne (pe_callB (callReprD (K := K) (by exact hg) hr) (by rfl) B.repr (by decide +kernel) (pa_cons (pe_lst (pa_cons (pe_prop (pv 0) RC.ins.cl po1 GP1 (hr.mono (by decide)) bp1 .nil pass0 rfl) (pa_cons (pe_prop (pv 0) RC.ins.cl po2 GP2 (hr.mono (by decide)) bp2 .nil pass0 rfl) (pa_cons (pe_prop (pv 0) RC.ins.cl po3 GP3 (hr.mono (by decide)) bp3 .nil pass0 rfl) pa_nil)))) pa_nil))
          (pe_callB (callReprD (K := K) (by exact hg) hr) (by rfl) B.repr (by decide +kernel) (pa_cons (pe_lst (pa_cons (pv 1) (pa_cons (pv 4) (pa_cons (pe_op op_sub (pv 4) (pe_callB (callLenK (K := K)) (by rfl) B.len PySem.boot_len (pa_cons (pv 3) pa_nil))) pa_nil)))) pa_nil)) (by rfl)) (pss_one (ps_ret pe_bl)) pss_nil)
      (pss_cons (ps_if (pt_cmpR op_ne (pe_callB (callReprD (K := K) (by exact hg) hr) (by rfl) B.repr (by decide +kernel) (pa_cons (pe_lst (pa_cons (pe_meth0 (pv 0) RC.ins.cl mm1 GM1 (hr.mono (by decide)) bm1 .nil pass0) (pa_cons (pe_meth0 (pv 0) RC.ins.cl mm2 GM2 (hr.mono (by decide)) bm2 .nil pass0) pa_nil))) pa_nil))
          (pe_callB (callReprD (K := K) (by exact hg) hr) (by rfl) B.repr (by decide +kernel) (pa_cons (pe_lst (pa_cons (pv 2) (pa_cons (pv 3) pa_nil))) pa_nil)) (by rfl)) (pss_one (ps_ret pe_bl)) pss_nil)
      (pss_one (ps_ret (pe_cmpR op_eq (pe_callB (callReprI GR (by exact hg) (hr.mono (by decide)) rs rf br) (by rfl) B.repr (by decide +kernel) (pa_cons (pv 0) pa_nil))
        (pe_op opAddS (pe_op opAddS (pe_op opAddS (pe_op opAddS pe_str (pe_callTy callStrI (by rfl) B.str (by decide +kernel) (pa_cons (pv 1) pa_nil))) pe_str) (pe_callB (callReprD (K := K) (by exact hg) hr) (by rfl) B.repr (by decide +kernel) (pa_cons (pv 2) pa_nil))) pe_str) (by rfl)))))), ?_⟩
    obtain ⟨ga, gs, rfl, hga, hgs⟩ := id hgr
    have hgl := hgs.length
    have sz := gr.sz
    have pp := prime_pos gr.pr
    obtain ⟨se, sl, sg⟩ := still_facts gr
    dsimp only [tSeq, tPar]
    refine ⟨_, rfl, _, rfl, p, .ref ga, t, rfl, hgr, gr, fun st ss H1 nst e1 hst pst => ⟨_, rfl, ga, gs, rfl, .inr (st_of (e1 _ _ hga)), _, _, rfl, ?_⟩⟩
    have ssl := pst.length
    generalize hS : lawStill p (undP p) t = S at *
    have hi1 := hi.ex e1
    have hg1 := hgr.ex e1
    have tS : TabL H1 (.ref st) S := ⟨st, ss, rfl, hst, pst⟩
    have er : ((stepsP p (undP p) t).length : Int) = (t.length : Int) - (S.length : Int) := by omega
    have ez3 : Ez 1 33 (.list [.int p, .int (t.length : Nat), .int ((stepsP p (undP p) t).length : Nat)]) := Ez.lst (k := 0) (w := 33) (.cons (b := 22) (Ez.int (by omega) (by omega)) (.cons (b := 11) (Ez.int (by omega) (by omega)) (.cons (b := 0) (Ez.int (by omega) (by omega)) .nil (by decide)) (by decide)) (by decide))
    refine q_when (b := !decide (V.str (PyData.list [.int p, .int (t.length : Nat), .int ((stepsP p (undP p) t).length : Nat)]).shown = V.str (PyData.list [.int p, .int (t.length : Nat), .int ((stepsP p (undP p) t).length : Nat)]).shown)) (et_test (ev_op
        (ev_reprL (K := K) (k := 1) (w := 33) (ds := [.int p, .int (t.length : Nat), .int ((stepsP p (undP p) t).length : Nat)]) (eapd_cons (ev_p (ev_prime (R := R) (ev_var rfl) hi1) fun _ _ => .int p) fun H2 e2 => eapd_cons (ev_p (ev_size (R := R) (ev_var rfl) (hi1.ex e2)) fun _ _ => .int _) fun H3 e3 => eapd_cons (ev_p (ev_rank (R := R) (ev_var rfl) (hi1.ex (e2.trans e3)) gr) fun _ _ => .int _) fun H4 e4 => eapd_nil) ez3 (by decide) (by decide) (by show 3 ≤ 100; decide))
        (ev_reprL (K := K) (k := 1) (w := 33) (ds := [.int p, .int (t.length : Nat), .int ((stepsP p (undP p) t).length : Nat)]) (eapd_cons (ev_p (ev_var rfl) fun _ _ => .int p) fun H2 e2 => eapd_cons (ev_p (v := .int (t.length : Nat)) (ev_is (ev_var rfl) (by rw [hgl])) fun _ _ => .int _) fun H3 e3 => eapd_cons (ev_p (v := .int ((stepsP p (undP p) t).length : Nat)) (ev_is (ev_op (ev_var rfl) (ev_lenS (K := K) (ev_var rfl) (.inl ((e2.trans e3) _ _ hst))) rv_I0) (by rw [hgl, ssl, er])) fun _ _ => .int _) fun H4 e4 => eapd_nil) ez3 (by decide) (by decide) (by show 3 ≤ 100; decide)) (rv_ne rfl)))
      (fun c => by rw [sNe] at c; cases c) (fun _ H2 e2 => ?_)
    have ezS : Ez 2 402 (tabLD S) := (Ez.lst (ez_rows (good_rows gr.pr sz sg))).up (Nat.le_refl _) (by omega)
    have ezT := gr.ez
    have ez2 : Ez 3 806 (.list [tabD t, tabLD S]) := Ez.lst (.cons (b := 403) ezT (.cons (b := 0) ezS .nil (by decide)) (by decide))
    refine q_when (b := !decide (V.str (PyData.list [tabD t, tabLD S]).shown = V.str (PyData.list [tabD t, tabLD S]).shown)) (et_test (ev_op
        (ev_reprL (K := K) (ds := [tabD t, tabLD S]) (eapd_cons ((evp_rows (R := R) (ev_var rfl) (hi1.ex e2)).imp fun u H3 _ hu => hu.dt) fun H3 e3 => eapd_cons ((EvLP.p (evlp_still (R := R) (ev_var rfl) (hi1.ex (e2.trans e3)) gr)).imp fun u H4 _ ⟨l, vs, hu, hl, pl⟩ => by
            rw [se] at pl
            exact TabL.dt ⟨l, vs, hu, hl, pl⟩) fun H4 e4 => eapd_nil) ez2 (by decide) (by decide) (by show 2 ≤ 100; decide))
        (ev_reprL (K := K) (ds := [tabD t, tabLD S]) (eapd_cons (ev_p (ev_var rfl) fun H3 e3 => (hg1.ex (e2.trans e3)).dt) fun H3 e3 => eapd_cons (ev_p (ev_var rfl) fun H4 e4 => (tS.ex ((e2.trans e3).trans e4)).dt) fun H4 e4 => eapd_nil) ez2 (by decide) (by decide) (by show 2 ≤ 100; decide)) (rv_ne rfl)))
      (fun c => by rw [sNe] at c; cases c) (fun _ H3 e3 => ?_)
    have hi3 := hi1.ex (e2.trans e3)
    have hg3 := hg1.ex (e2.trans e3)
    have l2 := prime_text gr.pr
    have l3 : ("Room(" : Str).length = 5 := by decide +kernel
    have l4 : (", " : Str).length = 2 := by decide +kernel
    have l5 : (")" : Str).length = 1 := by decide +kernel
    have lz := ezT.len (by decide) (by decide)
    have radd : ∀ (a b : Str) H4, a.length + b.length ≤ 15800000 → RV rAddS (.str a) (.str b) H4 (.str (a ++ b)) := fun a b H4 hz H5 _ Q q => ⟨a, b, rfl, rfl, sz17 hz, q H5 (Ex.refl H5)⟩
    refine s_ret (v := .bl (decide (V.str (roomText1 p t) = V.str (roomText1 p t)))) (ev_op (fun H4 e4 Q4 q4 => ?_) (ev_op (ev_op (ev_op (ev_op ev_c (ev_cb (z := .str (primeText p)) (ea_cons (ev_var rfl) ea_nil) fun H4 e4 Q q => ⟨p, rfl, prime_bits gr.pr, q H4 (Ex.refl H4)⟩) (radd _ _ _ ?_)) ev_c (radd _ _ _ ?_)) (ev_reprV (K := K) (d := tabD t) (ev_var rfl) hg3.dt ezT (by decide) (by decide)) (radd _ _ _ ?_)) ev_c (radd _ _ _ ?_)) (rv_eq rfl)) fun H4 e4 => ?_
    · obtain ⟨ra, rdx, rx, rfl, hra, hrx⟩ := id (hi3.ex e4)
      exact ⟨_, rfl, ra, rdx, _, rfl, hra, .ref ra, p, t, rfl, hi3.ex e4, gr, fun H5 e5 => ⟨⟨_, rfl⟩, q4 H5 e5⟩⟩
    · rw [l3]; omega
    · rw [Str.length_append, l3, l4]; omega
    · rw [Str.length_append, Str.length_append, l3, l4]; omega
    · rw [Str.length_append, Str.length_append, Str.length_append, l3, l4, l5]; omega
    · rw [decide_eq_true rfl]
      exact k H4 (((e1.trans e2).trans e3).trans e4)
end
end RK

set_option Elab.async false
set_option linter.all false
set_option maxRecDepth 100000
set_option maxHeartbeats 4000000
namespace RK
open PySem L2 Evl
/-- what == asks: a room on the left -/
def rEqI (K : PySem.W.Frag) (R : Addr) : R2 := fun x y H Q => ∃ (a dx : Addr) (fs : List (Str × V)) (tb : Value), x = .ref a ∧ H a = some (.ins R dx fs) ∧ TyX K H y tb ∧ PySem.W.notFirst K R tb = true ∧ spRoomEq R [x, y] H (fun v H' => (∃ b, v = .bl b) ∧ Q v H') E0
def rNeI (R : Addr) : R2 := fun x y H Q => ∃ (a b dx dy : Addr) (fs gs : List (Str × V)), x = .ref a ∧ y = .ref b ∧ H a = some (.ins R dx fs) ∧ H b = some (.ins R dy gs) ∧ spRoomEq R [x, y] H (fun v H' => ∃ c, v = .bl c ∧ Q (.bl (!c)) H') E0
theorem opEqI {X : Cx} {K : PySem.W.Frag} {R f : Addr} {fd : FuncData} (F : FnOk X.prog X.w X.K X.mg X.base CX0 1 f fd ["self", "other"] (spRoomEq R)) (hr : Room 1 X.A) (hs : PySem.W.findIn X.K (.ref R) "__eq__" = some (some (.ref f))) (hf : PySem.W.isFn X.K (.ref f) = true) (hb : L2.Binds X.K fd ["self", "other"] []) (h : X.K = K := by rfl) :
    OpR X (compareOp .Eq) (rEqI K R) := h ▸ op_eqI F hr hs hf hb pass0
theorem opNeI {X : Cx} {R f : Addr} {fd : FuncData} (T : NeTxt X.K R f) (F : FnOk X.prog X.w X.K X.mg X.base CX0 1 f fd ["self", "other"] (spRoomEq R)) (hr : Room 2 X.A) (hb : L2.Binds X.K fd ["self", "other"] []) : OpR X (compareOp .NotEq) (rNeI R) := op_neI T F hr hb pass0
/-- Room's __init__, the ways it is called -/
structure RoomK (P : Program) (w : World) (K : PySem.W.Frag) (mg : Str → Option Value) (base : Heap) (C R : Addr) : Prop where
  made : ∃ (fI : Addr) (fd : FuncData), Mk K R fI ∧ L2.Binds K fd ["self", "prime", "rows"] [] ∧ KBn K fd ["self", "prime", "rows"] 1 ["rows", "prime"] (fun us ws => [us.getD 0 .none, ws.getD 1 .none, ws.getD 0 .none]) (fun vs zs => [vs.getD 0 .non, zs.getD 1 .non, zs.getD 0 .non]) ∧ FnOk P w K mg base (L2.CX P w) 6 fI fd ["self", "prime", "rows"] (spRoomInit C R)
  nf : ∀ tb ∈ ([.ref R, .type "tuple", .type "list", .type "NoneType", .type "str", .type "int", .type "bool"] : List Value), PySem.W.notFirst K R tb = true
  gC : mg "InvalidRows" = some (.ref C)
  te : PySem.W.exmOne K (.ref C) (.ref C) = some true
def spRightL : Sp := fun vs H Q _ => ∃ (q : Addr), vs = [.ref q] ∧ Pot H q ∧ ∀ H', Q (.bl true) H'
/-- the handed rows are right -/
theorem rowIn_is {p : Int} {n : Nat} {d : PyData} {r : Row} (h : IsRow d r) (hr : GoodR p n r) : rowIn p n d = some r := by
  have e1 : (r.map PyData.int).map intD = r := by rw [List.map_map]; exact List.map_id r
  have e2 : (r.map PyData.int).all (restD p) = true := by
    rw [List.all_eq_true]
    intro x hx
    obtain ⟨y, hy, rfl⟩ := List.mem_map.mp hx
    exact decide_eq_true (hr.2 y hy)
  rcases h with rfl | rfl
  · have := row_some (p := p) (n := n) (e := dRow r) rfl (by show (r.map PyData.int).length = n; rw [List.length_map]; exact hr.1) e2
    rw [this]
    exact congrArg some e1
  · have := row_some (p := p) (n := n) (e := dRowL r) rfl (by show (r.map PyData.int).length = n; rw [List.length_map]; exact hr.1) e2
    rw [this]
    exact congrArg some e1
theorem rows_is {p : Int} {n : Nat} : ∀ {ds : List PyData} {t : Tab}, Paired IsRow ds t → Good p n t → ds.map (rowIn p n) = t.map some
  | _, _, .nil, _ => rfl
  | _, _, .cons h t, g => by rw [List.map_cons, List.map_cons, rowIn_is h (g _ List.mem_cons_self), rows_is t fun r hr => g r (List.mem_cons_of_mem _ hr)]
theorem giv_right {p : Int} {d : PyData} {t : Tab} (h : GivD d t) (hs : t.length ≤ 6) (g : Good p t.length t) (tu : turned t = t) : rightIn p d = some t := by
  obtain ⟨ds, e, pr⟩ := h
  have l := pr.length
  have hl : isListD d = true := by rcases e with rfl | rfl <;> rfl
  have hd : seqD d = ds := by rcases e with rfl | rfl <;> rfl
  have ht : tableIn p d = some t := by
    unfold tableIn
    rw [hd, hl, if_pos (by rw [Bool.true_and]; exact decide_eq_true (by omega)), l, rows_is pr g, if_neg, List.map_map]
    · exact congrArg some (List.map_id t)
    · rw [List.any_map]
      simp
  unfold rightIn
  rw [ht]
  dsimp only
  rw [if_pos tu]
theorem giv_tab (t : Tab) : GivD (tabD t) t := ⟨t.map dRow, .inr rfl, by
  induction t with
  | nil => exact .nil
  | cons r t ih => exact .cons (.inl rfl) ih⟩
theorem giv_rows {ds : List PyData} {t : Tab} (h : Paired IsRow ds t) : GivD (.list ds) t := ⟨ds, .inl rfl, h⟩
theorem RoomI.del {R q : Addr} {H : Hp} {v : V} {p : Int} {t : Tab} (po : Pot H q) (h : RoomI R H v p t) : RoomI R (L2.del H q) v p t := by
  obtain ⟨a, dx, x, h1, h2, h3⟩ := h
  refine ⟨a, dx, x, h1, del_some h2 fun z => ?_, h3.del po⟩
  obtain ⟨y1, y2, h4, _⟩ := po
  rw [z, h4] at h2
  cases h2
theorem TabT.upl {H : Hp} {b : Addr} {xs ys : List V} {v : V} {t : Tab} (hb : H b = some (.lst xs)) (h : TabT H v t) : TabT (upd H b (.lst ys)) v t := by
  obtain ⟨a, vs, e, h1, h2⟩ := h
  refine ⟨a, vs, e, ?_, Paired.mono (fun _ _ z => lf_row.lst _ _ _ _ _ _ hb z) h2⟩
  rw [upd_ne (fun z => by rw [z, hb] at h1; cases h1)]
  exact h1
theorem RoomI.upl {R : Addr} {H : Hp} {b : Addr} {xs ys : List V} {v : V} {p : Int} {t : Tab} (hb : H b = some (.lst xs)) (h : RoomI R H v p t) : RoomI R (upd H b (.lst ys)) v p t := by
  obtain ⟨a, dx, x, h1, h2, h3⟩ := h
  refine ⟨a, dx, x, h1, ?_, h3.upl hb⟩
  rw [upd_ne (fun z => by rw [z, hb] at h2; cases h2)]
  exact h2
theorem pot_upl {H : Hp} {q b : Addr} {o : HO} (h : Pot H q) (n : b ≠ q) : Pot (upd H b o) q := by
  obtain ⟨x, y, h1, h2⟩ := h
  exact ⟨x, y, by rw [upd_ne (Ne.symm n)]; exact h1, h2⟩
theorem TabT.up_ins {H : Hp} {b R dx : Addr} {fs fs' : List (Str × V)} {v : V} {t : Tab} (hb : H b = some (.ins R dx fs)) (h : TabT H v t) : TabT (upd H b (.ins R dx fs')) v t := by
  obtain ⟨a, vs, e, h1, h2⟩ := h
  refine ⟨a, vs, e, by rw [upd_ne (fun z => by rw [z, hb] at h1; cases h1)]; exact h1, Paired.mono (fun v r ⟨c, e2, h3⟩ => ⟨c, e2, ?_⟩) h2⟩
  rw [upd_ne (fun z => by rw [z, hb] at h3; cases h3)]
  exact h3
/-- Room(p, v): v right -/
theorem made_ok {H H1 : Hp} {C R : Addr} {p : Int} {v : V} {d : PyData} {t : Tab} {Q : VK} (e : Ex H H1) (hp : Prime5 p) (hd : Dt H1 v d) (hr : rightIn p d = some t) (k : ∀ u H2, Ex H1 H2 → RoomI R H2 u p t → Q u H2) :
    ∀ x dx, H1 x = none → H1 dx = none → dx ≠ x → spRoomInit C R [.ref x, .int p, v] (upd (upd H1 dx (.own x)) x (.ins R dx [])) (fun v H2 => v = .non ∧ Q (.ref x) H2) E0 := fun x dx nx ndx ne => by
  have e1 : Ex H1 (upd (upd H1 dx (.own x)) x (.ins R dx [])) := Ex.mut (Ex.new ndx) nx
  refine ⟨x, dx, p, v, d, rfl, upd_same, hp, hd.ex e1, fun t2 ht2 y H5 e5 hy => ⟨rfl, k _ _ (Ex.mut (e1.trans e5) nx) ⟨x, dx, y, rfl, upd_same, ?_⟩⟩, fun hn => ?_⟩
  · rw [hr] at ht2
    cases ht2
    exact hy.up_ins (e5 _ _ upd_same)
  · rw [hr] at hn
    cases hn
theorem evp_make {σ : L2.St} {H : Hp} {tr : TA} {C R : Addr} {p : Int} {t : Tab} (hp : Prime5 p) (ha : EvAP tr σ H (fun vs H' => ∃ v d, vs = [.int p, v] ∧ Dt H' v d ∧ rightIn p d = some t)) : EvP (tMake R (spRoomInit C R) [] E0 tr) σ H (fun u H' => RoomI R H' u p t) := fun H1 e Q q =>
  ha H1 e _ fun vs H2 e2 ⟨v, d, ev, hd, hr⟩ => by
    subst ev
    exact made_ok (Ex.refl H2) hp hd hr fun u H3 e3 hu => q u H3 (e2.trans e3) hu
theorem ev_roomMade {σ : L2.St} {H : Hp} {q C R : Addr} {p : Int} {hd : V} {d : PyData} {t : Tab} {Kont : V → Hp → Prop} (h0 : σ[0]? = some (some (.ref q))) (h1 : σ[1]? = some (some (.int p))) (h4 : σ[4]? = some (some hd)) (hq : Pot H q) (hp : Prime5 p) (hdd : Dt (del H q) hd d) (hr : rightIn p d = some t)
    (hk : ∀ rm H4, Ex (del H q) H4 → Pot H4 q → RoomI R H4 rm p t → Kont rm H4) :
    tIf (tTest (tOp rEq (tCall spDraw [] E0 (tCons (tVar 0) (tCons (tC (.int 2)) tNil))) (tC (.int 0)))) (tMake R (spRoomInit C R) [] E0 (tCons (tVar 1) (tCons (tVar 4) tNil))) (tMakeK R 0 (["rows", "prime"] : List Str).length (spRoomInit C R) (fun vs zs => [vs.getD 0 .non, zs.getD 1 .non, zs.getD 0 .non]) E0 tNil (tCons (tVar 4) (tCons (tVar 1) tNil))) σ H Kont := by
  refine ⟨_, h0, q, 2, rfl, hq, by omega, by omega, fun dd H3 hd3 e3 hq3 => ⟨rfl, _, rfl, ?_⟩⟩
  have hd3' := hdd.ex e3
  have kk : ∀ u H4, Ex H3 H4 → RoomI R H4 u p t → Kont u H4 := fun u H4 e4 hu => hk u H4 (e3.trans e4) (pot_ex hq3 e4) hu
  by_cases c : V.int (dd : Int) = V.int 0
  · rw [decide_eq_true c]
    exact ⟨_, h1, _, h4, made_ok (Ex.refl H3) hp hd3' hr kk⟩
  · rw [decide_eq_false c]
    exact ⟨_, h4, _, h1, rfl, rfl, made_ok (Ex.refl H3) hp hd3' hr kk⟩
theorem evt_told {σ : L2.St} {H : Hp} {R : Addr} {i : Nat} {rm g : V} {p : Int} {t : Tab} (hi : σ[i]? = some (some rm)) (h1 : σ[1]? = some (some (.int p))) (h3 : σ[3]? = some (some g)) (hr : RoomI R H rm p t) (hg : TabT H g t) (gr : Gr p t) :
    EvT (tB (tCallG (spTold R) E0 (tCons (tVar i) (tCons (tVar 1) (tCons (tVar 3) tNil))))) σ H true := fun H1 e Q q => ⟨_, hi, _, h1, _, h3, rm, g, p, t, rfl, hr.ex e, hg.ex e, gr, fun H2 e2 => ⟨true, rfl, q H2 e2⟩⟩
theorem cells_dt {H : Hp} : ∀ {bs : List Addr} {t : Tab}, Paired (CellR H) bs t → DtAll H (bs.map V.ref) (t.map dRowL)
  | _, _, .nil => .nil
  | _, _, .cons h t => .cons (.lst h (dtAll_ints _)) (cells_dt t)
theorem isRowL : ∀ (t : Tab), Paired IsRow (t.map dRowL) t
  | [] => .nil
  | r :: t => .cons (.inr rfl) (isRowL t)
theorem right_seq {H : Hp} {v : V} {d : PyData} {p : Int} {t : Tab} (hd : Dt H v d) (hr : rightIn p d = some t) : ∃ a xs, v = .ref a ∧ SeqAt2 H a xs ∧ Paired (SRow H) xs t ∧ xs.length ≤ 6 := by
  have ht : tableIn p d = some t := by
    unfold rightIn at hr
    split at hr
    · rename_i t2 h2
      split at hr
      · cases hr
        exact h2
      · cases hr
    · cases hr
  unfold tableIn at ht
  split at ht
  · rename_i c
    simp only [Bool.and_eq_true, decide_eq_true_eq] at c
    split at ht
    · cases ht
    · rename_i c2
      rcases hd.seq with hl | ⟨_, a, xs, rfl, hs, hx⟩
      · rw [hl] at c
        exact absurd c.1 (by decide)
      · obtain ⟨p1, _⟩ := srows (p := p) (n := (seqD d).length) hx fun i e he => by
          cases hz : rowIn p (seqD d).length e with
          | some r => rfl
          | none =>
            refine absurd ?_ c2
            rw [List.any_eq_true]
            exact ⟨none, List.mem_map.mpr ⟨e, List.mem_of_getElem? he, hz⟩, rfl⟩
        refine ⟨a, xs, rfl, hs, ?_, by rw [hx.length]; exact c.2⟩
        rw [List.map_map] at ht
        cases ht
        exact p1
  · cases ht
/-- one cell of the diagonal set anew -/
theorem diag_set {p x : Int} {n : Nat} {t : Tab} (hn : 0 < n) (hl : t.length = n) (g : Good p n t) (tu : turned t = t) (hx : 0 ≤ x ∧ x < p) :
    (t.set 0 ((rowAt t 0).set 0 x)).length = n ∧ Good p n (t.set 0 ((rowAt t 0).set 0 x)) ∧ turned (t.set 0 ((rowAt t 0).set 0 x)) = t.set 0 ((rowAt t 0).set 0 x) ∧ at0 (rowAt (t.set 0 ((rowAt t 0).set 0 x)) 0) 0 = x := by
  have g0 := g _ (rowAt_mem (t := t) (i := 0) (by omega))
  have hl2 : (t.set 0 ((rowAt t 0).set 0 x)).length = n := by rw [List.length_set]; exact hl
  have gd : Good p n (t.set 0 ((rowAt t 0).set 0 x)) := fun r hr => by
    rcases List.mem_or_eq_of_mem_set hr with hr | rfl
    · exact g r hr
    · refine ⟨by rw [List.length_set]; exact g0.1, fun y hy => ?_⟩
      rcases List.mem_or_eq_of_mem_set hy with hy | rfl
      · exact g0.2 y hy
      · exact hx
  have e1 : ∀ k l, l < n → at0 (rowAt (t.set 0 ((rowAt t 0).set 0 x)) k) l = if 0 = k ∧ 0 = l then x else at0 (rowAt t k) l := fun k l hl3 => by
    rw [rowAt_set (by omega)]
    by_cases c : 0 = k
    · subst c
      rw [if_pos rfl, at0_set (by rw [g0.1]; exact hn)]
      by_cases c2 : 0 = l <;> simp [c2]
    · simp [c]
  refine ⟨hl2, gd, (turned_sym hl2 fun r hr => (gd r hr).1).mpr fun i j hi hj => ?_, by rw [e1 0 0 hn, if_pos ⟨rfl, rfl⟩]⟩
  have s := (turned_sym hl fun r hr => (g r hr).1).mp tu
  rw [e1 i j hj, e1 j i hi]
  by_cases c : 0 = i ∧ 0 = j
  · rw [if_pos c, if_pos ⟨c.2, c.1⟩]
  · rw [if_neg c, if_neg fun z => c ⟨z.2, z.1⟩]
    exact s i j hi hj
theorem units_right {n : Nat} (hn : n ≤ 6) : rightIn 11 (tabD (units n)) = some (units n) := by
  have hl : (units n).length = n := by simp [units]
  have g : Good 11 n (units n) := fun r hr => by
    unfold units at hr
    obtain ⟨i, _, rfl⟩ := List.mem_map.mp hr
    refine ⟨by simp [unitRow], fun x hx => ?_⟩
    unfold unitRow at hx
    obtain ⟨j, _, rfl⟩ := List.mem_map.mp hx
    split <;> omega
  refine giv_right (giv_tab _) (by omega) (by rw [hl]; exact g) ((turned_sym hl fun r hr => (g r hr).1).mpr fun i j hi hj => ?_)
  have e : ∀ i, i < n → rowAt (units n) i = unitRow n i := fun i hi => by
    rw [rowAt_get (by rw [hl]; exact hi)]
    simp [units]
  rw [e i hi, e j hj, unit_at hj, unit_at hi]
  by_cases c : i = j
  · rw [if_pos c, if_pos c.symm]
  · rw [if_neg c, if_neg fun z => c z.symm]
theorem q_for_bent {K : PySem.W.Frag} {σ : L2.St} {H : Hp} {q : Addr} {p : Int} {g : V} {t : Tab} {gg : TG} {tb tz : TS} {D : Ends} (h0 : σ[0]? = some (some (.ref q))) (h1 : σ[1]? = some (some (.int p))) (h3 : σ[3]? = some (some g)) (hq : Pot H q) (hg : TabT H g t) (gr : Gr p t)
    (hk : ∀ (l : Addr) (ws : List V) H', Ex (del H q) H' → H' l = some (.lst ws) → ws.length ≤ 40 → (∀ v ∈ ws, ∃ d, Dt H' v d) → tSeq (tFor (iList K (tC (.ref l))) gg tb) tz D σ H') :
    tSeq (tFor (iList K (tCall spBent [] E0 (tCons (tVar 0) (tCons (tVar 1) (tCons (tVar 3) tNil))))) gg tb) tz D σ H := ⟨_, h0, _, h1, _, h3, q, p, g, t, rfl, hq, hg, gr, fun l ws H' e hl lz hd => hk l ws H' e hl lz hd⟩
/-- what stands while the rooms are told -/
structure Fx (R q : Addr) (g : V) (p : Int) (t : Tab) (rm lt : V) (H : Hp) : Prop where
  pot : Pot H q
  grid : TabT H g t
  room : RoomI R H rm p t
  later : RoomI R H lt p t
theorem Fx.ex {R q : Addr} {g : V} {p : Int} {t : Tab} {rm lt : V} {H H' : Hp} (h : Fx R q g p t rm lt H) (e : Ex H H') : Fx R q g p t rm lt H' := by
  obtain ⟨a, b, c, d⟩ := h
  exact ⟨pot_ex a e, b.ex e, c.ex e, d.ex e⟩
theorem Fx.upl {R q : Addr} {g : V} {p : Int} {t : Tab} {rm lt : V} {b : Addr} {H : Hp} {xs ys : List V} (h : Fx R q g p t rm lt H) (hb : H b = some (.lst xs)) (bq : b ≠ q) : Fx R q g p t rm lt (upd H b (.lst ys)) := by
  obtain ⟨a, b1, c, d⟩ := h
  exact ⟨pot_upl a bq, b1.upl hb, c.upl hb, d.upl hb⟩
section
variable {P : Program} {w : World} {K : PySem.W.Frag} {mg : Str → Option Value} {base : Heap} {C R : Addr}
theorem rv_eqI (RC : RoomC K mg R) (RK' : RoomK P w K mg base C R) {H : Hp} {x y : V} {p : Int} {t : Tab} {b : Bool} (hx : RoomI R H x p t) (hy : EqArg R H p t y b) : RV (rEqI K R) x y H (.bl b) := fun H1 e Q q => by
  obtain ⟨a, dx, f, rfl, ha, hf⟩ := id (hx.ex e)
  have kk : ∀ H2, Ex H1 H2 → (∃ c, V.bl b = .bl c) ∧ Q (.bl b) H2 := fun H2 e2 => ⟨⟨b, rfl⟩, q H2 e2⟩
  cases hy with
  | room h =>
    have h' := h.ex e
    obtain ⟨a2, dx2, f2, rfl, ha2, hf2⟩ := id h'
    exact ⟨a, dx, _, .ref R, rfl, ha, .base (.ins ha2 RC.ins.cl RC.ins.ha RC.ins.hn RC.ins.htk RC.ins.hm), RK'.nf _ (by simp), .ref a, _, p, t, _, rfl, hx.ex e, .room h', kk⟩
  | @data d h =>
    have h' := h.ex e
    refine ⟨a, dx, _, .type (tyN d), rfl, ha, tyx_of (K := K) h'.dp, RK'.nf _ ?_, .ref a, y, p, t, _, rfl, hx.ex e, .data h', kk⟩
    cases h' <;> simp [tyN]
theorem rv_neI {H : Hp} {x y : V} {p : Int} {t : Tab} (hx : RoomI R H x p t) (hy : RoomI R H y p t) : RV (rNeI R) x y H (.bl false) := fun H1 e Q q => by
  obtain ⟨a, dx, f, rfl, ha, hf⟩ := id (hx.ex e)
  obtain ⟨a2, dx2, f2, rfl, ha2, hf2⟩ := id (hy.ex e)
  refine ⟨a, a2, dx, dx2, _, _, rfl, rfl, ha, ha2, .ref a, .ref a2, p, t, _, rfl, hx.ex e, .room (hy.ex e), fun H2 e2 => ⟨_, rfl, ?_⟩⟩
  have : (!decide (p = p ∧ t = t)) = false := by simp
  rw [this]
  exact q H2 e2
theorem ev_reprEL {σ : L2.St} {H : Hp} {te : TE} {xs : List V} {ds : List PyData} {k n : Nat} (h : EvL te σ H xs) (hd : ∀ H', DtAll H' xs ds) (ez : Ez k n (.list ds)) (hk : k ≤ 10) (hw : n ≤ 100000) : Ev (tCB (rReprD K) (tCons te tNil)) σ H (.str (PyData.list ds).shown) := fun H1 e Q q =>
  h H1 e _ fun p H2 np e2 hp => ⟨p, .list ds, rfl, (Dt.lst hp (hd H2)).dp, ez.sw, ez.nd, Nat.le_trans ez.dep hk, sz17 (Nat.le_trans (ez.len hk hw) (by decide)), q _ e2⟩
theorem ok_right (B : Bt mg) (RC : RoomC K mg R) (RH : RoomH P w K mg base R) (RK' : RoomK P w K mg base C R) (D : DefIn K mg "_law_right" sLRight ["_law_pot_here"])
    (hDraw : Held P w K mg base CX0 1 "_law_draw" ["_law_pot_here", "_law_many"] spDraw) (hDrawn : Held P w K mg base CX0 5 "_law_drawn" ["_law_pot_here", "_law_most"] spDrawn) (hGiven : Held P w K mg base CX0 2 "_law_given" ["_law_pot_here", "_law_rows"] spGiven)
    (hTold : ∃ (f : Addr) (fd : FuncData), mg "_law_told_right" = some (.ref f) ∧ PySem.W.keepIn K (.ref f) = true ∧ L2.Binds K fd ["_law_room", "_law_prime", "_law_grid_here"] [] ∧ FnG P w K mg base CX0 7 f fd ["_law_room", "_law_prime", "_law_grid_here"] (spTold R))
    (hUnits : Held P w K mg base CX0 1 "_law_units" ["_law_size"] spUnits) (hBent : Held P w K mg base CX0 2 "_law_bent" ["_law_pot_here", "_law_prime", "_law_grid_here"] spBent) (hIs : Held P w K mg base CX0 1 "_law_is_table" ["_law_prime", "_law_value"] spIsTable) :
    ∃ (f : Addr) (fd : FuncData), mg "_law_right" = some (.ref f) ∧ PySem.W.keepIn K (.ref f) = true ∧ L2.Binds K fd ["_law_pot_here"] [] ∧ FnG P w K mg base CX0 8 f fd ["_law_pot_here"] spRightL := by
  obtain ⟨f1, fd1, g1, k1, b1, G1⟩ := hDraw
  obtain ⟨f2, fd2, g2, k2, b2, G2⟩ := hDrawn
  obtain ⟨f3, fd3, g3, k3, b3, G3⟩ := hGiven
  obtain ⟨f4, fd4, g4, k4, b4, G4⟩ := hTold
  obtain ⟨f5, fd5, g5, k5, b5, G5⟩ := hUnits
  obtain ⟨f6, fd6, g6, k6, b6, G6⟩ := hBent
  obtain ⟨f7, fd7, g7, k7, b7, G7⟩ := hIs
  obtain ⟨fm1, fdm1, mm1, bm1, GM1⟩ := RH.rows
  obtain ⟨fm2, fdm2, mm2, bm2, GM2⟩ := RH.still
  obtain ⟨fe, fde, es, ef, nt, be, GE⟩ := RH.eq
  obtain ⟨fr, fdr, rs, rf, br, GR⟩ := RH.repr
  obtain ⟨fI, fdI, MkI, bI, kbI, GI⟩ := RK'.made
  obtain ⟨f, fd, F, gf, bf⟩ := D
  refine ⟨f, fd, gf, F.kp, bf, FunG.ok F scLRight (fun vs H Q E h => ?_) (fun cdv A outer s H vs Q E hg hr h => ?_)⟩
  · obtain ⟨q, rfl, _⟩ := h
    rfl
  · obtain ⟨q, rfl, hq, k⟩ := h
    refine ⟨_, pss_cons (ps_asg (g := gTup K 3 (gCons (gName 1) (gCons (gName 2) (gCons (gName 3) gNil)))) (pe_call G2 (hr.mono (by decide)) (by rfl) g2 k2 b2 .nil pass0 (pa_cons (pv 0) (pa_cons pe_int pa_nil))) (pg_tupK (K := K) rfl (pgs_cons (pg_name (i := 1) scLRight.nd rfl (Or.inl rfl)) (pgs_cons (pg_name (i := 2) scLRight.nd rfl (Or.inl rfl)) (pgs_cons (pg_name (i := 3) scLRight.nd rfl (Or.inl rfl)) pgs_nil)))))
      (pss_cons (ps_asg (g := gName 4) (pe_call G3 (hr.mono (by decide)) (by rfl) g3 k3 b3 .nil pass0 (pa_cons (pv 0) (pa_cons (pv 3) pa_nil))) (pg_name (i := 4) scLRight.nd rfl (Or.inl rfl)))
      (pss_cons (ps_asg (g := gName 5) (pe_ifExp (pt_cmpR op_eq (pe_call G1 (hr.mono (by decide)) (by rfl) g1 k1 b1 .nil pass0 (pa_cons (pv 0) (pa_cons pe_int pa_nil))) pe_int (nomark _)) (pe_make MkI GI (hr.mono (by decide)) (by rfl) RC.gR bI .nil pass_none (pa_cons (pv 1) (pa_cons (pv 4) pa_nil)))
          (pe_makeK0 MkI GI (hr.mono (by decide)) (by rfl) RC.gR kbI pass_none (pk_cons (pv 4) (pk_cons (pv 1) pk_nil)))) (pg_name (i := 5) scLRight.nd rfl (Or.inl rfl)))
      (pss_cons (ps_if (pt_not (pt_val (pe_callG G4 (by exact hg) (hr.mono (by decide)) (by rfl) g4 k4 b4 pass0 (pa_cons (pv 5) (pa_cons (pv 1) (pa_cons (pv 3) pa_nil)))))) (pss_one (ps_ret pe_bl)) pss_nil)
      (pss_cons (ps_setLc (i := 6) (own := [("_law_row", 7)]) (g := gName 7) (tt := tYes) rfl scLRight.nd rfl rfl (by rfl) (pi_tupK (K := K) (pv 3)) (blkOk_by (N := nLRight) (sc := defScope sLRight) (by decide +kernel)) (fun _ _ _ _ _ => pg_name (i := 7) scLRight.nd rfl (Or.inl rfl)) (fun _ _ _ _ _ => pts_nil)
          (fun _ _ _ _ _ => pe_callTy (callListK (K := K)) (by rfl) B.list (by decide +kernel) (pa_cons (pv 7) pa_nil)))
      (pss_cons (ps_asg (g := gName 8) (pe_make MkI GI (hr.mono (by decide)) (by rfl) RC.gR bI .nil pass_none (pa_cons (pv 1) (pa_cons (pv 6) pa_nil))) (pg_name (i := 8) scLRight.nd rfl (Or.inl rfl)))
      (pss_cut (ps_if (pt_cmpR op_gt (pv 2) pe_int (nomark _)) (pss_cons (ps_asg (g := gSub (tOp (rIxL K) (tVar 6) (tC (.int 0))) (tC (.int 0)) rSetL) (pe_op op_mod (pe_op op_add (pe_ix (ix_listK (K := K)) (pe_ix (ix_listK (K := K)) (pv 6) pe_int (fun _ _ => rfl)) pe_int (fun _ _ => rfl)) pe_int) (pv 1)) (pg_sub (pe_ix (ix_listK (K := K)) (pv 6) pe_int (fun _ _ => rfl)) pe_int set_list))
          (pss_one (ps_if (pt_cmpR (opEqI (K := K) GE (hr.mono (by decide)) es ef be) (pe_make MkI GI (hr.mono (by decide)) (by rfl) RC.gR bI .nil pass_none (pa_cons (pv 1) (pa_cons (pv 6) pa_nil))) (pv 8) (by rfl)) (pss_one (ps_ret pe_bl)) pss_nil))) pss_nil)
      (pss_cons (ps_expr (pe_bm PySem.F.plainAttrs_list PySem.F.slot_list_append PySem.F.type_list_append mt_append (pv 6) (pa_cons pe_non pa_nil)))
      (pss_cons (ps_asg (g := gName 9) (pe_meth0 (pv 8) RC.ins.cl mm2 GM2 (hr.mono (by decide)) bm2 .nil pass0) (pg_name (i := 9) scLRight.nd rfl (Or.inl rfl)))
      (pss_cons (ps_expr (pe_bm PySem.F.plainAttrs_list PySem.F.slot_list_append PySem.F.type_list_append mt_append (pv 9) (pa_cons pe_non pa_nil)))
      (pss_cons (ps_if (pw_or (pt_not (pt_val (pe_callG G4 (by exact hg) (hr.mono (by decide)) (by rfl) g4 k4 b4 pass0 (pa_cons (pv 8) (pa_cons (pv 1) (pa_cons (pv 3) pa_nil)))))) (pw_or1 (pt_cmpR (opNeI nt GE (hr.mono (by decide)) be) (pv 8) (pv 5) (by rfl)))).pt (pss_one (ps_ret pe_bl)) pss_nil)
      (pss_cons (ps_asg (g := gName 10) (pe_ifExp (pt_cmpR op_lt (pv 1) pe_int (nomark _)) (pe_make MkI GI (hr.mono (by decide)) (by rfl) RC.gR bI .nil pass_none (pa_cons pe_int (pa_cons (pv 3) pa_nil))) (pe_make MkI GI (hr.mono (by decide)) (by rfl) RC.gR bI .nil pass_none (pa_cons pe_int (pa_cons (pe_call G5 (hr.mono (by decide)) (by rfl) g5 k5 b5 .nil pass0 (pa_cons (pv 2) pa_nil)) pa_nil)))) (pg_name (i := 10) scLRight.nd rfl (Or.inl rfl)))
      (pss_cons (ps_asg (g := gName 11) (pe_lst (pa_cons (pe_cmpR (opEqI (K := K) GE (hr.mono (by decide)) es ef be) (pv 5) (pv 10) (by rfl)) (pa_cons (pe_cmpR (opEqI (K := K) GE (hr.mono (by decide)) es ef be) (pv 5) (pv 3) (by rfl)) (pa_cons (pe_cmpR (opEqI (K := K) GE (hr.mono (by decide)) es ef be) (pv 5) pe_non (by rfl))
          (pa_cons (pe_cmpR (opEqI (K := K) GE (hr.mono (by decide)) es ef be) (pv 5) (pe_callB (callReprI GR (by exact hg) (hr.mono (by decide)) rs rf br) (by rfl) B.repr (by decide +kernel) (pa_cons (pv 5) pa_nil)) (by rfl)) (pa_cons (pe_cmpR (opNeI nt GE (hr.mono (by decide)) be) (pv 5) (pv 8) (by rfl)) (pa_cons (pe_cmpR (opEqI (K := K) GE (hr.mono (by decide)) es ef be) (pv 5) (pv 1) (by rfl)) pa_nil))))))) (pg_name (i := 11) scLRight.nd rfl (Or.inl rfl)))
      (pss_cons (ps_if (pt_cmpR op_ne (pe_callB (callReprD (K := K) (by exact hg) hr) (by rfl) B.repr (by decide +kernel) (pa_cons (pv 11) pa_nil)) (pe_callB (callReprD (K := K) (by exact hg) hr) (by rfl) B.repr (by decide +kernel) (pa_cons (pe_op op_rep (pe_lst (pa_cons pe_bl pa_nil)) pe_int) pa_nil)) (by rfl)) (pss_one (ps_ret pe_bl)) pss_nil)
      (pss_cons (ps_for PassesOwn.never rfl (pi_listK (K := K) (pe_call G6 (hr.mono (by decide)) (by rfl) g6 k6 b6 .nil pass0 (pa_cons (pv 0) (pa_cons (pv 1) (pa_cons (pv 3) pa_nil))))) (pg_name (i := 12) scLRight.nd rfl (Or.inl rfl))
        (pss_cons (ps_par (i := 13) (j := 9) rfl scLRight.nd rfl rfl (by decide) rfl rfl (pa_cons (pe_call G7 (hr.mono (by decide)) (by rfl) g7 k7 b7 .nil pass0 (pa_cons (pv 1) (pa_cons (pv 12) pa_nil))) (pa_cons pe_non pa_nil)) (by rfl))
        (pss_cut (ps_try_only (c := .ref C) (tb := fun W => tAsg (tMakeS R (spRoomInit C R) (WE W) (tCons (tVar 1) (tCons (tVar 12) tNil))) (gName 9)) (ts := fun _ _ _ => tAsg (tC .non) (gName 9)) (Wout := fun _ _ _ _ => False) rfl rfl ⟨rfl, by decide, Or.inl RK'.gC⟩ takes0
            (fun W pn xe tk _ => pss_one (ps_set (i := 9) scLRight.nd rfl (Or.inl rfl) (by exact (pe_makeS MkI GI (hr.mono (by decide)) (by rfl) RC.gR bI (fun σ => passAt tk σ) (by exact (pa_cons (pv 1) (pa_cons (pv 12) pa_nil)))))))
            (fun a oe cls d pn hz hf => pss_one (ps_set (i := 9) scLRight.nd rfl (Or.inl rfl) pe_non)))
        (pss_one (ps_if (pw_or (pt_cmpR op_ne (pe_cmpR op_notN (pv 9) pe_non (nomark _)) (pv 13) (by rfl)) (pw_or1 (pw_and (pt_cmpR op_notN (pv 9) pe_non (nomark _)) (pw_and1 (pt_cmpR (op_neDK (K := K) hr.units) (pe_meth0 (pv 9) RC.ins.cl mm1 GM1 (hr.mono (by decide)) bm1 .nil pass0)
            (pe_callTy (callTupK (K := K)) (by rfl) B.tuple (by decide +kernel) (pa_cons (pe_lc (own := [("_law_row", 7)]) (g := gName 7) (tt := tYes) rfl scLRight.nd (pi_seq (K := K) (pv 12)) (blkOk_by (N := nLRight) (sc := defScope sLRight) (by decide +kernel)) (fun _ _ _ _ _ => pg_name (i := 7) scLRight.nd rfl (Or.inl rfl)) (fun _ _ _ _ _ => pts_nil)
              (fun _ _ _ _ _ => pe_callTy (callTupK (K := K)) (by rfl) B.tuple (by decide +kernel) (pa_cons (pv 7) pa_nil))) pa_nil)) (by rfl)))).pt)).pt (pss_one (ps_ret pe_bl)) pss_nil)))))
      (pss_one (ps_ret pe_bl)))))))))))))))), ?_⟩
    refine ⟨_, rfl, q, rfl, hq, fun T H1 p t g e1 hq1 hT hg gr tu => ⟨T, _, rfl, st_of hT, rfl, _, _, rfl, _, _, rfl, _, _, rfl, rfl, ?_⟩⟩
    dsimp only
    have hp := gr.pr
    have pp := prime_pos hp
    have sz := gr.sz
    refine ⟨_, rfl, _, rfl, q, g, t, rfl, hq1, hg, sz, fun hd H2 d e2 hq2 hdd giv => ?_⟩
    refine gName_go ?_
    have hg2 := (hg.del hq1).ex e2
    have hrt := giv_right giv sz gr.good tu
    dsimp only [tSeq, tAsg]
    refine ev_roomMade rfl rfl rfl hq2 hp hdd hrt fun rm H3 e3 hq3 hrm => ?_
    refine gName_go ?_
    have hg3 := (hg2.del hq2).ex e3
    refine q_when (b := !true) (et_not (evt_told (i := 5) rfl rfl rfl hrm hg3 gr)) (fun c => by cases c) (fun _ H4 e4 => ?_)
    obtain ⟨ga, gs, rfl, hga, hgs⟩ := id (hg3.ex e4)
    have hgl := hgs.length
    have hq4 := pot_ex hq3 e4
    refine q_asgLP (i := 6) (PL := PNew H4 ((List.range gs.length).map fun i => (rowAt t i).map V.int)) (evlp_tupN (K := K) (a := ga) (fun i => (rowAt t i).map V.int) (ev_var rfl) hga (by omega) (fun _ => rfl) fun i x H5 e5 h => ⟨et_yes, ?_⟩) fun L vs H5 nL e5 hL pw => ?_
    · obtain ⟨rx, _⟩ := rows_item (rows_ex hgs e5) h
      obtain ⟨ax, rfl, sx⟩ := rx.seq
      exact el_listS (ev_var rfl) sx
    have Lq : L ≠ q := pot_new hq4 nL
    obtain ⟨pw, nd⟩ := pw
    rw [hgl, map_range_row t fun r => r.map V.int] at pw
    have plr := rn_lr (pot_some hq4) hL pw
    obtain ⟨bs, rfl, pbs, nbs⟩ := refs_of (L := L) (paired_unmap pw) fun v hv b hb => by
      obtain ⟨r, _, b', h1, _, h2, _⟩ := paired_mem plr hv
      rw [hb] at h1
      cases h1
      exact h2
    have ndb := nodup_refs nd
    have lbs := pbs.length
    clear plr pw nd
    refine q_asgP (i := 8) (P := fun u H' => RoomI R H' u p t) (evp_make hp (eap_of (vs := [.int p, .ref L]) (ea_cons (ev_var rfl) (ea_cons (ev_var rfl) ea_nil)) fun H6 e6 => ⟨.ref L, .list (t.map dRowL), rfl, .lst (e6 _ _ hL) ((cells_dt pbs).ex e6), giv_right (giv_rows (isRowL t)) sz gr.good tu⟩)) fun lt H6 e6 hlt => ?_
    have fx : Fx R q (.ref ga) p t rm lt H6 := ⟨pot_ex hq4 (e5.trans e6), hg3.ex ((e4.trans e5).trans e6), hrm.ex ((e4.trans e5).trans e6), hlt⟩
    have pb6 : Paired (CellR H6) bs t := Paired.mono (fun _ _ z => e6 _ _ z) pbs
    have nb6 : ∀ b ∈ bs, b ≠ q ∧ b ≠ L := fun b hb => ⟨fun z => pot_some hq4 (by rw [← z]; exact (nbs b hb).1), (nbs b hb).2⟩
    have hL6 := e6 _ _ hL
    refine q_cut (M := fun σ' H' => σ' = [some (.ref q), some (.int p), some (.int (t.length : Nat)), some (.ref ga), some hd, some rm, some (.ref L), none, some lt, none, none, none, none, none] ∧ Fx R q (.ref ga) p t rm lt H' ∧ ∃ xs, H' L = some (.lst xs) ∧ xs.length ≤ 40) ?_ ?_
    · refine s_when (b := decide ((t.length : Int) > 0)) (et_test (ev_op (ev_var rfl) ev_c rv_I0)) (fun c H7 e7 => ?_) (fun c H7 e7 => ⟨rfl, fx.ex e7, _, e7 _ _ hL6, by rw [List.length_map]; omega⟩)
      have c' : (t.length : Int) > 0 := of_decide_eq_true c
      have fx7 := fx.ex e7
      have hL7 := e7 _ _ hL6
      have pb7 : Paired (CellR H7) bs t := Paired.mono (fun _ _ z => e7 _ _ z) pb6
      obtain ⟨b0, hb0, hb0H⟩ := paired_get2 pb7 (i := 0) (y := rowAt t 0) (by rw [rowAt_get (by omega)]; exact List.getElem?_eq_getElem (by omega))
      have hb0V : (bs.map V.ref)[0]? = some (.ref b0) := by rw [List.getElem?_map, hb0] <;> rfl
      have hb0H' : H7 b0 = some (.lst ((rowAt t 0).map V.int)) := hb0H
      have gr0 := gr.good _ (rowAt_mem (t := t) (i := 0) (by omega))
      have b00 := gr0.at (by omega) 0
      have ixR : ∀ σ : L2.St, σ[6]? = some (some (.ref L)) → Ev (tOp (rIxL K) (tVar 6) (tC (.int 0))) σ H7 (.ref b0) := fun σ hσ => ev_op (ev_var hσ) ev_c (rv_ixL (sq_of hL7) (atI_nat (j := 0) hb0V))
      dsimp only [tSeq, tAsg]
      refine (ev_op (ev_op (ev_op (ixR _ rfl) ev_c (rv_ixL (sq_of hb0H') (atI_nat (j := 0) (row_at (by rw [gr0.1]; omega))))) ev_c rv_I0) (ev_var rfl) (rv_I (by omega))) H7 (Ex.refl H7) _ fun H8 e8 => ?_
      have hx1 := Int.emod_nonneg (at0 (rowAt t 0) 0 + 1) (b := p) (by omega)
      have hx2 := Int.emod_lt_of_pos (at0 (rowAt t 0) 0 + 1) (b := p) (by omega)
      have hxne : (at0 (rowAt t 0) 0 + 1) % p ≠ at0 (rowAt t 0) 0 := fun z => by
        by_cases c2 : at0 (rowAt t 0) 0 + 1 = p
        · rw [c2, Int.emod_self] at z
          omega
        · rw [Int.emod_eq_of_lt (by omega) (by omega)] at z
          omega
      generalize (at0 (rowAt t 0) 0 + 1) % p = xx at hx1 hx2 hxne
      refine ⟨_, rfl, L, _, 0, .ref b0, rfl, rfl, sq_of (e8 _ _ hL7), atI_nat (j := 0) hb0V, b0, _, 0, 0, rfl, rfl, e8 _ _ hb0H', ?_, ?_⟩
      · have := ixN_nat (n := ((rowAt t 0).map V.int).length) (j := 0) (by rw [List.length_map, gr0.1]; omega)
        exact this
      have fx8 : Fx R q (.ref ga) p t rm lt (upd H8 b0 (.lst (((rowAt t 0).map V.int).set 0 (.int xx)))) := (fx7.ex e8).upl (e8 _ _ hb0H') (nb6 b0 (List.mem_of_getElem? hb0)).1
      have hL8 : (upd H8 b0 (.lst (((rowAt t 0).map V.int).set 0 (.int xx)))) L = some (.lst (bs.map V.ref)) := by
        rw [upd_ne (Ne.symm (nb6 b0 (List.mem_of_getElem? hb0)).2)]
        exact e8 _ _ hL7
      have pb8 : Paired (CellR (upd H8 b0 (.lst (((rowAt t 0).set 0 xx).map V.int)))) bs (t.set 0 ((rowAt t 0).set 0 xx)) := paired_upd ndb hb0 (Paired.mono (fun _ _ z => e8 _ _ z) pb7)
      rw [List.map_set] at pb8
      generalize upd H8 b0 (.lst (((rowAt t 0).map V.int).set 0 (.int xx))) = H9 at fx8 hL8 pb8
      obtain ⟨d1, d2, d3, d4⟩ := diag_set (x := xx) (by omega) rfl gr.good tu ⟨hx1, hx2⟩
      have tne : ¬ (p = p ∧ t.set 0 ((rowAt t 0).set 0 xx) = t) := fun z => hxne (by rw [← d4, z.2])
      refine s_when (b := false) (et_test fun H10 e10 Q10 q10 => evp_make hp (eap_of (vs := [.int p, .ref L]) (ea_cons (ev_var rfl) (ea_cons (ev_var rfl) ea_nil)) fun H11 e11 => ⟨.ref L, .list ((t.set 0 ((rowAt t 0).set 0 xx)).map dRowL), rfl, .lst (e11 _ _ (e10 _ _ hL8)) (((cells_dt pb8).ex e10).ex e11), giv_right (giv_rows (isRowL _)) (by omega) (by rw [d1]; exact d2) d3⟩) H10 (Ex.refl H10) _ fun u H11 e11 hu => ⟨lt, rfl, rv_eqI RC RK' (b := false) hu (by
          have := EqArg.room (R := R) (p := p) (t := t.set 0 ((rowAt t 0).set 0 xx)) (fx8.later.ex (e10.trans e11))
          rw [decide_eq_false tne] at this
          exact this) H11 (Ex.refl H11) _ fun H12 e12 => q10 H12 (e11.trans e12)⟩) (fun c => by cases c) (fun _ H10 e10 => ⟨rfl, fx8.ex e10, _, e10 _ _ hL8, by rw [List.length_map]; omega⟩)
    · rintro σ' H7 ⟨rfl, fx, xs, hxs, lxs⟩
      clear hL6 pb6 hlt pbs
      refine q_app (l := L) (xs := xs) (v := .non) hxs (ev_var rfl) ev_c (by omega) fun H8 e8 => ?_
      have fx8 : Fx R q (.ref ga) p t rm lt (upd H8 L (.lst (xs ++ [.non]))) := (fx.ex e8).upl (e8 _ _ hxs) Lq
      generalize upd H8 L (.lst (xs ++ [.non])) = H9 at fx8
      refine q_asgLP (i := 9) (evlp_still (R := R) (ev_var rfl) fx8.later gr) fun ts tv H10 nts e10 hts pts => ?_
      have fx10 := fx8.ex e10
      have tq : ts ≠ q := pot_new fx8.pot nts
      obtain ⟨se, sl, sg⟩ := still_facts gr
      have ltv : tv.length ≤ 40 := by
        rw [pts.length, se]
        omega
      refine q_app (l := ts) (xs := tv) (v := .non) hts (ev_var rfl) ev_c (by omega) fun H11 e11 => ?_
      have fx12 : Fx R q (.ref ga) p t rm lt (upd H11 ts (.lst (tv ++ [.non]))) := (fx10.ex e11).upl (e11 _ _ hts) tq
      generalize upd H11 ts (.lst (tv ++ [.non])) = H12 at fx12
      refine q_when (b := (!true || false)) (et_or (et_not (evt_told (i := 8) rfl rfl rfl fx12.later fx12.grid gr)) fun _ => et_test (ev_op (ev_var rfl) (ev_var rfl) (rv_neI fx12.later fx12.room))) (fun c => by cases c) (fun _ H13 e13 => ?_)
      have fx13 := fx12.ex e13
      refine q_asgP (i := 10) (P := fun u H' => ∃ p2 t2, ¬ p = p2 ∧ RoomI R H' u p2 t2) (evp_if (b := decide (p < 13)) (et_test (ev_op (ev_var rfl) ev_c rv_I0)) (fun c => ?_) (fun c => ?_)) fun ot H14 e14 hot => ?_
      · have c' : p < 13 := of_decide_eq_true c
        exact (evp_make (p := 13) (t := t) (.inr (.inr (.inr (.inr rfl)))) (eap_of (vs := [.int 13, .ref ga]) (ea_cons ev_c (ea_cons (ev_var rfl) ea_nil)) fun H14 e14 => ⟨.ref ga, tabD t, rfl, (fx13.grid.ex e14).dt, giv_right (giv_tab t) sz (fun r hr => ⟨(gr.good r hr).1, fun y hy => ⟨((gr.good r hr).2 y hy).1, by have := ((gr.good r hr).2 y hy).2; omega⟩⟩) tu⟩)).imp fun u H14 _ hu => ⟨13, t, by omega, hu⟩
      · have c' : ¬ p < 13 := of_decide_eq_false c
        exact (evp_make (p := 11) (t := units t.length) (.inr (.inr (.inr (.inl rfl)))) (eap_cons (ev_p (P := fun v _ => v = .int 11) ev_c fun _ _ => rfl) fun v H14 e14 hv => by
          subst hv
          exact eap_one (evp_call (PL := fun vs _ => vs = [.int (t.length : Nat)]) (eap_of (ea_cons (ev_var rfl) ea_nil) fun _ _ => rfl) fun vs H15 e15 hv2 Q2 q2 => by
            subst hv2
            exact ⟨t.length, rfl, by omega, fun u H16 e16 hu => q2 u H16 e16 hu⟩) fun u H15 e15 (hu : TabT H15 u (units t.length)) => ⟨u, tabD (units t.length), rfl, hu.dt, units_right sz⟩)).imp fun u H14 _ hu => ⟨11, units t.length, by omega, hu⟩
      obtain ⟨p2, t2, pne, hot⟩ := hot
      have fx14 := fx13.ex e14
      have eqOther : EqArg R H14 p t ot false := by
        have := EqArg.room (R := R) (p := p) (t := t) hot
        rw [decide_eq_false fun z => pne z.1] at this
        exact this
      refine q_asgL (i := 11) (xs := [.bl false, .bl false, .bl false, .bl false, .bl false, .bl false]) (el_lst (ea_cons (ev_op (ev_var rfl) (ev_var rfl) (rv_eqI RC RK' fx14.room eqOther)) (ea_cons (ev_op (ev_var rfl) (ev_var rfl) (rv_eqI RC RK' fx14.room (.data fx14.grid.dt))) (ea_cons (ev_op (ev_var rfl) ev_c (rv_eqI RC RK' fx14.room (.data .non)))
        (ea_cons (ev_op (y := .str (roomText1 p t)) (ev_var rfl) (fun H15 e15 Q15 q15 => ?_) (rv_eqI RC RK' fx14.room (.data (.str _)))) (ea_cons (ev_op (ev_var rfl) (ev_var rfl) (rv_neI fx14.room fx14.later)) (ea_cons (ev_op (ev_var rfl) (ev_var rfl) (rv_eqI RC RK' fx14.room (.data (.int p)))) ea_nil)))))) (by show 6 ≤ 100000; decide)) fun fl H15 nfl e15 hfl => ?_
      · obtain ⟨ra, rdx, rx, era, hra, hrx⟩ := id (fx14.room.ex e15)
        subst era
        exact ⟨_, rfl, ra, rdx, _, rfl, hra, .ref ra, p, t, rfl, fx14.room.ex e15, gr, fun H16 e16 => ⟨⟨_, rfl⟩, q15 H16 e16⟩⟩
      have fx15 := fx14.ex e15
      have ezF : Ez 1 66 (.list [.bool false, .bool false, .bool false, .bool false, .bool false, .bool false]) := Ez.lst (k := 0) (w := 66) (.cons (b := 55) Ez.bl (.cons (b := 44) Ez.bl (.cons (b := 33) Ez.bl (.cons (b := 22) Ez.bl (.cons (b := 11) Ez.bl (.cons (b := 0) Ez.bl .nil (by decide)) (by decide)) (by decide)) (by decide)) (by decide)) (by decide))
      have dtF : ∀ H', DtAll H' [.bl false, .bl false, .bl false, .bl false, .bl false, .bl false] [.bool false, .bool false, .bool false, .bool false, .bool false, .bool false] := fun H' => .cons (.bl _) (.cons (.bl _) (.cons (.bl _) (.cons (.bl _) (.cons (.bl _) (.cons (.bl _) .nil)))))
      refine q_when (b := !decide (V.str (PyData.list [.bool false, .bool false, .bool false, .bool false, .bool false, .bool false]).shown = V.str (PyData.list [.bool false, .bool false, .bool false, .bool false, .bool false, .bool false]).shown)) (et_test (ev_op (ev_reprV (K := K) (ev_var rfl) (.lst hfl (dtF H15)) ezF (by decide) (by decide))
        (ev_reprEL (K := K) (el_rep (n := 6) (v := .bl false) (el_lst (ea_cons ev_c ea_nil) (by show 1 ≤ 100000; decide)) (fun H16 e16 => ev_c) (by decide)) dtF ezF (by decide) (by decide)) (rv_ne rfl))) (fun c => by rw [sNe] at c; cases c) (fun _ H16 e16 => ?_)
      have fx16 := fx15.ex e16
      refine q_for_bent rfl rfl rfl fx16.pot fx16.grid gr fun l ws H17 e17 hl lz hwd => ?_
      refine q_forLn (a := l) (xs := ws) ev_c (sq_of hl) (fun i σ' H' => ∃ (u9 u12 u13 : Option V), σ' = [some (.ref q), some (.int p), some (.int (t.length : Nat)), some (.ref ga), some hd, some rm, some (.ref L), none, some lt, u9, some ot, some (.ref fl), u12, u13] ∧ Ex H17 H') (fun H18 e18 => ⟨_, _, _, rfl, e18⟩) (fun i σ' H' _ ⟨_, _, _, _, e⟩ => sq_of (e _ _ hl)) ?_ ?_
      · rintro i x σ' H18 hx ⟨u9, u12, u13, rfl, e18⟩
        obtain ⟨d, hdx⟩ := hwd x (List.mem_of_getElem? hx)
        have hdx := hdx.ex e18
        dsimp only [tSeq, tPar]
        refine ⟨_, rfl, _, rfl, p, x, d, rfl, hdx, fun H19 e19 => ⟨_, _, rfl, ?_⟩⟩
        have hdx2 := hdx.ex e19
        refine q_cut (M := fun σ' H' => ∃ tv, σ' = [some (.ref q), some (.int p), some (.int (t.length : Nat)), some (.ref ga), some hd, some rm, some (.ref L), none, some lt, some tv, some ot, some (.ref fl), some x, some (.bl (rightIn p d).isSome)] ∧ Ex H19 H' ∧ (rightIn p d = none → tv = .non) ∧ ∀ t2, rightIn p d = some t2 → RoomI R H' tv p t2) ?_ ?_
        · dsimp only [tAsg]
          refine ⟨_, rfl, _, rfl, fun x1 dx nx ndx ne => ?_⟩
          have e20 : Ex H19 (upd (upd H19 dx (.own x1)) x1 (.ins R dx [])) := Ex.mut (Ex.new ndx) nx
          refine ⟨x1, dx, p, x, d, rfl, upd_same, hp, hdx2.ex e20, fun t2 ht2 y H20 e21 hy => ⟨rfl, ?_⟩, fun hn dd H20 e21 => ⟨true, RK'.te, fun _ a0 na => ?_, fun z => by cases z⟩⟩
          · refine ⟨.ref x1, rfl, Ex.mut (e20.trans e21) nx, fun hn => ?_, fun t3 ht3 => ?_⟩
            · rw [hn] at ht2
              cases ht2
            · rw [ht2] at ht3
              cases ht3
              exact ⟨x1, dx, y, rfl, upd_same, hy.up_ins (e21 _ _ upd_same)⟩
          · refine ⟨.non, rfl, e20.trans e21, fun _ => rfl, fun t3 ht3 => ?_⟩
            rw [hn] at ht3
            cases ht3
        · rintro σ' H20 ⟨tv, rfl, e20, hn, hs⟩
          have eAll := (e18.trans e19).trans e20
          have hdx3 := hdx2.ex e20
          cases hr : rightIn p d with
          | none =>
            have htv := hn hr
            subst htv
            refine s_when (b := (!decide (V.bl false = V.bl false) || (false && false))) (et_or (et_test (ev_op (x := .bl false) (y := .bl false) (fun H21 e21 Q21 q21 => ⟨_, rfl, rfl, q21 H21 (Ex.refl H21)⟩) (ev_is (ev_var rfl) rfl) (rv_ne rfl))) fun _ => et_and (et_test fun H21 e21 Q21 q21 => ⟨_, rfl, rfl, q21 H21 (Ex.refl H21)⟩) fun c => by cases c) (fun c => by simp at c) (fun _ H21 e21 => ⟨_, _, _, rfl, eAll.trans e21⟩)
          | some t2 =>
            have hroom := hs t2 hr
            obtain ⟨xa, xs2, rfl, hxs2, psr, lx⟩ := right_seq hdx3 hr
            obtain ⟨ta, tdx, tx, etv, hta, htx⟩ := id hroom
            subst etv
            have lsr := psr.length
            refine s_when (b := (!decide (V.bl true = V.bl true) || (true && !decide (t2 = t2)))) (et_or (et_test (ev_op (x := .bl true) (y := .bl true) (fun H21 e21 Q21 q21 => ⟨_, rfl, rfl, q21 H21 (Ex.refl H21)⟩) (ev_is (ev_var rfl) rfl) (rv_ne rfl))) fun _ => et_and (et_test fun H21 e21 Q21 q21 => ⟨_, rfl, rfl, q21 H21 (Ex.refl H21)⟩) fun _ => et_test fun H21 e21 Q21 q21 => ?_) (fun c => by simp at c) (fun _ H21 e21 => ⟨_, _, _, rfl, eAll.trans e21⟩)
            refine evp_rows (R := R) (ev_var (i := 9) rfl) (hroom.ex e21) H21 (Ex.refl H21) _ fun u1 H22 e22 h22 => ?_
            refine (evp_tab (K := K) (l := t2) ((evlp_seq (K := K) (a := xa) lf_row (fun _ => true) (rowAt t2) (ev_var rfl) (hxs2.ex (e21.trans e22)) (by omega) (fun _ => rfl) fun j y H23 e23 h => ⟨et_yes, fun _ => ?_⟩).imp fun vs H23 _ z => ?_) rfl) H22 (Ex.refl H22) _ fun u2 H23 e23 h23 => ?_
            · obtain ⟨r, h1, b, rfl, hb⟩ := paired_get psr h
              obtain ⟨h3, h4⟩ := List.getElem?_eq_some_iff.mp h1
              rw [rowAt_get h3, h4]
              have hb' := hb.ex ((e21.trans e22).trans e23)
              intro H24 e24 Q24 q24
              rcases hb'.ex e24 with hh | hh
              · exact ⟨_, rfl, b, _, rfl, .inl ⟨sq_of hh, fun l hl => q24 _ _ (Ex.new hl) ⟨l, rfl, upd_same⟩⟩⟩
              · exact ⟨_, rfl, b, _, rfl, .inr ⟨st_of hh, q24 _ _ (Ex.refl H24) ⟨b, rfl, hh⟩⟩⟩
            · rw [pick_map, lsr, row_at_map] at z
              exact z
            · exact rv_neTab (K := K) (h22.ex e23) h23 H23 (Ex.refl H23) _ fun H24 e24 => q21 H24 ((e22.trans e23).trans e24)
      · rintro σ' H18 ⟨u9, u12, u13, rfl, e18⟩
        exact k H18
end
end RK

set_option Elab.async false
set_option linter.all false
set_option maxRecDepth 100000
set_option maxHeartbeats 8000000
/-! The law's def; all facts joined. Printed by gen_all.py. -/
namespace RK
open PySem L2 Evl
def spLaw (K : PySem.W.Frag) : Sp := fun vs H Q _ => ∃ (a : Addr) (ns : List Int), vs = [.ref a] ∧ SqL K H a (ns.map V.int) ∧ ∀ H', Q (.bl true) H'
theorem ok_law {P : Program} {w : World} {K : PySem.W.Frag} {mg : Str → Option Value} {base : Heap} {f : Addr} {fd : FuncData} (F : Fun K "law" "law" sLaw f fd)
    (h1 : ∃ (f : Addr) (fd : FuncData), mg "_law_right" = some (.ref f) ∧ PySem.W.keepIn K (.ref f) = true ∧ L2.Binds K fd ["_law_pot_here"] [] ∧ FnG P w K mg base CX0 8 f fd ["_law_pot_here"] spRightL)
    (h2 : Held P w K mg base CX0 1 "_law_pot" ["_law_script", "_law_k"] (spPot K)) : FnG P w K mg base CX0 9 f fd ["_law_script"] (spLaw K) := by
  obtain ⟨f1, fd1, g1, k1, b1, G1⟩ := h1
  obtain ⟨f2, fd2, g2, k2, b2, G2⟩ := h2
  refine FunG.ok F scLaw (fun vs H Q E h => ?_) (fun cdv A outer s H vs Q E hg hr h => ?_)
  · obtain ⟨a, ns, rfl, _⟩ := h
    rfl
  · obtain ⟨a, ns, rfl, hs, k⟩ := h
    refine ⟨_, pss_one (ps_ret (pe_callG G1 (by exact hg) (hr.mono (by decide)) (by rfl) g1 k1 b1 pass0 (pa_cons (pe_call G2 (hr.mono (by decide)) (by rfl) g2 k2 b2 .nil pass0 (pa_cons (pv 0) (pa_cons pe_int pa_nil))) pa_nil))), ?_⟩
    exact ⟨_, rfl, a, ns, rfl, hs, fun q H' nq e po => ⟨q, rfl, po, k⟩⟩
theorem exm_self {K : PySem.W.Frag} {S : Addr} (h1 : PySem.W.subIn K (.ref S) (.type "BaseException") = some true) (h2 : PySem.W.isClsIn K S = true) (h3 : PySem.W.typeIn K (.ref S) = some (.type "type")) (h4 : PySem.W.subIn K (.ref S) (.ref S) = some true) :
    PySem.W.exmOne K (.ref S) (.ref S) = some true := by
  have e1 : (PySem.W.subIn K (.ref S) (.type "BaseException") == some true) = true := by rw [h1] <;> rfl
  have e2 : ((PySem.W.clsIn K S).isSome && PySem.W.typeIn K (.ref S) == some (.type "type")) = true := by
    have h2' : (PySem.W.clsIn K S).isSome = true := h2
    rw [h2', h3] <;> rfl
  show (if (PySem.W.subIn K (.ref S) (.type "BaseException") == some true) = true then (if ((PySem.W.clsIn K S).isSome && PySem.W.typeIn K (.ref S) == some (.type "type")) = true then PySem.W.subIn K (.ref S) (.ref S) else none) else none) = some true
  rw [if_pos e1, if_pos e2]
  exact h4
theorem roomBinds {K : PySem.W.Frag} {e0 fI : Addr} {fd : FuncData} (F : FunD K "__init__" "Room.__init__" (defArgs sRoomInit) (defBody sRoomInit) (defScope sRoomInit) [.ref e0] [] fI fd) : L2.Binds K fd ["self", "prime", "rows"] [] := by
  obtain ⟨ds, hv, hb⟩ := F.binds1 (ps := ["self", "prime", "rows"]) 3 1 (by simp) rfl (fun T kV doc pm an cdv ct us its h1 h2 => match us, h1, its, h2 with | [_, _, _], _, [_], _ => ⟨_, rfl, rfl⟩)
  cases hv
  exact hb
theorem roomKBinds {K : PySem.W.Frag} {T e0 : Addr} {kV doc pm cdv ct cT : Value} {an dT : Option Addr} {nT : Nat} {slT : Array (Option Value)} (l : K.lookup T = some ⟨cT, dT, .seq #[.ref e0] nT, slT⟩) :
    KBn K (PySem.W.fnOf "__init__" "Room.__init__" (defArgs sRoomInit) (defBody sRoomInit) (defScope sRoomInit) (.ref T) kV doc pm an cdv ct) ["self", "prime", "rows"] 1 ["rows", "prime"] (fun us ws => [us.getD 0 .none, ws.getD 1 .none, ws.getD 0 .none]) (fun vs zs => [vs.getD 0 .non, zs.getD 1 .non, zs.getD 0 .non]) := by
  refine ⟨fun s us ws X l1 l2 => ?_, fun {vs us zs ws} r1 r2 => ?_⟩
  · match us, l1, ws, l2 with
    | [u], _, [a, b], _ =>
      refine BindsTo.of_looks fun M => ?_
      exact looks_items (k := _) (its := #[.ref e0]) X l rfl (.of_pure rfl)
  · have g : ∀ {xs : List V} {ys : List Value} (i : Nat), Vals xs ys → RelV (xs.getD i .non) (ys.getD i .none) := fun {xs ys} i r => by
      induction r generalizing i with
      | nil => exact rfl
      | cons h t ih =>
        cases i with
        | zero => exact h
        | succ i => exact ih i
    exact .cons (g 0 r1) (.cons (g 1 r2) (.cons (g 0 r2) .nil))
theorem all_mk {P : Program} {w : World} {K : PySem.W.Frag} {h : Heap} {mg : Str → Option Value} {fa f0 f1 f2 f3 f4 f5 f6 f7 f8 f9 f10 f11 f12 f13 f14 f15 f16 f17 f18 f19 f20 f21 f22 f23 f24 f25 f26 f27 f28 f29 f30 f31 f32 f33 f34 f35 f36 f37 f38 f39 f40 f41 f42 aPr C NC RE fCI R NR Kn fRI TRI eRI ppRP fRP ppRS fRS ppRK fRK fRR fRT fRE2 fRX : Addr} {od0 an0 od1 an1 od2 an2 od3 an3 od4 an4 od5 an5 od6 an6 od7 an7 od8 an8 od9 an9 od10 an10 od11 an11 od12 an12 od13 an13 od14 an14 od15 an15 od16 an16 od17 an17 od18 an18 od19 an19 od20 an20 od21 an21 od22 an22 od23 an23 od24 an24 od25 an25 od26 an26 od27 an27 od28 an28 od29 an29 od30 an30 od31 an31 od32 an32 od33 an33 od34 an34 od35 an35 od36 an36 od37 an37 od38 an38 od39 an39 od40 an40 od41 an41 od42 an42 dPr ddC odCI anCI ddR odRI anRI dTRI odRP anRP odRS anRS odRK anRK odRR anRR odRT anRT odRE2 anRE2 odRX anRX : Option Addr} {sl0 sl1 sl2 sl3 sl4 sl5 sl6 sl7 sl8 sl9 sl10 sl11 sl12 sl13 sl14 sl15 sl16 sl17 sl18 sl19 sl20 sl21 sl22 sl23 sl24 sl25 sl26 sl27 sl28 sl29 sl30 sl31 sl32 sl33 sl34 sl35 sl36 sl37 sl38 sl39 sl40 sl41 sl42 slPr slCI slRI slTRI slRP slRS slRK slRR slRT slRE2 slRX : Array (Option Value)} {oc0 kV0 dc0 pm0 cd0 ct0 oc1 kV1 dc1 pm1 cd1 ct1 oc2 kV2 dc2 pm2 cd2 ct2 oc3 kV3 dc3 pm3 cd3 ct3 oc4 kV4 dc4 pm4 cd4 ct4 oc5 kV5 dc5 pm5 cd5 ct5 oc6 kV6 dc6 pm6 cd6 ct6 oc7 kV7 dc7 pm7 cd7 ct7 oc8 kV8 dc8 pm8 cd8 ct8 oc9 kV9 dc9 pm9 cd9 ct9 oc10 kV10 dc10 pm10 cd10 ct10 oc11 kV11 dc11 pm11 cd11 ct11 oc12 kV12 dc12 pm12 cd12 ct12 oc13 kV13 dc13 pm13 cd13 ct13 oc14 kV14 dc14 pm14 cd14 ct14 oc15 kV15 dc15 pm15 cd15 ct15 oc16 kV16 dc16 pm16 cd16 ct16 oc17 kV17 dc17 pm17 cd17 ct17 oc18 kV18 dc18 pm18 cd18 ct18 oc19 kV19 dc19 pm19 cd19 ct19 oc20 kV20 dc20 pm20 cd20 ct20 oc21 kV21 dc21 pm21 cd21 ct21 oc22 kV22 dc22 pm22 cd22 ct22 oc23 kV23 dc23 pm23 cd23 ct23 oc24 kV24 dc24 pm24 cd24 ct24 oc25 kV25 dc25 pm25 cd25 ct25 oc26 kV26 dc26 pm26 cd26 ct26 oc27 kV27 dc27 pm27 cd27 ct27 oc28 kV28 dc28 pm28 cd28 ct28 oc29 kV29 dc29 pm29 cd29 ct29 oc30 kV30 dc30 pm30 cd30 ct30 oc31 kV31 dc31 pm31 cd31 ct31 oc32 kV32 dc32 pm32 cd32 ct32 oc33 kV33 dc33 pm33 cd33 ct33 oc34 kV34 dc34 pm34 cd34 ct34 oc35 kV35 dc35 pm35 cd35 ct35 oc36 kV36 dc36 pm36 cd36 ct36 oc37 kV37 dc37 pm37 cd37 ct37 oc38 kV38 dc38 pm38 cd38 ct38 oc39 kV39 dc39 pm39 cd39 ct39 oc40 kV40 dc40 pm40 cd40 ct40 oc41 kV41 dc41 pm41 cd41 ct41 oc42 kV42 dc42 pm42 cd42 ct42 ocCI kVCI dcCI pmCI cdCI ctCI ocRI kVRI dcRI pmRI cdRI ctRI cTRI ocRP kVRP dcRP pmRP cdRP ctRP ocRS kVRS dcRS pmRS cdRS ctRS ocRK kVRK dcRK pmRK cdRK ctRK ocRR kVRR dcRR pmRR cdRR ctRR ocRT kVRT dcRT pmRT cdRT ctRT ocRE2 kVRE2 dcRE2 pmRE2 cdRE2 ctRE2 ocRX kVRX dcRX pmRX cdRX ctRX : Value}
    {t1 t2 t3 t4 t5 tM : Tok} {nPr nTRI : Nat} {nmC qC nmR qR : Str} {bsC subC bsR subR rsRP rsRS rsRK : List Value} {snC snR : List Str} {abC abR hdR : Bool} {colC colR : Option Bool} {m0C m1C m2C m3C m5C m0R m1R m2R m3R m5R : Option Value} {newR : String} (KX : K.In h) (G : h.Ns mainGlobals mg) (hfa : mg "law" = some (.ref fa))
    (a0 : PySem.W.nsIn K mainGlobals "is_integer" = some (some (.ref f0)))
    (l0 : K.lookup f0 = some ⟨oc0, od0, .func (PySem.W.fnOf "is_integer" "is_integer" (defArgs sIsInteger) (defBody sIsInteger) (defScope sIsInteger) .none kV0 dc0 pm0 an0 cd0 ct0), sl0⟩)
    (c0 : PySem.W.codeIn K cd0 "is_integer" = true)
    (k0 : PySem.W.keepIn K (.ref f0) = true)
    (a1 : PySem.W.nsIn K mainGlobals "is_list" = some (some (.ref f1)))
    (l1 : K.lookup f1 = some ⟨oc1, od1, .func (PySem.W.fnOf "is_list" "is_list" (defArgs sIsList) (defBody sIsList) (defScope sIsList) .none kV1 dc1 pm1 an1 cd1 ct1), sl1⟩)
    (c1 : PySem.W.codeIn K cd1 "is_list" = true)
    (k1 : PySem.W.keepIn K (.ref f1) = true)
    (a2 : PySem.W.nsIn K mainGlobals "power_of" = some (some (.ref f2)))
    (l2 : K.lookup f2 = some ⟨oc2, od2, .func (PySem.W.fnOf "power_of" "power_of" (defArgs sPowerOf) (defBody sPowerOf) (defScope sPowerOf) .none kV2 dc2 pm2 an2 cd2 ct2), sl2⟩)
    (c2 : PySem.W.codeIn K cd2 "power_of" = true)
    (k2 : PySem.W.keepIn K (.ref f2) = true)
    (a3 : PySem.W.nsIn K mainGlobals "undone_of" = some (some (.ref f3)))
    (l3 : K.lookup f3 = some ⟨oc3, od3, .func (PySem.W.fnOf "undone_of" "undone_of" (defArgs sUndoneOf) (defBody sUndoneOf) (defScope sUndoneOf) .none kV3 dc3 pm3 an3 cd3 ct3), sl3⟩)
    (c3 : PySem.W.codeIn K cd3 "undone_of" = true)
    (k3 : PySem.W.keepIn K (.ref f3) = true)
    (a4 : PySem.W.nsIn K mainGlobals "is_rest_by" = some (some (.ref f4)))
    (l4 : K.lookup f4 = some ⟨oc4, od4, .func (PySem.W.fnOf "is_rest_by" "is_rest_by" (defArgs sIsRestBy) (defBody sIsRestBy) (defScope sIsRestBy) .none kV4 dc4 pm4 an4 cd4 ct4), sl4⟩)
    (c4 : PySem.W.codeIn K cd4 "is_rest_by" = true)
    (k4 : PySem.W.keepIn K (.ref f4) = true)
    (a5 : PySem.W.nsIn K mainGlobals "want_prime" = some (some (.ref f5)))
    (l5 : K.lookup f5 = some ⟨oc5, od5, .func (PySem.W.fnOf "want_prime" "want_prime" (defArgs sWantPrime) (defBody sWantPrime) (defScope sWantPrime) .none kV5 dc5 pm5 an5 cd5 ct5), sl5⟩)
    (c5 : PySem.W.codeIn K cd5 "want_prime" = true)
    (k5 : PySem.W.keepIn K (.ref f5) = true)
    (a6 : PySem.W.nsIn K mainGlobals "is_prime" = some (some (.ref f6)))
    (l6 : K.lookup f6 = some ⟨oc6, od6, .func (PySem.W.fnOf "is_prime" "is_prime" (defArgs sIsPrime) (defBody sIsPrime) (defScope sIsPrime) .none kV6 dc6 pm6 an6 cd6 ct6), sl6⟩)
    (c6 : PySem.W.codeIn K cd6 "is_prime" = true)
    (k6 : PySem.W.keepIn K (.ref f6) = true)
    (a7 : PySem.W.nsIn K mainGlobals "unit" = some (some (.ref f7)))
    (l7 : K.lookup f7 = some ⟨oc7, od7, .func (PySem.W.fnOf "unit" "unit" (defArgs sUnit) (defBody sUnit) (defScope sUnit) .none kV7 dc7 pm7 an7 cd7 ct7), sl7⟩)
    (c7 : PySem.W.codeIn K cd7 "unit" = true)
    (k7 : PySem.W.keepIn K (.ref f7) = true)
    (a8 : PySem.W.nsIn K mainGlobals "sum_of" = some (some (.ref f8)))
    (l8 : K.lookup f8 = some ⟨oc8, od8, .func (PySem.W.fnOf "sum_of" "sum_of" (defArgs sSumOf) (defBody sSumOf) (defScope sSumOf) .none kV8 dc8 pm8 an8 cd8 ct8), sl8⟩)
    (c8 : PySem.W.codeIn K cd8 "sum_of" = true)
    (k8 : PySem.W.keepIn K (.ref f8) = true)
    (a9 : PySem.W.nsIn K mainGlobals "scaled_of" = some (some (.ref f9)))
    (l9 : K.lookup f9 = some ⟨oc9, od9, .func (PySem.W.fnOf "scaled_of" "scaled_of" (defArgs sScaledOf) (defBody sScaledOf) (defScope sScaledOf) .none kV9 dc9 pm9 an9 cd9 ct9), sl9⟩)
    (c9 : PySem.W.codeIn K cd9 "scaled_of" = true)
    (k9 : PySem.W.keepIn K (.ref f9) = true)
    (a10 : PySem.W.nsIn K mainGlobals "turned_of" = some (some (.ref f10)))
    (l10 : K.lookup f10 = some ⟨oc10, od10, .func (PySem.W.fnOf "turned_of" "turned_of" (defArgs sTurnedOf) (defBody sTurnedOf) (defScope sTurnedOf) .none kV10 dc10 pm10 an10 cd10 ct10), sl10⟩)
    (c10 : PySem.W.codeIn K cd10 "turned_of" = true)
    (k10 : PySem.W.keepIn K (.ref f10) = true)
    (a11 : PySem.W.nsIn K mainGlobals "row_in" = some (some (.ref f11)))
    (l11 : K.lookup f11 = some ⟨oc11, od11, .func (PySem.W.fnOf "row_in" "row_in" (defArgs sRowIn) (defBody sRowIn) (defScope sRowIn) .none kV11 dc11 pm11 an11 cd11 ct11), sl11⟩)
    (c11 : PySem.W.codeIn K cd11 "row_in" = true)
    (k11 : PySem.W.keepIn K (.ref f11) = true)
    (a12 : PySem.W.nsIn K mainGlobals "table_in" = some (some (.ref f12)))
    (l12 : K.lookup f12 = some ⟨oc12, od12, .func (PySem.W.fnOf "table_in" "table_in" (defArgs sTableIn) (defBody sTableIn) (defScope sTableIn) .none kV12 dc12 pm12 an12 cd12 ct12), sl12⟩)
    (c12 : PySem.W.codeIn K cd12 "table_in" = true)
    (k12 : PySem.W.keepIn K (.ref f12) = true)
    (a13 : PySem.W.nsIn K mainGlobals "head_of" = some (some (.ref f13)))
    (l13 : K.lookup f13 = some ⟨oc13, od13, .func (PySem.W.fnOf "head_of" "head_of" (defArgs sHeadOf) (defBody sHeadOf) (defScope sHeadOf) .none kV13 dc13 pm13 an13 cd13 ct13), sl13⟩)
    (c13 : PySem.W.codeIn K cd13 "head_of" = true)
    (k13 : PySem.W.keepIn K (.ref f13) = true)
    (a14 : PySem.W.nsIn K mainGlobals "heads_of" = some (some (.ref f14)))
    (l14 : K.lookup f14 = some ⟨oc14, od14, .func (PySem.W.fnOf "heads_of" "heads_of" (defArgs sHeadsOf) (defBody sHeadsOf) (defScope sHeadsOf) .none kV14 dc14 pm14 an14 cd14 ct14), sl14⟩)
    (c14 : PySem.W.codeIn K cd14 "heads_of" = true)
    (k14 : PySem.W.keepIn K (.ref f14) = true)
    (a15 : PySem.W.nsIn K mainGlobals "without" = some (some (.ref f15)))
    (l15 : K.lookup f15 = some ⟨oc15, od15, .func (PySem.W.fnOf "without" "without" (defArgs sWithout) (defBody sWithout) (defScope sWithout) .none kV15 dc15 pm15 an15 cd15 ct15), sl15⟩)
    (c15 : PySem.W.codeIn K cd15 "without" = true)
    (k15 : PySem.W.keepIn K (.ref f15) = true)
    (a16 : PySem.W.nsIn K mainGlobals "steps_of" = some (some (.ref f16)))
    (l16 : K.lookup f16 = some ⟨oc16, od16, .func (PySem.W.fnOf "steps_of" "steps_of" (defArgs sStepsOf) (defBody sStepsOf) (defScope sStepsOf) .none kV16 dc16 pm16 an16 cd16 ct16), sl16⟩)
    (c16 : PySem.W.codeIn K cd16 "steps_of" = true)
    (k16 : PySem.W.keepIn K (.ref f16) = true)
    (a17 : PySem.W.nsIn K mainGlobals "zeros_of" = some (some (.ref f17)))
    (l17 : K.lookup f17 = some ⟨oc17, od17, .func (PySem.W.fnOf "zeros_of" "zeros_of" (defArgs sZerosOf) (defBody sZerosOf) (defScope sZerosOf) .none kV17 dc17 pm17 an17 cd17 ct17), sl17⟩)
    (c17 : PySem.W.codeIn K cd17 "zeros_of" = true)
    (k17 : PySem.W.keepIn K (.ref f17) = true)
    (a18 : PySem.W.nsIn K mainGlobals "right_rows" = some (some (.ref f18)))
    (l18 : K.lookup f18 = some ⟨oc18, od18, .func (PySem.W.fnOf "right_rows" "right_rows" (defArgs sRightRows) (defBody sRightRows) (defScope sRightRows) .none kV18 dc18 pm18 an18 cd18 ct18), sl18⟩)
    (c18 : PySem.W.codeIn K cd18 "right_rows" = true)
    (k18 : PySem.W.keepIn K (.ref f18) = true)
    (a19 : PySem.W.nsIn K mainGlobals "still_of" = some (some (.ref f19)))
    (l19 : K.lookup f19 = some ⟨oc19, od19, .func (PySem.W.fnOf "still_of" "still_of" (defArgs sStillOf) (defBody sStillOf) (defScope sStillOf) .none kV19 dc19 pm19 an19 cd19 ct19), sl19⟩)
    (c19 : PySem.W.codeIn K cd19 "still_of" = true)
    (k19 : PySem.W.keepIn K (.ref f19) = true)
    (a20 : PySem.W.nsIn K mainGlobals "_law_pot" = some (some (.ref f20)))
    (l20 : K.lookup f20 = some ⟨oc20, od20, .func (PySem.W.fnOf "_law_pot" "_law_pot" (defArgs sLPot) (defBody sLPot) (defScope sLPot) .none kV20 dc20 pm20 an20 cd20 ct20), sl20⟩)
    (c20 : PySem.W.codeIn K cd20 "_law_pot" = true)
    (k20 : PySem.W.keepIn K (.ref f20) = true)
    (a21 : PySem.W.nsIn K mainGlobals "_law_draw" = some (some (.ref f21)))
    (l21 : K.lookup f21 = some ⟨oc21, od21, .func (PySem.W.fnOf "_law_draw" "_law_draw" (defArgs sLDraw) (defBody sLDraw) (defScope sLDraw) .none kV21 dc21 pm21 an21 cd21 ct21), sl21⟩)
    (c21 : PySem.W.codeIn K cd21 "_law_draw" = true)
    (k21 : PySem.W.keepIn K (.ref f21) = true)
    (a22 : PySem.W.nsIn K mainGlobals "_law_pick" = some (some (.ref f22)))
    (l22 : K.lookup f22 = some ⟨oc22, od22, .func (PySem.W.fnOf "_law_pick" "_law_pick" (defArgs sLPick) (defBody sLPick) (defScope sLPick) .none kV22 dc22 pm22 an22 cd22 ct22), sl22⟩)
    (c22 : PySem.W.codeIn K cd22 "_law_pick" = true)
    (k22 : PySem.W.keepIn K (.ref f22) = true)
    (a23 : PySem.W.nsIn K mainGlobals "_law_mixed" = some (some (.ref f23)))
    (l23 : K.lookup f23 = some ⟨oc23, od23, .func (PySem.W.fnOf "_law_mixed" "_law_mixed" (defArgs sLMixed) (defBody sLMixed) (defScope sLMixed) .none kV23 dc23 pm23 an23 cd23 ct23), sl23⟩)
    (c23 : PySem.W.codeIn K cd23 "_law_mixed" = true)
    (k23 : PySem.W.keepIn K (.ref f23) = true)
    (a24 : PySem.W.nsIn K mainGlobals "_law_dot" = some (some (.ref f24)))
    (l24 : K.lookup f24 = some ⟨oc24, od24, .func (PySem.W.fnOf "_law_dot" "_law_dot" (defArgs sLDot) (defBody sLDot) (defScope sLDot) .none kV24 dc24 pm24 an24 cd24 ct24), sl24⟩)
    (c24 : PySem.W.codeIn K cd24 "_law_dot" = true)
    (k24 : PySem.W.keepIn K (.ref f24) = true)
    (a25 : PySem.W.nsIn K mainGlobals "_law_led" = some (some (.ref f25)))
    (l25 : K.lookup f25 = some ⟨oc25, od25, .func (PySem.W.fnOf "_law_led" "_law_led" (defArgs sLLed) (defBody sLLed) (defScope sLLed) .none kV25 dc25 pm25 an25 cd25 ct25), sl25⟩)
    (c25 : PySem.W.codeIn K cd25 "_law_led" = true)
    (k25 : PySem.W.keepIn K (.ref f25) = true)
    (a26 : PySem.W.nsIn K mainGlobals "_law_between" = some (some (.ref f26)))
    (l26 : K.lookup f26 = some ⟨oc26, od26, .func (PySem.W.fnOf "_law_between" "_law_between" (defArgs sLBetween) (defBody sLBetween) (defScope sLBetween) .none kV26 dc26 pm26 an26 cd26 ct26), sl26⟩)
    (c26 : PySem.W.codeIn K cd26 "_law_between" = true)
    (k26 : PySem.W.keepIn K (.ref f26) = true)
    (a27 : PySem.W.nsIn K mainGlobals "_law_units" = some (some (.ref f27)))
    (l27 : K.lookup f27 = some ⟨oc27, od27, .func (PySem.W.fnOf "_law_units" "_law_units" (defArgs sLUnits) (defBody sLUnits) (defScope sLUnits) .none kV27 dc27 pm27 an27 cd27 ct27), sl27⟩)
    (c27 : PySem.W.codeIn K cd27 "_law_units" = true)
    (k27 : PySem.W.keepIn K (.ref f27) = true)
    (a28 : PySem.W.nsIn K mainGlobals "_law_room_by" = some (some (.ref f28)))
    (l28 : K.lookup f28 = some ⟨oc28, od28, .func (PySem.W.fnOf "_law_room_by" "_law_room_by" (defArgs sLRoomBy) (defBody sLRoomBy) (defScope sLRoomBy) .none kV28 dc28 pm28 an28 cd28 ct28), sl28⟩)
    (c28 : PySem.W.codeIn K cd28 "_law_room_by" = true)
    (k28 : PySem.W.keepIn K (.ref f28) = true)
    (a29 : PySem.W.nsIn K mainGlobals "_law_turn" = some (some (.ref f29)))
    (l29 : K.lookup f29 = some ⟨oc29, od29, .func (PySem.W.fnOf "_law_turn" "_law_turn" (defArgs sLTurn) (defBody sLTurn) (defScope sLTurn) .none kV29 dc29 pm29 an29 cd29 ct29), sl29⟩)
    (c29 : PySem.W.codeIn K cd29 "_law_turn" = true)
    (k29 : PySem.W.keepIn K (.ref f29) = true)
    (a30 : PySem.W.nsIn K mainGlobals "_law_steps" = some (some (.ref f30)))
    (l30 : K.lookup f30 = some ⟨oc30, od30, .func (PySem.W.fnOf "_law_steps" "_law_steps" (defArgs sLSteps) (defBody sLSteps) (defScope sLSteps) .none kV30 dc30 pm30 an30 cd30 ct30), sl30⟩)
    (c30 : PySem.W.codeIn K cd30 "_law_steps" = true)
    (k30 : PySem.W.keepIn K (.ref f30) = true)
    (a31 : PySem.W.nsIn K mainGlobals "_law_less" = some (some (.ref f31)))
    (l31 : K.lookup f31 = some ⟨oc31, od31, .func (PySem.W.fnOf "_law_less" "_law_less" (defArgs sLLess) (defBody sLLess) (defScope sLLess) .none kV31 dc31 pm31 an31 cd31 ct31), sl31⟩)
    (c31 : PySem.W.codeIn K cd31 "_law_less" = true)
    (k31 : PySem.W.keepIn K (.ref f31) = true)
    (a32 : PySem.W.nsIn K mainGlobals "_law_angles" = some (some (.ref f32)))
    (l32 : K.lookup f32 = some ⟨oc32, od32, .func (PySem.W.fnOf "_law_angles" "_law_angles" (defArgs sLAngles) (defBody sLAngles) (defScope sLAngles) .none kV32 dc32 pm32 an32 cd32 ct32), sl32⟩)
    (c32 : PySem.W.codeIn K cd32 "_law_angles" = true)
    (k32 : PySem.W.keepIn K (.ref f32) = true)
    (a33 : PySem.W.nsIn K mainGlobals "_law_still" = some (some (.ref f33)))
    (l33 : K.lookup f33 = some ⟨oc33, od33, .func (PySem.W.fnOf "_law_still" "_law_still" (defArgs sLStill) (defBody sLStill) (defScope sLStill) .none kV33 dc33 pm33 an33 cd33 ct33), sl33⟩)
    (c33 : PySem.W.codeIn K cd33 "_law_still" = true)
    (k33 : PySem.W.keepIn K (.ref f33) = true)
    (a34 : PySem.W.nsIn K mainGlobals "_law_letters" = some (some (.ref f34)))
    (l34 : K.lookup f34 = some ⟨oc34, od34, .func (PySem.W.fnOf "_law_letters" "_law_letters" (defArgs sLLetters) (defBody sLLetters) (defScope sLLetters) .none kV34 dc34 pm34 an34 cd34 ct34), sl34⟩)
    (c34 : PySem.W.codeIn K cd34 "_law_letters" = true)
    (k34 : PySem.W.keepIn K (.ref f34) = true)
    (a35 : PySem.W.nsIn K mainGlobals "_law_grid" = some (some (.ref f35)))
    (l35 : K.lookup f35 = some ⟨oc35, od35, .func (PySem.W.fnOf "_law_grid" "_law_grid" (defArgs sLGrid) (defBody sLGrid) (defScope sLGrid) .none kV35 dc35 pm35 an35 cd35 ct35), sl35⟩)
    (c35 : PySem.W.codeIn K cd35 "_law_grid" = true)
    (k35 : PySem.W.keepIn K (.ref f35) = true)
    (a36 : PySem.W.nsIn K mainGlobals "_law_drawn" = some (some (.ref f36)))
    (l36 : K.lookup f36 = some ⟨oc36, od36, .func (PySem.W.fnOf "_law_drawn" "_law_drawn" (defArgs sLDrawn) (defBody sLDrawn) (defScope sLDrawn) .none kV36 dc36 pm36 an36 cd36 ct36), sl36⟩)
    (c36 : PySem.W.codeIn K cd36 "_law_drawn" = true)
    (k36 : PySem.W.keepIn K (.ref f36) = true)
    (a37 : PySem.W.nsIn K mainGlobals "_law_given" = some (some (.ref f37)))
    (l37 : K.lookup f37 = some ⟨oc37, od37, .func (PySem.W.fnOf "_law_given" "_law_given" (defArgs sLGiven) (defBody sLGiven) (defScope sLGiven) .none kV37 dc37 pm37 an37 cd37 ct37), sl37⟩)
    (c37 : PySem.W.codeIn K cd37 "_law_given" = true)
    (k37 : PySem.W.keepIn K (.ref f37) = true)
    (a38 : PySem.W.nsIn K mainGlobals "_law_is_table" = some (some (.ref f38)))
    (l38 : K.lookup f38 = some ⟨oc38, od38, .func (PySem.W.fnOf "_law_is_table" "_law_is_table" (defArgs sLIsTable) (defBody sLIsTable) (defScope sLIsTable) .none kV38 dc38 pm38 an38 cd38 ct38), sl38⟩)
    (c38 : PySem.W.codeIn K cd38 "_law_is_table" = true)
    (k38 : PySem.W.keepIn K (.ref f38) = true)
    (a39 : PySem.W.nsIn K mainGlobals "_law_bent" = some (some (.ref f39)))
    (l39 : K.lookup f39 = some ⟨oc39, od39, .func (PySem.W.fnOf "_law_bent" "_law_bent" (defArgs sLBent) (defBody sLBent) (defScope sLBent) .none kV39 dc39 pm39 an39 cd39 ct39), sl39⟩)
    (c39 : PySem.W.codeIn K cd39 "_law_bent" = true)
    (k39 : PySem.W.keepIn K (.ref f39) = true)
    (a40 : PySem.W.nsIn K mainGlobals "_law_told_right" = some (some (.ref f40)))
    (l40 : K.lookup f40 = some ⟨oc40, od40, .func (PySem.W.fnOf "_law_told_right" "_law_told_right" (defArgs sLToldRight) (defBody sLToldRight) (defScope sLToldRight) .none kV40 dc40 pm40 an40 cd40 ct40), sl40⟩)
    (c40 : PySem.W.codeIn K cd40 "_law_told_right" = true)
    (k40 : PySem.W.keepIn K (.ref f40) = true)
    (a41 : PySem.W.nsIn K mainGlobals "_law_right" = some (some (.ref f41)))
    (l41 : K.lookup f41 = some ⟨oc41, od41, .func (PySem.W.fnOf "_law_right" "_law_right" (defArgs sLRight) (defBody sLRight) (defScope sLRight) .none kV41 dc41 pm41 an41 cd41 ct41), sl41⟩)
    (c41 : PySem.W.codeIn K cd41 "_law_right" = true)
    (k41 : PySem.W.keepIn K (.ref f41) = true)
    (a42 : PySem.W.nsIn K mainGlobals "law" = some (some (.ref f42)))
    (l42 : K.lookup f42 = some ⟨oc42, od42, .func (PySem.W.fnOf "law" "law" (defArgs sLaw) (defBody sLaw) (defScope sLaw) .none kV42 dc42 pm42 an42 cd42 ct42), sl42⟩)
    (c42 : PySem.W.codeIn K cd42 "law" = true)
    (k42 : PySem.W.keepIn K (.ref f42) = true)
    (b_isinstance : PySem.W.nsIn K mainGlobals "isinstance" = some none)
    (b_int : PySem.W.nsIn K mainGlobals "int" = some none)
    (b_bool : PySem.W.nsIn K mainGlobals "bool" = some none)
    (b_list : PySem.W.nsIn K mainGlobals "list" = some none)
    (b_tuple : PySem.W.nsIn K mainGlobals "tuple" = some none)
    (b_range : PySem.W.nsIn K mainGlobals "range" = some none)
    (b_zip : PySem.W.nsIn K mainGlobals "zip" = some none)
    (b_len : PySem.W.nsIn K mainGlobals "len" = some none)
    (b_all : PySem.W.nsIn K mainGlobals "all" = some none)
    (b_any : PySem.W.nsIn K mainGlobals "any" = some none)
    (b_enumerate : PySem.W.nsIn K mainGlobals "enumerate" = some none)
    (b_sum : PySem.W.nsIn K mainGlobals "sum" = some none)
    (b_abs : PySem.W.nsIn K mainGlobals "abs" = some none)
    (b_max : PySem.W.nsIn K mainGlobals "max" = some none)
    (b_divmod : PySem.W.nsIn K mainGlobals "divmod" = some none)
    (b_repr : PySem.W.nsIn K mainGlobals "repr" = some none)
    (b_str : PySem.W.nsIn K mainGlobals "str" = some none)
    (pr : PySem.W.nsIn K mainGlobals "PRIMES" = some (some (.ref aPr)))
    (lpr : K.lookup aPr = some ⟨.type "tuple", dPr, .seq #[.int 3 t1, .int 5 t2, .int 7 t3, .int 11 t4, .int 13 t5] nPr, slPr⟩)
    (ms : PySem.W.nsIn K mainGlobals "MOST_SIZE" = some (some (.int 6 tM)))
    (aC : PySem.W.nsIn K mainGlobals "InvalidRows" = some (some (.ref C)))
    (xC : K.lookup C = some (excClassObj nmC qC C NC bsC [.ref RE, .type "ValueError", .type "Exception", .type "BaseException", .type "object"] true snC subC abC colC ddC m0C m1C m2C m3C m5C "ValueError.__new__"))
    (saC : PySem.W.findIn K (.ref C) "__setattr__" = some (some (.builtin "object.__setattr__")))
    (exC : PySem.W.subIn K (.ref C) (.type "BaseException") = some true)
    (tyC : PySem.W.typeIn K (.ref C) = some (.type "type"))
    (kC : PySem.W.keepIn K (.ref C) = true)
    (nvC : PySem.W.findIn K (.ref C) "value" = some none)
    (iC : PySem.W.findIn K (.ref C) "__init__" = some (some (.ref fCI)))
    (tI : PySem.W.typeIn K (.ref fCI) = some (.type "function"))
    (icC : PySem.W.isClsIn K C = true)
    (scC : PySem.W.subIn K (.ref C) (.ref C) = some true)
    (lCI : K.lookup fCI = some ⟨ocCI, odCI, .func (PySem.W.fnOf "__init__" "InvalidRows.__init__" (defArgs sInvalidRowsInit) (defBody sInvalidRowsInit) (defScope sInvalidRowsInit) .none kVCI dcCI pmCI anCI cdCI ctCI), slCI⟩)
    (cCI : PySem.W.codeIn K cdCI "InvalidRows.__init__" = true)
    (kCI : PySem.W.keepIn K (.ref fCI) = true)
    (aR : PySem.W.nsIn K mainGlobals "Room" = some (some (.ref R)))
    (xR : K.lookup R = some (excClassObj nmR qR R NR bsR [.type "object"] hdR snR subR abR colR ddR m0R m1R m2R m3R m5R newR))
    (nsR : PySem.W.nsOkIn K NR = true)
    (eqR : PySem.W.nsIn K NR "__eq__" = some (some (.ref fRE2)))
    (neR : PySem.W.nsIn K NR "__ne__" = some none)
    (pgR : PySem.W.plainGet K R Str.empty = true)
    (hdR2 : PySem.W.hasDictIn K R = true)
    (poR : PySem.W.plainOver K R = true)
    (saR : PySem.W.findIn K (.ref R) "__setattr__" = some (some (.builtin "object.__setattr__")))
    (haR : PySem.W.findIn K (.ref R) "__class__" = some (some (.builtin "object.__class__")))
    (hnR : PySem.W.specialIn K (.builtin "object.__class__") "__get__" = some (some (.builtin "getset_descriptor.__get__")))
    (htR : PySem.W.takesIn K (.builtin "object.__class__") = some true)
    (hmR : PySem.W.mroIn K R (.type "object") = some true)
    (npR : PySem.W.findIn K (.ref R) "own_prime" = some none)
    (nrR : PySem.W.findIn K (.ref R) "own_rows" = some none)
    (aKn : PySem.W.nsIn K mainGlobals "Known" = some (some (.ref Kn)))
    (kKn : PySem.W.kitOne K (.type "int") (.ref Kn) = some false)
    (kt_NoneType : PySem.W.kitOne K (.type "NoneType") (.ref R) = some false)
    (kt_bool : PySem.W.kitOne K (.type "bool") (.ref R) = some false)
    (kt_int : PySem.W.kitOne K (.type "int") (.ref R) = some false)
    (kt_str : PySem.W.kitOne K (.type "str") (.ref R) = some false)
    (kt_list : PySem.W.kitOne K (.type "list") (.ref R) = some false)
    (kt_tuple : PySem.W.kitOne K (.type "tuple") (.ref R) = some false)
    (nf_R : PySem.W.notFirst K R (.ref R) = true)
    (nf_tuple : PySem.W.notFirst K R (.type "tuple") = true)
    (nf_list : PySem.W.notFirst K R (.type "list") = true)
    (nf_NoneType : PySem.W.notFirst K R (.type "NoneType") = true)
    (nf_str : PySem.W.notFirst K R (.type "str") = true)
    (nf_int : PySem.W.notFirst K R (.type "int") = true)
    (nf_bool : PySem.W.notFirst K R (.type "bool") = true)
    (mkR : PySem.W.makesIn K R = true)
    (kcR : PySem.W.keepIn K (.ref R) = true)
    (iRI : PySem.W.findIn K (.ref R) "__init__" = some (some (.ref fRI)))
    (fnRI : PySem.W.isFn K (.ref fRI) = true)
    (lRI : K.lookup fRI = some ⟨ocRI, odRI, .func (PySem.W.fnOf "__init__" "Room.__init__" (defArgs sRoomInit) (defBody sRoomInit) (defScope sRoomInit) (.ref TRI) kVRI dcRI pmRI anRI cdRI ctRI), slRI⟩)
    (cRI : PySem.W.codeIn K cdRI "Room.__init__" = true)
    (kRI : PySem.W.keepIn K (.ref fRI) = true)
    (lTRI : K.lookup TRI = some ⟨cTRI, dTRI, .seq #[.ref eRI] nTRI, slTRI⟩)
    (atRP : PySem.W.findIn K (.ref R) "prime" = some (some (.ref ppRP)))
    (gtRP : PySem.W.specialIn K (.ref ppRP) "__get__" = some (some (.builtin "property.__get__")))
    (tkRP : PySem.W.takesIn K (.ref ppRP) = some true)
    (rcRP : PySem.W.recIn K ppRP "property" = some (.ref fRP :: rsRP))
    (lRP : K.lookup fRP = some ⟨ocRP, odRP, .func (PySem.W.fnOf "prime" "Room.prime" (defArgs sRoomPrime) (defBody sRoomPrime) (defScope sRoomPrime) .none kVRP dcRP pmRP anRP cdRP ctRP), slRP⟩)
    (cRP : PySem.W.codeIn K cdRP "Room.prime" = true)
    (kRP : PySem.W.keepIn K (.ref fRP) = true)
    (atRS : PySem.W.findIn K (.ref R) "size" = some (some (.ref ppRS)))
    (gtRS : PySem.W.specialIn K (.ref ppRS) "__get__" = some (some (.builtin "property.__get__")))
    (tkRS : PySem.W.takesIn K (.ref ppRS) = some true)
    (rcRS : PySem.W.recIn K ppRS "property" = some (.ref fRS :: rsRS))
    (lRS : K.lookup fRS = some ⟨ocRS, odRS, .func (PySem.W.fnOf "size" "Room.size" (defArgs sRoomSize) (defBody sRoomSize) (defScope sRoomSize) .none kVRS dcRS pmRS anRS cdRS ctRS), slRS⟩)
    (cRS : PySem.W.codeIn K cdRS "Room.size" = true)
    (kRS : PySem.W.keepIn K (.ref fRS) = true)
    (atRK : PySem.W.findIn K (.ref R) "rank" = some (some (.ref ppRK)))
    (gtRK : PySem.W.specialIn K (.ref ppRK) "__get__" = some (some (.builtin "property.__get__")))
    (tkRK : PySem.W.takesIn K (.ref ppRK) = some true)
    (rcRK : PySem.W.recIn K ppRK "property" = some (.ref fRK :: rsRK))
    (lRK : K.lookup fRK = some ⟨ocRK, odRK, .func (PySem.W.fnOf "rank" "Room.rank" (defArgs sRoomRank) (defBody sRoomRank) (defScope sRoomRank) .none kVRK dcRK pmRK anRK cdRK ctRK), slRK⟩)
    (cRK : PySem.W.codeIn K cdRK "Room.rank" = true)
    (kRK : PySem.W.keepIn K (.ref fRK) = true)
    (atRR : PySem.W.findIn K (.ref R) "rows" = some (some (.ref fRR)))
    (fnRR : PySem.W.isFn K (.ref fRR) = true)
    (lRR : K.lookup fRR = some ⟨ocRR, odRR, .func (PySem.W.fnOf "rows" "Room.rows" (defArgs sRoomRows) (defBody sRoomRows) (defScope sRoomRows) .none kVRR dcRR pmRR anRR cdRR ctRR), slRR⟩)
    (cRR : PySem.W.codeIn K cdRR "Room.rows" = true)
    (kRR : PySem.W.keepIn K (.ref fRR) = true)
    (atRT : PySem.W.findIn K (.ref R) "still" = some (some (.ref fRT)))
    (fnRT : PySem.W.isFn K (.ref fRT) = true)
    (lRT : K.lookup fRT = some ⟨ocRT, odRT, .func (PySem.W.fnOf "still" "Room.still" (defArgs sRoomStill) (defBody sRoomStill) (defScope sRoomStill) .none kVRT dcRT pmRT anRT cdRT ctRT), slRT⟩)
    (cRT : PySem.W.codeIn K cdRT "Room.still" = true)
    (kRT : PySem.W.keepIn K (.ref fRT) = true)
    (atRE2 : PySem.W.findIn K (.ref R) "__eq__" = some (some (.ref fRE2)))
    (fnRE2 : PySem.W.isFn K (.ref fRE2) = true)
    (lRE2 : K.lookup fRE2 = some ⟨ocRE2, odRE2, .func (PySem.W.fnOf "__eq__" "Room.__eq__" (defArgs sRoomEq) (defBody sRoomEq) (defScope sRoomEq) .none kVRE2 dcRE2 pmRE2 anRE2 cdRE2 ctRE2), slRE2⟩)
    (cRE2 : PySem.W.codeIn K cdRE2 "Room.__eq__" = true)
    (kRE2 : PySem.W.keepIn K (.ref fRE2) = true)
    (atRX : PySem.W.findIn K (.ref R) "__repr__" = some (some (.ref fRX)))
    (fnRX : PySem.W.isFn K (.ref fRX) = true)
    (lRX : K.lookup fRX = some ⟨ocRX, odRX, .func (PySem.W.fnOf "__repr__" "Room.__repr__" (defArgs sRoomRepr) (defBody sRoomRepr) (defScope sRoomRepr) .none kVRX dcRX pmRX anRX cdRX ctRX), slRX⟩)
    (cRX : PySem.W.codeIn K cdRX "Room.__repr__" = true)
    (kRX : PySem.W.keepIn K (.ref fRX) = true)
    : ∃ fd : FuncData, (∀ (s : Shared) (u : Value), BindsTo s fd ⟨[u], []⟩ [("_law_script", u)]) ∧ ∀ base : Heap, K.In base → base.Ns mainGlobals mg → FnG P w K mg base CX0 9 fa fd ["_law_script"] (spLaw K) := by
  have e := hfa.symm.trans (PySem.W.mg_of KX G a42)
  cases e
  have DIsInteger : DefIn K mg "is_integer" sIsInteger ["value"] := ⟨f0, _, fun_mk (st := sIsInteger) l0 c0 k0, PySem.W.mg_of KX G a0, (fun_mk (st := sIsInteger) l0 c0 k0).binds fun _ _ _ _ _ _ us hl => match us, hl with | [_], _ => rfl⟩
  have DIsList : DefIn K mg "is_list" sIsList ["value"] := ⟨f1, _, fun_mk (st := sIsList) l1 c1 k1, PySem.W.mg_of KX G a1, (fun_mk (st := sIsList) l1 c1 k1).binds fun _ _ _ _ _ _ us hl => match us, hl with | [_], _ => rfl⟩
  have DPowerOf : DefIn K mg "power_of" sPowerOf ["prime", "number", "many"] := ⟨f2, _, fun_mk (st := sPowerOf) l2 c2 k2, PySem.W.mg_of KX G a2, (fun_mk (st := sPowerOf) l2 c2 k2).binds fun _ _ _ _ _ _ us hl => match us, hl with | [_, _, _], _ => rfl⟩
  have DUndoneOf : DefIn K mg "undone_of" sUndoneOf ["prime", "rest"] := ⟨f3, _, fun_mk (st := sUndoneOf) l3 c3 k3, PySem.W.mg_of KX G a3, (fun_mk (st := sUndoneOf) l3 c3 k3).binds fun _ _ _ _ _ _ us hl => match us, hl with | [_, _], _ => rfl⟩
  have DIsRestBy : DefIn K mg "is_rest_by" sIsRestBy ["prime", "value"] := ⟨f4, _, fun_mk (st := sIsRestBy) l4 c4 k4, PySem.W.mg_of KX G a4, (fun_mk (st := sIsRestBy) l4 c4 k4).binds fun _ _ _ _ _ _ us hl => match us, hl with | [_, _], _ => rfl⟩
  have DWantPrime : DefIn K mg "want_prime" sWantPrime ["value"] := ⟨f5, _, fun_mk (st := sWantPrime) l5 c5 k5, PySem.W.mg_of KX G a5, (fun_mk (st := sWantPrime) l5 c5 k5).binds fun _ _ _ _ _ _ us hl => match us, hl with | [_], _ => rfl⟩
  have DIsPrime : DefIn K mg "is_prime" sIsPrime ["value"] := ⟨f6, _, fun_mk (st := sIsPrime) l6 c6 k6, PySem.W.mg_of KX G a6, (fun_mk (st := sIsPrime) l6 c6 k6).binds fun _ _ _ _ _ _ us hl => match us, hl with | [_], _ => rfl⟩
  have DUnit : DefIn K mg "unit" sUnit ["size", "place"] := ⟨f7, _, fun_mk (st := sUnit) l7 c7 k7, PySem.W.mg_of KX G a7, (fun_mk (st := sUnit) l7 c7 k7).binds fun _ _ _ _ _ _ us hl => match us, hl with | [_, _], _ => rfl⟩
  have DSumOf : DefIn K mg "sum_of" sSumOf ["prime", "row", "other", "rest"] := ⟨f8, _, fun_mk (st := sSumOf) l8 c8 k8, PySem.W.mg_of KX G a8, (fun_mk (st := sSumOf) l8 c8 k8).binds fun _ _ _ _ _ _ us hl => match us, hl with | [_, _, _, _], _ => rfl⟩
  have DScaledOf : DefIn K mg "scaled_of" sScaledOf ["prime", "row", "rest"] := ⟨f9, _, fun_mk (st := sScaledOf) l9 c9 k9, PySem.W.mg_of KX G a9, (fun_mk (st := sScaledOf) l9 c9 k9).binds fun _ _ _ _ _ _ us hl => match us, hl with | [_, _, _], _ => rfl⟩
  have DTurnedOf : DefIn K mg "turned_of" sTurnedOf ["table"] := ⟨f10, _, fun_mk (st := sTurnedOf) l10 c10 k10, PySem.W.mg_of KX G a10, (fun_mk (st := sTurnedOf) l10 c10 k10).binds fun _ _ _ _ _ _ us hl => match us, hl with | [_], _ => rfl⟩
  have DRowIn : DefIn K mg "row_in" sRowIn ["prime", "value", "size"] := ⟨f11, _, fun_mk (st := sRowIn) l11 c11 k11, PySem.W.mg_of KX G a11, (fun_mk (st := sRowIn) l11 c11 k11).binds fun _ _ _ _ _ _ us hl => match us, hl with | [_, _, _], _ => rfl⟩
  have DTableIn : DefIn K mg "table_in" sTableIn ["prime", "value"] := ⟨f12, _, fun_mk (st := sTableIn) l12 c12 k12, PySem.W.mg_of KX G a12, (fun_mk (st := sTableIn) l12 c12 k12).binds fun _ _ _ _ _ _ us hl => match us, hl with | [_, _], _ => rfl⟩
  have DHeadOf : DefIn K mg "head_of" sHeadOf ["row"] := ⟨f13, _, fun_mk (st := sHeadOf) l13 c13 k13, PySem.W.mg_of KX G a13, (fun_mk (st := sHeadOf) l13 c13 k13).binds fun _ _ _ _ _ _ us hl => match us, hl with | [_], _ => rfl⟩
  have DHeadsOf : DefIn K mg "heads_of" sHeadsOf ["steps"] := ⟨f14, _, fun_mk (st := sHeadsOf) l14 c14 k14, PySem.W.mg_of KX G a14, (fun_mk (st := sHeadsOf) l14 c14 k14).binds fun _ _ _ _ _ _ us hl => match us, hl with | [_], _ => rfl⟩
  have DWithout : DefIn K mg "without" sWithout ["prime", "row", "head", "place"] := ⟨f15, _, fun_mk (st := sWithout) l15 c15 k15, PySem.W.mg_of KX G a15, (fun_mk (st := sWithout) l15 c15 k15).binds fun _ _ _ _ _ _ us hl => match us, hl with | [_, _, _, _], _ => rfl⟩
  have DStepsOf : DefIn K mg "steps_of" sStepsOf ["prime", "rows"] := ⟨f16, _, fun_mk (st := sStepsOf) l16 c16 k16, PySem.W.mg_of KX G a16, (fun_mk (st := sStepsOf) l16 c16 k16).binds fun _ _ _ _ _ _ us hl => match us, hl with | [_, _], _ => rfl⟩
  have DZerosOf : DefIn K mg "zeros_of" sZerosOf ["prime", "size", "rows"] := ⟨f17, _, fun_mk (st := sZerosOf) l17 c17 k17, PySem.W.mg_of KX G a17, (fun_mk (st := sZerosOf) l17 c17 k17).binds fun _ _ _ _ _ _ us hl => match us, hl with | [_, _, _], _ => rfl⟩
  have DRightRows : DefIn K mg "right_rows" sRightRows ["prime", "value"] := ⟨f18, _, fun_mk (st := sRightRows) l18 c18 k18, PySem.W.mg_of KX G a18, (fun_mk (st := sRightRows) l18 c18 k18).binds fun _ _ _ _ _ _ us hl => match us, hl with | [_, _], _ => rfl⟩
  have DStillOf : DefIn K mg "still_of" sStillOf ["room"] := ⟨f19, _, fun_mk (st := sStillOf) l19 c19 k19, PySem.W.mg_of KX G a19, (fun_mk (st := sStillOf) l19 c19 k19).binds fun _ _ _ _ _ _ us hl => match us, hl with | [_], _ => rfl⟩
  have DLPot : DefIn K mg "_law_pot" sLPot ["_law_script", "_law_k"] := ⟨f20, _, fun_mk (st := sLPot) l20 c20 k20, PySem.W.mg_of KX G a20, (fun_mk (st := sLPot) l20 c20 k20).binds fun _ _ _ _ _ _ us hl => match us, hl with | [_, _], _ => rfl⟩
  have DLDraw : DefIn K mg "_law_draw" sLDraw ["_law_pot_here", "_law_many"] := ⟨f21, _, fun_mk (st := sLDraw) l21 c21 k21, PySem.W.mg_of KX G a21, (fun_mk (st := sLDraw) l21 c21 k21).binds fun _ _ _ _ _ _ us hl => match us, hl with | [_, _], _ => rfl⟩
  have DLPick : DefIn K mg "_law_pick" sLPick ["_law_pot_here", "_law_some"] := ⟨f22, _, fun_mk (st := sLPick) l22 c22 k22, PySem.W.mg_of KX G a22, (fun_mk (st := sLPick) l22 c22 k22).binds fun _ _ _ _ _ _ us hl => match us, hl with | [_, _], _ => rfl⟩
  have DLMixed : DefIn K mg "_law_mixed" sLMixed ["_law_pot_here", "_law_some"] := ⟨f23, _, fun_mk (st := sLMixed) l23 c23 k23, PySem.W.mg_of KX G a23, (fun_mk (st := sLMixed) l23 c23 k23).binds fun _ _ _ _ _ _ us hl => match us, hl with | [_, _], _ => rfl⟩
  have DLDot : DefIn K mg "_law_dot" sLDot ["_law_prime", "_law_one", "_law_other"] := ⟨f24, _, fun_mk (st := sLDot) l24 c24 k24, PySem.W.mg_of KX G a24, (fun_mk (st := sLDot) l24 c24 k24).binds fun _ _ _ _ _ _ us hl => match us, hl with | [_, _, _], _ => rfl⟩
  have DLLed : DefIn K mg "_law_led" sLLed ["_law_prime", "_law_row", "_law_table"] := ⟨f25, _, fun_mk (st := sLLed) l25 c25 k25, PySem.W.mg_of KX G a25, (fun_mk (st := sLLed) l25 c25 k25).binds fun _ _ _ _ _ _ us hl => match us, hl with | [_, _, _], _ => rfl⟩
  have DLBetween : DefIn K mg "_law_between" sLBetween ["_law_prime", "_law_grid_here", "_law_one", "_law_other"] := ⟨f26, _, fun_mk (st := sLBetween) l26 c26 k26, PySem.W.mg_of KX G a26, (fun_mk (st := sLBetween) l26 c26 k26).binds fun _ _ _ _ _ _ us hl => match us, hl with | [_, _, _, _], _ => rfl⟩
  have DLUnits : DefIn K mg "_law_units" sLUnits ["_law_size"] := ⟨f27, _, fun_mk (st := sLUnits) l27 c27 k27, PySem.W.mg_of KX G a27, (fun_mk (st := sLUnits) l27 c27 k27).binds fun _ _ _ _ _ _ us hl => match us, hl with | [_], _ => rfl⟩
  have DLRoomBy : DefIn K mg "_law_room_by" sLRoomBy ["_law_prime", "_law_grid_here", "_law_table"] := ⟨f28, _, fun_mk (st := sLRoomBy) l28 c28 k28, PySem.W.mg_of KX G a28, (fun_mk (st := sLRoomBy) l28 c28 k28).binds fun _ _ _ _ _ _ us hl => match us, hl with | [_, _, _], _ => rfl⟩
  have DLTurn : DefIn K mg "_law_turn" sLTurn ["_law_prime", "_law_rest"] := ⟨f29, _, fun_mk (st := sLTurn) l29 c29 k29, PySem.W.mg_of KX G a29, (fun_mk (st := sLTurn) l29 c29 k29).binds fun _ _ _ _ _ _ us hl => match us, hl with | [_, _], _ => rfl⟩
  have DLSteps : DefIn K mg "_law_steps" sLSteps ["_law_prime", "_law_rows"] := ⟨f30, _, fun_mk (st := sLSteps) l30 c30 k30, PySem.W.mg_of KX G a30, (fun_mk (st := sLSteps) l30 c30 k30).binds fun _ _ _ _ _ _ us hl => match us, hl with | [_, _], _ => rfl⟩
  have DLLess : DefIn K mg "_law_less" sLLess ["_law_prime", "_law_row", "_law_head", "_law_much"] := ⟨f31, _, fun_mk (st := sLLess) l31 c31 k31, PySem.W.mg_of KX G a31, (fun_mk (st := sLLess) l31 c31 k31).binds fun _ _ _ _ _ _ us hl => match us, hl with | [_, _, _, _], _ => rfl⟩
  have DLAngles : DefIn K mg "_law_angles" sLAngles ["_law_prime", "_law_grid_here", "_law_rows"] := ⟨f32, _, fun_mk (st := sLAngles) l32 c32 k32, PySem.W.mg_of KX G a32, (fun_mk (st := sLAngles) l32 c32 k32).binds fun _ _ _ _ _ _ us hl => match us, hl with | [_, _, _], _ => rfl⟩
  have DLStill : DefIn K mg "_law_still" sLStill ["_law_prime", "_law_grid_here"] := ⟨f33, _, fun_mk (st := sLStill) l33 c33 k33, PySem.W.mg_of KX G a33, (fun_mk (st := sLStill) l33 c33 k33).binds fun _ _ _ _ _ _ us hl => match us, hl with | [_, _], _ => rfl⟩
  have DLLetters : DefIn K mg "_law_letters" sLLetters ["_law_pot_here", "_law_prime", "_law_size"] := ⟨f34, _, fun_mk (st := sLLetters) l34 c34 k34, PySem.W.mg_of KX G a34, (fun_mk (st := sLLetters) l34 c34 k34).binds fun _ _ _ _ _ _ us hl => match us, hl with | [_, _, _], _ => rfl⟩
  have DLGrid : DefIn K mg "_law_grid" sLGrid ["_law_pot_here", "_law_prime", "_law_size"] := ⟨f35, _, fun_mk (st := sLGrid) l35 c35 k35, PySem.W.mg_of KX G a35, (fun_mk (st := sLGrid) l35 c35 k35).binds fun _ _ _ _ _ _ us hl => match us, hl with | [_, _, _], _ => rfl⟩
  have DLDrawn : DefIn K mg "_law_drawn" sLDrawn ["_law_pot_here", "_law_most"] := ⟨f36, _, fun_mk (st := sLDrawn) l36 c36 k36, PySem.W.mg_of KX G a36, (fun_mk (st := sLDrawn) l36 c36 k36).binds fun _ _ _ _ _ _ us hl => match us, hl with | [_, _], _ => rfl⟩
  have DLGiven : DefIn K mg "_law_given" sLGiven ["_law_pot_here", "_law_rows"] := ⟨f37, _, fun_mk (st := sLGiven) l37 c37 k37, PySem.W.mg_of KX G a37, (fun_mk (st := sLGiven) l37 c37 k37).binds fun _ _ _ _ _ _ us hl => match us, hl with | [_, _], _ => rfl⟩
  have DLIsTable : DefIn K mg "_law_is_table" sLIsTable ["_law_prime", "_law_value"] := ⟨f38, _, fun_mk (st := sLIsTable) l38 c38 k38, PySem.W.mg_of KX G a38, (fun_mk (st := sLIsTable) l38 c38 k38).binds fun _ _ _ _ _ _ us hl => match us, hl with | [_, _], _ => rfl⟩
  have DLBent : DefIn K mg "_law_bent" sLBent ["_law_pot_here", "_law_prime", "_law_grid_here"] := ⟨f39, _, fun_mk (st := sLBent) l39 c39 k39, PySem.W.mg_of KX G a39, (fun_mk (st := sLBent) l39 c39 k39).binds fun _ _ _ _ _ _ us hl => match us, hl with | [_, _, _], _ => rfl⟩
  have DLToldRight : DefIn K mg "_law_told_right" sLToldRight ["_law_room", "_law_prime", "_law_grid_here"] := ⟨f40, _, fun_mk (st := sLToldRight) l40 c40 k40, PySem.W.mg_of KX G a40, (fun_mk (st := sLToldRight) l40 c40 k40).binds fun _ _ _ _ _ _ us hl => match us, hl with | [_, _, _], _ => rfl⟩
  have DLRight : DefIn K mg "_law_right" sLRight ["_law_pot_here"] := ⟨f41, _, fun_mk (st := sLRight) l41 c41 k41, PySem.W.mg_of KX G a41, (fun_mk (st := sLRight) l41 c41 k41).binds fun _ _ _ _ _ _ us hl => match us, hl with | [_], _ => rfl⟩
  have B : Bt mg := ⟨PySem.W.mg_none_of KX G b_isinstance, PySem.W.mg_none_of KX G b_int, PySem.W.mg_none_of KX G b_bool, PySem.W.mg_none_of KX G b_list, PySem.W.mg_none_of KX G b_tuple, PySem.W.mg_none_of KX G b_range, PySem.W.mg_none_of KX G b_zip, PySem.W.mg_none_of KX G b_len, PySem.W.mg_none_of KX G b_all, PySem.W.mg_none_of KX G b_any, PySem.W.mg_none_of KX G b_enumerate, PySem.W.mg_none_of KX G b_sum, PySem.W.mg_none_of KX G b_abs, PySem.W.mg_none_of KX G b_max, PySem.W.mg_none_of KX G b_divmod, PySem.W.mg_none_of KX G b_repr, PySem.W.mg_none_of KX G b_str⟩
  have Cn : Consts K mg := ⟨⟨aPr, _, _, nPr, PySem.W.mg_of KX G pr, lpr, rfl, rfl, .cons ⟨_, rfl⟩ (.cons ⟨_, rfl⟩ (.cons ⟨_, rfl⟩ (.cons ⟨_, rfl⟩ (.cons ⟨_, rfl⟩ .nil))))⟩, ⟨tM, PySem.W.mg_of KX G ms⟩⟩
  have FCI := fun_mk (st := sInvalidRowsInit) lCI cCI kCI
  have BC : BadC K mg C := ⟨PySem.W.mg_of KX G aC, ⟨⟨nmC, qC, NC, bsC, _, snC, subC, abC, colC, ddC, m0C, m1C, m2C, m3C, m5C, xC, rfl⟩, saC, exC, tyC, kC⟩, nvC, ⟨fCI, _, iC, tI, FCI, FCI.binds fun _ _ _ _ _ _ us hl => match us, hl with | [_, _], _ => rfl⟩⟩
  have FRP := fun_mk (st := sRoomPrime) lRP cRP kRP
  have PRP : PropOf K R "prime" ppRP fRP := ⟨atRP, gtRP, tkRP, ⟨rsRP, rcRP⟩⟩
  have BRP := FRP.binds (ps := ["self"]) fun _ _ _ _ _ _ us hl => match us, hl with | [_], _ => rfl
  have FRS := fun_mk (st := sRoomSize) lRS cRS kRS
  have PRS : PropOf K R "size" ppRS fRS := ⟨atRS, gtRS, tkRS, ⟨rsRS, rcRS⟩⟩
  have BRS := FRS.binds (ps := ["self"]) fun _ _ _ _ _ _ us hl => match us, hl with | [_], _ => rfl
  have FRK := fun_mk (st := sRoomRank) lRK cRK kRK
  have PRK : PropOf K R "rank" ppRK fRK := ⟨atRK, gtRK, tkRK, ⟨rsRK, rcRK⟩⟩
  have BRK := FRK.binds (ps := ["self"]) fun _ _ _ _ _ _ us hl => match us, hl with | [_], _ => rfl
  have FRR := fun_mk (st := sRoomRows) lRR cRR kRR
  have BRR := FRR.binds (ps := ["self"]) fun _ _ _ _ _ _ us hl => match us, hl with | [_], _ => rfl
  have FRT := fun_mk (st := sRoomStill) lRT cRT kRT
  have BRT := FRT.binds (ps := ["self"]) fun _ _ _ _ _ _ us hl => match us, hl with | [_], _ => rfl
  have FRE2 := fun_mk (st := sRoomEq) lRE2 cRE2 kRE2
  have BRE2 := FRE2.binds (ps := ["self", "other"]) fun _ _ _ _ _ _ us hl => match us, hl with | [_, _], _ => rfl
  have FRX := fun_mk (st := sRoomRepr) lRX cRX kRX
  have BRX := FRX.binds (ps := ["self"]) fun _ _ _ _ _ _ us hl => match us, hl with | [_], _ => rfl
  have IR : InsR K R := ⟨⟨pgR, hdR2, poR, saR⟩, haR, hnR, htR, hmR, if_pos (beq_self_eq_true _)⟩
  have RC : RoomC K mg R := ⟨PySem.W.mg_of KX G aR, IR, npR, nrR, ⟨Kn, PySem.W.mg_of KX G aKn, kKn⟩, fun T hT => by
    simp only [List.mem_cons, List.not_mem_nil, or_false] at hT
    rcases hT with rfl | rfl | rfl | rfl | rfl | rfl
    · exact kt_NoneType
    · exact kt_bool
    · exact kt_int
    · exact kt_str
    · exact kt_list
    · exact kt_tuple⟩
  have NT : NeTxt K R fRE2 := ⟨⟨nmR, qR, NR, bsR, hdR, snR, subR, abR, colR, ddR, m0R, m1R, m2R, m3R, m5R, newR, xR, nsR, eqR, neR⟩, fnRE2⟩
  have FRI : FunD K "__init__" "Room.__init__" (defArgs sRoomInit) (defBody sRoomInit) (defScope sRoomInit) [.ref eRI] [] fRI _ := ⟨⟨ocRI, odRI, .ref TRI, kVRI, dcRI, pmRI, anRI, cdRI, ctRI, slRI, rfl, lRI, cRI, .inr ⟨by simp, TRI, _, [.ref eRI], nTRI, rfl, lTRI, rfl, .cons rfl .nil⟩, .inl rfl⟩, kRI⟩
  have BRI : L2.Binds K (PySem.W.fnOf "__init__" "Room.__init__" (defArgs sRoomInit) (defBody sRoomInit) (defScope sRoomInit) (.ref TRI) kVRI dcRI pmRI anRI cdRI ctRI) ["self", "prime", "rows"] [] := roomBinds FRI
  have KRI := roomKBinds (kV := kVRI) (doc := dcRI) (pm := pmRI) (an := anRI) (cdv := cdRI) (ct := ctRI) (K := K) (T := TRI) (e0 := eRI) lTRI
  have MkR : Mk K R fRI := ⟨mkR, iRI, fnRI, kcR⟩
  have TE : PySem.W.exmOne K (.ref C) (.ref C) = some true := exm_self exC icC tyC scC
  refine ⟨PySem.W.fnOf "law" "law" (defArgs sLaw) (defBody sLaw) (defScope sLaw) .none kV42 dc42 pm42 an42 cd42 ct42, fun s v => .of_eq rfl, fun base _ _ => ?_⟩
  have h_isInteger := ok_isInteger (P := P) (w := w) (base := base) B DIsInteger
  have h_isList := ok_isList (P := P) (w := w) (base := base) B DIsList
  have h_power := ok_power (P := P) (w := w) (base := base) B DPowerOf
  have h_undone := ok_undone B DUndoneOf h_power
  have h_isRest := ok_isRest B DIsRestBy h_isInteger
  have h_isPrime := ok_isPrime Cn DIsPrime h_isInteger
  have h_wantPrime := ok_wantPrime DWantPrime h_isPrime
  have h_unit := ok_unit (P := P) (w := w) (base := base) B DUnit
  have h_sumOf := ok_sumOf (P := P) (w := w) (base := base) B DSumOf
  have h_scaled := ok_scaled (P := P) (w := w) (base := base) B DScaledOf
  have h_turned := ok_turned (P := P) (w := w) (base := base) B DTurnedOf
  have h_without := ok_without DWithout h_sumOf
  have h_rowIn := ok_rowIn B DRowIn h_isList h_isRest
  have h_tableIn := ok_tableIn B Cn DTableIn h_isList h_rowIn
  have h_headOf := ok_headOf (P := P) (w := w) (base := base) B DHeadOf
  have h_headsOf := ok_headsOf DHeadsOf h_headOf
  have h_steps := ok_stepsOf B DStepsOf h_scaled h_undone h_without
  have h_zeros := ok_zerosOf B DZerosOf h_steps h_headsOf h_unit
  have h_right := ok_rightRows BC DRightRows h_tableIn h_turned
  have h_stillOf := ok_stillOf B RC DStillOf h_zeros
  have h_init := ok_roomInit B RC FRI h_wantPrime h_right
  have RH : RoomH P w K mg base R := ⟨⟨_, _, _, PRP, BRP, ok_primeG RC FRP⟩, ⟨_, _, _, PRS, BRS, ok_sizeG B RC FRS⟩, ⟨_, _, _, PRK, BRK, ok_rankG B RC FRK h_steps⟩, ⟨_, _, ⟨atRR, fnRR, kRR⟩, BRR, ok_rowsM RC FRR⟩, ⟨_, _, ⟨atRT, fnRT, kRT⟩, BRT, ok_stillM FRT h_stillOf⟩,
    ⟨_, _, atRE2, fnRE2, NT, BRE2, ok_roomEq B RC FRE2⟩, ⟨_, _, atRX, fnRX, BRX, ok_roomRepr B RC FRX⟩⟩
  have RKK : RoomK P w K mg base C R := ⟨⟨_, _, MkR, BRI, KRI, h_init⟩, fun tb htb => by
    simp only [List.mem_cons, List.not_mem_nil, or_false] at htb
    rcases htb with rfl | rfl | rfl | rfl | rfl | rfl | rfl
    · exact nf_R
    · exact nf_tuple
    · exact nf_list
    · exact nf_NoneType
    · exact nf_str
    · exact nf_int
    · exact nf_bool, PySem.W.mg_of KX G aC, TE⟩
  have h_draw := ok_draw (P := P) (w := w) (base := base) B DLDraw
  have h_pot := ok_pot (P := P) (w := w) (base := base) B DLPot
  have h_pick := ok_pick B DLPick h_draw
  have h_mixed := ok_mixed B DLMixed h_draw
  have h_dot := ok_dot (P := P) (w := w) (base := base) B DLDot
  have h_led := ok_led (P := P) (w := w) (base := base) B DLLed
  have h_between := ok_between DLBetween h_dot h_led
  have h_units := ok_units (P := P) (w := w) (base := base) B DLUnits
  have h_roomBy := ok_roomBy B DLRoomBy h_between
  have h_turn := ok_turn (P := P) (w := w) (base := base) B DLTurn
  have h_less := ok_less (P := P) (w := w) (base := base) B DLLess
  have h_lsteps := ok_lsteps B DLSteps h_turn h_less
  have h_angles := ok_angles B DLAngles h_lsteps h_led
  have h_lstill := ok_lstill B DLStill h_angles h_units
  have h_letters := ok_letters B DLLetters h_draw h_mixed h_units
  have h_grid := ok_grid B DLGrid h_draw h_roomBy h_letters
  have h_drawn := ok_drawn B DLDrawn h_pick h_grid
  have h_given := ok_given B DLGiven h_draw
  have h_isT := ok_isTable (P := P) (w := w) (base := base) B DLIsTable
  have h_bent := ok_bent B DLBent h_draw
  have h_told := ok_told B RC RH DLToldRight h_lstill
  have h_lright := ok_right B RC RH RKK DLRight h_draw h_drawn h_given h_told h_units h_bent h_isT
  exact ok_law (fun_mk (st := sLaw) l42 c42 k42) h_lright h_pot
end RK

open PySem PySem.W PyProof.Rows
set_option Elab.async false
set_option maxRecDepth 100000 in
set_option maxHeartbeats 0 in
theorem PySem.Challenge.cw_restkeepers_k21_whole_rooms_made_holds : PySem.Challenge.rw_restkeepers_k21_whole_rooms_made.Holds := by
  w_on; o_law; k_head; (case hw => w_witness2)
  k_fill
  refine RK.walk_ofG (l := PySem.Challenge.rw_restkeepers_k21_whole_rooms_made) (k := 9) (x := "_law_script") (sp := RK.spLaw) rfl (by decide) rfl ⟨rfl, by decide, by decide⟩ (fun w h Y => PySem.W.kIn_of Y) ?F ?S
  case F =>
    intro w mg fa h KX G hmg
    refine' RK.all_mk KX G hmg ?a0 ?l0 ?c0 ?k0 ?a1 ?l1 ?c1 ?k1 ?a2 ?l2 ?c2 ?k2 ?a3 ?l3 ?c3 ?k3 ?a4 ?l4 ?c4 ?k4 ?a5 ?l5 ?c5 ?k5 ?a6 ?l6 ?c6 ?k6 ?a7 ?l7 ?c7 ?k7 ?a8 ?l8 ?c8 ?k8 ?a9 ?l9 ?c9 ?k9 ?a10 ?l10 ?c10 ?k10 ?a11 ?l11 ?c11 ?k11 ?a12 ?l12 ?c12 ?k12 ?a13 ?l13 ?c13 ?k13 ?a14 ?l14 ?c14 ?k14 ?a15 ?l15 ?c15 ?k15 ?a16 ?l16 ?c16 ?k16 ?a17 ?l17 ?c17 ?k17 ?a18 ?l18 ?c18 ?k18 ?a19 ?l19 ?c19 ?k19 ?a20 ?l20 ?c20 ?k20 ?a21 ?l21 ?c21 ?k21 ?a22 ?l22 ?c22 ?k22 ?a23 ?l23 ?c23 ?k23 ?a24 ?l24 ?c24 ?k24 ?a25 ?l25 ?c25 ?k25 ?a26 ?l26 ?c26 ?k26 ?a27 ?l27 ?c27 ?k27 ?a28 ?l28 ?c28 ?k28 ?a29 ?l29 ?c29 ?k29 ?a30 ?l30 ?c30 ?k30 ?a31 ?l31 ?c31 ?k31 ?a32 ?l32 ?c32 ?k32 ?a33 ?l33 ?c33 ?k33 ?a34 ?l34 ?c34 ?k34 ?a35 ?l35 ?c35 ?k35 ?a36 ?l36 ?c36 ?k36 ?a37 ?l37 ?c37 ?k37 ?a38 ?l38 ?c38 ?k38 ?a39 ?l39 ?c39 ?k39 ?a40 ?l40 ?c40 ?k40 ?a41 ?l41 ?c41 ?k41 ?a42 ?l42 ?c42 ?k42 ?b_isinstance ?b_int ?b_bool ?b_list ?b_tuple ?b_range ?b_zip ?b_len ?b_all ?b_any ?b_enumerate ?b_sum ?b_abs ?b_max ?b_divmod ?b_repr ?b_str ?pr ?lpr ?ms ?aC ?xC ?saC ?exC ?tyC ?kC ?nvC ?iC ?tI ?icC ?scC ?lCI ?cCI ?kCI ?aR ?xR ?nsR ?eqR ?neR ?pgR ?hdR2 ?poR ?saR ?haR ?hnR ?htR ?hmR ?npR ?nrR ?aKn ?kKn ?kt_NoneType ?kt_bool ?kt_int ?kt_str ?kt_list ?kt_tuple ?nf_R ?nf_tuple ?nf_list ?nf_NoneType ?nf_str ?nf_int ?nf_bool ?mkR ?kcR ?iRI ?fnRI ?lRI ?cRI ?kRI ?lTRI ?atRP ?gtRP ?tkRP ?rcRP ?lRP ?cRP ?kRP ?atRS ?gtRS ?tkRS ?rcRS ?lRS ?cRS ?kRS ?atRK ?gtRK ?tkRK ?rcRK ?lRK ?cRK ?kRK ?atRR ?fnRR ?lRR ?cRR ?kRR ?atRT ?fnRT ?lRT ?cRT ?kRT ?atRE2 ?fnRE2 ?lRE2 ?cRE2 ?kRE2 ?atRX ?fnRX ?lRX ?cRX ?kRX
    (case a0 => k_is)
    (case l0 => k_is)
    (case c0 => k_is)
    (case k0 => k_is)
    (case a1 => k_is)
    (case l1 => k_is)
    (case c1 => k_is)
    (case k1 => k_is)
    (case a2 => k_is)
    (case l2 => k_is)
    (case c2 => k_is)
    (case k2 => k_is)
    (case a3 => k_is)
    (case l3 => k_is)
    (case c3 => k_is)
    (case k3 => k_is)
    (case a4 => k_is)
    (case l4 => k_is)
    (case c4 => k_is)
    (case k4 => k_is)
    (case a5 => k_is)
    (case l5 => k_is)
    (case c5 => k_is)
    (case k5 => k_is)
    (case a6 => k_is)
    (case l6 => k_is)
    (case c6 => k_is)
    (case k6 => k_is)
    (case a7 => k_is)
    (case l7 => k_is)
    (case c7 => k_is)
    (case k7 => k_is)
    (case a8 => k_is)
    (case l8 => k_is)
    (case c8 => k_is)
    (case k8 => k_is)
    (case a9 => k_is)
    (case l9 => k_is)
    (case c9 => k_is)
    (case k9 => k_is)
    (case a10 => k_is)
    (case l10 => k_is)
    (case c10 => k_is)
    (case k10 => k_is)
    (case a11 => k_is)
    (case l11 => k_is)
    (case c11 => k_is)
    (case k11 => k_is)
    (case a12 => k_is)
    (case l12 => k_is)
    (case c12 => k_is)
    (case k12 => k_is)
    (case a13 => k_is)
    (case l13 => k_is)
    (case c13 => k_is)
    (case k13 => k_is)
    (case a14 => k_is)
    (case l14 => k_is)
    (case c14 => k_is)
    (case k14 => k_is)
    (case a15 => k_is)
    (case l15 => k_is)
    (case c15 => k_is)
    (case k15 => k_is)
    (case a16 => k_is)
    (case l16 => k_is)
    (case c16 => k_is)
    (case k16 => k_is)
    (case a17 => k_is)
    (case l17 => k_is)
    (case c17 => k_is)
    (case k17 => k_is)
    (case a18 => k_is)
    (case l18 => k_is)
    (case c18 => k_is)
    (case k18 => k_is)
    (case a19 => k_is)
    (case l19 => k_is)
    (case c19 => k_is)
    (case k19 => k_is)
    (case a20 => k_is)
    (case l20 => k_is)
    (case c20 => k_is)
    (case k20 => k_is)
    (case a21 => k_is)
    (case l21 => k_is)
    (case c21 => k_is)
    (case k21 => k_is)
    (case a22 => k_is)
    (case l22 => k_is)
    (case c22 => k_is)
    (case k22 => k_is)
    (case a23 => k_is)
    (case l23 => k_is)
    (case c23 => k_is)
    (case k23 => k_is)
    (case a24 => k_is)
    (case l24 => k_is)
    (case c24 => k_is)
    (case k24 => k_is)
    (case a25 => k_is)
    (case l25 => k_is)
    (case c25 => k_is)
    (case k25 => k_is)
    (case a26 => k_is)
    (case l26 => k_is)
    (case c26 => k_is)
    (case k26 => k_is)
    (case a27 => k_is)
    (case l27 => k_is)
    (case c27 => k_is)
    (case k27 => k_is)
    (case a28 => k_is)
    (case l28 => k_is)
    (case c28 => k_is)
    (case k28 => k_is)
    (case a29 => k_is)
    (case l29 => k_is)
    (case c29 => k_is)
    (case k29 => k_is)
    (case a30 => k_is)
    (case l30 => k_is)
    (case c30 => k_is)
    (case k30 => k_is)
    (case a31 => k_is)
    (case l31 => k_is)
    (case c31 => k_is)
    (case k31 => k_is)
    (case a32 => k_is)
    (case l32 => k_is)
    (case c32 => k_is)
    (case k32 => k_is)
    (case a33 => k_is)
    (case l33 => k_is)
    (case c33 => k_is)
    (case k33 => k_is)
    (case a34 => k_is)
    (case l34 => k_is)
    (case c34 => k_is)
    (case k34 => k_is)
    (case a35 => k_is)
    (case l35 => k_is)
    (case c35 => k_is)
    (case k35 => k_is)
    (case a36 => k_is)
    (case l36 => k_is)
    (case c36 => k_is)
    (case k36 => k_is)
    (case a37 => k_is)
    (case l37 => k_is)
    (case c37 => k_is)
    (case k37 => k_is)
    (case a38 => k_is)
    (case l38 => k_is)
    (case c38 => k_is)
    (case k38 => k_is)
    (case a39 => k_is)
    (case l39 => k_is)
    (case c39 => k_is)
    (case k39 => k_is)
    (case a40 => k_is)
    (case l40 => k_is)
    (case c40 => k_is)
    (case k40 => k_is)
    (case a41 => k_is)
    (case l41 => k_is)
    (case c41 => k_is)
    (case k41 => k_is)
    (case a42 => k_is)
    (case l42 => k_is)
    (case c42 => k_is)
    (case k42 => k_is)
    (case b_isinstance => k_is)
    (case b_int => k_is)
    (case b_bool => k_is)
    (case b_list => k_is)
    (case b_tuple => k_is)
    (case b_range => k_is)
    (case b_zip => k_is)
    (case b_len => k_is)
    (case b_all => k_is)
    (case b_any => k_is)
    (case b_enumerate => k_is)
    (case b_sum => k_is)
    (case b_abs => k_is)
    (case b_max => k_is)
    (case b_divmod => k_is)
    (case b_repr => k_is)
    (case b_str => k_is)
    (case pr => k_is)
    (case lpr => k_is)
    (case ms => k_is)
    (case aC => k_is)
    (case xC => k_is)
    (case saC => k_is)
    (case exC => k_is)
    (case tyC => k_is)
    (case kC => k_is)
    (case nvC => k_is)
    (case iC => k_is)
    (case tI => k_is)
    (case icC => k_is)
    (case scC => first | rfl | k_is)
    (case lCI => k_is)
    (case cCI => k_is)
    (case kCI => k_is)
    (case aR => k_is)
    (case xR => k_is)
    (case nsR => first | rfl | kernel_rfl)
    (case eqR => k_is)
    (case neR => k_is)
    (case pgR => k_is)
    (case hdR2 => k_is)
    (case poR => k_is)
    (case saR => k_is)
    (case haR => k_is)
    (case hnR => k_is)
    (case htR => k_is)
    (case hmR => k_is)
    (case npR => k_is)
    (case nrR => k_is)
    (case aKn => k_is)
    (case kKn => kit_is)
    (case kt_NoneType => kit_is)
    (case kt_bool => kit_is)
    (case kt_int => kit_is)
    (case kt_str => kit_is)
    (case kt_list => kit_is)
    (case kt_tuple => kit_is)
    (case nf_R => k_is)
    (case nf_tuple => k_is)
    (case nf_list => k_is)
    (case nf_NoneType => k_is)
    (case nf_str => k_is)
    (case nf_int => k_is)
    (case nf_bool => k_is)
    (case mkR => k_is)
    (case kcR => k_is)
    (case iRI => k_is)
    (case fnRI => k_is)
    (case lRI => k_is)
    (case cRI => k_is)
    (case kRI => k_is)
    (case lTRI => k_is)
    (case atRP => k_is)
    (case gtRP => k_is)
    (case tkRP => k_is)
    (case rcRP => k_is)
    (case lRP => k_is)
    (case cRP => k_is)
    (case kRP => k_is)
    (case atRS => k_is)
    (case gtRS => k_is)
    (case tkRS => k_is)
    (case rcRS => k_is)
    (case lRS => k_is)
    (case cRS => k_is)
    (case kRS => k_is)
    (case atRK => k_is)
    (case gtRK => k_is)
    (case tkRK => k_is)
    (case rcRK => k_is)
    (case lRK => k_is)
    (case cRK => k_is)
    (case kRK => k_is)
    (case atRR => k_is)
    (case fnRR => k_is)
    (case lRR => k_is)
    (case cRR => k_is)
    (case kRR => k_is)
    (case atRT => k_is)
    (case fnRT => k_is)
    (case lRT => k_is)
    (case cRT => k_is)
    (case kRT => k_is)
    (case atRE2 => k_is)
    (case fnRE2 => k_is)
    (case lRE2 => k_is)
    (case cRE2 => k_is)
    (case kRE2 => k_is)
    (case atRX => k_is)
    (case fnRX => k_is)
    (case lRX => k_is)
    (case cRX => k_is)
    (case kRX => k_is)
  case S =>
    intro K H a ns hl hO hS
    exact ⟨a, ns, rfl, hS, fun _ => rfl⟩
#print axioms PySem.Challenge.cw_restkeepers_k21_whole_rooms_made_holds
