import PyProof.Rows.All
import Wide.All
import OpenK.AllK
import Wide.FinOn
import KE.KStateDown
import HandS.ForMost
import HandS.Defaults
import HandS.IsInst
import HandS.Head0
import HandS.Head1
import HandS.Head2
import HandS.Head3
import HandS.HeadEnd
import HandS.HeadHook1
import HandS.HeadHook2
import HandS.Gcd
import HandS.Sort
import HandS.Conv
import HandS.Flow
import HandS.Wide
import HandS.Style
import HandS.AnyAll
import PyProof.ReprRoads
import PySem.Challenge.RW_pairsfree_k82_whole_greatest_ringless_lo
/-! Rows of whole numbers: independence, the elimination that counts steps. Plain Lean, no program in sight. -/
namespace Mth

/-- the number of a row at a place, 0 beyond -/
def E (r : List Int) (j : Nat) : Int := r.getD j 0

/-- a sum of multiples of rows, at a place -/
def comb : List Int → List (List Int) → Nat → Int
  | c :: cs, r :: rs, j => c * E r j + comb cs rs j
  | _, _, _ => 0

theorem comb_nil_left (rs : List (List Int)) (j : Nat) : comb [] rs j = 0 := by cases rs <;> rfl
theorem comb_nil_right (cs : List Int) (j : Nat) : comb cs [] j = 0 := by cases cs <;> rfl
theorem comb_cons (c : Int) (cs : List Int) (r : List Int) (rs : List (List Int)) (j : Nat) : comb (c :: cs) (r :: rs) j = c * E r j + comb cs rs j := rfl

theorem comb_append : ∀ {ca : List Int} {A : List (List Int)} {cb : List Int} {B : List (List Int)} (j : Nat), ca.length = A.length →
    comb (ca ++ cb) (A ++ B) j = comb ca A j + comb cb B j
  | [], [], cb, B, j, _ => by simp [comb_nil_left]
  | c :: ca, r :: A, cb, B, j, h => by
    have h' : ca.length = A.length := by simpa using h
    have ih := comb_append (cb := cb) (B := B) j h'
    simp only [List.cons_append, comb_cons, ih]
    omega
  | [], _ :: _, _, _, _, h => by simp at h
  | _ :: _, [], _, _, _, h => by simp at h

theorem comb_zero : ∀ {cs : List Int} {rs : List (List Int)} (j : Nat), (∀ c ∈ cs, c = 0) → comb cs rs j = 0
  | [], rs, j, _ => comb_nil_left rs j
  | _ :: _, [], j, _ => rfl
  | c :: cs, r :: rs, j, h => by
    have h0 : c = 0 := h c (by simp)
    have ih := comb_zero (rs := rs) (cs := cs) j fun x hx => h x (by simp [hx])
    rw [comb_cons, ih, h0]
    omega

theorem comb_at_zero : ∀ {cs : List Int} {rs : List (List Int)} {j : Nat}, (∀ r ∈ rs, E r j = 0) → comb cs rs j = 0
  | [], rs, j, _ => comb_nil_left rs j
  | _ :: _, [], j, _ => rfl
  | c :: cs, r :: rs, j, h => by
    have h0 : E r j = 0 := h r (by simp)
    have ih := comb_at_zero (rs := rs) (cs := cs) (j := j) fun x hx => h x (by simp [hx])
    rw [comb_cons, ih, h0, Int.mul_zero]
    rfl

theorem comb_mul : ∀ (m : Int) (cs : List Int) (rs : List (List Int)) (j : Nat), comb (cs.map (m * ·)) rs j = m * comb cs rs j
  | m, [], rs, j => by simp [comb_nil_left]
  | m, _ :: _, [], j => by simp [comb_nil_right]
  | m, c :: cs, r :: rs, j => by
    rw [List.map_cons, comb_cons, comb_cons, comb_mul m cs rs j, Int.mul_add, Int.mul_assoc]

theorem comb_add : ∀ {cs ds : List Int} {rs : List (List Int)} (j : Nat), cs.length = rs.length → ds.length = rs.length →
    comb (List.zipWith (· + ·) cs ds) rs j = comb cs rs j + comb ds rs j
  | [], ds, [], j, _, _ => by simp [comb_nil_right]
  | c :: cs, d :: ds, r :: rs, j, h1, h2 => by
    have ih := comb_add (cs := cs) (ds := ds) (rs := rs) j (by simpa using h1) (by simpa using h2)
    rw [List.zipWith_cons_cons, comb_cons, comb_cons, comb_cons, ih, Int.add_mul]
    omega
  | [], _, _ :: _, _, h, _ => by simp at h
  | _ :: _, _, [], _, h, _ => by simp at h
  | _ :: _, [], _ :: _, _, _, h => by simp at h

/-- rows are free -/
def Indep (rs : List (List Int)) : Prop := ∀ cs : List Int, cs.length = rs.length → (∀ j, comb cs rs j = 0) → ∀ c ∈ cs, c = 0

theorem indep_nil : Indep [] := fun cs h _ => by
  have : cs = [] := List.eq_nil_of_length_eq_zero h
  subst this
  intro c hc
  cases hc

/-! ### one elimination -/
/-- f's row is a multiple of the row, less a multiple of h, up to a factor -/
def Cl (h r r' : List Int) : Prop := ∃ g a b : Int, g ≠ 0 ∧ a ≠ 0 ∧ ∀ j, g * E r' j = a * E r j - b * E h j

inductive ZZ : List Int → List Int → Prop
  | nil : ZZ [] []
  | cons {c d : Int} {cs ds : List Int} : (c = 0 ↔ d = 0) → ZZ cs ds → ZZ (c :: cs) (d :: ds)
theorem ZZ.zero : ∀ {cs ds : List Int}, ZZ cs ds → (∀ d ∈ ds, d = 0) → ∀ c ∈ cs, c = 0
  | _, _, .nil, _ => by simp
  | _, _, .cons h t, hd => by
    intro c hc
    rcases List.mem_cons.mp hc with rfl | hc
    · exact h.mpr (hd _ (by simp))
    · exact ZZ.zero t (fun d hd' => hd d (by simp [hd'])) c hc
theorem ZZ.len : ∀ {cs ds : List Int}, ZZ cs ds → cs.length = ds.length
  | _, _, .nil => rfl
  | _, _, .cons _ t => by simp [t.len]
theorem ZZ.symm : ∀ {cs ds : List Int}, ZZ cs ds → ZZ ds cs
  | _, _, .nil => .nil
  | _, _, .cons h t => .cons h.symm t.symm
theorem ZZ.mul {m : Int} (hm : m ≠ 0) : ∀ {cs ds : List Int}, ZZ cs ds → ZZ (cs.map (m * ·)) ds
  | _, _, .nil => .nil
  | _, _, .cons h t => .cons (by
      constructor
      · intro e
        rcases Int.mul_eq_zero.mp e with e | e
        · exact absurd e hm
        · exact h.mp e
      · intro e
        show m * _ = 0
        rw [h.mpr e, Int.mul_zero]) (ZZ.mul hm t)

theorem down {f : List Int → List Int} {h : List Int} : ∀ {R : List (List Int)}, (∀ r ∈ R, Cl h r (f r)) → ∀ ds : List Int, ds.length = R.length →
    ∃ (M : Int) (cs : List Int) (e : Int), M ≠ 0 ∧ ZZ cs ds ∧ ∀ j, M * comb ds (R.map f) j = comb cs R j + e * E h j
  | [], _, ds, hl => by
    have : ds = [] := List.eq_nil_of_length_eq_zero hl
    subst this
    exact ⟨1, [], 0, by decide, .nil, fun j => by simp [comb_nil_left]⟩
  | r :: R, H, d :: ds, hl => by
    obtain ⟨g, a, b, hg, ha, e1⟩ := H r (by simp)
    obtain ⟨M, cs, e, hM, z, e2⟩ := down (R := R) (fun x hx => H x (by simp [hx])) ds (by simpa using hl)
    refine ⟨M * g, (M * d * a) :: cs.map (g * ·), g * e - M * d * b, ?_, .cons ?_ (z.mul hg), fun j => ?_⟩
    · exact Int.mul_ne_zero hM hg
    · constructor
      · intro q
        rcases Int.mul_eq_zero.mp q with q | q
        · rcases Int.mul_eq_zero.mp q with q | q
          · exact absurd q hM
          · exact q
        · exact absurd q ha
      · intro q
        rw [q]
        simp
    · have h1 := e1 j
      have h2 := e2 j
      rw [List.map_cons, comb_cons, comb_cons, comb_mul]
      generalize comb ds (R.map f) j = x at h2 ⊢
      generalize comb cs R j = y at h2 ⊢
      generalize E (f r) j = u at h1 ⊢
      generalize E r j = v at h1 ⊢
      generalize E h j = w at h1 h2 ⊢
      have a1 : M * g * (d * u + x) = M * d * (g * u) + g * (M * x) := by grind
      rw [a1, h1, h2]
      grind
  | _ :: _, _, [], hl => by simp at hl

theorem up {f : List Int → List Int} {h : List Int} : ∀ {R : List (List Int)}, (∀ r ∈ R, Cl h r (f r)) → ∀ cs : List Int, cs.length = R.length →
    ∃ (M : Int) (ds : List Int) (e : Int), M ≠ 0 ∧ ZZ cs ds ∧ ∀ j, M * comb cs R j = comb ds (R.map f) j + e * E h j
  | [], _, cs, hl => by
    have : cs = [] := List.eq_nil_of_length_eq_zero hl
    subst this
    exact ⟨1, [], 0, by decide, .nil, fun j => by simp [comb_nil_left]⟩
  | r :: R, H, c :: cs, hl => by
    obtain ⟨g, a, b, hg, ha, e1⟩ := H r (by simp)
    obtain ⟨M, ds, e, hM, z, e2⟩ := up (R := R) (fun x hx => H x (by simp [hx])) cs (by simpa using hl)
    refine ⟨M * a, (M * c * g) :: ds.map (a * ·), a * e + M * c * b, ?_, .cons ?_ (ZZ.symm (z.symm.mul ha)), fun j => ?_⟩
    · exact Int.mul_ne_zero hM ha
    · constructor
      · intro q
        rw [q]
        simp
      · intro q
        rcases Int.mul_eq_zero.mp q with q | q
        · rcases Int.mul_eq_zero.mp q with q | q
          · exact absurd q hM
          · exact q
        · exact absurd q hg
    · have h1 := e1 j
      have h2 := e2 j
      rw [List.map_cons, comb_cons, comb_cons, comb_mul]
      generalize comb ds (R.map f) j = x at h2 ⊢
      generalize comb cs R j = y at h2 ⊢
      generalize E (f r) j = u at h1 ⊢
      generalize E r j = v at h1 ⊢
      generalize E h j = w at h1 h2 ⊢
      have a1 : M * a * (c * v + y) = M * c * (a * v) + a * (M * y) := by grind
      have a2 : a * v = g * u + b * w := by omega
      rw [a1, a2, h2]
      grind
  | _ :: _, _, [], hl => by simp at hl

theorem split_coef {A B : List (List Int)} {cs : List Int} (h : cs.length = (A ++ B).length) : ∃ ca cb, cs = ca ++ cb ∧ ca.length = A.length ∧ cb.length = B.length :=
  ⟨cs.take A.length, cs.drop A.length, (List.take_append_drop _ _).symm, by
    rw [List.length_take, h, List.length_append]
    omega, by
    rw [List.length_drop, h, List.length_append]
    omega⟩

/-- clearing by a row h with a number at p: the others are free exactly if all were -/
theorem indep_clear {f : List Int → List Int} {A B : List (List Int)} {h : List Int} {p : Nat} (hp : E h p ≠ 0) (H : ∀ r ∈ A ++ B, Cl h r (f r)) (Z : ∀ r ∈ A ++ B, E (f r) p = 0) :
    Indep (A ++ h :: B) ↔ Indep ((A ++ B).map f) := by
  constructor
  · intro I ds hl h0
    have hl' : ds.length = (A ++ B).length := by simpa using hl
    obtain ⟨M, cs, e, hM, z, e1⟩ := down H ds hl'
    obtain ⟨ca, cb, rfl, la, lb⟩ := split_coef (z.len.trans hl')
    have key := I (ca ++ e :: cb) (by simp [la, lb]) (fun j => by
      have := e1 j
      rw [h0 j, Int.mul_zero, comb_append j la] at this
      rw [comb_append j la, comb_cons]
      omega)
    exact z.symm.zero fun c hc => key c (by
      rcases List.mem_append.mp hc with q | q
      · simp [q]
      · simp [q])
  · intro I cs hl h0
    obtain ⟨ca, cx, rfl, la, lx⟩ := split_coef (A := A) (B := h :: B) hl
    match cx, lx with
    | ch :: cb, lx =>
      have lb : cb.length = B.length := by simpa using lx
      obtain ⟨M, ds, e, hM, z, e1⟩ := up H (ca ++ cb) (by simp [la, lb])
      have eq0 : ∀ j, comb ca A j + (ch * E h j + comb cb B j) = 0 := fun j => by
        have := h0 j
        rw [comb_append j la, comb_cons] at this
        exact this
      have e2 : ∀ j, comb ds ((A ++ B).map f) j + (e + M * ch) * E h j = 0 := fun j => by
        have q1 := e1 j
        rw [comb_append j la] at q1
        have q2 := eq0 j
        have q3 : comb ca A j + comb cb B j = - (ch * E h j) := by omega
        rw [q3] at q1
        have q4 : M * -(ch * E h j) = - (M * ch * E h j) := by
          rw [Int.mul_neg, Int.mul_assoc]
        rw [q4] at q1
        rw [Int.add_mul]
        omega
      have zp : comb ds ((A ++ B).map f) p = 0 := comb_at_zero fun r hr => by
        obtain ⟨x, hx, rfl⟩ := List.mem_map.mp hr
        exact Z x hx
      have s0 : e + M * ch = 0 := by
        have := e2 p
        rw [zp, Int.zero_add] at this
        rcases Int.mul_eq_zero.mp this with q | q
        · exact q
        · exact absurd q hp
      have dz := I ds (by
        have := z.len
        simp only [List.length_append, List.length_map] at this ⊢
        omega) (fun j => by
        have := e2 j
        rw [s0] at this
        omega)
      have cz := z.zero dz
      have ch0 : ch = 0 := by
        have q := eq0 p
        rw [comb_zero p fun c hc => cz c (by simp [hc]), comb_zero p fun c hc => cz c (by simp [hc])] at q
        have q' : ch * E h p = 0 := by omega
        rcases Int.mul_eq_zero.mp q' with q | q
        · exact q
        · exact absurd q hp
      intro c hc
      rcases List.mem_append.mp hc with q | q
      · exact cz c (by simp [q])
      · rcases List.mem_cons.mp q with rfl | q
        · exact ch0
        · exact cz c (by simp [q])

theorem indep_zero {rs : List (List Int)} (h : ∀ r ∈ rs, ∀ j, E r j = 0) : Indep rs ↔ rs = [] := by
  constructor
  · intro I
    match rs, h, I with
    | [], _, _ => rfl
    | r :: rs, h, I =>
      have := I (1 :: rs.map fun _ => 0) (by simp) (fun j => by
        rw [comb_cons, h r (by simp) j, comb_zero j (by simp)]
        rfl) 1 (by simp)
      exact absurd this (by decide)
  · rintro rfl
    exact indep_nil

/-! ### permutations and parts -/
theorem indep_left {A B : List (List Int)} (I : Indep (A ++ B)) : Indep A := fun cs hl h0 c hc =>
  I (cs ++ B.map fun _ => 0) (by simp [hl]) (fun j => by
    rw [comb_append j hl, h0 j, comb_zero j (by simp)]
    rfl) c (by simp [hc])
theorem indep_right {A B : List (List Int)} (I : Indep (A ++ B)) : Indep B := fun cs hl h0 c hc =>
  I ((A.map fun _ => 0) ++ cs) (by simp [hl]) (fun j => by
    rw [comb_append j (by simp), h0 j, comb_zero j (by simp)]
    rfl) c (by simp [hc])

theorem comb_perm {A B : List (List Int)} (h : A.Perm B) : ∀ cs : List Int, cs.length = A.length → ∃ ds : List Int, ds.length = B.length ∧ (∀ j, comb cs A j = comb ds B j) ∧ ((∀ d ∈ ds, d = 0) → ∀ c ∈ cs, c = 0) := by
  induction h with
  | nil => exact fun cs hl => ⟨cs, hl, fun _ => rfl, id⟩
  | cons x p ih =>
    intro cs hl
    match cs, hl with
    | c :: cs, hl =>
      obtain ⟨ds, l, e, z⟩ := ih cs (by simpa using hl)
      refine ⟨c :: ds, by simp [l], fun j => by rw [comb_cons, comb_cons, e j], fun h c' hc => ?_⟩
      rcases List.mem_cons.mp hc with rfl | q
      · exact h _ (by simp)
      · exact z (fun d hd => h d (by simp [hd])) c' q
  | swap x y l =>
    intro cs hl
    match cs, hl with
    | c :: d :: cs, hl =>
      refine ⟨d :: c :: cs, by simpa using hl, fun j => by simp only [comb_cons]; omega, fun h c' hc => h c' ?_⟩
      simp only [List.mem_cons] at hc ⊢
      grind
  | trans _ _ i1 i2 =>
    intro cs hl
    obtain ⟨ds, l, e, z⟩ := i1 cs hl
    obtain ⟨es, l', e', z'⟩ := i2 ds l
    exact ⟨es, l', fun j => (e j).trans (e' j), fun h => z (z' h)⟩
theorem indep_perm {A B : List (List Int)} (h : A.Perm B) (I : Indep B) : Indep A := fun cs hl h0 => by
  obtain ⟨ds, l, e, z⟩ := comb_perm h cs hl
  exact z (I ds l fun j => (e j).symm.trans (h0 j))
end Mth
/-! The elimination that counts steps, as the program does it; its count is the number of rows exactly if they are free. -/
namespace Mth

def rowGcd (row : List Int) : Nat := row.foldl (fun c x => if x ≠ 0 then Nat.gcd c x.natAbs else c) 0
def plainRow (row : List Int) : List Int := if 1 < rowGcd row then row.map (fun x => x / (rowGcd row : Int)) else row
def mixed (row head : List Int) (p : Nat) : List Int := List.zipWith (fun near far => E head p * near - E row p * far) row head
def cleared (row head : List Int) (p : Nat) : List Int := if E row p = 0 then row else plainRow (mixed row head p)
def firstAt (rows : List (List Int)) (p : Nat) : Option Nat := rows.findIdx? (fun r => decide (E r p ≠ 0))
def without (l : List (List Int)) (a : Nat) : List (List Int) := l.take a ++ l.drop (a + 1)
def stepL (l : List (List Int)) (p : Nat) : List (List Int) × Nat := match firstAt l p with
  | none => (l, 0)
  | some a => ((without l a).map fun r => cleared r (l.getD a []) p, 1)
def st (rows : List (List Int)) : Nat → List (List Int) × Nat
  | 0 => (rows, 0)
  | i + 1 => ((stepL (st rows i).1 i).1, (st rows i).2 + (stepL (st rows i).1 i).2)
def width (rows : List (List Int)) : Nat := (rows.headD []).length
def intRank (rows : List (List Int)) : Nat := (st rows (width rows)).2

/-! ### plain rows -/
theorem fold_gcd_dvd : ∀ (row : List Int) (c : Nat), (row.foldl (fun c x => if x ≠ 0 then Nat.gcd c x.natAbs else c) c) ∣ c ∧
    ∀ x ∈ row, (row.foldl (fun c x => if x ≠ 0 then Nat.gcd c x.natAbs else c) c) ∣ x.natAbs
  | [], c => ⟨Nat.dvd_refl _, by simp⟩
  | y :: row, c => by
    obtain ⟨h1, h2⟩ := fold_gcd_dvd row (if y ≠ 0 then Nat.gcd c y.natAbs else c)
    rw [List.foldl_cons]
    generalize (row.foldl (fun c x => if x ≠ 0 then Nat.gcd c x.natAbs else c) (if y ≠ 0 then Nat.gcd c y.natAbs else c)) = z at h1 h2 ⊢
    by_cases hy : y = 0
    · subst hy
      simp only [ne_eq, not_true_eq_false, if_false] at h1
      refine ⟨h1, fun x hx => ?_⟩
      rcases List.mem_cons.mp hx with rfl | hx
      · exact Nat.dvd_zero _
      · exact h2 x hx
    · rw [if_pos hy] at h1
      refine ⟨Nat.dvd_trans h1 (Nat.gcd_dvd_left _ _), fun x hx => ?_⟩
      rcases List.mem_cons.mp hx with rfl | hx
      · exact Nat.dvd_trans h1 (Nat.gcd_dvd_right _ _)
      · exact h2 x hx
theorem rowGcd_dvd {row : List Int} {x : Int} (h : x ∈ row) : rowGcd row ∣ x.natAbs := (fold_gcd_dvd row 0).2 x h
theorem rowGcd_dvd' {row : List Int} {x : Int} (h : x ∈ row) : (rowGcd row : Int) ∣ x := Int.ofNat_dvd_left.mpr (rowGcd_dvd h)

theorem E_eq {r : List Int} {j : Nat} (h : j < r.length) : E r j = r[j] := by
  unfold E
  rw [List.getD_eq_getElem?_getD, List.getElem?_eq_getElem h]
  rfl
theorem E_out {r : List Int} {j : Nat} (h : r.length ≤ j) : E r j = 0 := by
  unfold E
  rw [List.getD_eq_getElem?_getD, List.getElem?_eq_none_iff.mpr h]
  rfl

theorem plainRow_len (row : List Int) : (plainRow row).length = row.length := by
  unfold plainRow
  split
  · exact List.length_map _
  · rfl
theorem plainRow_E (row : List Int) : ∃ g : Int, 0 < g ∧ ∀ j, g * E (plainRow row) j = E row j := by
  unfold plainRow
  split
  · rename_i h
    refine ⟨(rowGcd row : Int), by omega, fun j => ?_⟩
    by_cases hj : j < row.length
    · rw [E_eq (by simpa using hj), E_eq hj, List.getElem_map]
      exact Int.mul_ediv_cancel' (rowGcd_dvd' (List.getElem_mem hj))
    · rw [E_out (by simpa using hj), E_out (by simpa using hj), Int.mul_zero]
  · exact ⟨1, by decide, fun j => Int.one_mul _⟩

/-! ### cleared rows -/
theorem mixed_len {row head : List Int} {p n : Nat} (h1 : row.length = n) (h2 : head.length = n) : (mixed row head p).length = n := by
  unfold mixed
  rw [List.length_zipWith, h1, h2, Nat.min_self]
theorem mixed_E {row head : List Int} {p n : Nat} (h1 : row.length = n) (h2 : head.length = n) (j : Nat) : E (mixed row head p) j = E head p * E row j - E row p * E head j := by
  by_cases hj : j < n
  · rw [E_eq (by rw [mixed_len h1 h2]; exact hj), E_eq (by omega : j < row.length), E_eq (by omega : j < head.length)]
    unfold mixed
    rw [List.getElem_zipWith]
  · rw [E_out (by rw [mixed_len h1 h2]; omega), E_out (by omega : row.length ≤ j), E_out (by omega : head.length ≤ j)]
    omega
theorem cleared_len {row head : List Int} {p n : Nat} (h1 : row.length = n) (h2 : head.length = n) : (cleared row head p).length = n := by
  unfold cleared
  split
  · exact h1
  · rw [plainRow_len]
    exact mixed_len h1 h2
theorem cleared_Cl {row head : List Int} {p n : Nat} (h1 : row.length = n) (h2 : head.length = n) (hp : E head p ≠ 0) : Cl head row (cleared row head p) := by
  unfold cleared
  split
  · exact ⟨1, 1, 0, by decide, by decide, fun j => by omega⟩
  · obtain ⟨g, hg, e⟩ := plainRow_E (mixed row head p)
    exact ⟨g, E head p, E row p, by omega, hp, fun j => by rw [e j, mixed_E h1 h2 j]⟩
theorem cleared_zero {row head : List Int} {p n : Nat} (h1 : row.length = n) (h2 : head.length = n) : E (cleared row head p) p = 0 := by
  unfold cleared
  split
  · assumption
  · obtain ⟨g, hg, e⟩ := plainRow_E (mixed row head p)
    have := e p
    rw [mixed_E h1 h2 p, Int.mul_comm (E head p), Int.sub_self] at this
    rcases Int.mul_eq_zero.mp this with q | q
    · omega
    · exact q
theorem Cl.zero {h r r' : List Int} {q : Nat} (c : Cl h r r') (h1 : E h q = 0) (h2 : E r q = 0) : E r' q = 0 := by
  obtain ⟨g, a, b, hg, _, e⟩ := c
  have := e q
  rw [h1, h2, Int.mul_zero, Int.mul_zero, Int.sub_zero] at this
  rcases Int.mul_eq_zero.mp this with z | z
  · exact absurd z hg
  · exact z

/-! ### the first row with a number -/
theorem firstAt_none {l : List (List Int)} {p : Nat} (h : firstAt l p = none) : ∀ r ∈ l, E r p = 0 := fun r hr => by
  unfold firstAt at h
  have := List.findIdx?_eq_none_iff.mp h r hr
  simpa using this
theorem firstAt_some {l : List (List Int)} {p a : Nat} (h : firstAt l p = some a) : ∃ ha : a < l.length, E l[a] p ≠ 0 := by
  unfold firstAt at h
  obtain ⟨ha, h1, _⟩ := List.findIdx?_eq_some_iff_getElem.mp h
  exact ⟨ha, by simpa using h1⟩
theorem without_eq {l : List (List Int)} {a : Nat} (ha : a < l.length) : l = l.take a ++ l[a] :: l.drop (a + 1) := by
  rw [List.getElem_cons_drop, List.take_append_drop]
theorem without_mem {l : List (List Int)} {a : Nat} {r : List Int} (h : r ∈ without l a) : r ∈ l := by
  unfold without at h
  rcases List.mem_append.mp h with h | h
  · exact List.mem_of_mem_take h
  · exact List.mem_of_mem_drop h
theorem without_len {l : List (List Int)} {a : Nat} (ha : a < l.length) : (without l a).length + 1 = l.length := by
  unfold without
  rw [List.length_append, List.length_take, List.length_drop]
  omega

/-! ### the count -/
structure StOk (rows : List (List Int)) (n i : Nat) (s : List (List Int) × Nat) : Prop where
  len : ∀ r ∈ s.1, r.length = n
  zero : ∀ r ∈ s.1, ∀ q, q < i → E r q = 0
  many : s.2 + s.1.length = rows.length
  ind : Indep s.1 ↔ Indep rows
theorem st_ok {rows : List (List Int)} {n : Nat} (hl : ∀ r ∈ rows, r.length = n) : ∀ i, StOk rows n i (st rows i)
  | 0 => ⟨hl, fun _ _ q h => absurd h (Nat.not_lt_zero q), Nat.zero_add _, Iff.rfl⟩
  | i + 1 => by
    obtain ⟨h1, h2, h3, h4⟩ := st_ok hl i
    show StOk rows n (i + 1) ((stepL (st rows i).1 i).1, (st rows i).2 + (stepL (st rows i).1 i).2)
    generalize st rows i = s at h1 h2 h3 h4 ⊢
    obtain ⟨l, m⟩ := s
    simp only at h1 h2 h3 h4 ⊢
    cases e : firstAt l i with
    | none =>
      have es : stepL l i = (l, 0) := by
        unfold stepL
        rw [e]
      rw [es]
      refine ⟨h1, fun r hr q hq => ?_, h3, h4⟩
      by_cases q0 : q = i
      · rw [q0]
        exact firstAt_none e r hr
      · exact h2 r hr q (by omega)
    | some a =>
      obtain ⟨ha, hE⟩ := firstAt_some e
      have eg : l.getD a [] = l[a] := by
        rw [List.getD_eq_getElem?_getD, List.getElem?_eq_getElem ha]
        rfl
      have es : stepL l i = ((without l a).map fun r => cleared r l[a] i, 1) := by
        unfold stepL
        rw [e]
        simp only [eg]
      rw [es]
      have hm : ∀ r ∈ without l a, r.length = n ∧ (∀ q, q < i → E r q = 0) := fun r hr => ⟨h1 r (without_mem hr), h2 r (without_mem hr)⟩
      have la : l[a].length = n := h1 _ (List.getElem_mem ha)
      have lz : ∀ q, q < i → E l[a] q = 0 := h2 _ (List.getElem_mem ha)
      refine ⟨fun r hr => ?_, fun r hr q hq => ?_, ?_, ?_⟩
      · obtain ⟨x, hx, rfl⟩ := List.mem_map.mp hr
        exact cleared_len (hm x hx).1 la
      · obtain ⟨x, hx, rfl⟩ := List.mem_map.mp hr
        by_cases q0 : q = i
        · rw [q0]
          exact cleared_zero (hm x hx).1 la
        · exact (cleared_Cl (hm x hx).1 la hE).zero (lz q (by omega)) ((hm x hx).2 q (by omega))
      · rw [List.length_map]
        have := without_len ha
        omega
      · rw [← h4]
        have := indep_clear (f := fun r => cleared r l[a] i) (A := l.take a) (B := l.drop (a + 1)) hE (fun r hr => cleared_Cl (hm r hr).1 la hE) (fun r hr => cleared_zero (hm r hr).1 la)
        rw [← without_eq ha] at this
        exact this.symm

theorem intRank_eq {rows : List (List Int)} {n : Nat} (hl : ∀ r ∈ rows, r.length = n) : intRank rows = rows.length ↔ Indep rows := by
  match rows, hl with
  | [], _ => exact ⟨fun _ => indep_nil, fun _ => rfl⟩
  | r :: rows, hl =>
    have hw : width (r :: rows) = n := hl r (by simp)
    unfold intRank
    rw [hw]
    obtain ⟨h1, h2, h3, h4⟩ := st_ok hl n
    rw [← h4, indep_zero fun x hx j => ?_]
    · constructor
      · intro e
        exact List.eq_nil_of_length_eq_zero (by omega)
      · intro e
        rw [e] at h3
        simpa using h3
    · by_cases hj : j < n
      · exact h2 x hx j hj
      · exact E_out (by rw [h1 x hx]; omega)

/-! ### sizes -/
def bx : Nat → Nat
  | 0 => 1
  | i + 1 => 2 * bx i + 1
def Sm (e : Nat) (rows : List (List Int)) : Prop := ∀ r ∈ rows, ∀ x ∈ r, x.natAbs < 2 ^ e
theorem bx_pos : ∀ i, 0 < bx i
  | 0 => by decide
  | i + 1 => by show 0 < 2 * bx i + 1; omega
theorem bx_mono : ∀ {i j : Nat}, i ≤ j → bx i ≤ bx j
  | i, 0, h => by
    have : i = 0 := by omega
    subst this
    exact Nat.le_refl _
  | i, j + 1, h => by
    by_cases e : i = j + 1
    · rw [e]
      exact Nat.le_refl _
    · have := bx_mono (i := i) (j := j) (by omega)
      show bx i ≤ 2 * bx j + 1
      omega
theorem bx_small {i : Nat} (h : i ≤ 9) : bx i ≤ 1023 := Nat.le_trans (bx_mono h) (by decide)
theorem natAbs_lt_mul {a b : Int} {e f : Nat} (ha : a.natAbs < 2 ^ e) (hb : b.natAbs < 2 ^ f) : (a * b).natAbs < 2 ^ (e + f) := by
  rw [Int.natAbs_mul, Nat.pow_add]
  exact Nat.mul_lt_mul'' ha hb
theorem natAbs_lt_sub {a b : Int} {e : Nat} (ha : a.natAbs < 2 ^ e) (hb : b.natAbs < 2 ^ e) : (a - b).natAbs < 2 ^ (e + 1) := by
  have := Int.natAbs_sub_le a b
  rw [Nat.pow_succ]
  omega
theorem E_small {e : Nat} {r : List Int} (h : ∀ x ∈ r, x.natAbs < 2 ^ e) (j : Nat) : (E r j).natAbs < 2 ^ e := by
  by_cases hj : j < r.length
  · rw [E_eq hj]
    exact h _ (List.getElem_mem hj)
  · rw [E_out (by omega)]
    exact Nat.pow_pos (by decide)
theorem mixed_small {row head : List Int} {p e : Nat} (h1 : ∀ x ∈ row, x.natAbs < 2 ^ e) (h2 : ∀ x ∈ head, x.natAbs < 2 ^ e) : ∀ x ∈ mixed row head p, x.natAbs < 2 ^ (2 * e + 1) := fun x hx => by
  unfold mixed at hx
  obtain ⟨j, hj, rfl⟩ := List.mem_iff_getElem.mp hx
  rw [List.getElem_zipWith]
  rw [List.length_zipWith] at hj
  have a := natAbs_lt_mul (E_small h2 p) (h1 _ (List.getElem_mem (by omega : j < row.length)))
  have b := natAbs_lt_mul (E_small h1 p) (h2 _ (List.getElem_mem (by omega : j < head.length)))
  have := natAbs_lt_sub a b
  rw [show 2 * e + 1 = e + e + 1 by omega]
  exact this
theorem plain_small {row : List Int} {e : Nat} (h : ∀ x ∈ row, x.natAbs < 2 ^ e) : ∀ x ∈ plainRow row, x.natAbs < 2 ^ e := fun x hx => by
  unfold plainRow at hx
  split at hx
  · obtain ⟨y, hy, rfl⟩ := List.mem_map.mp hx
    have : (y / (rowGcd row : Int)).natAbs ≤ y.natAbs := Int.natAbs_ediv_le_natAbs y _
    have := h y hy
    omega
  · exact h x hx
theorem cleared_small {row head : List Int} {p e : Nat} (h1 : ∀ x ∈ row, x.natAbs < 2 ^ e) (h2 : ∀ x ∈ head, x.natAbs < 2 ^ e) : ∀ x ∈ cleared row head p, x.natAbs < 2 ^ (2 * e + 1) := fun x hx => by
  unfold cleared at hx
  split at hx
  · exact Nat.lt_of_lt_of_le (h1 x hx) (Nat.pow_le_pow_right (by decide) (by omega))
  · exact plain_small (mixed_small h1 h2) x hx
theorem st_small {rows : List (List Int)} (h : Sm 1 rows) : ∀ i, Sm (bx i) (st rows i).1
  | 0 => h
  | i + 1 => by
    have ih := st_small h i
    show Sm (2 * bx i + 1) (stepL (st rows i).1 i).1
    generalize (st rows i).1 = l at ih ⊢
    unfold stepL
    cases e : firstAt l i with
    | none =>
      intro r hr x hx
      exact Nat.lt_of_lt_of_le (ih r hr x hx) (Nat.pow_le_pow_right (by decide) (by omega))
    | some a =>
      obtain ⟨ha, _⟩ := firstAt_some e
      intro r hr
      obtain ⟨y, hy, rfl⟩ := List.mem_map.mp hr
      have eg : l.getD a [] = l[a] := by
        rw [List.getD_eq_getElem?_getD, List.getElem?_eq_getElem ha]
        rfl
      rw [eg]
      exact cleared_small (ih y (without_mem hy)) (ih _ (List.getElem_mem ha))
theorem rowGcd_le {row : List Int} {e : Nat} (h : ∀ x ∈ row, x.natAbs < 2 ^ e) : rowGcd row < 2 ^ e := by
  by_cases hz : ∀ x ∈ row, x = 0
  · have : rowGcd row = 0 := by
      unfold rowGcd
      have key : ∀ (l : List Int), (∀ x ∈ l, x = 0) → ∀ c, l.foldl (fun c x => if x ≠ 0 then Nat.gcd c x.natAbs else c) c = c := by
        intro l
        induction l with
        | nil => exact fun _ _ => rfl
        | cons y l ih =>
          intro hl c
          rw [List.foldl_cons, hl y (by simp), if_neg (by simp)]
          exact ih (fun x hx => hl x (by simp [hx])) c
      exact key row hz 0
    rw [this]
    exact Nat.pow_pos (by decide)
  · obtain ⟨x, hx, h0⟩ : ∃ x, x ∈ row ∧ x ≠ 0 := by
      apply Classical.byContradiction
      intro hc
      exact hz fun x hx => Classical.byContradiction fun h0 => hc ⟨x, hx, h0⟩
    have d := rowGcd_dvd hx
    have l : rowGcd row ≤ x.natAbs := Nat.le_of_dvd (by omega) d
    have := h x hx
    omega
end Mth
/-! Threes put on one behind another have no ring exactly if the rows of their pairs are free. -/
namespace Mth

abbrev Three := Nat × Nat × Nat
def Good (n : Nat) (t : Three) : Prop := t.1 < t.2.1 ∧ t.2.1 < t.2.2 ∧ t.2.2 < n
def dl (a b : Nat) : Int := if a = b then 1 else 0
def rowWith (n i j : Nat) : List Int := (List.range n).map fun p => dl p i - dl p j
def rowsOf (n : Nat) (ts : List Three) : List (List Int) := ts.flatMap fun t => [rowWith n t.1 t.2.1, rowWith n t.1 t.2.2]
def P (p : List Nat) (q : Nat) : Nat := p.getD q 0
/-- put on, the label of the merged pieces being chosen by a function of the three labels -/
def putBy (ch : Nat → Nat → Nat → Nat) (p : List Nat) (t : Three) : Option (List Nat) :=
  let a := P p t.1
  let b := P p t.2.1
  let c := P p t.2.2
  if a = b ∨ a = c ∨ b = c then none else some (p.map fun q => if q = a ∨ q = b ∨ q = c then ch a b c else q)
def putAll (ch : Nat → Nat → Nat → Nat) : List Nat → List Three → Option (List Nat)
  | p, [] => some p
  | p, t :: ts => match putBy ch p t with
    | none => none
    | some p' => putAll ch p' ts
def Pick (ch : Nat → Nat → Nat → Nat) : Prop := ∀ a b c, ch a b c = a ∨ ch a b c = b ∨ ch a b c = c

theorem rowWith_len (n i j : Nat) : (rowWith n i j).length = n := by
  unfold rowWith
  rw [List.length_map, List.length_range]
theorem E_rowWith (n i j q : Nat) : E (rowWith n i j) q = if q < n then dl q i - dl q j else 0 := by
  split
  · rename_i h
    rw [E_eq (by rw [rowWith_len]; exact h)]
    unfold rowWith
    rw [List.getElem_map, List.getElem_range]
  · exact E_out (by rw [rowWith_len]; omega)
theorem rowsOf_len {n : Nat} {ts : List Three} : ∀ r ∈ rowsOf n ts, r.length = n := fun r hr => by
  unfold rowsOf at hr
  obtain ⟨t, _, h⟩ := List.mem_flatMap.mp hr
  simp only [List.mem_cons, List.not_mem_nil, or_false] at h
  rcases h with rfl | rfl
  · exact rowWith_len _ _ _
  · exact rowWith_len _ _ _
theorem rowsOf_length (n : Nat) (ts : List Three) : (rowsOf n ts).length = 2 * ts.length := by
  induction ts with
  | nil => rfl
  | cons t ts ih =>
    show ([rowWith n t.1 t.2.1, rowWith n t.1 t.2.2] ++ rowsOf n ts).length = _
    rw [List.length_append, ih]
    simp only [List.length_cons, List.length_nil]
    omega
theorem rowsOf_append (n : Nat) (A B : List Three) : rowsOf n (A ++ B) = rowsOf n A ++ rowsOf n B := List.flatMap_append
theorem rowsOf_small (n : Nat) (ts : List Three) : Sm 1 (rowsOf n ts) := fun r hr x hx => by
  unfold rowsOf at hr
  obtain ⟨t, _, h⟩ := List.mem_flatMap.mp hr
  have key : ∀ i j, x ∈ rowWith n i j → x.natAbs < 2 ^ 1 := fun i j hx => by
    unfold rowWith at hx
    obtain ⟨q, _, rfl⟩ := List.mem_map.mp hx
    unfold dl
    split <;> split <;> decide
  simp only [List.mem_cons, List.not_mem_nil, or_false] at h
  rcases h with rfl | rfl
  · exact key _ _ hx
  · exact key _ _ hx

/-! ### sums over places -/
def sumTo : Nat → (Nat → Int) → Int
  | 0, _ => 0
  | n + 1, f => sumTo n f + f n
theorem sumTo_add (n : Nat) (f g : Nat → Int) : sumTo n (fun q => f q + g q) = sumTo n f + sumTo n g := by
  induction n with
  | zero => rfl
  | succ n ih =>
    show sumTo n _ + (f n + g n) = (sumTo n f + f n) + (sumTo n g + g n)
    rw [ih]
    omega
theorem sumTo_mul (n : Nat) (c : Int) (f : Nat → Int) : sumTo n (fun q => c * f q) = c * sumTo n f := by
  induction n with
  | zero => exact (Int.mul_zero c).symm
  | succ n ih =>
    show sumTo n _ + _ = c * (sumTo n f + f n)
    rw [ih, Int.mul_add]
theorem sumTo_congr {n : Nat} {f g : Nat → Int} (h : ∀ q, q < n → f q = g q) : sumTo n f = sumTo n g := by
  induction n with
  | zero => rfl
  | succ n ih =>
    show sumTo n f + f n = sumTo n g + g n
    rw [ih fun q hq => h q (by omega), h n (by omega)]
theorem sumTo_zero (n : Nat) : sumTo n (fun _ => 0) = 0 := by
  induction n with
  | zero => rfl
  | succ n ih =>
    show sumTo n _ + 0 = 0
    rw [ih]
    rfl
theorem sumTo_one (n i : Nat) (x : Nat → Int) : sumTo n (fun q => dl q i * x q) = if i < n then x i else 0 := by
  induction n with
  | zero => rfl
  | succ n ih =>
    show sumTo n _ + dl n i * x n = _
    rw [ih]
    unfold dl
    by_cases h : n = i
    · subst h
      rw [if_neg (by omega), if_pos rfl, if_pos (by omega)]
      omega
    · rw [if_neg h]
      by_cases h2 : i < n
      · rw [if_pos h2, if_pos (by omega)]
        omega
      · rw [if_neg h2, if_neg (by omega)]
        omega
theorem sumTo_nn {n : Nat} {f : Nat → Int} (h : ∀ q, q < n → 0 ≤ f q) : 0 ≤ sumTo n f := by
  induction n with
  | zero => exact Int.le_refl 0
  | succ n ih =>
    have := ih fun q hq => h q (by omega)
    have := h n (by omega)
    show 0 ≤ sumTo n f + f n
    omega
theorem sumTo_ge {n i : Nat} {f : Nat → Int} (h : ∀ q, q < n → 0 ≤ f q) (hi : i < n) : f i ≤ sumTo n f := by
  induction n with
  | zero => omega
  | succ n ih =>
    show f i ≤ sumTo n f + f n
    have h1 := sumTo_nn fun q (hq : q < n) => h q (by omega)
    have h2 := h n (by omega)
    by_cases e : i = n
    · rw [e]
      omega
    · have := ih (fun q hq => h q (by omega)) (by omega)
      omega

/-- the sum of a row over the places of a label -/
def lsum (n : Nat) (p : List Nat) (l : Nat) (f : Nat → Int) : Int := sumTo n fun q => dl (P p q) l * f q
theorem lsum_rowWith {n i j : Nat} (p : List Nat) (l : Nat) (hi : i < n) (hj : j < n) : lsum n p l (E (rowWith n i j)) = dl (P p i) l - dl (P p j) l := by
  unfold lsum
  have : sumTo n (fun q => dl (P p q) l * E (rowWith n i j) q) = sumTo n (fun q => dl q i * dl (P p q) l + (-1) * (dl q j * dl (P p q) l)) := sumTo_congr fun q hq => by
    rw [E_rowWith, if_pos hq]
    grind
  rw [this, sumTo_add, sumTo_mul, sumTo_one, sumTo_one, if_pos hi, if_pos hj]
  omega
theorem lsum_comb {n : Nat} {p : List Nat} {l : Nat} : ∀ {cs : List Int} {rs : List (List Int)}, (∀ r ∈ rs, lsum n p l (E r) = 0) → lsum n p l (comb cs rs) = 0
  | [], rs, _ => by
    have : comb [] rs = fun _ => 0 := funext fun j => comb_nil_left rs j
    rw [this]
    unfold lsum
    simp only [Int.mul_zero]
    exact sumTo_zero n
  | c :: cs, [], _ => by
    have : comb (c :: cs) [] = fun _ => 0 := funext fun j => rfl
    rw [this]
    unfold lsum
    simp only [Int.mul_zero]
    exact sumTo_zero n
  | c :: cs, r :: rs, h => by
    have ih := lsum_comb (cs := cs) (rs := rs) fun x hx => h x (by simp [hx])
    have h0 := h r (by simp)
    unfold lsum at ih h0 ⊢
    have : sumTo n (fun q => dl (P p q) l * comb (c :: cs) (r :: rs) q) = sumTo n (fun q => c * (dl (P p q) l * E r q) + dl (P p q) l * comb cs rs q) := sumTo_congr fun q _ => by
      rw [comb_cons]
      grind
    rw [this, sumTo_add, sumTo_mul, ih, h0]
    omega

/-! ### what rows make -/
def Spn (rs : List (List Int)) (f : Nat → Int) : Prop := ∃ cs : List Int, cs.length = rs.length ∧ ∀ j, comb cs rs j = f j
theorem Spn.zero (rs : List (List Int)) : Spn rs fun _ => 0 := ⟨rs.map fun _ => 0, by simp, fun j => comb_zero j (by simp)⟩
theorem Spn.add {rs : List (List Int)} {f g : Nat → Int} (h1 : Spn rs f) (h2 : Spn rs g) : Spn rs fun j => f j + g j := by
  obtain ⟨cs, l1, e1⟩ := h1
  obtain ⟨ds, l2, e2⟩ := h2
  exact ⟨List.zipWith (· + ·) cs ds, by rw [List.length_zipWith]; omega, fun j => by rw [comb_add j l1 l2, e1 j, e2 j]⟩
theorem Spn.mul {rs : List (List Int)} {f : Nat → Int} (m : Int) (h : Spn rs f) : Spn rs fun j => m * f j := by
  obtain ⟨cs, l, e⟩ := h
  exact ⟨cs.map (m * ·), by simpa using l, fun j => by rw [comb_mul, e j]⟩
theorem Spn.congr {rs : List (List Int)} {f g : Nat → Int} (h : Spn rs f) (e : ∀ j, f j = g j) : Spn rs g := by
  obtain ⟨cs, l, q⟩ := h
  exact ⟨cs, l, fun j => (q j).trans (e j)⟩
theorem Spn.left {rs ss : List (List Int)} {f : Nat → Int} (h : Spn rs f) : Spn (rs ++ ss) f := by
  obtain ⟨cs, l, e⟩ := h
  exact ⟨cs ++ ss.map fun _ => 0, by simp [l], fun j => by
    rw [comb_append j l, e j, comb_zero j (by simp)]
    omega⟩
theorem Spn.last1 {rs : List (List Int)} {r s : List Int} : Spn (rs ++ [r, s]) (E r) := ⟨(rs.map fun _ => 0) ++ [1, 0], by simp, fun j => by
  rw [comb_append j (by simp), comb_zero j (by simp), comb_cons, comb_cons, comb_nil_left]
  omega⟩
theorem Spn.last2 {rs : List (List Int)} {r s : List Int} : Spn (rs ++ [r, s]) (E s) := ⟨(rs.map fun _ => 0) ++ [0, 1], by simp, fun j => by
  rw [comb_append j (by simp), comb_zero j (by simp), comb_cons, comb_cons, comb_nil_left]
  omega⟩
/-- a sum of the two last rows that the others make: not free -/
theorem Spn.dep {rs : List (List Int)} {r s : List Int} {x y : Int} (h : Spn rs fun j => x * E r j + y * E s j) (ne : x ≠ 0 ∨ y ≠ 0) : ¬ Indep (rs ++ [r, s]) := fun I => by
  obtain ⟨cs, l, e⟩ := h
  have := I (cs ++ [-x, -y]) (by simp [l]) (fun j => by
    rw [comb_append j l, e j, comb_cons, comb_cons, comb_nil_left]
    grind)
  have h1 := this (-x) (by simp)
  have h2 := this (-y) (by simp)
  omega

/-! ### the labels tell what the rows make -/
def ue (n u v : Nat) : Nat → Int := E (rowWith n u v)
theorem ue_self (n u q : Nat) : ue n u u q = 0 := by
  unfold ue
  rw [E_rowWith]
  split <;> omega
theorem ue_tri (n u v w q : Nat) : ue n u v q + ue n v w q = ue n u w q := by
  unfold ue
  rw [E_rowWith, E_rowWith, E_rowWith]
  split <;> omega
theorem ue_neg (n u v q : Nat) : (-1) * ue n u v q = ue n v u q := by
  unfold ue
  rw [E_rowWith, E_rowWith]
  split <;> omega
structure Lab (n : Nat) (p : List Nat) (rs : List (List Int)) : Prop where
  len : p.length = n
  sums : ∀ r ∈ rs, ∀ l, lsum n p l (E r) = 0
  made : ∀ u v, u < n → v < n → P p u = P p v → Spn rs (ue n u v)
  ind : Indep rs
theorem P_range {n q : Nat} (h : q < n) : P (List.range n) q = q := by
  unfold P
  rw [List.getD_eq_getElem?_getD, List.getElem?_range h]
  rfl
theorem P_map {p : List Nat} {f : Nat → Nat} {q : Nat} (h : q < p.length) : P (p.map f) q = f (P p q) := by
  unfold P
  rw [List.getD_eq_getElem?_getD, List.getD_eq_getElem?_getD, List.getElem?_map, List.getElem?_eq_getElem h]
  rfl
theorem Lab.start (n : Nat) : Lab n (List.range n) [] :=
  ⟨List.length_range, by simp, fun u v hu hv e => by
    rw [P_range hu, P_range hv] at e
    subst e
    exact (Spn.zero []).congr fun j => (ue_self n u j).symm, indep_nil⟩
theorem dl_eq {a b : Nat} (h : a = b) : dl a b = 1 := if_pos h
theorem dl_ne {a b : Nat} (h : a ≠ b) : dl a b = 0 := if_neg h

theorem Lab.step {ch : Nat → Nat → Nat → Nat} (hc : Pick ch) {n : Nat} {p : List Nat} {rs : List (List Int)} (L : Lab n p rs) {t : Three} (g : Good n t) :
    (putBy ch p t = none → ¬ Indep (rs ++ [rowWith n t.1 t.2.1, rowWith n t.1 t.2.2])) ∧
    (∀ p', putBy ch p t = some p' → Lab n p' (rs ++ [rowWith n t.1 t.2.1, rowWith n t.1 t.2.2])) := by
  obtain ⟨i, j, k⟩ := t
  obtain ⟨g1, g2, g3⟩ := g
  simp only at g1 g2 g3 ⊢
  have hi : i < n := by omega
  have hj : j < n := by omega
  constructor
  · intro e
    unfold putBy at e
    simp only at e
    split at e
    · rename_i h
      rcases h with h | h | h
      · refine ((L.made i j hi hj h).congr (g := fun q => 1 * E (rowWith n i j) q + 0 * E (rowWith n i k) q) fun q => ?_).dep (.inl (by decide))
        unfold ue
        omega
      · refine ((L.made i k hi g3 h).congr (g := fun q => 0 * E (rowWith n i j) q + 1 * E (rowWith n i k) q) fun q => ?_).dep (.inr (by decide))
        unfold ue
        omega
      · refine ((L.made j k hj g3 h).congr (g := fun q => (-1) * E (rowWith n i j) q + 1 * E (rowWith n i k) q) fun q => ?_).dep (.inr (by decide))
        have := ue_tri n i j k q
        unfold ue at this ⊢
        omega
    · cases e
  · intro p' e
    unfold putBy at e
    simp only at e
    split at e
    · cases e
    · rename_i h
      have hab : P p i ≠ P p j := fun z => h (.inl z)
      have hac : P p i ≠ P p k := fun z => h (.inr (.inl z))
      have hbc : P p j ≠ P p k := fun z => h (.inr (.inr z))
      have e := Option.some.inj e
      have hP : ∀ q, q < n → P p' q = if P p q = P p i ∨ P p q = P p j ∨ P p q = P p k then ch (P p i) (P p j) (P p k) else P p q := fun q hq => by
        rw [← e, P_map (by rw [L.len]; exact hq)]
      have hch := hc (P p i) (P p j) (P p k)
      generalize ch (P p i) (P p j) (P p k) = z at hP hch
      refine ⟨by rw [← e, List.length_map]; exact L.len, ?_, ?_, ?_⟩
      · -- the sums over the new labels
        have key : ∀ (f : Nat → Int) (l : Nat), lsum n p' l f = if l = z then lsum n p (P p i) f + lsum n p (P p j) f + lsum n p (P p k) f else if l = P p i ∨ l = P p j ∨ l = P p k then 0 else lsum n p l f := by
          intro f l
          unfold lsum
          split
          · rename_i hl
            rw [← sumTo_add, ← sumTo_add]
            refine sumTo_congr fun q hq => ?_
            rw [hP q hq, hl]
            by_cases h1 : P p q = P p i
            · rw [if_pos (.inl h1), dl_eq rfl, dl_eq h1, dl_ne (by rw [h1]; exact hab), dl_ne (by rw [h1]; exact hac)]
              omega
            · by_cases h2 : P p q = P p j
              · rw [if_pos (.inr (.inl h2)), dl_eq rfl, dl_ne h1, dl_eq h2, dl_ne (by rw [h2]; exact hbc)]
                omega
              · by_cases h3 : P p q = P p k
                · rw [if_pos (.inr (.inr h3)), dl_eq rfl, dl_ne h1, dl_ne h2, dl_eq h3]
                  omega
                · rw [if_neg (by simp [h1, h2, h3]), dl_ne h1, dl_ne h2, dl_ne h3, dl_ne (fun y => by rcases hch with w | w | w <;> simp_all)]
                  omega
          · rename_i hl
            split
            · rename_i hm
              rw [← sumTo_zero n]
              refine sumTo_congr fun q hq => ?_
              rw [hP q hq]
              split
              · rw [dl_ne (fun y => hl y.symm)]
                omega
              · rename_i hq'
                rw [dl_ne (fun y => hq' (by rw [y]; exact hm))]
                omega
            · rename_i hm
              refine sumTo_congr fun q hq => ?_
              rw [hP q hq]
              split
              · rename_i hq'
                rw [dl_ne (fun y => hl y.symm), dl_ne (fun y => hm (by rw [← y]; exact hq'))]
              · rfl
        intro r hr l
        rw [key]
        have base : ∀ r ∈ rs, ∀ l, lsum n p l (E r) = 0 := L.sums
        rcases List.mem_append.mp hr with hr | hr
        · rw [base r hr, base r hr, base r hr, base r hr]
          split
          · rfl
          · split <;> rfl
        · have two : ∀ v, v < n → (P p v = P p j ∨ P p v = P p k) → (if l = z then lsum n p (P p i) (E (rowWith n i v)) + lsum n p (P p j) (E (rowWith n i v)) + lsum n p (P p k) (E (rowWith n i v)) else if l = P p i ∨ l = P p j ∨ l = P p k then 0 else lsum n p l (E (rowWith n i v))) = 0 := by
            intro v hv hv'
            rw [lsum_rowWith p _ hi hv, lsum_rowWith p _ hi hv, lsum_rowWith p _ hi hv, lsum_rowWith p _ hi hv]
            split
            · rw [dl_eq (rfl : P p i = P p i), dl_ne hab, dl_ne hac]
              rcases hv' with w | w
              · rw [w, dl_ne hab.symm, dl_eq rfl, dl_ne hbc]
                omega
              · rw [w, dl_ne hac.symm, dl_ne hbc.symm, dl_eq rfl]
                omega
            · split
              · rfl
              · rename_i hm
                rw [dl_ne (fun y => hm (.inl y.symm)), dl_ne (fun y => hm (by rcases hv' with w | w <;> simp [← y, w]))]
                omega
          simp only [List.mem_cons, List.not_mem_nil, or_false] at hr
          rcases hr with rfl | rfl
          · exact two j hj (.inl rfl)
          · exact two k g3 (.inr rfl)
      · -- what is made
        have toi : ∀ u, u < n → (P p u = P p i ∨ P p u = P p j ∨ P p u = P p k) → Spn (rs ++ [rowWith n i j, rowWith n i k]) (ue n u i) := by
          intro u hu h3
          have neg : ∀ a b, Spn (rs ++ [rowWith n i j, rowWith n i k]) (ue n a b) → Spn (rs ++ [rowWith n i j, rowWith n i k]) (ue n b a) := fun a b h => (h.mul (-1)).congr fun q => ue_neg n a b q
          rcases h3 with w | w | w
          · exact (L.made u i hu hi w).left
          · exact ((L.made u j hu hj w).left.add (neg i j Spn.last1)).congr fun q => ue_tri n u j i q
          · exact ((L.made u k hu g3 w).left.add (neg i k Spn.last2)).congr fun q => ue_tri n u k i q
        intro u v hu hv ep
        rw [hP u hu, hP v hv] at ep
        have inv : ∀ w, (P p w = P p i ∨ P p w = P p j ∨ P p w = P p k) ∨ ¬ (P p w = P p i ∨ P p w = P p j ∨ P p w = P p k) := fun w => Classical.em _
        by_cases hu3 : P p u = P p i ∨ P p u = P p j ∨ P p u = P p k
        · rw [if_pos hu3] at ep
          have hv3 : P p v = P p i ∨ P p v = P p j ∨ P p v = P p k := by
            rcases inv v with h | h
            · exact h
            · rw [if_neg h] at ep
              rw [← ep]
              exact hch
          have a := toi u hu hu3
          have b := ((toi v hv hv3).mul (-1)).congr fun q => ue_neg n v i q
          exact (a.add b).congr fun q => ue_tri n u i v q
        · rw [if_neg hu3] at ep
          have hv3 : ¬ (P p v = P p i ∨ P p v = P p j ∨ P p v = P p k) := fun h => by
            rw [if_pos h] at ep
            exact hu3 (by rw [ep]; exact hch)
          rw [if_neg hv3] at ep
          exact (L.made u v hu hv ep).left
      · -- free
        intro cs hl h0
        obtain ⟨ca, cx, rfl, la, lx⟩ := split_coef hl
        match cx, lx with
        | [x, y], _ =>
          have h0' : ∀ q, comb ca rs q + (x * E (rowWith n i j) q + y * E (rowWith n i k) q) = 0 := fun q => by
            have := h0 q
            rw [comb_append q la, comb_cons, comb_cons, comb_nil_left] at this
            omega
          have ls : ∀ l, x * (dl (P p i) l - dl (P p j) l) + y * (dl (P p i) l - dl (P p k) l) = 0 := fun l => by
            have e1 : lsum n p l (fun q => comb ca rs q + (x * E (rowWith n i j) q + y * E (rowWith n i k) q)) = lsum n p l (comb ca rs) + (x * lsum n p l (E (rowWith n i j)) + y * lsum n p l (E (rowWith n i k))) := by
              unfold lsum
              rw [← sumTo_mul, ← sumTo_mul, ← sumTo_add, ← sumTo_add]
              refine sumTo_congr fun q _ => ?_
              grind
            have e2 : lsum n p l (fun q => comb ca rs q + (x * E (rowWith n i j) q + y * E (rowWith n i k) q)) = 0 := by
              unfold lsum
              rw [← sumTo_zero n]
              refine sumTo_congr fun q _ => ?_
              show _ * (comb ca rs q + (x * E (rowWith n i j) q + y * E (rowWith n i k) q)) = 0
              rw [h0' q, Int.mul_zero]
            rw [e2, lsum_comb fun r hr => L.sums r hr l, lsum_rowWith p l hi hj, lsum_rowWith p l hi g3] at e1
            omega
          have x0 : x = 0 := by
            have := ls (P p j)
            rw [dl_ne hab, dl_eq rfl, dl_ne hbc.symm] at this
            omega
          have y0 : y = 0 := by
            have := ls (P p k)
            rw [dl_ne hac, dl_eq rfl, dl_ne hbc] at this
            omega
          intro c hc'
          rcases List.mem_append.mp hc' with hc' | hc'
          · exact L.ind ca la (fun q => by
              have := h0' q
              rw [x0, y0] at this
              omega) c hc'
          · simp only [List.mem_cons, List.not_mem_nil, or_false] at hc'
            rcases hc' with rfl | rfl
            · exact x0
            · exact y0

theorem putAll_iff {ch : Nat → Nat → Nat → Nat} (hc : Pick ch) {n : Nat} : ∀ {ts : List Three} {p : List Nat} {rs : List (List Int)}, (∀ t ∈ ts, Good n t) → Lab n p rs →
    ((putAll ch p ts).isSome = true ↔ Indep (rs ++ rowsOf n ts))
  | [], p, rs, _, L => by
    show (some p).isSome = true ↔ Indep (rs ++ [])
    rw [List.append_nil]
    exact ⟨fun _ => L.ind, fun _ => rfl⟩
  | t :: ts, p, rs, hg, L => by
    obtain ⟨s1, s2⟩ := L.step hc (hg t (by simp))
    have er : rs ++ rowsOf n (t :: ts) = (rs ++ [rowWith n t.1 t.2.1, rowWith n t.1 t.2.2]) ++ rowsOf n ts := by
      rw [List.append_assoc]
      rfl
    unfold putAll
    cases e : putBy ch p t with
    | none =>
      constructor
      · intro h
        cases h
      · intro h
        rw [er] at h
        exact absurd (indep_left h) (s1 e)
    | some p' =>
      rw [er]
      exact putAll_iff hc (fun x hx => hg x (by simp [hx])) (s2 p' e)

/-- threes without a ring -/
def Ringless (n : Nat) (ts : List Three) : Prop := Indep (rowsOf n ts)
theorem ringless_iff {ch : Nat → Nat → Nat → Nat} (hc : Pick ch) {n : Nat} {ts : List Three} (h : ∀ t ∈ ts, Good n t) : (putAll ch (List.range n) ts).isSome = true ↔ Ringless n ts := by
  have := putAll_iff hc h (Lab.start n)
  rw [List.nil_append] at this
  exact this
theorem Ringless.right {n : Nat} {A B : List Three} (h : Ringless n (A ++ B)) : Ringless n B := by
  unfold Ringless at *
  rw [rowsOf_append] at h
  exact indep_right h
theorem Ringless.left {n : Nat} {A B : List Three} (h : Ringless n (A ++ B)) : Ringless n A := by
  unfold Ringless at *
  rw [rowsOf_append] at h
  exact indep_left h
theorem rowsOf_perm {n : Nat} {A B : List Three} (h : A.Perm B) : (rowsOf n A).Perm (rowsOf n B) := h.flatMap_right _
theorem Ringless.perm {n : Nat} {A B : List Three} (h : A.Perm B) (I : Ringless n B) : Ringless n A := indep_perm (rowsOf_perm h) I
theorem rank_iff {n : Nat} {ts : List Three} : intRank (rowsOf n ts) = 2 * ts.length ↔ Ringless n ts := by
  rw [← rowsOf_length n ts]
  exact intRank_eq (rowsOf_len (n := n))

/-! ### how many -/
/-- the first label is kept: labels are places that bear themselves -/
def chF : Nat → Nat → Nat → Nat := fun a _ _ => a
theorem pickF : Pick chF := fun _ _ _ => .inl rfl
structure Roots (n : Nat) (p : List Nat) (m : Nat) : Prop where
  len : p.length = n
  lt : ∀ q, q < n → P p q < n
  idem : ∀ q, q < n → P p (P p q) = P p q
  cnt : sumTo n (fun q => dl (P p q) q) + 2 * m = n
theorem sumTo_ones (n : Nat) : sumTo n (fun _ => 1) = n := by
  induction n with
  | zero => rfl
  | succ n ih =>
    show sumTo n _ + 1 = _
    rw [ih]
    omega
theorem Roots.start (n : Nat) : Roots n (List.range n) 0 :=
  ⟨List.length_range, fun q h => by rw [P_range h]; exact h, fun q h => by rw [P_range h, P_range h], by
    rw [sumTo_congr (g := fun _ => 1) fun q h => dl_eq (P_range h), sumTo_ones]
    omega⟩
theorem Roots.step {n m : Nat} {p p' : List Nat} (R : Roots n p m) {t : Three} (g : Good n t) (e : putBy chF p t = some p') : Roots n p' (m + 1) := by
  obtain ⟨i, j, k⟩ := t
  obtain ⟨g1, g2, g3⟩ := g
  simp only at g1 g2 g3
  have hi : i < n := by omega
  have hj : j < n := by omega
  unfold putBy at e
  simp only at e
  split at e
  · cases e
  · rename_i h
    have hab : P p i ≠ P p j := fun z => h (.inl z)
    have hac : P p i ≠ P p k := fun z => h (.inr (.inl z))
    have hbc : P p j ≠ P p k := fun z => h (.inr (.inr z))
    have e := Option.some.inj e
    have hP : ∀ q, q < n → P p' q = if P p q = P p i ∨ P p q = P p j ∨ P p q = P p k then P p i else P p q := fun q hq => by
      rw [← e, P_map (by rw [R.len]; exact hq)]
      rfl
    have lt' : ∀ q, q < n → P p' q < n := fun q hq => by
      rw [hP q hq]
      split
      · exact R.lt i hi
      · exact R.lt q hq
    have ra : P p (P p i) = P p i := R.idem i hi
    have rb : P p (P p j) = P p j := R.idem j hj
    have rc : P p (P p k) = P p k := R.idem k g3
    refine ⟨by rw [← e, List.length_map]; exact R.len, lt', fun q hq => ?_, ?_⟩
    · rw [hP (P p' q) (lt' q hq), hP q hq]
      split
      · rw [ra, if_pos (.inl rfl)]
      · rename_i hq'
        rw [R.idem q hq, if_neg hq']
    · have key : sumTo n (fun q => dl (P p q) q) = sumTo n (fun q => dl (P p' q) q + (dl q (P p j) * 1 + dl q (P p k) * 1)) := sumTo_congr fun q hq => by
        rw [hP q hq]
        by_cases h1 : q = P p j
        · subst h1
          rw [rb, if_pos (.inr (.inl rfl)), dl_eq rfl, dl_ne hab, dl_ne hbc]
          rfl
        · by_cases h2 : q = P p k
          · subst h2
            rw [rc, if_pos (.inr (.inr rfl)), dl_eq rfl, dl_ne hac, dl_ne h1]
            rfl
          · rw [dl_ne h1, dl_ne h2]
            split
            · rename_i h3
              by_cases h4 : q = P p i
              · subst h4
                rw [ra]
                omega
              · rw [dl_ne (fun z => h4 z.symm), dl_ne (fun z => by rw [z] at h3; simp_all)]
                rfl
            · omega
      have c := R.cnt
      rw [key, sumTo_add, sumTo_add, sumTo_one, sumTo_one, if_pos (R.lt j hj), if_pos (R.lt k g3)] at c
      omega
theorem putAll_roots {n : Nat} : ∀ {ts : List Three} {p p' : List Nat} {m : Nat}, (∀ t ∈ ts, Good n t) → Roots n p m → putAll chF p ts = some p' → Roots n p' (m + ts.length)
  | [], p, p', m, _, R, e => by
    cases e
    exact R
  | t :: ts, p, p', m, hg, R, e => by
    unfold putAll at e
    cases e1 : putBy chF p t with
    | none =>
      rw [e1] at e
      cases e
    | some p1 =>
      rw [e1] at e
      have := putAll_roots (fun x hx => hg x (by simp [hx])) (R.step (hg t (by simp)) e1) e
      rw [List.length_cons, show m + (ts.length + 1) = m + 1 + ts.length by omega]
      exact this
theorem ringless_few {n : Nat} {ts : List Three} (hg : ∀ t ∈ ts, Good n t) (h : Ringless n ts) : 2 * ts.length ≤ n - 1 := by
  have := (ringless_iff pickF hg).mpr h
  obtain ⟨p', e⟩ := Option.isSome_iff_exists.mp this
  have R := putAll_roots hg (Roots.start n) e
  match ts, hg, R with
  | [], _, _ => exact Nat.zero_le _
  | t :: ts, hg, R =>
    have g := hg t (by simp)
    obtain ⟨g1, g2, g3⟩ := g
    have hn : 0 < n := by omega
    have c := R.cnt
    have r0 := sumTo_ge (f := fun q => dl (P p' q) q) (fun q _ => by unfold dl; split <;> decide) (R.lt 0 hn)
    have r1 : dl (P p' (P p' 0)) (P p' 0) = 1 := dl_eq (R.idem 0 hn)
    simp only [r1] at r0
    omega
end Mth
/-! Lots of threes: level by level, and all of them; the greatest number. -/
namespace Mth

def Rising (lot : List Nat) (m : Nat) : Prop := lot.Pairwise (· < ·) ∧ ∀ x ∈ lot, x < m
def sel (ts : List Three) (lot : List Nat) : List Three := lot.map fun i => ts.getD i (0, 0, 0)
/-- ringless, by the program's own walk -/
def rl (n : Nat) (ts : List Three) (lot : List Nat) : Bool := (putAll chF (List.range n) (sel ts lot)).isSome
def pcs (n : Nat) (ts : List Three) (lot : List Nat) : List Nat := (putAll chF (List.range n) (sel ts lot)).getD []
def nxt (lot : List Nat) : Nat := match lot.getLast? with
  | none => 0
  | some x => x + 1
def exK (R : List Nat → Bool) (lot : List Nat) (lo j : Nat) : List (List Nat) := ((List.range' lo j).map fun x => lot ++ [x]).filter R
def ext (R : List Nat → Bool) (m : Nat) (lot : List Nat) : List (List Nat) := exK R lot (nxt lot) (m - nxt lot)
def lv (R : List Nat → Bool) (m : Nat) : Nat → List (List Nat)
  | 0 => [[]]
  | k + 1 => (lv R m k).flatMap (ext R m)

theorem exK_zero (R : List Nat → Bool) (lot : List Nat) (lo : Nat) : exK R lot lo 0 = [] := rfl
theorem exK_succ (R : List Nat → Bool) (lot : List Nat) (lo j : Nat) : exK R lot lo (j + 1) = exK R lot lo j ++ if R (lot ++ [lo + j]) = true then [lot ++ [lo + j]] else [] := by
  unfold exK
  rw [List.range'_1_concat, List.map_append, List.filter_append]
  congr 1
  show List.filter R [lot ++ [lo + j]] = _
  rw [List.filter_cons, List.filter_nil]
theorem exK_len (R : List Nat → Bool) (lot : List Nat) (lo j : Nat) : (exK R lot lo j).length ≤ j := by
  unfold exK
  refine Nat.le_trans (List.length_filter_le _ _) ?_
  rw [List.length_map, List.length_range']
  exact Nat.le_refl _
theorem ext_len (R : List Nat → Bool) (m : Nat) (lot : List Nat) : (ext R m lot).length ≤ m := Nat.le_trans (exK_len _ _ _ _) (Nat.sub_le _ _)
theorem flat_len (R : List Nat → Bool) (m : Nat) : ∀ l : List (List Nat), (l.flatMap (ext R m)).length ≤ l.length * m
  | [] => Nat.zero_le _
  | x :: l => by
    rw [List.flatMap_cons, List.length_append, List.length_cons, Nat.add_mul, Nat.one_mul]
    have := flat_len R m l
    have := ext_len R m x
    omega
theorem lv_len (R : List Nat → Bool) (m : Nat) : ∀ k, (lv R m k).length ≤ m ^ k
  | 0 => Nat.le_refl _
  | k + 1 => by
    refine Nat.le_trans (flat_len R m _) ?_
    rw [Nat.pow_succ]
    exact Nat.mul_le_mul_right _ (lv_len R m k)

theorem nxt_snoc (lot : List Nat) (x : Nat) : nxt (lot ++ [x]) = x + 1 := by
  unfold nxt
  rw [List.getLast?_concat]
theorem nxt_le {lot : List Nat} {x : Nat} (h : (lot ++ [x]).Pairwise (· < ·)) : nxt lot ≤ x := by
  unfold nxt
  cases e : lot.getLast? with
  | none => exact Nat.zero_le _
  | some y =>
    have hy : y ∈ lot := List.mem_of_getLast? e
    have := (List.pairwise_append.mp h).2.2 y hy x (by simp)
    exact this
theorem lt_nxt : ∀ {lot : List Nat}, lot.Pairwise (· < ·) → ∀ y ∈ lot, y < nxt lot := fun {lot} h y hy => by
  unfold nxt
  cases e : lot.getLast? with
  | none =>
    rw [List.getLast?_eq_none_iff] at e
    subst e
    cases hy
  | some z =>
    obtain ⟨ys, rfl⟩ := List.getLast?_eq_some_iff.mp e
    rcases List.mem_append.mp hy with hy | hy
    · have := (List.pairwise_append.mp h).2.2 y hy z (by simp)
      show y < z + 1
      omega
    · simp only [List.mem_cons, List.not_mem_nil, or_false] at hy
      show y < z + 1
      omega
theorem mem_ext {R : List Nat → Bool} {m : Nat} {lot l : List Nat} : l ∈ ext R m lot ↔ ∃ x, nxt lot ≤ x ∧ x < m ∧ l = lot ++ [x] ∧ R l = true := by
  unfold ext exK
  rw [List.mem_filter, List.mem_map]
  constructor
  · rintro ⟨⟨x, hx, rfl⟩, hR⟩
    rw [List.mem_range'_1] at hx
    exact ⟨x, hx.1, by omega, rfl, hR⟩
  · rintro ⟨x, h1, h2, rfl, hR⟩
    exact ⟨⟨x, by rw [List.mem_range'_1]; omega, rfl⟩, hR⟩

/-- what a level holds -/
theorem lv_iff {R : List Nat → Bool} {m : Nat} (h0 : R [] = true) (hp : ∀ lot x, Rising (lot ++ [x]) m → R (lot ++ [x]) = true → R lot = true) : ∀ k lot, lot ∈ lv R m k ↔ Rising lot m ∧ lot.length = k ∧ R lot = true
  | 0, lot => by
    show lot ∈ [[]] ↔ _
    rw [List.mem_singleton]
    constructor
    · rintro rfl
      exact ⟨⟨.nil, by simp⟩, rfl, h0⟩
    · rintro ⟨_, h, _⟩
      exact List.eq_nil_of_length_eq_zero h
  | k + 1, lot => by
    show lot ∈ (lv R m k).flatMap (ext R m) ↔ _
    rw [List.mem_flatMap]
    constructor
    · rintro ⟨l, hl, he⟩
      obtain ⟨x, h1, h2, rfl, hR⟩ := mem_ext.mp he
      obtain ⟨⟨p1, p2⟩, len, _⟩ := (lv_iff h0 hp k l).mp hl
      refine ⟨⟨List.pairwise_append.mpr ⟨p1, List.pairwise_singleton _ _, fun a ha b hb => ?_⟩, fun a ha => ?_⟩, by simp [len], hR⟩
      · simp only [List.mem_cons, List.not_mem_nil, or_false] at hb
        subst hb
        exact Nat.lt_of_lt_of_le (lt_nxt p1 a ha) h1
      · rcases List.mem_append.mp ha with ha | ha
        · exact p2 a ha
        · simp only [List.mem_cons, List.not_mem_nil, or_false] at ha
          omega
    · rintro ⟨hr, len, hR⟩
      have hne : lot ≠ [] := fun z => by
        subst z
        simp at len
      have e : lot = lot.dropLast ++ [lot.getLast hne] := (List.dropLast_concat_getLast hne).symm
      generalize lot.dropLast = l at e
      generalize lot.getLast hne = x at e
      subst e
      have len' : l.length = k := by simpa using len
      have p1 : l.Pairwise (· < ·) := (List.pairwise_append.mp hr.1).1
      refine ⟨l, (lv_iff h0 hp k l).mpr ⟨⟨p1, fun a ha => hr.2 a (by simp [ha])⟩, len', hp l x hr hR⟩, mem_ext.mpr ⟨x, nxt_le hr.1, hr.2 x (by simp), rfl, hR⟩⟩
theorem lv_elems {R : List Nat → Bool} {m : Nat} : ∀ k lot, lot ∈ lv R m k → (∀ x ∈ lot, x < m) ∧ lot.length = k
  | 0, lot, h => by
    have : lot = [] := List.mem_singleton.mp h
    subst this
    exact ⟨by simp, rfl⟩
  | k + 1, lot, h => by
    obtain ⟨l, hl, he⟩ := List.mem_flatMap.mp h
    obtain ⟨x, h1, h2, rfl, _⟩ := mem_ext.mp he
    obtain ⟨a, b⟩ := lv_elems k l hl
    refine ⟨fun y hy => ?_, by simp [b]⟩
    rcases List.mem_append.mp hy with hy | hy
    · exact a y hy
    · simp only [List.mem_cons, List.not_mem_nil, or_false] at hy
      omega

/-! ### lots and sublists -/
theorem sel_good {n : Nat} {ts : List Three} (hg : ∀ t ∈ ts, Good n t) {lot : List Nat} (h : ∀ x ∈ lot, x < ts.length) : ∀ t ∈ sel ts lot, Good n t := fun t ht => by
  unfold sel at ht
  obtain ⟨x, hx, rfl⟩ := List.mem_map.mp ht
  have := h x hx
  rw [List.getD_eq_getElem?_getD, List.getElem?_eq_getElem this]
  exact hg _ (List.getElem_mem this)
theorem sel_length (ts : List Three) (lot : List Nat) : (sel ts lot).length = lot.length := List.length_map _
theorem sel_append (ts : List Three) (a b : List Nat) : sel ts (a ++ b) = sel ts a ++ sel ts b := List.map_append
theorem sel_sub {ts : List Three} {lot : List Nat} (h : Rising lot ts.length) : (sel ts lot).Sublist ts := by
  have e : sel ts lot = (lot.attach.map fun x => (⟨x.1, h.2 x.1 x.2⟩ : Fin ts.length)).map (ts[·]) := by
    unfold sel
    rw [List.map_map]
    conv => lhs; rw [← List.attach_map_subtype_val lot]
    rw [List.map_map]
    refine List.map_congr_left fun x _ => ?_
    have := h.2 x.1 x.2
    simp [List.getD_eq_getElem?_getD, List.getElem?_eq_getElem this]
  rw [e]
  refine List.map_getElem_sublist ?_
  rw [List.pairwise_map]
  have p : (lot.attach.map Subtype.val).Pairwise (· < ·) := by
    rw [List.attach_map_subtype_val]
    exact h.1
  rw [List.pairwise_map] at p
  exact p
theorem sub_sel {ts l : List Three} (h : l.Sublist ts) : ∃ lot, Rising lot ts.length ∧ l = sel ts lot := by
  obtain ⟨is, rfl, p⟩ := List.sublist_eq_map_getElem h
  refine ⟨is.map (·.1), ⟨?_, fun x hx => ?_⟩, ?_⟩
  · rw [List.pairwise_map]
    exact p
  · obtain ⟨i, _, rfl⟩ := List.mem_map.mp hx
    exact i.2
  · unfold sel
    rw [List.map_map]
    refine List.map_congr_left fun i _ => ?_
    simp [List.getD_eq_getElem?_getD, List.getElem?_eq_getElem i.2]

/-! ### the greatest number -/
structure IsMax (n : Nat) (ts : List Three) (d : Nat) : Prop where
  some : ∃ l, l.Sublist ts ∧ l.length = d ∧ Ringless n l
  most : ∀ l, l.Sublist ts → Ringless n l → l.length ≤ d
theorem IsMax.uniq {n : Nat} {ts : List Three} {d e : Nat} (a : IsMax n ts d) (b : IsMax n ts e) : d = e := by
  obtain ⟨l, h1, h2, h3⟩ := a.some
  obtain ⟨l', h1', h2', h3'⟩ := b.some
  have := b.most l h1 h3
  have := a.most l' h1' h3'
  omega
theorem good_sub {n : Nat} {ts l : List Three} (hg : ∀ t ∈ ts, Good n t) (h : l.Sublist ts) : ∀ t ∈ l, Good n t := fun t ht => hg t (h.subset ht)
theorem IsMax.few {n : Nat} {ts : List Three} {d : Nat} (hg : ∀ t ∈ ts, Good n t) (a : IsMax n ts d) : 2 * d ≤ n - 1 := by
  obtain ⟨l, h1, rfl, h3⟩ := a.some
  exact ringless_few (good_sub hg h1) h3
theorem IsMax.rev {n : Nat} {ts : List Three} {d : Nat} (a : IsMax n ts d) : IsMax n ts.reverse d := by
  obtain ⟨l, h1, h2, h3⟩ := a.some
  refine ⟨⟨l.reverse, h1.reverse, by simpa using h2, h3.perm (List.reverse_perm l)⟩, fun l' h r => ?_⟩
  have := a.most l'.reverse (by simpa using h.reverse) (r.perm (List.reverse_perm l'))
  simpa using this
theorem IsMax.more {n : Nat} {ts us : List Three} {d e : Nat} (a : IsMax n ts d) (b : IsMax n (us ++ ts) e) : d ≤ e ∧ e ≤ d + us.length := by
  constructor
  · obtain ⟨l, h1, rfl, h3⟩ := a.some
    exact b.most l (h1.trans (List.sublist_append_right us ts)) h3
  · obtain ⟨l, h1, rfl, h3⟩ := b.some
    obtain ⟨l1, l2, rfl, s1, s2⟩ := List.sublist_append_iff.mp h1
    have := a.most l2 s2 h3.right
    have := s1.length_le
    rw [List.length_append]
    omega

theorem rl_iff {n : Nat} {ts : List Three} (hg : ∀ t ∈ ts, Good n t) {lot : List Nat} (h : ∀ x ∈ lot, x < ts.length) : rl n ts lot = true ↔ Ringless n (sel ts lot) := ringless_iff pickF (sel_good hg h)
theorem ringless_nil (n : Nat) : Ringless n [] := indep_nil
theorem rl_nil (n : Nat) (ts : List Three) : rl n ts [] = true := rfl
theorem rl_prefix {n : Nat} {ts : List Three} (hg : ∀ t ∈ ts, Good n t) : ∀ lot x, Rising (lot ++ [x]) ts.length → rl n ts (lot ++ [x]) = true → rl n ts lot = true := fun lot x hr h => by
  rw [rl_iff hg hr.2, sel_append] at h
  exact (rl_iff hg fun y hy => hr.2 y (by simp [hy])).mpr h.left
theorem lv_rl {n : Nat} {ts : List Three} (hg : ∀ t ∈ ts, Good n t) (k : Nat) (lot : List Nat) : lot ∈ lv (rl n ts) ts.length k ↔ Rising lot ts.length ∧ lot.length = k ∧ rl n ts lot = true := lv_iff (rl_nil n ts) (rl_prefix hg) k lot
theorem rising_take {lot : List Nat} {m k : Nat} (h : Rising lot m) : Rising (lot.take k) m := ⟨h.1.sublist (List.take_sublist k lot), fun x hx => h.2 x (List.mem_of_mem_take hx)⟩
/-- the last level that is not empty -/
theorem lv_max {n : Nat} {ts : List Three} (hg : ∀ t ∈ ts, Good n t) {k : Nat} (hk : lv (rl n ts) ts.length (k + 1) = []) (lot : List Nat) (hl : lot ∈ lv (rl n ts) ts.length k) : IsMax n ts k := by
  obtain ⟨hr, len, h⟩ := (lv_rl hg k lot).mp hl
  refine ⟨⟨sel ts lot, sel_sub hr, by rw [sel_length, len], (rl_iff hg hr.2).mp h⟩, fun l hs hR => ?_⟩
  apply Classical.byContradiction
  intro hn
  obtain ⟨lot', hr', rfl⟩ := sub_sel hs
  rw [sel_length] at hn
  have hr2 : Rising (lot'.take (k + 1)) ts.length := rising_take hr'
  have : lot'.take (k + 1) ∈ lv (rl n ts) ts.length (k + 1) := (lv_rl hg (k + 1) _).mpr ⟨hr2, by rw [List.length_take]; omega, (rl_iff hg hr2.2).mpr (by
    have e : sel ts lot' = sel ts (lot'.take (k + 1)) ++ sel ts (lot'.drop (k + 1)) := by rw [← sel_append, List.take_append_drop]
    rw [e] at hR
    exact hR.left)⟩
  rw [hk] at this
  cases this
theorem rising_len {lot : List Nat} {m : Nat} (h : Rising lot m) : lot.length ≤ m := by
  have s : lot.Sublist (List.range m) := by
    have := List.map_getElem_sublist (l := List.range m) (is := lot.attach.map fun x => (⟨x.1, by rw [List.length_range]; exact h.2 x.1 x.2⟩ : Fin (List.range m).length)) (by
      rw [List.pairwise_map]
      have p : (lot.attach.map Subtype.val).Pairwise (· < ·) := by
        rw [List.attach_map_subtype_val]
        exact h.1
      rw [List.pairwise_map] at p
      exact p)
    rw [List.map_map] at this
    have e : (lot.attach.map ((fun x => (List.range m)[x]) ∘ fun x => (⟨x.1, by rw [List.length_range]; exact h.2 x.1 x.2⟩ : Fin (List.range m).length))) = lot := by
      conv => rhs; rw [← List.attach_map_subtype_val lot]
      refine List.map_congr_left fun x _ => ?_
      simp
    rw [e] at this
    exact this
  have := s.length_le
  rw [List.length_range] at this
  exact this
theorem lv_len_le {n : Nat} {ts : List Three} (hg : ∀ t ∈ ts, Good n t) {k : Nat} (h : lv (rl n ts) ts.length k ≠ []) : k ≤ ts.length := by
  obtain ⟨lot, hl⟩ := List.exists_mem_of_ne_nil _ h
  obtain ⟨hr, len, _⟩ := (lv_rl hg k lot).mp hl
  have := rising_len hr
  omega

/-! ### the next three put on -/
theorem putAll_snoc (ch : Nat → Nat → Nat → Nat) (t : Three) : ∀ (A : List Three) (p : List Nat), putAll ch p (A ++ [t]) = (putAll ch p A).bind fun p' => putBy ch p' t
  | [], p => by
    show (match putBy ch p t with | none => none | some p' => some p') = putBy ch p t
    cases putBy ch p t <;> rfl
  | s :: A, p => by
    rw [List.cons_append]
    unfold putAll
    cases putBy ch p s with
    | none => rfl
    | some p' => exact putAll_snoc ch t A p'
theorem put_next {n : Nat} {ts : List Three} {lot : List Nat} {x : Nat} {t : Three} (h : rl n ts lot = true) (hx : ts[x]? = some t) : putAll chF (List.range n) (sel ts (lot ++ [x])) = putBy chF (pcs n ts lot) t := by
  rw [sel_append]
  have e : sel ts [x] = [t] := by
    unfold sel
    rw [List.map_cons, List.map_nil, List.getD_eq_getElem?_getD, hx]
    rfl
  rw [e, putAll_snoc]
  unfold rl at h
  obtain ⟨p, hp⟩ := Option.isSome_iff_exists.mp h
  unfold pcs
  rw [hp]
  rfl
theorem rl_next {n : Nat} {ts : List Three} {lot : List Nat} {x : Nat} {t : Three} (h : rl n ts lot = true) (hx : ts[x]? = some t) : rl n ts (lot ++ [x]) = (putBy chF (pcs n ts lot) t).isSome := by
  unfold rl
  rw [put_next h hx]
theorem pcs_next {n : Nat} {ts : List Three} {lot : List Nat} {x : Nat} {t : Three} {p : List Nat} (h : rl n ts lot = true) (hx : ts[x]? = some t) (e : putBy chF (pcs n ts lot) t = some p) : pcs n ts (lot ++ [x]) = p := by
  unfold pcs
  rw [put_next h hx, e]
  rfl
theorem putBy_len {ch : Nat → Nat → Nat → Nat} {p p' : List Nat} {t : Three} (e : putBy ch p t = some p') : p'.length = p.length := by
  unfold putBy at e
  simp only at e
  split at e
  · cases e
  · rw [← Option.some.inj e, List.length_map]
theorem putAll_len {ch : Nat → Nat → Nat → Nat} : ∀ {ts : List Three} {p p' : List Nat}, putAll ch p ts = some p' → p'.length = p.length
  | [], p, p', e => by
    cases e
    rfl
  | t :: ts, p, p', e => by
    unfold putAll at e
    cases e1 : putBy ch p t with
    | none =>
      rw [e1] at e
      cases e
    | some q =>
      rw [e1] at e
      rw [putAll_len e, putBy_len e1]
theorem pcs_len {n : Nat} {ts : List Three} {lot : List Nat} (h : rl n ts lot = true) : (pcs n ts lot).length = n := by
  unfold rl at h
  obtain ⟨p, hp⟩ := Option.isSome_iff_exists.mp h
  unfold pcs
  rw [hp]
  show p.length = n
  rw [putAll_len hp, List.length_range]

/-! ### free lots of the pairs -/
def freeB (n : Nat) (ts : List Three) (lot : List Nat) : Bool := decide (2 * lot.length ≤ n) && decide (intRank (rowsOf n (sel ts lot)) = 2 * lot.length)
theorem free_rl {n : Nat} {ts : List Three} (hg : ∀ t ∈ ts, Good n t) {lot : List Nat} (h : ∀ x ∈ lot, x < ts.length) : freeB n ts lot = rl n ts lot := by
  have i1 := rl_iff hg h
  have i2 := rank_iff (n := n) (ts := sel ts lot)
  rw [sel_length] at i2
  unfold freeB
  cases e : rl n ts lot with
  | true =>
    have r := i1.mp e
    have f := ringless_few (sel_good hg h) r
    rw [sel_length] at f
    rw [decide_eq_true (i2.mpr r), decide_eq_true (by omega : 2 * lot.length ≤ n)]
    rfl
  | false =>
    have r : ¬ Ringless n (sel ts lot) := fun r => by
      rw [i1.mpr r] at e
      cases e
    rw [decide_eq_false fun q => r (i2.mp q), Bool.and_false]

/-! ### all lots -/
def lawLots : Nat → List (List Nat)
  | 0 => [[]]
  | m + 1 => lawLots m ++ (lawLots m).map (· ++ [m])
theorem lawLots_len : ∀ m, (lawLots m).length = 2 ^ m
  | 0 => rfl
  | m + 1 => by
    show (lawLots m ++ (lawLots m).map (· ++ [m])).length = _
    rw [List.length_append, List.length_map, lawLots_len m, Nat.pow_succ]
    omega
theorem mem_lawLots : ∀ (m : Nat) (lot : List Nat), lot ∈ lawLots m ↔ Rising lot m
  | 0, lot => by
    show lot ∈ [[]] ↔ _
    rw [List.mem_singleton]
    constructor
    · rintro rfl
      exact ⟨.nil, by simp⟩
    · rintro ⟨_, h⟩
      cases lot with
      | nil => rfl
      | cons x l => exact absurd (h x (by simp)) (Nat.not_lt_zero x)
  | m + 1, lot => by
    show lot ∈ lawLots m ++ (lawLots m).map (· ++ [m]) ↔ _
    rw [List.mem_append, List.mem_map]
    constructor
    · rintro (h | ⟨l, h, rfl⟩)
      · have := (mem_lawLots m lot).mp h
        exact ⟨this.1, fun x hx => Nat.lt_succ_of_lt (this.2 x hx)⟩
      · have r := (mem_lawLots m l).mp h
        refine ⟨List.pairwise_append.mpr ⟨r.1, List.pairwise_singleton _ _, fun a ha b hb => ?_⟩, fun x hx => ?_⟩
        · simp only [List.mem_cons, List.not_mem_nil, or_false] at hb
          rw [hb]
          exact r.2 a ha
        · rcases List.mem_append.mp hx with hx | hx
          · exact Nat.lt_succ_of_lt (r.2 x hx)
          · simp only [List.mem_cons, List.not_mem_nil, or_false] at hx
            omega
    · intro r
      by_cases hm : m ∈ lot
      · have hne : lot ≠ [] := fun z => by
          subst z
          cases hm
        have e : lot = lot.dropLast ++ [lot.getLast hne] := (List.dropLast_concat_getLast hne).symm
        generalize lot.dropLast = l at e
        generalize lot.getLast hne = x at e
        subst e
        have p := List.pairwise_append.mp r.1
        have hx : x < m + 1 := r.2 x (by simp)
        have xm : x = m := by
          rcases List.mem_append.mp hm with q | q
          · have := p.2.2 m q x (by simp)
            omega
          · simp only [List.mem_cons, List.not_mem_nil, or_false] at q
            exact q.symm
        subst xm
        exact .inr ⟨l, (mem_lawLots x l).mpr ⟨p.1, fun y hy => p.2.2 y hy x (by simp)⟩, rfl⟩
      · refine .inl ((mem_lawLots m lot).mpr ⟨r.1, fun x hx => ?_⟩)
        have := r.2 x hx
        have : x ≠ m := fun e => hm (by rw [← e]; exact hx)
        omega
/-- the least label is kept -/
def chM : Nat → Nat → Nat → Nat := fun a b c => min a (min b c)
theorem pickM : Pick chM := fun a b c => by
  unfold chM
  omega
def jn (n : Nat) (ts : List Three) (lot : List Nat) : Bool := (putAll chM (List.range n) (sel ts lot)).isSome
theorem jn_iff {n : Nat} {ts : List Three} (hg : ∀ t ∈ ts, Good n t) {lot : List Nat} (h : ∀ x ∈ lot, x < ts.length) : jn n ts lot = true ↔ Ringless n (sel ts lot) := ringless_iff pickM (sel_good hg h)
def lawLens (n : Nat) (ts : List Three) : List Nat := ((lawLots ts.length).filter (jn n ts)).map List.length
theorem law_max {n : Nat} {ts : List Three} (hg : ∀ t ∈ ts, Good n t) {d : Nat} (h1 : d ∈ lawLens n ts) (h2 : ∀ y ∈ lawLens n ts, y ≤ d) : IsMax n ts d := by
  unfold lawLens at h1 h2
  obtain ⟨lot, hm, rfl⟩ := List.mem_map.mp h1
  rw [List.mem_filter, mem_lawLots] at hm
  obtain ⟨hr, hj⟩ := hm
  refine ⟨⟨sel ts lot, sel_sub hr, sel_length _ _, (jn_iff hg hr.2).mp hj⟩, fun l hs hR => ?_⟩
  obtain ⟨lot', hr', rfl⟩ := sub_sel hs
  rw [sel_length]
  refine h2 _ (List.mem_map.mpr ⟨lot', ?_, rfl⟩)
  rw [List.mem_filter, mem_lawLots]
  exact ⟨hr', (jn_iff hg hr'.2).mpr hR⟩
theorem lawLens_ne (n : Nat) (ts : List Three) : 0 < (lawLens n ts).length := by
  unfold lawLens
  rw [List.length_map]
  refine List.length_pos_of_mem (a := []) ?_
  rw [List.mem_filter, mem_lawLots]
  exact ⟨⟨.nil, by simp⟩, rfl⟩
end Mth
set_option Elab.async false
set_option linter.all false
set_option maxRecDepth 100000
/-! The text by places, its defs, the facts that the head tells. -/
namespace Tx
open PySem PySem.Spec PyProof.Rows L2
def top (i : Nat) : Stmt := PySem.Challenge.pw_pairsfree_k82_whole_greatest_ringless_lo.main.body.getD i (.Pass ⟨0, 0, 0, 0⟩)
abbrev s_is_integer : Stmt := top 11
def d_is_integer : He.DefD := ⟨("is_integer", none), "is_integer", "is_integer", defArgs s_is_integer, defBody s_is_integer, defScope s_is_integer, [], []⟩
abbrev s_is_count : Stmt := top 12
def d_is_count : He.DefD := ⟨("is_count", none), "is_count", "is_count", defArgs s_is_count, defBody s_is_count, defScope s_is_count, [], []⟩
abbrev s_is_list : Stmt := top 13
def d_is_list : He.DefD := ⟨("is_list", none), "is_list", "is_list", defArgs s_is_list, defBody s_is_list, defScope s_is_list, [], []⟩
abbrev s_common_part : Stmt := top 17
def d_common_part : He.DefD := ⟨("common_part", none), "common_part", "common_part", defArgs s_common_part, defBody s_common_part, defScope s_common_part, [], []⟩
abbrev s_is_number : Stmt := top 20
def d_is_number : He.DefD := ⟨("is_number", none), "is_number", "is_number", defArgs s_is_number, defBody s_is_number, defScope s_is_number, [], []⟩
abbrev s_ratio_of : Stmt := top 21
def d_ratio_of : He.DefD := ⟨("ratio_of", none), "ratio_of", "ratio_of", defArgs s_ratio_of, defBody s_ratio_of, defScope s_ratio_of, [], []⟩
abbrev s_wholes : Stmt := top 22
def d_wholes : He.DefD := ⟨("wholes", none), "wholes", "wholes", defArgs s_wholes, defBody s_wholes, defScope s_wholes, [], []⟩
abbrev s_are_numbers : Stmt := top 24
def d_are_numbers : He.DefD := ⟨("are_numbers", none), "are_numbers", "are_numbers", defArgs s_are_numbers, defBody s_are_numbers, defScope s_are_numbers, [], []⟩
abbrev s_ratios_of : Stmt := top 25
def d_ratios_of : He.DefD := ⟨("ratios_of", none), "ratios_of", "ratios_of", defArgs s_ratios_of, defBody s_ratios_of, defScope s_ratios_of, [], []⟩
abbrev s_plain_row : Stmt := top 26
def d_plain_row : He.DefD := ⟨("plain_row", none), "plain_row", "plain_row", defArgs s_plain_row, defBody s_plain_row, defScope s_plain_row, [], []⟩
abbrev s_ints_of : Stmt := top 27
def d_ints_of : He.DefD := ⟨("ints_of", none), "ints_of", "ints_of", defArgs s_ints_of, defBody s_ints_of, defScope s_ints_of, [], []⟩
abbrev s_cleared : Stmt := top 28
def d_cleared : He.DefD := ⟨("cleared", none), "cleared", "cleared", defArgs s_cleared, defBody s_cleared, defScope s_cleared, [], []⟩
abbrev s_first_at : Stmt := top 29
def d_first_at : He.DefD := ⟨("first_at", none), "first_at", "first_at", defArgs s_first_at, defBody s_first_at, defScope s_first_at, [], []⟩
abbrev s_int_rank : Stmt := top 30
def d_int_rank : He.DefD := ⟨("int_rank", none), "int_rank", "int_rank", defArgs s_int_rank, defBody s_int_rank, defScope s_int_rank, [], []⟩
abbrev s_is_pair : Stmt := top 34
def d_is_pair : He.DefD := ⟨("is_pair", none), "is_pair", "is_pair", defArgs s_is_pair, defBody s_is_pair, defScope s_is_pair, [], []⟩
abbrev s_right_pairs : Stmt := top 35
def d_right_pairs : He.DefD := ⟨("right_pairs", none), "right_pairs", "right_pairs", defArgs s_right_pairs, defBody s_right_pairs, defScope s_right_pairs, [], []⟩
abbrev s_want_pairs : Stmt := top 38
def d_want_pairs : He.DefD := ⟨("want_pairs", none), "want_pairs", "want_pairs", defArgs s_want_pairs, defBody s_want_pairs, defScope s_want_pairs, [], []⟩
abbrev s_is_three : Stmt := top 43
def d_is_three : He.DefD := ⟨("is_three", none), "is_three", "is_three", defArgs s_is_three, defBody s_is_three, defScope s_is_three, [], []⟩
abbrev s_want_threes : Stmt := top 44
def d_want_threes : He.DefD := ⟨("want_threes", none), "want_threes", "want_threes", defArgs s_want_threes, defBody s_want_threes, defScope s_want_threes, [], []⟩
abbrev s_put_on : Stmt := top 45
def d_put_on : He.DefD := ⟨("put_on", none), "put_on", "put_on", defArgs s_put_on, defBody s_put_on, defScope s_put_on, [], []⟩
abbrev s_pieces_by : Stmt := top 46
def d_pieces_by : He.DefD := ⟨("pieces_by", none), "pieces_by", "pieces_by", defArgs s_pieces_by, defBody s_pieces_by, defScope s_pieces_by, [], []⟩
abbrev s_greatest_two : Stmt := top 49
def d_greatest_two : He.DefD := ⟨("greatest_two", none), "greatest_two", "greatest_two", defArgs s_greatest_two, defBody s_greatest_two, defScope s_greatest_two, [], []⟩
abbrev s_ringless_lot : Stmt := top 50
def d_ringless_lot : He.DefD := ⟨("ringless_lot", none), "ringless_lot", "ringless_lot", defArgs s_ringless_lot, defBody s_ringless_lot, defScope s_ringless_lot, [], []⟩
abbrev s_row_with : Stmt := top 51
def d_row_with : He.DefD := ⟨("row_with", none), "row_with", "row_with", defArgs s_row_with, defBody s_row_with, defScope s_row_with, [], []⟩
abbrev s_three_pairs : Stmt := top 52
def d_three_pairs : He.DefD := ⟨("three_pairs", none), "three_pairs", "three_pairs", defArgs s_three_pairs, defBody s_three_pairs, defScope s_three_pairs, [], []⟩
abbrev s_has_ring : Stmt := top 53
def d_has_ring : He.DefD := ⟨("has_ring", none), "has_ring", "has_ring", defArgs s_has_ring, defBody s_has_ring, defScope s_has_ring, [], []⟩
abbrev s_ringless : Stmt := top 54
def d_ringless : He.DefD := ⟨("ringless", none), "ringless", "ringless", defArgs s_ringless, defBody s_ringless, defScope s_ringless, [], []⟩
abbrev s_ringless_number : Stmt := top 55
def d_ringless_number : He.DefD := ⟨("ringless_number", none), "ringless_number", "ringless_number", defArgs s_ringless_number, defBody s_ringless_number, defScope s_ringless_number, [], []⟩
abbrev s_ints_at : Stmt := top 57
def d_ints_at : He.DefD := ⟨("ints_at", none), "ints_at", "ints_at", defArgs s_ints_at, defBody s_ints_at, defScope s_ints_at, [], []⟩
abbrev s_rank_of : Stmt := top 58
def d_rank_of : He.DefD := ⟨("rank_of", none), "rank_of", "rank_of", defArgs s_rank_of, defBody s_rank_of, defScope s_rank_of, [], []⟩
abbrev s_free_of : Stmt := top 59
def d_free_of : He.DefD := ⟨("free_of", none), "free_of", "free_of", defArgs s_free_of, defBody s_free_of, defScope s_free_of, [], []⟩
abbrev s_greatest_of : Stmt := top 62
def d_greatest_of : He.DefD := ⟨("greatest_of", none), "greatest_of", "greatest_of", defArgs s_greatest_of, defBody s_greatest_of, defScope s_greatest_of, [], []⟩
abbrev s_greatest : Stmt := top 63
def d_greatest : He.DefD := ⟨("greatest", none), "greatest", "greatest", defArgs s_greatest, defBody s_greatest, defScope s_greatest, [], []⟩
abbrev s_law_pot : Stmt := top 65
def d_law_pot : He.DefD := ⟨("_law_pot", none), "_law_pot", "_law_pot", defArgs s_law_pot, defBody s_law_pot, defScope s_law_pot, [], []⟩
abbrev s_law_draw : Stmt := top 66
def d_law_draw : He.DefD := ⟨("_law_draw", none), "_law_draw", "_law_draw", defArgs s_law_draw, defBody s_law_draw, defScope s_law_draw, [], []⟩
abbrev s_law_pick : Stmt := top 67
def d_law_pick : He.DefD := ⟨("_law_pick", none), "_law_pick", "_law_pick", defArgs s_law_pick, defBody s_law_pick, defScope s_law_pick, [], []⟩
abbrev s_law_joined : Stmt := top 68
def d_law_joined : He.DefD := ⟨("_law_joined", none), "_law_joined", "_law_joined", defArgs s_law_joined, defBody s_law_joined, defScope s_law_joined, [], []⟩
abbrev s_law_lots : Stmt := top 69
def d_law_lots : He.DefD := ⟨("_law_lots", none), "_law_lots", "_law_lots", defArgs s_law_lots, defBody s_law_lots, defScope s_law_lots, [], []⟩
abbrev s_law_ringless : Stmt := top 70
def d_law_ringless : He.DefD := ⟨("_law_ringless", none), "_law_ringless", "_law_ringless", defArgs s_law_ringless, defBody s_law_ringless, defScope s_law_ringless, [], []⟩
abbrev s_law_threes : Stmt := top 71
def d_law_threes : He.DefD := ⟨("_law_threes", none), "_law_threes", "_law_threes", defArgs s_law_threes, defBody s_law_threes, defScope s_law_threes, [], []⟩
abbrev s_law_right : Stmt := top 72
def d_law_right : He.DefD := ⟨("_law_right", none), "_law_right", "_law_right", defArgs s_law_right, defBody s_law_right, defScope s_law_right, [], []⟩
abbrev s_law : Stmt := top 73
def d_law : He.DefD := ⟨("law", none), "law", "law", defArgs s_law, defBody s_law, defScope s_law, [], []⟩
abbrev s_longer_lots_threes : Stmt := top 47
def d_longer_lots_threes : He.DefD := ⟨("longer_lots_threes", none), "longer_lots", "longer_lots", defArgs s_longer_lots_threes, defBody s_longer_lots_threes, defScope s_longer_lots_threes, [], []⟩
abbrev s_longer_lots_lots : Stmt := top 60
def d_longer_lots_lots : He.DefD := ⟨("longer_lots_lots", none), "longer_lots", "longer_lots", defArgs s_longer_lots_lots, defBody s_longer_lots_lots, defScope s_longer_lots_lots, [], []⟩
abbrev s_Ratio_init : Stmt := inClass (top 18) 0
def d_Ratio_init : He.DefD := ⟨("Ratio", some "__init__"), "__init__", "Ratio.__init__", defArgs s_Ratio_init, defBody s_Ratio_init, defScope s_Ratio_init, [.int 1], []⟩
abbrev s_Pairs_init : Stmt := inClass (top 37) 0
def d_Pairs_init : He.DefD := ⟨("Pairs", some "__init__"), "__init__", "Pairs.__init__", defArgs s_Pairs_init, defBody s_Pairs_init, defScope s_Pairs_init, [.adr (He.dflAt ("Pairs", some "__init__") 0)], []⟩
/-- the def x of the text stands at f -/
abbrev FnP (K : PySem.W.Frag) (d : He.DefD) (f : Addr) (fd : FuncData) : Prop := FunD K d.name d.qual d.params d.body d.scope (d.dvs K) (d.kws K) f fd
def fn1 : List He.DefD := [d_is_integer, d_is_count, d_is_list, d_common_part, d_is_number, d_ratio_of, d_wholes, d_are_numbers, d_ratios_of, d_plain_row, d_ints_of, d_cleared, d_first_at, d_int_rank, d_is_pair, d_right_pairs, d_want_pairs, d_is_three, d_want_threes, d_put_on, d_pieces_by, d_greatest_two, d_ringless_lot]
def fn2 : List He.DefD := [d_row_with, d_three_pairs, d_has_ring, d_ringless, d_ringless_number, d_ints_at, d_rank_of, d_free_of, d_greatest_of, d_greatest, d_law_pot, d_law_draw, d_law_pick, d_law_joined, d_law_lots, d_law_ringless, d_law_threes, d_law_right, d_law, d_longer_lots_threes, d_longer_lots_lots, d_Ratio_init, d_Pairs_init]
def fn : List He.DefD := fn1 ++ fn2
def fa1 : List He.Fa := [.glo "is_integer", .glo "is_count", .glo "is_list", .glo "common_part", .glo "is_number", .glo "ratio_of", .glo "wholes", .glo "are_numbers", .glo "ratios_of", .glo "plain_row", .glo "ints_of", .glo "cleared", .glo "first_at", .glo "int_rank", .glo "is_pair", .glo "right_pairs", .glo "want_pairs", .glo "is_three", .glo "want_threes", .glo "put_on", .glo "pieces_by", .glo "greatest_two", .glo "ringless_lot", .glo "row_with", .glo "three_pairs", .glo "has_ring", .glo "ringless", .glo "ringless_number", .glo "ints_at", .glo "rank_of", .glo "free_of", .glo "greatest_of", .glo "greatest", .glo "_law_pot", .glo "_law_draw", .glo "_law_pick", .glo "_law_joined", .glo "_law_lots"]
def fa2 : List He.Fa := [.glo "_law_ringless", .glo "_law_threes", .glo "_law_right", .glo "law", .glo "longer_lots_threes", .glo "longer_lots_lots", .glo "Ratio", .glo "Known", .glo "Pairs", .free "isinstance", .free "int", .free "bool", .free "list", .free "tuple", .free "len", .free "all", .free "zip", .free "enumerate", .free "range", .free "sorted", .free "max", .free "abs", .free "divmod", .free "repr", .free "any", .int "MOST_SIZE_pairs" 8, .int "MOST_PAIRS" 8, .int "MOST_SIZE_threes" 8, .int "MOST_THREES" 8, .cls "Ratio", .cls "Pairs", .noat "Ratio" "own_top", .noat "Ratio" "own_bottom", .noat "Pairs" "own_size", .noat "Pairs" "own_rows", .noat "Pairs" "own_ints", .mkr "Ratio", .mkr "Pairs"]
def fa : List He.Fa := fa1 ++ fa2
/-- an instance of the class at C, for isinstance -/
def insB (K : PySem.W.Frag) (C : Addr) : Bool := He.eqO (PySem.W.findIn K (.ref C) "__class__") (some (some (.builtin "object.__class__"))) && decide (PySem.W.mroIn K C (.type "object") = some true)
def ex (K : PySem.W.Frag) : Bool := He.eqO (PySem.W.nsIn K mainGlobals "gcd") (some (some (.builtin "math.gcd"))) && (He.eqO (PySem.W.nsIn K mainGlobals "lcm") (some (some (.builtin "math.lcm"))) &&
  (insB K (He.ga K "Ratio") && (insB K (He.ga K "Pairs") &&
  (decide (PySem.W.specialIn K (.builtin "object.__class__") "__get__" = some (some (.builtin "getset_descriptor.__get__"))) && (decide (PySem.W.takesIn K (.builtin "object.__class__") = some true) &&
  (decide (PySem.W.kitOne K (.type "int") (.ref (He.ga K "Ratio")) = some false) && (decide (PySem.W.kitOne K (.type "int") (.ref (He.ga K "Known")) = some false) &&
  (decide (PySem.W.kitOne K (.ref (He.ga K "Ratio")) (.ref (He.ga K "Ratio")) = some true) && decide (PySem.W.kitOne K (.ref (He.ga K "Pairs")) (.ref (He.ga K "Pairs")) = some true)))))))))
abbrev AlM : Type := He.AlD × Bool
def obsM (n : Nat) (fa : List He.Fa) (fn : List He.DefD) (ex : PySem.W.Frag → Bool) (g : Addr → Option Obj) : AlM := (He.obsDG n fa fn g, ex (He.frG g (He.asD g n)))
theorem obsM_says {n : Nat} {fa : List He.Fa} {fn : List He.DefD} {ex : PySem.W.Frag → Bool} {g : Addr → Option Obj} (e : obsM n fa fn ex g = (He.valD fn, true)) : He.SaysD fa fn (He.frG g (He.asD g n)) ∧ ex (He.frG g (He.asD g n)) = true := by
  have e1 : He.obsDG n fa fn g = He.valD fn := congrArg (fun z : AlM => z.1) e
  have e2 : ex (He.frG g (He.asD g n)) = true := congrArg (fun z : AlM => z.2) e
  exact ⟨e1, e2⟩
def hookM (n : Nat) (fa : List He.Fa) (fn : List He.DefD) (ex : PySem.W.Frag → Bool) : PySem.W.Hook where
  α := AlM
  obs := fun s => obsM n fa fn ex s.heap.get?
  val := fun _ => (He.valD fn, true)
  says := fun _ h => ∃ K : PySem.W.Frag, K.In h ∧ He.SaysD fa fn K ∧ ex K = true
  of := fun _ s e => ⟨_, He.frG_in, obsM_says e⟩
  keeps := fun _ _ _ ⟨K, hK, c⟩ k => ⟨K, PySem.W.Frag.In.keeps hK k, c⟩
theorem obsM_eq {n : Nat} {fa : List He.Fa} {fn : List He.DefD} {ex : PySem.W.Frag → Bool} {g : Addr → Option Obj} {s : Shared} (h : ∀ a, g a = s.heap.get? a) : obsM n fa fn ex g = (hookM n fa fn ex).obs s := by
  have e : g = s.heap.get? := funext h
  rw [e]
  rfl
abbrev hk : PySem.W.Hook := hookM 4 fa fn ex
abbrev R : PySem.W.OpenRow := PySem.W.OpenLaw.row PySem.Challenge.rw_pairsfree_k82_whole_greatest_ringless_lo
def ob (s : PySem.W.SharedT) : AlM := obsM 4 fa fn ex (HandSHeadRun.getT s)
theorem ob_eq (s : PySem.W.SharedT) : ob s = hk.obs s.abs := obsM_eq (HandSHeadRun.getT_eq s)
def loose0 : List Str := [("_wall" : Str), ("RowError" : Str), ("InvalidNumber" : Str), ("InvalidPairs" : Str), ("InvalidPlace" : Str), ("InvalidRows" : Str), ("InvalidSize" : Str), ("InvalidThrees" : Str), ("is_integer" : Str), ("is_count" : Str), ("is_list" : Str), ("PART" : Str), ("digits_of" : Str), ("common_part" : Str), ("Ratio" : Str), ("told_pair" : Str)]
def loose1 : List Str := [("is_number" : Str), ("ratio_of" : Str), ("wholes" : Str), ("are_numbers" : Str), ("ratios_of" : Str), ("plain_row" : Str), ("ints_of" : Str), ("cleared" : Str), ("first_at" : Str), ("int_rank" : Str), ("MOST_SIZE_pairs" : Str), ("MOST_PAIRS" : Str), ("is_pair" : Str), ("right_pairs" : Str), ("Known" : Str), ("Pairs" : Str)]
def loose2 : List Str := [("want_pairs" : Str), ("want_place" : Str), ("MOST_SIZE_threes" : Str), ("MOST_THREES" : Str), ("is_three" : Str), ("want_threes" : Str), ("put_on" : Str), ("pieces_by" : Str), ("longer_lots" : Str), ("longer_lots_threes" : Str), ("greatest_two" : Str), ("ringless_lot" : Str), ("row_with" : Str), ("three_pairs" : Str), ("has_ring" : Str), ("ringless" : Str)]
def loose3 : List Str := [("ringless_number" : Str), ("ints_at" : Str), ("rank_of" : Str), ("free_of" : Str), ("longer_lots_lots" : Str), ("greatest_of" : Str), ("greatest" : Str), ("_law_pot" : Str), ("_law_draw" : Str), ("_law_pick" : Str), ("_law_joined" : Str), ("_law_lots" : Str), ("_law_ringless" : Str), ("_law_threes" : Str), ("_law_right" : Str)]
def loose : List Str := loose0 ++ loose1 ++ loose2 ++ loose3
/-- what the head tells of the written part and the module's names -/
structure Tt (K : PySem.W.Frag) (mg : Str → Option Value) : Prop where
  says : He.SaysD fa fn K
  ex : ex K = true
  glo : ∀ {x : Str} {v : Value}, PySem.W.nsIn K mainGlobals x = some (some v) → mg x = some v
  fre : ∀ {x : Str}, PySem.W.nsIn K mainGlobals x = some none → mg x = none
section
variable {K : PySem.W.Frag} {mg : Str → Option Value}
theorem Tt.int (T : Tt K mg) {x : Str} {i : Int} (c : (He.Fa.int x i).ok K = true) : ∃ t, mg x = some (.int i t) := by
  have c2 : (match PySem.W.nsIn K mainGlobals x with
    | some (some (.int j _)) => decide (j = i)
    | _ => false) = true := c
  cases e : PySem.W.nsIn K mainGlobals x with
  | none =>
    rw [e] at c2
    cases c2
  | some o =>
    rw [e] at c2
    cases o with
    | none => cases c2
    | some v =>
      cases v with
      | int j t =>
        have ej : j = i := of_decide_eq_true c2
        rw [ej] at e
        exact ⟨t, T.glo e⟩
      | _ => cases c2
theorem Tt.g_is_integer (T : Tt K mg) : mg "is_integer" = some (.ref (He.ga K "is_integer")) := T.glo (He.eqO_ok (T.says.fact 0 (f := .glo "is_integer") rfl))
theorem Tt.g_is_count (T : Tt K mg) : mg "is_count" = some (.ref (He.ga K "is_count")) := T.glo (He.eqO_ok (T.says.fact 1 (f := .glo "is_count") rfl))
theorem Tt.g_is_list (T : Tt K mg) : mg "is_list" = some (.ref (He.ga K "is_list")) := T.glo (He.eqO_ok (T.says.fact 2 (f := .glo "is_list") rfl))
theorem Tt.g_common_part (T : Tt K mg) : mg "common_part" = some (.ref (He.ga K "common_part")) := T.glo (He.eqO_ok (T.says.fact 3 (f := .glo "common_part") rfl))
theorem Tt.g_is_number (T : Tt K mg) : mg "is_number" = some (.ref (He.ga K "is_number")) := T.glo (He.eqO_ok (T.says.fact 4 (f := .glo "is_number") rfl))
theorem Tt.g_ratio_of (T : Tt K mg) : mg "ratio_of" = some (.ref (He.ga K "ratio_of")) := T.glo (He.eqO_ok (T.says.fact 5 (f := .glo "ratio_of") rfl))
theorem Tt.g_wholes (T : Tt K mg) : mg "wholes" = some (.ref (He.ga K "wholes")) := T.glo (He.eqO_ok (T.says.fact 6 (f := .glo "wholes") rfl))
theorem Tt.g_are_numbers (T : Tt K mg) : mg "are_numbers" = some (.ref (He.ga K "are_numbers")) := T.glo (He.eqO_ok (T.says.fact 7 (f := .glo "are_numbers") rfl))
theorem Tt.g_ratios_of (T : Tt K mg) : mg "ratios_of" = some (.ref (He.ga K "ratios_of")) := T.glo (He.eqO_ok (T.says.fact 8 (f := .glo "ratios_of") rfl))
theorem Tt.g_plain_row (T : Tt K mg) : mg "plain_row" = some (.ref (He.ga K "plain_row")) := T.glo (He.eqO_ok (T.says.fact 9 (f := .glo "plain_row") rfl))
theorem Tt.g_ints_of (T : Tt K mg) : mg "ints_of" = some (.ref (He.ga K "ints_of")) := T.glo (He.eqO_ok (T.says.fact 10 (f := .glo "ints_of") rfl))
theorem Tt.g_cleared (T : Tt K mg) : mg "cleared" = some (.ref (He.ga K "cleared")) := T.glo (He.eqO_ok (T.says.fact 11 (f := .glo "cleared") rfl))
theorem Tt.g_first_at (T : Tt K mg) : mg "first_at" = some (.ref (He.ga K "first_at")) := T.glo (He.eqO_ok (T.says.fact 12 (f := .glo "first_at") rfl))
theorem Tt.g_int_rank (T : Tt K mg) : mg "int_rank" = some (.ref (He.ga K "int_rank")) := T.glo (He.eqO_ok (T.says.fact 13 (f := .glo "int_rank") rfl))
theorem Tt.g_is_pair (T : Tt K mg) : mg "is_pair" = some (.ref (He.ga K "is_pair")) := T.glo (He.eqO_ok (T.says.fact 14 (f := .glo "is_pair") rfl))
theorem Tt.g_right_pairs (T : Tt K mg) : mg "right_pairs" = some (.ref (He.ga K "right_pairs")) := T.glo (He.eqO_ok (T.says.fact 15 (f := .glo "right_pairs") rfl))
theorem Tt.g_want_pairs (T : Tt K mg) : mg "want_pairs" = some (.ref (He.ga K "want_pairs")) := T.glo (He.eqO_ok (T.says.fact 16 (f := .glo "want_pairs") rfl))
theorem Tt.g_is_three (T : Tt K mg) : mg "is_three" = some (.ref (He.ga K "is_three")) := T.glo (He.eqO_ok (T.says.fact 17 (f := .glo "is_three") rfl))
theorem Tt.g_want_threes (T : Tt K mg) : mg "want_threes" = some (.ref (He.ga K "want_threes")) := T.glo (He.eqO_ok (T.says.fact 18 (f := .glo "want_threes") rfl))
theorem Tt.g_put_on (T : Tt K mg) : mg "put_on" = some (.ref (He.ga K "put_on")) := T.glo (He.eqO_ok (T.says.fact 19 (f := .glo "put_on") rfl))
theorem Tt.g_pieces_by (T : Tt K mg) : mg "pieces_by" = some (.ref (He.ga K "pieces_by")) := T.glo (He.eqO_ok (T.says.fact 20 (f := .glo "pieces_by") rfl))
theorem Tt.g_greatest_two (T : Tt K mg) : mg "greatest_two" = some (.ref (He.ga K "greatest_two")) := T.glo (He.eqO_ok (T.says.fact 21 (f := .glo "greatest_two") rfl))
theorem Tt.g_ringless_lot (T : Tt K mg) : mg "ringless_lot" = some (.ref (He.ga K "ringless_lot")) := T.glo (He.eqO_ok (T.says.fact 22 (f := .glo "ringless_lot") rfl))
theorem Tt.g_row_with (T : Tt K mg) : mg "row_with" = some (.ref (He.ga K "row_with")) := T.glo (He.eqO_ok (T.says.fact 23 (f := .glo "row_with") rfl))
theorem Tt.g_three_pairs (T : Tt K mg) : mg "three_pairs" = some (.ref (He.ga K "three_pairs")) := T.glo (He.eqO_ok (T.says.fact 24 (f := .glo "three_pairs") rfl))
theorem Tt.g_has_ring (T : Tt K mg) : mg "has_ring" = some (.ref (He.ga K "has_ring")) := T.glo (He.eqO_ok (T.says.fact 25 (f := .glo "has_ring") rfl))
theorem Tt.g_ringless (T : Tt K mg) : mg "ringless" = some (.ref (He.ga K "ringless")) := T.glo (He.eqO_ok (T.says.fact 26 (f := .glo "ringless") rfl))
theorem Tt.g_ringless_number (T : Tt K mg) : mg "ringless_number" = some (.ref (He.ga K "ringless_number")) := T.glo (He.eqO_ok (T.says.fact 27 (f := .glo "ringless_number") rfl))
theorem Tt.g_ints_at (T : Tt K mg) : mg "ints_at" = some (.ref (He.ga K "ints_at")) := T.glo (He.eqO_ok (T.says.fact 28 (f := .glo "ints_at") rfl))
theorem Tt.g_rank_of (T : Tt K mg) : mg "rank_of" = some (.ref (He.ga K "rank_of")) := T.glo (He.eqO_ok (T.says.fact 29 (f := .glo "rank_of") rfl))
theorem Tt.g_free_of (T : Tt K mg) : mg "free_of" = some (.ref (He.ga K "free_of")) := T.glo (He.eqO_ok (T.says.fact 30 (f := .glo "free_of") rfl))
theorem Tt.g_greatest_of (T : Tt K mg) : mg "greatest_of" = some (.ref (He.ga K "greatest_of")) := T.glo (He.eqO_ok (T.says.fact 31 (f := .glo "greatest_of") rfl))
theorem Tt.g_greatest (T : Tt K mg) : mg "greatest" = some (.ref (He.ga K "greatest")) := T.glo (He.eqO_ok (T.says.fact 32 (f := .glo "greatest") rfl))
theorem Tt.g_law_pot (T : Tt K mg) : mg "_law_pot" = some (.ref (He.ga K "_law_pot")) := T.glo (He.eqO_ok (T.says.fact 33 (f := .glo "_law_pot") rfl))
theorem Tt.g_law_draw (T : Tt K mg) : mg "_law_draw" = some (.ref (He.ga K "_law_draw")) := T.glo (He.eqO_ok (T.says.fact 34 (f := .glo "_law_draw") rfl))
theorem Tt.g_law_pick (T : Tt K mg) : mg "_law_pick" = some (.ref (He.ga K "_law_pick")) := T.glo (He.eqO_ok (T.says.fact 35 (f := .glo "_law_pick") rfl))
theorem Tt.g_law_joined (T : Tt K mg) : mg "_law_joined" = some (.ref (He.ga K "_law_joined")) := T.glo (He.eqO_ok (T.says.fact 36 (f := .glo "_law_joined") rfl))
theorem Tt.g_law_lots (T : Tt K mg) : mg "_law_lots" = some (.ref (He.ga K "_law_lots")) := T.glo (He.eqO_ok (T.says.fact 37 (f := .glo "_law_lots") rfl))
theorem Tt.g_law_ringless (T : Tt K mg) : mg "_law_ringless" = some (.ref (He.ga K "_law_ringless")) := T.glo (He.eqO_ok (T.says.fact 38 (f := .glo "_law_ringless") rfl))
theorem Tt.g_law_threes (T : Tt K mg) : mg "_law_threes" = some (.ref (He.ga K "_law_threes")) := T.glo (He.eqO_ok (T.says.fact 39 (f := .glo "_law_threes") rfl))
theorem Tt.g_law_right (T : Tt K mg) : mg "_law_right" = some (.ref (He.ga K "_law_right")) := T.glo (He.eqO_ok (T.says.fact 40 (f := .glo "_law_right") rfl))
theorem Tt.g_law (T : Tt K mg) : mg "law" = some (.ref (He.ga K "law")) := T.glo (He.eqO_ok (T.says.fact 41 (f := .glo "law") rfl))
theorem Tt.g_longer_lots_threes (T : Tt K mg) : mg "longer_lots_threes" = some (.ref (He.ga K "longer_lots_threes")) := T.glo (He.eqO_ok (T.says.fact 42 (f := .glo "longer_lots_threes") rfl))
theorem Tt.g_longer_lots_lots (T : Tt K mg) : mg "longer_lots_lots" = some (.ref (He.ga K "longer_lots_lots")) := T.glo (He.eqO_ok (T.says.fact 43 (f := .glo "longer_lots_lots") rfl))
theorem Tt.g_Ratio (T : Tt K mg) : mg "Ratio" = some (.ref (He.ga K "Ratio")) := T.glo (He.eqO_ok (T.says.fact 44 (f := .glo "Ratio") rfl))
theorem Tt.g_Known (T : Tt K mg) : mg "Known" = some (.ref (He.ga K "Known")) := T.glo (He.eqO_ok (T.says.fact 45 (f := .glo "Known") rfl))
theorem Tt.g_Pairs (T : Tt K mg) : mg "Pairs" = some (.ref (He.ga K "Pairs")) := T.glo (He.eqO_ok (T.says.fact 46 (f := .glo "Pairs") rfl))
theorem Tt.b_isinstance (T : Tt K mg) : mg "isinstance" = none := T.fre (He.eqO_ok (T.says.fact 47 (f := .free "isinstance") rfl))
theorem Tt.b_int (T : Tt K mg) : mg "int" = none := T.fre (He.eqO_ok (T.says.fact 48 (f := .free "int") rfl))
theorem Tt.b_bool (T : Tt K mg) : mg "bool" = none := T.fre (He.eqO_ok (T.says.fact 49 (f := .free "bool") rfl))
theorem Tt.b_list (T : Tt K mg) : mg "list" = none := T.fre (He.eqO_ok (T.says.fact 50 (f := .free "list") rfl))
theorem Tt.b_tuple (T : Tt K mg) : mg "tuple" = none := T.fre (He.eqO_ok (T.says.fact 51 (f := .free "tuple") rfl))
theorem Tt.b_len (T : Tt K mg) : mg "len" = none := T.fre (He.eqO_ok (T.says.fact 52 (f := .free "len") rfl))
theorem Tt.b_all (T : Tt K mg) : mg "all" = none := T.fre (He.eqO_ok (T.says.fact 53 (f := .free "all") rfl))
theorem Tt.b_zip (T : Tt K mg) : mg "zip" = none := T.fre (He.eqO_ok (T.says.fact 54 (f := .free "zip") rfl))
theorem Tt.b_enumerate (T : Tt K mg) : mg "enumerate" = none := T.fre (He.eqO_ok (T.says.fact 55 (f := .free "enumerate") rfl))
theorem Tt.b_range (T : Tt K mg) : mg "range" = none := T.fre (He.eqO_ok (T.says.fact 56 (f := .free "range") rfl))
theorem Tt.b_sorted (T : Tt K mg) : mg "sorted" = none := T.fre (He.eqO_ok (T.says.fact 57 (f := .free "sorted") rfl))
theorem Tt.b_max (T : Tt K mg) : mg "max" = none := T.fre (He.eqO_ok (T.says.fact 58 (f := .free "max") rfl))
theorem Tt.b_abs (T : Tt K mg) : mg "abs" = none := T.fre (He.eqO_ok (T.says.fact 59 (f := .free "abs") rfl))
theorem Tt.b_divmod (T : Tt K mg) : mg "divmod" = none := T.fre (He.eqO_ok (T.says.fact 60 (f := .free "divmod") rfl))
theorem Tt.b_repr (T : Tt K mg) : mg "repr" = none := T.fre (He.eqO_ok (T.says.fact 61 (f := .free "repr") rfl))
theorem Tt.b_any (T : Tt K mg) : mg "any" = none := T.fre (He.eqO_ok (T.says.fact 62 (f := .free "any") rfl))
theorem Tt.i_MOST_SIZE_pairs (T : Tt K mg) : ∃ t, mg "MOST_SIZE_pairs" = some (.int 8 t) := T.int (T.says.fact 63 (f := .int "MOST_SIZE_pairs" 8) rfl)
theorem Tt.i_MOST_PAIRS (T : Tt K mg) : ∃ t, mg "MOST_PAIRS" = some (.int 8 t) := T.int (T.says.fact 64 (f := .int "MOST_PAIRS" 8) rfl)
theorem Tt.i_MOST_SIZE_threes (T : Tt K mg) : ∃ t, mg "MOST_SIZE_threes" = some (.int 8 t) := T.int (T.says.fact 65 (f := .int "MOST_SIZE_threes" 8) rfl)
theorem Tt.i_MOST_THREES (T : Tt K mg) : ∃ t, mg "MOST_THREES" = some (.int 8 t) := T.int (T.says.fact 66 (f := .int "MOST_THREES" 8) rfl)
theorem Tt.cl_Ratio (T : Tt K mg) : Cls K (He.ga K "Ratio") := He.cls_ok (T.says.fact 67 (f := .cls "Ratio") rfl)
theorem Tt.cl_Pairs (T : Tt K mg) : Cls K (He.ga K "Pairs") := He.cls_ok (T.says.fact 68 (f := .cls "Pairs") rfl)
theorem Tt.n_own_top (T : Tt K mg) : NoAttr K (He.ga K "Ratio") "own_top" := He.noat_ok (T.says.fact 69 (f := .noat "Ratio" "own_top") rfl)
theorem Tt.n_own_bottom (T : Tt K mg) : NoAttr K (He.ga K "Ratio") "own_bottom" := He.noat_ok (T.says.fact 70 (f := .noat "Ratio" "own_bottom") rfl)
theorem Tt.n_own_size (T : Tt K mg) : NoAttr K (He.ga K "Pairs") "own_size" := He.noat_ok (T.says.fact 71 (f := .noat "Pairs" "own_size") rfl)
theorem Tt.n_own_rows (T : Tt K mg) : NoAttr K (He.ga K "Pairs") "own_rows" := He.noat_ok (T.says.fact 72 (f := .noat "Pairs" "own_rows") rfl)
theorem Tt.n_own_ints (T : Tt K mg) : NoAttr K (He.ga K "Pairs") "own_ints" := He.noat_ok (T.says.fact 73 (f := .noat "Pairs" "own_ints") rfl)
theorem Tt.m_Ratio (T : Tt K mg) : Mk K (He.ga K "Ratio") (He.ma K (He.ga K "Ratio") "__init__") := He.mkr_ok (T.says.fact 74 (f := .mkr "Ratio") rfl)
theorem Tt.m_Pairs (T : Tt K mg) : Mk K (He.ga K "Pairs") (He.ma K (He.ga K "Pairs") "__init__") := He.mkr_ok (T.says.fact 75 (f := .mkr "Pairs") rfl)
theorem Tt.e_is_integer (T : Tt K mg) : ∃ fd, FnP K d_is_integer (He.fAd K d_is_integer.at_) fd := T.says.def_ 0 (d := d_is_integer) rfl
theorem Tt.e_is_count (T : Tt K mg) : ∃ fd, FnP K d_is_count (He.fAd K d_is_count.at_) fd := T.says.def_ 1 (d := d_is_count) rfl
theorem Tt.e_is_list (T : Tt K mg) : ∃ fd, FnP K d_is_list (He.fAd K d_is_list.at_) fd := T.says.def_ 2 (d := d_is_list) rfl
theorem Tt.e_common_part (T : Tt K mg) : ∃ fd, FnP K d_common_part (He.fAd K d_common_part.at_) fd := T.says.def_ 3 (d := d_common_part) rfl
theorem Tt.e_is_number (T : Tt K mg) : ∃ fd, FnP K d_is_number (He.fAd K d_is_number.at_) fd := T.says.def_ 4 (d := d_is_number) rfl
theorem Tt.e_ratio_of (T : Tt K mg) : ∃ fd, FnP K d_ratio_of (He.fAd K d_ratio_of.at_) fd := T.says.def_ 5 (d := d_ratio_of) rfl
theorem Tt.e_wholes (T : Tt K mg) : ∃ fd, FnP K d_wholes (He.fAd K d_wholes.at_) fd := T.says.def_ 6 (d := d_wholes) rfl
theorem Tt.e_are_numbers (T : Tt K mg) : ∃ fd, FnP K d_are_numbers (He.fAd K d_are_numbers.at_) fd := T.says.def_ 7 (d := d_are_numbers) rfl
theorem Tt.e_ratios_of (T : Tt K mg) : ∃ fd, FnP K d_ratios_of (He.fAd K d_ratios_of.at_) fd := T.says.def_ 8 (d := d_ratios_of) rfl
theorem Tt.e_plain_row (T : Tt K mg) : ∃ fd, FnP K d_plain_row (He.fAd K d_plain_row.at_) fd := T.says.def_ 9 (d := d_plain_row) rfl
theorem Tt.e_ints_of (T : Tt K mg) : ∃ fd, FnP K d_ints_of (He.fAd K d_ints_of.at_) fd := T.says.def_ 10 (d := d_ints_of) rfl
theorem Tt.e_cleared (T : Tt K mg) : ∃ fd, FnP K d_cleared (He.fAd K d_cleared.at_) fd := T.says.def_ 11 (d := d_cleared) rfl
theorem Tt.e_first_at (T : Tt K mg) : ∃ fd, FnP K d_first_at (He.fAd K d_first_at.at_) fd := T.says.def_ 12 (d := d_first_at) rfl
theorem Tt.e_int_rank (T : Tt K mg) : ∃ fd, FnP K d_int_rank (He.fAd K d_int_rank.at_) fd := T.says.def_ 13 (d := d_int_rank) rfl
theorem Tt.e_is_pair (T : Tt K mg) : ∃ fd, FnP K d_is_pair (He.fAd K d_is_pair.at_) fd := T.says.def_ 14 (d := d_is_pair) rfl
theorem Tt.e_right_pairs (T : Tt K mg) : ∃ fd, FnP K d_right_pairs (He.fAd K d_right_pairs.at_) fd := T.says.def_ 15 (d := d_right_pairs) rfl
theorem Tt.e_want_pairs (T : Tt K mg) : ∃ fd, FnP K d_want_pairs (He.fAd K d_want_pairs.at_) fd := T.says.def_ 16 (d := d_want_pairs) rfl
theorem Tt.e_is_three (T : Tt K mg) : ∃ fd, FnP K d_is_three (He.fAd K d_is_three.at_) fd := T.says.def_ 17 (d := d_is_three) rfl
theorem Tt.e_want_threes (T : Tt K mg) : ∃ fd, FnP K d_want_threes (He.fAd K d_want_threes.at_) fd := T.says.def_ 18 (d := d_want_threes) rfl
theorem Tt.e_put_on (T : Tt K mg) : ∃ fd, FnP K d_put_on (He.fAd K d_put_on.at_) fd := T.says.def_ 19 (d := d_put_on) rfl
theorem Tt.e_pieces_by (T : Tt K mg) : ∃ fd, FnP K d_pieces_by (He.fAd K d_pieces_by.at_) fd := T.says.def_ 20 (d := d_pieces_by) rfl
theorem Tt.e_greatest_two (T : Tt K mg) : ∃ fd, FnP K d_greatest_two (He.fAd K d_greatest_two.at_) fd := T.says.def_ 21 (d := d_greatest_two) rfl
theorem Tt.e_ringless_lot (T : Tt K mg) : ∃ fd, FnP K d_ringless_lot (He.fAd K d_ringless_lot.at_) fd := T.says.def_ 22 (d := d_ringless_lot) rfl
theorem Tt.e_row_with (T : Tt K mg) : ∃ fd, FnP K d_row_with (He.fAd K d_row_with.at_) fd := T.says.def_ 23 (d := d_row_with) rfl
theorem Tt.e_three_pairs (T : Tt K mg) : ∃ fd, FnP K d_three_pairs (He.fAd K d_three_pairs.at_) fd := T.says.def_ 24 (d := d_three_pairs) rfl
theorem Tt.e_has_ring (T : Tt K mg) : ∃ fd, FnP K d_has_ring (He.fAd K d_has_ring.at_) fd := T.says.def_ 25 (d := d_has_ring) rfl
theorem Tt.e_ringless (T : Tt K mg) : ∃ fd, FnP K d_ringless (He.fAd K d_ringless.at_) fd := T.says.def_ 26 (d := d_ringless) rfl
theorem Tt.e_ringless_number (T : Tt K mg) : ∃ fd, FnP K d_ringless_number (He.fAd K d_ringless_number.at_) fd := T.says.def_ 27 (d := d_ringless_number) rfl
theorem Tt.e_ints_at (T : Tt K mg) : ∃ fd, FnP K d_ints_at (He.fAd K d_ints_at.at_) fd := T.says.def_ 28 (d := d_ints_at) rfl
theorem Tt.e_rank_of (T : Tt K mg) : ∃ fd, FnP K d_rank_of (He.fAd K d_rank_of.at_) fd := T.says.def_ 29 (d := d_rank_of) rfl
theorem Tt.e_free_of (T : Tt K mg) : ∃ fd, FnP K d_free_of (He.fAd K d_free_of.at_) fd := T.says.def_ 30 (d := d_free_of) rfl
theorem Tt.e_greatest_of (T : Tt K mg) : ∃ fd, FnP K d_greatest_of (He.fAd K d_greatest_of.at_) fd := T.says.def_ 31 (d := d_greatest_of) rfl
theorem Tt.e_greatest (T : Tt K mg) : ∃ fd, FnP K d_greatest (He.fAd K d_greatest.at_) fd := T.says.def_ 32 (d := d_greatest) rfl
theorem Tt.e_law_pot (T : Tt K mg) : ∃ fd, FnP K d_law_pot (He.fAd K d_law_pot.at_) fd := T.says.def_ 33 (d := d_law_pot) rfl
theorem Tt.e_law_draw (T : Tt K mg) : ∃ fd, FnP K d_law_draw (He.fAd K d_law_draw.at_) fd := T.says.def_ 34 (d := d_law_draw) rfl
theorem Tt.e_law_pick (T : Tt K mg) : ∃ fd, FnP K d_law_pick (He.fAd K d_law_pick.at_) fd := T.says.def_ 35 (d := d_law_pick) rfl
theorem Tt.e_law_joined (T : Tt K mg) : ∃ fd, FnP K d_law_joined (He.fAd K d_law_joined.at_) fd := T.says.def_ 36 (d := d_law_joined) rfl
theorem Tt.e_law_lots (T : Tt K mg) : ∃ fd, FnP K d_law_lots (He.fAd K d_law_lots.at_) fd := T.says.def_ 37 (d := d_law_lots) rfl
theorem Tt.e_law_ringless (T : Tt K mg) : ∃ fd, FnP K d_law_ringless (He.fAd K d_law_ringless.at_) fd := T.says.def_ 38 (d := d_law_ringless) rfl
theorem Tt.e_law_threes (T : Tt K mg) : ∃ fd, FnP K d_law_threes (He.fAd K d_law_threes.at_) fd := T.says.def_ 39 (d := d_law_threes) rfl
theorem Tt.e_law_right (T : Tt K mg) : ∃ fd, FnP K d_law_right (He.fAd K d_law_right.at_) fd := T.says.def_ 40 (d := d_law_right) rfl
theorem Tt.e_law (T : Tt K mg) : ∃ fd, FnP K d_law (He.fAd K d_law.at_) fd := T.says.def_ 41 (d := d_law) rfl
theorem Tt.e_longer_lots_threes (T : Tt K mg) : ∃ fd, FnP K d_longer_lots_threes (He.fAd K d_longer_lots_threes.at_) fd := T.says.def_ 42 (d := d_longer_lots_threes) rfl
theorem Tt.e_longer_lots_lots (T : Tt K mg) : ∃ fd, FnP K d_longer_lots_lots (He.fAd K d_longer_lots_lots.at_) fd := T.says.def_ 43 (d := d_longer_lots_lots) rfl
theorem Tt.e_Ratio_init (T : Tt K mg) : ∃ fd, FnP K d_Ratio_init (He.fAd K d_Ratio_init.at_) fd := T.says.def_ 44 (d := d_Ratio_init) rfl
theorem Tt.e_Pairs_init (T : Tt K mg) : ∃ fd, FnP K d_Pairs_init (He.fAd K d_Pairs_init.at_) fd := T.says.def_ 45 (d := d_Pairs_init) rfl
end
end Tx
set_option Elab.async false
set_option linter.all false
set_option maxRecDepth 100000
set_option maxHeartbeats 0
namespace Tx
open PySem PySem.Spec PyProof.Rows L2
theorem run (w : World) : HandSHeadRun.RunEqI R (PySem.W.view R.prog [0, 73]) hk ob 6000 loose w := by
  unfold HandSHeadRun.RunEqI
  kernel_rfl
end Tx
set_option Elab.async false
set_option linter.all false
set_option maxRecDepth 100000
set_option maxHeartbeats 4000000
/-! What the walk rests on: callees by name, data on the heap, rules of our own. -/
namespace Tx
open PySem PySem.Spec PyProof.Rows L2
/-! ### defs -/
section
variable {P : Program} {w : World} {K : PySem.W.Frag} {mg : Str → Option Value} {base : Heap}
/-- a def whose body lets nothing out -/
theorem okD {x qual : Str} {params : Arguments} {body : List Stmt} {scope : Scope} {dvs : List V} {kws : List (Str × V)} {f : Addr} {fd : FuncData} {N ps : List Str} {k : Nat} {sp : Sp}
    (F : FunD K x qual params body scope dvs kws f fd) (S : FnScope N ps scope) (len : ∀ vs H Q E, sp vs H Q E → vs.length = ps.length)
    (hb : ∀ (cdv : Value) (A : Around) (outer : List Env) (s : Shared) (H : Hp) (vs : List V) (Q : VK) (E : XK), Room k (A.deeper (envOfC qual scope s.heap.objs.size f cdv)) → sp vs H Q E →
      ∃ t, PSs (cxOf CX0 P w K mg base N qual scope f cdv A outer s H E).nox body t ∧ t { nx := fun _ H' => Q .non H', rt := Q } (start N vs) H) : FnOk P w K mg base CX0 (k + 1) f fd ps sp :=
  F.ok S len fun cdv A outer s H vs Q E hr h => by
    obtain ⟨t, a, b⟩ := hb cdv A outer s H vs Q E hr h
    exact ⟨t, a.nox, b⟩
/-- a def of the module, called by its name -/
structure Ca (P : Program) (w : World) (K : PySem.W.Frag) (mg : Str → Option Value) (base : Heap) (k : Nat) (x : Str) (ps : List Str) (sp : Sp) : Prop where
  ex : ∃ (f : Addr) (fd : FuncData), FnOk P w K mg base CX0 k f fd ps sp ∧ mg x = some (.ref f) ∧ PySem.W.keepIn K (.ref f) = true ∧ Binds K fd ps []
theorem Ca.mk' {x y qual : Str} {params : Arguments} {body : List Stmt} {scope : Scope} {f : Addr} {fd : FuncData} {ps : List Str} {k : Nat} {sp : Sp}
    (F : FunD K y qual params body scope [] [] f fd) (g : mg x = some (.ref f)) (h : FnOk P w K mg base CX0 k f fd ps sp)
    (hb : ∀ (kV doc pm : Value) (an : Option Addr) (cdv ct : Value) (us : List Value), us.length = ps.length → bindArgs (PySem.W.fnOf y qual params body scope .none kV doc pm an cdv ct) ⟨us, []⟩ = pure (ps.zip us)) : Ca P w K mg base k x ps sp :=
  ⟨f, fd, h, g, F.kp, F.bindsN hb⟩
theorem Ca.mono {x : Str} {ps : List Str} {j k : Nat} {sp : Sp} (C : Ca P w K mg base j x ps sp) (h : j ≤ k) : Ca P w K mg base k x ps sp := by
  obtain ⟨f, fd, a, b, c, d⟩ := C.ex
  exact ⟨f, fd, a.mono h, b, c, d⟩
end
section
variable {X : Cx} {k : Nat} {x : Str} {ps : List Str} {sp : Sp} {p pos : Pos} {e : Expr} {es : List Expr} {t : TA}
theorem pe_c (C : Ca X.prog X.w X.K X.mg X.base k x ps sp) (hr : Room k X.A) (hg : Gl X x) (ha : PA X (e :: es) t) (hdb : (x == ("__debug__" : Str)) = false := by decide)
    (he : starEach (e :: es) X.env = (false, eval e X.env) :: starEach es X.env := by rfl) (hpl : (backTo pos (starEach es X.env)).any (·.1) = false := by rfl) : PE X (.Call (.Name x p) (e :: es) [] pos) (tCall sp [] E0 t) := by
  obtain ⟨f, fd, a, b, c, d⟩ := C.ex
  exact pe_call a hr hg b c d .nil pass0 ha hdb he hpl
end
/-! ### a part of the heap put out of sight -/
def hid (X : List Addr) (H : Hp) : Hp := fun a => if a ∈ X then none else H a
theorem hid_some {X : List Addr} {H : Hp} {a : Addr} {o : HO} : hid X H a = some o ↔ a ∉ X ∧ H a = some o := by
  unfold hid
  by_cases h : a ∈ X
  · rw [if_pos h]
    constructor
    · intro z
      cases z
    · intro z
      exact absurd h z.1
  · rw [if_neg h]
    exact ⟨fun z => ⟨h, z⟩, fun z => z.2⟩
theorem hid_at {X : List Addr} {H : Hp} {a : Addr} {o : HO} (h : hid X H a = some o) : H a = some o := (hid_some.mp h).2
theorem hid_nil (H : Hp) : hid [] H = H := funext fun a => if_neg (by simp)
theorem _root_.L2.Same.hid {X : List Addr} {H H' : Hp} (s : Same H H') : Same (Tx.hid X H) (Tx.hid X H') := fun b o e => by
  rw [hid_some] at e ⊢
  exact ⟨e.1, s _ _ e.2⟩
theorem same_hid (X : List Addr) (H : Hp) : Same (hid X H) H := fun b o e => hid_at e
/-- at a hidden place anything may change -/
theorem hid_upd {X : List Addr} {H : Hp} {D : Addr} {o : HO} (h : D ∈ X) : Same (Tx.hid X H) (Tx.hid X (upd H D o)) := fun b u e => by
  rw [hid_some] at e ⊢
  refine ⟨e.1, ?_⟩
  rw [upd_ne fun z => e.1 (by rw [z]; exact h)]
  exact e.2
/-- a new place may be hidden too -/
theorem hid_new {X : List Addr} {H : Hp} {D : Addr} (h : H D = none) : Same (Tx.hid X H) (Tx.hid (D :: X) H) := fun b u e => by
  rw [hid_some] at e ⊢
  refine ⟨fun z => ?_, e.2⟩
  rcases List.mem_cons.mp z with rfl | z
  · rw [h] at e
    cases e.2
  · exact e.1 z
theorem hid_less {X Y : List Addr} {H : Hp} (h : ∀ a ∈ Y, a ∈ X) : Same (Tx.hid X H) (Tx.hid Y H) := fun b u e => by
  rw [hid_some] at e ⊢
  exact ⟨fun z => e.1 (h _ z), e.2⟩
theorem hid_tail {X : List Addr} {H : Hp} {D : Addr} : Same (Tx.hid (D :: X) H) (Tx.hid X H) := hid_less fun a h => List.mem_cons_of_mem _ h
/-- what is hidden stands in the heap -/
def Lives (X : List Addr) (H : Hp) : Prop := ∀ a ∈ X, H a ≠ none
theorem Lives.same {X : List Addr} {H H' : Hp} (l : Lives X H) (s : Same H H') : Lives X H' := fun a h z => by
  cases e : H a with
  | none => exact l a h e
  | some o =>
    have := s a o e
    rw [z] at this
    cases this
theorem Lives.out {X : List Addr} {H : Hp} {p : Addr} (l : Lives X H) (h : H p = none) : p ∉ X := fun z => l p z h
theorem Lives.cons {X : List Addr} {H : Hp} {D : Addr} {o : HO} (l : Lives X H) (h : H D = some o) : Lives (D :: X) H := fun a ha => by
  rcases List.mem_cons.mp ha with rfl | ha
  · rw [h]
    exact fun z => by cases z
  · exact l a ha
theorem Lives.nil (H : Hp) : Lives [] H := fun a h => by cases h
theorem Lives.upd {X : List Addr} {H : Hp} {D : Addr} {o : HO} (l : Lives X H) : Lives X (L2.upd H D o) := fun a h => by
  by_cases e : a = D
  · rw [e, upd_same]
    exact fun z => by cases z
  · rw [upd_ne e]
    exact l a h
theorem sameU {H : Hp} {p : Addr} {o : HO} (h : H p = none) : Same H (L2.upd H p o) := fun b u e => by
  rw [upd_ne (ne_of_none e h)]
  exact e
/-- a new object is seen -/
theorem hid_put {X : List Addr} {H : Hp} {p : Addr} {o : HO} (h : p ∉ X) : Tx.hid X (L2.upd H p o) p = some o := hid_some.mpr ⟨h, upd_same⟩
/-! ### data -/
abbrev Rel (α : Type) := Hp → V → α → Prop
structure Mono {α : Type} (R : Rel α) : Prop where
  up : ∀ {G G' : Hp} {v : V} {d : α}, Same G G' → R G v d → R G' v d
def dInt : Rel Int := fun _ v i => v = .int i
def dNat : Rel Nat := fun _ v i => v = .int (i : Int)
def dList {α : Type} (R : Rel α) : Rel (List α) := fun G v ds => ∃ (a : Addr) (vs : List V), v = .ref a ∧ G a = some (.lst vs) ∧ Paired (R G) vs ds
def dTupL {α : Type} (R : Rel α) : Rel (List α) := fun G v ds => ∃ (a : Addr) (vs : List V), v = .ref a ∧ G a = some (.tup vs) ∧ Paired (R G) vs ds
/-- a list or a tuple -/
def dSeq {α : Type} (R : Rel α) : Rel (List α) := fun G v ds => dList R G v ds ∨ dTupL R G v ds
def dTwo {α β : Type} (R : Rel α) (S : Rel β) : Rel (α × β) := fun G v d => ∃ (a : Addr) (u w : V), v = .ref a ∧ G a = some (.tup [u, w]) ∧ R G u d.1 ∧ S G w d.2
def dThree : Rel Mth.Three := fun G v t => ∃ a : Addr, v = .ref a ∧ G a = some (.tup [.int (t.1 : Int), .int (t.2.1 : Int), .int (t.2.2 : Int)])
theorem paired_mono {α : Type} {R S : V → α → Prop} : ∀ {vs : List V} {ds : List α}, (∀ v d, R v d → S v d) → Paired R vs ds → Paired S vs ds := fun h p => Paired.mapP p h
theorem mInt : Mono dInt := ⟨fun _ h => h⟩
theorem mNat : Mono dNat := ⟨fun _ h => h⟩
theorem mList {α : Type} {R : Rel α} (m : Mono R) : Mono (dList R) := ⟨fun s ⟨a, vs, e, h, p⟩ => ⟨a, vs, e, s _ _ h, paired_mono (fun _ _ => m.up s) p⟩⟩
theorem mTupL {α : Type} {R : Rel α} (m : Mono R) : Mono (dTupL R) := ⟨fun s ⟨a, vs, e, h, p⟩ => ⟨a, vs, e, s _ _ h, paired_mono (fun _ _ => m.up s) p⟩⟩
theorem mSeq {α : Type} {R : Rel α} (m : Mono R) : Mono (dSeq R) := ⟨fun s h => h.imp ((mList m).up s) ((mTupL m).up s)⟩
theorem mTwo {α β : Type} {R : Rel α} {S : Rel β} (m : Mono R) (n : Mono S) : Mono (dTwo R S) := ⟨fun s ⟨a, u, w, e, h, p, q⟩ => ⟨a, u, w, e, s _ _ h, m.up s p, n.up s q⟩⟩
theorem mThree : Mono dThree := ⟨fun s ⟨a, e, h⟩ => ⟨a, e, s _ _ h⟩⟩
/-- items of paired lists -/
theorem paired_at {α : Type} {R : V → α → Prop} : ∀ {vs : List V} {ds : List α} {i : Nat} {v : V}, Paired R vs ds → vs[i]? = some v → ∃ d, ds[i]? = some d ∧ R v d
  | _, _, _, _, .nil, h => by simp at h
  | _, _, 0, _, .cons r _, h => by
    have e := Option.some.inj h
    subst e
    exact ⟨_, rfl, r⟩
  | _, _, i + 1, _, .cons _ t, h => paired_at (i := i) t h
theorem paired_to {α : Type} {R : V → α → Prop} : ∀ {vs : List V} {ds : List α} {i : Nat} {d : α}, Paired R vs ds → ds[i]? = some d → ∃ v, vs[i]? = some v ∧ R v d
  | _, _, _, _, .nil, h => by simp at h
  | _, _, 0, _, .cons r _, h => by
    have e := Option.some.inj h
    subst e
    exact ⟨_, rfl, r⟩
  | _, _, i + 1, _, .cons _ t, h => paired_to (i := i) t h
theorem paired_app {α : Type} {R : V → α → Prop} : ∀ {vs us : List V} {ds es : List α}, Paired R vs ds → Paired R us es → Paired R (vs ++ us) (ds ++ es)
  | _, _, _, _, .nil, h => h
  | _, _, _, _, .cons r t, h => .cons r (paired_app t h)
theorem paired_take {α : Type} {R : V → α → Prop} : ∀ {vs : List V} {ds : List α} (n : Nat), Paired R vs ds → Paired R (vs.take n) (ds.take n)
  | _, _, 0, _ => .nil
  | _, _, _ + 1, .nil => .nil
  | _, _, n + 1, .cons r t => .cons r (paired_take n t)
theorem paired_drop {α : Type} {R : V → α → Prop} : ∀ {vs : List V} {ds : List α} (n : Nat), Paired R vs ds → Paired R (vs.drop n) (ds.drop n)
  | _, _, 0, r => r
  | _, _, _ + 1, .nil => .nil
  | _, _, n + 1, .cons _ t => paired_drop n t
theorem paired_rev {α : Type} {R : V → α → Prop} : ∀ {vs : List V} {ds : List α}, Paired R vs ds → Paired R vs.reverse ds.reverse
  | _, _, .nil => .nil
  | _, _, .cons r t => by
    rw [List.reverse_cons, List.reverse_cons]
    exact paired_app (paired_rev t) (.cons r .nil)
theorem paired_nat {G : Hp} : ∀ {vs : List V} {ds : List Nat}, Paired (dNat G) vs ds → vs = ds.map fun (i : Nat) => V.int (i : Int)
  | _, _, .nil => rfl
  | _, _, .cons r t => by
    have e : _ = V.int _ := r
    rw [e, paired_nat t]
    rfl
theorem paired_int {G : Hp} : ∀ {vs : List V} {ds : List Int}, Paired (dInt G) vs ds → vs = ds.map V.int
  | _, _, .nil => rfl
  | _, _, .cons r t => by
    have e : _ = V.int _ := r
    rw [e, paired_int t]
    rfl
theorem paired_of_nat {G : Hp} : ∀ ds : List Nat, Paired (dNat G) (ds.map fun (i : Nat) => V.int (i : Int)) ds
  | [] => .nil
  | _ :: ds => .cons rfl (paired_of_nat ds)
theorem paired_of_int {G : Hp} : ∀ ds : List Int, Paired (dInt G) (ds.map V.int) ds
  | [] => .nil
  | _ :: ds => .cons rfl (paired_of_int ds)
theorem paired_len {α : Type} {R : V → α → Prop} {vs : List V} {ds : List α} (p : Paired R vs ds) : vs.length = ds.length := Paired.length p
/-! ### rules that the layer lacks -/
section
variable {X : Cx}
/-- xs != [] -/
def rNeE (K : PySem.W.Frag) : R2 := fun x y H Q => ∃ (a b : Addr) (xs : List V), x = .ref a ∧ y = .ref b ∧ SqL K H a xs ∧ SqL K H b [] ∧ Q (.bl (!xs.isEmpty)) H
theorem op_neE (hu : X.A.units < cLine) : OpR X (compareOp .NotEq) (rNeE X.K) := by
  intro pins s σ H x y v u Q I rx ry h
  obtain ⟨a, b, xs, rfl, rfl, ha, hb, q⟩ := h
  cases rx
  cases ry
  obtain ⟨i1, v1, p1, _⟩ := I.list ha
  obtain ⟨i2, v2, p2, _⟩ := I.list hb
  cases v2
  cases xs with
  | nil =>
    cases v1
    refine EqBoolInt.of_rcne (SeqAt.RcNeAt.lists (e := fun _ => true) p1.isList p2.isList rfl hu fun j h1 _ => absurd h1 (Nat.not_lt_zero j)) ⟨.bl _, H, I, rfl, q⟩
  | cons z zs =>
    cases v1 with
    | cons r t => exact EqBoolInt.of_rcne (SeqAt.RcNeAt.lists_lengths p1.isList p2.isList (by simp) hu) ⟨.bl _, H, I, rfl, q⟩
/-- xs.extend(a tuple) -/
theorem list_extend_tup (l : Addr) (items : Array Value) (n : Nat) (b : Addr) (ys : Array Value) (m : Nat) (dd : Option Addr) (sl : Array (Option Value)) (h0 : ¬(!items.isEmpty && Builtin.List.listTooLong (items.size + ys.size)) = true) (h1 : items.size ≤ sizeLine) (h2 : items.size + ys.size ≤ sizeLine + 1) :
    Meets (Builtin.«list.extend» ⟨[.ref l, .ref b], []⟩) (fun _ R s => s.heap.get? l = some { cls := .type "list", dict := none, data := .seq items n, slots := #[] } ∧
      s.heap.get? b = some { cls := .type "tuple", dict := dd, data := .seq ys m, slots := sl } ∧ R (.ok (.ret Value.none)) { s with heap := s.heap.update l (Obj.mapSeq fun x => x ++ ys), toks := s.toks }) :=
  .of_wp fun prog w A R s h => by
    obtain ⟨hp, g, d, tk, os⟩ := s
    obtain ⟨hl, hb, h⟩ := h
    have f1 := AutoSeq1.idx_int
    have f2 := AutoSeq1.sub_tuple_tuple
    have f3 := AutoSeq1.sub_list_list
    have f4 := AutoSeq1.sub_tuple_list
    have f5 := AutoSeq1.sub_list_tuple
    have hz : (items ++ ys).size ≤ sizeLine + 1 := by
      rw [Array.size_append]
      exact h2
    wp_walk using (wpAny_updateSeq hl rfl (hz := h1) (_hz' := hz)), AutoSeq1.wpAny_loadPart' hl, AutoSeq1.wpAny_loadPart' hb
    exact ⟨_, rfl, h⟩
def rExtT : V → List V → Hp → VK → Prop := fun x vs H Q => ∃ l b xs zs, x = .ref l ∧ vs = [.ref b] ∧ H l = some (.lst xs) ∧ H b = some (.tup zs) ∧ xs.length + zs.length ≤ sizeLine ∧ Q .non (upd H l (.lst (xs ++ zs)))
theorem mt_extendT : MtM X "list.extend" rExtT := by
  intro pins s σ H x vs v us Q I rx rv h
  obtain ⟨l, b, xs, zs, rfl, rfl, hH, hB, hz, q⟩ := h
  cases rx
  obtain ⟨u, rfl, ru⟩ := rv.one
  cases ru
  obtain ⟨z, its, n, r, hl, e⟩ := I.lstM hH
  obtain ⟨z2, its2, r2, ⟨oc, od, dt, sl⟩, e2, c2, n2, d2⟩ := (show ObjOk X.prog X.w H s.heap b (.tup zs) from I.hok b _ hB)
  simp only at c2 d2
  subst c2 d2
  have hl2 := r2.length
  have hs : its.toArray.size + its2.toArray.size ≤ sizeLine := by
    rw [List.size_toArray, List.size_toArray]
    omega
  have hg : ¬ (!its.toArray.isEmpty && Builtin.List.listTooLong (its.toArray.size + its2.toArray.size)) = true := by
    rw [notLongL hs, Bool.and_false]
    exact Bool.false_ne_true
  refine call_meets F.slot_list_extend ⟨_, e, rfl⟩ F.entry_list_extend (F.args_list_extend_2 _ _)
    (list_extend_tup l its.toArray n b its2.toArray n2 od sl hg (by rw [List.size_toArray]; omega) (by omega)) ⟨e, e2, ?_⟩
  exact ⟨.non, _, I.lset (its' := its ++ its2) hH e (by simp) (r.append r2) (by rw [List.length_append]; omega), rfl, q⟩
/-- math.lcm(1, 1) -/
def rLcm : List V → Hp → VK → Prop := fun vs H Q => vs = [.int 1, .int 1] ∧ Q (.int 1) H
theorem cr_lcm : CallR X (.builtin "math.lcm") rLcm := by
  intro pins s σ H vs us Q I r h
  obtain ⟨rfl, q⟩ := h
  obtain ⟨t, u, rfl⟩ := Vals.int2 r
  exact PySem.W.mg_lcm_v (c := 1) (by decide) (by decide) (by decide) (by decide) ⟨.int _, H, I.tok _, ⟨_, rfl⟩, q⟩
/-- x not in range(..) -/
theorem op_notIn_rng : OpR X (compareOp .NotIn) (fun x y H Q => ∃ i a lo hi, x = V.int i ∧ y = V.ref a ∧ H a = some (.rng lo hi) ∧ Q (.bl (!decide (lo ≤ i ∧ i < hi))) H) := by
  intro pins s σ H x y v u Q I rx ry h
  obtain ⟨i, a, lo, hi, rfl, rfl, ha, q⟩ := h
  obtain ⟨k, rfl⟩ := rx
  obtain rfl : u = Value.ref a := ry
  obtain ⟨t1, t2, t3, ho⟩ := I.hok a _ ha
  show wpAny _ _ (do return Value.bool (!(← contains (Value.ref a) (Value.int i k)))) _ _ s
  refine wpAny_bind (wpAny_contains_slot (T := "range") ⟨_, ho, rfl⟩ F.slot_range_contains (call_meets F.slot_range_contains ⟨_, ho, rfl⟩ F.entry_range_contains (F.args_range_contains_2 _ _) (q_contains a lo hi i t1 t2 t3 k) ⟨ho, ?_⟩))
  refine wpAny_truthy_bool (wpAny_pure ⟨.bl _, H, I, rfl, ?_⟩)
  rw [place1]
  exact q
end
end Tx
set_option Elab.async false
set_option linter.all false
set_option maxRecDepth 100000
set_option maxHeartbeats 4000000
/-! Chains of three, walks over lists or tuples, comprehensions as maps. -/
namespace Tx
open PySem PySem.Spec PyProof.Rows L2
section
variable {X : Cx} {a b c d e l : Expr} {ta tb tc td tl : TE} {pos : Pos} {tg : Expr}
/-- a op b op' c op'' d -/
def tChain3 (r r' r'' : R2) (ta tb tc td : TE) : TE := fun σ H Q => ta σ H fun x H1 => tb σ H1 fun y H2 => r x y H2 fun z H3 => ∃ k, z = .bl k ∧
  (if k = true then tc σ H3 fun u H4 => r' y u H4 fun z' H5 => ∃ k', z' = .bl k' ∧ (if k' = true then td σ H5 fun v H6 => r'' u v H6 Q else Q (.bl false) H5) else Q (.bl false) H3)
theorem pe_chain3 {op op' op'' : CmpOp} {r r' r'' : R2} (h1 : OpR X (compareOp op) r) (h2 : OpR X (compareOp op') r') (h3 : OpR X (compareOp op'') r'') (ha : PE X a ta) (hb : PE X b tb) (hc : PE X c tc) (hd : PE X d td)
    (hm : lastMarks [op, op', op''] [b, c, d] = false := by with_unfolding_all rfl) : PE X (.Compare a [op, op', op''] [b, c, d] pos) (tChain3 r r' r'' ta tb tc td) := by
  refine ⟨fun pins s σ H Q I h => ?_⟩
  refine Compare_chain (thn (ha.run pins s σ H _ I h) fun v s1 ⟨x, H1, I1, r1, q1⟩ => ?_) hm
  refine chain_link (thn (hb.run pins s1 σ H1 _ I1 q1) fun u s2 ⟨y, H2, I2, r2, q2⟩ => ?_)
  refine thn (h1 pins s2 σ H2 x y v u _ I2 r1 r2 q2) fun z s3 ⟨zv, H3, I3, r3, k, ek, q3⟩ => ?_
  subst ek
  cases r3
  refine wpAny_truthy_bool ?_
  cases k with
  | false => exact ite_ff ⟨.bl false, H3, I3, rfl, q3⟩
  | true =>
    refine ite_tt (chain_link (thn (hc.run pins s3 σ H3 _ I3 q3) fun v4 s4 ⟨y4, H4, I4, r4, q4⟩ => ?_))
    refine thn (h2 pins s4 σ H4 y y4 u v4 _ I4 r2 r4 q4) fun z' s5 ⟨zv', H5, I5, r5, k', ek', q5⟩ => ?_
    subst ek'
    cases r5
    refine wpAny_truthy_bool ?_
    cases k' with
    | false => exact ite_ff ⟨.bl false, H5, I5, rfl, q5⟩
    | true => exact ite_tt (chain_last (thn (hd.run pins s5 σ H5 _ I5 q5) fun v6 s6 ⟨y6, H6, I6, r6, q6⟩ => h3 pins s6 σ H6 y4 y6 v4 v6 Q I6 r4 r6 q6))
/-- a list or a tuple walked -/
def iSeq (K : PySem.W.Frag) (tl : TE) : TI := fun σ H R => tl σ H fun x H1 => ∃ a, x = .ref a ∧ (((∃ xs, SqL K H1 a xs) ∧ R (Itl K a) H1) ∨ ((∃ xs, SqT K H1 a xs) ∧ R (Itt K a) H1))
theorem pi_seq (hl : PE X l tl) : PI X tg l (iSeq X.K tl) := by
  refine ⟨fun pins s σ H R I h => ?_⟩
  refine thn (hl.run pins s σ H _ I h) fun v s1 ⟨x, H1, I1, r1, at0, e0, q1⟩ => ?_
  have old : ∀ b ∈ [s1.heap.objs.size], FpOk X pins H1 b := fun b hb => by
    rw [List.mem_singleton.mp hb]
    exact I1.fpOk (Nat.le_refl _) I1.fresh
  have grown : ∀ o : Obj, Inv X pins σ H1 { s1 with heap := s1.heap.push o } := fun o => I1.kept (t' := s1.toks) fun b u eb => Heap.get?_push_of_some _ eb
  subst e0
  cases r1
  rcases q1 with ⟨⟨xs, hx⟩, q⟩ | ⟨⟨xs, hx⟩, q⟩
  · obtain ⟨its, _, pl, _⟩ := I1.list hx
    exact wpAny_pyIter_list pl.isList ⟨s1.heap.objs.size, [s1.heap.objs.size], _, Itl X.K at0, H1, rfl, grown _, turn_list at0 s1.heap.objs.size, ⟨_, Heap.get?_push_size _ rfl, rfl, rfl⟩, old, q⟩
  · obtain ⟨its, _, pt, _⟩ := I1.tuple hx
    exact wpAny_pyIter_tuple (show s1.heap.IsTuple at0 its.toArray from pt) ⟨s1.heap.objs.size, [s1.heap.objs.size], _, Itt X.K at0, H1, rfl, grown _, turn_tuple at0 s1.heap.objs.size, ⟨_, Heap.get?_push_size _ rfl, rfl, rfl⟩, old, q⟩
end
/-! ### comprehensions that map -/
section
variable {K : PySem.W.Frag} {a D : Addr} {vs : List V} {g : TG} {te : TE} {ws : List Nat} {σ : L2.St} {H1 : Hp} {Qd : Hp → Prop} {α β : Type} {R : Rel α} {S : Rel β} {X : List Addr} {ds : List α} {f : α → β}
/-- where such a comprehension stands after i items -/
def MapAt (H1 : Hp) (D : Addr) (S : Rel β) (X : List Addr) (ds : List α) (f : α → β) (i : Nat) (H : Hp) : Prop := Same H1 H ∧ ∃ acc, H D = some (.lst acc) ∧ Paired (S (hid (D :: X) H)) acc ((ds.take i).map f)
/-- one item of it -/
def MapStep (H1 : Hp) (D : Addr) (R : Rel α) (S : Rel β) (X : List Addr) (vs : List V) (ds : List α) (f : α → β) (g : TG) (te : TE) (σ : L2.St) (ws : List Nat) : Prop :=
  ∀ (i : Nat) (v : V) (d : α) (H2 : Hp) (Qe : V → Hp → Prop), vs[i]? = some v → ds[i]? = some d → Same H1 H2 → Lives (D :: X) H2 → R (hid (D :: X) H2) v d →
    (∀ y H5, Same H2 H5 → S (hid (D :: X) H5) y (f d) → Qe y H5) → g v (wipe σ ws) H2 fun σ2 H3 => wipe σ2 ws = wipe σ ws ∧ te σ2 H3 Qe
theorem MapAt.start (hD : H1 D = none) : MapAt H1 D S X ds f 0 (upd H1 D (.lst [])) := ⟨sameU hD, [], upd_same, .nil⟩
theorem MapAt.turn (hS : Mono S) (hR : Mono R) (lx : Lives X H1) (hD : H1 D = none) (hp : Paired (R (hid X H1)) vs ds) (hl : ds.length ≤ sizeLine) (st : MapStep H1 D R S X vs ds f g te σ ws) (i : Nat) (v : V) (H : Hp) (hi : vs[i]? = some v) (hP : MapAt H1 D S X ds f i H) :
    g v (wipe σ ws) H fun σ2 H2 => wipe σ2 ws = wipe σ ws ∧ tYes σ2 H2 fun b H3 => if b = true then te σ2 H3 fun y H4 => ∃ acc, H4 D = some (.lst acc) ∧ acc.length < sizeLine ∧ MapAt H1 D S X ds f (i + 1) (upd H4 D (.lst (acc ++ [y]))) else MapAt H1 D S X ds f (i + 1) H3 := by
  obtain ⟨s1, acc, eD, pa⟩ := hP
  obtain ⟨d, hd, rd⟩ := paired_at hp hi
  have h1 : Same (hid X H1) (hid (D :: X) H) := (hid_new hD).trans s1.hid
  refine st i v d H _ hi hd s1 ((lx.same s1).cons eD) (hR.up h1 rd) fun y H5 s5 hy => ?_
  have e5 := s5 _ _ eD
  have hlt : i < ds.length := (List.getElem?_eq_some_iff.mp hd).1
  refine ⟨acc, e5, ?_, ?_, acc ++ [y], upd_same, ?_⟩
  · rw [paired_len pa, List.length_map, List.length_take]
    omega
  · intro b o e
    rw [upd_ne (ne_of_none e hD)]
    exact s5 _ _ (s1 _ _ e)
  · have m : Same (hid (D :: X) H5) (hid (D :: X) (upd H5 D (.lst (acc ++ [y])))) := hid_upd List.mem_cons_self
    have e : (ds.take (i + 1)).map f = (ds.take i).map f ++ [f d] := by
      rw [List.take_add_one, hd, List.map_append]
      rfl
    rw [e]
    exact paired_app (paired_mono (fun _ _ => hS.up (s5.hid.trans m)) pa) (.cons (hS.up m hy) .nil)
theorem MapAt.done (hS : Mono S) (lx : Lives X H1) (hD : H1 D = none) {n : Nat} (hn : n = ds.length) {H : Hp} (hP : MapAt H1 D S X ds f n H) : Same H1 H ∧ dList S (hid X H) (.ref D) (ds.map f) := by
  obtain ⟨s1, acc, eD, pa⟩ := hP
  subst hn
  rw [List.take_length] at pa
  exact ⟨s1, D, acc, rfl, hid_some.mpr ⟨lx.out hD, eD⟩, paired_mono (fun _ _ => hS.up hid_tail) pa⟩
theorem lc_map (hS : Mono S) (hR : Mono R) (lx : Lives X H1) (hD : H1 D = none) (ha : hid X H1 a = some (.lst vs)) (hp : Paired (R (hid X H1)) vs ds) (hl : ds.length ≤ sizeLine) (st : MapStep H1 D R S X vs ds f g te σ ws)
    (dn : ∀ H', Same H1 H' → dList S (hid X H') (.ref D) (ds.map f) → Qd H') :
    ∃ W : Nat → Nat → Hp → Prop, (∃ m, W 0 m (upd H1 D (.lst []))) ∧ ∀ i m H, W i m H →
      ((Itl K a).stop i H ∧ Qd H) ∨ ((Itl K a).go i H ∧ ∃ Nx : Hp → Prop, (∀ H', Nx H' → ∃ m', m' < m ∧ W (i + 1) m' H') ∧ ∀ x H', (Itl K a).yld i H x H' → g x (wipe σ ws) H' fun σ2 H2 => wipe σ2 ws = wipe σ ws ∧ tYes σ2 H2 fun b H3 =>
        if b = true then te σ2 H3 fun y H4 => ∃ acc, H4 D = some (.lst acc) ∧ acc.length < sizeLine ∧ Nx (upd H4 D (.lst (acc ++ [y]))) else Nx H3) :=
  lc_list (K := K) (xs := vs) (Qd := Qd) (MapAt H1 D S X ds f) (.start hD) (fun i H _ h => SqL.of (h.1 _ _ (hid_at ha))) (fun i x H hi h => MapAt.turn hS hR lx hD hp hl st i x H hi h)
    fun H h => let ⟨s, z⟩ := MapAt.done hS lx hD (paired_len hp) h; dn H s z
theorem lc_mapT (hS : Mono S) (hR : Mono R) (lx : Lives X H1) (hD : H1 D = none) (ha : hid X H1 a = some (.tup vs)) (hp : Paired (R (hid X H1)) vs ds) (hl : ds.length ≤ sizeLine) (st : MapStep H1 D R S X vs ds f g te σ ws)
    (dn : ∀ H', Same H1 H' → dList S (hid X H') (.ref D) (ds.map f) → Qd H') :
    ∃ W : Nat → Nat → Hp → Prop, (∃ m, W 0 m (upd H1 D (.lst []))) ∧ ∀ i m H, W i m H →
      ((Itt K a).stop i H ∧ Qd H) ∨ ((Itt K a).go i H ∧ ∃ Nx : Hp → Prop, (∀ H', Nx H' → ∃ m', m' < m ∧ W (i + 1) m' H') ∧ ∀ x H', (Itt K a).yld i H x H' → g x (wipe σ ws) H' fun σ2 H2 => wipe σ2 ws = wipe σ ws ∧ tYes σ2 H2 fun b H3 =>
        if b = true then te σ2 H3 fun y H4 => ∃ acc, H4 D = some (.lst acc) ∧ acc.length < sizeLine ∧ Nx (upd H4 D (.lst (acc ++ [y]))) else Nx H3) :=
  lc_tup (K := K) (xs := vs) (Qd := Qd) (MapAt H1 D S X ds f) (.start hD) (fun i H _ h => SqT.of (h.1 _ _ (hid_at ha))) (fun i x H hi h => MapAt.turn hS hR lx hD hp hl st i x H hi h)
    fun H h => let ⟨s, z⟩ := MapAt.done hS lx hD (paired_len hp) h; dn H s z
/-- over a range -/
theorem lc_mapR {n : Nat} {f : Nat → β} (hS : Mono S) (lx : Lives X H1) (hD : H1 D = none) (hl : n ≤ sizeLine) (st : MapStep H1 D dNat S X ((List.range n).map fun (i : Nat) => V.int (i : Int)) (List.range n) f g te σ ws)
    (dn : ∀ H', Same H1 H' → dList S (hid X H') (.ref D) ((List.range n).map f) → Qd H') :
    ∃ W : Nat → Nat → Hp → Prop, (∃ m, W 0 m (upd H1 D (.lst []))) ∧ ∀ i m H, W i m H →
      ((Itr 0 n).stop i H ∧ Qd H) ∨ ((Itr 0 n).go i H ∧ ∃ Nx : Hp → Prop, (∀ H', Nx H' → ∃ m', m' < m ∧ W (i + 1) m' H') ∧ ∀ x H', (Itr 0 n).yld i H x H' → g x (wipe σ ws) H' fun σ2 H2 => wipe σ2 ws = wipe σ ws ∧ tYes σ2 H2 fun b H3 =>
        if b = true then te σ2 H3 fun y H4 => ∃ acc, H4 D = some (.lst acc) ∧ acc.length < sizeLine ∧ Nx (upd H4 D (.lst (acc ++ [y]))) else Nx H3) := by
  have hp : Paired (dNat (hid X H1)) ((List.range n).map fun (i : Nat) => V.int (i : Int)) (List.range n) := paired_of_nat _
  refine lc_range (lo := 0) (n := n) (Qd := Qd) (MapAt H1 D S X (List.range n) f) (.start hD) (fun i H hi h => ?_) fun H h => ?_
  · have e : ((List.range n).map fun (i : Nat) => V.int (i : Int))[i]? = some (.int (0 + (i : Int))) := by
      rw [List.getElem?_map, List.getElem?_range hi, Int.zero_add]
      rfl
    exact MapAt.turn hS mNat lx hD hp (by rw [List.length_range]; exact hl) st i _ H e h
  · obtain ⟨s, z⟩ := MapAt.done hS lx hD List.length_range.symm h
    exact dn H s z
end
end Tx
set_option Elab.async false
set_option linter.all false
set_option maxRecDepth 100000
set_option maxHeartbeats 4000000
namespace Tx
open PySem PySem.Spec PyProof.Rows L2
/-! ### isinstance in short -/
section
variable {K : PySem.W.Frag}
theorem kII : PySem.W.kitOne K (.type "int") (.type "int") = some true := kit_ty (by decide +kernel)
theorem kIB : PySem.W.kitOne K (.type "int") (.type "bool") = some false := kit_ty (by decide +kernel)
theorem kLL : PySem.W.kitOne K (.type "list") (.type "list") = some true := kit_ty (by decide +kernel)
theorem kTT : PySem.W.kitOne K (.type "tuple") (.type "tuple") = some true := kit_ty (by decide +kernel)
end
theorem dT {Q : VK} {H : Hp} {p : Prop} [Decidable p] (h : p) (q : Q (.bl true) H) : Q (.bl (decide p)) H := by
  rw [decide_eq_true h]
  exact q
theorem dF {Q : VK} {H : Hp} {p : Prop} [Decidable p] (h : ¬ p) (q : Q (.bl false) H) : Q (.bl (decide p)) H := by
  rw [decide_eq_false h]
  exact q
theorem kit_lt_l {K : PySem.W.Frag} : PySem.W.kitAny K (.type "list") [.type "list", .type "tuple"] = some true := kitAny_cons (b := true) (kit_ty (by decide +kernel)) (fun z => by cases z) fun _ => rfl
theorem kit_lt_t {K : PySem.W.Frag} : PySem.W.kitAny K (.type "tuple") [.type "list", .type "tuple"] = some true := kitAny_cons (b := false) (kit_ty (by decide +kernel)) (fun _ => kitAny_cons (b := true) (kit_ty (by decide +kernel)) (fun z => by cases z) fun _ => rfl) fun z => by cases z
section
variable {P : Program} {w : World} {K : PySem.W.Frag} {mg : Str → Option Value} {base : Heap}
/-! ### is_integer, is_count, is_list -/
theorem sc_is_integer : FnScope ["value"] ["value"] (defScope s_is_integer) := ⟨rfl, rfl, rfl, by decide +kernel, rfl, by decide +kernel, by decide +kernel⟩
def sp_is_integer : Sp := fun vs H Q _ => ∃ i : Int, vs = [.int i] ∧ Q (.bl true) H
theorem c_is_integer (T : Tt K mg) : Ca P w K mg base 1 "is_integer" ["value"] sp_is_integer := by
  obtain ⟨fd, F⟩ := T.e_is_integer
  refine Ca.mk' F T.g_is_integer (okD F sc_is_integer (fun vs H Q E h => ?_) fun cdv A outer s H vs Q E hr h => ?_) fun _ _ _ _ _ _ us hl => match us, hl with | [_], _ => rfl
  · obtain ⟨i, rfl, _⟩ := h
    rfl
  · obtain ⟨i, rfl, q⟩ := h
    refine ⟨_, pss_one (ps_ret (pe_and (pe_callB call_isi (by rfl) T.b_isinstance (by decide +kernel) (pa_cons (pv 0) (pa_cons (pe_bltn (v := .ty "int") (by rfl) T.b_int (by decide +kernel) rfl) pa_nil)))
      (pe_one (pe_not (pe_callB call_isi (by rfl) T.b_isinstance (by decide +kernel) (pa_cons (pv 0) (pa_cons (pe_bltn (v := .ty "bool") (by rfl) T.b_bool (by decide +kernel) rfl) pa_nil))))))), ?_⟩
    exact ⟨_, rfl, .int i, .ty "int", _, _, true, rfl, .ty _, .base (.int i), kII, true, rfl, iteT ⟨_, rfl, .int i, .ty "bool", _, _, false, rfl, .ty _, .base (.int i), kIB, false, rfl, q⟩⟩
theorem sc_is_count : FnScope ["value"] ["value"] (defScope s_is_count) := ⟨rfl, rfl, rfl, by decide +kernel, rfl, by decide +kernel, by decide +kernel⟩
def sp_is_count : Sp := fun vs H Q _ => ∃ i : Int, vs = [.int i] ∧ 0 ≤ i ∧ Q (.bl true) H
theorem c_is_count (T : Tt K mg) : Ca P w K mg base 2 "is_count" ["value"] sp_is_count := by
  obtain ⟨fd, F⟩ := T.e_is_count
  refine Ca.mk' F T.g_is_count (okD F sc_is_count (fun vs H Q E h => ?_) fun cdv A outer s H vs Q E hr h => ?_) fun _ _ _ _ _ _ us hl => match us, hl with | [_], _ => rfl
  · obtain ⟨i, rfl, _⟩ := h
    rfl
  · obtain ⟨i, rfl, h0, q⟩ := h
    refine ⟨_, pss_one (ps_ret (pe_and (pe_c (c_is_integer T) hr (by rfl) (pa_cons (pv 0) pa_nil)) (pe_one (pe_cmpR op_ge (pv 0) pe_int (nomark _))))), ?_⟩
    exact ⟨_, rfl, i, rfl, true, rfl, iteT ⟨_, rfl, i, 0, rfl, rfl, dT (Q := Q) h0 q⟩⟩
theorem sc_is_list : FnScope ["value"] ["value"] (defScope s_is_list) := ⟨rfl, rfl, rfl, by decide +kernel, rfl, by decide +kernel, by decide +kernel⟩
def sp_is_list : Sp := fun vs H Q _ => ∃ (a : Addr) (xs : List V), vs = [.ref a] ∧ (H a = some (.lst xs) ∨ H a = some (.tup xs)) ∧ ∀ H', Same H H' → Q (.bl true) H'
theorem c_is_list (T : Tt K mg) : Ca P w K mg base 1 "is_list" ["value"] sp_is_list := by
  obtain ⟨fd, F⟩ := T.e_is_list
  refine Ca.mk' F T.g_is_list (okD F sc_is_list (fun vs H Q E h => ?_) fun cdv A outer s H vs Q E hr h => ?_) fun _ _ _ _ _ _ us hl => match us, hl with | [_], _ => rfl
  · obtain ⟨a, xs, rfl, _⟩ := h
    rfl
  · obtain ⟨a, xs, rfl, ha, q⟩ := h
    refine ⟨_, pss_one (ps_ret (pe_callB call_isiT (by rfl) T.b_isinstance (by decide +kernel) (pa_cons (pv 0) (pa_cons (pe_tup (pa_cons (pe_bltn (v := .ty "list") (by rfl) T.b_list (by decide +kernel) rfl) (pa_cons (pe_bltn (v := .ty "tuple") (by rfl) T.b_tuple (by decide +kernel) rfl) pa_nil))) pa_nil)))), ?_⟩
    refine ⟨_, rfl, (by show 2 ≤ sizeLine; decide), fun p hp => ?_⟩
    have pc : Paired ClsV [.ty "list", .ty "tuple"] [.type "list", .type "tuple"] := .cons (.ty _) (.cons (.ty _) .nil)
    rcases ha with ha | ha
    · exact ⟨.ref a, p, _, .type "list", _, true, rfl, upd_same, pc, .base (.lst (sameU hp _ _ ha)), kit_lt_l, q _ (sameU hp)⟩
    · exact ⟨.ref a, p, _, .type "tuple", _, true, rfl, upd_same, pc, .base (.tup (sameU hp _ _ ha)), kit_lt_t, q _ (sameU hp)⟩
/-! ### common_part -/
theorem Tt.gcd_ (T : Tt K mg) : mg "gcd" = some (.builtin "math.gcd") := T.glo (He.eqO_ok (He.ba T.ex).1)
theorem Tt.lcm_ (T : Tt K mg) : mg "lcm" = some (.builtin "math.lcm") := T.glo (He.eqO_ok (He.ba (He.ba T.ex).2).1)
theorem sc_common_part : FnScope ["one", "other"] ["one", "other"] (defScope s_common_part) := ⟨rfl, rfl, rfl, by decide +kernel, rfl, by decide +kernel, by decide +kernel⟩
def sp_common_part : Sp := fun vs H Q _ => ∃ a b : Int, vs = [.int a, .int b] ∧ Q (.int ((Nat.gcd a.natAbs b.natAbs : Nat) : Int)) H
theorem c_common_part (T : Tt K mg) : Ca P w K mg base 1 "common_part" ["one", "other"] sp_common_part := by
  obtain ⟨fd, F⟩ := T.e_common_part
  refine Ca.mk' F T.g_common_part (okD F sc_common_part (fun vs H Q E h => ?_) fun cdv A outer s H vs Q E hr h => ?_) fun _ _ _ _ _ _ us hl => match us, hl with | [_, _], _ => rfl
  · obtain ⟨a, b, rfl, _⟩ := h
    rfl
  · obtain ⟨a, b, rfl, q⟩ := h
    refine ⟨_, pss_one (ps_ret (pe_callBfun cr_gcd (by rfl) T.gcd_ (pa_cons (pv 0) (pa_cons (pv 1) pa_nil)))), ?_⟩
    exact ⟨_, rfl, _, rfl, a, b, rfl, q⟩
end
end Tx
set_option Elab.async false
set_option linter.all false
set_option maxRecDepth 100000
set_option maxHeartbeats 4000000
namespace Tx
open PySem PySem.Spec PyProof.Rows L2
/-! ### Ratios -/
def rFs (i : Int) : List (Str × V) := putF "own_bottom" (.int 1) (putF "own_top" (.int i) [])
theorem rFs_top (i : Int) : (rFs i).lookup ("own_top" : Str) = some (.int i) := by
  unfold rFs
  rw [lookup_putF, if_neg (by decide +kernel), lookup_putF, if_pos rfl]
theorem rFs_bottom (i : Int) : (rFs i).lookup ("own_bottom" : Str) = some (.int 1) := by
  unfold rFs
  rw [lookup_putF, if_pos rfl]
def dRat (K : PySem.W.Frag) : Rel Int := fun G v i => ∃ (a dx : Addr), v = .ref a ∧ G a = some (.ins (He.ga K "Ratio") dx (rFs i))
theorem mRat (K : PySem.W.Frag) : Mono (dRat K) := ⟨fun s ⟨a, dx, e, h⟩ => ⟨a, dx, e, s _ _ h⟩⟩
/-- an int or a Ratio of it -/
def dNum (K : PySem.W.Frag) : Rel Int := fun G v i => v = .int i ∨ dRat K G v i
theorem mNum (K : PySem.W.Frag) : Mono (dNum K) := ⟨fun s h => h.imp id ((mRat K).up s)⟩
section
variable {P : Program} {w : World} {K : PySem.W.Frag} {mg : Str → Option Value} {base : Heap}
theorem Tt.ins (T : Tt K mg) {H : Hp} {a dx : Addr} {fs : List (Str × V)} (e : H a = some (.ins (He.ga K "Ratio") dx fs)) : TyX K H (.ref a) (.ref (He.ga K "Ratio")) := by
  have x1 := He.ba (He.ba T.ex).2
  have x2 := He.ba x1.2
  have x3 := He.ba x2.2
  have x4 := He.ba x3.2
  have x5 := He.ba x4.2
  have y := He.ba x2.1
  exact .base (.ins e T.cl_Ratio (He.eqO_ok y.1) (of_decide_eq_true x4.1) (of_decide_eq_true x5.1) (of_decide_eq_true y.2))
theorem Tt.insP (T : Tt K mg) {H : Hp} {a dx : Addr} {fs : List (Str × V)} (e : H a = some (.ins (He.ga K "Pairs") dx fs)) : TyX K H (.ref a) (.ref (He.ga K "Pairs")) := by
  have x1 := He.ba (He.ba T.ex).2
  have x2 := He.ba x1.2
  have x3 := He.ba x2.2
  have x4 := He.ba x3.2
  have x5 := He.ba x4.2
  have y := He.ba x3.1
  exact .base (.ins e T.cl_Pairs (He.eqO_ok y.1) (of_decide_eq_true x4.1) (of_decide_eq_true x5.1) (of_decide_eq_true y.2))
theorem Tt.kIR (T : Tt K mg) : PySem.W.kitOne K (.type "int") (.ref (He.ga K "Ratio")) = some false := of_decide_eq_true (He.ba (He.ba (He.ba (He.ba (He.ba (He.ba (He.ba T.ex).2).2).2).2).2).2).1
theorem Tt.kIK (T : Tt K mg) : PySem.W.kitOne K (.type "int") (.ref (He.ga K "Known")) = some false := of_decide_eq_true (He.ba (He.ba (He.ba (He.ba (He.ba (He.ba (He.ba (He.ba T.ex).2).2).2).2).2).2).2).1
theorem Tt.kRR (T : Tt K mg) : PySem.W.kitOne K (.ref (He.ga K "Ratio")) (.ref (He.ga K "Ratio")) = some true := of_decide_eq_true (He.ba (He.ba (He.ba (He.ba (He.ba (He.ba (He.ba (He.ba (He.ba T.ex).2).2).2).2).2).2).2).2).1
theorem Tt.kPP (T : Tt K mg) : PySem.W.kitOne K (.ref (He.ga K "Pairs")) (.ref (He.ga K "Pairs")) = some true := of_decide_eq_true (He.ba (He.ba (He.ba (He.ba (He.ba (He.ba (He.ba (He.ba (He.ba T.ex).2).2).2).2).2).2).2).2).2
theorem sc_Ratio_init : FnScope ["self", "top", "bottom", "common"] ["self", "top", "bottom"] (defScope s_Ratio_init) := ⟨rfl, rfl, rfl, by decide +kernel, rfl, by decide +kernel, by decide +kernel⟩
def sp_Ratio_init (K : PySem.W.Frag) : Sp := fun vs H Q _ => ∃ (p dx : Addr) (i : Int), vs = [.ref p, .int i, .int 1] ∧ H p = some (.ins (He.ga K "Ratio") dx []) ∧
  ∀ H', (∀ b o, H b = some o → b ≠ p → H' b = some o) → H' p = some (.ins (He.ga K "Ratio") dx (rFs i)) → Q .non H'
theorem ok_Ratio_init (T : Tt K mg) {f : Addr} {fd : FuncData} (F : FnP K d_Ratio_init f fd) : FnOk P w K mg base CX0 3 f fd ["self", "top", "bottom"] (sp_Ratio_init K) := by
  refine okD F sc_Ratio_init (fun vs H Q E h => ?_) fun cdv A outer s H vs Q E hr h => ?_
  · obtain ⟨p, dx, i, rfl, _⟩ := h
    rfl
  · obtain ⟨p, dx, i, rfl, hp, q⟩ := h
    refine ⟨_, pss_cons (ps_if (pt_not (pt_val (pe_c (c_is_integer T) (hr.mono (by decide)) (by rfl) (pa_cons (pv 1) pa_nil)))) pss_never pss_nil)
      (pss_cons (ps_if (PW.pt (pw_or (pt_not (pt_val (pe_c (c_is_integer T) (hr.mono (by decide)) (by rfl) (pa_cons (pv 2) pa_nil)))) (pw_or1 (pt_cmpR op_eq (pv 2) pe_int (nomark _))))) pss_never pss_nil)
      (pss_cons (ps_set (i := 3) sc_Ratio_init.nd rfl (.inl rfl) (pe_c (c_common_part T) (hr.mono (by decide)) (by rfl) (pa_cons (pv 1) (pa_cons (pv 2) pa_nil))))
      (pss_cons (ps_if (pt_cmpR op_lt (pv 2) pe_int (nomark _)) (pss_one (ps_set (i := 3) sc_Ratio_init.nd rfl (.inl rfl) (pe_op op_sub pe_int (pv 3)))) pss_nil)
      (pss_cons (ps_fld (pv 0) (pe_op op_fdivN (pv 1) (pv 3)) rfl)
      (pss_one (ps_fld (pv 0) (pe_op op_fdivN (pv 2) (pv 3)) rfl)))))), ?_⟩
    refine ⟨_, rfl, i, rfl, true, rfl, iteF ⟨_, rfl, 1, rfl, true, rfl, iteF ⟨_, rfl, rfl, false, rfl, iteF ⟨_, rfl, _, rfl, i, 1, rfl, ?_⟩⟩⟩⟩
    rw [show Nat.gcd i.natAbs (Int.natAbs 1) = 1 from Nat.gcd_one_right _]
    refine ⟨_, rfl, 1, 0, rfl, rfl, false, rfl, iteF ⟨_, rfl, _, rfl, i, 1, rfl, rfl, ⟨by decide, by decide⟩, ?_⟩⟩
    refine ⟨_, rfl, p, _, dx, _, rfl, hp, T.cl_Ratio, T.n_own_top, (by show 0 < 1000; decide), ?_⟩
    refine ⟨_, rfl, _, rfl, 1, 1, rfl, rfl, ⟨by decide, by decide⟩, _, rfl, p, _, dx, _, rfl, upd_same, T.cl_Ratio, T.n_own_bottom, (by show 1 < 1000; decide), ?_⟩
    refine q _ (fun b o e hb => ?_) ?_
    · rw [upd_ne hb, upd_ne hb]
      exact e
    · rw [upd_same]
      show some (HO.ins _ dx (putF "own_bottom" (.int (Int.fdiv 1 1)) (putF "own_top" (.int (Int.fdiv i 1)) []))) = _
      rw [Int.fdiv_one, Int.fdiv_one]
      rfl
theorem b_Ratio_init {f : Addr} {fd : FuncData} (F : FnP K d_Ratio_init f fd) : ∃ ds, Vals [V.int 1] ds ∧ Binds K fd ["self", "top", "bottom"] ds :=
  FunD.binds1 (F := F) 2 0 (List.cons_ne_nil _ _) rfl fun _ _ _ _ _ _ _ us its h1 h2 => match us, its, h1, h2 with | [_, _], [_], _, _ => ⟨_, rfl, rfl⟩
/-! ### is_number, ratio_of -/
theorem sc_is_number : FnScope ["value"] ["value"] (defScope s_is_number) := ⟨rfl, rfl, rfl, by decide +kernel, rfl, by decide +kernel, by decide +kernel⟩
def sp_is_number : Sp := fun vs H Q _ => ∃ i : Int, vs = [.int i] ∧ Q (.bl true) H
theorem c_is_number (T : Tt K mg) : Ca P w K mg base 2 "is_number" ["value"] sp_is_number := by
  obtain ⟨fd, F⟩ := T.e_is_number
  refine Ca.mk' F T.g_is_number (okD F sc_is_number (fun vs H Q E h => ?_) fun cdv A outer s H vs Q E hr h => ?_) fun _ _ _ _ _ _ us hl => match us, hl with | [_], _ => rfl
  · obtain ⟨i, rfl, _⟩ := h
    rfl
  · obtain ⟨i, rfl, q⟩ := h
    refine ⟨_, pss_one (ps_ret (pe_or (pe_c (c_is_integer T) hr (by rfl) (pa_cons (pv 0) pa_nil)) (pe_one (pe_callB call_isi (by rfl) T.b_isinstance (by decide +kernel) (pa_cons (pv 0) (pa_cons (pe_glob (by rfl) T.g_Ratio (show RelV (.ref _) _ from rfl)) pa_nil)))))), ?_⟩
    exact ⟨_, rfl, i, rfl, true, rfl, iteT q⟩
theorem sc_ratio_of : FnScope ["number"] ["number"] (defScope s_ratio_of) := ⟨rfl, rfl, rfl, by decide +kernel, rfl, by decide +kernel, by decide +kernel⟩
def sp_ratio_of (K : PySem.W.Frag) : Sp := fun vs H Q _ => ∃ (X : List Addr) (v : V) (i : Int), vs = [v] ∧ Lives X H ∧ dNum K (hid X H) v i ∧ ∀ H' u, Same H H' → dRat K (hid X H') u i → Q u H'
theorem c_ratio_of (T : Tt K mg) : Ca P w K mg base 5 "ratio_of" ["number"] (sp_ratio_of K) := by
  obtain ⟨fd, F⟩ := T.e_ratio_of
  obtain ⟨fdR, FR⟩ := T.e_Ratio_init
  obtain ⟨ds, hd, hb⟩ := b_Ratio_init FR
  refine Ca.mk' F T.g_ratio_of (okD F sc_ratio_of (fun vs H Q E h => ?_) fun cdv A outer s H vs Q E hr h => ?_) fun _ _ _ _ _ _ us hl => match us, hl with | [_], _ => rfl
  · obtain ⟨X, v, i, rfl, _⟩ := h
    rfl
  · obtain ⟨X, v, i, rfl, lx, hv, q⟩ := h
    refine ⟨_, pss_one (ps_ret (pe_ifExp (pt_val (pe_callB call_isi (by rfl) T.b_isinstance (by decide +kernel) (pa_cons (pv 0) (pa_cons (pe_glob (by rfl) T.g_Ratio (show RelV (.ref _) _ from rfl)) pa_nil)))) (pv 0)
      (pe_make T.m_Ratio (ok_Ratio_init T FR) hr (by rfl) T.g_Ratio hb hd pass0 (pa_cons (pv 0) pa_nil)))), ?_⟩
    rcases hv with rfl | ⟨a, dx, rfl, ha⟩
    · refine ⟨_, rfl, .int i, .ref _, _, _, false, rfl, .own _, .base (.int i), T.kIR, false, rfl, iteF ⟨_, rfl, fun x dx nx ndx nex => ?_⟩⟩
      refine ⟨x, dx, i, rfl, upd_same, fun H' k e => ⟨rfl, ?_⟩⟩
      exact q _ _ (Same.made nx ndx k) ⟨x, dx, rfl, hid_some.mpr ⟨lx.out nx, e⟩⟩
    · exact ⟨_, rfl, .ref a, .ref _, _, _, true, rfl, .own _, T.ins (hid_at ha), T.kRR, true, rfl, iteT ⟨_, rfl, q H _ (Same.refl H) ⟨a, dx, rfl, ha⟩⟩⟩
/-! ### ratios_of -/
theorem sc_ratios_of : FnScope ["row", "number"] ["row"] (defScope s_ratios_of) := ⟨rfl, rfl, rfl, by decide +kernel, rfl, by decide +kernel, by decide +kernel⟩
def sp_ratios_of (K : PySem.W.Frag) : Sp := fun vs H Q _ => ∃ (X : List Addr) (v : V) (ns : List Int), vs = [v] ∧ Lives X H ∧ dList (dNum K) (hid X H) v ns ∧ ns.length ≤ sizeLine ∧ ∀ H' u, Same H H' → dList (dRat K) (hid X H') u ns → Q u H'
theorem c_ratios_of (T : Tt K mg) : Ca P w K mg base 6 "ratios_of" ["row"] (sp_ratios_of K) := by
  obtain ⟨fd, F⟩ := T.e_ratios_of
  refine Ca.mk' F T.g_ratios_of (okD F sc_ratios_of (fun vs H Q E h => ?_) fun cdv A outer s H vs Q E hr h => ?_) fun _ _ _ _ _ _ us hl => match us, hl with | [_], _ => rfl
  · obtain ⟨X, v, i, rfl, _⟩ := h
    rfl
  · obtain ⟨X, v, ns, rfl, lx, ⟨a, vs, rfl, ha, hp⟩, hl, q⟩ := h
    refine ⟨_, pss_one (ps_ret (pe_lc (own := [("number", 1)]) (g := gName 1) (tt := tYes) rfl sc_ratios_of.nd (pi_list (pv 0)) (blkOk_by (N := ["row", "number"]) (sc := defScope s_ratios_of) (by decide +kernel)) (fun _ _ _ _ _ => pg_name (i := 1) sc_ratios_of.nd rfl (.inl rfl)) (fun _ _ _ _ _ => pts_nil)
      (fun _ _ _ _ _ => pe_c (c_ratio_of T) hr (by rfl) (pa_cons (pv 1) pa_nil)))), ?_⟩
    refine ⟨_, rfl, a, rfl, ⟨_, SqL.of (hid_at ha)⟩, fun D nD => lc_map (f := id) (mRat K) (mNum K) lx nD ha hp hl (fun i v d H2 Qe hv hd s2 l2 hv2 k => ?_) fun H' s' h' => ?_⟩
    · refine ⟨rfl, _, rfl, D :: X, v, d, rfl, l2, hv2, fun H5 u s5 hu => k u H5 s5 hu⟩
    · rw [List.map_id] at h'
      exact q _ _ s' h'
end
end Tx
set_option Elab.async false
set_option linter.all false
set_option maxRecDepth 100000
set_option maxHeartbeats 4000000
namespace Tx
open PySem PySem.Spec PyProof.Rows L2
section
variable {P : Program} {w : World} {K : PySem.W.Frag} {mg : Str → Option Value} {base : Heap}
/-! ### wholes, ints_of -/
theorem sc_wholes : FnScope ["ratios", "bottom", "ratio"] ["ratios"] (defScope s_wholes) := ⟨rfl, rfl, rfl, by decide +kernel, rfl, by decide +kernel, by decide +kernel⟩
def sp_wholes (K : PySem.W.Frag) : Sp := fun vs H Q _ => ∃ (X : List Addr) (v : V) (ns : List Int), vs = [v] ∧ Lives X H ∧ dList (dRat K) (hid X H) v ns ∧ ns.length ≤ sizeLine ∧
  ∀ H' u, Same H H' → dTwo dInt (dList dInt) (hid X H') u (1, ns) → Q u H'
theorem c_wholes (T : Tt K mg) : Ca P w K mg base 1 "wholes" ["ratios"] (sp_wholes K) := by
  obtain ⟨fd, F⟩ := T.e_wholes
  refine Ca.mk' F T.g_wholes (okD F sc_wholes (fun vs H Q E h => ?_) fun cdv A outer s H vs Q E hr h => ?_) fun _ _ _ _ _ _ us hl => match us, hl with | [_], _ => rfl
  · obtain ⟨X, v, ns, rfl, _⟩ := h
    rfl
  · obtain ⟨X, v, ns, rfl, lx, ⟨a, vs, rfl, ha, hp⟩, hl, q⟩ := h
    have nd := sc_wholes.nd
    refine ⟨_, pss_cons (ps_set (i := 1) nd rfl (.inr rfl) pe_int)
      (pss_cons (ps_for PassesOwn.never rfl (pi_list (pv 0)) (pg_name (i := 2) nd rfl (.inl rfl)) (pss_one (ps_set (i := 1) nd rfl (.inr rfl) (pe_callBfun cr_lcm (by rfl) T.lcm_ (pa_cons (pv 1) (pa_cons (pe_fld (pv 2) rfl) pa_nil))))))
      (pss_one (ps_ret (pe_tup (pa_cons (pv 1) (pa_cons (pe_lc (own := [("ratio", 2)]) (g := gName 2) (tt := tYes) (te := tOp (rI CMul fun i j => .int (i * j)) (tFld K (tVar 2) "own_top") (tOp (rI CDiv fun i j => .int (i / j)) (tVar 1) (tFld K (tVar 2) "own_bottom"))) rfl nd (pi_list (pv 0)) (blkOk_by (N := ["ratios", "bottom", "ratio"]) (sc := defScope s_wholes) (by decide +kernel))
        (fun _ _ _ _ _ => pg_name (i := 2) nd rfl (.inl rfl)) (fun _ _ _ _ _ => pts_nil) (fun _ _ _ _ _ => pe_op op_mul (pe_fld (pv 2) rfl) (pe_op op_fdiv (pv 1) (pe_fld (pv 2) rfl)))) pa_nil)))))), ?_⟩
    refine ⟨_, rfl, a, rfl, ⟨_, SqL.of (hid_at ha)⟩, for_list (K := K) (a := a) (xs := vs) (fun i σ H2 => ∃ y, σ = [some (.ref a), some (.int 1), y] ∧ H2 = H) ⟨none, rfl, rfl⟩ (fun i σ H2 _ ⟨_, _, e⟩ => by rw [e]; exact SqL.of (hid_at ha)) ?_ ?_⟩
    · rintro i v σ H2 hv ⟨y, rfl, rfl⟩
      obtain ⟨d, hd, b, dx, rfl, hb⟩ := paired_at hp hv
      exact ⟨_, rfl, _, rfl, b, _, dx, _, _, rfl, hid_at hb, T.cl_Ratio, T.n_own_bottom, rFs_bottom _, rfl, some (.ref b), rfl, rfl⟩
    · rintro σ H2 ⟨y, rfl, rfl⟩
      refine ⟨_, rfl, _, rfl, a, rfl, ⟨_, SqL.of (hid_at ha)⟩, fun D nD => lc_map (R := dRat K) (S := dInt) (f := id) mInt (mRat K) lx nD ha hp hl (fun i v d H3 Qe hv hd s2 l2 hv2 k => ?_) fun H' s' h' => ?_⟩
      · obtain ⟨b, dx, rfl, hb⟩ := hv2
        refine ⟨rfl, _, rfl, b, _, dx, _, _, rfl, hid_at hb, T.cl_Ratio, T.n_own_top, rFs_top _, _, rfl, _, rfl, b, _, dx, _, _, rfl, hid_at hb, T.cl_Ratio, T.n_own_bottom, rFs_bottom _, 1, 1, rfl, rfl, ⟨by decide, by decide⟩, d, 1, rfl, rfl, .inr ⟨by decide, by decide⟩, ?_⟩
        refine k _ H3 (Same.refl _) ?_
        show V.int (d * 1) = V.int d
        rw [Int.mul_one]
      · rw [List.map_id] at h'
        refine ⟨(by show 2 ≤ sizeLine; decide), fun p np => ?_⟩
        refine q _ _ (s'.trans (sameU np)) ⟨p, .int 1, .ref D, rfl, hid_put ((lx.same s').out np), rfl, (mList mInt).up (sameU np).hid h'⟩
theorem sc_ints_of : FnScope ["rows", "row"] ["rows"] (defScope s_ints_of) := ⟨rfl, rfl, rfl, by decide +kernel, rfl, by decide +kernel, by decide +kernel⟩
def sp_ints_of (K : PySem.W.Frag) : Sp := fun vs H Q _ => ∃ (X : List Addr) (v : V) (rs : List (List Int)), vs = [v] ∧ Lives X H ∧ dList (dList (dRat K)) (hid X H) v rs ∧ rs.length ≤ sizeLine ∧ (∀ r ∈ rs, r.length ≤ sizeLine) ∧
  ∀ H' u, Same H H' → dList (dList dInt) (hid X H') u rs → Q u H'
theorem c_ints_of (T : Tt K mg) : Ca P w K mg base 7 "ints_of" ["rows"] (sp_ints_of K) := by
  obtain ⟨fd, F⟩ := T.e_ints_of
  refine Ca.mk' F T.g_ints_of (okD F sc_ints_of (fun vs H Q E h => ?_) fun cdv A outer s H vs Q E hr h => ?_) fun _ _ _ _ _ _ us hl => match us, hl with | [_], _ => rfl
  · obtain ⟨X, v, ns, rfl, _⟩ := h
    rfl
  · obtain ⟨X, v, rs, rfl, lx, ⟨a, vs, rfl, ha, hp⟩, hl, hl2, q⟩ := h
    have nd := sc_ints_of.nd
    refine ⟨_, pss_one (ps_ret (pe_lc (own := [("row", 1)]) (g := gName 1) (tt := tYes) (te := tOp (rIxT K) (tCall (sp_wholes K) [] E0 (tCons (tCall (sp_ratios_of K) [] E0 (tCons (tVar 1) tNil)) tNil)) (tC (.int 1))) rfl nd (pi_list (pv 0)) (blkOk_by (N := ["rows", "row"]) (sc := defScope s_ints_of) (by decide +kernel)) (fun _ _ _ _ _ => pg_name (i := 1) nd rfl (.inl rfl)) (fun _ _ _ _ _ => pts_nil)
      (fun _ _ _ _ _ => pe_ix ix_tup (pe_c (c_wholes T) (hr.mono (by decide)) (by rfl) (pa_cons (pe_c (c_ratios_of T) hr (by rfl) (pa_cons (pv 1) pa_nil)) pa_nil)) pe_int (fun _ _ => rfl)))), ?_⟩
    refine ⟨_, rfl, a, rfl, ⟨_, SqL.of (hid_at ha)⟩, fun D nD => lc_map (R := dList (dRat K)) (S := dList dInt) (f := id) (mList mInt) (mList (mRat K)) lx nD ha hp hl (fun i v d H2 Qe hv hd s2 l2 hv2 k => ?_) fun H' s' h' => ?_⟩
    · have hn : dList (dNum K) (hid (D :: X) H2) v d := by
        obtain ⟨b, us, e, hb, pb⟩ := hv2
        exact ⟨b, us, e, hb, paired_mono (fun _ _ h => .inr h) pb⟩
      have hdl : d.length ≤ sizeLine := hl2 d (List.mem_of_getElem? hd)
      refine ⟨rfl, _, rfl, D :: X, v, d, rfl, l2, hn, hdl, fun H3 u s3 hu => ?_⟩
      refine ⟨D :: X, u, d, rfl, l2.same s3, hu, hdl, fun H4 u4 s4 hu4 => ?_⟩
      obtain ⟨b, x, y, rfl, hb, hx, hy⟩ := hu4
      exact ⟨b, _, 1, y, rfl, rfl, SqT.of (hid_at hb), atI_nat (j := 1) rfl, k y H4 (s3.trans s4) hy⟩
    · rw [List.map_id] at h'
      exact q _ _ s' h'
/-! ### are_numbers, plain_row -/
theorem sc_are_numbers : FnScope ["value", "wide", "number"] ["value", "wide"] (defScope s_are_numbers) := ⟨rfl, rfl, rfl, by decide +kernel, rfl, by decide +kernel, by decide +kernel⟩
def sp_are_numbers : Sp := fun vs H Q _ => ∃ (X : List Addr) (v : V) (ns : List Int), vs = [v, .int (ns.length : Int)] ∧ Lives X H ∧ dList dInt (hid X H) v ns ∧ ns.length ≤ sizeLine ∧ ∀ H', Same H H' → Q (.bl true) H'
def dBool : Rel Bool := fun _ v b => v = .bl b
theorem mBool : Mono dBool := ⟨fun _ h => h⟩
theorem paired_bool {G : Hp} : ∀ {vs : List V} {ds : List Bool}, Paired (dBool G) vs ds → vs = ds.map V.bl
  | _, _, .nil => rfl
  | _, _, .cons r t => by
    have e : _ = V.bl _ := r
    rw [e, paired_bool t]
    rfl
theorem all_true {α : Type} (l : List α) : (l.map fun _ => true).all id = true := by
  rw [List.all_map]
  exact List.all_eq_true.mpr fun _ _ => rfl
theorem c_are_numbers (T : Tt K mg) : Ca P w K mg base 3 "are_numbers" ["value", "wide"] sp_are_numbers := by
  obtain ⟨fd, F⟩ := T.e_are_numbers
  refine Ca.mk' F T.g_are_numbers (okD F sc_are_numbers (fun vs H Q E h => ?_) fun cdv A outer s H vs Q E hr h => ?_) fun _ _ _ _ _ _ us hl => match us, hl with | [_, _], _ => rfl
  · obtain ⟨X, v, ns, rfl, _⟩ := h
    rfl
  · obtain ⟨X, v, ns, rfl, lx, ⟨a, vs, rfl, ha, hp⟩, hl, q⟩ := h
    have nd := sc_are_numbers.nd
    refine ⟨_, pss_one (ps_ret (pe_and (pe_c (c_is_list T) (hr.mono (by decide)) (by rfl) (pa_cons (pv 0) pa_nil)) (pe_and (pe_cmpR op_eq (pe_callB call_len_seq (by rfl) T.b_len PySem.boot_len (pa_cons (pv 0) pa_nil)) (pv 1) (nomark _))
      (pe_one (pe_callB (cr_all rfl) (by rfl) T.b_all (by decide +kernel) (pa_cons (pe_lc (own := [("number", 2)]) (g := gName 2) (tt := tYes) rfl nd (pi_list (pv 0)) (blkOk_by (N := ["value", "wide", "number"]) (sc := defScope s_are_numbers) (by decide +kernel)) (fun _ _ _ _ _ => pg_name (i := 2) nd rfl (.inl rfl)) (fun _ _ _ _ _ => pts_nil)
      (fun _ _ _ _ _ => pe_c (c_is_number T) hr (by rfl) (pa_cons (pv 2) pa_nil))) pa_nil)))))), ?_⟩
    refine ⟨_, rfl, a, vs, rfl, .inl (hid_at ha), fun H1 s1 => ⟨true, rfl, ?_⟩⟩
    have h1 := s1.hid (X := X) _ _ ha
    refine ⟨_, rfl, a, vs, rfl, .inl (SqL.of (hid_at h1)), _, rfl, rfl, ?_⟩
    refine ⟨true, by rw [paired_len hp, decide_eq_true rfl], ?_⟩
    refine ⟨_, rfl, a, rfl, ⟨_, SqL.of (hid_at h1)⟩, fun D nD => lc_map (R := dInt) (S := dBool) (f := fun _ => true) mBool mInt (lx.same s1) nD h1 (paired_mono (fun _ _ h => h) hp) hl (fun i v d H2 Qe hv hd s2 l2 hv2 k => ?_) fun H' s' h' => ?_⟩
    · have e : v = .int d := hv2
      subst e
      exact ⟨rfl, _, rfl, d, rfl, k _ H2 (Same.refl _) rfl⟩
    · obtain ⟨b, us, e, hb, pb⟩ := h'
      cases e
      have eu := paired_bool pb
      subst eu
      refine ⟨_, _, rfl, SqL.of (hid_at hb), ?_⟩
      rw [all_true]
      exact q _ (s1.trans s')
end
end Tx
set_option Elab.async false
set_option linter.all false
set_option maxRecDepth 100000
set_option maxHeartbeats 4000000
namespace Tx
open PySem PySem.Spec PyProof.Rows L2
section
variable {P : Program} {w : World} {K : PySem.W.Frag} {mg : Str → Option Value} {base : Heap}
/-! ### plain_row -/
theorem sc_plain_row : FnScope ["row", "common", "number"] ["row"] (defScope s_plain_row) := ⟨rfl, rfl, rfl, by decide +kernel, rfl, by decide +kernel, by decide +kernel⟩
def sp_plain_row : Sp := fun vs H Q _ => ∃ (X : List Addr) (v : V) (ns : List Int) (e : Nat), vs = [v] ∧ Lives X H ∧ dList dInt (hid X H) v ns ∧ ns.length ≤ sizeLine ∧ (∀ x ∈ ns, x.natAbs < 2 ^ e) ∧ 0 < e ∧ e ≤ 9000 ∧
  ∀ H' u, Same H H' → dList dInt (hid X H') u (Mth.plainRow ns) → Q u H'
theorem c_plain_row (T : Tt K mg) : Ca P w K mg base 2 "plain_row" ["row"] sp_plain_row := by
  obtain ⟨fd, F⟩ := T.e_plain_row
  refine Ca.mk' F T.g_plain_row (okD F sc_plain_row (fun vs H Q E h => ?_) fun cdv A outer s H vs Q E hr h => ?_) fun _ _ _ _ _ _ us hl => match us, hl with | [_], _ => rfl
  · obtain ⟨X, v, ns, e, rfl, _⟩ := h
    rfl
  · obtain ⟨X, v, ns, e, rfl, lx, ⟨a, vs, rfl, ha, hp⟩, hl, hsm, he0, he9, q⟩ := h
    have nd := sc_plain_row.nd
    refine ⟨_, pss_cons (ps_set (i := 1) nd rfl (.inr rfl) pe_int)
      (pss_cons (ps_for PassesOwn.never rfl (pi_list (pv 0)) (pg_name (i := 2) nd rfl (.inl rfl)) (pss_one (ps_if (pt_cmpR op_ne (pv 2) pe_int (nomark _)) (pss_one (ps_set (i := 1) nd rfl (.inr rfl) (pe_c (c_common_part T) hr (by rfl) (pa_cons (pv 1) (pa_cons (pv 2) pa_nil))))) pss_nil)))
      (pss_one (ps_ret (pe_ifExp (pt_cmpR op_gt (pv 1) pe_int (nomark _)) (pe_lc (own := [("number", 2)]) (g := gName 2) (tt := tYes) (te := tOp (rI CDivW fun i j => .int (i / j)) (tVar 2) (tVar 1)) rfl nd (pi_list (pv 0)) (blkOk_by (N := ["row", "common", "number"]) (sc := defScope s_plain_row) (by decide +kernel))
        (fun _ _ _ _ _ => pg_name (i := 2) nd rfl (.inl rfl)) (fun _ _ _ _ _ => pts_nil) (fun _ _ _ _ _ => pe_op op_fdivW (pv 2) (pv 1))) (pv 0))))), ?_⟩
    refine ⟨_, rfl, a, rfl, ⟨_, SqL.of (hid_at ha)⟩, for_list (K := K) (a := a) (xs := vs) (fun i σ H2 => ∃ y, σ = [some (.ref a), some (.int (Mth.rowGcd (ns.take i) : Nat)), y] ∧ H2 = H) ⟨none, rfl, rfl⟩ (fun i σ H2 _ ⟨_, _, e⟩ => by rw [e]; exact SqL.of (hid_at ha)) ?_ ?_⟩
    · rintro i v σ H2 hv ⟨y, rfl, rfl⟩
      obtain ⟨d, hd, e2⟩ := paired_at hp hv
      have e2 : v = .int d := e2
      subst e2
      have ge : Mth.rowGcd (ns.take (i + 1)) = if d ≠ 0 then Nat.gcd (Mth.rowGcd (ns.take i)) d.natAbs else Mth.rowGcd (ns.take i) := by
        unfold Mth.rowGcd
        rw [List.take_add_one, hd]
        show List.foldl _ 0 (ns.take i ++ [d]) = _
        rw [List.foldl_append]
        rfl
      refine ⟨_, rfl, rfl, !decide (V.int d = V.int 0), rfl, ?_⟩
      by_cases h0 : d = 0
      · have e3 : (!decide (V.int d = V.int 0)) = false := by
          rw [h0]
          rfl
        rw [e3]
        refine iteF ⟨some (.int d), ?_, rfl⟩
        rw [ge, if_neg (fun z => z h0)]
        rfl
      · have e3 : (!decide (V.int d = V.int 0)) = true := by
          rw [decide_eq_false (fun z => h0 (V.int.inj z))]
          rfl
        rw [e3]
        refine iteT ⟨_, rfl, _, rfl, (Mth.rowGcd (ns.take i) : Nat), d, rfl, some (.int d), ?_, rfl⟩
        rw [ge, if_pos h0]
        rfl
    · rintro σ H2 ⟨y, rfl, rfl⟩
      rw [paired_len hp, List.take_length]
      refine ⟨_, rfl, _, 1, rfl, rfl, _, rfl, ite2 (fun h => ?_) fun h => ?_⟩
      · have h1 : (1 : Int) < (Mth.rowGcd ns : Nat) := of_decide_eq_true h
        refine ⟨_, rfl, a, rfl, ⟨_, SqL.of (hid_at ha)⟩, fun D nD => lc_map (R := dInt) (S := dInt) (f := fun x => x / (Mth.rowGcd ns : Int)) mInt mInt lx nD ha hp hl (fun i v d H3 Qe hv hd s2 l2 hv2 k => ?_) fun H' s' h' => ?_⟩
        · have e2 : v = .int d := hv2
          subst e2
          have hb := Mth.rowGcd_le hsm
          exact ⟨rfl, _, rfl, _, rfl, d, _, rfl, rfl, wide_div (by omega) (by omega) he0 he9, k _ H3 (Same.refl _) rfl⟩
        · refine q _ _ s' ?_
          unfold Mth.plainRow
          rw [if_pos (by omega)]
          exact h'
      · have h1 : ¬ (1 : Int) < (Mth.rowGcd ns : Nat) := fun z => h (decide_eq_true z)
        refine ⟨_, rfl, q _ _ (Same.refl _) ?_⟩
        unfold Mth.plainRow
        rw [if_neg (by omega)]
        exact ⟨a, vs, rfl, ha, hp⟩
/-! ### cleared -/
/-- a comprehension over two zipped lists of ints -/
theorem lc_zipI {a b D : Addr} {xs ys : List Int} {f : Int → Int → Int} {g : TG} {te : TE} {ws : List Nat} {σ : L2.St} {H1 : Hp} {Qd : Hp → Prop} (hD : H1 D = none) (hxy : xs.length = ys.length) (hl : xs.length ≤ sizeLine)
    (ha : H1 a = some (.lst (xs.map V.int))) (hb : H1 b = some (.lst (ys.map V.int)))
    (st : ∀ (T : Addr) (x y : Int) (H2 : Hp) (Qe : VK), Same H1 H2 → x ∈ xs → y ∈ ys → H2 T = some (.tup [.int x, .int y]) → Qe (.int (f x y)) H2 → g (.ref T) (wipe σ ws) H2 fun σ2 H3 => wipe σ2 ws = wipe σ ws ∧ te σ2 H3 Qe)
    (dn : ∀ H', Same H1 H' → H' D = some (.lst ((List.zipWith f xs ys).map V.int)) → Qd H') :
    ∃ W : Nat → Nat → Hp → Prop, (∃ m, W 0 m (upd H1 D (.lst []))) ∧ ∀ i m H, W i m H →
      ((Itz K a b).stop i H ∧ Qd H) ∨ ((Itz K a b).go i H ∧ ∃ Nx : Hp → Prop, (∀ H', Nx H' → ∃ m', m' < m ∧ W (i + 1) m' H') ∧ ∀ x H', (Itz K a b).yld i H x H' → g x (wipe σ ws) H' fun σ2 H2 => wipe σ2 ws = wipe σ ws ∧ tYes σ2 H2 fun b H3 =>
        if b = true then te σ2 H3 fun y H4 => ∃ acc, H4 D = some (.lst acc) ∧ acc.length < sizeLine ∧ Nx (upd H4 D (.lst (acc ++ [y]))) else Nx H3) := by
  refine ⟨fun i m H => i + m = xs.length ∧ Same H1 H ∧ H D = some (.lst (((List.zipWith f xs ys).take i).map V.int)), ⟨xs.length, by omega, sameU hD, upd_same⟩, ?_⟩
  rintro i m H ⟨him, s1, eD⟩
  have hA : SqL K H a (xs.map V.int) := SqL.of (s1 _ _ ha)
  have hB : SqL K H b (ys.map V.int) := SqL.of (s1 _ _ hb)
  by_cases hi : i < xs.length
  · have hj : i < ys.length := by omega
    have gx : (xs.map V.int)[i]? = some (.int xs[i]) := by
      rw [List.getElem?_map, List.getElem?_eq_getElem hi]
      rfl
    have gy : (ys.map V.int)[i]? = some (.int ys[i]) := by
      rw [List.getElem?_map, List.getElem?_eq_getElem hj]
      rfl
    refine .inr ⟨⟨_, _, _, _, hA, hB, gx, gy⟩, fun H' => i + 1 + (m - 1) = xs.length ∧ Same H1 H' ∧ H' D = some (.lst (((List.zipWith f xs ys).take (i + 1)).map V.int)), fun H' h => ⟨m - 1, by omega, h⟩, fun v H' hy => ?_⟩
    obtain ⟨Tp, x1, y1, rfl, nT, rfl, f1, f2⟩ := hy
    have ex : x1 = .int xs[i] := Option.some.inj ((f1 _ hA).symm.trans gx)
    have ey : y1 = .int ys[i] := Option.some.inj ((f2 _ hB).symm.trans gy)
    subst ex ey
    have eT := sameU (o := .tup [.int xs[i], .int ys[i]]) nT _ _ eD
    refine st Tp xs[i] ys[i] _ _ (s1.trans (sameU nT)) (List.getElem_mem hi) (List.getElem_mem hj) upd_same ⟨_, eT, ?_, by omega, ?_, ?_⟩
    · rw [List.length_map, List.length_take, List.length_zipWith]
      omega
    · intro c o e
      rw [upd_ne (ne_of_none e hD)]
      exact sameU nT _ _ (s1 _ _ e)
    · rw [upd_same, List.take_add_one, List.map_append]
      have : (List.zipWith f xs ys)[i]? = some (f xs[i] ys[i]) := by
        rw [List.getElem?_zipWith, List.getElem?_eq_getElem hi, List.getElem?_eq_getElem hj]
      rw [this]
      rfl
  · refine .inl ⟨⟨_, _, hA, hB, .inl (by rw [List.length_map]; omega)⟩, dn H s1 ?_⟩
    rw [eD, List.take_of_length_le (by rw [List.length_zipWith]; omega)]
theorem sc_cleared : FnScope ["row", "head", "place", "near", "far"] ["row", "head", "place"] (defScope s_cleared) := ⟨rfl, rfl, rfl, by decide +kernel, rfl, by decide +kernel, by decide +kernel⟩
def sp_cleared : Sp := fun vs H Q _ => ∃ (X : List Addr) (v u : V) (row head : List Int) (p e : Nat), vs = [v, u, .int (p : Int)] ∧ Lives X H ∧ dList dInt (hid X H) v row ∧ dList dInt (hid X H) u head ∧ row.length = head.length ∧ p < row.length ∧ row.length ≤ sizeLine ∧
  (∀ x ∈ row, x.natAbs < 2 ^ e) ∧ (∀ x ∈ head, x.natAbs < 2 ^ e) ∧ 0 < e ∧ e ≤ 4000 ∧ ∀ H' z, Same H H' → dList dInt (hid X H') z (Mth.cleared row head p) → Q z H'
theorem c_cleared (T : Tt K mg) : Ca P w K mg base 3 "cleared" ["row", "head", "place"] sp_cleared := by
  obtain ⟨fd, F⟩ := T.e_cleared
  refine Ca.mk' F T.g_cleared (okD F sc_cleared (fun vs H Q E h => ?_) fun cdv A outer s H vs Q E hr h => ?_) fun _ _ _ _ _ _ us hl => match us, hl with | [_, _, _], _ => rfl
  · obtain ⟨X, v, u, row, head, p, e, rfl, _⟩ := h
    rfl
  · obtain ⟨X, v, u, row, head, p, e, rfl, lx, ⟨a, vs, rfl, ha, hp⟩, ⟨b, us, rfl, hb, hq⟩, hrh, hpl, hl, sm1, sm2, he0, he4, q⟩ := h
    have nd := sc_cleared.nd
    have ev := paired_int hp
    have eu := paired_int hq
    subst ev eu
    refine ⟨_, pss_cons (ps_if (pt_cmpR op_eq (pe_ix ix_list (pv 0) (pv 2) (fun _ _ => rfl)) pe_int (nomark _)) (pss_one (ps_ret (pv 0))) pss_nil)
      (pss_one (ps_ret (pe_c (c_plain_row T) hr (by rfl) (pa_cons (pe_lc (own := [("near", 3), ("far", 4)]) (g := gTup K 2 (gCons (gName 3) (gCons (gName 4) gNil))) (tt := tYes)
        (te := tOp (rI0 fun i j => .int (i - j)) (tOp (rI CMulW fun i j => .int (i * j)) (tOp (rIxL K) (tVar 1) (tVar 2)) (tVar 3)) (tOp (rI CMulW fun i j => .int (i * j)) (tOp (rIxL K) (tVar 0) (tVar 2)) (tVar 4))) rfl nd
        (pi_zip (by rfl) T.b_zip (pa_cons (pv 0) (pa_cons (pv 1) pa_nil))) (blkOk_by (N := ["row", "head", "place", "near", "far"]) (sc := defScope s_cleared) (by decide +kernel))
        (fun _ _ _ _ _ => pg_tup rfl (pgs_cons (pg_name (i := 3) nd rfl (.inl rfl)) (pgs_cons (pg_name (i := 4) nd rfl (.inl rfl)) pgs_nil))) (fun _ _ _ _ _ => pts_nil)
        (fun _ _ _ _ _ => pe_op op_sub (pe_op op_mulW (pe_ix ix_list (pv 1) (pv 2) (fun _ _ => rfl)) (pv 3)) (pe_op op_mulW (pe_ix ix_list (pv 0) (pv 2) (fun _ _ => rfl)) (pv 4)))) pa_nil)))), ?_⟩
    have gr : atI (row.map V.int) (p : Int) = some (.int (Mth.E row p)) := atI_nat (by rw [List.getElem?_map, List.getElem?_eq_getElem hpl, Mth.E_eq hpl]; rfl)
    have gh : atI (head.map V.int) (p : Int) = some (.int (Mth.E head p)) := atI_nat (by rw [List.getElem?_map, List.getElem?_eq_getElem (by omega), Mth.E_eq (by omega)]; rfl)
    refine ⟨_, rfl, _, rfl, a, _, p, _, rfl, rfl, SqL.of (hid_at ha), gr, rfl, _, rfl, ite2 (fun h => ?_) fun h => ?_⟩
    · have h0 : Mth.E row p = 0 := V.int.inj (of_decide_eq_true h)
      refine ⟨_, rfl, q _ _ (Same.refl _) ?_⟩
      unfold Mth.cleared
      rw [if_pos h0]
      exact ⟨a, _, rfl, ha, hp⟩
    · have h0 : ¬ Mth.E row p = 0 := fun z => h (decide_eq_true (by rw [z]))
      refine ⟨_, rfl, _, rfl, a, b, _, _, rfl, SqL.of (hid_at ha), SqL.of (hid_at hb), fun D nD => lc_zipI (f := fun near far => Mth.E head p * near - Mth.E row p * far) nD hrh hl (hid_at ha) (hid_at hb) (fun Tp x y H2 Qe s2 hx hy eT k => ?_) fun H' s' h' => ?_⟩
      · have c1 : CMulW (Mth.E head p) x := wide_mul (Mth.E_small sm2 p) (sm1 x hx) he0 he0 (by omega)
        have c2 : CMulW (Mth.E row p) y := wide_mul (Mth.E_small sm1 p) (sm2 y hy) he0 he0 (by omega)
        exact ⟨Tp, _, rfl, SqT.of eT, rfl, _, _, rfl, _, _, rfl, rfl, rfl, _, rfl, _, rfl, b, _, p, _, rfl, rfl, SqL.of (s2 _ _ (hid_at hb)), gh, _, rfl, _, x, rfl, rfl, c1, _, rfl, _, rfl, a, _, p, _, rfl, rfl, SqL.of (s2 _ _ (hid_at ha)), gr, _, rfl, _, y, rfl, rfl, c2, _, _, rfl, rfl, k⟩
      · have hm : dList dInt (hid X H') (.ref D) (Mth.mixed row head p) := ⟨D, _, rfl, hid_some.mpr ⟨lx.out nD, h'⟩, paired_of_int _⟩
        refine ⟨X, _, _, 2 * e + 1, rfl, lx.same s', hm, ?_, Mth.mixed_small sm1 sm2, by omega, by omega, fun H2 z s2 hz => q _ _ (s'.trans s2) ?_⟩
        · rw [Mth.mixed_len (n := row.length) rfl hrh.symm]
          exact hl
        · unfold Mth.cleared
          rw [if_neg h0]
          exact hz
/-! ### first_at -/
theorem sc_first_at : FnScope ["rows", "place", "at", "row"] ["rows", "place"] (defScope s_first_at) := ⟨rfl, rfl, rfl, by decide +kernel, rfl, by decide +kernel, by decide +kernel⟩
def fAt (rs : List (List Int)) (p : Nat) : Int := match Mth.firstAt rs p with
  | none => -1
  | some a => (a : Int)
def sp_first_at : Sp := fun vs H Q _ => ∃ (X : List Addr) (v : V) (rs : List (List Int)) (p : Nat), vs = [v, .int (p : Int)] ∧ Lives X H ∧ dList (dList dInt) (hid X H) v rs ∧ (∀ r ∈ rs, p < r.length) ∧ ∀ H', Same H H' → Q (.int (fAt rs p)) H'
theorem c_first_at (T : Tt K mg) : Ca P w K mg base 1 "first_at" ["rows", "place"] sp_first_at := by
  obtain ⟨fd, F⟩ := T.e_first_at
  refine Ca.mk' F T.g_first_at (okD F sc_first_at (fun vs H Q E h => ?_) fun cdv A outer s H vs Q E hr h => ?_) fun _ _ _ _ _ _ us hl => match us, hl with | [_, _], _ => rfl
  · obtain ⟨X, v, rs, p, rfl, _⟩ := h
    rfl
  · obtain ⟨X, v, rs, p, rfl, lx, ⟨a, vs, rfl, ha, hp⟩, hpl, q⟩ := h
    have nd := sc_first_at.nd
    refine ⟨_, pss_cons (ps_for PassesOwn.never rfl (pi_enum (by rfl) T.b_enumerate (pa_cons (pv 0) pa_nil)) (pg_tup rfl (pgs_cons (pg_name (i := 2) nd rfl (.inl rfl)) (pgs_cons (pg_name (i := 3) nd rfl (.inl rfl)) pgs_nil)))
        (pss_one (ps_if (pt_cmpR op_ne (pe_ix ix_list (pv 3) (pv 1) (fun _ _ => rfl)) pe_int (nomark _)) (pss_one (ps_ret (pv 2))) pss_nil)))
      (pss_one (ps_ret (pe_un un_neg pe_int))), ?_⟩
    refine ⟨_, rfl, a, vs, rfl, SqL.of (hid_at ha), fun i m σ H2 => ∃ y2 y3, σ = [some (.ref a), some (.int (p : Int)), y2, y3] ∧ i + m = rs.length ∧ Same H H2 ∧ ∀ j, j < i → ∀ r, rs[j]? = some r → Mth.E r p = 0,
      ⟨rs.length, none, none, rfl, by omega, Same.refl H, fun j hj => absurd hj (Nat.not_lt_zero j)⟩, fun i m σ H2 hW => ?_⟩
    obtain ⟨y2, y3, rfl, him, s2, hz⟩ := hW
    have hA : SqL K H2 a vs := SqL.of (s2 _ _ (hid_at ha))
    have hlen := paired_len hp
    by_cases hi : i < rs.length
    · obtain ⟨v, hv, hd⟩ := paired_to hp (List.getElem?_eq_getElem hi)
      refine .inr ⟨⟨_, _, hA, hv⟩, fun σ' H' => ∃ y2 y3, σ' = [some (.ref a), some (.int (p : Int)), y2, y3] ∧ Same H H' ∧ ∀ j, j < i + 1 → ∀ r, rs[j]? = some r → Mth.E r p = 0, fun σ' H' hN => ?_, fun x H' hy => ?_⟩
      · obtain ⟨z2, z3, e, s3, hz3⟩ := hN
        exact ⟨m - 1, by omega, z2, z3, e, by omega, s3, hz3⟩
      · obtain ⟨Tp, x, rfl, nT, rfl, fx⟩ := hy
        have ex : x = v := Option.some.inj ((fx _ hA).symm.trans hv)
        subst ex
        have s3 : Same H (upd H2 Tp (.tup [.int (i : Nat), x])) := s2.trans (sameU nT)
        obtain ⟨b, us, rfl, hb, pb⟩ := (mList mInt).up s3.hid hd
        have eu := paired_int pb
        subst eu
        have hpr : p < rs[i].length := hpl _ (List.getElem_mem hi)
        have gr : atI (rs[i].map V.int) (p : Int) = some (.int (Mth.E rs[i] p)) := atI_nat (by rw [List.getElem?_map, List.getElem?_eq_getElem hpr, Mth.E_eq hpr]; rfl)
        refine ⟨Tp, _, rfl, SqT.of upd_same, rfl, _, _, rfl, _, _, rfl, rfl, _, rfl, _, rfl, b, _, p, _, rfl, rfl, SqL.of (hid_at hb), gr, rfl, !decide (V.int (Mth.E rs[i] p) = V.int 0), rfl, ?_⟩
        by_cases h0 : Mth.E rs[i] p = 0
        · have e3 : (!decide (V.int (Mth.E rs[i] p) = V.int 0)) = false := by
            rw [h0]
            rfl
          rw [e3]
          refine iteF ⟨some (.int (i : Nat)), some (.ref b), rfl, s3, fun j hj r hr => ?_⟩
          by_cases ej : j = i
          · subst ej
            rw [List.getElem?_eq_getElem hi] at hr
            rw [← Option.some.inj hr]
            exact h0
          · exact hz j (by omega) r hr
        · have e3 : (!decide (V.int (Mth.E rs[i] p) = V.int 0)) = true := by
            rw [decide_eq_false (fun z => h0 (V.int.inj z))]
            rfl
          rw [e3]
          have ef : Mth.firstAt rs p = some i := by
            unfold Mth.firstAt
            rw [List.findIdx?_eq_some_iff_getElem]
            refine ⟨hi, by simpa using h0, fun j hj => ?_⟩
            have := hz j hj _ (List.getElem?_eq_getElem (by omega))
            simpa using this
          have eQ := q _ s3
          unfold fAt at eQ
          rw [ef] at eQ
          exact iteT ⟨_, rfl, eQ⟩
    · have ef : Mth.firstAt rs p = none := by
        unfold Mth.firstAt
        rw [List.findIdx?_eq_none_iff]
        intro r hr
        obtain ⟨j, hj, rfl⟩ := List.mem_iff_getElem.mp hr
        have := hz j (by omega) _ (List.getElem?_eq_getElem hj)
        simpa using this
      have eQ := q _ s2
      unfold fAt at eQ
      rw [ef] at eQ
      exact .inl ⟨⟨_, hA, by omega⟩, 1, rfl, eQ⟩
end
end Tx
set_option Elab.async false
set_option linter.all false
set_option maxRecDepth 100000
set_option maxHeartbeats 4000000
namespace Tx
open PySem PySem.Spec PyProof.Rows L2
theorem cut_to (xs : List V) (a : Nat) : cutV xs none (some (a : Int)) = xs.take a := by
  unfold cutV
  rw [HT.sIx_none, HT.sIx_nat, List.drop_zero, Nat.sub_zero, ← List.take_eq_take_min]
theorem cut_from (xs : List V) (a : Nat) : cutV xs (some (a : Int)) none = xs.drop a := by
  unfold cutV
  rw [HT.sIx_none, HT.sIx_nat]
  by_cases h : a ≤ xs.length
  · rw [Nat.min_eq_left h]
    exact List.take_of_length_le (by rw [List.length_drop]; omega)
  · rw [Nat.min_eq_right (by omega), Nat.sub_self, List.take_zero, List.drop_eq_nil_of_le (by omega)]
section
variable {P : Program} {w : World} {K : PySem.W.Frag} {mg : Str → Option Value} {base : Heap}
/-! ### int_rank -/
theorem sc_int_rank : FnScope ["rows", "left", "many", "place", "at", "head", "row"] ["rows"] (defScope s_int_rank) := ⟨rfl, rfl, rfl, by decide +kernel, rfl, by decide +kernel, by decide +kernel⟩
def sp_int_rank : Sp := fun vs H Q _ => ∃ (X : List Addr) (v : V) (rs : List (List Int)) (n : Nat), vs = [v] ∧ Lives X H ∧ dList (dList dInt) (hid X H) v rs ∧ (∀ r ∈ rs, r.length = n) ∧ n ≤ 9 ∧ rs.length ≤ 1000 ∧ Mth.Sm 1 rs ∧
  ∀ H', Same H H' → Q (.int (Mth.intRank rs : Nat)) H'
theorem st_len (rs : List (List Int)) : ∀ i, (Mth.st rs i).1.length ≤ rs.length
  | 0 => Nat.le_refl _
  | i + 1 => by
    refine Nat.le_trans ?_ (st_len rs i)
    show (Mth.stepL (Mth.st rs i).1 i).1.length ≤ _
    generalize (Mth.st rs i).1 = l
    unfold Mth.stepL
    cases Mth.firstAt l i with
    | none => exact Nat.le_refl _
    | some a =>
      show ((Mth.without l a).map _).length ≤ _
      rw [List.length_map]
      unfold Mth.without
      rw [List.length_append, List.length_take, List.length_drop]
      omega
theorem c_int_rank (T : Tt K mg) : Ca P w K mg base 4 "int_rank" ["rows"] sp_int_rank := by
  obtain ⟨fd, F⟩ := T.e_int_rank
  refine Ca.mk' F T.g_int_rank (okD F sc_int_rank (fun vs H Q E h => ?_) fun cdv A outer s H vs Q E hr h => ?_) fun _ _ _ _ _ _ us hl => match us, hl with | [_], _ => rfl
  · obtain ⟨X, v, rs, n, rfl, _⟩ := h
    rfl
  · obtain ⟨X, v, rs, n, rfl, lx, ⟨a, vs, rfl, ha, hp⟩, hn, hn9, hl, sm, q⟩ := h
    have nd := sc_int_rank.nd
    refine ⟨_, pss_cons (ps_par (i := 1) (j := 2) (by rfl) nd rfl rfl (by decide) rfl rfl (pa_cons (pv 0) (pa_cons pe_int pa_nil)) (by rfl))
      (pss_cons (ps_for PassesOwn.never rfl (pi_range1 (by rfl) T.b_range (pa_cons (pe_ifExp (pt_cmpR (op_neE hr.units0) (pv 0) (pe_lst pa_nil) (nomark _)) (pe_callB call_len_seq (by rfl) T.b_len PySem.boot_len (pa_cons (pe_ix ix_list (pv 0) pe_int (fun _ _ => rfl)) pa_nil)) pe_int) pa_nil)) (pg_name (i := 3) nd rfl (.inr rfl))
        (pss_cons (ps_set (i := 4) nd rfl (.inl rfl) (pe_c (c_first_at T) (hr.mono (by decide)) (by rfl) (pa_cons (pv 1) (pa_cons (pv 3) pa_nil))))
        (pss_one (ps_if (pt_cmpR op_ge (pv 4) pe_int (nomark _))
          (pss_cons (ps_set (i := 5) nd rfl (.inr rfl) (pe_ix ix_list (pv 1) (pv 4) (fun _ _ => rfl)))
          (pss_cons (ps_setLc (i := 1) (own := [("row", 6)]) (g := gName 6) (tt := tYes) rfl nd rfl rfl (sw_true rfl rfl rfl (by decide +kernel)) (pi_list (pe_op op_cat (pe_slice sl_list (pv 1) po_none (po_some (pv 4))) (pe_slice sl_list (pv 1) (po_some (pe_op op_add (pv 4) pe_int)) po_none)))
            (blkOk_by (N := ["rows", "left", "many", "place", "at", "head", "row"]) (sc := defScope s_int_rank) (by decide +kernel)) (fun _ _ _ _ _ => pg_name (i := 6) nd rfl (.inl rfl)) (fun _ _ _ _ _ => pts_nil)
            (fun _ _ _ _ _ => pe_c (c_cleared T) hr (by rfl) (pa_cons (pv 6) (pa_cons (pv 5) (pa_cons (pv 3) pa_nil)))))
          (pss_one (ps_set (i := 2) nd rfl (.inl rfl) (pe_op op_add (pv 2) pe_int))))) pss_nil))))
      (pss_one (ps_ret (pv 2)))), ?_⟩
    have len0 : vs.length = rs.length := paired_len hp
    have key : ∀ (D : Addr), H D = none → ∀ (Q' : VK), Q' (.int (Mth.width rs : Nat)) (upd H D (.lst [])) →
        if (!vs.isEmpty) = true then tCB (fun xs H Q => ∃ p ys, xs = [V.ref p] ∧ (SqL K H p ys ∨ SqT K H p ys) ∧ Q (.int ys.length) H) (tCons (tOp (rIxL K) (tVar 0) (tC (.int 0))) tNil) [some (.ref a), some (.ref a), some (.int 0), none, none, none, none] (upd H D (.lst [])) Q'
        else tC (.int 0) [some (.ref a), some (.ref a), some (.int 0), none, none, none, none] (upd H D (.lst [])) Q' := fun D nD Q' k => by
      have sD : Same H (upd H D (.lst [])) := sameU nD
      match rs, vs, hp, k, ha with
      | [], _, .nil, k, ha => exact iteF k
      | r :: rs, v :: vs, .cons hd ht, k, ha =>
        obtain ⟨b, us, rfl, hb, pb⟩ := hd
        refine iteT ⟨_, rfl, a, _, 0, .ref b, rfl, rfl, SqL.of (sD _ _ (hid_at ha)), atI_nat (j := 0) rfl, b, us, rfl, .inl (SqL.of (sD _ _ (hid_at hb))), ?_⟩
        rw [paired_len pb]
        exact k
    have wid : Mth.width rs ≤ 9 := by
      match rs, hn with
      | [], _ => exact Nat.zero_le _
      | r :: rs, hn =>
        show r.length ≤ 9
        rw [hn r (by simp)]
        exact hn9
    refine ⟨_, rfl, _, _, rfl, _, rfl, Nat.zero_le _, fun D0 nD0 => ⟨a, D0, vs, rfl, rfl, SqL.of (sameU nD0 _ _ (hid_at ha)), SqL.of upd_same, _, rfl, key D0 nD0 _ ?_⟩⟩
    have sD := sameU (o := .lst []) nD0
    refine ⟨_, rfl, by omega, by omega, for_range (lo := 0) (n := Mth.width rs) (fun i σ H2 => ∃ u y3 y4 y5, σ = [some (.ref a), some u, some (.int ((Mth.st rs i).2 : Nat)), y3, y4, y5, none] ∧ Same H H2 ∧ dList (dList dInt) (hid X H2) u (Mth.st rs i).1)
      ⟨.ref a, none, none, none, rfl, sD, (mList (mList mInt)).up sD.hid ⟨a, vs, rfl, ha, hp⟩⟩ ?_ ?_⟩
    · rintro i σ H2 hi ⟨u, y3, y4, y5, rfl, s2, hu⟩
      rw [Int.zero_add]
      have lx2 := lx.same s2
      have hn' : ∀ r ∈ rs, r.length = Mth.width rs := by
        match rs, hn with
        | [], _ => intro r hr; cases hr
        | r0 :: rs, hn =>
          intro r hr
          show r.length = r0.length
          rw [hn r hr, hn r0 (by simp)]
      have so := Mth.st_ok hn' i
      have ss := Mth.st_small sm i
      have sl := st_len rs i
      have est : Mth.st rs (i + 1) = ((Mth.stepL (Mth.st rs i).1 i).1, (Mth.st rs i).2 + (Mth.stepL (Mth.st rs i).1 i).2) := rfl
      have bxs : Mth.bx i ≤ 1023 := Mth.bx_small (by omega)
      have bxp := Mth.bx_pos i
      rw [est]
      generalize Mth.st rs i = stt at hu so ss sl ⊢
      obtain ⟨l, m⟩ := stt
      obtain ⟨so1, so2, so3, so4⟩ := so
      simp only at hu so1 ss sl ⊢
      refine ⟨_, rfl, _, rfl, X, u, l, i, rfl, lx2, hu, fun r hr => by rw [so1 r hr]; exact hi, fun H3 s3 => ?_⟩
      have s23 := s2.trans s3
      have lx3 := lx.same s23
      have hu3 := (mList (mList mInt)).up s3.hid hu
      obtain ⟨b, us, rfl, hb, pb⟩ := hu3
      refine ⟨_, rfl, _, _, rfl, rfl, _, rfl, ?_⟩
      cases ef : Mth.firstAt l i with
      | none =>
        have e1 : fAt l i = -1 := by
          unfold fAt
          rw [ef]
        have e2 : Mth.stepL l i = (l, 0) := by
          unfold Mth.stepL
          rw [ef]
        rw [e1, e2]
        exact iteF ⟨.ref b, some (.int (i : Int)), some (.int (-1)), y5, rfl, s23, b, us, rfl, hb, pb⟩
      | some at0 =>
        obtain ⟨hat, hE⟩ := Mth.firstAt_some ef
        have e1 : fAt l i = (at0 : Int) := by
          unfold fAt
          rw [ef]
        have eg : l.getD at0 [] = l[at0] := by
          rw [List.getD_eq_getElem?_getD, List.getElem?_eq_getElem hat]
          rfl
        have e2 : Mth.stepL l i = ((Mth.without l at0).map fun r => Mth.cleared r l[at0] i, 1) := by
          unfold Mth.stepL
          rw [ef]
          simp only [eg]
        rw [e1, e2]
        obtain ⟨hv, hhv, hhd⟩ := paired_to pb (List.getElem?_eq_getElem hat)
        have lenb := paired_len pb
        rw [decide_eq_true (by omega : (0 : Int) ≤ (at0 : Int))]
        refine iteT ⟨_, rfl, _, rfl, b, us, _, hv, rfl, rfl, SqL.of (hid_at hb), atI_nat hhv, ?_⟩
        refine ⟨_, rfl, _, rfl, at0, rfl, b, us, rfl, SqL.of (hid_at hb), fun p1 n1 => ?_⟩
        have t1 := sameU (o := .lst (cutV us none (some (at0 : Int)))) n1
        refine ⟨_, rfl, _, rfl, _, _, rfl, rfl, (at0 : Int) + 1, rfl, b, us, rfl, SqL.of (t1 _ _ (hid_at hb)), fun p2 n2 => ?_⟩
        have t2 := sameU (o := .lst (cutV us (some ((at0 : Int) + 1)) none)) n2
        rw [show cutV us (some ((at0 : Int) + 1)) none = us.drop (at0 + 1) from cut_from us (at0 + 1), cut_to] at *
        refine ⟨p1, p2, _, _, rfl, rfl, t2 _ _ upd_same, upd_same, ?_, fun p3 n3 => ?_⟩
        · rw [List.length_take, List.length_drop]
          exact Nat.le_of_lt (small1000 (by omega))
        have t3 := sameU (o := .lst (us.take at0 ++ us.drop (at0 + 1))) n3
        have t123 := (t1.trans t2).trans t3
        have s5 := s23.trans t123
        have lx5 := lx.same s5
        have n3' := (t1.trans t2).free n3
        refine ⟨p3, rfl, ⟨_, SqL.of upd_same⟩, fun D nD => lc_map (R := dList dInt) (S := dList dInt) (ds := Mth.without l at0) (f := fun r => Mth.cleared r l[at0] i) (mList mInt) (mList mInt) lx5 nD (hid_put (lx3.out n3')) ?_ ?_ (fun j v d H6 Qe hv6 hd6 s6 l6 hv2 k => ?_) fun H' s' h' => ?_⟩
        · exact paired_app (paired_take _ (paired_mono (fun _ _ => (mList mInt).up t123.hid) pb)) (paired_drop _ (paired_mono (fun _ _ => (mList mInt).up t123.hid) pb))
        · have := Mth.without_len hat
          exact Nat.le_of_lt (small1000 (by omega))
        · have hdm : d ∈ l := Mth.without_mem (List.mem_of_getElem? hd6)
          have hh : dList dInt (hid (D :: X) H6) hv l[at0] := (mList mInt).up ((t123.hid.trans (hid_new nD)).trans s6.hid) hhd
          have ld : d.length = Mth.width rs := so1 d hdm
          have lh : l[at0].length = Mth.width rs := so1 _ (List.getElem_mem hat)
          exact ⟨rfl, _, rfl, _, rfl, _, rfl, D :: X, v, hv, d, l[at0], i, Mth.bx i, rfl, l6, hv2, hh, by omega, by omega, Nat.le_of_lt (small1000 (by omega)), ss d hdm, ss _ (List.getElem_mem hat), bxp, by omega, fun H7 z s7 hz => k z H7 s7 hz⟩
        · refine ⟨_, rfl, _, _, rfl, rfl, .ref D, some (.int (i : Int)), some (.int (at0 : Int)), some hv, rfl, s5.trans s', h'⟩
    · rintro σ H2 ⟨u, y3, y4, y5, rfl, s2, hu⟩
      exact ⟨_, rfl, q H2 s2⟩
end
end Tx
set_option Elab.async false
set_option linter.all false
set_option maxRecDepth 100000
set_option maxHeartbeats 4000000
namespace Tx
open PySem PySem.Spec PyProof.Rows L2
theorem dl_int (p i : Nat) : (if decide (V.int (p : Int) = V.int (i : Int)) = true then (1 : Int) else 0) = Mth.dl p i := by
  unfold Mth.dl
  by_cases h : p = i
  · rw [if_pos h, if_pos (decide_eq_true (by rw [h]))]
  · rw [if_neg h, if_neg]
    intro z
    have := V.int.inj (of_decide_eq_true z)
    omega
theorem le8 {n : Nat} (h : n ≤ 8) : n ≤ sizeLine := Nat.le_of_lt (small1000 (by omega))
section
variable {P : Program} {w : World} {K : PySem.W.Frag} {mg : Str → Option Value} {base : Heap}
/-! ### row_with -/
theorem sc_row_with : FnScope ["size", "one", "other", "place"] ["size", "one", "other"] (defScope s_row_with) := ⟨rfl, rfl, rfl, by decide +kernel, rfl, by decide +kernel, by decide +kernel⟩
def sp_row_with : Sp := fun vs H Q _ => ∃ (X : List Addr) (n i j : Nat), vs = [.int (n : Int), .int (i : Int), .int (j : Int)] ∧ Lives X H ∧ n ≤ 8 ∧ ∀ H' u, Same H H' → dList dInt (hid X H') u (Mth.rowWith n i j) → Q u H'
theorem c_row_with (T : Tt K mg) : Ca P w K mg base 1 "row_with" ["size", "one", "other"] sp_row_with := by
  obtain ⟨fd, F⟩ := T.e_row_with
  refine Ca.mk' F T.g_row_with (okD F sc_row_with (fun vs H Q E h => ?_) fun cdv A outer s H vs Q E hr h => ?_) fun _ _ _ _ _ _ us hl => match us, hl with | [_, _, _], _ => rfl
  · obtain ⟨X, n, i, j, rfl, _⟩ := h
    rfl
  · obtain ⟨X, n, i, j, rfl, lx, hn, q⟩ := h
    have nd := sc_row_with.nd
    refine ⟨_, pss_one (ps_ret (pe_lc (own := [("place", 3)]) (g := gName 3) (tt := tYes) rfl nd (pi_range1 (by rfl) T.b_range (pa_cons (pv 0) pa_nil)) (blkOk_by (N := ["size", "one", "other", "place"]) (sc := defScope s_row_with) (by decide +kernel)) (fun _ _ _ _ _ => pg_name (i := 3) nd rfl (.inl rfl)) (fun _ _ _ _ _ => pts_nil)
      (fun _ _ _ _ _ => pe_op op_sub (pe_callTy call_int1 (by rfl) T.b_int (by decide +kernel) (pa_cons (pe_cmpR op_eq (pv 3) (pv 1) (nomark _)) pa_nil)) (pe_callTy call_int1 (by rfl) T.b_int (by decide +kernel) (pa_cons (pe_cmpR op_eq (pv 3) (pv 2) (nomark _)) pa_nil))))), ?_⟩
    refine ⟨_, rfl, _, rfl, by omega, by omega, fun D nD => lc_mapR (n := n) (f := fun p => Mth.dl p i - Mth.dl p j) mInt lx nD (le8 hn) (fun p v d H2 Qe hv hd s2 l2 hv2 k => ?_) fun H' s' h' => q _ _ s' h'⟩
    have e : v = .int (d : Int) := hv2
    subst e
    refine ⟨rfl, _, rfl, _, rfl, rfl, .inr ⟨_, rfl, _, rfl, _, rfl, rfl, .inr ⟨_, rfl, _, _, rfl, rfl, ?_⟩⟩⟩
    rw [dl_int, dl_int]
    exact k _ H2 (Same.refl _) rfl
/-! ### is_three, want_threes -/
theorem sc_is_three : FnScope ["size", "value", "place"] ["size", "value"] (defScope s_is_three) := ⟨rfl, rfl, rfl, by decide +kernel, rfl, by decide +kernel, by decide +kernel⟩
def sp_is_three : Sp := fun vs H Q _ => ∃ (X : List Addr) (n : Nat) (v : V) (t : Mth.Three), vs = [.int (n : Int), v] ∧ Lives X H ∧ dThree (hid X H) v t ∧ Mth.Good n t ∧ ∀ H', Same H H' → Q (.bl true) H'
theorem c_is_three (T : Tt K mg) : Ca P w K mg base 3 "is_three" ["size", "value"] sp_is_three := by
  obtain ⟨fd, F⟩ := T.e_is_three
  refine Ca.mk' F T.g_is_three (okD F sc_is_three (fun vs H Q E h => ?_) fun cdv A outer s H vs Q E hr h => ?_) fun _ _ _ _ _ _ us hl => match us, hl with | [_, _], _ => rfl
  · obtain ⟨X, n, v, t, rfl, _⟩ := h
    rfl
  · obtain ⟨X, n, v, ⟨i, j, k⟩, rfl, lx, ⟨a, rfl, ha⟩, ⟨g1, g2, g3⟩, q⟩ := h
    simp only at ha g1 g2 g3
    have nd := sc_is_three.nd
    refine ⟨_, pss_cons (ps_if (PW.pt (pw_or (pt_not (pt_val (pe_callB call_isi (by rfl) T.b_isinstance (by decide +kernel) (pa_cons (pv 1) (pa_cons (pe_bltn (v := .ty "tuple") (by rfl) T.b_tuple (by decide +kernel) rfl) pa_nil)))))
        (pw_or (pt_cmpR op_ne (pe_callB call_len_seq (by rfl) T.b_len PySem.boot_len (pa_cons (pv 1) pa_nil)) pe_int (nomark _))
        (pw_or1 (pt_not (pt_val (pe_callB (cr_all rfl) (by rfl) T.b_all (by decide +kernel) (pa_cons (pe_lc (own := [("place", 2)]) (g := gName 2) (tt := tYes) rfl nd (pi_tup (pv 1)) (blkOk_by (N := ["size", "value", "place"]) (sc := defScope s_is_three) (by decide +kernel)) (fun _ _ _ _ _ => pg_name (i := 2) nd rfl (.inl rfl)) (fun _ _ _ _ _ => pts_nil)
          (fun _ _ _ _ _ => pe_c (c_is_count T) hr (by rfl) (pa_cons (pv 2) pa_nil))) pa_nil))))))))
        (pss_one (ps_ret pe_bl)) pss_nil)
      (pss_one (ps_ret (pe_chain3 op_lt op_lt op_lt (pe_ix ix_tup (pv 1) pe_int (fun _ _ => rfl)) (pe_ix ix_tup (pv 1) pe_int (fun _ _ => rfl)) (pe_ix ix_tup (pv 1) pe_int (fun _ _ => rfl)) (pv 0)))), ?_⟩
    have ha' := hid_at ha
    refine ⟨_, rfl, .ref a, .ty "tuple", _, _, true, rfl, .ty _, .base (.tup ha'), kTT, true, rfl, iteF ⟨_, rfl, a, _, rfl, .inr (SqT.of ha'), rfl, false, rfl, iteF ⟨_, rfl, a, rfl, ⟨_, SqT.of ha'⟩, fun D nD => ?_⟩⟩⟩
    refine lc_mapT (X := X) (R := dInt) (S := dBool) (ds := [(i : Int), (j : Int), (k : Int)]) (f := fun _ => true) mBool mInt lx nD ha (.cons rfl (.cons rfl (.cons rfl .nil))) (by show 3 ≤ sizeLine; decide) (fun p v d H2 Qe hv hd s2 l2 hv2 kk => ?_) fun H' s' h' => ?_
    · have e : v = .int d := hv2
      subst e
      have d0 : 0 ≤ d := by
        have := List.mem_of_getElem? hd
        simp only [List.mem_cons, List.not_mem_nil, or_false] at this
        omega
      exact ⟨rfl, _, rfl, d, rfl, d0, kk _ H2 (Same.refl _) rfl⟩
    · obtain ⟨b, us, e, hb, pb⟩ := h'
      cases e
      have eu := paired_bool pb
      subst eu
      have ha2 := s' _ _ ha'
      refine ⟨_, _, rfl, SqL.of (hid_at hb), true, rfl, iteF ⟨_, rfl, a, _, 0, _, rfl, rfl, SqT.of ha2, atI_nat (j := 0) rfl, _, rfl, a, _, 1, _, rfl, rfl, SqT.of ha2, atI_nat (j := 1) rfl, _, _, rfl, rfl, _, rfl, ?_⟩⟩
      rw [decide_eq_true (by omega : (i : Int) < (j : Int))]
      refine iteT ⟨_, rfl, a, _, 2, _, rfl, rfl, SqT.of ha2, atI_nat (j := 2) rfl, _, _, rfl, rfl, _, rfl, ?_⟩
      rw [decide_eq_true (by omega : (j : Int) < (k : Int))]
      exact iteT ⟨_, rfl, _, _, rfl, rfl, dT (Q := Q) (by omega : (k : Int) < (n : Int)) (q _ s')⟩
theorem sc_want_threes : FnScope ["size", "threes", "three"] ["size", "threes"] (defScope s_want_threes) := ⟨rfl, rfl, rfl, by decide +kernel, rfl, by decide +kernel, by decide +kernel⟩
def sp_want_threes : Sp := fun vs H Q _ => ∃ (X : List Addr) (n : Nat) (v : V) (ts : List Mth.Three), vs = [.int (n : Int), v] ∧ Lives X H ∧ n ≤ 8 ∧ dSeq dThree (hid X H) v ts ∧ ts.length ≤ 8 ∧ (∀ t ∈ ts, Mth.Good n t) ∧
  ∀ H' u, Same H H' → dList dThree (hid X H') u ts → Q u H'
theorem c_want_threes (T : Tt K mg) : Ca P w K mg base 4 "want_threes" ["size", "threes"] sp_want_threes := by
  obtain ⟨fd, F⟩ := T.e_want_threes
  obtain ⟨t1, h1⟩ := T.i_MOST_SIZE_threes
  obtain ⟨t2, h2⟩ := T.i_MOST_THREES
  refine Ca.mk' F T.g_want_threes (okD F sc_want_threes (fun vs H Q E h => ?_) fun cdv A outer s H vs Q E hr h => ?_) fun _ _ _ _ _ _ us hl => match us, hl with | [_, _], _ => rfl
  · obtain ⟨X, n, v, t, rfl, _⟩ := h
    rfl
  · obtain ⟨X, n, v, ts, rfl, lx, hn, hv, hl, hg, q⟩ := h
    have nd := sc_want_threes.nd
    refine ⟨_, pss_cons (ps_if (PW.pt (pw_or (pt_not (pt_val (pe_c (c_is_count T) (hr.mono (by decide)) (by rfl) (pa_cons (pv 0) pa_nil)))) (pw_or1 (pt_cmpR op_gt (pv 0) (pe_glob (by rfl) h1 (show RelV (.int 8) _ from ⟨_, rfl⟩)) (nomark _))))) pss_never pss_nil)
      (pss_cons (ps_if (PW.pt (pw_or (pt_not (pt_val (pe_c (c_is_list T) (hr.mono (by decide)) (by rfl) (pa_cons (pv 1) pa_nil))))
        (pw_or (pt_cmpR op_gt (pe_callB call_len_seq (by rfl) T.b_len PySem.boot_len (pa_cons (pv 1) pa_nil)) (pe_glob (by rfl) h2 (show RelV (.int 8) _ from ⟨_, rfl⟩)) (nomark _))
        (pw_or1 (pt_not (pt_val (pe_callB (cr_all rfl) (by rfl) T.b_all (by decide +kernel) (pa_cons (pe_lc (own := [("three", 2)]) (g := gName 2) (tt := tYes) rfl nd (pi_seq (pv 1)) (blkOk_by (N := ["size", "threes", "three"]) (sc := defScope s_want_threes) (by decide +kernel)) (fun _ _ _ _ _ => pg_name (i := 2) nd rfl (.inl rfl)) (fun _ _ _ _ _ => pts_nil)
          (fun _ _ _ _ _ => pe_c (c_is_three T) hr (by rfl) (pa_cons (pv 0) (pa_cons (pv 2) pa_nil)))) pa_nil)))))))) pss_never pss_nil)
      (pss_one (ps_ret (pe_callTy call_list_of (by rfl) T.b_list (by decide +kernel) (pa_cons (pv 1) pa_nil))))), ?_⟩
    refine ⟨_, rfl, n, rfl, by omega, true, rfl, iteF ⟨_, rfl, _, _, rfl, rfl, _, rfl, ?_⟩⟩
    rw [decide_eq_false (by omega : ¬ (8 : Int) < (n : Int))]
    have step : ∀ (H1 : Hp) (D : Addr) (vs : List V) (a : Addr), Same H H1 → H1 D = none → MapStep H1 D dThree dBool X vs ts (fun _ => true) (gName 2) (tCall sp_is_three [] E0 (tCons (tVar 0) (tCons (tVar 2) tNil))) [some (.int (n : Int)), some (.ref a), none] [2] := fun H1 D vs a s1 nD p v d H2 Qe hv hd s2 l2 hv2 kk =>
      ⟨rfl, _, rfl, _, rfl, D :: X, n, v, d, rfl, l2, hv2, hg d (List.mem_of_getElem? hd), fun H3 s3 => kk _ H3 s3 rfl⟩
    have fin : ∀ (H1 : Hp) (D : Addr) (a : Addr) (vs : List V), (hid X H1 a = some (.lst vs) ∨ hid X H1 a = some (.tup vs)) → Same H H1 → Paired (dThree (hid X H1)) vs ts → ∀ l, H1 l = none → Q (.ref l) (upd H1 l (.lst vs)) := fun H1 D a vs ha s1 pp l nl =>
      q _ _ (s1.trans (sameU nl)) ⟨l, vs, rfl, hid_put ((lx.same s1).out nl), paired_mono (fun _ _ => mThree.up (sameU nl).hid) pp⟩
    rcases hv with ⟨a, vs, rfl, ha, hp⟩ | ⟨a, vs, rfl, ha, hp⟩
    · refine iteF ⟨_, rfl, a, vs, rfl, .inl (hid_at ha), fun H1 s1 => ⟨true, rfl, iteF ?_⟩⟩
      have ha1 := s1.hid (X := X) _ _ ha
      have hp1 := paired_mono (fun _ _ => mThree.up s1.hid) hp
      refine ⟨_, rfl, a, vs, rfl, .inl (SqL.of (hid_at ha1)), _, _, rfl, rfl, _, rfl, ?_⟩
      rw [decide_eq_false (by have := paired_len hp; omega : ¬ (8 : Int) < (vs.length : Int))]
      refine iteF ⟨_, rfl, a, rfl, .inl ⟨⟨_, SqL.of (hid_at ha1)⟩, fun D nD => lc_map (X := X) (f := fun _ => true) mBool mThree (lx.same s1) nD ha1 hp1 (le8 hl) (step H1 D vs a s1 nD) fun H' s' h' => ?_⟩⟩
      obtain ⟨b, us, e, hb, pb⟩ := h'
      cases e
      have eu := paired_bool pb
      subst eu
      refine ⟨_, _, rfl, SqL.of (hid_at hb), _, rfl, ?_⟩
      rw [all_true]
      have ha2 := s'.hid (X := X) _ _ ha1
      exact iteF ⟨_, rfl, a, vs, rfl, .inl (SqL.of (hid_at ha2)), fin H' D a vs (.inl ha2) (s1.trans s') (paired_mono (fun _ _ => mThree.up s'.hid) hp1)⟩
    · refine iteF ⟨_, rfl, a, vs, rfl, .inr (hid_at ha), fun H1 s1 => ⟨true, rfl, iteF ?_⟩⟩
      have ha1 := s1.hid (X := X) _ _ ha
      have hp1 := paired_mono (fun _ _ => mThree.up s1.hid) hp
      refine ⟨_, rfl, a, vs, rfl, .inr (SqT.of (hid_at ha1)), _, _, rfl, rfl, _, rfl, ?_⟩
      rw [decide_eq_false (by have := paired_len hp; omega : ¬ (8 : Int) < (vs.length : Int))]
      refine iteF ⟨_, rfl, a, rfl, .inr ⟨⟨_, SqT.of (hid_at ha1)⟩, fun D nD => lc_mapT (X := X) (f := fun _ => true) mBool mThree (lx.same s1) nD ha1 hp1 (le8 hl) (step H1 D vs a s1 nD) fun H' s' h' => ?_⟩⟩
      obtain ⟨b, us, e, hb, pb⟩ := h'
      cases e
      have eu := paired_bool pb
      subst eu
      refine ⟨_, _, rfl, SqL.of (hid_at hb), _, rfl, ?_⟩
      rw [all_true]
      have ha2 := s'.hid (X := X) _ _ ha1
      exact iteF ⟨_, rfl, a, vs, rfl, .inr (SqT.of (hid_at ha2)), fin H' D a vs (.inr ha2) (s1.trans s') (paired_mono (fun _ _ => mThree.up s'.hid) hp1)⟩
end
end Tx
set_option Elab.async false
set_option linter.all false
set_option maxRecDepth 100000
set_option maxHeartbeats 4000000
namespace Tx
open PySem PySem.Spec PyProof.Rows L2
/-- pairs of rows of a size -/
def PrOk (n : Nat) (pr : List (List Int)) : Prop := pr.length = 2 ∧ ∀ r ∈ pr, r.length = n
def pFs (n : Int) (vr vi : V) : List (Str × V) := putF "own_ints" vi (putF "own_size" (.int n) (putF "own_rows" vr []))
theorem pFs_size (n : Int) (vr vi : V) : (pFs n vr vi).lookup ("own_size" : Str) = some (.int n) := by
  unfold pFs
  rw [lookup_putF, if_neg (by decide +kernel), lookup_putF, if_pos rfl]
theorem pFs_rows (n : Int) (vr vi : V) : (pFs n vr vi).lookup ("own_rows" : Str) = some vr := by
  unfold pFs
  rw [lookup_putF, if_neg (by decide +kernel), lookup_putF, if_neg (by decide +kernel), lookup_putF, if_pos rfl]
theorem pFs_ints (n : Int) (vr vi : V) : (pFs n vr vi).lookup ("own_ints" : Str) = some vi := by
  unfold pFs
  rw [lookup_putF, if_pos rfl]
def dLen : Rel Nat := fun G v n => ∃ (a : Addr) (vs : List V), v = .ref a ∧ G a = some (.lst vs) ∧ vs.length = n
/-- a Pairs: its size, its rows as ints -/
def dPairs (K : PySem.W.Frag) : Rel (Nat × List (List (List Int))) := fun G v d => ∃ (a dx : Addr) (vr vi : V), v = .ref a ∧ G a = some (.ins (He.ga K "Pairs") dx (pFs (d.1 : Int) vr vi)) ∧ dLen G vr d.2.length ∧ dList (dTupL (dList dInt)) G vi d.2
theorem mLen : Mono dLen := ⟨fun s ⟨a, vs, e, h, l⟩ => ⟨a, vs, e, s _ _ h, l⟩⟩
theorem mPairs (K : PySem.W.Frag) : Mono (dPairs K) := ⟨fun s ⟨a, dx, vr, vi, e, h, l, d⟩ => ⟨a, dx, vr, vi, e, s _ _ h, mLen.up s l, (mList (mTupL (mList mInt))).up s d⟩⟩
section
variable {P : Program} {w : World} {K : PySem.W.Frag} {mg : Str → Option Value} {base : Heap}
/-! ### is_pair -/
theorem sc_is_pair : FnScope ["value", "size", "row"] ["value", "size"] (defScope s_is_pair) := ⟨rfl, rfl, rfl, by decide +kernel, rfl, by decide +kernel, by decide +kernel⟩
def sp_is_pair : Sp := fun vs H Q _ => ∃ (X : List Addr) (v : V) (n : Nat) (pr : List (List Int)), vs = [v, .int (n : Int)] ∧ Lives X H ∧ n ≤ 8 ∧ dTupL (dList dInt) (hid X H) v pr ∧ PrOk n pr ∧ ∀ H', Same H H' → Q (.bl true) H'
theorem c_is_pair (T : Tt K mg) : Ca P w K mg base 4 "is_pair" ["value", "size"] sp_is_pair := by
  obtain ⟨fd, F⟩ := T.e_is_pair
  refine Ca.mk' F T.g_is_pair (okD F sc_is_pair (fun vs H Q E h => ?_) fun cdv A outer s H vs Q E hr h => ?_) fun _ _ _ _ _ _ us hl => match us, hl with | [_, _], _ => rfl
  · obtain ⟨X, v, n, pr, rfl, _⟩ := h
    rfl
  · obtain ⟨X, v, n, pr, rfl, lx, hn, ⟨a, vs, rfl, ha, hp⟩, ⟨h2, hrow⟩, q⟩ := h
    have nd := sc_is_pair.nd
    refine ⟨_, pss_one (ps_ret (pe_and (pe_c (c_is_list T) (hr.mono (by decide)) (by rfl) (pa_cons (pv 0) pa_nil)) (pe_and (pe_cmpR op_eq (pe_callB call_len_seq (by rfl) T.b_len PySem.boot_len (pa_cons (pv 0) pa_nil)) pe_int (nomark _))
      (pe_one (pe_callB (cr_all rfl) (by rfl) T.b_all (by decide +kernel) (pa_cons (pe_lc (own := [("row", 2)]) (g := gName 2) (tt := tYes) rfl nd (pi_tup (pv 0)) (blkOk_by (N := ["value", "size", "row"]) (sc := defScope s_is_pair) (by decide +kernel)) (fun _ _ _ _ _ => pg_name (i := 2) nd rfl (.inl rfl)) (fun _ _ _ _ _ => pts_nil)
      (fun _ _ _ _ _ => pe_c (c_are_numbers T) hr (by rfl) (pa_cons (pv 2) (pa_cons (pv 1) pa_nil)))) pa_nil)))))), ?_⟩
    refine ⟨_, rfl, a, vs, rfl, .inr (hid_at ha), fun H1 s1 => ⟨true, rfl, ?_⟩⟩
    have h1 := s1.hid (X := X) _ _ ha
    have hp1 := paired_mono (fun _ _ => (mList mInt).up s1.hid) hp
    refine ⟨_, rfl, a, vs, rfl, .inr (SqT.of (hid_at h1)), rfl, true, ?_, ?_⟩
    · rw [paired_len hp, h2]
      rfl
    · refine ⟨_, rfl, a, rfl, ⟨_, SqT.of (hid_at h1)⟩, fun D nD => lc_mapT (R := dList dInt) (S := dBool) (f := fun _ => true) mBool (mList mInt) (lx.same s1) nD h1 hp1 (le8 (by omega)) (fun i v d H2 Qe hv hd s2 l2 hv2 k => ?_) fun H' s' h' => ?_⟩
      · have hdl := hrow d (List.mem_of_getElem? hd)
        refine ⟨rfl, _, rfl, _, rfl, D :: X, v, d, ?_, l2, hv2, le8 (by omega), fun H3 s3 => k _ H3 s3 rfl⟩
        rw [hdl]
        rfl
      · obtain ⟨b, us, e, hb, pb⟩ := h'
        cases e
        have eu := paired_bool pb
        subst eu
        refine ⟨_, _, rfl, SqL.of (hid_at hb), ?_⟩
        rw [all_true]
        exact q _ (s1.trans s')
/-! ### right_pairs -/
theorem sc_right_pairs : FnScope ["size", "value", "pair"] ["size", "value"] (defScope s_right_pairs) := ⟨rfl, rfl, rfl, by decide +kernel, rfl, by decide +kernel, by decide +kernel⟩
def sp_right_pairs (K : PySem.W.Frag) : Sp := fun vs H Q _ => ∃ (X : List Addr) (n : Nat) (v : V) (prs : List (List (List Int))), vs = [.int (n : Int), v] ∧ Lives X H ∧ n ≤ 8 ∧ dList (dTupL (dList dInt)) (hid X H) v prs ∧ prs.length ≤ 8 ∧ (∀ pr ∈ prs, PrOk n pr) ∧
  ∀ H' u, Same H H' → dList (dTupL (dList (dRat K))) (hid X H') u prs → Q u H'
theorem c_right_pairs (T : Tt K mg) : Ca P w K mg base 7 "right_pairs" ["size", "value"] (sp_right_pairs K) := by
  obtain ⟨fd, F⟩ := T.e_right_pairs
  obtain ⟨t1, h1⟩ := T.i_MOST_SIZE_pairs
  obtain ⟨t2, h2⟩ := T.i_MOST_PAIRS
  refine Ca.mk' F T.g_right_pairs (okD F sc_right_pairs (fun vs H Q E h => ?_) fun cdv A outer s H vs Q E hr h => ?_) fun _ _ _ _ _ _ us hl => match us, hl with | [_, _], _ => rfl
  · obtain ⟨X, n, v, t, rfl, _⟩ := h
    rfl
  · obtain ⟨X, n, v, prs, rfl, lx, hn, ⟨a, vs, rfl, ha, hp⟩, hl, hg, q⟩ := h
    have nd := sc_right_pairs.nd
    refine ⟨_, pss_cons (ps_if (PW.pt (pw_or (pt_not (pt_val (pe_c (c_is_count T) (hr.mono (by decide)) (by rfl) (pa_cons (pv 0) pa_nil)))) (pw_or1 (pt_cmpR op_gt (pv 0) (pe_glob (by rfl) h1 (show RelV (.int 8) _ from ⟨_, rfl⟩)) (nomark _))))) pss_never pss_nil)
      (pss_cons (ps_if (PW.pt (pw_or (pt_not (pt_val (pe_c (c_is_list T) (hr.mono (by decide)) (by rfl) (pa_cons (pv 1) pa_nil))))
        (pw_or (pt_cmpR op_gt (pe_callB call_len_seq (by rfl) T.b_len PySem.boot_len (pa_cons (pv 1) pa_nil)) (pe_glob (by rfl) h2 (show RelV (.int 8) _ from ⟨_, rfl⟩)) (nomark _))
        (pw_or1 (pt_not (pt_val (pe_callB (cr_all rfl) (by rfl) T.b_all (by decide +kernel) (pa_cons (pe_lc (own := [("pair", 2)]) (g := gName 2) (tt := tYes) rfl nd (pi_list (pv 1)) (blkOk_by (N := ["size", "value", "pair"]) (sc := defScope s_right_pairs) (by decide +kernel)) (fun _ _ _ _ _ => pg_name (i := 2) nd rfl (.inl rfl)) (fun _ _ _ _ _ => pts_nil)
          (fun _ _ _ _ _ => pe_c (c_is_pair T) (hr.mono (by decide)) (by rfl) (pa_cons (pv 2) (pa_cons (pv 0) pa_nil)))) pa_nil)))))))) pss_never pss_nil)
      (pss_one (ps_ret (pe_lc (own := [("pair", 2)]) (g := gName 2) (tt := tYes) (te := tTup (tCons (tCall (sp_ratios_of K) [] E0 (tCons (tOp (rIxT K) (tVar 2) (tC (.int 0))) tNil)) (tCons (tCall (sp_ratios_of K) [] E0 (tCons (tOp (rIxT K) (tVar 2) (tC (.int 1))) tNil)) tNil))) rfl nd (pi_list (pv 1))
        (blkOk_by (N := ["size", "value", "pair"]) (sc := defScope s_right_pairs) (by decide +kernel)) (fun _ _ _ _ _ => pg_name (i := 2) nd rfl (.inl rfl)) (fun _ _ _ _ _ => pts_nil)
        (fun _ _ _ _ _ => pe_tup (pa_cons (pe_c (c_ratios_of T) hr (by rfl) (pa_cons (pe_ix ix_tup (pv 2) pe_int (fun _ _ => rfl)) pa_nil)) (pa_cons (pe_c (c_ratios_of T) hr (by rfl) (pa_cons (pe_ix ix_tup (pv 2) pe_int (fun _ _ => rfl)) pa_nil)) pa_nil))))))), ?_⟩
    refine ⟨_, rfl, n, rfl, by omega, true, rfl, iteF ⟨_, rfl, _, _, rfl, rfl, _, rfl, ?_⟩⟩
    rw [decide_eq_false (by omega : ¬ (8 : Int) < (n : Int))]
    refine iteF ⟨_, rfl, a, vs, rfl, .inl (hid_at ha), fun H1 s1 => ⟨true, rfl, iteF ?_⟩⟩
    have ha1 := s1.hid (X := X) _ _ ha
    have hp1 := paired_mono (fun _ _ => (mTupL (mList mInt)).up s1.hid) hp
    refine ⟨_, rfl, a, vs, rfl, .inl (SqL.of (hid_at ha1)), _, _, rfl, rfl, _, rfl, ?_⟩
    rw [decide_eq_false (by have := paired_len hp; omega : ¬ (8 : Int) < (vs.length : Int))]
    refine iteF ⟨_, rfl, a, rfl, ⟨_, SqL.of (hid_at ha1)⟩, fun D nD => lc_map (R := dTupL (dList dInt)) (S := dBool) (f := fun _ => true) mBool (mTupL (mList mInt)) (lx.same s1) nD ha1 hp1 (le8 hl) (fun i v d H2 Qe hv hd s2 l2 hv2 k => ?_) fun H2 s2 h2' => ?_⟩
    · exact ⟨rfl, _, rfl, _, rfl, D :: X, v, n, d, rfl, l2, hn, hv2, hg d (List.mem_of_getElem? hd), fun H3 s3 => k _ H3 s3 rfl⟩
    · obtain ⟨b, us, e, hb, pb⟩ := h2'
      cases e
      have eu := paired_bool pb
      subst eu
      refine ⟨_, _, rfl, SqL.of (hid_at hb), _, rfl, ?_⟩
      rw [all_true]
      have ha2 := s2.hid (X := X) _ _ ha1
      have hp2 := paired_mono (fun _ _ => (mTupL (mList mInt)).up s2.hid) hp1
      have s12 := s1.trans s2
      refine iteF ⟨_, rfl, a, rfl, ⟨_, SqL.of (hid_at ha2)⟩, fun D2 nD2 => lc_map (R := dTupL (dList dInt)) (S := dTupL (dList (dRat K))) (f := id) (mTupL (mList (mRat K))) (mTupL (mList mInt)) (lx.same s12) nD2 ha2 hp2 (le8 hl) (fun i v d H3 Qe hv hd s3 l3 hv3 k => ?_) fun H' s' h' => ?_⟩
      · obtain ⟨e2, erow⟩ := hg d (List.mem_of_getElem? hd)
        obtain ⟨c, ws, rfl, hc, pc⟩ := hv3
        match d, ws, pc, e2, erow, hc, k with
        | [r0, r1], [w0, w1], .cons p0 (.cons p1 .nil), _, erow, hc, k =>
          have n0 : dList (dNum K) (hid (D2 :: X) H3) w0 r0 := by
            obtain ⟨b0, u0, e0, hb0, pb0⟩ := p0
            exact ⟨b0, u0, e0, hb0, paired_mono (fun _ _ h => .inl h) pb0⟩
          refine ⟨rfl, _, rfl, c, _, 0, w0, rfl, rfl, SqT.of (hid_at hc), atI_nat (j := 0) rfl, D2 :: X, w0, r0, rfl, l3, n0, le8 (by have := erow r0 (by simp); omega), fun H4 z0 s4 hz0 => ?_⟩
          have n1 : dList (dNum K) (hid (D2 :: X) H4) w1 r1 := by
            obtain ⟨b0, u0, e0, hb0, pb0⟩ := (mList mInt).up s4.hid p1
            exact ⟨b0, u0, e0, hb0, paired_mono (fun _ _ h => .inl h) pb0⟩
          refine ⟨_, rfl, c, _, 1, w1, rfl, rfl, SqT.of (s4 _ _ (hid_at hc)), atI_nat (j := 1) rfl, D2 :: X, w1, r1, rfl, l3.same s4, n1, le8 (by have := erow r1 (by simp); omega), fun H5 z1 s5 hz1 => ?_⟩
          refine ⟨(by show 2 ≤ sizeLine; decide), fun p np => ?_⟩
          have s45 := (s4.trans s5).trans (sameU (o := .tup [z0, z1]) np)
          refine k _ _ s45 ⟨p, [z0, z1], rfl, hid_put ((l3.same (s4.trans s5)).out np), .cons ((mList (mRat K)).up (s5.trans (sameU np)).hid hz0) (.cons ((mList (mRat K)).up (sameU np).hid hz1) .nil)⟩
      · rw [List.map_id] at h'
        exact q _ _ (s12.trans s') h'
end
end Tx
set_option Elab.async false
set_option linter.all false
set_option maxRecDepth 100000
set_option maxHeartbeats 4000000
namespace Tx
open PySem PySem.Spec PyProof.Rows L2
section
variable {P : Program} {w : World} {K : PySem.W.Frag} {mg : Str → Option Value} {base : Heap}
/-! ### Pairs.__init__ -/
theorem sc_Pairs_init : FnScope ["self", "size", "rows", "pair"] ["self", "size", "rows"] (defScope s_Pairs_init) := ⟨rfl, rfl, rfl, by decide +kernel, rfl, by decide +kernel, by decide +kernel⟩
def sp_Pairs_init (K : PySem.W.Frag) : Sp := fun vs H Q _ => ∃ (X : List Addr) (p dx : Addr) (n : Nat) (v : V) (prs : List (List (List Int))), vs = [.ref p, .int (n : Int), v] ∧ p ∈ X ∧ Lives X H ∧ H p = some (.ins (He.ga K "Pairs") dx []) ∧ n ≤ 8 ∧ dList (dTupL (dList dInt)) (hid X H) v prs ∧ prs.length ≤ 8 ∧ (∀ pr ∈ prs, PrOk n pr) ∧
  ∀ (H' : Hp) (vr vi : V), (∀ b o, H b = some o → b ≠ p → H' b = some o) → H' p = some (.ins (He.ga K "Pairs") dx (pFs (n : Int) vr vi)) → dLen (hid X H') vr prs.length → dList (dTupL (dList dInt)) (hid X H') vi prs → Q .non H'
theorem ok_Pairs_init (T : Tt K mg) {f : Addr} {fd : FuncData} (F : FnP K d_Pairs_init f fd) : FnOk P w K mg base CX0 8 f fd ["self", "size", "rows"] (sp_Pairs_init K) := by
  refine okD F sc_Pairs_init (fun vs H Q E h => ?_) fun cdv A outer s H vs Q E hr h => ?_
  · obtain ⟨X, p, dx, n, v, prs, rfl, _⟩ := h
    rfl
  · obtain ⟨X, p, dx, n, v, prs, rfl, pX, lx, hp, hn, hv, hl, hg, q⟩ := h
    have nd := sc_Pairs_init.nd
    refine ⟨_, pss_cons (ps_if (pt_val (pe_callB call_isi (by rfl) T.b_isinstance (by decide +kernel) (pa_cons (pv 1) (pa_cons (pe_glob (by rfl) T.g_Known (show RelV (.ref _) _ from rfl)) pa_nil)))) pss_never
        (pss_cons (ps_fld (pv 0) (pe_c (c_right_pairs T) hr (by rfl) (pa_cons (pv 1) (pa_cons (pv 2) pa_nil))) rfl) (pss_one (ps_fld (pv 0) (pv 1) rfl))))
      (pss_one (ps_fld (pv 0) (pe_lc (own := [("pair", 3)]) (g := gName 3) (tt := tYes) (te := tCB (fun xs H Q => ∃ p ys, xs = [V.ref p] ∧ ((SqL K H p ys ∧ ∀ l, H l = none → Q (.ref l) (upd H l (.tup ys))) ∨ (SqT K H p ys ∧ Q (.ref p) H)))
          (tCons (tCall (sp_ints_of K) [] E0 (tCons (tCB (fun xs H Q => ∃ p ys, xs = [V.ref p] ∧ (SqL K H p ys ∨ SqT K H p ys) ∧ ∀ l, H l = none → Q (.ref l) (upd H l (.lst ys))) (tCons (tVar 3) tNil)) tNil)) tNil)) rfl nd (pi_list (pe_fld (pv 0) rfl))
        (blkOk_by (N := ["self", "size", "rows", "pair"]) (sc := defScope s_Pairs_init) (by decide +kernel)) (fun _ _ _ _ _ => pg_name (i := 3) nd rfl (.inl rfl)) (fun _ _ _ _ _ => pts_nil)
        (fun _ _ _ _ _ => pe_callTy call_tuple_of (by rfl) T.b_tuple (by decide +kernel) (pa_cons (pe_c (c_ints_of T) hr (by rfl) (pa_cons (pe_callTy call_list_of (by rfl) T.b_list (by decide +kernel) (pa_cons (pv 3) pa_nil)) pa_nil)) pa_nil))) rfl)), ?_⟩
    refine ⟨_, rfl, .int n, .ref _, _, _, false, rfl, .own _, .base (.int (n : Int)), T.kIK, false, rfl, iteF ?_⟩
    refine ⟨_, rfl, _, rfl, X, n, v, prs, rfl, lx, hn, hv, hl, hg, fun H1 vr s1 hvr => ?_⟩
    have hp1 := s1 _ _ hp
    refine ⟨_, rfl, p, _, dx, _, rfl, hp1, T.cl_Pairs, T.n_own_rows, (by show 0 < 1000; decide), ?_⟩
    have m1 : Same (hid X H1) (hid X (upd H1 p (.ins (He.ga K "Pairs") dx (putF "own_rows" vr [])))) := hid_upd pX
    refine ⟨_, rfl, _, rfl, p, _, dx, _, rfl, upd_same, T.cl_Pairs, T.n_own_size, (by show 1 < 1000; decide), ?_⟩
    rw [upd_upd]
    have m2 : Same (hid X H1) (hid X (upd H1 p (.ins (He.ga K "Pairs") dx (putF "own_size" (.int (n : Int)) (putF "own_rows" vr []))))) := hid_upd pX
    have lx2 : Lives X (upd H1 p (.ins (He.ga K "Pairs") dx (putF "own_size" (.int (n : Int)) (putF "own_rows" vr [])))) := (lx.same s1).upd
    have k2 : ∀ b o, H b = some o → b ≠ p → (upd H1 p (.ins (He.ga K "Pairs") dx (putF "own_size" (.int (n : Int)) (putF "own_rows" vr [])))) b = some o := fun b o e hb => by
      rw [upd_ne hb]
      exact s1 _ _ e
    have e2 : (upd H1 p (.ins (He.ga K "Pairs") dx (putF "own_size" (.int (n : Int)) (putF "own_rows" vr [])))) p = some (.ins (He.ga K "Pairs") dx (putF "own_size" (.int (n : Int)) (putF "own_rows" vr []))) := upd_same
    have hvr2 := (mList (mTupL (mList (mRat K)))).up m2 hvr
    generalize upd H1 p (.ins (He.ga K "Pairs") dx (putF "own_size" (.int (n : Int)) (putF "own_rows" vr []))) = H2 at lx2 k2 e2 hvr2 ⊢
    obtain ⟨a, vs, rfl, ha, hpa⟩ := hvr2
    have lr : List.lookup ("own_rows" : Str) (putF "own_size" (V.int (n : Int)) (putF "own_rows" (V.ref a) [])) = some (V.ref a) := by
      rw [lookup_putF, if_neg (by decide +kernel), lookup_putF, if_pos rfl]
    refine ⟨_, rfl, p, _, dx, _, _, rfl, e2, T.cl_Pairs, T.n_own_rows, lr, a, rfl, ⟨_, SqL.of (hid_at ha)⟩, fun D nD => lc_map (R := dTupL (dList (dRat K))) (S := dTupL (dList dInt)) (f := id) (mTupL (mList mInt)) (mTupL (mList (mRat K))) lx2 nD ha hpa (le8 hl) (fun i v d H3 Qe hv hd s3 l3 hv3 k => ?_) fun H' s' h' => ?_⟩
    · obtain ⟨eh2, erow⟩ := hg d (List.mem_of_getElem? hd)
      obtain ⟨c, ws, rfl, hc, pc⟩ := hv3
      refine ⟨rfl, _, rfl, c, ws, rfl, .inr (SqT.of (hid_at hc)), fun l nl => ?_⟩
      have sl := sameU (o := .lst ws) nl
      refine ⟨D :: X, .ref l, d, rfl, l3.same sl, ⟨l, ws, rfl, hid_put (l3.out nl), paired_mono (fun _ _ => (mList (mRat K)).up sl.hid) pc⟩, le8 (by omega), fun r hr => le8 (by rw [erow r hr]; exact hn), fun H4 u s4 hu => ?_⟩
      obtain ⟨b, us, rfl, hb, pb⟩ := hu
      refine ⟨b, us, rfl, .inl ⟨SqL.of (hid_at hb), fun t nt => ?_⟩⟩
      have st := sameU (o := .tup us) nt
      exact k _ _ ((sl.trans s4).trans st) ⟨t, us, rfl, hid_put ((l3.same (sl.trans s4)).out nt), paired_mono (fun _ _ => (mList mInt).up st.hid) pb⟩
    · rw [List.map_id] at h'
      have e3 := s' _ _ e2
      refine ⟨_, rfl, p, _, dx, _, rfl, e3, T.cl_Pairs, T.n_own_ints, (by show 2 < 1000; decide), ?_⟩
      have m3 : Same (hid X H') (hid X (upd H' p (.ins (He.ga K "Pairs") dx (pFs (n : Int) (.ref a) (.ref D))))) := hid_upd pX
      refine q _ (.ref a) (.ref D) (fun b o e hb => ?_) upd_same (mLen.up ((s'.hid (X := X)).trans m3) ⟨a, vs, rfl, ha, paired_len hpa⟩) ((mList (mTupL (mList mInt))).up m3 h')
      rw [upd_ne hb]
      exact s' _ _ (k2 b o e hb)
theorem b_Pairs_init {f : Addr} {fd : FuncData} (F : FnP K d_Pairs_init f fd) : ∃ ds, Vals [] ds ∧ Binds K fd ["self", "size", "rows"] ds :=
  FunD.binds1 (F := F) 3 1 (List.cons_ne_nil _ _) rfl fun _ _ _ _ _ _ _ us its h1 h2 => match us, its, h1, h2 with | [_, _, _], [_], _, _ => ⟨_, rfl, rfl⟩
/-! ### want_pairs, three_pairs -/
theorem sc_want_pairs : FnScope ["value"] ["value"] (defScope s_want_pairs) := ⟨rfl, rfl, rfl, by decide +kernel, rfl, by decide +kernel, by decide +kernel⟩
def sp_want_pairs (K : PySem.W.Frag) : Sp := fun vs H Q _ => ∃ (a dx : Addr) (fs : List (Str × V)), vs = [.ref a] ∧ H a = some (.ins (He.ga K "Pairs") dx fs) ∧ Q (.ref a) H
theorem c_want_pairs (T : Tt K mg) : Ca P w K mg base 1 "want_pairs" ["value"] (sp_want_pairs K) := by
  obtain ⟨fd, F⟩ := T.e_want_pairs
  refine Ca.mk' F T.g_want_pairs (okD F sc_want_pairs (fun vs H Q E h => ?_) fun cdv A outer s H vs Q E hr h => ?_) fun _ _ _ _ _ _ us hl => match us, hl with | [_], _ => rfl
  · obtain ⟨a, dx, fs, rfl, _⟩ := h
    rfl
  · obtain ⟨a, dx, fs, rfl, ha, q⟩ := h
    refine ⟨_, pss_cons (ps_if (pt_not (pt_val (pe_callB call_isi (by rfl) T.b_isinstance (by decide +kernel) (pa_cons (pv 0) (pa_cons (pe_glob (by rfl) T.g_Pairs (show RelV (.ref _) _ from rfl)) pa_nil))))) pss_never pss_nil) (pss_one (ps_ret (pv 0))), ?_⟩
    exact ⟨_, rfl, .ref a, .ref _, _, _, true, rfl, .own _, T.insP ha, T.kPP, true, rfl, iteF ⟨_, rfl, q⟩⟩
theorem sc_three_pairs : FnScope ["size", "threes", "told", "i", "j", "k"] ["size", "threes"] (defScope s_three_pairs) := ⟨rfl, rfl, rfl, by decide +kernel, rfl, by decide +kernel, by decide +kernel⟩
/-- the rows of a three -/
def prOf (n : Nat) (t : Mth.Three) : List (List Int) := [Mth.rowWith n t.1 t.2.1, Mth.rowWith n t.1 t.2.2]
def sp_three_pairs (K : PySem.W.Frag) : Sp := fun vs H Q _ => ∃ (X : List Addr) (n : Nat) (v : V) (ts : List Mth.Three), vs = [.int (n : Int), v] ∧ Lives X H ∧ n ≤ 8 ∧ dSeq dThree (hid X H) v ts ∧ ts.length ≤ 8 ∧ (∀ t ∈ ts, Mth.Good n t) ∧
  ∀ H' u, Same H H' → dPairs K (hid X H') u (n, ts.map (prOf n)) → Q u H'
theorem c_three_pairs (T : Tt K mg) : Ca P w K mg base 10 "three_pairs" ["size", "threes"] (sp_three_pairs K) := by
  obtain ⟨fd, F⟩ := T.e_three_pairs
  obtain ⟨fdP, FP⟩ := T.e_Pairs_init
  obtain ⟨ds, hd, hb⟩ := b_Pairs_init FP
  refine Ca.mk' F T.g_three_pairs (okD F sc_three_pairs (fun vs H Q E h => ?_) fun cdv A outer s H vs Q E hr h => ?_) fun _ _ _ _ _ _ us hl => match us, hl with | [_, _], _ => rfl
  · obtain ⟨X, n, v, t, rfl, _⟩ := h
    rfl
  · obtain ⟨X, n, v, ts, rfl, lx, hn, hv, hl, hg, q⟩ := h
    have nd := sc_three_pairs.nd
    refine ⟨_, pss_cons (ps_set (i := 2) nd rfl (.inl rfl) (pe_c (c_want_threes T) (hr.mono (by decide)) (by rfl) (pa_cons (pv 0) (pa_cons (pv 1) pa_nil))))
      (pss_one (ps_ret (pe_make T.m_Pairs (ok_Pairs_init T FP) hr (by rfl) T.g_Pairs hb hd pass0 (pa_cons (pv 0) (pa_cons (pe_lc (own := [("i", 3), ("j", 4), ("k", 5)]) (g := gTup K 3 (gCons (gName 3) (gCons (gName 4) (gCons (gName 5) gNil)))) (tt := tYes)
        (te := tTup (tCons (tCall sp_row_with [] E0 (tCons (tVar 0) (tCons (tVar 3) (tCons (tVar 4) tNil)))) (tCons (tCall sp_row_with [] E0 (tCons (tVar 0) (tCons (tVar 3) (tCons (tVar 5) tNil)))) tNil))) rfl nd (pi_list (pv 2))
        (blkOk_by (N := ["size", "threes", "told", "i", "j", "k"]) (sc := defScope s_three_pairs) (by decide +kernel))
        (fun _ _ _ _ _ => pg_tup rfl (pgs_cons (pg_name (i := 3) nd rfl (.inl rfl)) (pgs_cons (pg_name (i := 4) nd rfl (.inl rfl)) (pgs_cons (pg_name (i := 5) nd rfl (.inl rfl)) pgs_nil)))) (fun _ _ _ _ _ => pts_nil)
        (fun _ _ _ _ _ => pe_tup (pa_cons (pe_c (c_row_with T) (hr.mono (by decide)) (by rfl) (pa_cons (pv 0) (pa_cons (pv 3) (pa_cons (pv 4) pa_nil)))) (pa_cons (pe_c (c_row_with T) (hr.mono (by decide)) (by rfl) (pa_cons (pv 0) (pa_cons (pv 3) (pa_cons (pv 5) pa_nil)))) pa_nil)))) pa_nil))))), ?_⟩
    refine ⟨_, rfl, _, rfl, X, n, v, ts, rfl, lx, hn, hv, hl, hg, fun H1 u s1 hu => ?_⟩
    obtain ⟨a, vs, rfl, ha, hp⟩ := hu
    refine ⟨_, rfl, _, rfl, a, rfl, ⟨_, SqL.of (hid_at ha)⟩, fun D nD => lc_map (R := dThree) (S := dTupL (dList dInt)) (f := prOf n) (mTupL (mList mInt)) mThree (lx.same s1) nD ha hp (le8 hl) (fun i v d H3 Qe hv hd s3 l3 hv3 k => ?_) fun H2 s2 h2 => ?_⟩
    · obtain ⟨c, rfl, hc⟩ := hv3
      refine ⟨c, _, rfl, SqT.of (hid_at hc), rfl, _, _, rfl, _, _, rfl, _, _, rfl, rfl, rfl, _, rfl, _, rfl, _, rfl, D :: X, n, d.1, d.2.1, rfl, l3, hn, fun H4 z0 s4 hz0 => ?_⟩
      refine ⟨_, rfl, _, rfl, _, rfl, D :: X, n, d.1, d.2.2, rfl, l3.same s4, hn, fun H5 z1 s5 hz1 => ?_⟩
      refine ⟨(by show 2 ≤ sizeLine; decide), fun p np => ?_⟩
      have s45 := (s4.trans s5).trans (sameU (o := .tup [z0, z1]) np)
      exact k _ _ s45 ⟨p, [z0, z1], rfl, hid_put ((l3.same (s4.trans s5)).out np), .cons ((mList mInt).up (s5.trans (sameU np)).hid hz0) (.cons ((mList mInt).up (sameU np).hid hz1) .nil)⟩
    · intro x dx nx ndx nex
      have sx : Same H2 (upd (upd H2 dx (.own x)) x (.ins (He.ga K "Pairs") dx [])) := fun b o e => by
        rw [upd_ne (ne_of_none e nx), upd_ne (ne_of_none e ndx)]
        exact e
      have lx2 := (lx.same (s1.trans s2)).same sx
      have mx : Same (hid X H2) (hid (x :: X) (upd (upd H2 dx (.own x)) x (.ins (He.ga K "Pairs") dx []))) := (hid_new nx).trans sx.hid
      refine ⟨x :: X, x, dx, n, .ref D, ts.map (prOf n), rfl, List.mem_cons_self, lx2.cons upd_same, upd_same, hn, (mList (mTupL (mList mInt))).up mx h2, by rw [List.length_map]; exact hl, fun pr hpr => ?_, fun H' vr vi k e hr' hi' => ⟨rfl, ?_⟩⟩
      · obtain ⟨t, _, rfl⟩ := List.mem_map.mp hpr
        refine ⟨rfl, fun r hr => ?_⟩
        unfold prOf at hr
        simp only [List.mem_cons, List.not_mem_nil, or_false] at hr
        rcases hr with rfl | rfl
        · exact Mth.rowWith_len _ _ _
        · exact Mth.rowWith_len _ _ _
      · have s' : Same H H' := (s1.trans s2).trans (Same.made nx ndx k)
        exact q _ _ s' ⟨x, dx, vr, vi, rfl, hid_some.mpr ⟨(lx.same (s1.trans s2)).out nx, e⟩, mLen.up hid_tail hr', (mList (mTupL (mList mInt))).up hid_tail hi'⟩
end
end Tx
set_option Elab.async false
set_option linter.all false
set_option maxRecDepth 100000
set_option maxHeartbeats 4000000
namespace Tx
open PySem PySem.Spec PyProof.Rows L2
/-- None, or a datum -/
def dOpt {α : Type} (R : Rel α) : Rel (Option α) := fun G v o => match o with
  | none => v = .non
  | some d => R G v d
theorem in3 (q a b c : Nat) : inV (V.int (q : Int)) [V.int (a : Int), V.int (b : Int), V.int (c : Int)] = decide (q = a ∨ q = b ∨ q = c) := by
  unfold inV
  show (((a : Int) == (q : Int)) || (((b : Int) == (q : Int)) || (((c : Int) == (q : Int)) || false))) = _
  rw [Bool.or_false]
  have e : ∀ x : Nat, ((x : Int) == (q : Int)) = decide (q = x) := fun x => by
    by_cases h : q = x
    · rw [h]
      simp
    · rw [decide_eq_false h]
      exact beq_eq_false_iff_ne.mpr (by omega)
  rw [e, e, e]
  by_cases h1 : q = a <;> by_cases h2 : q = b <;> by_cases h3 : q = c <;> simp [h1, h2, h3]
theorem dec_nat (a b : Nat) : decide (V.int (a : Int) = V.int (b : Int)) = decide (a = b) := by
  by_cases h : a = b
  · rw [h]
    simp
  · rw [decide_eq_false h, decide_eq_false]
    intro z
    have := V.int.inj z
    omega
section
variable {P : Program} {w : World} {K : PySem.W.Frag} {mg : Str → Option Value} {base : Heap}
/-! ### put_on -/
theorem sc_put_on : FnScope ["pieces", "three", "marks", "place", "piece"] ["pieces", "three"] (defScope s_put_on) := ⟨rfl, rfl, rfl, by decide +kernel, rfl, by decide +kernel, by decide +kernel⟩
def sp_put_on : Sp := fun vs H Q _ => ∃ (X : List Addr) (v u : V) (p : List Nat) (t : Mth.Three) (n : Nat), vs = [v, u] ∧ Lives X H ∧ dList dNat (hid X H) v p ∧ dThree (hid X H) u t ∧ p.length = n ∧ Mth.Good n t ∧ n ≤ 8 ∧
  ∀ H' z, Same H H' → dOpt (dList dNat) (hid X H') z (Mth.putBy Mth.chF p t) → Q z H'
theorem c_put_on (T : Tt K mg) : Ca P w K mg base 1 "put_on" ["pieces", "three"] sp_put_on := by
  obtain ⟨fd, F⟩ := T.e_put_on
  refine Ca.mk' F T.g_put_on (okD F sc_put_on (fun vs H Q E h => ?_) fun cdv A outer s H vs Q E hr h => ?_) fun _ _ _ _ _ _ us hl => match us, hl with | [_, _], _ => rfl
  · obtain ⟨X, v, u, p, t, n, rfl, _⟩ := h
    rfl
  · obtain ⟨X, v, u, p, ⟨i, j, k⟩, n, rfl, lx, ⟨a, vs, rfl, ha, hp⟩, ⟨b, rfl, hb⟩, hpn, ⟨g1, g2, g3⟩, hn, q⟩ := h
    simp only at hb g1 g2 g3
    have nd := sc_put_on.nd
    have ev := paired_nat hp
    subst ev
    refine ⟨_, pss_cons (ps_set (i := 2) nd rfl (.inr rfl) (pe_lc (own := [("place", 3)]) (g := gName 3) (tt := tYes) (te := tOp (rIxL K) (tVar 0) (tVar 3)) rfl nd (pi_tup (pv 1)) (blkOk_by (N := ["pieces", "three", "marks", "place", "piece"]) (sc := defScope s_put_on) (by decide +kernel)) (fun _ _ _ _ _ => pg_name (i := 3) nd rfl (.inl rfl)) (fun _ _ _ _ _ => pts_nil)
        (fun _ _ _ _ _ => pe_ix ix_list (pv 0) (pv 3) (fun _ _ => rfl))))
      (pss_cons (ps_if (PW.pt (pw_or (pt_cmpR op_eq (pe_ix ix_list (pv 2) pe_int (fun _ _ => rfl)) (pe_ix ix_list (pv 2) pe_int (fun _ _ => rfl)) (nomark _)) (pw_or (pt_cmpR op_eq (pe_ix ix_list (pv 2) pe_int (fun _ _ => rfl)) (pe_ix ix_list (pv 2) pe_int (fun _ _ => rfl)) (nomark _)) (pw_or1 (pt_cmpR op_eq (pe_ix ix_list (pv 2) pe_int (fun _ _ => rfl)) (pe_ix ix_list (pv 2) pe_int (fun _ _ => rfl)) (nomark _)))))) (pss_one (ps_ret pe_non)) pss_nil)
      (pss_one (ps_ret (pe_lc (own := [("piece", 4)]) (g := gName 4) (tt := tYes) (te := tIf (tTest (tOp (rIn K false) (tVar 4) (tVar 2))) (tOp (rIxL K) (tVar 2) (tC (.int 0))) (tVar 4)) rfl nd (pi_list (pv 0)) (blkOk_by (N := ["pieces", "three", "marks", "place", "piece"]) (sc := defScope s_put_on) (by decide +kernel)) (fun _ _ _ _ _ => pg_name (i := 4) nd rfl (.inl rfl)) (fun _ _ _ _ _ => pts_nil)
        (fun _ _ _ _ _ => pe_ifExp (pt_cmpR op_in_seq (pv 4) (pv 2) (by rfl)) (pe_ix ix_list (pv 2) pe_int (fun _ _ => rfl)) (pv 4)))))), ?_⟩
    have hat : ∀ x : Nat, x < n → atI (p.map fun (i : Nat) => V.int (i : Int)) (x : Int) = some (.int (Mth.P p x : Nat)) := fun x hx => atI_nat (by
      have hx' : x < p.length := by omega
      rw [List.getElem?_map, List.getElem?_eq_getElem hx']
      unfold Mth.P
      rw [List.getD_eq_getElem?_getD, List.getElem?_eq_getElem hx']
      rfl)
    refine ⟨_, rfl, b, rfl, ⟨_, SqT.of (hid_at hb)⟩, fun D nD => lc_mapT (X := X) (R := dNat) (S := dNat) (ds := [i, j, k]) (f := Mth.P p) mNat mNat lx nD hb (.cons rfl (.cons rfl (.cons rfl .nil))) (by show 3 ≤ sizeLine; decide) (fun q v d H2 Qe hv hd s2 l2 hv2 kk => ?_) fun H1 s1 h1 => ?_⟩
    · have e : v = .int (d : Int) := hv2
      subst e
      have dn : d < n := by
        have := List.mem_of_getElem? hd
        simp only [List.mem_cons, List.not_mem_nil, or_false] at this
        omega
      exact ⟨rfl, _, rfl, _, rfl, a, _, d, _, rfl, rfl, SqL.of (s2 _ _ (hid_at ha)), hat d dn, kk _ H2 (Same.refl _) rfl⟩
    · obtain ⟨c, us, ec, hc, pc⟩ := h1
      cases ec
      have eu := paired_nat pc
      have eu : us = [V.int (Mth.P p i : Nat), V.int (Mth.P p j : Nat), V.int (Mth.P p k : Nat)] := eu
      subst eu
      have hC : SqL K H1 D [V.int (Mth.P p i : Nat), V.int (Mth.P p j : Nat), V.int (Mth.P p k : Nat)] := SqL.of (hid_at hc)
      have m0 : atI [V.int (Mth.P p i : Nat), V.int (Mth.P p j : Nat), V.int (Mth.P p k : Nat)] 0 = some (V.int (Mth.P p i : Nat)) := atI_nat (j := 0) rfl
      have m1 : atI [V.int (Mth.P p i : Nat), V.int (Mth.P p j : Nat), V.int (Mth.P p k : Nat)] 1 = some (V.int (Mth.P p j : Nat)) := atI_nat (j := 1) rfl
      have m2 : atI [V.int (Mth.P p i : Nat), V.int (Mth.P p j : Nat), V.int (Mth.P p k : Nat)] 2 = some (V.int (Mth.P p k : Nat)) := atI_nat (j := 2) rfl
      have qn : (Mth.P p i = Mth.P p j ∨ Mth.P p i = Mth.P p k ∨ Mth.P p j = Mth.P p k) → Q .non H1 := fun hh => q H1 .non s1 (by
        unfold Mth.putBy
        simp only
        rw [if_pos hh]
        rfl)
      refine ⟨_, rfl, D, _, 0, _, rfl, rfl, hC, m0, _, rfl, D, _, 1, _, rfl, rfl, hC, m1, rfl, _, rfl, ?_⟩
      rw [dec_nat]
      refine ite2 (fun h => iteT (qn (.inl (of_decide_eq_true h)))) fun h => ?_
      have hab : ¬ Mth.P p i = Mth.P p j := fun z => h (decide_eq_true z)
      refine ⟨_, rfl, D, _, 0, _, rfl, rfl, hC, m0, _, rfl, D, _, 2, _, rfl, rfl, hC, m2, rfl, _, rfl, ?_⟩
      rw [dec_nat]
      refine ite2 (fun h => iteT (qn (.inr (.inl (of_decide_eq_true h))))) fun h => ?_
      have hac : ¬ Mth.P p i = Mth.P p k := fun z => h (decide_eq_true z)
      refine ⟨_, rfl, D, _, 1, _, rfl, rfl, hC, m1, _, rfl, D, _, 2, _, rfl, rfl, hC, m2, rfl, _, rfl, ?_⟩
      rw [dec_nat]
      refine ite2 (fun h => qn (.inr (.inr (of_decide_eq_true h)))) fun h => ?_
      have hbc : ¬ Mth.P p j = Mth.P p k := fun z => h (decide_eq_true z)
      have ha1 := s1.hid (X := X) _ _ ha
      refine ⟨_, rfl, a, rfl, ⟨_, SqL.of (hid_at ha1)⟩, fun D2 nD2 => lc_map (X := X) (R := dNat) (S := dNat) (ds := p) (f := fun x => if x = Mth.P p i ∨ x = Mth.P p j ∨ x = Mth.P p k then Mth.P p i else x) mNat mNat (lx.same s1) nD2 ha1 (paired_of_nat p) (le8 (by omega)) (fun x v d H2 Qe hv hd s2 l2 hv2 kk => ?_) fun H2 s2 h2 => ?_⟩
      · have e : v = .int (d : Int) := hv2
        subst e
        have hC2 : SqL K H2 D [V.int (Mth.P p i : Nat), V.int (Mth.P p j : Nat), V.int (Mth.P p k : Nat)] := SqL.of (s2 _ _ (hid_at hc))
        refine ⟨rfl, _, rfl, _, rfl, D, _, rfl, .inl hC2, rfl, rfl, _, rfl, ?_⟩
        show if (inV (V.int (d : Int)) [V.int (Mth.P p i : Nat), V.int (Mth.P p j : Nat), V.int (Mth.P p k : Nat)]) = true then _ else _
        rw [in3]
        refine ite2 (fun h => ?_) fun h => ?_
        · have hd' := of_decide_eq_true h
          refine ⟨_, rfl, D, _, 0, _, rfl, rfl, hC2, m0, kk _ H2 (Same.refl _) ?_⟩
          exact congrArg (fun z : Nat => V.int (z : Int)) (if_pos hd').symm
        · have hd' : ¬ (d = Mth.P p i ∨ d = Mth.P p j ∨ d = Mth.P p k) := fun z => h (decide_eq_true z)
          refine ⟨_, rfl, kk _ H2 (Same.refl _) ?_⟩
          exact congrArg (fun z : Nat => V.int (z : Int)) (if_neg hd').symm
      · refine q H2 _ (s1.trans s2) ?_
        unfold Mth.putBy
        simp only
        rw [if_neg (by simp [hab, hac, hbc])]
        exact h2
/-! ### pieces_by, has_ring -/
theorem rgV_nat (n : Nat) : rgV 0 (n : Int) = (List.range n).map fun (i : Nat) => V.int (i : Int) := by
  unfold rgV
  rw [show ((n : Int) - 0).toNat = n by omega]
  refine List.map_congr_left fun i _ => ?_
  rw [Int.zero_add]
theorem sc_pieces_by : FnScope ["size", "threes", "pieces", "three"] ["size", "threes"] (defScope s_pieces_by) := ⟨rfl, rfl, rfl, by decide +kernel, rfl, by decide +kernel, by decide +kernel⟩
def sp_pieces_by : Sp := fun vs H Q _ => ∃ (X : List Addr) (n : Nat) (v : V) (ts : List Mth.Three), vs = [.int (n : Int), v] ∧ Lives X H ∧ n ≤ 8 ∧ dList dThree (hid X H) v ts ∧ (∀ t ∈ ts, Mth.Good n t) ∧
  ∀ H' z, Same H H' → dOpt (dList dNat) (hid X H') z (Mth.putAll Mth.chF (List.range n) ts) → Q z H'
theorem c_pieces_by (T : Tt K mg) : Ca P w K mg base 2 "pieces_by" ["size", "threes"] sp_pieces_by := by
  obtain ⟨fd, F⟩ := T.e_pieces_by
  refine Ca.mk' F T.g_pieces_by (okD F sc_pieces_by (fun vs H Q E h => ?_) fun cdv A outer s H vs Q E hr h => ?_) fun _ _ _ _ _ _ us hl => match us, hl with | [_, _], _ => rfl
  · obtain ⟨X, n, v, ts, rfl, _⟩ := h
    rfl
  · obtain ⟨X, n, v, ts, rfl, lx, hn, ⟨a, vs, rfl, ha, hp⟩, hg, q⟩ := h
    have nd := sc_pieces_by.nd
    refine ⟨_, pss_cons (ps_set (i := 2) nd rfl (.inl rfl) (pe_listRg rfl (by rfl) T.b_list (prg_1 (by rfl) T.b_range (pv 0))))
      (pss_cons (ps_for PassesOwn.never rfl (pi_list (pv 1)) (pg_name (i := 3) nd rfl (.inl rfl)) (pss_cons (ps_set (i := 2) nd rfl (.inl rfl) (pe_c (c_put_on T) hr (by rfl) (pa_cons (pv 2) (pa_cons (pv 3) pa_nil))))
        (pss_one (ps_if (pt_cmpR op_isN (pv 2) pe_non (nomark _)) (pss_one (ps_ret pe_non)) pss_nil))))
      (pss_one (ps_ret (pv 2)))), ?_⟩
    refine ⟨_, rfl, n, rfl, .of_le (by omega) (by omega) (by omega) (by omega), fun D nD => ?_⟩
    have sD := sameU (o := .lst (rgV 0 (n : Int))) nD
    refine ⟨_, rfl, a, rfl, ⟨_, SqL.of (sD _ _ (hid_at ha))⟩, for_list (K := K) (a := a) (xs := vs) (fun i σ H2 => ∃ z p y3, σ = [some (.int (n : Int)), some (.ref a), some z, y3] ∧ Same H H2 ∧ dList dNat (hid X H2) z p ∧ p.length = n ∧ Mth.putAll Mth.chF (List.range n) ts = Mth.putAll Mth.chF p (ts.drop i))
      ⟨.ref D, List.range n, none, rfl, sD, ⟨D, _, rfl, hid_put (lx.out nD), by rw [rgV_nat]; exact paired_of_nat _⟩, List.length_range, rfl⟩ (fun i σ H2 _ ⟨_, _, _, _, s2, _⟩ => SqL.of (s2 _ _ (hid_at ha))) ?_ ?_⟩
    · rintro i v σ H2 hv ⟨z, p, y3, rfl, s2, hz, hpl, ep⟩
      obtain ⟨t, ht, hvt⟩ := paired_at hp hv
      have ed : ts.drop i = t :: ts.drop (i + 1) := by
        have hi : i < ts.length := (List.getElem?_eq_some_iff.mp ht).1
        rw [List.drop_eq_getElem_cons hi]
        rw [List.getElem?_eq_getElem hi] at ht
        rw [Option.some.inj ht]
      refine ⟨_, rfl, _, rfl, X, z, v, p, t, n, rfl, lx.same s2, hz, mThree.up s2.hid hvt, hpl, hg t (List.mem_of_getElem? ht), hn, fun H3 u s3 hu => ?_⟩
      rw [ed] at ep
      have ep2 : Mth.putAll Mth.chF (List.range n) ts = match Mth.putBy Mth.chF p t with
        | none => none
        | some p' => Mth.putAll Mth.chF p' (ts.drop (i + 1)) := ep
      cases e : Mth.putBy Mth.chF p t with
      | none =>
        rw [e] at hu ep2
        have hu : u = .non := hu
        subst hu
        exact ⟨_, rfl, rfl, _, rfl, iteT (q H3 .non (s2.trans s3) (by rw [ep2]; rfl))⟩
      | some p' =>
        rw [e] at hu ep2
        have hu : dList dNat (hid X H3) u p' := hu
        obtain ⟨c, us, rfl, hc, pc⟩ := hu
        exact ⟨_, rfl, rfl, _, rfl, iteF ⟨.ref c, p', some v, rfl, s2.trans s3, ⟨c, us, rfl, hc, pc⟩, (Mth.putBy_len e).trans hpl, ep2⟩⟩
    · rintro σ H2 ⟨z, p, y3, rfl, s2, hz, hpl, ep⟩
      refine ⟨_, rfl, q H2 z s2 ?_⟩
      rw [ep, List.drop_of_length_le (by rw [paired_len hp]; exact Nat.le_refl _)]
      exact hz
theorem sc_has_ring : FnScope ["size", "threes"] ["size", "threes"] (defScope s_has_ring) := ⟨rfl, rfl, rfl, by decide +kernel, rfl, by decide +kernel, by decide +kernel⟩
def sp_has_ring : Sp := fun vs H Q _ => ∃ (X : List Addr) (n : Nat) (v : V) (ts : List Mth.Three), vs = [.int (n : Int), v] ∧ Lives X H ∧ n ≤ 8 ∧ dSeq dThree (hid X H) v ts ∧ ts.length ≤ 8 ∧ (∀ t ∈ ts, Mth.Good n t) ∧ ∀ H', Same H H' → Q (.bl (Mth.putAll Mth.chF (List.range n) ts).isNone) H'
theorem c_has_ring (T : Tt K mg) : Ca P w K mg base 5 "has_ring" ["size", "threes"] sp_has_ring := by
  obtain ⟨fd, F⟩ := T.e_has_ring
  refine Ca.mk' F T.g_has_ring (okD F sc_has_ring (fun vs H Q E h => ?_) fun cdv A outer s H vs Q E hr h => ?_) fun _ _ _ _ _ _ us hl => match us, hl with | [_, _], _ => rfl
  · obtain ⟨X, n, v, ts, rfl, _⟩ := h
    rfl
  · obtain ⟨X, n, v, ts, rfl, lx, hn, hv, hl, hg, q⟩ := h
    refine ⟨_, pss_one (ps_ret (pe_cmpR op_isN (pe_c (c_pieces_by T) (hr.mono (by decide)) (by rfl) (pa_cons (pv 0) (pa_cons (pe_c (c_want_threes T) hr (by rfl) (pa_cons (pv 0) (pa_cons (pv 1) pa_nil))) pa_nil))) pe_non (nomark _))), ?_⟩
    refine ⟨_, rfl, _, rfl, _, rfl, X, n, v, ts, rfl, lx, hn, hv, hl, hg, fun H1 u s1 hu => ?_⟩
    refine ⟨X, n, u, ts, rfl, lx.same s1, hn, hu, hg, fun H2 z s2 hz => ⟨rfl, ?_⟩⟩
    have e : (decide (z = V.non)) = (Mth.putAll Mth.chF (List.range n) ts).isNone := by
      cases e : Mth.putAll Mth.chF (List.range n) ts with
      | none =>
        rw [e] at hz
        have hz : z = .non := hz
        rw [hz]
        rfl
      | some p =>
        rw [e] at hz
        obtain ⟨c, us, rfl, _⟩ := (show dList dNat (hid X H2) z p from hz)
        rfl
    rw [e]
    exact q H2 (s1.trans s2)
end
end Tx
set_option Elab.async false
set_option linter.all false
set_option maxRecDepth 100000
set_option maxHeartbeats 4000000
namespace Tx
open PySem PySem.Spec PyProof.Rows L2
/-- a list that is younger than a heap -/
def dNew {α : Type} (H0 : Hp) (R : Rel α) : Rel (List α) := fun G v ds => ∃ (a : Addr) (vs : List V), v = .ref a ∧ H0 a = none ∧ G a = some (.lst vs) ∧ Paired (R G) vs ds
theorem mNew {α : Type} {H0 : Hp} {R : Rel α} (m : Mono R) : Mono (dNew H0 R) := ⟨fun s ⟨a, vs, e, n, h, p⟩ => ⟨a, vs, e, n, s _ _ h, paired_mono (fun _ _ => m.up s) p⟩⟩
theorem dNew.list {α : Type} {H0 G : Hp} {R : Rel α} {v : V} {ds : List α} (h : dNew H0 R G v ds) : dList R G v ds := by
  obtain ⟨a, vs, e, _, h1, p⟩ := h
  exact ⟨a, vs, e, h1, p⟩
theorem dNew.old {α : Type} {H0 H1 G : Hp} {R : Rel α} {v : V} {ds : List α} (s : Same H0 H1) (h : dNew H1 R G v ds) : dNew H0 R G v ds := by
  obtain ⟨a, vs, e, n, h1, p⟩ := h
  exact ⟨a, vs, e, s.free n, h1, p⟩
/-- a lot with its pieces -/
def dLP (H0 : Hp) (n : Nat) (ts : List Mth.Three) : Rel (List Nat) := fun G v lot => dTwo (dNew H0 dNat) (dList dNat) G v (lot, Mth.pcs n ts lot)
theorem mLP {H0 : Hp} {n : Nat} {ts : List Mth.Three} : Mono (dLP H0 n ts) := ⟨fun s h => (mTwo (mNew mNat) (mList mNat)).up s h⟩
theorem last_nat {lot : List Nat} {x : Nat} (h : lot.getLast? = some x) : atI (lot.map fun (i : Nat) => V.int (i : Int)) (-1) = some (.int (x : Int)) := by
  obtain ⟨ys, rfl⟩ := List.getLast?_eq_some_iff.mp h
  rw [List.map_append]
  exact atI_last _ _
section
variable {P : Program} {w : World} {K : PySem.W.Frag} {mg : Str → Option Value} {base : Heap}
/-! ### longer_lots (threes) -/
theorem sc_longer_lots_threes : FnScope ["threes", "found", "longer", "lot", "pieces", "place", "after"] ["threes", "found"] (defScope s_longer_lots_threes) := ⟨rfl, rfl, rfl, by decide +kernel, rfl, by decide +kernel, by decide +kernel⟩
def sp_longer_lots_threes : Sp := fun vs H Q _ => ∃ (X : List Addr) (H0 : Hp) (n : Nat) (v u : V) (ts : List Mth.Three) (lots : List (List Nat)), vs = [v, u] ∧ Lives X H ∧ Same H0 H ∧ n ≤ 8 ∧ dList dThree (hid X H) v ts ∧ (∀ t ∈ ts, Mth.Good n t) ∧
  dList (dLP H0 n ts) (hid X H) u lots ∧ (∀ lot ∈ lots, Mth.rl n ts lot = true ∧ (∀ x ∈ lot, x < ts.length) ∧ lot.length ≤ 1000) ∧ lots.length * ts.length < sizeLine ∧ ts.length ≤ 1000 ∧
  ∀ H' z, Same H H' → dList (dLP H0 n ts) (hid X H') z (lots.flatMap (Mth.ext (Mth.rl n ts) ts.length)) → Q z H'
theorem c_longer_lots_threes (T : Tt K mg) : Ca P w K mg base 2 "longer_lots_threes" ["threes", "found"] sp_longer_lots_threes := by
  obtain ⟨fd, F⟩ := T.e_longer_lots_threes
  refine Ca.mk' F T.g_longer_lots_threes (okD F sc_longer_lots_threes (fun vs H Q E h => ?_) fun cdv A outer s H vs Q E hr h => ?_) fun _ _ _ _ _ _ us hl => match us, hl with | [_, _], _ => rfl
  · obtain ⟨X, H0, n, v, u, ts, lots, rfl, _⟩ := h
    rfl
  · obtain ⟨X, H0, n, v, u, ts, lots, rfl, lx, s0, hn, ⟨a, vs, rfl, ha, hp⟩, hg, ⟨b, us, rfl, hb, hq⟩, hlots, hsz, hts, q⟩ := h
    have nd := sc_longer_lots_threes.nd
    refine ⟨_, pss_cons (ps_set (i := 2) nd rfl (.inl rfl) (pe_lst pa_nil))
      (pss_cons (ps_for PassesOwn.never rfl (pi_list (pv 1)) (pg_tup rfl (pgs_cons (pg_name (i := 3) nd rfl (.inl rfl)) (pgs_cons (pg_name (i := 4) nd rfl (.inl rfl)) pgs_nil)))
        (pss_one (ps_for PassesOwn.never rfl (pi_range2 (by rfl) T.b_range (pa_cons (pe_ifExp (pt_cmpR op_gt (pe_callB call_len_seq (by rfl) T.b_len PySem.boot_len (pa_cons (pv 3) pa_nil)) pe_int (nomark _)) (pe_op op_add (pe_ix ix_list (pv 3) (pe_un un_neg pe_int) (fun _ _ => rfl)) pe_int) pe_int)
            (pa_cons (pe_callB call_len_seq (by rfl) T.b_len PySem.boot_len (pa_cons (pv 0) pa_nil)) pa_nil))) (pg_name (i := 5) nd rfl (.inl rfl))
          (pss_cons (ps_set (i := 6) nd rfl (.inl rfl) (pe_c (c_put_on T) hr (by rfl) (pa_cons (pv 4) (pa_cons (pe_ix ix_list (pv 0) (pv 5) (fun _ _ => rfl)) pa_nil))))
          (pss_one (ps_if (pt_cmpR op_notN (pv 6) pe_non (nomark _))
            (pss_one (ps_expr (pe_bm PySem.F.plainAttrs_list PySem.F.slot_list_append PySem.F.type_list_append mt_append (pv 2) (pa_cons (pe_tup (pa_cons (pe_op op_cat (pv 3) (pe_lst (pa_cons (pv 5) pa_nil))) (pa_cons (pv 6) pa_nil))) pa_nil)))) pss_nil))))))
      (pss_one (ps_ret (pv 2)))), ?_⟩
    refine ⟨Nat.zero_le _, fun D nD => ?_⟩
    have sD := sameU (o := .lst []) nD
    have lenv := paired_len hp
    have lenu := paired_len hq
    refine ⟨_, rfl, b, rfl, ⟨_, SqL.of (sD _ _ (hid_at hb))⟩, for_list (K := K) (a := b) (xs := us) (fun i σ H2 => ∃ y3 y4 y5 y6, σ = [some (.ref a), some (.ref b), some (.ref D), y3, y4, y5, y6] ∧ Same H H2 ∧ ∃ acc, H2 D = some (.lst acc) ∧ Paired (dLP H0 n ts (hid (D :: X) H2)) acc ((lots.take i).flatMap (Mth.ext (Mth.rl n ts) ts.length)))
      ⟨none, none, none, none, rfl, sD, [], upd_same, .nil⟩ (fun i σ H2 _ ⟨_, _, _, _, _, s2, _⟩ => SqL.of (s2 _ _ (hid_at hb))) ?_ ?_⟩
    · rintro i v σ H2 hv ⟨y3, y4, y5, y6, rfl, s2, acc, eD, pa⟩
      obtain ⟨lot, hlot, hlp⟩ := paired_at hq hv
      have hi : i < lots.length := (List.getElem?_eq_some_iff.mp hlot).1
      have hmem : lot ∈ lots := List.mem_of_getElem? hlot
      obtain ⟨hrl, hlt, hll⟩ := hlots lot hmem
      have m2 : Same (hid X H) (hid (D :: X) H2) := (hid_new nD).trans s2.hid
      obtain ⟨c, w1, w2, rfl, hc, ⟨d1, us1, rfl, fr1, hd1, pd1⟩, hw2⟩ := mLP.up m2 hlp
      have hd1' := hid_at hd1
      have eus := paired_nat pd1
      have eus : us1 = lot.map fun (i : Nat) => V.int (i : Int) := eus
      subst eus
      refine ⟨c, _, rfl, SqT.of (hid_at hc), rfl, _, _, rfl, _, _, rfl, rfl, ?_⟩
      -- the range's ends
      have lo : ∀ (k : VK), k (.int (Mth.nxt lot : Nat)) H2 → (if decide ((0 : Int) < ((lot.map fun (i : Nat) => V.int (i : Int)).length : Int)) = true then tOp (rI0 fun i j => .int (i + j)) (tOp (rIxL K) (tVar 3) (tUn (rU fun i => .int (-i)) (tC (.int 1)))) (tC (.int 1)) [some (.ref a), some (.ref b), some (.ref D), some (.ref d1), some w2, y5, y6] H2 k
          else tC (.int 0) [some (.ref a), some (.ref b), some (.ref D), some (.ref d1), some w2, y5, y6] H2 k) := fun k hk => by
        cases e : lot.getLast? with
        | none =>
          rw [List.getLast?_eq_none_iff] at e
          subst e
          exact iteF hk
        | some x =>
          have ne : lot ≠ [] := fun z => by
            rw [z] at e
            cases e
          have hpos : 0 < lot.length := List.length_pos_iff.mpr ne
          rw [decide_eq_true (by rw [List.length_map]; omega : (0 : Int) < ((lot.map fun (i : Nat) => V.int (i : Int)).length : Int))]
          have en : Mth.nxt lot = x + 1 := by
            unfold Mth.nxt
            rw [e]
          rw [en] at hk
          exact iteT ⟨_, rfl, 1, rfl, d1, _, -1, _, rfl, rfl, SqL.of hd1', last_nat e, _, 1, rfl, rfl, hk⟩
      refine ⟨_, rfl, d1, _, rfl, .inl (SqL.of hd1'), _, _, rfl, rfl, _, rfl, lo _ ?_⟩
      have ha2 := s2 _ _ (hid_at ha)
      have nb : Mth.nxt lot ≤ ts.length ∨ True := .inr trivial
      have nx62 : Mth.nxt lot ≤ 1001 := by
        unfold Mth.nxt
        cases e : lot.getLast? with
        | none => exact Nat.zero_le _
        | some x =>
          have := hlt x (List.mem_of_getLast? e)
          show x + 1 ≤ 1001
          omega
      refine ⟨_, rfl, a, vs, rfl, .inl (SqL.of ha2), _, _, rfl, ⟨by omega, by omega, by omega, by omega⟩, ?_⟩
      have eN : (((vs.length : Nat) : Int) - (Mth.nxt lot : Nat)).toNat = ts.length - Mth.nxt lot := by omega
      rw [eN]
      refine for_range (lo := (Mth.nxt lot : Nat)) (n := ts.length - Mth.nxt lot) (fun j σ H3 => ∃ y5 y6, σ = [some (.ref a), some (.ref b), some (.ref D), some (.ref d1), some w2, y5, y6] ∧ (∀ x o, H2 x = some o → x ≠ D → H3 x = some o) ∧
          ∃ acc, H3 D = some (.lst acc) ∧ Paired (dLP H0 n ts (hid (D :: X) H3)) acc ((lots.take i).flatMap (Mth.ext (Mth.rl n ts) ts.length) ++ Mth.exK (Mth.rl n ts) lot (Mth.nxt lot) j))
        ⟨_, _, rfl, fun _ _ e _ => e, acc, eD, by rw [Mth.exK_zero, List.append_nil]; exact pa⟩ ?_ ?_
      · rintro j σ H3 hj ⟨z5, z6, rfl, s3, acc3, eD3, pa3⟩
        have exj : ((Mth.nxt lot : Nat) : Int) + (j : Nat) = ((Mth.nxt lot + j : Nat) : Int) := by omega
        rw [exj]
        have s3h : Same (hid (D :: X) H2) (hid (D :: X) H3) := fun x o e => by
          rw [hid_some] at e ⊢
          exact ⟨e.1, s3 _ _ e.2 fun z => e.1 (by rw [z]; exact List.mem_cons_self)⟩
        have sH3 : Same H H3 := fun x o e => s3 _ _ (s2 _ _ e) (ne_of_none e nD)
        have hpl : Mth.nxt lot + j < ts.length := by omega
        obtain ⟨tv, htv, hth⟩ := paired_to hp (List.getElem?_eq_getElem hpl)
        have m3 : Same (hid X H) (hid (D :: X) H3) := m2.trans s3h
        have lx3 : Lives (D :: X) H3 := (lx.same sH3).cons eD3
        refine ⟨_, rfl, _, rfl, _, rfl, a, vs, _, tv, rfl, rfl, SqL.of (sH3 _ _ (hid_at ha)), atI_nat htv, ?_⟩
        refine ⟨D :: X, w2, tv, Mth.pcs n ts lot, ts[Mth.nxt lot + j], n, rfl, lx3, (mList mNat).up s3h hw2, mThree.up m3 hth, Mth.pcs_len hrl, hg _ (List.getElem_mem hpl), hn, fun H4 z s4 hz => ?_⟩
        have eD4 := s4 _ _ eD3
        have s34 : ∀ x o, H2 x = some o → x ≠ D → H4 x = some o := fun x o e ne => s4 _ _ (s3 _ _ e ne)
        have ern := Mth.rl_next hrl (List.getElem?_eq_getElem hpl)
        have pa4 := paired_mono (fun _ _ => mLP.up (s4.hid (X := D :: X))) pa3
        refine ⟨_, rfl, rfl, _, rfl, ?_⟩
        cases e : Mth.putBy Mth.chF (Mth.pcs n ts lot) ts[Mth.nxt lot + j] with
        | none =>
          rw [e] at hz ern
          have hz : z = .non := hz
          subst hz
          refine iteF ⟨_, _, rfl, s34, acc3, eD4, ?_⟩
          rw [Mth.exK_succ, ern, if_neg (by decide), List.append_nil]
          exact pa4
        | some p' =>
          rw [e] at hz ern
          have hz : dList dNat (hid (D :: X) H4) z p' := hz
          obtain ⟨zc, zus, rfl, hzc, pzc⟩ := hz
          have ern : Mth.rl n ts (lot ++ [Mth.nxt lot + j]) = true := ern
          have epc := Mth.pcs_next hrl (List.getElem?_eq_getElem hpl) e
          refine iteT ⟨.ref D, rfl, .inl ⟨rfl, _, SqL.of eD4⟩, _, rfl, _, rfl, (by show 1 ≤ sizeLine; decide), fun l1 n1 => ?_⟩
          have t1 := sameU (o := .lst [.int ((Mth.nxt lot + j : Nat) : Int)]) n1
          have hd4 : H4 d1 = some (.lst (lot.map fun (i : Nat) => V.int (i : Int))) := s34 _ _ hd1' (fun z => (hid_some.mp hd1).1 (by rw [z]; exact List.mem_cons_self))
          refine ⟨d1, l1, _, _, rfl, rfl, t1 _ _ hd4, upd_same, ?_, fun l2 n2 => ?_⟩
          · rw [List.length_map]
            show lot.length + 1 ≤ sizeLine
            exact small1000 hll
          have t2 := sameU (o := .lst ((lot.map fun (i : Nat) => V.int (i : Int)) ++ [.int ((Mth.nxt lot + j : Nat) : Int)])) n2
          refine ⟨_, rfl, (by show 2 ≤ sizeLine; decide), fun tp ntp => ?_⟩
          have t3 := sameU (o := .tup [.ref l2, .ref zc]) ntp
          have t13 := (t1.trans t2).trans t3
          have lx4 := lx3.same s4
          have lx6 := lx4.same (t1.trans t2)
          have eD7 := t13 _ _ eD4
          refine ⟨D, acc3, _, rfl, rfl, eD7, ?_, ?_⟩
          · rw [paired_len pa3, List.length_append]
            have b1 := Mth.flat_len (Mth.rl n ts) ts.length (lots.take i)
            have b2 := Mth.exK_len (Mth.rl n ts) lot (Mth.nxt lot) j
            rw [List.length_take, Nat.min_eq_left (by omega)] at b1
            have b3 : i * ts.length + ts.length ≤ lots.length * ts.length := by
              have := Nat.mul_le_mul_right ts.length (show i + 1 ≤ lots.length by omega)
              rw [Nat.add_mul, Nat.one_mul] at this
              exact this
            omega
          · have mD : Same (hid (D :: X) (upd (upd (upd H4 l1 (.lst [.int ((Mth.nxt lot + j : Nat) : Int)])) l2 (.lst ((lot.map fun (i : Nat) => V.int (i : Int)) ++ [.int ((Mth.nxt lot + j : Nat) : Int)]))) tp (.tup [.ref l2, .ref zc])))
                (hid (D :: X) (upd (upd (upd (upd H4 l1 (.lst [.int ((Mth.nxt lot + j : Nat) : Int)])) l2 (.lst ((lot.map fun (i : Nat) => V.int (i : Int)) ++ [.int ((Mth.nxt lot + j : Nat) : Int)]))) tp (.tup [.ref l2, .ref zc])) D (.lst (acc3 ++ [.ref tp])))) := hid_upd List.mem_cons_self
            have nl2 : H0 l2 = none := s0.free (sH3.free (s4.free (t1.free n2)))
            have el2 : hid (D :: X) (upd (upd H4 l1 (.lst [.int ((Mth.nxt lot + j : Nat) : Int)])) l2 (.lst ((lot.map fun (i : Nat) => V.int (i : Int)) ++ [.int ((Mth.nxt lot + j : Nat) : Int)]))) l2 = some (.lst ((lot.map fun (i : Nat) => V.int (i : Int)) ++ [.int ((Mth.nxt lot + j : Nat) : Int)])) := hid_put ((lx4.same t1).out n2)
            refine ⟨_, _, rfl, fun x o e ne => ?_, _, upd_same, ?_⟩
            · rw [upd_ne ne]
              exact t13 _ _ (s34 _ _ e ne)
            · rw [Mth.exK_succ, ern, if_pos rfl, ← List.append_assoc]
              refine paired_app (paired_mono (fun _ _ => mLP.up (t13.hid.trans mD)) pa4) (.cons ?_ .nil)
              refine ⟨tp, .ref l2, .ref zc, rfl, mD _ _ (hid_put (lx6.out ntp)), ⟨l2, _, rfl, nl2, mD _ _ (t3.hid _ _ el2), paired_app (paired_of_nat lot) (.cons rfl .nil)⟩, ?_⟩
              show dList dNat _ (.ref zc) (Mth.pcs n ts (lot ++ [Mth.nxt lot + j]))
              rw [epc]
              exact (mList mNat).up (t13.hid.trans mD) ⟨zc, zus, rfl, hzc, pzc⟩
      · rintro σ H3 ⟨z5, z6, rfl, s3, acc3, eD3, pa3⟩
        refine ⟨_, _, _, _, rfl, fun x o e => s3 _ _ (s2 _ _ e) (ne_of_none e nD), acc3, eD3, ?_⟩
        rw [List.take_add_one, hlot, List.flatMap_append]
        show Paired _ acc3 (_ ++ (Mth.ext (Mth.rl n ts) ts.length lot ++ []))
        rw [List.append_nil]
        exact pa3
    · rintro σ H2 ⟨y3, y4, y5, y6, rfl, s2, acc, eD, pa⟩
      refine ⟨_, rfl, q H2 _ s2 ⟨D, acc, rfl, hid_some.mpr ⟨lx.out nD, eD⟩, ?_⟩⟩
      rw [lenu, List.take_length] at pa
      exact paired_mono (fun _ _ => mLP.up hid_tail) pa
end
end Tx
set_option Elab.async false
set_option linter.all false
set_option maxRecDepth 100000
set_option maxHeartbeats 4000000
namespace Tx
open PySem PySem.Spec PyProof.Rows L2
theorem lv_room {R : List Nat → Bool} {m k : Nat} (hm : m ≤ 7) (hk : k ≤ 7) : (Mth.lv R m k).length * m < sizeLine := by
  have h1 := Mth.lv_len R m k
  have h2 : (Mth.lv R m k).length * m ≤ m ^ (k + 1) := by
    rw [Nat.pow_succ]
    exact Nat.mul_le_mul_right _ h1
  have h3 : m ^ (k + 1) ≤ 7 ^ (k + 1) := Nat.pow_le_pow_left hm _
  have h4 : 7 ^ (k + 1) ≤ 7 ^ 8 := Nat.pow_le_pow_right (by decide) (by omega)
  have h5 : 7 ^ 8 < sizeLine := by
    rw [sizeLine_eq]
    decide
  omega
section
variable {P : Program} {w : World} {K : PySem.W.Frag} {mg : Str → Option Value} {base : Heap}
/-! ### greatest_two -/
/-- the last level and a lot of it -/
def LastLot (n : Nat) (ts : List Mth.Three) (k : Nat) (lot : List Nat) : Prop := lot ∈ Mth.lv (Mth.rl n ts) ts.length k ∧ Mth.lv (Mth.rl n ts) ts.length (k + 1) = []
theorem sc_greatest_two : FnScope ["size", "threes", "found", "here"] ["size", "threes"] (defScope s_greatest_two) := ⟨rfl, rfl, rfl, by decide +kernel, rfl, by decide +kernel, by decide +kernel⟩
def sp_greatest_two : Sp := fun vs H Q _ => ∃ (X : List Addr) (n : Nat) (v : V) (ts : List Mth.Three), vs = [.int (n : Int), v] ∧ Lives X H ∧ n ≤ 8 ∧ dList dThree (hid X H) v ts ∧ (∀ t ∈ ts, Mth.Good n t) ∧ ts.length ≤ 7 ∧
  ∀ H' u k lot, Same H H' → dLP H n ts (hid X H') u lot → LastLot n ts k lot → Q u H'
theorem c_greatest_two (T : Tt K mg) : Ca P w K mg base 3 "greatest_two" ["size", "threes"] sp_greatest_two := by
  obtain ⟨fd, F⟩ := T.e_greatest_two
  refine Ca.mk' F T.g_greatest_two (okD F sc_greatest_two (fun vs H Q E h => ?_) fun cdv A outer s H vs Q E hr h => ?_) fun _ _ _ _ _ _ us hl => match us, hl with | [_, _], _ => rfl
  · obtain ⟨X, n, v, ts, rfl, _⟩ := h
    rfl
  · obtain ⟨X, n, v, ts, rfl, lx, hn, hv, hg, hl, q⟩ := h
    have nd := sc_greatest_two.nd
    refine ⟨_, pss_cons (ps_par (i := 2) (j := 3) (by rfl) nd rfl rfl (by decide) rfl rfl (pa_cons (pe_lst (pa_cons (pe_tup (pa_cons (pe_lst pa_nil) (pa_cons (pe_listRg rfl (by rfl) T.b_list (prg_1 (by rfl) T.b_range (pv 0))) pa_nil))) pa_nil)) (pa_cons pe_non pa_nil)) (by rfl))
      (pss_cons (ps_while PassesOwn.never (pt_cmpR (op_neE hr.units0) (pv 2) (pe_lst pa_nil) (nomark _))
        (pss_cons (ps_set (i := 3) nd rfl (.inl rfl) (pe_ix ix_list (pv 2) pe_int (fun _ _ => rfl)))
        (pss_one (ps_set (i := 2) nd rfl (.inl rfl) (pe_c (c_longer_lots_threes T) hr (by rfl) (pa_cons (pv 1) (pa_cons (pv 2) pa_nil)))))))
      (pss_one (ps_ret (pv 3)))), ?_⟩
    refine ⟨Nat.zero_le _, fun p1 n1 => ⟨_, rfl, n, rfl, .of_le (by omega) (by omega) (by omega) (by omega), fun p2 n2 => ⟨(by show 2 ≤ sizeLine; decide), fun p3 n3 => ⟨(by show 1 ≤ sizeLine; decide), fun p4 n4 => ⟨_, _, rfl, ?_⟩⟩⟩⟩⟩
    have t1 := sameU (o := .lst []) n1
    have t2 := sameU (o := .lst (rgV 0 (n : Int))) n2
    have t3 := sameU (o := .tup [.ref p1, .ref p2]) n3
    have t4 := sameU (o := .lst [.ref p3]) n4
    have lx1 := lx.same t1
    have lx2 := lx1.same t2
    have lx3 := lx2.same t3
    have sA := ((t1.trans t2).trans t3).trans t4
    refine ⟨fun m σ H2 => ∃ k vf vh, σ = [some (.int (n : Int)), some v, some vf, some vh] ∧ k + m = ts.length + 2 ∧ k ≤ ts.length + 1 ∧ Same H H2 ∧ dList (dLP H n ts) (hid X H2) vf (Mth.lv (Mth.rl n ts) ts.length k) ∧ (k = 0 ∨ ∃ k' lot, k = k' + 1 ∧ lot ∈ Mth.lv (Mth.rl n ts) ts.length k' ∧ dLP H n ts (hid X H2) vh lot),
      ⟨ts.length + 2, 0, .ref p4, .non, rfl, by omega, by omega, sA, ⟨p4, _, rfl, hid_put (lx3.out n4), .cons ⟨p3, .ref p1, .ref p2, rfl, t4.hid _ _ (hid_put (lx2.out n3)), ⟨p1, [], rfl, n1, (t2.trans (t3.trans t4)).hid _ _ (hid_put (lx.out n1)), .nil⟩, ⟨p2, _, rfl, (t3.trans t4).hid _ _ (hid_put (lx1.out n2)), ?_⟩⟩ .nil⟩, .inl rfl⟩, ?_⟩
    · rw [rgV_nat]
      exact paired_of_nat _
    · rintro m σ H2 ⟨k, vf, vh, rfl, hkm, hk1, s2, hf, hh⟩
      obtain ⟨b, us, rfl, hb, pb⟩ := hf
      have lenb := paired_len pb
      refine ⟨_, rfl, Nat.zero_le _, fun p np => ⟨b, p, us, rfl, rfl, SqL.of (sameU np _ _ (hid_at hb)), SqL.of upd_same, _, rfl, ?_⟩⟩
      have sp := sameU (o := .lst []) np
      have s3 := s2.trans sp
      have lx3' := lx.same s3
      match us, pb, hb, lenb with
      | [], pb, hb, lenb =>
        refine iteF ⟨_, rfl, ?_⟩
        have e0 : Mth.lv (Mth.rl n ts) ts.length k = [] := List.eq_nil_of_length_eq_zero lenb.symm
        rcases hh with rfl | ⟨k', lot, rfl, hlot, hd⟩
        · cases e0
        · exact q _ vh k' lot s3 (mLP.up sp.hid hd) ⟨hlot, e0⟩
      | x :: us, pb, hb, lenb =>
        have ne : Mth.lv (Mth.rl n ts) ts.length k ≠ [] := fun z => by
          rw [z] at lenb
          cases lenb
        have hk := Mth.lv_len_le hg ne
        refine iteT ⟨fun σ' H' => ∃ vf vh lot, σ' = [some (.int (n : Int)), some v, some vf, some vh] ∧ Same H H' ∧ dList (dLP H n ts) (hid X H') vf (Mth.lv (Mth.rl n ts) ts.length (k + 1)) ∧ lot ∈ Mth.lv (Mth.rl n ts) ts.length k ∧ dLP H n ts (hid X H') vh lot, fun σ' H' hN => ?_, ?_⟩
        · obtain ⟨vf', vh', lot, e, s', hf', hlot, hd⟩ := hN
          exact ⟨m - 1, by omega, k + 1, vf', vh', e, by omega, by omega, s', hf', .inr ⟨k, lot, rfl, hlot, hd⟩⟩
        · obtain ⟨lot, hlot, hd⟩ := paired_at (i := 0) pb rfl
          have hmem := List.mem_of_getElem? hlot
          refine ⟨_, rfl, b, _, 0, x, rfl, rfl, SqL.of (sp _ _ (hid_at hb)), atI_nat (j := 0) rfl, ?_⟩
          refine ⟨_, rfl, _, rfl, X, H, n, v, .ref b, ts, _, rfl, lx3', s3, hn, (mList mThree).up s3.hid hv, hg, (mList mLP).up sp.hid ⟨b, _, rfl, hb, pb⟩, fun lot' hl' => ?_, lv_room hl (by omega), by omega, fun H4 z s4 hz => ?_⟩
          · obtain ⟨a1, a2⟩ := Mth.lv_elems k lot' hl'
            exact ⟨((Mth.lv_rl hg k lot').mp hl').2.2, a1, by omega⟩
          · exact ⟨z, x, lot, rfl, s3.trans s4, hz, hmem, mLP.up (sp.trans s4).hid hd⟩
/-! ### ringless_lot, ringless, ringless_number -/
theorem sc_ringless_lot : FnScope ["size", "threes"] ["size", "threes"] (defScope s_ringless_lot) := ⟨rfl, rfl, rfl, by decide +kernel, rfl, by decide +kernel, by decide +kernel⟩
def sp_ringless_lot : Sp := fun vs H Q _ => ∃ (X : List Addr) (n : Nat) (v : V) (ts : List Mth.Three), vs = [.int (n : Int), v] ∧ Lives X H ∧ n ≤ 8 ∧ dList dThree (hid X H) v ts ∧ (∀ t ∈ ts, Mth.Good n t) ∧ ts.length ≤ 7 ∧
  ∀ H' u k lot, Same H H' → dNew H dNat (hid X H') u lot → LastLot n ts k lot → Q u H'
theorem c_ringless_lot (T : Tt K mg) : Ca P w K mg base 4 "ringless_lot" ["size", "threes"] sp_ringless_lot := by
  obtain ⟨fd, F⟩ := T.e_ringless_lot
  refine Ca.mk' F T.g_ringless_lot (okD F sc_ringless_lot (fun vs H Q E h => ?_) fun cdv A outer s H vs Q E hr h => ?_) fun _ _ _ _ _ _ us hl => match us, hl with | [_, _], _ => rfl
  · obtain ⟨X, n, v, ts, rfl, _⟩ := h
    rfl
  · obtain ⟨X, n, v, ts, rfl, lx, hn, hv, hg, hl, q⟩ := h
    refine ⟨_, pss_one (ps_ret (pe_ix ix_tup (pe_c (c_greatest_two T) hr (by rfl) (pa_cons (pv 0) (pa_cons (pv 1) pa_nil))) pe_int (fun _ _ => rfl))), ?_⟩
    refine ⟨_, rfl, _, rfl, X, n, v, ts, rfl, lx, hn, hv, hg, hl, fun H' u k lot s' hu hL => ?_⟩
    obtain ⟨c, w1, w2, rfl, hc, h1, _⟩ := hu
    exact ⟨c, _, 0, w1, rfl, rfl, SqT.of (hid_at hc), atI_nat (j := 0) rfl, q H' w1 k lot s' h1 hL⟩
theorem sc_ringless : FnScope ["size", "threes"] ["size", "threes"] (defScope s_ringless) := ⟨rfl, rfl, rfl, by decide +kernel, rfl, by decide +kernel, by decide +kernel⟩
def sp_ringless : Sp := fun vs H Q _ => ∃ (X : List Addr) (n : Nat) (v : V) (ts : List Mth.Three), vs = [.int (n : Int), v] ∧ Lives X H ∧ n ≤ 8 ∧ dSeq dThree (hid X H) v ts ∧ (∀ t ∈ ts, Mth.Good n t) ∧ ts.length ≤ 7 ∧
  ∀ H' u k lot, Same H H' → dNew H dNat (hid X H') u lot → LastLot n ts k lot → Q u H'
theorem ok_ringless (T : Tt K mg) {f : Addr} {fd : FuncData} (F : FnP K d_ringless f fd) : FnOk P w K mg base CX0 5 f fd ["size", "threes"] sp_ringless := by
  refine okD F sc_ringless (fun vs H Q E h => ?_) fun cdv A outer s H vs Q E hr h => ?_
  · obtain ⟨X, n, v, ts, rfl, _⟩ := h
    rfl
  · obtain ⟨X, n, v, ts, rfl, lx, hn, hv, hg, hl, q⟩ := h
    refine ⟨_, pss_one (ps_ret (pe_c (c_ringless_lot T) hr (by rfl) (pa_cons (pv 0) (pa_cons (pe_c (c_want_threes T) hr (by rfl) (pa_cons (pv 0) (pa_cons (pv 1) pa_nil))) pa_nil)))), ?_⟩
    refine ⟨_, rfl, _, rfl, _, rfl, X, n, v, ts, rfl, lx, hn, hv, by omega, hg, fun H1 u s1 hu => ?_⟩
    exact ⟨X, n, u, ts, rfl, lx.same s1, hn, hu, hg, hl, fun H2 z k lot s2 hz hL => q H2 z k lot (s1.trans s2) (hz.old s1) hL⟩
theorem c_ringless (T : Tt K mg) : Ca P w K mg base 5 "ringless" ["size", "threes"] sp_ringless := by
  obtain ⟨fd, F⟩ := T.e_ringless
  exact Ca.mk' F T.g_ringless (ok_ringless T F) fun _ _ _ _ _ _ us hl => match us, hl with | [_, _], _ => rfl
theorem sc_ringless_number : FnScope ["size", "threes"] ["size", "threes"] (defScope s_ringless_number) := ⟨rfl, rfl, rfl, by decide +kernel, rfl, by decide +kernel, by decide +kernel⟩
def sp_ringless_number : Sp := fun vs H Q _ => ∃ (X : List Addr) (n : Nat) (v : V) (ts : List Mth.Three), vs = [.int (n : Int), v] ∧ Lives X H ∧ n ≤ 8 ∧ dSeq dThree (hid X H) v ts ∧ (∀ t ∈ ts, Mth.Good n t) ∧ ts.length ≤ 7 ∧
  ∀ H' d, Same H H' → Mth.IsMax n ts d → Q (.int (d : Nat)) H'
theorem LastLot.max {n : Nat} {ts : List Mth.Three} (hg : ∀ t ∈ ts, Mth.Good n t) {k : Nat} {lot : List Nat} (h : LastLot n ts k lot) : Mth.IsMax n ts lot.length := by
  rw [(Mth.lv_elems k lot h.1).2]
  exact Mth.lv_max hg h.2 lot h.1
theorem ok_ringless_number (T : Tt K mg) {f : Addr} {fd : FuncData} (F : FnP K d_ringless_number f fd) : FnOk P w K mg base CX0 5 f fd ["size", "threes"] sp_ringless_number := by
  refine okD F sc_ringless_number (fun vs H Q E h => ?_) fun cdv A outer s H vs Q E hr h => ?_
  · obtain ⟨X, n, v, ts, rfl, _⟩ := h
    rfl
  · obtain ⟨X, n, v, ts, rfl, lx, hn, hv, hg, hl, q⟩ := h
    refine ⟨_, pss_one (ps_ret (pe_callB call_len_seq (by rfl) T.b_len PySem.boot_len (pa_cons (pe_c (c_ringless_lot T) hr (by rfl) (pa_cons (pv 0) (pa_cons (pe_c (c_want_threes T) hr (by rfl) (pa_cons (pv 0) (pa_cons (pv 1) pa_nil))) pa_nil))) pa_nil))), ?_⟩
    refine ⟨_, rfl, _, rfl, _, rfl, X, n, v, ts, rfl, lx, hn, hv, by omega, hg, fun H1 u s1 hu => ?_⟩
    refine ⟨X, n, u, ts, rfl, lx.same s1, hn, hu, hg, hl, fun H2 z k lot s2 hz hL => ?_⟩
    obtain ⟨c, us, rfl, _, hc, pc⟩ := hz
    refine ⟨c, us, rfl, .inl (SqL.of (hid_at hc)), ?_⟩
    rw [paired_len pc]
    exact q H2 _ (s1.trans s2) (hL.max hg)
theorem c_ringless_number (T : Tt K mg) : Ca P w K mg base 5 "ringless_number" ["size", "threes"] sp_ringless_number := by
  obtain ⟨fd, F⟩ := T.e_ringless_number
  exact Ca.mk' F T.g_ringless_number (ok_ringless_number T F) fun _ _ _ _ _ _ us hl => match us, hl with | [_, _], _ => rfl
end
end Tx
set_option Elab.async false
set_option linter.all false
set_option maxRecDepth 100000
set_option maxHeartbeats 4000000
namespace Tx
open PySem PySem.Spec PyProof.Rows L2
section
variable {P : Program} {w : World} {K : PySem.W.Frag} {mg : Str → Option Value} {base : Heap}
/-! ### ints_at, rank_of, free_of -/
/-- the Pairs of threes -/
def dTP (K : PySem.W.Frag) (n : Nat) (ts : List Mth.Three) : Hp → V → Prop := fun G v => dPairs K G v (n, ts.map (prOf n))
theorem dTP.up {n : Nat} {ts : List Mth.Three} {G G' : Hp} {v : V} (s : Same G G') (h : dTP K n ts G v) : dTP K n ts G' v := (mPairs K).up s h
theorem sc_ints_at : FnScope ["pairs", "lot", "found", "place"] ["pairs", "lot"] (defScope s_ints_at) := ⟨rfl, rfl, rfl, by decide +kernel, rfl, by decide +kernel, by decide +kernel⟩
def sp_ints_at (K : PySem.W.Frag) : Sp := fun vs H Q _ => ∃ (X : List Addr) (v u : V) (n : Nat) (ts : List Mth.Three) (lot : List Nat), vs = [v, u] ∧ Lives X H ∧ dTP K n ts (hid X H) v ∧ dList dNat (hid X H) u lot ∧ (∀ x ∈ lot, x < ts.length) ∧ lot.length ≤ 100 ∧
  ∀ H' z, Same H H' → dList (dList dInt) (hid X H') z (Mth.rowsOf n (Mth.sel ts lot)) → Q z H'
theorem c_ints_at (T : Tt K mg) : Ca P w K mg base 1 "ints_at" ["pairs", "lot"] (sp_ints_at K) := by
  obtain ⟨fd, F⟩ := T.e_ints_at
  refine Ca.mk' F T.g_ints_at (okD F sc_ints_at (fun vs H Q E h => ?_) fun cdv A outer s H vs Q E hr h => ?_) fun _ _ _ _ _ _ us hl => match us, hl with | [_, _], _ => rfl
  · obtain ⟨X, v, u, n, ts, lot, rfl, _⟩ := h
    rfl
  · obtain ⟨X, v, u, n, ts, lot, rfl, lx, ⟨a, dx, vr, vi, rfl, ha, hvr, hvi⟩, ⟨b, us, rfl, hb, pb⟩, hlt, hll, q⟩ := h
    have nd := sc_ints_at.nd
    obtain ⟨ci, ws, rfl, hci, pci⟩ := hvi
    have eu := paired_nat pb
    subst eu
    refine ⟨_, pss_cons (ps_set (i := 2) nd rfl (.inl rfl) (pe_lst pa_nil))
      (pss_cons (ps_for PassesOwn.never rfl (pi_list (pv 1)) (pg_name (i := 3) nd rfl (.inl rfl)) (pss_one (ps_expr (pe_bm PySem.F.plainAttrs_list PySem.F.slot_list_extend PySem.F.type_list_extend mt_extendT (pv 2) (pa_cons (pe_ix ix_list (pe_fld (pv 0) rfl) (pv 3) (fun _ _ => rfl)) pa_nil)))))
      (pss_one (ps_ret (pv 2)))), ?_⟩
    refine ⟨Nat.zero_le _, fun D nD => ?_⟩
    have sD := sameU (o := .lst []) nD
    refine ⟨_, rfl, b, rfl, ⟨_, SqL.of (sD _ _ (hid_at hb))⟩, for_list (K := K) (a := b) (xs := lot.map fun (i : Nat) => V.int (i : Int)) (fun i σ H2 => ∃ y3, σ = [some (.ref a), some (.ref b), some (.ref D), y3] ∧ Same H H2 ∧ ∃ acc, H2 D = some (.lst acc) ∧ Paired (dList dInt (hid (D :: X) H2)) acc (Mth.rowsOf n (Mth.sel ts (lot.take i))))
      ⟨none, rfl, sD, [], upd_same, .nil⟩ (fun i σ H2 _ ⟨_, _, s2, _⟩ => SqL.of (s2 _ _ (hid_at hb))) ?_ ?_⟩
    · rintro i v σ H2 hv ⟨y3, rfl, s2, acc, eD, pa⟩
      obtain ⟨x, hx, e⟩ := paired_at pb hv
      have e : v = .int (x : Int) := e
      subst e
      have hxt : x < ts.length := hlt x (List.mem_of_getElem? hx)
      have hi : i < lot.length := (List.getElem?_eq_some_iff.mp hx).1
      obtain ⟨pv', hpv, c, w2, rfl, hc, pc⟩ := paired_to pci (show (ts.map (prOf n))[x]? = some (prOf n ts[x]) by rw [List.getElem?_map, List.getElem?_eq_getElem hxt]; rfl)
      have m2 : Same (hid X H) (hid (D :: X) H2) := (hid_new nD).trans s2.hid
      have hlen : acc.length + w2.length ≤ sizeLine := by
        have e1 := paired_len pa
        have e2 := paired_len pc
        rw [Mth.rowsOf_length, Mth.sel_length, List.length_take] at e1
        have e3 : (prOf n ts[x]).length = 2 := rfl
        exact Nat.le_of_lt (small1000 (by omega))
      refine ⟨_, rfl, .inl ⟨rfl, _, SqL.of eD⟩, _, rfl, a, _, dx, _, _, rfl, s2 _ _ (hid_at ha), T.cl_Pairs, T.n_own_ints, pFs_ints _ _ _, _, rfl, ci, ws, x, _, rfl, rfl, SqL.of (s2 _ _ (hid_at hci)), atI_nat hpv, D, c, acc, w2, rfl, rfl, eD, s2 _ _ (hid_at hc), hlen, ?_⟩
      have mD : Same (hid (D :: X) H2) (hid (D :: X) (upd H2 D (.lst (acc ++ w2)))) := hid_upd List.mem_cons_self
      refine ⟨_, rfl, fun y o e => ?_, _, upd_same, ?_⟩
      · rw [upd_ne (ne_of_none e nD)]
        exact s2 _ _ e
      · have er : Mth.rowsOf n (Mth.sel ts (lot.take (i + 1))) = Mth.rowsOf n (Mth.sel ts (lot.take i)) ++ prOf n ts[x] := by
          rw [List.take_add_one, hx, Mth.sel_append, Mth.rowsOf_append]
          congr 1
          show Mth.rowsOf n [ts.getD x (0, 0, 0)] = _
          rw [List.getD_eq_getElem?_getD, List.getElem?_eq_getElem hxt]
          rfl
        rw [er]
        exact paired_app (paired_mono (fun _ _ => (mList mInt).up mD) pa) (paired_mono (fun _ _ => (mList mInt).up (m2.trans mD)) pc)
    · rintro σ H2 ⟨y3, rfl, s2, acc, eD, pa⟩
      rw [List.length_map, List.take_length] at pa
      exact ⟨_, rfl, q H2 _ s2 ⟨D, acc, rfl, hid_some.mpr ⟨lx.out nD, eD⟩, paired_mono (fun _ _ => (mList mInt).up hid_tail) pa⟩⟩
theorem sc_rank_of : FnScope ["pairs", "lot"] ["pairs", "lot"] (defScope s_rank_of) := ⟨rfl, rfl, rfl, by decide +kernel, rfl, by decide +kernel, by decide +kernel⟩
def sp_rank_of (K : PySem.W.Frag) : Sp := fun vs H Q _ => ∃ (X : List Addr) (v u : V) (n : Nat) (ts : List Mth.Three) (lot : List Nat), vs = [v, u] ∧ Lives X H ∧ n ≤ 8 ∧ dTP K n ts (hid X H) v ∧ dList dNat (hid X H) u lot ∧ (∀ x ∈ lot, x < ts.length) ∧ lot.length ≤ 100 ∧
  ∀ H', Same H H' → Q (.int (Mth.intRank (Mth.rowsOf n (Mth.sel ts lot)) : Nat)) H'
theorem c_rank_of (T : Tt K mg) : Ca P w K mg base 5 "rank_of" ["pairs", "lot"] (sp_rank_of K) := by
  obtain ⟨fd, F⟩ := T.e_rank_of
  refine Ca.mk' F T.g_rank_of (okD F sc_rank_of (fun vs H Q E h => ?_) fun cdv A outer s H vs Q E hr h => ?_) fun _ _ _ _ _ _ us hl => match us, hl with | [_, _], _ => rfl
  · obtain ⟨X, v, u, n, ts, lot, rfl, _⟩ := h
    rfl
  · obtain ⟨X, v, u, n, ts, lot, rfl, lx, hn, hv, hu, hlt, hll, q⟩ := h
    refine ⟨_, pss_one (ps_ret (pe_c (c_int_rank T) hr (by rfl) (pa_cons (pe_c (c_ints_at T) (hr.mono (by decide)) (by rfl) (pa_cons (pv 0) (pa_cons (pv 1) pa_nil))) pa_nil))), ?_⟩
    refine ⟨_, rfl, _, rfl, X, v, u, n, ts, lot, rfl, lx, hv, hu, hlt, hll, fun H1 z s1 hz => ?_⟩
    refine ⟨X, z, _, n, rfl, lx.same s1, hz, Mth.rowsOf_len, by omega, ?_, Mth.rowsOf_small _ _, fun H2 s2 => q H2 (s1.trans s2)⟩
    rw [Mth.rowsOf_length, Mth.sel_length]
    omega
theorem sc_free_of : FnScope ["pairs", "lot"] ["pairs", "lot"] (defScope s_free_of) := ⟨rfl, rfl, rfl, by decide +kernel, rfl, by decide +kernel, by decide +kernel⟩
def sp_free_of (K : PySem.W.Frag) : Sp := fun vs H Q _ => ∃ (X : List Addr) (v u : V) (n : Nat) (ts : List Mth.Three) (lot : List Nat), vs = [v, u] ∧ Lives X H ∧ n ≤ 8 ∧ dTP K n ts (hid X H) v ∧ dList dNat (hid X H) u lot ∧ (∀ x ∈ lot, x < ts.length) ∧ lot.length ≤ 100 ∧
  ∀ H', Same H H' → Q (.bl (Mth.freeB n ts lot)) H'
theorem c_free_of (T : Tt K mg) : Ca P w K mg base 6 "free_of" ["pairs", "lot"] (sp_free_of K) := by
  obtain ⟨fd, F⟩ := T.e_free_of
  refine Ca.mk' F T.g_free_of (okD F sc_free_of (fun vs H Q E h => ?_) fun cdv A outer s H vs Q E hr h => ?_) fun _ _ _ _ _ _ us hl => match us, hl with | [_, _], _ => rfl
  · obtain ⟨X, v, u, n, ts, lot, rfl, _⟩ := h
    rfl
  · obtain ⟨X, v, u, n, ts, lot, rfl, lx, hn, hv, ⟨b, us, rfl, hb, pb⟩, hlt, hll, q⟩ := h
    have hv0 := hv
    obtain ⟨a, dx, vr, vi, rfl, ha, hvr, hvi⟩ := hv
    have lenb := paired_len pb
    refine ⟨_, pss_one (ps_ret (pe_and (pe_cmpR op_le (pe_op op_mul pe_int (pe_callB call_len_seq (by rfl) T.b_len PySem.boot_len (pa_cons (pv 1) pa_nil))) (pe_fld (pv 0) rfl) (nomark _))
      (pe_one (pe_cmpR op_eq (pe_c (c_rank_of T) hr (by rfl) (pa_cons (pv 0) (pa_cons (pv 1) pa_nil))) (pe_op op_mul pe_int (pe_callB call_len_seq (by rfl) T.b_len PySem.boot_len (pa_cons (pv 1) pa_nil))) (nomark _))))), ?_⟩
    refine ⟨_, rfl, b, us, rfl, .inl (SqL.of (hid_at hb)), 2, _, rfl, rfl, .inl ⟨by decide, by decide⟩, _, rfl, a, _, dx, _, _, rfl, hid_at ha, T.cl_Pairs, T.n_own_size, pFs_size _ _ _, _, _, rfl, rfl, _, rfl, ?_⟩
    have e1 : decide ((2 : Int) * (us.length : Int) ≤ (n : Int)) = decide (2 * lot.length ≤ n) := by
      by_cases h : 2 * lot.length ≤ n
      · rw [decide_eq_true h, decide_eq_true (by omega)]
      · rw [decide_eq_false h, decide_eq_false (by omega)]
    show if decide ((2 : Int) * (us.length : Int) ≤ (n : Int)) = true then _ else _
    rw [e1]
    have q1 := q
    unfold Mth.freeB at q1
    refine ite2 (fun h => ?_) fun h => ?_
    · rw [h] at q1
      refine ⟨_, rfl, _, rfl, X, _, _, n, ts, lot, rfl, lx, hn, hv0, ⟨b, us, rfl, hb, pb⟩, hlt, hll, fun H1 s1 => ?_⟩
      refine ⟨_, rfl, b, us, rfl, .inl (SqL.of (s1 _ _ (hid_at hb))), 2, _, rfl, rfl, .inl ⟨by decide, by decide⟩, rfl, ?_⟩
      have e2 : decide (V.int (Mth.intRank (Mth.rowsOf n (Mth.sel ts lot)) : Nat) = V.int (2 * (us.length : Int))) = decide (Mth.intRank (Mth.rowsOf n (Mth.sel ts lot)) = 2 * lot.length) := by
        by_cases h2 : Mth.intRank (Mth.rowsOf n (Mth.sel ts lot)) = 2 * lot.length
        · rw [decide_eq_true h2, decide_eq_true]
          rw [h2, lenb]
          rfl
        · rw [decide_eq_false h2, decide_eq_false]
          intro z
          have := V.int.inj z
          omega
      show Q (.bl (decide (V.int (Mth.intRank (Mth.rowsOf n (Mth.sel ts lot)) : Nat) = V.int (2 * (us.length : Int))))) H1
      rw [e2]
      exact q1 H1 s1
    · have h' : decide (2 * lot.length ≤ n) = false := by
        cases e : decide (2 * lot.length ≤ n) with
        | false => rfl
        | true => exact absurd e h
      rw [h'] at q1
      exact q1 H (Same.refl H)
end
end Tx
set_option Elab.async false
set_option linter.all false
set_option maxRecDepth 100000
set_option maxHeartbeats 4000000
namespace Tx
open PySem PySem.Spec PyProof.Rows L2
section
variable {P : Program} {w : World} {K : PySem.W.Frag} {mg : Str → Option Value} {base : Heap}
/-! ### longer_lots (lots) -/
theorem sc_longer_lots_lots : FnScope ["pairs", "lots", "found", "lot", "place"] ["pairs", "lots"] (defScope s_longer_lots_lots) := ⟨rfl, rfl, rfl, by decide +kernel, rfl, by decide +kernel, by decide +kernel⟩
def sp_longer_lots_lots (K : PySem.W.Frag) : Sp := fun vs H Q _ => ∃ (X : List Addr) (n : Nat) (v u : V) (ts : List Mth.Three) (lots : List (List Nat)), vs = [v, u] ∧ Lives X H ∧ n ≤ 8 ∧ dTP K n ts (hid X H) v ∧ (∀ t ∈ ts, Mth.Good n t) ∧
  dList (dList dNat) (hid X H) u lots ∧ (∀ lot ∈ lots, (∀ x ∈ lot, x < ts.length) ∧ lot.length ≤ 50) ∧ lots.length * ts.length < sizeLine ∧ ts.length ≤ 1000 ∧
  ∀ H' z, Same H H' → dList (dList dNat) (hid X H') z (lots.flatMap (Mth.ext (Mth.rl n ts) ts.length)) → Q z H'
theorem c_longer_lots_lots (T : Tt K mg) : Ca P w K mg base 7 "longer_lots_lots" ["pairs", "lots"] (sp_longer_lots_lots K) := by
  obtain ⟨fd, F⟩ := T.e_longer_lots_lots
  refine Ca.mk' F T.g_longer_lots_lots (okD F sc_longer_lots_lots (fun vs H Q E h => ?_) fun cdv A outer s H vs Q E hr h => ?_) fun _ _ _ _ _ _ us hl => match us, hl with | [_, _], _ => rfl
  · obtain ⟨X, n, v, u, ts, lots, rfl, _⟩ := h
    rfl
  · obtain ⟨X, n, v, u, ts, lots, rfl, lx, hn, hv, hg, ⟨b, us, rfl, hb, hq⟩, hlots, hsz, hts, q⟩ := h
    have hv0 := hv
    obtain ⟨a, dx, vr, vi, rfl, ha, ⟨cr, wr, rfl, hcr, lcr⟩, _⟩ := hv
    have lcr : wr.length = ts.length := by
      rw [lcr]
      exact List.length_map _
    have nd := sc_longer_lots_lots.nd
    refine ⟨_, pss_cons (ps_set (i := 2) nd rfl (.inl rfl) (pe_lst pa_nil))
      (pss_cons (ps_for PassesOwn.never rfl (pi_list (pv 1)) (pg_name (i := 3) nd rfl (.inl rfl))
        (pss_one (ps_for PassesOwn.never rfl (pi_range2 (by rfl) T.b_range (pa_cons (pe_ifExp (pt_cmpR (op_neE hr.units0) (pv 3) (pe_lst pa_nil) (nomark _)) (pe_op op_add (pe_ix ix_list (pv 3) (pe_un un_neg pe_int) (fun _ _ => rfl)) pe_int) pe_int)
            (pa_cons (pe_callB call_len_seq (by rfl) T.b_len PySem.boot_len (pa_cons (pe_fld (pv 0) rfl) pa_nil)) pa_nil))) (pg_name (i := 4) nd rfl (.inl rfl))
          (pss_one (ps_if (pt_val (pe_c (c_free_of T) hr (by rfl) (pa_cons (pv 0) (pa_cons (pe_op op_cat (pv 3) (pe_lst (pa_cons (pv 4) pa_nil))) pa_nil))))
            (pss_one (ps_expr (pe_bm PySem.F.plainAttrs_list PySem.F.slot_list_append PySem.F.type_list_append mt_append (pv 2) (pa_cons (pe_op op_cat (pv 3) (pe_lst (pa_cons (pv 4) pa_nil))) pa_nil)))) pss_nil)))))
      (pss_one (ps_ret (pv 2)))), ?_⟩
    refine ⟨Nat.zero_le _, fun D nD => ?_⟩
    have sD := sameU (o := .lst []) nD
    have lenu := paired_len hq
    refine ⟨_, rfl, b, rfl, ⟨_, SqL.of (sD _ _ (hid_at hb))⟩, for_list (K := K) (a := b) (xs := us) (fun i σ H2 => ∃ y3 y4, σ = [some (.ref a), some (.ref b), some (.ref D), y3, y4] ∧ Same H H2 ∧ ∃ acc, H2 D = some (.lst acc) ∧ Paired (dList dNat (hid (D :: X) H2)) acc ((lots.take i).flatMap (Mth.ext (Mth.rl n ts) ts.length)))
      ⟨none, none, rfl, sD, [], upd_same, .nil⟩ (fun i σ H2 _ ⟨_, _, _, s2, _⟩ => SqL.of (s2 _ _ (hid_at hb))) ?_ ?_⟩
    · rintro i v σ H2' hv ⟨y3, y4, rfl, s2', acc, eD', pa'⟩
      obtain ⟨lot, hlot, hlp⟩ := paired_at hq hv
      have hi : i < lots.length := (List.getElem?_eq_some_iff.mp hlot).1
      obtain ⟨hlt, hll⟩ := hlots lot (List.mem_of_getElem? hlot)
      have m2' : Same (hid X H) (hid (D :: X) H2') := (hid_new nD).trans s2'.hid
      obtain ⟨d1, us1, rfl, hd1', pd1⟩ := (mList mNat).up m2' hlp
      have eus := paired_nat pd1
      subst eus
      -- lot != []
      refine ⟨_, rfl, Nat.zero_le _, fun p0 n0 => ⟨d1, p0, _, rfl, rfl, SqL.of (sameU n0 _ _ (hid_at hd1')), SqL.of upd_same, _, rfl, ?_⟩⟩
      have t0 := sameU (o := .lst []) n0
      have s2 := s2'.trans t0
      have eD := t0 _ _ eD'
      have pa := paired_mono (fun _ _ => (mList mNat).up (t0.hid (X := D :: X))) pa'
      have hd1h := t0.hid _ _ hd1'
      have hd1 := hid_at hd1h
      have m2 := m2'.trans t0.hid
      generalize upd H2' p0 (.lst []) = H2 at s2 eD pa hd1h hd1 m2 ⊢
      have lo : ∀ (k : VK), k (.int (Mth.nxt lot : Nat)) H2 → (if (!(lot.map fun (i : Nat) => V.int (i : Int)).isEmpty) = true then tOp (rI0 fun i j => .int (i + j)) (tOp (rIxL K) (tVar 3) (tUn (rU fun i => .int (-i)) (tC (.int 1)))) (tC (.int 1)) [some (.ref a), some (.ref b), some (.ref D), some (.ref d1), y4] H2 k
          else tC (.int 0) [some (.ref a), some (.ref b), some (.ref D), some (.ref d1), y4] H2 k) := fun k hk => by
        cases e : lot.getLast? with
        | none =>
          rw [List.getLast?_eq_none_iff] at e
          subst e
          exact iteF hk
        | some x =>
          have ne : (!(lot.map fun (i : Nat) => V.int (i : Int)).isEmpty) = true := by
            cases lot with
            | nil => cases e
            | cons y ys => rfl
          have en : Mth.nxt lot = x + 1 := by
            unfold Mth.nxt
            rw [e]
          rw [en] at hk
          rw [ne]
          exact iteT ⟨_, rfl, 1, rfl, d1, _, -1, _, rfl, rfl, SqL.of hd1, last_nat e, _, 1, rfl, rfl, hk⟩
      refine lo _ ?_
      have nx62 : Mth.nxt lot ≤ 1001 := by
        unfold Mth.nxt
        cases e : lot.getLast? with
        | none => exact Nat.zero_le _
        | some x =>
          have := hlt x (List.mem_of_getLast? e)
          show x + 1 ≤ 1001
          omega
      refine ⟨_, rfl, a, _, dx, _, _, rfl, s2 _ _ (hid_at ha), T.cl_Pairs, T.n_own_rows, pFs_rows _ _ _, cr, wr, rfl, .inl (SqL.of (s2 _ _ (hid_at hcr))), _, _, rfl, ⟨by omega, by omega, by omega, by omega⟩, ?_⟩
      have eN : (((wr.length : Nat) : Int) - (Mth.nxt lot : Nat)).toNat = ts.length - Mth.nxt lot := by omega
      rw [eN]
      refine for_range (lo := (Mth.nxt lot : Nat)) (n := ts.length - Mth.nxt lot) (fun j σ H3 => ∃ y4, σ = [some (.ref a), some (.ref b), some (.ref D), some (.ref d1), y4] ∧ (∀ x o, H2 x = some o → x ≠ D → H3 x = some o) ∧
          ∃ acc, H3 D = some (.lst acc) ∧ Paired (dList dNat (hid (D :: X) H3)) acc ((lots.take i).flatMap (Mth.ext (Mth.rl n ts) ts.length) ++ Mth.exK (Mth.rl n ts) lot (Mth.nxt lot) j))
        ⟨_, rfl, fun _ _ e _ => e, acc, eD, by rw [Mth.exK_zero, List.append_nil]; exact pa⟩ ?_ ?_
      · rintro j σ H3 hj ⟨z4, rfl, s3, acc3, eD3, pa3⟩
        have exj : ((Mth.nxt lot : Nat) : Int) + (j : Nat) = ((Mth.nxt lot + j : Nat) : Int) := by omega
        rw [exj]
        have s3h : Same (hid (D :: X) H2) (hid (D :: X) H3) := fun x o e => by
          rw [hid_some] at e ⊢
          exact ⟨e.1, s3 _ _ e.2 fun z => e.1 (by rw [z]; exact List.mem_cons_self)⟩
        have sH3 : Same H H3 := fun x o e => s3 _ _ (s2 _ _ e) (ne_of_none e nD)
        have hpl : Mth.nxt lot + j < ts.length := by omega
        have m3 : Same (hid X H) (hid (D :: X) H3) := m2.trans s3h
        have lx3 : Lives (D :: X) H3 := (lx.same sH3).cons eD3
        have hd3 := s3h _ _ hd1h
        have hlen1 : (lot.map fun (i : Nat) => V.int (i : Int)).length + [V.int ((Mth.nxt lot + j : Nat) : Int)].length ≤ sizeLine := by
          rw [List.length_map]
          show lot.length + 1 ≤ sizeLine
          exact small1000 (by omega)
        have hlt' : ∀ x ∈ lot ++ [Mth.nxt lot + j], x < ts.length := fun x hx => by
          rcases List.mem_append.mp hx with hx | hx
          · exact hlt x hx
          · simp only [List.mem_cons, List.not_mem_nil, or_false] at hx
            omega
        -- free_of(pairs, lot + [place])
        refine ⟨_, rfl, _, rfl, _, rfl, (by show 1 ≤ sizeLine; decide), fun l1 n1 => ?_⟩
        have t1 := sameU (o := .lst [.int ((Mth.nxt lot + j : Nat) : Int)]) n1
        refine ⟨d1, l1, _, _, rfl, rfl, t1 _ _ (hid_at hd3), upd_same, hlen1, fun l2 n2 => ?_⟩
        have t2 := sameU (o := .lst ((lot.map fun (i : Nat) => V.int (i : Int)) ++ [.int ((Mth.nxt lot + j : Nat) : Int)])) n2
        have lx4 := lx3.same t1
        have lx5 := lx4.same t2
        have pl : ∀ {G : Hp}, Paired (dNat G) ((lot.map fun (i : Nat) => V.int (i : Int)) ++ [.int ((Mth.nxt lot + j : Nat) : Int)]) (lot ++ [Mth.nxt lot + j]) := paired_app (paired_of_nat lot) (.cons rfl .nil)
        refine ⟨D :: X, _, _, n, ts, lot ++ [Mth.nxt lot + j], rfl, lx5, hn, (mPairs K).up (m3.trans (t1.trans t2).hid) hv0, ⟨l2, _, rfl, hid_put (lx4.out n2), pl⟩, hlt', by rw [List.length_append]; show lot.length + 1 ≤ 100; omega, fun H5 s5 => ⟨_, rfl, ?_⟩⟩
        rw [Mth.free_rl hg hlt']
        have t15 := (t1.trans t2).trans s5
        have eD5 := t15 _ _ eD3
        have s35 : ∀ x o, H2 x = some o → x ≠ D → H5 x = some o := fun x o e ne => t15 _ _ (s3 _ _ e ne)
        have pa5 := paired_mono (fun _ _ => (mList mNat).up (t15.hid (X := D :: X))) pa3
        have hd5 := t15.hid _ _ hd3
        have lx5' := lx3.same t15
        refine ite2 (fun h => ?_) fun h => ?_
        · refine ⟨_, rfl, .inl ⟨rfl, _, SqL.of eD5⟩, _, rfl, _, rfl, (by show 1 ≤ sizeLine; decide), fun l3 n3 => ?_⟩
          have t3 := sameU (o := .lst [.int ((Mth.nxt lot + j : Nat) : Int)]) n3
          refine ⟨d1, l3, _, _, rfl, rfl, t3 _ _ (hid_at hd5), upd_same, hlen1, fun l4 n4 => ?_⟩
          have t4 := sameU (o := .lst ((lot.map fun (i : Nat) => V.int (i : Int)) ++ [.int ((Mth.nxt lot + j : Nat) : Int)])) n4
          have t34 := t3.trans t4
          refine ⟨D, acc3, _, rfl, rfl, t34 _ _ eD5, ?_, ?_⟩
          · rw [paired_len pa3, List.length_append]
            have b1 := Mth.flat_len (Mth.rl n ts) ts.length (lots.take i)
            have b2 := Mth.exK_len (Mth.rl n ts) lot (Mth.nxt lot) j
            rw [List.length_take, Nat.min_eq_left (by omega)] at b1
            have b3 : i * ts.length + ts.length ≤ lots.length * ts.length := by
              have := Nat.mul_le_mul_right ts.length (show i + 1 ≤ lots.length by omega)
              rw [Nat.add_mul, Nat.one_mul] at this
              exact this
            omega
          · have mD : ∀ {G : Hp} {o : HO}, Same (hid (D :: X) G) (hid (D :: X) (upd G D o)) := hid_upd List.mem_cons_self
            refine ⟨_, rfl, fun x o e ne => ?_, _, upd_same, ?_⟩
            · rw [upd_ne ne]
              exact t34 _ _ (s35 _ _ e ne)
            · rw [Mth.exK_succ, if_pos h, ← List.append_assoc]
              exact paired_app (paired_mono (fun _ _ => (mList mNat).up (t34.hid.trans mD)) pa5) (.cons ⟨l4, _, rfl, mD _ _ (hid_put ((lx5'.same t3).out n4)), pl⟩ .nil)
        · refine ⟨_, rfl, s35, acc3, eD5, ?_⟩
          rw [Mth.exK_succ, if_neg h, List.append_nil]
          exact pa5
      · rintro σ H3 ⟨z4, rfl, s3, acc3, eD3, pa3⟩
        refine ⟨_, _, rfl, fun x o e => s3 _ _ (s2 _ _ e) (ne_of_none e nD), acc3, eD3, ?_⟩
        rw [List.take_add_one, hlot, List.flatMap_append]
        show Paired _ acc3 (_ ++ (Mth.ext (Mth.rl n ts) ts.length lot ++ []))
        rw [List.append_nil]
        exact pa3
    · rintro σ H2 ⟨y3, y4, rfl, s2, acc, eD, pa⟩
      refine ⟨_, rfl, q H2 _ s2 ⟨D, acc, rfl, hid_some.mpr ⟨lx.out nD, eD⟩, ?_⟩⟩
      rw [lenu, List.take_length] at pa
      exact paired_mono (fun _ _ => (mList mNat).up hid_tail) pa
/-! ### greatest_of, greatest -/
theorem sc_greatest_of : FnScope ["pairs", "found", "longer"] ["pairs"] (defScope s_greatest_of) := ⟨rfl, rfl, rfl, by decide +kernel, rfl, by decide +kernel, by decide +kernel⟩
def sp_greatest_of (K : PySem.W.Frag) : Sp := fun vs H Q _ => ∃ (X : List Addr) (n : Nat) (v : V) (ts : List Mth.Three), vs = [v] ∧ Lives X H ∧ n ≤ 8 ∧ dTP K n ts (hid X H) v ∧ (∀ t ∈ ts, Mth.Good n t) ∧ ts.length ≤ 7 ∧
  ∀ H' z k, Same H H' → dList (dList dNat) (hid X H') z (Mth.lv (Mth.rl n ts) ts.length k) → Mth.lv (Mth.rl n ts) ts.length k ≠ [] → Mth.lv (Mth.rl n ts) ts.length (k + 1) = [] → Q z H'
theorem c_greatest_of (T : Tt K mg) : Ca P w K mg base 8 "greatest_of" ["pairs"] (sp_greatest_of K) := by
  obtain ⟨fd, F⟩ := T.e_greatest_of
  refine Ca.mk' F T.g_greatest_of (okD F sc_greatest_of (fun vs H Q E h => ?_) fun cdv A outer s H vs Q E hr h => ?_) fun _ _ _ _ _ _ us hl => match us, hl with | [_], _ => rfl
  · obtain ⟨X, n, v, ts, rfl, _⟩ := h
    rfl
  · obtain ⟨X, n, v, ts, rfl, lx, hn, hv, hg, hl, q⟩ := h
    have nd := sc_greatest_of.nd
    refine ⟨_, pss_cons (ps_par (i := 1) (j := 2) (by rfl) nd rfl rfl (by decide) rfl rfl (pa_cons (pe_lst (pa_cons (pe_lst pa_nil) pa_nil)) (pa_cons (pe_c (c_longer_lots_lots T) hr (by rfl) (pa_cons (pv 0) (pa_cons (pe_lst (pa_cons (pe_lst pa_nil) pa_nil)) pa_nil))) pa_nil)) (by rfl))
      (pss_cons (ps_while PassesOwn.never (pt_cmpR (op_neE hr.units0) (pv 2) (pe_lst pa_nil) (nomark _))
        (pss_one (ps_par (i := 1) (j := 2) (by rfl) nd rfl rfl (by decide) rfl rfl (pa_cons (pv 2) (pa_cons (pe_c (c_longer_lots_lots T) hr (by rfl) (pa_cons (pv 0) (pa_cons (pv 2) pa_nil))) pa_nil)) (by rfl))))
      (pss_one (ps_ret (pv 1)))), ?_⟩
    have lots_ok : ∀ k, k ≤ 7 → ∀ lot ∈ Mth.lv (Mth.rl n ts) ts.length k, (∀ x ∈ lot, x < ts.length) ∧ lot.length ≤ 50 := fun k hk lot h => by
      obtain ⟨a, b⟩ := Mth.lv_elems k lot h
      exact ⟨a, by omega⟩
    refine ⟨Nat.zero_le _, fun p1 n1 => ⟨(by show 1 ≤ sizeLine; decide), fun p2 n2 => ⟨_, rfl, Nat.zero_le _, fun p3 n3 => ⟨(by show 1 ≤ sizeLine; decide), fun p4 n4 => ?_⟩⟩⟩⟩
    have t1 := sameU (o := .lst []) n1
    have t2 := sameU (o := .lst [.ref p1]) n2
    have t3 := sameU (o := .lst []) n3
    have t4 := sameU (o := .lst [.ref p3]) n4
    have lx1 := lx.same t1
    have lx2 := lx1.same t2
    have lx3 := lx2.same t3
    have lx4 := lx3.same t4
    have sA := ((t1.trans t2).trans t3).trans t4
    have d2 : dList (dList dNat) (hid X (upd (upd (upd (upd H p1 (.lst [])) p2 (.lst [.ref p1])) p3 (.lst [])) p4 (.lst [.ref p3]))) (.ref p2) (Mth.lv (Mth.rl n ts) ts.length 0) :=
      ⟨p2, _, rfl, (t3.trans t4).hid _ _ (hid_put (lx1.out n2)), .cons ⟨p1, [], rfl, (t2.trans (t3.trans t4)).hid _ _ (hid_put (lx.out n1)), .nil⟩ .nil⟩
    have d4 : dList (dList dNat) (hid X (upd (upd (upd (upd H p1 (.lst [])) p2 (.lst [.ref p1])) p3 (.lst [])) p4 (.lst [.ref p3]))) (.ref p4) (Mth.lv (Mth.rl n ts) ts.length 0) :=
      ⟨p4, _, rfl, hid_put (lx3.out n4), .cons ⟨p3, [], rfl, t4.hid _ _ (hid_put (lx2.out n3)), .nil⟩ .nil⟩
    refine ⟨X, n, v, .ref p4, ts, _, rfl, lx4, hn, dTP.up sA.hid hv, hg, d4, lots_ok 0 (by omega), lv_room hl (by omega), by omega, fun H5 z s5 hz => ⟨_, _, rfl, ?_⟩⟩
    refine ⟨fun m σ H2 => ∃ k vf vl, σ = [some v, some vf, some vl] ∧ k + m = ts.length + 1 ∧ k ≤ ts.length ∧ Same H H2 ∧ Mth.lv (Mth.rl n ts) ts.length k ≠ [] ∧ dList (dList dNat) (hid X H2) vf (Mth.lv (Mth.rl n ts) ts.length k) ∧ dList (dList dNat) (hid X H2) vl (Mth.lv (Mth.rl n ts) ts.length (k + 1)),
      ⟨ts.length + 1, 0, .ref p2, z, rfl, by omega, by omega, sA.trans s5, (List.cons_ne_nil [] [] : ([[]] : List (List Nat)) ≠ []), (mList (mList mNat)).up s5.hid d2, hz⟩, ?_⟩
    rintro m σ H2 ⟨k, vf, vl, rfl, hkm, hk1, s2, hne, hf, hlg⟩
    obtain ⟨b, us, rfl, hb, pb⟩ := hlg
    have lenb := paired_len pb
    refine ⟨_, rfl, Nat.zero_le _, fun p np => ⟨b, p, us, rfl, rfl, SqL.of (sameU np _ _ (hid_at hb)), SqL.of upd_same, _, rfl, ?_⟩⟩
    have sp := sameU (o := .lst []) np
    have s3 := s2.trans sp
    have lx3' := lx.same s3
    match us, pb, hb, lenb with
    | [], pb, hb, lenb =>
      have e0 : Mth.lv (Mth.rl n ts) ts.length (k + 1) = [] := List.eq_nil_of_length_eq_zero lenb.symm
      exact iteF ⟨_, rfl, q _ vf k s3 ((mList (mList mNat)).up sp.hid hf) hne e0⟩
    | x :: us, pb, hb, lenb =>
      have ne : Mth.lv (Mth.rl n ts) ts.length (k + 1) ≠ [] := fun z => by
        rw [z] at lenb
        cases lenb
      have hk := Mth.lv_len_le hg ne
      have hd : dList (dList dNat) (hid X (upd H2 p (.lst []))) (.ref b) (Mth.lv (Mth.rl n ts) ts.length (k + 1)) := (mList (mList mNat)).up sp.hid ⟨b, _, rfl, hb, pb⟩
      refine iteT ⟨fun σ' H' => ∃ vl', σ' = [some v, some (.ref b), some vl'] ∧ Same H H' ∧ dList (dList dNat) (hid X H') (.ref b) (Mth.lv (Mth.rl n ts) ts.length (k + 1)) ∧ dList (dList dNat) (hid X H') vl' (Mth.lv (Mth.rl n ts) ts.length (k + 1 + 1)), fun σ' H' hN => ?_, ?_⟩
      · obtain ⟨vl', e, s', hf', hl'⟩ := hN
        exact ⟨m - 1, by omega, k + 1, .ref b, vl', e, by omega, by omega, s', ne, hf', hl'⟩
      · refine ⟨_, rfl, _, rfl, _, rfl, X, n, v, .ref b, ts, _, rfl, lx3', hn, dTP.up s3.hid hv, hg, hd, lots_ok (k + 1) (by omega), lv_room hl (by omega), by omega, fun H4 z' s4 hz' => ⟨_, _, rfl, ?_⟩⟩
        exact ⟨z', rfl, s3.trans s4, (mList (mList mNat)).up s4.hid hd, hz'⟩
theorem sc_greatest : FnScope ["pairs"] ["pairs"] (defScope s_greatest) := ⟨rfl, rfl, rfl, by decide +kernel, rfl, by decide +kernel, by decide +kernel⟩
def sp_greatest (K : PySem.W.Frag) : Sp := fun vs H Q _ => ∃ (X : List Addr) (n : Nat) (v : V) (ts : List Mth.Three), vs = [v] ∧ Lives X H ∧ n ≤ 8 ∧ dTP K n ts (hid X H) v ∧ (∀ t ∈ ts, Mth.Good n t) ∧ ts.length ≤ 7 ∧
  ∀ H' d, Same H H' → Mth.IsMax n ts d → Q (.int (d : Nat)) H'
theorem c_greatest (T : Tt K mg) : Ca P w K mg base 9 "greatest" ["pairs"] (sp_greatest K) := by
  obtain ⟨fd, F⟩ := T.e_greatest
  refine Ca.mk' F T.g_greatest (okD F sc_greatest (fun vs H Q E h => ?_) fun cdv A outer s H vs Q E hr h => ?_) fun _ _ _ _ _ _ us hl => match us, hl with | [_], _ => rfl
  · obtain ⟨X, n, v, ts, rfl, _⟩ := h
    rfl
  · obtain ⟨X, n, v, ts, rfl, lx, hn, hv, hg, hl, q⟩ := h
    have hv0 := hv
    obtain ⟨a, dx, vr, vi, rfl, ha, _, _⟩ := hv
    refine ⟨_, pss_one (ps_ret (pe_callB call_len_seq (by rfl) T.b_len PySem.boot_len (pa_cons (pe_ix ix_list (pe_c (c_greatest_of T) hr (by rfl) (pa_cons (pe_c (c_want_pairs T) (hr.mono (by decide)) (by rfl) (pa_cons (pv 0) pa_nil)) pa_nil)) pe_int (fun _ _ => rfl)) pa_nil))), ?_⟩
    refine ⟨_, rfl, a, dx, _, rfl, hid_at ha, X, n, .ref a, ts, rfl, lx, hn, hv0, hg, hl, fun H1 z k s1 hz hne he => ?_⟩
    obtain ⟨b, us, rfl, hb, pb⟩ := hz
    obtain ⟨lot, hlot⟩ : ∃ lot, (Mth.lv (Mth.rl n ts) ts.length k)[0]? = some lot := by
      cases e : Mth.lv (Mth.rl n ts) ts.length k with
      | nil => exact absurd e hne
      | cons x l => exact ⟨x, rfl⟩
    obtain ⟨y, hy, c, ws, rfl, hc, pc⟩ := paired_to pb hlot
    have hmem := List.mem_of_getElem? hlot
    refine ⟨b, us, 0, _, rfl, rfl, SqL.of (hid_at hb), atI_nat (j := 0) hy, c, ws, rfl, .inl (SqL.of (hid_at hc)), ?_⟩
    rw [paired_len pc]
    exact q H1 _ s1 (LastLot.max hg ⟨hmem, he⟩)
end
end Tx
set_option Elab.async false
set_option linter.all false
set_option maxRecDepth 100000
set_option maxHeartbeats 4000000
namespace Tx
open PySem PySem.Spec PyProof.Rows L2
theorem sort3 {a b c : Nat} {ns : List Int} (h : ns.Perm [(a : Int), (b : Int), (c : Int)]) (hs : ns.Pairwise (· ≤ ·)) :
    ∃ x y z : Nat, ns = [(x : Int), (y : Int), (z : Int)] ∧ ((x = y ∨ y = z) ↔ (a = b ∨ a = c ∨ b = c)) ∧ x = min a (min b c) ∧ x ≤ y ∧ y ≤ z ∧ ∀ q : Nat, (q = x ∨ q = y ∨ q = z) ↔ (q = a ∨ q = b ∨ q = c) := by
  have hl := h.length_eq
  match ns, hl with
  | [i, j, k], _ =>
    have nn : ∀ v ∈ [i, j, k], 0 ≤ v := fun v hv => by
      have := h.mem_iff.mp hv
      simp only [List.mem_cons, List.not_mem_nil, or_false] at this
      omega
    obtain ⟨x, rfl⟩ : ∃ x : Nat, i = (x : Int) := ⟨i.toNat, by have := nn i (by simp); omega⟩
    obtain ⟨y, rfl⟩ : ∃ y : Nat, j = (y : Int) := ⟨j.toNat, by have := nn j (by simp); omega⟩
    obtain ⟨z, rfl⟩ : ∃ z : Nat, k = (z : Int) := ⟨k.toNat, by have := nn k (by simp); omega⟩
    have hm : ∀ q : Nat, (q = x ∨ q = y ∨ q = z) ↔ (q = a ∨ q = b ∨ q = c) := fun q => by
      have := h.mem_iff (a := (q : Int))
      simp only [List.mem_cons, List.not_mem_nil, or_false] at this
      omega
    have hxy : x ≤ y ∧ y ≤ z := by
      simp only [List.pairwise_cons, List.mem_cons, List.not_mem_nil, or_false] at hs
      have h1 := hs.1 (y : Int) (.inl rfl)
      have h2 := hs.2.1 (z : Int) rfl
      omega
    have hn : (x = y ∨ y = z) ↔ (a = b ∨ a = c ∨ b = c) := by
      have := h.nodup_iff
      simp only [List.nodup_cons, List.mem_cons, List.not_mem_nil, or_false, not_or, List.nodup_nil, and_true, not_false_eq_true] at this
      omega
    refine ⟨x, y, z, rfl, hn, ?_, hxy.1, hxy.2, hm⟩
    have h1 := (hm x).mp (.inl rfl)
    have h2 := (hm a).mpr (.inl rfl)
    have h3 := (hm b).mpr (.inr (.inl rfl))
    have h4 := (hm c).mpr (.inr (.inr rfl))
    omega
section
variable {P : Program} {w : World} {K : PySem.W.Frag} {mg : Str → Option Value} {base : Heap}
/-! ### the law's own: joined -/
theorem sc_law_joined : FnScope ["_law_size", "_law_threes_here", "_law_marks", "_law_three", "_law_told", "_law_place", "_law_mark"] ["_law_size", "_law_threes_here"] (defScope s_law_joined) := ⟨rfl, rfl, rfl, by decide +kernel, rfl, by decide +kernel, by decide +kernel⟩
def sp_law_joined : Sp := fun vs H Q _ => ∃ (X : List Addr) (n : Nat) (v : V) (ts : List Mth.Three), vs = [.int (n : Int), v] ∧ Lives X H ∧ n ≤ 8 ∧ dList dThree (hid X H) v ts ∧ (∀ t ∈ ts, Mth.Good n t) ∧
  ∀ H' z, Same H H' → dOpt (dList dNat) (hid X H') z (Mth.putAll Mth.chM (List.range n) ts) → Q z H'
theorem c_law_joined (T : Tt K mg) : Ca P w K mg base 1 "_law_joined" ["_law_size", "_law_threes_here"] sp_law_joined := by
  obtain ⟨fd, F⟩ := T.e_law_joined
  refine Ca.mk' F T.g_law_joined (okD F sc_law_joined (fun vs H Q E h => ?_) fun cdv A outer s H vs Q E hr h => ?_) fun _ _ _ _ _ _ us hl => match us, hl with | [_, _], _ => rfl
  · obtain ⟨X, n, v, ts, rfl, _⟩ := h
    rfl
  · obtain ⟨X, n, v, ts, rfl, lx, hn, ⟨a, vs, rfl, ha, hp⟩, hg, q⟩ := h
    have nd := sc_law_joined.nd
    refine ⟨_, pss_cons (ps_set (i := 2) nd rfl (.inr rfl) (pe_listRg rfl (by rfl) T.b_list (prg_1 (by rfl) T.b_range (pv 0))))
      (pss_cons (ps_for PassesOwn.never rfl (pi_list (pv 1)) (pg_name (i := 3) nd rfl (.inl rfl))
        (pss_cons (ps_set (i := 4) nd rfl (.inr rfl) (pe_callB cr_sorted (by rfl) T.b_sorted (by decide +kernel) (pa_cons (pe_lc (own := [("_law_place", 5)]) (g := gName 5) (tt := tYes) (te := tOp (rIxL K) (tVar 2) (tVar 5)) rfl nd (pi_tup (pv 3))
            (blkOk_by (N := ["_law_size", "_law_threes_here", "_law_marks", "_law_three", "_law_told", "_law_place", "_law_mark"]) (sc := defScope s_law_joined) (by decide +kernel)) (fun _ _ _ _ _ => pg_name (i := 5) nd rfl (.inl rfl)) (fun _ _ _ _ _ => pts_nil) (fun _ _ _ _ _ => pe_ix ix_list (pv 2) (pv 5) (fun _ _ => rfl))) pa_nil)))
        (pss_cons (ps_if (PW.pt (pw_or (pt_cmpR op_eq (pe_ix ix_list (pv 4) pe_int (fun _ _ => rfl)) (pe_ix ix_list (pv 4) pe_int (fun _ _ => rfl)) (nomark _)) (pw_or1 (pt_cmpR op_eq (pe_ix ix_list (pv 4) pe_int (fun _ _ => rfl)) (pe_ix ix_list (pv 4) pe_int (fun _ _ => rfl)) (nomark _))))) (pss_one (ps_ret pe_non)) pss_nil)
        (pss_one (ps_set (i := 2) nd rfl (.inr rfl) (pe_lc (own := [("_law_mark", 6)]) (g := gName 6) (tt := tYes) (te := tIf (tTest (tOp (rIn K false) (tVar 6) (tVar 4))) (tOp (rIxL K) (tVar 4) (tC (.int 0))) (tVar 6)) rfl nd (pi_list (pv 2))
            (blkOk_by (N := ["_law_size", "_law_threes_here", "_law_marks", "_law_three", "_law_told", "_law_place", "_law_mark"]) (sc := defScope s_law_joined) (by decide +kernel)) (fun _ _ _ _ _ => pg_name (i := 6) nd rfl (.inl rfl)) (fun _ _ _ _ _ => pts_nil) (fun _ _ _ _ _ => pe_ifExp (pt_cmpR op_in_seq (pv 6) (pv 4) (by rfl)) (pe_ix ix_list (pv 4) pe_int (fun _ _ => rfl)) (pv 6))))))))
      (pss_one (ps_ret (pv 2)))), ?_⟩
    refine ⟨_, rfl, n, rfl, .of_le (by omega) (by omega) (by omega) (by omega), fun D nD => ?_⟩
    have sD := sameU (o := .lst (rgV 0 (n : Int))) nD
    refine ⟨_, rfl, a, rfl, ⟨_, SqL.of (sD _ _ (hid_at ha))⟩, for_list (K := K) (a := a) (xs := vs) (fun i σ H2 => ∃ z p y3 y4, σ = [some (.int (n : Int)), some (.ref a), some z, y3, y4, none, none] ∧ Same H H2 ∧ dList dNat (hid X H2) z p ∧ p.length = n ∧ Mth.putAll Mth.chM (List.range n) ts = Mth.putAll Mth.chM p (ts.drop i))
      ⟨.ref D, List.range n, none, none, rfl, sD, ⟨D, _, rfl, hid_put (lx.out nD), by rw [rgV_nat]; exact paired_of_nat _⟩, List.length_range, rfl⟩ (fun i σ H2 _ ⟨_, _, _, _, _, s2, _⟩ => SqL.of (s2 _ _ (hid_at ha))) ?_ ?_⟩
    · rintro i v σ H2 hv ⟨z, p, y3, y4, rfl, s2, ⟨b, us, rfl, hb, pb⟩, hpl, ep⟩
      obtain ⟨t, ht, hvt⟩ := paired_at hp hv
      have hgt := hg t (List.mem_of_getElem? ht)
      have ed : ts.drop i = t :: ts.drop (i + 1) := by
        have hi : i < ts.length := (List.getElem?_eq_some_iff.mp ht).1
        rw [List.drop_eq_getElem_cons hi]
        rw [List.getElem?_eq_getElem hi] at ht
        rw [Option.some.inj ht]
      rw [ed] at ep
      have ep2 : Mth.putAll Mth.chM (List.range n) ts = match Mth.putBy Mth.chM p t with
        | none => none
        | some p' => Mth.putAll Mth.chM p' (ts.drop (i + 1)) := ep
      have lx2 := lx.same s2
      have eus := paired_nat pb
      subst eus
      have hvt2 := mThree.up s2.hid hvt
      obtain ⟨i0, j0, k0⟩ := t
      obtain ⟨c, rfl, hc⟩ := hvt2
      obtain ⟨g1, g2, g3⟩ := hgt
      simp only at hc g1 g2 g3
      have hat : ∀ x : Nat, x < n → atI (p.map fun (i : Nat) => V.int (i : Int)) (x : Int) = some (.int (Mth.P p x : Nat)) := fun x hx => atI_nat (by
        have hx' : x < p.length := by omega
        rw [List.getElem?_map, List.getElem?_eq_getElem hx']
        unfold Mth.P
        rw [List.getD_eq_getElem?_getD, List.getElem?_eq_getElem hx']
        rfl)
      refine ⟨_, rfl, c, rfl, ⟨_, SqT.of (hid_at hc)⟩, fun D1 nD1 => lc_mapT (X := X) (R := dNat) (S := dNat) (ds := [i0, j0, k0]) (f := Mth.P p) mNat mNat lx2 nD1 hc (.cons rfl (.cons rfl (.cons rfl .nil))) (by show 3 ≤ sizeLine; decide) (fun y v d H3 Qe hv hd s3 l3 hv2 kk => ?_) fun H3 s3 h3 => ?_⟩
      · have e : v = .int (d : Int) := hv2
        subst e
        have dn : d < n := by
          have := List.mem_of_getElem? hd
          simp only [List.mem_cons, List.not_mem_nil, or_false] at this
          omega
        exact ⟨rfl, _, rfl, _, rfl, b, _, d, _, rfl, rfl, SqL.of (s3 _ _ (hid_at hb)), hat d dn, kk _ H3 (Same.refl _) rfl⟩
      · obtain ⟨c1, us1, ec, hc1, pc1⟩ := h3
        cases ec
        have eu1 := paired_nat pc1
        subst eu1
        refine ⟨D1, [(Mth.P p i0 : Int), (Mth.P p j0 : Int), (Mth.P p k0 : Int)], rfl, SqL.of (hid_at hc1), by show 3 < 64; decide, fun ns' p2 hperm hsrt np2 => ?_⟩
        obtain ⟨x, y, z, rfl, hxy, hmin, lxy, lyz, hmem⟩ := sort3 hperm hsrt
        have t2 := sameU (o := .lst ([(x : Int), (y : Int), (z : Int)].map V.int)) np2
        have s23 := (s2.trans s3).trans t2
        have lx3 := lx2.same (s3.trans t2)
        have hb4 := (s3.trans t2).hid _ _ hb
        have e4 : (upd H3 p2 (.lst ([(x : Int), (y : Int), (z : Int)].map V.int))) p2 = some (.lst [V.int (x : Int), V.int (y : Int), V.int (z : Int)]) := upd_same
        generalize upd H3 p2 (.lst ([(x : Int), (y : Int), (z : Int)].map V.int)) = H4 at s23 lx3 hb4 e4 ⊢
        have hC : SqL K H4 p2 [V.int (x : Int), V.int (y : Int), V.int (z : Int)] := SqL.of e4
        have m0 : atI [V.int (x : Int), V.int (y : Int), V.int (z : Int)] 0 = some (V.int (x : Int)) := atI_nat (j := 0) rfl
        have m1 : atI [V.int (x : Int), V.int (y : Int), V.int (z : Int)] 1 = some (V.int (y : Int)) := atI_nat (j := 1) rfl
        have m2 : atI [V.int (x : Int), V.int (y : Int), V.int (z : Int)] 2 = some (V.int (z : Int)) := atI_nat (j := 2) rfl
        have qn : (x = y ∨ y = z) → Q .non H4 := fun hh => q H4 .non s23 (by
          have e : Mth.putBy Mth.chM p (i0, j0, k0) = none := by
            unfold Mth.putBy
            simp only
            rw [if_pos (hxy.mp hh)]
          rw [ep2, e]
          rfl)
        refine ⟨_, rfl, p2, _, 0, _, rfl, rfl, hC, m0, _, rfl, p2, _, 1, _, rfl, rfl, hC, m1, rfl, _, rfl, ?_⟩
        rw [dec_nat]
        refine ite2 (fun h => iteT (qn (.inl (of_decide_eq_true h)))) fun h => ?_
        have hab : ¬ x = y := fun z => h (decide_eq_true z)
        refine ⟨_, rfl, p2, _, 1, _, rfl, rfl, hC, m1, _, rfl, p2, _, 2, _, rfl, rfl, hC, m2, rfl, _, rfl, ?_⟩
        rw [dec_nat]
        refine ite2 (fun h => qn (.inr (of_decide_eq_true h))) fun h => ?_
        have hbc : ¬ y = z := fun z => h (decide_eq_true z)
        have hnn : ¬ (Mth.P p i0 = Mth.P p j0 ∨ Mth.P p i0 = Mth.P p k0 ∨ Mth.P p j0 = Mth.P p k0) := fun z => by
          rcases hxy.mpr z with w | w
          · exact hab w
          · exact hbc w
        refine ⟨_, rfl, b, rfl, ⟨_, SqL.of (hid_at hb4)⟩, fun D2 nD2 => lc_map (X := X) (R := dNat) (S := dNat) (ds := p) (f := fun r => if r = Mth.P p i0 ∨ r = Mth.P p j0 ∨ r = Mth.P p k0 then Mth.chM (Mth.P p i0) (Mth.P p j0) (Mth.P p k0) else r) mNat mNat lx3 nD2 hb4 (paired_of_nat p) (le8 (by omega)) (fun r v d H5 Qe hv hd s5 l5 hv2 kk => ?_) fun H5 s5 h5 => ?_⟩
        · have e : v = .int (d : Int) := hv2
          subst e
          have hC2 : SqL K H5 p2 [V.int (x : Int), V.int (y : Int), V.int (z : Int)] := SqL.of (s5 _ _ e4)
          refine ⟨rfl, _, rfl, _, rfl, p2, _, rfl, .inl hC2, rfl, rfl, _, rfl, ?_⟩
          show if (inV (V.int (d : Int)) [V.int (x : Int), V.int (y : Int), V.int (z : Int)]) = true then _ else _
          rw [in3]
          refine ite2 (fun h => ?_) fun h => ?_
          · have hd' := (hmem d).mp (of_decide_eq_true h)
            refine ⟨_, rfl, p2, _, 0, _, rfl, rfl, hC2, m0, kk _ H5 (Same.refl _) ?_⟩
            exact congrArg (fun z : Nat => V.int (z : Int)) ((hmin.trans rfl).trans (if_pos hd').symm)
          · have hd' : ¬ (d = Mth.P p i0 ∨ d = Mth.P p j0 ∨ d = Mth.P p k0) := fun z => h (decide_eq_true ((hmem d).mpr z))
            refine ⟨_, rfl, kk _ H5 (Same.refl _) ?_⟩
            exact congrArg (fun z : Nat => V.int (z : Int)) (if_neg hd').symm
        · have e : Mth.putBy Mth.chM p (i0, j0, k0) = some (p.map fun r => if r = Mth.P p i0 ∨ r = Mth.P p j0 ∨ r = Mth.P p k0 then Mth.chM (Mth.P p i0) (Mth.P p j0) (Mth.P p k0) else r) := by
            unfold Mth.putBy
            simp only
            rw [if_neg hnn]
          rw [e] at ep2
          exact ⟨_, _, _, _, rfl, s23.trans s5, h5, by rw [List.length_map]; exact hpl, ep2⟩
    · rintro σ H2 ⟨z, p, y3, y4, rfl, s2, hz, hpl, ep⟩
      refine ⟨_, rfl, q H2 z s2 ?_⟩
      rw [ep, List.drop_of_length_le (by rw [paired_len hp]; exact Nat.le_refl _)]
      exact hz
/-! ### all lots -/
theorem sc_law_lots : FnScope ["_law_many", "_law_found", "_law_at", "_law_lot"] ["_law_many"] (defScope s_law_lots) := ⟨rfl, rfl, rfl, by decide +kernel, rfl, by decide +kernel, by decide +kernel⟩
def sp_law_lots : Sp := fun vs H Q _ => ∃ (X : List Addr) (m : Nat), vs = [.int (m : Int)] ∧ Lives X H ∧ m ≤ 8 ∧ ∀ H' z, Same H H' → dList (dList dNat) (hid X H') z (Mth.lawLots m) → Q z H'
theorem c_law_lots (T : Tt K mg) : Ca P w K mg base 1 "_law_lots" ["_law_many"] sp_law_lots := by
  obtain ⟨fd, F⟩ := T.e_law_lots
  refine Ca.mk' F T.g_law_lots (okD F sc_law_lots (fun vs H Q E h => ?_) fun cdv A outer s H vs Q E hr h => ?_) fun _ _ _ _ _ _ us hl => match us, hl with | [_], _ => rfl
  · obtain ⟨X, m, rfl, _⟩ := h
    rfl
  · obtain ⟨X, m, rfl, lx, hm, q⟩ := h
    have nd := sc_law_lots.nd
    refine ⟨_, pss_cons (ps_set (i := 1) nd rfl (.inl rfl) (pe_lst (pa_cons (pe_lst pa_nil) pa_nil)))
      (pss_cons (ps_for PassesOwn.never rfl (pi_range1 (by rfl) T.b_range (pa_cons (pv 0) pa_nil)) (pg_name (i := 2) nd rfl (.inr rfl))
        (pss_one (ps_set (i := 1) nd rfl (.inl rfl) (pe_op op_cat (pv 1) (pe_lc (own := [("_law_lot", 3)]) (g := gName 3) (tt := tYes) rfl nd (pi_list (pv 1)) (blkOk_by (N := ["_law_many", "_law_found", "_law_at", "_law_lot"]) (sc := defScope s_law_lots) (by decide +kernel)) (fun _ _ _ _ _ => pg_name (i := 3) nd rfl (.inl rfl)) (fun _ _ _ _ _ => pts_nil)
          (fun _ _ _ _ _ => pe_op op_cat (pv 3) (pe_lst (pa_cons (pv 2) pa_nil))))))))
      (pss_one (ps_ret (pv 1)))), ?_⟩
    refine ⟨Nat.zero_le _, fun p1 n1 => ⟨(by show 1 ≤ sizeLine; decide), fun p2 n2 => ?_⟩⟩
    have t1 := sameU (o := .lst []) n1
    have t2 := sameU (o := .lst [.ref p1]) n2
    refine ⟨_, rfl, _, rfl, by omega, by omega, for_range (lo := 0) (n := m) (fun i σ H2 => ∃ z y2, σ = [some (.int (m : Int)), some z, y2, none] ∧ Same H H2 ∧ dList (dList dNat) (hid X H2) z (Mth.lawLots i))
      ⟨.ref p2, none, rfl, t1.trans t2, ⟨p2, _, rfl, hid_put ((lx.same t1).out n2), .cons ⟨p1, [], rfl, t2.hid _ _ (hid_put (lx.out n1)), .nil⟩ .nil⟩⟩ ?_ ?_⟩
    · rintro i σ H2 hi ⟨z, y2, rfl, s2, ⟨b, us, rfl, hb, pb⟩⟩
      rw [Int.zero_add]
      have lx2 := lx.same s2
      have ll : (Mth.lawLots i).length ≤ 256 := by
        rw [Mth.lawLots_len]
        exact Nat.le_trans (Nat.pow_le_pow_right (by decide) (show i ≤ 8 by omega)) (by decide)
      refine ⟨_, rfl, _, rfl, b, rfl, ⟨_, SqL.of (hid_at hb)⟩, fun D nD => lc_map (R := dList dNat) (S := dList dNat) (f := (· ++ [i])) (mList mNat) (mList mNat) lx2 nD hb pb (Nat.le_of_lt (small1000 (by omega))) (fun y v d H3 Qe hv hd s3 l3 hv2 kk => ?_) fun H3 s3 h3 => ?_⟩
      · obtain ⟨c, ws, rfl, hc, pc⟩ := hv2
        have hdl : d.length ≤ 8 := by
          have := Mth.rising_len ((Mth.mem_lawLots i d).mp (List.mem_of_getElem? hd))
          omega
        refine ⟨rfl, _, rfl, _, rfl, (by show 1 ≤ sizeLine; decide), fun l1 m1 => ?_⟩
        have u1 := sameU (o := .lst [.int (i : Int)]) m1
        refine ⟨c, l1, ws, _, rfl, rfl, u1 _ _ (hid_at hc), upd_same, ?_, fun l2 m2 => ?_⟩
        · have := paired_len pc
          show ws.length + 1 ≤ sizeLine
          exact small1000 (by omega)
        · have u2 := sameU (o := .lst (ws ++ [.int (i : Int)])) m2
          exact kk _ _ (u1.trans u2) ⟨l2, _, rfl, hid_put ((l3.same u1).out m2), paired_app pc (.cons rfl .nil)⟩
      · obtain ⟨c, ws, ec, hc, pc⟩ := h3
        cases ec
        refine ⟨b, D, us, ws, rfl, rfl, s3 _ _ (hid_at hb), hid_at hc, ?_, fun p np => ?_⟩
        · have e1 := paired_len pb
          have e2 := paired_len pc
          rw [List.length_map] at e2
          exact Nat.le_of_lt (small1000 (by omega))
        · have u := sameU (o := .lst (us ++ ws)) np
          refine ⟨_, _, rfl, (s2.trans s3).trans u, ⟨p, _, rfl, hid_put ((lx2.same s3).out np), ?_⟩⟩
          exact paired_app (paired_mono (fun _ _ => (mList mNat).up (s3.trans u).hid) pb) (paired_mono (fun _ _ => (mList mNat).up u.hid) pc)
    · rintro σ H2 ⟨z, y2, rfl, s2, hz⟩
      exact ⟨_, rfl, q H2 z s2 hz⟩
end
end Tx
set_option Elab.async false
set_option linter.all false
set_option maxRecDepth 100000
set_option maxHeartbeats 4000000
namespace Tx
open PySem PySem.Spec PyProof.Rows L2
/-- [x for x in xs if test] over a list -/
theorem lc_filter {K : PySem.W.Frag} {a D : Addr} {vs : List V} {tt : TT} {j : Nat} {ws : List Nat} {σ : L2.St} {H1 : Hp} {Qd : Hp → Prop} {α : Type} {R : Rel α} {X : List Addr} {ds : List α} {f : α → Bool}
    (hR : Mono R) (lx : Lives X H1) (hD : H1 D = none) (ha : hid X H1 a = some (.lst vs)) (hp : Paired (R (hid X H1)) vs ds) (hl : ds.length < sizeLine)
    (hw : ∀ v : V, wipe ((wipe σ ws).set j (some v)) ws = wipe σ ws) (hj : ∀ v : V, ((wipe σ ws).set j (some v))[j]? = some (some v))
    (st : ∀ (v : V) (d : α) (H2 : Hp) (Qb : Bool → Hp → Prop), d ∈ ds → Same H1 H2 → Lives (D :: X) H2 → R (hid (D :: X) H2) v d → (∀ H3, Same H2 H3 → Qb (f d) H3) → tt ((wipe σ ws).set j (some v)) H2 Qb)
    (dn : ∀ H', Same H1 H' → dList R (hid X H') (.ref D) (ds.filter f) → Qd H') :
    ∃ W : Nat → Nat → Hp → Prop, (∃ m, W 0 m (upd H1 D (.lst []))) ∧ ∀ i m H, W i m H →
      ((Itl K a).stop i H ∧ Qd H) ∨ ((Itl K a).go i H ∧ ∃ Nx : Hp → Prop, (∀ H', Nx H' → ∃ m', m' < m ∧ W (i + 1) m' H') ∧ ∀ x H', (Itl K a).yld i H x H' → gName j x (wipe σ ws) H' fun σ2 H2 => wipe σ2 ws = wipe σ ws ∧ tt σ2 H2 fun b H3 =>
        if b = true then tVar j σ2 H3 fun y H4 => ∃ acc, H4 D = some (.lst acc) ∧ acc.length < sizeLine ∧ Nx (upd H4 D (.lst (acc ++ [y]))) else Nx H3) := by
  refine lc_list (K := K) (xs := vs) (Qd := Qd) (fun i H => Same H1 H ∧ ∃ acc, H D = some (.lst acc) ∧ Paired (R (hid (D :: X) H)) acc ((ds.take i).filter f)) ⟨sameU hD, [], upd_same, .nil⟩ (fun i H _ h => SqL.of (h.1 _ _ (hid_at ha))) (fun i v H hi h => ?_) fun H h => ?_
  · obtain ⟨s1, acc, eD, pa⟩ := h
    obtain ⟨d, hd, rd⟩ := paired_at hp hi
    have h1 : Same (hid X H1) (hid (D :: X) H) := (hid_new hD).trans s1.hid
    refine ⟨hw v, st v d H _ (List.mem_of_getElem? hd) s1 ((lx.same s1).cons eD) (hR.up h1 rd) fun H3 s3 => ?_⟩
    have e3 := s3 _ _ eD
    have hlt : i < ds.length := (List.getElem?_eq_some_iff.mp hd).1
    have et : ds.take (i + 1) = ds.take i ++ [d] := by
      rw [List.take_add_one, hd]
      rfl
    have ef : (ds.take (i + 1)).filter f = (ds.take i).filter f ++ if f d = true then [d] else [] := by
      rw [et, List.filter_append, List.filter_cons, List.filter_nil]
    cases e : f d with
    | true =>
      rw [e, if_pos rfl] at ef
      refine iteT ⟨v, hj v, acc, e3, ?_, ?_, acc ++ [v], upd_same, ?_⟩
      · have := List.length_filter_le f (ds.take i)
        rw [paired_len pa]
        rw [List.length_take] at this
        omega
      · intro b o eb
        rw [upd_ne (ne_of_none eb hD)]
        exact s3 _ _ (s1 _ _ eb)
      · have m : Same (hid (D :: X) H3) (hid (D :: X) (upd H3 D (.lst (acc ++ [v])))) := hid_upd List.mem_cons_self
        rw [ef]
        exact paired_app (paired_mono (fun _ _ => hR.up (s3.hid.trans m)) pa) (.cons (hR.up ((h1.trans s3.hid).trans m) rd) .nil)
    | false =>
      rw [e, if_neg (by decide), List.append_nil] at ef
      refine iteF ⟨s1.trans s3, acc, e3, ?_⟩
      rw [ef]
      exact paired_mono (fun _ _ => hR.up s3.hid) pa
  · obtain ⟨s1, acc, eD, pa⟩ := h
    rw [paired_len hp, List.take_length] at pa
    exact dn H s1 ⟨D, acc, rfl, hid_some.mpr ⟨lx.out hD, eD⟩, paired_mono (fun _ _ => hR.up hid_tail) pa⟩
section
variable {P : Program} {w : World} {K : PySem.W.Frag} {mg : Str → Option Value} {base : Heap}
/-! ### the law's ringless lots -/
theorem sc_law_ringless : FnScope ["_law_size", "_law_threes_here", "_law_lot", "_law_at"] ["_law_size", "_law_threes_here"] (defScope s_law_ringless) := ⟨rfl, rfl, rfl, by decide +kernel, rfl, by decide +kernel, by decide +kernel⟩
def sp_law_ringless : Sp := fun vs H Q _ => ∃ (X : List Addr) (n : Nat) (v : V) (ts : List Mth.Three), vs = [.int (n : Int), v] ∧ Lives X H ∧ n ≤ 8 ∧ dList dThree (hid X H) v ts ∧ (∀ t ∈ ts, Mth.Good n t) ∧ ts.length ≤ 8 ∧
  ∀ H' z, Same H H' → dList (dList dNat) (hid X H') z ((Mth.lawLots ts.length).filter (Mth.jn n ts)) → Q z H'
theorem c_law_ringless (T : Tt K mg) : Ca P w K mg base 2 "_law_ringless" ["_law_size", "_law_threes_here"] sp_law_ringless := by
  obtain ⟨fd, F⟩ := T.e_law_ringless
  refine Ca.mk' F T.g_law_ringless (okD F sc_law_ringless (fun vs H Q E h => ?_) fun cdv A outer s H vs Q E hr h => ?_) fun _ _ _ _ _ _ us hl => match us, hl with | [_, _], _ => rfl
  · obtain ⟨X, n, v, ts, rfl, _⟩ := h
    rfl
  · obtain ⟨X, n, v, ts, rfl, lx, hn, ⟨a, vs, rfl, ha, hp⟩, hg, hl, q⟩ := h
    have nd := sc_law_ringless.nd
    refine ⟨_, pss_one (ps_ret (pe_lc (own := [("_law_lot", 2)]) (g := gName 2)
      (tt := tTest (tOp (fun x y H Q => y = .non ∧ Q (.bl (!decide (x = .non))) H) (tCall sp_law_joined [] E0 (tCons (tVar 0) (tCons (tLc (iList K (tVar 2)) (gName 3) tYes (tOp (rIxL K) (tVar 1) (tVar 3)) [3]) tNil))) (tC .non))) (te := tVar 2) rfl nd
      (pi_list (pe_c (c_law_lots T) hr (by rfl) (pa_cons (pe_callB call_len_seq (by rfl) T.b_len PySem.boot_len (pa_cons (pv 1) pa_nil)) pa_nil)))
      (blkOk_by (N := ["_law_size", "_law_threes_here", "_law_lot", "_law_at"]) (sc := defScope s_law_ringless) (by decide +kernel)) (fun _ _ _ _ _ => pg_name (i := 2) nd rfl (.inl rfl))
      (fun _ _ _ _ _ => pts_one (pt_cmpR op_notN (pe_c (c_law_joined T) hr (by rfl) (pa_cons (pv 0) (pa_cons (pe_lc (own := [("_law_at", 3)]) (g := gName 3) (tt := tYes) (te := tOp (rIxL K) (tVar 1) (tVar 3)) rfl nd (pi_list (pv 2))
        (blkOk_by (N := ["_law_size", "_law_threes_here", "_law_lot", "_law_at"]) (by rfl)) (fun _ _ _ _ _ => pg_name (i := 3) nd rfl (.inl rfl)) (fun _ _ _ _ _ => pts_nil) (fun _ _ _ _ _ => pe_ix ix_list (pv 1) (pv 3) (fun _ _ => rfl))) pa_nil))) pe_non (nomark _)))
      (fun _ _ _ _ _ => pv 2))), ?_⟩
    refine ⟨_, rfl, a, vs, rfl, .inl (SqL.of (hid_at ha)), X, ts.length, by rw [paired_len hp]; rfl, lx, by omega, fun H1 z s1 hz => ?_⟩
    obtain ⟨b, us, rfl, hb, pb⟩ := hz
    have ll : (Mth.lawLots ts.length).length ≤ 256 := by
      rw [Mth.lawLots_len]
      exact Nat.le_trans (Nat.pow_le_pow_right (by decide) (show ts.length ≤ 8 by omega)) (by decide)
    refine ⟨b, rfl, ⟨_, SqL.of (hid_at hb)⟩, fun D nD => lc_filter (j := 2) (f := Mth.jn n ts) (mList mNat) (lx.same s1) nD hb pb (small1000 (by omega)) (fun _ => rfl) (fun _ => rfl) (fun v d H2 Qb hd s2 l2 hv2 kk => ?_) fun H2 s2 h2 => q _ _ (s1.trans s2) h2⟩
    have hris := (Mth.mem_lawLots _ d).mp hd
    have s12 := s1.trans s2
    have ha2 := s12 _ _ (hid_at ha)
    obtain ⟨c, ws, rfl, hc, pc⟩ := hv2
    refine ⟨_, rfl, _, rfl, c, rfl, ⟨_, SqL.of (hid_at hc)⟩, fun D2 nD2 => lc_map (X := D :: X) (R := dNat) (S := dThree) (f := fun i => ts.getD i (0, 0, 0)) mThree mNat l2 nD2 hc pc (le8 (by have := Mth.rising_len hris; omega)) (fun y v d3 H3 Qe hv hd3 s3 l3 hv3 k3 => ?_) fun H3 s3 h3 => ?_⟩
    · have e : v = .int (d3 : Int) := hv3
      subst e
      have dn : d3 < ts.length := hris.2 d3 (List.mem_of_getElem? hd3)
      obtain ⟨tv, htv, hth⟩ := paired_to hp (List.getElem?_eq_getElem dn)
      refine ⟨rfl, _, rfl, _, rfl, a, vs, d3, tv, rfl, rfl, SqL.of (s3 _ _ ha2), atI_nat htv, k3 _ H3 (Same.refl _) ?_⟩
      have e2 : ts.getD d3 (0, 0, 0) = ts[d3] := by
        rw [List.getD_eq_getElem?_getD, List.getElem?_eq_getElem dn]
        rfl
      show dThree _ tv (ts.getD d3 (0, 0, 0))
      rw [e2]
      exact mThree.up (((s1.hid.trans (hid_new nD)).trans s2.hid).trans ((hid_new nD2).trans s3.hid)) hth
    · refine ⟨D :: X, n, _, Mth.sel ts d, rfl, l2.same s3, hn, h3, Mth.sel_good hg hris.2, fun H4 z s4 hz => ⟨rfl, _, rfl, ?_⟩⟩
      have e : (!decide (z = V.non)) = Mth.jn n ts d := by
        unfold Mth.jn
        cases e : Mth.putAll Mth.chM (List.range n) (Mth.sel ts d) with
        | none =>
          rw [e] at hz
          have hz : z = .non := hz
          rw [hz]
          rfl
        | some p =>
          rw [e] at hz
          obtain ⟨c, us, rfl, _⟩ := (show dList dNat (hid (D :: X) H4) z p from hz)
          rfl
      rw [e]
      exact kk H4 (s3.trans s4)
/-! ### the pot -/
def Pot (H : Hp) (p : Addr) : Prop := ∃ a b : Int, H p = some (.lst [.int a, .int b]) ∧ 0 ≤ b ∧ b < 2147483587
/-- all but what stands at p is as it was -/
def But (p : Addr) (H H' : Hp) : Prop := ∀ x o, H x = some o → x ≠ p → H' x = some o
theorem But.refl (p : Addr) (H : Hp) : But p H H := fun _ _ h _ => h
theorem But.trans {p : Addr} {H H1 H2 : Hp} (a : But p H H1) (b : But p H1 H2) : But p H H2 := fun x o h n => b x o (a x o h n) n
theorem But.of {p : Addr} {H H1 : Hp} (a : Same H H1) : But p H H1 := fun x o h _ => a x o h
theorem But.upd {p : Addr} {H H1 : Hp} {o : HO} (a : But p H H1) : But p H (L2.upd H1 p o) := fun x u h n => by
  rw [upd_ne n]
  exact a x u h n
theorem But.hid {p : Addr} {X : List Addr} {H H' : Hp} (b : But p H H') (h : p ∈ X) : Same (Tx.hid X H) (Tx.hid X H') := fun x o e => by
  rw [hid_some] at e ⊢
  exact ⟨e.1, b x o e.2 fun z => e.1 (by rw [z]; exact h)⟩
theorem But.free {p : Addr} {H H' : Hp} (b : But p H H') {D : Addr} (h : H' D = none) (ne : D ≠ p) : H D = none := by
  cases e : H D with
  | none => rfl
  | some o =>
    have := b D o e ne
    rw [h] at this
    cases this
theorem But.lives {p : Addr} {X : List Addr} {H H' : Hp} (b : But p H H') (lx : Lives X H) (h : H' p ≠ none) : Lives X H' := fun x hx z => by
  by_cases e : x = p
  · rw [e] at z
    exact h z
  · exact lx x hx (b.free z e)
theorem sc_law_draw : FnScope ["_law_pot_here", "_law_many", "_law_digit"] ["_law_pot_here", "_law_many"] (defScope s_law_draw) := ⟨rfl, rfl, rfl, by decide +kernel, rfl, by decide +kernel, by decide +kernel⟩
def sp_law_draw : Sp := fun vs H Q _ => ∃ (p : Addr) (m : Nat), vs = [.ref p, .int (m : Int)] ∧ Pot H p ∧ 0 < m ∧ m ≤ 1000 ∧ ∀ (H' : Hp) (d : Nat), But p H H' → Pot H' p → d < m → Q (.int (d : Int)) H'
theorem c_law_draw (T : Tt K mg) : Ca P w K mg base 1 "_law_draw" ["_law_pot_here", "_law_many"] sp_law_draw := by
  obtain ⟨fd, F⟩ := T.e_law_draw
  refine Ca.mk' F T.g_law_draw (okD F sc_law_draw (fun vs H Q E h => ?_) fun cdv A outer s H vs Q E hr h => ?_) fun _ _ _ _ _ _ us hl => match us, hl with | [_, _], _ => rfl
  · obtain ⟨p, m, rfl, _⟩ := h
    rfl
  · obtain ⟨p, m, rfl, ⟨a, b, hp, hb0, hb1⟩, hm0, hm1, q⟩ := h
    have nd := sc_law_draw.nd
    refine ⟨_, pss_cons (ps_if (pt_cmpR op_gt (pe_ix ix_list (pv 0) pe_int (fun _ _ => rfl)) pe_int (nomark _))
        (pss_cons (ps_asg (pe_callB call_divmod (by rfl) T.b_divmod (by decide +kernel) (pa_cons (pe_ix ix_list (pv 0) pe_int (fun _ _ => rfl)) (pa_cons (pv 1) pa_nil))) (pg_tup rfl (pgs_cons (pg_sub (pv 0) pe_int set_list) (pgs_cons (pg_name (i := 2) nd rfl (.inl rfl)) pgs_nil))))
          (pss_one (ps_ret (pv 2)))) pss_nil)
      (pss_cons (ps_asg (pe_op op_mod (pe_callTy call_int1 (by rfl) T.b_int (by decide +kernel) (pa_cons (pe_op op_add (pe_op op_mul (pe_ix ix_list (pv 0) pe_int (fun _ _ => rfl)) pe_int) pe_int) pa_nil)) pe_int) (pg_sub (pv 0) pe_int set_list))
      (pss_one (ps_ret (pe_op op_mod (pe_callTy call_int1 (by rfl) T.b_int (by decide +kernel) (pa_cons (pe_op op_fdiv (pe_op op_mod (pe_callTy call_int1 (by rfl) T.b_int (by decide +kernel) (pa_cons (pe_op op_mul (pe_ix ix_list (pv 0) pe_int (fun _ _ => rfl)) (pe_ix ix_list (pv 0) pe_int (fun _ _ => rfl))) pa_nil)) pe_int) pe_int) pa_nil)) (pv 1))))), ?_⟩
    have a0 : atI [V.int a, V.int b] 0 = some (V.int a) := atI_nat (j := 0) rfl
    have a1 : atI [V.int a, V.int b] 1 = some (V.int b) := atI_nat (j := 1) rfl
    have mpos : (0 : Int) < (m : Int) := by omega
    have key : ∀ (H' : Hp) (x : Int), 0 ≤ x → x < (m : Int) → But p H H' → Pot H' p → Q (.int x) H' := fun H' x h0 h1 hB hP => by
      have := q H' x.toNat hB hP (by omega)
      rw [Int.toNat_of_nonneg h0] at this
      exact this
    refine ⟨_, rfl, p, _, 0, _, rfl, rfl, SqL.of hp, a0, _, _, rfl, rfl, _, rfl, ite2 (fun h => ?_) fun h => ?_⟩
    · refine ⟨_, rfl, p, _, 0, _, rfl, rfl, SqL.of hp, a0, _, rfl, a, m, rfl, ⟨mpos, by omega⟩, fun t nt => ?_⟩
      have st := sameU (o := .tup [.int (a / (m : Int)), .int (a % (m : Int))]) nt
      refine ⟨t, _, rfl, SqT.of upd_same, rfl, _, _, rfl, _, rfl, p, _, 0, 0, rfl, rfl, st _ _ hp, rfl, _, _, rfl, rfl, _, rfl, ?_⟩
      exact key _ _ (Int.emod_nonneg a (show (m : Int) ≠ 0 by omega)) (Int.emod_lt_of_pos a mpos) ((But.of st).upd) ⟨a / (m : Int), b, upd_same, hb0, hb1⟩
    · have hn1 : 0 ≤ (b * 39373 + 613) % 2147483587 := Int.emod_nonneg _ (by decide)
      have hn2 : (b * 39373 + 613) % 2147483587 < 2147483587 := Int.emod_lt_of_pos _ (by decide)
      refine ⟨_, rfl, p, _, 1, _, rfl, rfl, SqL.of hp, a1, _, _, rfl, rfl, .inr ⟨by decide, by decide⟩, _, _, rfl, rfl, .inl ⟨_, rfl, _, _, rfl, rfl, (by show (0 : Int) < 2147483587; decide), _, rfl, p, _, 1, 1, rfl, rfl, hp, rfl, ?_⟩⟩
      have e1 : (upd H p (.lst ([V.int a, V.int b].set 1 (V.int ((b * 39373 + 613) % 2147483587))))) p = some (.lst [V.int a, V.int ((b * 39373 + 613) % 2147483587)]) := upd_same
      have a1' : atI [V.int a, V.int ((b * 39373 + 613) % 2147483587)] 1 = some (V.int ((b * 39373 + 613) % 2147483587)) := atI_nat (j := 1) rfl
      refine ⟨_, rfl, p, _, 1, _, rfl, rfl, SqL.of e1, a1', _, rfl, p, _, 1, _, rfl, rfl, SqL.of e1, a1', _, _, rfl, rfl, .inl ⟨by omega, by omega⟩, .inl ⟨_, rfl, _, _, rfl, rfl, (by show (0 : Int) < 2147483563; decide), _, _, rfl, rfl, ⟨by decide, by decide⟩, .inl ⟨_, rfl, _, rfl, _, _, rfl, rfl, mpos, ?_⟩⟩⟩
      exact key _ _ (Int.emod_nonneg _ (show (m : Int) ≠ 0 by omega)) (Int.emod_lt_of_pos _ mpos) ((But.refl p H).upd) ⟨a, _, e1, hn1, hn2⟩
end
end Tx
set_option Elab.async false
set_option linter.all false
set_option maxRecDepth 100000
set_option maxHeartbeats 4000000
namespace Tx
open PySem PySem.Spec PyProof.Rows L2
theorem erase_facts {l : List Nat} {k x : Nat} (h : l[k]? = some x) (nd : l.Nodup) : x ∈ l ∧ x ∉ l.eraseIdx k ∧ (l.eraseIdx k).Nodup ∧ ∀ y ∈ l.eraseIdx k, y ∈ l := by
  obtain ⟨hk, e⟩ := List.getElem?_eq_some_iff.mp h
  refine ⟨List.mem_of_getElem? h, ?_, nd.sublist (List.eraseIdx_sublist l k), fun y hy => (List.eraseIdx_sublist l k).subset hy⟩
  intro hm
  rw [List.mem_eraseIdx_iff_getElem] at hm
  obtain ⟨i, hi, hne, he⟩ := hm
  rw [← e] at he
  exact hne ((List.getElem_inj nd).mp he)
theorem map_eraseIdx' {α β : Type} (f : α → β) (l : List α) (k : Nat) : (l.map f).eraseIdx k = (l.eraseIdx k).map f := by
  induction l generalizing k with
  | nil => rfl
  | cons x l ih => cases k with
    | zero => rfl
    | succ k => exact congrArg (f x :: ·) (ih k)
section
variable {P : Program} {w : World} {K : PySem.W.Frag} {mg : Str → Option Value} {base : Heap}
/-! ### pick, pot -/
theorem sc_law_pick : FnScope ["_law_pot_here", "_law_some"] ["_law_pot_here", "_law_some"] (defScope s_law_pick) := ⟨rfl, rfl, rfl, by decide +kernel, rfl, by decide +kernel, by decide +kernel⟩
def sp_law_pick : Sp := fun vs H Q _ => ∃ (p a : Addr) (ns : List Nat), vs = [.ref p, .ref a] ∧ Pot H p ∧ a ≠ p ∧ H a = some (.lst (ns.map fun (i : Nat) => V.int (i : Int))) ∧ 0 < ns.length ∧ ns.length ≤ 1000 ∧
  ∀ (H' : Hp) (d : Nat), But p H H' → Pot H' p → d ∈ ns → Q (.int (d : Int)) H'
theorem c_law_pick (T : Tt K mg) : Ca P w K mg base 2 "_law_pick" ["_law_pot_here", "_law_some"] sp_law_pick := by
  obtain ⟨fd, F⟩ := T.e_law_pick
  refine Ca.mk' F T.g_law_pick (okD F sc_law_pick (fun vs H Q E h => ?_) fun cdv A outer s H vs Q E hr h => ?_) fun _ _ _ _ _ _ us hl => match us, hl with | [_, _], _ => rfl
  · obtain ⟨p, a, ns, rfl, _⟩ := h
    rfl
  · obtain ⟨p, a, ns, rfl, hp, hne, ha, h0, h1, q⟩ := h
    refine ⟨_, pss_one (ps_ret (pe_ix ix_list (pv 1) (pe_c (c_law_draw T) hr (by rfl) (pa_cons (pv 0) (pa_cons (pe_callB call_len_seq (by rfl) T.b_len PySem.boot_len (pa_cons (pv 1) pa_nil)) pa_nil))) (fun _ _ => rfl))), ?_⟩
    refine ⟨_, rfl, _, rfl, _, rfl, a, _, rfl, .inl (SqL.of ha), p, ns.length, by rw [List.length_map]; rfl, hp, h0, h1, fun H1 d b1 hp1 hd => ?_⟩
    refine ⟨a, _, d, .int (ns[d] : Nat), rfl, rfl, SqL.of (b1 _ _ ha hne), atI_nat (by rw [List.getElem?_map, List.getElem?_eq_getElem hd]; rfl), ?_⟩
    exact q H1 _ b1 hp1 (List.getElem_mem hd)
theorem sc_law_pot : FnScope ["_law_script", "_law_k", "_law_cell"] ["_law_script", "_law_k"] (defScope s_law_pot) := ⟨rfl, rfl, rfl, by decide +kernel, rfl, by decide +kernel, by decide +kernel⟩
def sp_law_pot (K : PySem.W.Frag) : Sp := fun vs H Q _ => ∃ (a : Addr) (ns : List Int), vs = [.ref a, .int 0] ∧ SqL K H a (ns.map V.int) ∧ ∀ (H' : Hp) (p : Addr), Same H H' → H p = none → Pot H' p → Q (.ref p) H'
theorem c_law_pot (T : Tt K mg) : Ca P w K mg base 1 "_law_pot" ["_law_script", "_law_k"] (sp_law_pot K) := by
  obtain ⟨fd, F⟩ := T.e_law_pot
  refine Ca.mk' F T.g_law_pot (okD F sc_law_pot (fun vs H Q E h => ?_) fun cdv A outer s H vs Q E hr h => ?_) fun _ _ _ _ _ _ us hl => match us, hl with | [_, _], _ => rfl
  · obtain ⟨a, ns, rfl, _⟩ := h
    rfl
  · obtain ⟨a, ns, rfl, ha, q⟩ := h
    have nd := sc_law_pot.nd
    refine ⟨_, pss_cons (ps_set (i := 2) nd rfl (.inl rfl) (pe_op op_add (pe_op op_mul pe_int (pv 1)) pe_int))
      (pss_cons (ps_if (pt_cmpR op_lt (pv 1) (pe_callB call_len_seq (by rfl) T.b_len PySem.boot_len (pa_cons (pv 0) pa_nil)) (nomark _))
        (pss_one (ps_set (i := 2) nd rfl (.inl rfl) (pe_callB call_abs (by rfl) T.b_abs (by decide +kernel) (pa_cons (pe_ix ix_list (pv 0) (pv 1) (fun _ _ => rfl)) pa_nil)))) pss_nil)
      (pss_one (ps_ret (pe_lst (pa_cons (pe_callB (call_max2 rfl) (by rfl) T.b_max (by decide +kernel) (pa_cons pe_int (pa_cons (pe_op op_sub (pv 2) (pe_op op_pow pe_int pe_int)) pa_nil)))
        (pa_cons (pe_op op_add (pe_op op_mod (pe_callTy call_int1 (by rfl) T.b_int (by decide +kernel) (pa_cons (pe_op op_add (pe_op op_add (pe_op op_mul (pe_op op_mod (pe_callTy call_int1 (by rfl) T.b_int (by decide +kernel) (pa_cons (pv 2) pa_nil)) pe_int) pe_int) (pe_op op_mul pe_int (pv 1))) pe_int) pa_nil)) pe_int) pe_int) pa_nil)))))), ?_⟩
    have t10 : ((10 : Int) ^ (18 : Int).toNat) = 1000000000000000000 := by decide
    have last : ∀ c : Int, ∀ np, H np = none → Q (.ref np) (upd H np (.lst [.int (if c - 10 ^ (18 : Int).toNat > 0 then c - 10 ^ (18 : Int).toNat else 0), .int ((c % 2147483549 * 69621 + 5711 * 0 + 613) % 2147483563 + 1)])) := fun c np hnp => by
      have h1 : 0 ≤ (c % 2147483549 * 69621 + 5711 * 0 + 613) % 2147483563 := Int.emod_nonneg _ (by decide)
      have h2 : (c % 2147483549 * 69621 + 5711 * 0 + 613) % 2147483563 < 2147483563 := Int.emod_lt_of_pos _ (by decide)
      exact q _ np (sameU hnp) hnp ⟨_, _, upd_same, by omega, by omega⟩
    refine ⟨_, rfl, _, _, rfl, rfl, .inr ⟨by decide, by decide⟩, _, _, rfl, rfl, ?_⟩
    refine ⟨_, rfl, _, rfl, a, _, rfl, .inl ha, _, _, rfl, rfl, _, rfl, ite2 (fun h => ?_) fun h => ?_⟩
    · have hl : 0 < ns.length := by
        have h : decide ((0 : Int) < ((ns.map V.int).length : Int)) = true := h
        rw [List.length_map] at h
        have := of_decide_eq_true h
        omega
      have h0 : atI (ns.map V.int) 0 = some (.int ns[0]) := atI_nat (j := 0) (by rw [List.getElem?_map, List.getElem?_eq_getElem hl]; rfl)
      refine ⟨_, rfl, _, rfl, a, _, 0, _, rfl, rfl, ha, h0, _, rfl, ?_⟩
      exact ⟨_, rfl, _, _, rfl, rfl, ⟨by decide, by decide, by decide⟩, _, _, rfl, rfl, _, _, rfl, _, rfl, .inl ⟨_, rfl, _, _, rfl, rfl, (by show (0 : Int) < 2147483549; decide), _, _, rfl, rfl, .inr ⟨by decide, by decide⟩, _, rfl, _, _, rfl, rfl, .inl ⟨by decide, by decide⟩, _, _, rfl, rfl, _, _, rfl, rfl, .inl ⟨_, rfl, _, _, rfl, rfl, (by show (0 : Int) < 2147483563; decide), _, _, rfl, rfl, (by show 2 ≤ sizeLine; decide), last (if ns[0] < 0 then -ns[0] else ns[0])⟩⟩⟩
    · exact ⟨_, rfl, _, _, rfl, rfl, ⟨by decide, by decide, by decide⟩, _, _, rfl, rfl, _, _, rfl, _, rfl, .inl ⟨_, rfl, _, _, rfl, rfl, (by show (0 : Int) < 2147483549; decide), _, _, rfl, rfl, .inr ⟨by decide, by decide⟩, _, rfl, _, _, rfl, rfl, .inl ⟨by decide, by decide⟩, _, _, rfl, rfl, _, _, rfl, rfl, .inl ⟨_, rfl, _, _, rfl, rfl, (by show (0 : Int) < 2147483563; decide), _, _, rfl, rfl, (by show 2 ≤ sizeLine; decide), last (757 * 0 + 571)⟩⟩⟩
end
end Tx
set_option Elab.async false
set_option linter.all false
set_option maxRecDepth 100000
set_option maxHeartbeats 4000000
namespace Tx
open PySem PySem.Spec PyProof.Rows L2
section
variable {P : Program} {w : World} {K : PySem.W.Frag} {mg : Str → Option Value} {base : Heap}
/-! ### threes drawn -/
theorem sc_law_threes : FnScope ["_law_pot_here", "_law_size", "_law_most", "_law_found", "_law_turn", "_law_left", "_law_three", "_law_place"] ["_law_pot_here", "_law_size", "_law_most"] (defScope s_law_threes) := ⟨rfl, rfl, rfl, by decide +kernel, rfl, by decide +kernel, by decide +kernel⟩
def sp_law_threes : Sp := fun vs H Q _ => ∃ (X : List Addr) (p : Addr) (n most : Nat), vs = [.ref p, .int (n : Int), .int (most : Int)] ∧ Lives X H ∧ p ∈ X ∧ Pot H p ∧ n ≤ 8 ∧ most ≤ 6 ∧
  ∀ (H' : Hp) (D : Addr) (acc : List V) (ts : List Mth.Three), But p H H' → Pot H' p → H D = none → H' D = some (.lst acc) → Paired (dThree (hid (D :: X) H')) acc ts → ts.length ≤ most → (∀ t ∈ ts, Mth.Good n t) → Q (.ref D) H'
theorem c_law_threes (T : Tt K mg) : Ca P w K mg base 2 "_law_threes" ["_law_pot_here", "_law_size", "_law_most"] sp_law_threes := by
  obtain ⟨fd, F⟩ := T.e_law_threes
  refine Ca.mk' F T.g_law_threes (okD F sc_law_threes (fun vs H Q E h => ?_) fun cdv A outer s H vs Q E hr h => ?_) fun _ _ _ _ _ _ us hl => match us, hl with | [_, _, _], _ => rfl
  · obtain ⟨X, p, n, most, rfl, _⟩ := h
    rfl
  · obtain ⟨X, p, n, most, rfl, lx, hpX, hp, hn, hmost, q⟩ := h
    have nd := sc_law_threes.nd
    have hpn : H p ≠ none := fun z => by
      obtain ⟨_, _, e, _⟩ := hp
      rw [z] at e
      cases e
    refine ⟨_, pss_cons (ps_set (i := 3) nd rfl (.inl rfl) (pe_lst pa_nil))
      (pss_cons (ps_for PassesOwn.never rfl (pi_range1 (by rfl) T.b_range (pa_cons (pe_ifExp (pt_cmpR op_gt (pv 1) pe_int (nomark _)) (pe_c (c_law_draw T) hr (by rfl) (pa_cons (pv 0) (pa_cons (pe_op op_add (pv 2) pe_int) pa_nil))) pe_int) pa_nil)) (pg_name (i := 4) nd rfl (.inl rfl))
        (pss_cons (ps_par (i := 5) (j := 6) (by rfl) nd rfl rfl (by decide) rfl rfl (pa_cons (pe_listRg rfl (by rfl) T.b_list (prg_1 (by rfl) T.b_range (pv 1))) (pa_cons (pe_lst pa_nil) pa_nil)) (by rfl))
        (pss_cons (ps_for PassesOwn.never rfl (pi_range1 (by rfl) T.b_range (pa_cons pe_int pa_nil)) (pg_name (i := 7) nd rfl (.inl rfl))
          (pss_one (ps_expr (pe_bm PySem.F.plainAttrs_list PySem.F.slot_list_append PySem.F.type_list_append mt_append (pv 6) (pa_cons (pe_bm PySem.F.plainAttrs_list PySem.F.slot_list_pop PySem.F.type_list_pop mt_popAt (pv 5) (pa_cons (pe_c (c_law_draw T) hr (by rfl) (pa_cons (pv 0) (pa_cons (pe_callB call_len_seq (by rfl) T.b_len PySem.boot_len (pa_cons (pv 5) pa_nil)) pa_nil))) pa_nil)) pa_nil)))))
        (pss_one (ps_expr (pe_bm PySem.F.plainAttrs_list PySem.F.slot_list_append PySem.F.type_list_append mt_append (pv 3) (pa_cons (pe_callTy call_tuple_of (by rfl) T.b_tuple (by decide +kernel) (pa_cons (pe_callB cr_sorted (by rfl) T.b_sorted (by decide +kernel) (pa_cons (pv 6) pa_nil)) pa_nil)) pa_nil)))))))
      (pss_one (ps_ret (pv 3)))), ?_⟩
    refine ⟨Nat.zero_le _, fun D nD => ?_⟩
    have sD := sameU (o := .lst []) nD
    have hDp : D ≠ p := fun z => hpn (by rw [← z]; exact nD)
    have hp1 : Pot (upd H D (.lst [])) p := by
      obtain ⟨a, b, e, h⟩ := hp
      exact ⟨a, b, sD _ _ e, h⟩
    refine ⟨_, rfl, _, _, rfl, rfl, _, rfl, ite2 (fun h => ?_) fun h => ?_⟩
    · have h3 : 2 < n := by
        have := of_decide_eq_true (show decide ((n : Int) > 2) = true from h)
        omega
      refine ⟨_, rfl, _, rfl, _, _, rfl, rfl, p, most + 1, rfl, hp1, by omega, by omega, fun H1 d b1 pt1 hd => ⟨_, rfl, by omega, by omega, for_range (lo := 0) (n := d) (fun i σ H2 => ∃ acc ts y4 y5 y6 y7, σ = [some (.ref p), some (.int (n : Int)), some (.int (most : Int)), some (.ref D), y4, y5, y6, y7] ∧ But p H H2 ∧ Pot H2 p ∧ H2 D = some (.lst acc) ∧ Paired (dThree (hid (D :: X) H2)) acc ts ∧ ts.length = i ∧ ∀ t ∈ ts, Mth.Good n t)
        ⟨[], [], none, none, none, none, rfl, (But.of sD).trans b1, pt1, b1 _ _ upd_same hDp, .nil, rfl, fun t ht => by cases ht⟩ ?_ ?_⟩⟩
      · rintro i σ H2 hi ⟨acc, ts, y4, y5, y6, y7, rfl, b2, p2, eD, pa, hlen, hg⟩
        have hp2n : H2 p ≠ none := fun z => by
          obtain ⟨_, _, e, _⟩ := p2
          rw [z] at e
          cases e
        refine ⟨_, rfl, n, rfl, .of_le (by omega) (by omega) (by omega) (by omega), fun l nl => ⟨Nat.zero_le _, fun t nt => ⟨_, _, rfl, _, rfl, by decide, by decide, ?_⟩⟩⟩
        have hlp : l ≠ p := fun z => hp2n (by rw [← z]; exact nl)
        have hlt : l ≠ t := fun z => by
          rw [← z, upd_same] at nt
          cases nt
        have nt2 : H2 t = none := by rw [upd_ne (Ne.symm hlt)] at nt; exact nt
        have htp : t ≠ p := fun z => hp2n (by rw [← z]; exact nt2)
        have ul := sameU (o := .lst (rgV 0 (n : Int))) nl
        have ut := sameU (o := .lst []) nt
        refine for_range (lo := 0) (n := 3) (fun j σ H5 => ∃ (rest chosen : List Nat) (z7 : Option V), σ = [some (.ref p), some (.int (n : Int)), some (.int (most : Int)), some (.ref D), some (.int (0 + (i : Int))), some (.ref l), some (.ref t), z7] ∧ But p H2 H5 ∧ Pot H5 p ∧ H5 l = some (.lst (rest.map fun (k : Nat) => V.int (k : Int))) ∧ H5 t = some (.lst (chosen.map fun (k : Nat) => V.int (k : Int))) ∧ chosen.length = j ∧ rest.length + j = n ∧ rest.Nodup ∧ chosen.Nodup ∧ (∀ x ∈ chosen, x ∉ rest ∧ x < n) ∧ ∀ x ∈ rest, x < n)
          ⟨List.range n, [], _, rfl, But.of (ul.trans ut), ?_, by rw [upd_ne hlt, upd_same, rgV_nat], upd_same, rfl, by rw [List.length_range]; rfl, List.nodup_range, .nil, ⟨fun x hx => by (cases hx), fun x hx => List.mem_range.mp hx⟩⟩ ?_ ?_
        · obtain ⟨a, b, e, h⟩ := p2
          exact ⟨a, b, ut _ _ (ul _ _ e), h⟩
        · rintro j σ H5 hj ⟨rest, chosen, z7, rfl, b5, p5, el, et, hcl, hrl, nr, nc, hcr, hrn⟩
          refine ⟨_, rfl, .inl ⟨rfl, _, SqL.of et⟩, _, rfl, .inl ⟨rfl, _, SqL.of el⟩, _, rfl, _, rfl, l, _, rfl, .inl (SqL.of el), p, rest.length, by rw [List.length_map]; rfl, p5, by omega, by omega, fun H6 d6 b6 p6 hd6 => ?_⟩
          have el6 := b6 _ _ el hlp
          have et6 := b6 _ _ et htp
          have hget : rest[d6]? = some rest[d6] := List.getElem?_eq_getElem hd6
          obtain ⟨hm, hnm, hnd, hsub⟩ := erase_facts hget nr
          refine ⟨l, _, d6, d6, .int (rest[d6] : Nat), rfl, rfl, el6, by omega, by omega, ?_, by rw [List.getElem?_map, hget]; rfl, ?_⟩
          · rw [List.length_map]
            exact (ixN_seq (i := (d6 : Int)) (j := d6) (by
              unfold ixN
              rw [if_pos (by omega), if_pos (by omega)]
              rfl)).1
          · have et7 : (upd H6 l (.lst ((rest.map fun (k : Nat) => V.int (k : Int)).eraseIdx d6))) t = some (.lst (chosen.map fun (k : Nat) => V.int (k : Int))) := by
              rw [upd_ne (Ne.symm hlt)]
              exact et6
            refine ⟨t, _, _, rfl, rfl, et7, by rw [List.length_map]; exact small1000 (by omega), ?_⟩
            refine ⟨rest.eraseIdx d6, chosen ++ [rest[d6]], _, rfl, ?_, ?_, ?_, ?_, ?_, ?_, hnd, ?_, ?_, fun x hx => hrn x (hsub x hx)⟩
            · intro x o e hx
              have hx5 := b6 _ _ (b5 _ _ e hx) hx
              rw [upd_ne (fun z => by rw [z, nt2] at e; cases e), upd_ne (fun z => by rw [z, nl] at e; cases e)]
              exact hx5
            · obtain ⟨a, b, e, h⟩ := p6
              refine ⟨a, b, ?_, h⟩
              rw [upd_ne (Ne.symm htp), upd_ne (Ne.symm hlp)]
              exact e
            · rw [upd_ne hlt, upd_same, map_eraseIdx']
            · rw [upd_same, List.map_append]
              rfl
            · rw [List.length_append, hcl]
              rfl
            · rw [List.length_eraseIdx, if_pos hd6]
              omega
            · rw [List.nodup_append]
              refine ⟨nc, by simp, fun x hx y hy => ?_⟩
              rw [List.mem_singleton] at hy
              intro z
              exact (hcr x hx).1 (by rw [z, hy]; exact hm)
            · intro x hx
              rcases List.mem_append.mp hx with hx | hx
              · exact ⟨fun z => (hcr x hx).1 (hsub x z), (hcr x hx).2⟩
              · rw [List.mem_singleton] at hx
                rw [hx]
                exact ⟨hnm, hrn _ hm⟩
        · rintro σ H5 ⟨rest, chosen, z7, rfl, b5, p5, el, et, hcl, hrl, nr, nc, hcr, hrn⟩
          have eD5 := b5 _ _ eD hDp
          match chosen, hcl, nc, hcr, et with
          | [a, b, c], _, nc, hcr, et =>
            refine ⟨_, rfl, .inl ⟨rfl, _, SqL.of eD5⟩, _, rfl, t, [(a : Int), (b : Int), (c : Int)], rfl, SqL.of et, by show 3 < 64; decide, fun ns' a2 hperm hsrt na2 => ?_⟩
            obtain ⟨x, y, z, rfl, hxy, hmin, lxy, lyz, hmem⟩ := sort3 hperm hsrt
            have hne : ¬ (a = b ∨ a = c ∨ b = c) := by
              simp only [List.nodup_cons, List.mem_cons, List.not_mem_nil, or_false, not_or, List.nodup_nil, and_true, not_false_eq_true] at nc
              omega
            have hzn : z < n := by
              rcases (hmem z).mp (.inr (.inr rfl)) with h | h | h
              · rw [h]; exact (hcr a (by simp)).2
              · rw [h]; exact (hcr b (by simp)).2
              · rw [h]; exact (hcr c (by simp)).2
            have hgood : Mth.Good n (x, y, z) := by
              have h1 : ¬ (x = y ∨ y = z) := fun w => hne (hxy.mp w)
              exact ⟨by show x < y; omega, by show y < z; omega, hzn⟩
            refine ⟨a2, _, rfl, .inl ⟨SqL.of upd_same, fun a3 na3 => ?_⟩⟩
            have u2 := sameU (o := .lst ([(x : Int), (y : Int), (z : Int)].map V.int)) na2
            have u3 := sameU (o := .tup ([(x : Int), (y : Int), (z : Int)].map V.int)) na3
            have eD6 := (u2.trans u3) _ _ eD5
            refine ⟨D, acc, _, rfl, rfl, eD6, ?_, ?_⟩
            · rw [paired_len pa]
              exact small1000 (by omega)
            · have b6 : But p H2 _ := b5.trans (But.of (u2.trans u3))
              refine ⟨acc ++ [.ref a3], ts ++ [(x, y, z)], _, _, _, _, rfl, ?_, ?_, upd_same, ?_, ?_, ?_⟩
              · intro v o e hv
                rw [upd_ne (fun w => by rw [w, nD] at e; cases e)]
                exact b6 _ _ (b2 _ _ e hv) hv
              · obtain ⟨a, b, e, h⟩ := p5
                refine ⟨a, b, ?_, h⟩
                rw [upd_ne (Ne.symm hDp)]
                exact (u2.trans u3) _ _ e
              · have m1 : Same (hid (D :: X) H2) (hid (D :: X) (upd (upd (upd H5 a2 (.lst ([(x : Int), (y : Int), (z : Int)].map V.int))) a3 (.tup ([(x : Int), (y : Int), (z : Int)].map V.int))) D (.lst (acc ++ [.ref a3])))) := (b6.hid (List.mem_cons_of_mem _ hpX)).trans (hid_upd List.mem_cons_self)
                refine paired_app (paired_mono (fun _ _ => mThree.up m1) pa) (.cons ⟨a3, rfl, ?_⟩ .nil)
                refine hid_upd List.mem_cons_self _ _ (hid_put (fun w => ?_))
                rcases List.mem_cons.mp w with w | w
                · rw [w] at na3
                  rw [u2 _ _ eD5] at na3
                  cases na3
                · exact ((b2.trans b5).trans (But.of u2)).lives lx (fun e => by
                    obtain ⟨_, _, e', _⟩ := p5
                    rw [u2 _ _ e'] at e
                    cases e) a3 w na3
              · rw [List.length_append, hlen]
                rfl
              · intro v hv
                rcases List.mem_append.mp hv with hv | hv
                · exact hg v hv
                · rw [List.mem_singleton] at hv
                  rw [hv]
                  exact hgood
      · rintro σ H2 ⟨acc, ts, y4, y5, y6, y7, rfl, b2, p2, eD, pa, hlen, hg⟩
        exact ⟨_, rfl, q H2 D acc ts b2 p2 nD eD pa (by omega) hg⟩
    · refine ⟨_, rfl, by decide, by decide, for_range (lo := 0) (n := 0) (fun i σ H2 => ∃ y4, σ = [some (.ref p), some (.int (n : Int)), some (.int (most : Int)), some (.ref D), y4, none, none, none] ∧ H2 = upd H D (.lst [])) ⟨none, rfl, rfl⟩ (fun i σ H2 hi => by omega) ?_⟩
      rintro σ H2 ⟨y4, rfl, rfl⟩
      exact ⟨_, rfl, q _ D [] [] (But.of sD) hp1 nD upd_same .nil (Nat.zero_le _) fun t ht => by cases ht⟩
end
end Tx
set_option Elab.async false
set_option linter.all false
set_option maxRecDepth 100000
set_option maxHeartbeats 4000000
/-! More rules: range as a value, calls by keywords alone, repr of two small ints, defs that are run outside every repr. -/
namespace Tx
open PySem PySem.Spec PyProof.Rows L2
section
variable {X : Cx}
theorem cr_range1 : CallR X (.type "range") (fun vs H Q => ∃ j, vs = [V.int j] ∧ ∀ p, H p = none → Q (.ref p) (upd H p (.rng 0 j))) := by
  intro pins s σ H vs us Q I r ⟨j, ej, q⟩
  subst ej
  obtain ⟨u1, eu, ri⟩ := Vals.one r
  subst eu
  obtain ⟨t, et⟩ := ri
  subst et
  have J : Inv X pins σ (upd H s.heap.objs.size (.rng 0 j)) { s with heap := s.heap.push { cls := .type "range", data := .fields #[.int 0 s.toks, .int j t, .int 1 (s.toks + 1)] }, toks := s.toks + 1 + 1 } :=
    I.laid (t' := s.toks + 1 + 1) (fun b o e => Heap.get?_push_of_some _ e) (Nat.le_refl _) ⟨s.toks, t, s.toks + 1, Heap.get?_push_size _ rfl⟩
  exact call_range_1 ⟨V.ref s.heap.objs.size, _, J, rfl, q _ (I.hok.fresh (Nat.le_refl _))⟩
/-- repr([i, j]) of small ones, outside every repr -/
def two (i j : Nat) : PyData := .list [.int (i : Int), .int (j : Int)]
theorem two_short : ∀ i : Fin 9, ∀ j : Fin 9, (two i j).shown.length ≤ 100 := by decide +kernel
theorem two_show : ∀ i : Fin 9, ∀ j : Fin 9, (two i j).showable = true := by decide +kernel
theorem cr_repr2 (hg : X.A.guards = some []) (hu : X.A.units + 64 < cLine) : CallR X (.builtin "repr") (fun xs H Q => ∃ a, ∃ i j : Nat, xs = [V.ref a] ∧ SqL X.K H a [.int (i : Int), .int (j : Int)] ∧ i < 9 ∧ j < 9 ∧ Q (.str (two i j).shown) H) := by
  intro pins s σ H xs us Q I r ⟨a, i, j, ex, hs, hi, hj, q⟩
  subst ex
  obtain ⟨its, rv, hl, _⟩ := I.list hs
  rw [Vals.ref1 r]
  obtain ⟨u1, u2, e2, r1, r2⟩ := Vals.two rv
  subst e2
  obtain ⟨t1, et1⟩ := r1
  obtain ⟨t2, et2⟩ := r2
  subst et1
  subst et2
  obtain ⟨o, ho, hc, n, hd⟩ := hl.isList
  have rd : Reads s.heap (.ref a) (two i j) (a :: ([] ++ ([] ++ []))) := Reads.list ho hc hd (.cons (.int _ _) (.cons (.int _ _) .nil))
  have hsz : (two i j).shown.length ≤ sizeLine := Nat.le_of_lt (small1000 (Nat.le_trans (show (two i j).shown.length ≤ 100 from two_short ⟨i, hi⟩ ⟨j, hj⟩) (by decide)))
  have dep : (two i j).depth ≤ 2 := by
    show PyData.depth (.list [.int (i : Int), .int (j : Int)]) ≤ 2
    simp [PyData.depth, PyData.depthAll]
  exact repr_of_reads' rd (two_show ⟨i, hi⟩ ⟨j, hj⟩) (fun z => by cases z) hg (by omega) (fun _ _ e => e) (fun h' u tk hk => ⟨V.str _, H, I.kept hk, ⟨u, rfl⟩, q⟩) hsz
end
/-! ### f(k = v, ..) -/
section
variable {X : Cx} {k : Nat} {f : Addr} {fd : FuncData} {ps ks : List Str} {sp : Sp} {x : Str} {p pos : Pos} {kws : List Keyword} {tk : TA} {g : List Value → List Value → List Value} {gV : List V → List V → List V}
theorem pe_kwOnly (F : FnOk X.prog X.w X.K X.mg X.base CX0 k f fd ps sp) (hr : Room k X.A) (hg : Gl X x) (hm : X.mg x = some (.ref f)) (hk : PySem.W.keepIn X.K (.ref f) = true) (hb : KBinds X.K fd ps ks g gV)
    (hkw : PK X kws tk) (hall : (backToKw pos (keywordEach kws X.env)).all (·.1.isSome) = true := by rfl) (hks : (backToKw pos (keywordEach kws X.env)).filterMap (·.1) = ks := by rfl)
    (hdb : (x == ("__debug__" : Str)) = false := by decide) (hpl : ((backTo pos (starEach [] X.env)).any (·.1) || (backToKw pos (keywordEach kws X.env)).any (·.1.isNone)) = false := by rfl) :
    PE X (.Call (.Name x p) [] kws pos) (tCallK sp gV E0 tNil tk) := by
  refine ⟨fun pins s σ H Q I h => wpAny_Call_Name_kw (ld_glob I hg hm ?_ hdb)⟩
  refine PySem.W.callWith_KW0 (h₀ := X.base) I.ok.mod.kin hk hall ?_ hpl
  refine thn (hkw.run pos pins s σ H _ I h) fun ws s2 hh => ?_
  obtain ⟨zs, H2, I2, rz, q2⟩ := hh
  refine ⟨I2.kIn, ?_⟩
  rw [hks]
  exact run_fnk (us := []) (vs := []) F hr hb pass0 I2 .nil rz q2
/-- two parameters, the second named first -/
theorem kb2 {K : PySem.W.Frag} {a b qual : Str} {y : Str} {params : Arguments} {body : List Stmt} {scope : Scope} (F : FunD K y qual params body scope [] [] f fd)
    (h0 : ∀ (kV doc pm : Value) (an : Option Addr) (cdv ct u v : Value), bindArgs (PySem.W.fnOf y qual params body scope .none kV doc pm an cdv ct) ⟨[], [(b, u), (a, v)]⟩ = pure [(a, v), (b, u)])
    (h1 : ∀ (kV doc pm : Value) (an : Option Addr) (cdv ct u v : Value), bindArgs (PySem.W.fnOf y qual params body scope .none kV doc pm an cdv ct) ⟨[u], [(b, v)]⟩ = pure [(a, u), (b, v)])
    (h2 : ∀ (kV doc pm : Value) (an : Option Addr) (cdv ct u v : Value), bindArgs (PySem.W.fnOf y qual params body scope .none kV doc pm an cdv ct) ⟨[u, v], []⟩ = pure [(a, u), (b, v)]) :
    KBinds K fd [a, b] [b, a] (fun us ws => us ++ ws.reverse) (fun us ws => us ++ ws.reverse) := by
  obtain ⟨oc, od, dV, kV, doc, pm, an, cdv, ct, osl, ef, lk, hcd, hD, hK⟩ := F.ex
  subst ef
  refine ⟨fun s us ws KX hl => ?_, fun r rz => r.append rz.reverse⟩
  rcases hD with ⟨_, e⟩ | ⟨e, _⟩
  · subst e
    match us, ws, hl with
    | [], [u, v], _ => exact .of_eq (h0 kV doc pm an cdv ct u v)
    | [u], [v], _ => exact .of_eq (h1 kV doc pm an cdv ct u v)
    | [u, v], [], _ => exact .of_eq (h2 kV doc pm an cdv ct u v)
    | [], [], hl => exact absurd hl (by simp)
    | [], [_], hl => exact absurd hl (by simp)
    | [], _ :: _ :: _ :: _, hl => exact absurd hl (by simp)
    | [_], [], hl => exact absurd hl (by simp)
    | [_], _ :: _ :: _, hl => exact absurd hl (by simp)
    | [_, _], _ :: _, hl => exact absurd hl (by simp)
    | _ :: _ :: _ :: _, _, hl => exact absurd hl (by simp)
  · exact absurd rfl e
end
/-! ### defs that run outside every repr -/
structure Ua (P : Program) (w : World) (K : PySem.W.Frag) (mg : Str → Option Value) (base : Heap) (k : Nat) (f : Addr) (fd : FuncData) (ps : List Str) (sp : Sp) : Prop where
  len : ∀ vs H Q E, sp vs H Q E → vs.length = ps.length
  run : ∀ (A : Around) (outer : List Env) (s : Shared) (H : Hp) (args : Args) (us : List Value) (vs : List V) (Q : VK) (E : XK), A.guards = some [] → Room k A → Env0 P w K mg base A outer s H → BindsTo s fd args (ps.zip us) → Vals vs us →
    sp vs H Q E → codeAny (model P w) A (.call (.ref f) args) (CR CX0 outer P w H s Q E) s
section
variable {P : Program} {w : World} {K : PySem.W.Frag} {mg : Str → Option Value} {base : Heap}
theorem uaD {x qual : Str} {params : Arguments} {body : List Stmt} {scope : Scope} {dvs : List V} {kws : List (Str × V)} {f : Addr} {fd : FuncData} {N ps : List Str} {k : Nat} {sp : Sp}
    (F : FunD K x qual params body scope dvs kws f fd) (S : FnScope N ps scope) (len : ∀ vs H Q E, sp vs H Q E → vs.length = ps.length)
    (hb : ∀ (cdv : Value) (A : Around) (outer : List Env) (s : Shared) (H : Hp) (vs : List V) (Q : VK) (E : XK), A.guards = some [] → Room k (A.deeper (envOfC qual scope s.heap.objs.size f cdv)) → sp vs H Q E →
      ∃ t, PSs (cxOf CX0 P w K mg base N qual scope f cdv A outer s H E).nox body t ∧ t { nx := fun _ H' => Q .non H', rt := Q } (start N vs) H) : Ua P w K mg base (k + 1) f fd ps sp := by
  obtain ⟨oc, od, dV, kV, doc, pm, an, cdv, ct, osl, ef, lk, hcd, _, _⟩ := F.ex
  subst ef
  refine ⟨len, fun A outer s H args us vs Q E hgd hr e0 hbn r hsp => ?_⟩
  have hl := len vs H Q E hsp
  have KX : K.In s.heap := e0.mod.kin.keeps fun b o e => (e0.bs b o e).1
  have lim : s.heap.NoLimit := e0.mod.nolimit.keeps fun b o e => (e0.bs b o e).1
  have kinds : ∀ y ∈ ps.zip us, scope.names.lookup y.1 = some .local ∨ (scope.names.lookup y.1 = some .cell ∧ ((cellsFrom (s.heap.objs.size + 1) scope.names []).lookup y.1).isSome = true) := by
    intro y hy
    have hy' : (y.1, y.2) ∈ ps.zip us := hy
    exact (S.par y.1 (List.of_mem_zip hy').1).imp id fun q => And.intro q (PySem.W.cellsFrom_some _ _ _ (.inl q))
  refine codeAny_call_function hr.depth (KX f _ lk) rfl S.co S.gen rfl (PySem.W.codeRec_of KX hcd) (hbn _ _ _ _ (wpAny_newFunctionEnv_cells S.kind kinds fun env he s1 x1 => ?_))
  subst he
  refine And.intro (lim.keeps x1.toInCall.keep) (codeAny_func ?_)
  obtain ⟨t, ht0, hq⟩ := hb cdv A outer s H vs Q E hgd (hr.deeper _) hsp
  have ht := ht0.nox
  have J0 : Inv (cxOf CX0 P w K mg base N qual scope f cdv A outer s H E) [] (start N vs) H s1 := inv_start S hr.hd e0 hl r x1
  refine wpAny_mono (ht.run [] s1 (start N vs) H _ J0 hq) (fun fl s' hs => ?_) fun _ _ hs => hs
  cases fl with
  | brk => exact (hs.choose_spec.choose_spec.2 : False).elim
  | cont => exact (hs.choose_spec.choose_spec.2 : False).elim
  | next =>
    obtain ⟨σ', H', J, q⟩ := hs
    exact ⟨V.non, H', J.os, J.bare, J.base, J.hok, rfl, q⟩
  | ret u =>
    obtain ⟨v, σ', H', J, rv, q⟩ := hs
    exact ⟨v, H', J.os, J.bare, J.base, J.hok, rv, q⟩
/-- such a def of the module, by its name -/
structure Cu (P : Program) (w : World) (K : PySem.W.Frag) (mg : Str → Option Value) (base : Heap) (k : Nat) (x : Str) (ps : List Str) (sp : Sp) : Prop where
  ex : ∃ (f : Addr) (fd : FuncData), Ua P w K mg base k f fd ps sp ∧ mg x = some (.ref f) ∧ PySem.W.keepIn K (.ref f) = true ∧ ∀ (s : Shared) (us : List Value), us.length = ps.length → BindsTo s fd ⟨us, []⟩ (ps.zip us)
end
section
variable {X : Cx} {k : Nat} {x : Str} {ps : List Str} {sp : Sp} {p pos : Pos} {e : Expr} {es : List Expr} {t : TA}
theorem pe_u (C : Cu X.prog X.w X.K X.mg X.base k x ps sp) (hgd : X.A.guards = some []) (hr : Room k X.A) (hg : Gl X x) (ha : PA X (e :: es) t) (hdb : (x == ("__debug__" : Str)) = false := by decide)
    (he : starEach (e :: es) X.env = (false, eval e X.env) :: starEach es X.env := by rfl) (hpl : (backTo pos (starEach es X.env)).any (·.1) = false := by rfl) : PE X (.Call (.Name x p) (e :: es) [] pos) (tCall sp [] E0 t) := by
  obtain ⟨f, fd, U, hm, hk, hb⟩ := C.ex
  refine ⟨fun pins s σ H Q I h => wpAny_Call_Name_kw (ld_glob I hg hm ?_ hdb)⟩
  refine PySem.W.callWith_K (h₀ := X.base) I.ok.mod.kin hk (thn (ha.run pos pins s σ H _ I h) fun us s1 hh => ?_) he hpl
  obtain ⟨vs, H1, I1, r, q⟩ := hh
  rw [List.append_nil] at q
  have hl : us.length = ps.length := by rw [← r.length]; exact U.len _ _ _ _ q
  refine ⟨I1.kIn, wpAny_call (codeAny_mono (U.run X.A X.stack s1 H1 ⟨us, []⟩ us vs Q E0 hgd hr I1.env0 (hb s1 us hl) r q) fun rr s' hq => ?_)⟩
  cases rr with
  | error er => exact pass0 pins σ H1 s1 er s' I1 hq
  | ok fl =>
    cases fl with
    | ret u => exact I1.after hq
    | next => exact hq.elim
    | brk => exact hq.elim
    | cont => exact hq.elim
end
end Tx
set_option Elab.async false
set_option linter.all false
set_option maxRecDepth 100000
set_option maxHeartbeats 4000000
namespace Tx
open PySem PySem.Spec PyProof.Rows L2
theorem ite_tC {b : Bool} {σ : L2.St} {H : Hp} {Q : VK} (i j : Nat) (h : ∀ m : Nat, (m = i ∨ m = j) → Q (.int (m : Int)) H) : if b = true then tC (.int (i : Int)) σ H Q else tC (.int (j : Int)) σ H Q := by
  cases b
  · exact h j (.inr rfl)
  · exact h i (.inl rfl)
theorem ite_both {b : Bool} {A B : TE} {σ : L2.St} {H : Hp} {Q : VK} (R : V → Hp → Prop) (hA : ∀ Q' : VK, (∀ v H', R v H' → Q' v H') → A σ H Q') (hB : ∀ Q' : VK, (∀ v H', R v H' → Q' v H') → B σ H Q')
    (h : ∀ v H', R v H' → Q v H') : if b = true then A σ H Q else B σ H Q := by
  cases b
  · exact hB Q h
  · exact hA Q h
theorem ne_same {x y : V} {A B : Prop} (e : x = y) (h : B) : if (!decide (x = y)) = true then A else B := by
  rw [decide_eq_true e]
  exact h
theorem eq_same {x y : V} {A B : Prop} (e : x = y) (h : A) : if decide (x = y) = true then A else B := by
  rw [decide_eq_true e]
  exact iteT h
def dNats (us : List Nat) : PyData := .list (us.map fun (i : Nat) => PyData.int (i : Int))
theorem lay_nats : ∀ us : List Nat, PyData.canLayAll0 (us.map fun (i : Nat) => PyData.int (i : Int)) = true
  | [] => by simp [PyData.canLayAll0]
  | x :: us => by simp [PyData.canLayAll0, PyData.canLay0, lay_nats us]
theorem depth_nats : ∀ us : List Nat, PyData.depthAll (us.map fun (i : Nat) => PyData.int (i : Int)) = 0
  | [] => by simp [PyData.depthAll]
  | x :: us => by simp [PyData.depthAll, PyData.depth, depth_nats us]
theorem shaped_nats (us : List Nat) : SeqAt.shaped (dNats us) = true := by
  unfold SeqAt.shaped dNats
  simp [PyData.canLay0, PyData.depth, lay_nats, depth_nats]
theorem eqv_nats (us : List Nat) : PyData.eqv (dNats us) (dNats us) = true   := SeqAt.eqv_refl _ (SeqAt.canLay_of_shaped (shaped_nats us))
theorem dp_nats {K : PySem.W.Frag} {H : Hp} : ∀ us : List Nat, DpAll K H (us.map fun (i : Nat) => V.int (i : Int)) (us.map fun (i : Nat) => PyData.int (i : Int))
  | [] => .nil
  | x :: us => .cons (.int _) (dp_nats us)
theorem sorted_nats {us : List Nat} {m : Nat} (h : Mth.Rising us m) {ns : List Int} (hp : ns.Perm (us.map fun (i : Nat) => (i : Int))) (hs : ns.Pairwise (· ≤ ·)) : ns.map V.int = us.map fun (i : Nat) => V.int (i : Int) := by
  have e : ns = us.map fun (i : Nat) => (i : Int) := by
    refine List.Perm.eq_of_pairwise (le := (· ≤ ·)) (fun a b _ _ h1 h2 => by omega) hs ?_ hp
    rw [List.pairwise_map]
    exact h.1.imp fun hab => by omega
  rw [e, List.map_map]
  rfl
section
variable {P : Program} {w : World} {K : PySem.W.Frag} {mg : Str → Option Value} {base : Heap}
theorem kb_ringless {f : Addr} {fd : FuncData} (F : FnP K d_ringless f fd) : KBinds K fd ["size", "threes"] ["threes", "size"] (fun us ws => us ++ ws.reverse) (fun us ws => us ++ ws.reverse) :=
  kb2 F (fun _ _ _ _ _ _ _ _ => rfl) (fun _ _ _ _ _ _ _ _ => rfl) fun _ _ _ _ _ _ _ _ => rfl
theorem kb_ringless_number {f : Addr} {fd : FuncData} (F : FnP K d_ringless_number f fd) : KBinds K fd ["size", "threes"] ["threes", "size"] (fun us ws => us ++ ws.reverse) (fun us ws => us ++ ws.reverse) :=
  kb2 F (fun _ _ _ _ _ _ _ _ => rfl) (fun _ _ _ _ _ _ _ _ => rfl) fun _ _ _ _ _ _ _ _ => rfl
abbrev NR : List Str := ["_law_pot_here", "_law_size", "_law_threes_here", "_law_due", "_law_told", "_law_some", "_law_more", "_law_both", "_law_lot", "_law_at"]
theorem sc_law_right : FnScope NR ["_law_pot_here"] (defScope s_law_right) := ⟨rfl, rfl, rfl, by decide +kernel, rfl, by decide +kernel, by decide +kernel⟩
abbrev rLenQ (K : PySem.W.Frag) : List V → Hp → VK → Prop := fun xs H Q => ∃ p ys, xs = [V.ref p] ∧ (SqL K H p ys ∨ SqT K H p ys) ∧ Q (.int ys.length) H
abbrev rRng1 : List V → Hp → VK → Prop := fun vs H Q => ∃ j, vs = [V.int j] ∧ ∀ p, H p = none → Q (.ref p) (upd H p (.rng 0 j))
abbrev rNotRng : R2 := fun x y H Q => ∃ i a lo hi, x = V.int i ∧ y = V.ref a ∧ H a = some (.rng lo hi) ∧ Q (.bl (!decide (lo ≤ i ∧ i < hi))) H
def sp_law_right : Sp := fun vs H Q _ => ∃ (p : Addr), vs = [.ref p] ∧ Pot H p ∧ ∀ H', Q (.bl true) H'
theorem c_law_right (T : Tt K mg) : Cu P w K mg base 11 "_law_right" ["_law_pot_here"] sp_law_right := by
  obtain ⟨fd, F⟩ := T.e_law_right
  obtain ⟨fdR, FR⟩ := T.e_ringless
  obtain ⟨fdN, FN⟩ := T.e_ringless_number
  refine ⟨_, fd, uaD F sc_law_right (fun vs H Q E h => ?_) (fun cdv A outer s H vs Q E hgd hr h => ?_), T.g_law_right, F.kp, fun s us hl => F.bindsA (fun _ _ _ _ _ _ us hl => match us, hl with | [_], _ => rfl) s us hl⟩
  · obtain ⟨p, rfl, _⟩ := h
    rfl
  · obtain ⟨p, rfl, hp, q⟩ := h
    have nd := sc_law_right.nd
    have hg2 : (A.deeper (envOfC d_law_right.qual d_law_right.scope s.heap.objs.size (He.fAd K d_law_right.at_) cdv)).guards = some [] := hgd
    refine ⟨_, pss_cons (ps_set (i := 1) nd rfl (.inl rfl) (pe_c (c_law_pick T) (hr.mono (by decide)) (by rfl) (pa_cons (pv 0) (pa_cons (pe_lst (pa_cons pe_int (pa_cons pe_int (pa_cons pe_int (pa_cons pe_int (pa_cons pe_int (pa_cons pe_int (pa_cons pe_int (pa_cons pe_int (pa_cons pe_int (pa_cons pe_int (pa_cons pe_int pa_nil)))))))))))) pa_nil))))
      (pss_cons (ps_set (i := 2) nd rfl (.inr rfl) (pe_c (c_law_threes T) (hr.mono (by decide)) (by rfl) (pa_cons (pv 0) (pa_cons (pv 1) (pa_cons (pe_ifExp (pt_cmpR op_eq (pe_c (c_law_draw T) (hr.mono (by decide)) (by rfl) (pa_cons (pv 0) (pa_cons pe_int pa_nil))) pe_int (nomark _)) pe_int pe_int) pa_nil)))))
      (pss_cons (ps_set (i := 3) nd rfl (.inl rfl) (pe_callB (cr_max rfl) (by rfl) T.b_max (by decide +kernel) (pa_cons (pe_lc (own := [("_law_lot", 8)]) (g := gName 8) (tt := tYes) (te := tCB (rLenQ K) (tCons (tVar 8) tNil)) rfl nd
          (pi_list (pe_c (c_law_ringless T) (hr.mono (by decide)) (by rfl) (pa_cons (pv 1) (pa_cons (pv 2) pa_nil)))) (blkOk_by (N := NR) (sc := defScope s_law_right) (by decide +kernel)) (fun _ _ _ _ _ => pg_name (i := 8) nd rfl (.inl rfl)) (fun _ _ _ _ _ => pts_nil)
          (fun _ _ _ _ _ => pe_callB call_len_seq (by rfl) T.b_len PySem.boot_len (pa_cons (pv 8) pa_nil))) pa_nil)))
      (pss_cons (ps_set (i := 4) nd rfl (.inl rfl) (pe_ifExp (pt_cmpR op_eq (pe_c (c_law_draw T) (hr.mono (by decide)) (by rfl) (pa_cons (pv 0) (pa_cons pe_int pa_nil))) pe_int (nomark _)) (pe_c (c_ringless T) (hr.mono (by decide)) (by rfl) (pa_cons (pv 1) (pa_cons (pv 2) pa_nil)))
          (pe_kwOnly (ok_ringless T FR) (hr.mono (by decide)) (by rfl) T.g_ringless FR.kp (kb_ringless FR) (pk_cons (pe_callTy call_list_of (by rfl) T.b_list (by decide +kernel) (pa_cons (pv 2) pa_nil)) (pk_cons (pv 1) pk_nil)))))
      (pss_cons (ps_if (pt_cmpR op_ne (pe_callB (cr_repr2 hg2 hr.units) (by rfl) T.b_repr (by decide +kernel) (pa_cons (pe_lst (pa_cons (pe_c (c_ringless_number T) (hr.mono (by decide)) (by rfl) (pa_cons (pv 1) (pa_cons (pv 2) pa_nil)))
          (pa_cons (pe_kwOnly (ok_ringless_number T FN) (hr.mono (by decide)) (by rfl) T.g_ringless_number FN.kp (kb_ringless_number FN) (pk_cons (pe_callTy call_list_of (by rfl) T.b_list (by decide +kernel) (pa_cons (pv 2) pa_nil)) (pk_cons (pv 1) pk_nil))) pa_nil))) pa_nil))
          (pe_callB (cr_repr2 hg2 hr.units) (by rfl) T.b_repr (by decide +kernel) (pa_cons (pe_lst (pa_cons (pv 3) (pa_cons (pv 3) pa_nil))) pa_nil)) (nomark _)) (pss_one (ps_ret pe_bl)) pss_nil)
      (pss_cons (ps_if (PW.pt (pw_or (pt_not (pt_val (pe_callB call_isi (by rfl) T.b_isinstance (by decide +kernel) (pa_cons (pv 4) (pa_cons (pe_bltn (v := .ty "list") (by rfl) T.b_list (by decide +kernel) rfl) pa_nil)))))
          (pw_or (pt_cmpR op_ne (pe_callB call_len_seq (by rfl) T.b_len PySem.boot_len (pa_cons (pv 4) pa_nil)) (pv 3) (nomark _))
          (pw_or (pt_cmpR (op_neD hr.units) (pv 4) (pe_callB cr_sorted (by rfl) T.b_sorted (by decide +kernel) (pa_cons (pv 4) pa_nil)) (nomark _))
          (pw_or1 (pt_val (pe_callB (cr_any rfl) (by rfl) T.b_any (by decide +kernel) (pa_cons (pe_lc (own := [("_law_at", 9)]) (g := gName 9) (tt := tYes) (te := tOp rNotRng (tVar 9) (tCB rRng1 (tCons (tCB (rLenQ K) (tCons (tVar 2) tNil)) tNil))) rfl nd
            (pi_list (pv 4)) (blkOk_by (N := NR) (sc := defScope s_law_right) (by decide +kernel)) (fun _ _ _ _ _ => pg_name (i := 9) nd rfl (.inl rfl)) (fun _ _ _ _ _ => pts_nil)
            (fun _ _ _ _ _ => pe_cmpR op_notIn_rng (pv 9) (pe_callTy cr_range1 (by rfl) T.b_range (by decide +kernel) (pa_cons (pe_callB call_len_seq (by rfl) T.b_len PySem.boot_len (pa_cons (pv 2) pa_nil)) pa_nil)) (by rfl))) pa_nil)))))))) (pss_one (ps_ret pe_bl)) pss_nil)
      (pss_cons (ps_setLc (i := 5) (own := [("_law_at", 9)]) (g := gName 9) (tt := tYes) (te := tOp (rIxL K) (tVar 2) (tVar 9)) rfl nd rfl rfl (sw_true rfl rfl rfl (by decide +kernel)) (pi_list (pv 4)) (blkOk_by (N := NR) (sc := defScope s_law_right) (by decide +kernel))
          (fun _ _ _ _ _ => pg_name (i := 9) nd rfl (.inl rfl)) (fun _ _ _ _ _ => pts_nil) (fun _ _ _ _ _ => pe_ix ix_list (pv 2) (pv 9) (fun _ _ => rfl)))
      (pss_cons (ps_if (PW.pt (pw_or (pt_cmpR op_isN (pe_c (c_law_joined T) (hr.mono (by decide)) (by rfl) (pa_cons (pv 1) (pa_cons (pv 5) pa_nil))) pe_non (nomark _))
          (pw_or (pt_val (pe_c (c_has_ring T) (hr.mono (by decide)) (by rfl) (pa_cons (pv 1) (pa_cons (pv 5) pa_nil))))
          (pw_or1 (pt_cmpR op_ne (pe_c (c_greatest T) (hr.mono (by decide)) (by rfl) (pa_cons (pe_c (c_three_pairs T) (hr.mono (by decide)) (by rfl) (pa_cons (pv 1) (pa_cons (pv 2) pa_nil))) pa_nil)) (pv 3) (nomark _)))))) (pss_one (ps_ret pe_bl)) pss_nil)
      (pss_cons (ps_expr (pe_bm PySem.F.plainAttrs_list PySem.F.slot_list_append PySem.F.type_list_append mt_append (pv 4) (pa_cons pe_non pa_nil)))
      (pss_cons (ps_if (PW.pt (pw_or (pt_cmpR op_ne (pe_callB call_len_seq (by rfl) T.b_len PySem.boot_len (pa_cons (pe_c (c_ringless T) (hr.mono (by decide)) (by rfl) (pa_cons (pv 1) (pa_cons (pv 2) pa_nil))) pa_nil)) (pv 3) (nomark _))
          (pw_or1 (pt_cmpR op_gt (pe_op op_mul pe_int (pv 3)) (pe_callB (call_max2 rfl) (by rfl) T.b_max (by decide +kernel) (pa_cons pe_int (pa_cons (pe_op op_sub (pv 1) pe_int) pa_nil))) (nomark _))))) (pss_one (ps_ret pe_bl)) pss_nil)
      (pss_cons (ps_set (i := 6) nd rfl (.inl rfl) (pe_c (c_law_threes T) (hr.mono (by decide)) (by rfl) (pa_cons (pv 0) (pa_cons (pv 1) (pa_cons pe_int pa_nil)))))
      (pss_cons (ps_set (i := 7) nd rfl (.inl rfl) (pe_c (c_ringless_number T) (hr.mono (by decide)) (by rfl) (pa_cons (pv 1) (pa_cons (pe_op op_cat (pv 6) (pv 2)) pa_nil))))
      (pss_cons (ps_if (PW.pt (pw_or (pt_not (pt_chain op_le op_le (pv 3) (pv 7) (pe_op op_add (pv 3) (pe_callB call_len_seq (by rfl) T.b_len PySem.boot_len (pa_cons (pv 6) pa_nil)))))
          (pw_or (pt_cmpR op_ne (pe_c (c_ringless_number T) (hr.mono (by decide)) (by rfl) (pa_cons (pv 1) (pa_cons (pe_revL (pv 2)) pa_nil))) (pv 3) (nomark _))
          (pw_or1 (pt_cmpR (op_neE hr.units0) (pe_c (c_ringless T) (hr.mono (by decide)) (by rfl) (pa_cons (pv 1) (pa_cons (pe_lst pa_nil) pa_nil))) (pe_lst pa_nil) (nomark _)))))) (pss_one (ps_ret pe_bl)) pss_nil)
      (pss_one (ps_ret (pe_and (pe_cmpR op_eq (pe_c (c_ringless_number T) (hr.mono (by decide)) (by rfl) (pa_cons (pv 1) (pa_cons (pe_callTy call_tuple_of (by rfl) T.b_tuple (by decide +kernel) (pa_cons (pv 2) pa_nil)) pa_nil))) (pv 3) (nomark _))
          (pe_one (pe_cmpR op_eq (pe_callB call_len_seq (by rfl) T.b_len PySem.boot_len (pa_cons (pe_c (c_ringless T) (hr.mono (by decide)) (by rfl) (pa_cons (pv 1) (pa_cons (pe_callTy call_tuple_of (by rfl) T.b_tuple (by decide +kernel) (pa_cons (pv 2) pa_nil)) pa_nil))) pa_nil)) (pv 3) (nomark _)))))))))))))))))), ?_⟩
    have hpn : H p ≠ none := fun z => by
      obtain ⟨_, _, e, _⟩ := hp
      rw [z] at e
      cases e
    refine ⟨_, rfl, (by show 11 ≤ sizeLine; decide), fun a na => ?_⟩
    have sa := sameU (o := .lst ([0, 1, 2, 3, 4, 5, 6, 7, 8, 7, 5].map fun (i : Nat) => V.int (i : Int))) na
    have hap : a ≠ p := fun z => hpn (by rw [← z]; exact na)
    refine ⟨p, a, [0, 1, 2, 3, 4, 5, 6, 7, 8, 7, 5], rfl, (by obtain ⟨x, y, e, h⟩ := hp; exact ⟨x, y, sa _ _ e, h⟩), hap, upd_same, by decide, by decide, fun H1 n b1 p1 hn0 => ?_⟩
    have hn : n ≤ 8 := by
      have : ∀ x ∈ [0, 1, 2, 3, 4, 5, 6, 7, 8, 7, 5], x ≤ 8 := by decide
      exact this n hn0
    refine ⟨_, rfl, _, rfl, _, rfl, p, 2, rfl, p1, by decide, by decide, fun H2 d2 b2 p2 _ => ⟨rfl, _, rfl, ite_tC 6 3 fun most hmost => ?_⟩⟩
    have pot_live : ∀ G : Hp, Pot G p → Lives [p] G := fun G ⟨_, _, e, _⟩ x hx z => by
      rw [List.mem_singleton] at hx
      rw [hx, e] at z
      cases z
    refine ⟨[p], p, n, most, rfl, pot_live _ p2, List.mem_singleton.mpr rfl, p2, hn, by omega, fun H3 D acc ts b3 p3 nD eD pa hl0 hg => ?_⟩
    have hDp : D ≠ p := fun z => by
      obtain ⟨_, _, e, _⟩ := p2
      rw [← z, nD] at e
      cases e
    have hl : ts.length ≤ 6 := by omega
    have hts : dList dThree (hid [p] H3) (.ref D) ts := ⟨D, acc, rfl, hid_some.mpr ⟨fun z => hDp (List.mem_singleton.mp z), eD⟩, paired_mono (fun _ _ => mThree.up hid_tail) pa⟩
    clear pa
    refine ⟨_, rfl, _, rfl, [p], n, .ref D, ts, rfl, pot_live _ p3, hn, hts, hg, by omega, fun H4 z s4 hz => ?_⟩
    obtain ⟨b, us, rfl, hb, pb⟩ := hz
    have p4 : Pot H4 p := by
      obtain ⟨x, y, e, h⟩ := p3
      exact ⟨x, y, s4 _ _ e, h⟩
    have ll : ((Mth.lawLots ts.length).filter (Mth.jn n ts)).length ≤ 64 := by
      refine Nat.le_trans (List.length_filter_le _ _) ?_
      rw [Mth.lawLots_len]
      exact Nat.le_trans (Nat.pow_le_pow_right (by decide) hl) (by decide)
    refine ⟨b, rfl, ⟨_, SqL.of (hid_at hb)⟩, fun D4 nD4 => lc_map (X := [p]) (R := dList dNat) (S := dNat) (f := List.length) mNat (mList mNat) (pot_live _ p4) nD4 hb pb (Nat.le_of_lt (small1000 (by omega))) (fun i v d H5 Qe hv hd s5 l5 hv2 kk => ?_) fun H5 s5 h5 => ?_⟩
    · obtain ⟨c, ws, rfl, hc, pc⟩ := hv2
      exact ⟨rfl, _, rfl, c, ws, rfl, .inl (SqL.of (hid_at hc)), kk _ H5 (Same.refl _) (congrArg (fun k : Nat => V.int (k : Int)) (paired_len pc))⟩
    obtain ⟨c, ws, ec, hc, pc⟩ := h5
    cases ec
    have eu := paired_nat pc
    subst eu
    refine ⟨D4, (Mth.lawLens n ts).map (fun (i : Nat) => (i : Int)), rfl, SqL.of (by rw [List.map_map]; exact hid_at hc), by rw [List.length_map]; exact Mth.lawLens_ne n ts, fun m hm hmax => ?_⟩
    obtain ⟨due, hdue, rfl⟩ := List.mem_map.mp hm
    have mx : Mth.IsMax n ts due := Mth.law_max hg hdue fun y hy => by
      have := hmax (y : Int) (List.mem_map.mpr ⟨y, hy, rfl⟩)
      omega
    have s35 := s4.trans s5
    have p5 : Pot H5 p := by
      obtain ⟨x, y, e, h⟩ := p3
      exact ⟨x, y, s35 _ _ e, h⟩
    have hts5 := (mList mThree).up s35.hid hts
    clear hc pc hb pb hdue hmax hm hts
    refine ⟨_, rfl, p, 2, rfl, p5, by decide, by decide, fun H6 d6 b6 p6 _ => ⟨rfl, _, rfl, ite_both (fun v G => ∃ t lot k, v = .ref t ∧ Same H6 G ∧ H6 t = none ∧ G t = some (.lst (lot.map fun (i : Nat) => V.int (i : Int))) ∧ LastLot n ts k lot) (fun Q' kk => ?_) (fun Q' kk => ?_) ?_⟩⟩
    · have hts6 := (mList mThree).up (b6.hid (List.mem_singleton.mpr rfl)) hts5
      refine ⟨_, rfl, _, rfl, [p], n, .ref D, ts, rfl, pot_live _ p6, hn, .inl hts6, hg, by omega, fun G u k lot s ht ll => kk u G ?_⟩
      obtain ⟨t, us, e, n0, h1, pt⟩ := ht
      rw [paired_nat pt] at h1
      exact ⟨t, lot, k, e, s, n0, hid_at h1, ll⟩
    · have hts6 := (mList mThree).up (b6.hid (List.mem_singleton.mpr rfl)) hts5
      obtain ⟨D', acc', e', hD', pa'⟩ := hts6
      cases e'
      refine ⟨_, rfl, D, acc', rfl, .inl (SqL.of (hid_at hD')), fun l nl => ?_⟩
      have ul := sameU (o := .lst acc') nl
      have lx7 := (pot_live _ p6).same ul
      refine ⟨_, rfl, [p], n, .ref l, ts, rfl, lx7, hn, .inl ⟨l, acc', rfl, hid_put ((pot_live _ p6).out nl), paired_mono (fun _ _ => mThree.up ul.hid) pa'⟩, hg, by omega, fun G u k lot s ht ll => kk u G ?_⟩
      obtain ⟨t, us, e, n0, h1, pt⟩ := ht
      rw [paired_nat pt] at h1
      refine ⟨t, lot, k, e, ul.trans s, ?_, hid_at h1, ll⟩
      cases e7 : H6 t with
      | none => rfl
      | some o =>
        rw [ul _ _ e7] at n0
        cases n0
    rintro v H7 ⟨t, lot, k, rfl, s7, nt, et, hlot⟩
    have hts6 := (mList mThree).up (b6.hid (List.mem_singleton.mpr rfl)) hts5
    have htt7 : dList dThree (hid [t, p] H7) (.ref D) ts := (mList mThree).up ((hid_new nt).trans s7.hid) hts6
    have hts7 := (mList mThree).up s7.hid hts6
    have htp : t ≠ p := fun z => by
      obtain ⟨_, _, e, _⟩ := p6
      rw [← z, nt] at e
      cases e
    have p7 : Pot H7 p := by
      obtain ⟨x, y, e, h⟩ := p6
      exact ⟨x, y, s7 _ _ e, h⟩
    have few := mx.few hg
    have hlotl : lot.length = due := (hlot.max hg).uniq mx
    have hris := ((Mth.lv_rl hg k lot).mp hlot.1).1
    have hrl := ((Mth.lv_rl hg k lot).mp hlot.1).2.2
    clear hts5 hts6 b6 p5 p6 s35 b1 b2 b3 p1 p2 p3 p4 s4 s5 eD
    -- the two numbers, as text
    refine ⟨_, rfl, _, rfl, [p], n, .ref D, ts, rfl, pot_live _ p7, hn, .inl hts7, hg, by omega, fun H8 e8 s8 m8 => ?_⟩
    obtain ⟨D8, acc8, e, hD8, pa8⟩ := (mList mThree).up s8.hid hts7
    cases e
    refine ⟨_, rfl, D, acc8, rfl, .inl (SqL.of (hid_at hD8)), fun l nl => ?_⟩
    have ul := sameU (o := .lst acc8) nl
    have lx8 := (pot_live _ p7).same s8
    refine ⟨_, rfl, [p], n, .ref l, ts, rfl, lx8.same ul, hn, .inl ⟨l, acc8, rfl, hid_put (lx8.out nl), paired_mono (fun _ _ => mThree.up ul.hid) pa8⟩, hg, by omega, fun H9 e9 s9 m9 => ?_⟩
    obtain rfl := m8.uniq mx
    obtain rfl := m9.uniq m8
    refine ⟨(by show 2 ≤ sizeLine; decide), fun a1 n1 => ⟨a1, _, _, rfl, SqL.of upd_same, by omega, by omega, _, rfl, _, rfl, (by show 2 ≤ sizeLine; decide), fun a2 n2 => ⟨a2, _, _, rfl, SqL.of upd_same, by omega, by omega, rfl, _, rfl, ne_same rfl ?_⟩⟩⟩
    have s10 := (((s8.trans ul).trans s9).trans (sameU (o := .lst [.int (e9 : Int), .int (e9 : Int)]) n1)).trans (sameU (o := .lst [.int (e9 : Int), .int (e9 : Int)]) n2)
    generalize upd (upd H9 a1 (.lst [.int (e9 : Int), .int (e9 : Int)])) a2 (.lst [.int (e9 : Int), .int (e9 : Int)]) = H10 at s10 ⊢
    clear s8 ul s9 n1 n2 hD8 pa8 lx8 nl m8 m9
    -- the kind of the answer
    have lx10 := (pot_live _ p7).same s10
    have et10 := s10 _ _ et
    obtain ⟨D10, acc10, e, hD10, pa10⟩ := (mList mThree).up s10.hid hts7
    cases e
    refine ⟨_, rfl, .ref t, .ty "list", _, _, true, rfl, .ty _, .base (.lst et10), kLL, true, rfl, iteF ⟨_, rfl, t, _, rfl, .inl (SqL.of et10), _, rfl, rfl, _, rfl, ne_same (by rw [List.length_map, hlotl]) ?_⟩⟩
    refine ⟨_, rfl, _, rfl, t, lot.map fun (i : Nat) => (i : Int), rfl, SqL.of (by rw [List.map_map]; exact et10), by rw [List.length_map]; omega, fun ns a3 hperm hsrt n3 => ?_⟩
    have u3 := sameU (o := .lst (ns.map V.int)) n3
    refine ⟨dNats lot, dNats lot, .lst (SqL.of (u3 _ _ et10)) (dp_nats lot), .lst (SqL.of upd_same) (by rw [sorted_nats hris hperm hsrt]; exact dp_nats lot), shaped_nats _, shaped_nats _, _, rfl, ?_⟩
    rw [eqv_nats]
    refine iteF ⟨_, rfl, t, rfl, ⟨_, SqL.of (u3 _ _ et10)⟩, fun D5 nD5 => lc_map (X := [p]) (R := dNat) (S := dBool) (f := fun _ => false) mBool mNat (lx10.same u3) nD5 (hid_some.mpr ⟨fun z => htp (List.mem_singleton.mp z), u3 _ _ et10⟩) (paired_of_nat lot) (Nat.le_of_lt (small1000 (by omega))) (fun i v d H5 Qe hv hd s5 l5 hv2 kk => ?_) fun H11 s11 h11 => ?_⟩
    · have e : v = .int (d : Int) := hv2
      subst e
      have dn : d < ts.length := hris.2 d (List.mem_of_getElem? hd)
      refine ⟨rfl, _, rfl, _, rfl, D, acc10, rfl, .inl (SqL.of (s5 _ _ (u3 _ _ (hid_at hD10)))), _, rfl, fun a6 n6 => ⟨(d : Int), a6, 0, _, rfl, rfl, upd_same, kk _ _ (sameU n6) ?_⟩⟩
      refine congrArg V.bl ?_
      rw [paired_len pa10, decide_eq_true (by omega)]
      rfl
    obtain ⟨c, us, e, hc, pc⟩ := h11
    cases e
    refine ⟨D5, lot.map fun _ => false, rfl, SqL.of (by rw [← paired_bool pc]; exact hid_at hc), _, rfl, ?_⟩
    rw [show (lot.map fun _ => false).any id = false by rw [List.any_map, List.any_eq_false]; exact fun _ _ => Bool.false_ne_true]
    refine iteF ?_
    have s12 := (s10.trans u3).trans s11
    clear hc pc s11 n3 u3 s10 et10 hD10 pa10 lx10 nD5
    -- the chosen threes
    have lx11 := (pot_live _ p7).same s12
    have et11 := s12 _ _ et
    obtain ⟨D11, acc11, e, hD11, pa11⟩ := (mList mThree).up s12.hid hts7
    cases e
    have hgs : ∀ x ∈ Mth.sel ts lot, Mth.Good n x := Mth.sel_good hg hris.2
    refine ⟨_, rfl, t, rfl, ⟨_, SqL.of et11⟩, fun D6 nD6 => lc_map (X := [p]) (R := dNat) (S := dThree) (f := fun i => ts.getD i (0, 0, 0)) mThree mNat lx11 nD6 (hid_some.mpr ⟨fun z => htp (List.mem_singleton.mp z), et11⟩) (paired_of_nat lot) (Nat.le_of_lt (small1000 (by omega))) (fun i v d H5 Qe hv hd s5 l5 hv2 kk => ?_) fun H12 s12' h12 => ?_⟩
    · have e : v = .int (d : Int) := hv2
      subst e
      have dn : d < ts.length := hris.2 d (List.mem_of_getElem? hd)
      obtain ⟨tv, htv, hth⟩ := paired_to pa11 (List.getElem?_eq_getElem dn)
      refine ⟨rfl, _, rfl, _, rfl, D, acc11, d, tv, rfl, rfl, SqL.of (s5 _ _ (hid_at hD11)), atI_nat htv, kk _ H5 (Same.refl _) ?_⟩
      have e2 : ts.getD d (0, 0, 0) = ts[d] := by
        rw [List.getD_eq_getElem?_getD, List.getElem?_eq_getElem dn]
        rfl
      show dThree _ tv (ts.getD d (0, 0, 0))
      rw [e2]
      exact mThree.up ((hid_new nD6).trans s5.hid) hth
    have h12 : dList dThree (hid [p] H12) (.ref D6) (Mth.sel ts lot) := h12
    have hlens : (Mth.sel ts lot).length ≤ 8 := by
      rw [Mth.sel_length]
      omega
    have lx12 := lx11.same s12'
    refine ⟨_, rfl, _, rfl, [p], n, .ref D6, Mth.sel ts lot, rfl, lx12, hn, h12, hgs, fun H13 z s13 hz => ⟨rfl, _, rfl, ?_⟩⟩
    have hj : Mth.jn n ts lot = true := (Mth.jn_iff hg hris.2).mpr ((Mth.rl_iff hg hris.2).mp hrl)
    have hz0 : decide (z = V.non) = false := by
      unfold Mth.jn at hj
      cases e : Mth.putAll Mth.chM (List.range n) (Mth.sel ts lot) with
      | none =>
        rw [e] at hj
        cases hj
      | some p' =>
        rw [e] at hz
        obtain ⟨c, us, rfl, _⟩ := (show dList dNat (hid [p] H13) z p' from hz)
        rfl
    rw [hz0]
    refine iteF ⟨_, rfl, _, rfl, [p], n, .ref D6, Mth.sel ts lot, rfl, lx12.same s13, hn, .inl ((mList mThree).up s13.hid h12), hlens, hgs, fun H14 s14 => ⟨_, rfl, ?_⟩⟩
    have hr0 : (Mth.putAll Mth.chF (List.range n) (Mth.sel ts lot)).isNone = false := by
      unfold Mth.rl at hrl
      cases e : Mth.putAll Mth.chF (List.range n) (Mth.sel ts lot) with
      | none =>
        rw [e] at hrl
        cases hrl
      | some p' => rfl
    rw [hr0]
    have s714 := ((s12.trans s12').trans s13).trans s14
    refine iteF ⟨_, rfl, _, rfl, [p], n, .ref D, ts, rfl, (pot_live _ p7).same s714, hn, .inl ((mList mThree).up s714.hid hts7), by omega, hg, fun H15 u s15 hu => ⟨[p], n, u, ts, rfl, (pot_live _ p7).same (s714.trans s15), hn, hu, hg, by omega, fun H16 e16 s16 m16 => ⟨_, rfl, rfl, _, rfl, ne_same (by rw [m16.uniq mx]) ?_⟩⟩⟩
    have s716 := (s714.trans s15).trans s16
    clear s714 s15 s16 hu s14 s13 hz s12 s12' lx11 lx12 h12 hD11 pa11 et11 nD6 m16 hts7
    have et16 := s716 _ _ et
    refine ⟨_, rfl, .inl ⟨rfl, _, SqL.of et16⟩, t, _, .non, rfl, rfl, et16, by rw [List.length_map]; exact small1000 (by omega), ?_⟩
    have ht17 : dList dThree (hid [t, p] (upd H16 t (.lst ((lot.map fun (i : Nat) => V.int (i : Int)) ++ [.non])))) (.ref D) ts := (mList mThree).up (s716.hid.trans (hid_upd List.mem_cons_self)) htt7
    have p17 : Pot (upd H16 t (.lst ((lot.map fun (i : Nat) => V.int (i : Int)) ++ [.non]))) p := by
      obtain ⟨x, y, e, h⟩ := p7
      exact ⟨x, y, by rw [upd_ne (Ne.symm htp)]; exact s716 _ _ e, h⟩
    have lx17 : Lives [t, p] (upd H16 t (.lst ((lot.map fun (i : Nat) => V.int (i : Int)) ++ [.non]))) := (pot_live _ p17).cons upd_same
    generalize upd H16 t (.lst ((lot.map fun (i : Nat) => V.int (i : Int)) ++ [.non])) = H17 at ht17 p17 lx17 ⊢
    clear s716 et16 htt7 p7 et
    -- the answer changed: nothing else changes
    refine ⟨_, rfl, _, rfl, [t, p], n, .ref D, ts, rfl, lx17, hn, .inl ht17, hg, by omega, fun H18 u k2 lot2 s18 hu2 ll2 => ?_⟩
    obtain ⟨t2, us2, rfl, n2, h2, pt2⟩ := hu2
    have e2l : lot2.length = e9 := (ll2.max hg).uniq mx
    refine ⟨t2, _, rfl, .inl (SqL.of (hid_at h2)), _, rfl, rfl, _, rfl, ne_same (by rw [paired_len pt2, e2l]) ?_⟩
    have hfew : decide ((if (n : Int) - 1 > 0 then (n : Int) - 1 else 0) < 2 * (e9 : Int)) = false := by
      refine decide_eq_false ?_
      split <;> omega
    refine ⟨_, rfl, _, _, rfl, rfl, .inl ⟨by decide, by decide⟩, _, rfl, _, _, rfl, rfl, _, _, rfl, _, _, rfl, rfl, _, rfl, ?_⟩
    rw [hfew]
    have ht18 := (mList mThree).up s18.hid ht17
    have p18 : Pot H18 p := by
      obtain ⟨x, y, e, h⟩ := p17
      exact ⟨x, y, s18 _ _ e, h⟩
    have lx18 := lx17.same s18
    have hpX : p ∈ [t, p] := List.mem_cons_of_mem _ (List.mem_singleton.mpr rfl)
    clear ht17 p17 lx17 s18 h2 pt2 n2 ll2
    -- one three more
    refine iteF ⟨_, rfl, _, rfl, [t, p], p, n, 1, rfl, lx18, hpX, p18, hn, by decide, fun H19 D2 acc2 us b19 p19 nD2 eD2 pa2 hl2 hg2' => ?_⟩
    have ht19 := (mList mThree).up (b19.hid hpX) ht18
    have lx19 : Lives [t, p] H19 := b19.lives lx18 (fun z => by
      obtain ⟨_, _, e, _⟩ := p19
      rw [z] at e
      cases e)
    obtain ⟨D', acc', e, hD19, pa19⟩ := ht19
    cases e
    have pm : Paired (dThree (hid [t, p] H19)) acc2 us := paired_mono (fun _ _ => mThree.up hid_tail) pa2
    have l2 := paired_len pm
    have l1 := paired_len pa19
    refine ⟨_, rfl, _, rfl, _, rfl, D2, D, acc2, acc', rfl, rfl, eD2, hid_at hD19, Nat.le_of_lt (small1000 (by omega)), fun p3 n3 => ?_⟩
    have u3 := sameU (o := .lst (acc2 ++ acc')) n3
    refine ⟨[t, p], n, .ref p3, us ++ ts, rfl, lx19.same u3, hn, .inl ⟨p3, _, rfl, hid_put (lx19.out n3), paired_app (paired_mono (fun _ _ => mThree.up u3.hid) pm) (paired_mono (fun _ _ => mThree.up u3.hid) pa19)⟩, ?_, by rw [List.length_append]; omega, fun H20 e20 s20 m20 => ?_⟩
    · intro x hx
      rcases List.mem_append.mp hx with hx | hx
      · exact hg2' x hx
      · exact hg x hx
    have s1920 := u3.trans s20
    have hmore := mx.more m20
    have lx20 := lx19.same s1920
    have eD20 := s1920 _ _ eD2
    have hD20 := s1920.hid _ _ hD19
    have pa20 : Paired (dThree (hid [t, p] H20)) acc' ts := paired_mono (fun _ _ => mThree.up s1920.hid) pa19
    have c1 : decide ((e9 : Int) ≤ (e20 : Int)) = true := decide_eq_true (by omega)
    have c2 : decide ((e20 : Int) ≤ (e9 : Int) + (acc2.length : Int)) = true := decide_eq_true (by omega)
    refine ⟨_, rfl, _, rfl, _, _, rfl, rfl, _, rfl, ?_⟩
    rw [c1]
    refine iteT ⟨_, rfl, _, rfl, D2, _, rfl, .inl (SqL.of eD20), _, _, rfl, rfl, _, _, rfl, rfl, _, rfl, ?_⟩
    rw [c2]
    clear s20 u3 s1920 n3 eD2 hD19 pa19 lx19 pm pa2 ht18 lx18 p18 b19 nD2
    refine iteF ⟨_, rfl, _, rfl, D, acc', rfl, SqL.of (hid_at hD20), fun p4 n4 => ?_⟩
    have u4 := sameU (o := .lst acc'.reverse) n4
    refine ⟨[t, p], n, .ref p4, ts.reverse, rfl, lx20.same u4, hn, .inl ⟨p4, _, rfl, hid_put (lx20.out n4), paired_rev (paired_mono (fun _ _ => mThree.up u4.hid) pa20)⟩, fun x hx => hg x (List.mem_reverse.mp hx), by rw [List.length_reverse]; omega, fun H21 e21 s21 m21 => ⟨_, rfl, rfl, _, rfl, ne_same (by rw [m21.uniq mx.rev]) ?_⟩⟩
    have s2021 := u4.trans s21
    have lx21 := lx20.same s2021
    refine ⟨_, rfl, Nat.zero_le _, fun p5 n5 => ?_⟩
    have u5 := sameU (o := .lst []) n5
    refine ⟨[t, p], n, .ref p5, [], rfl, lx21.same u5, hn, .inl ⟨p5, [], rfl, hid_put (lx21.out n5), .nil⟩, fun x hx => by (cases hx), Nat.zero_le _, fun H22 u k3 lot3 s22 hu3 ll3 => ?_⟩
    obtain ⟨t3, us3, rfl, n3, h3, pt3⟩ := hu3
    have e3 : lot3 = [] := by
      have hr3 := (Mth.lv_elems k3 lot3 ll3.1).1
      cases lot3 with
      | nil => rfl
      | cons x l => exact absurd (hr3 x List.mem_cons_self) (Nat.not_lt_zero x)
    subst e3
    cases pt3
    have s2022 := (s2021.trans u5).trans s22
    refine ⟨Nat.zero_le _, fun p6 n6 => ⟨t3, p6, [], rfl, rfl, SqL.of (sameU n6 _ _ (hid_at h3)), SqL.of upd_same, _, rfl, iteF ?_⟩⟩
    have s2023 := s2022.trans (sameU (o := .lst []) n6)
    generalize upd H22 p6 (.lst []) = H23 at s2023 ⊢
    clear s2021 s2022 u5 s22 n5 n6 h3 s21 u4 n4 lx21
    -- a tuple asks the same
    have lx23 := lx20.same s2023
    have hD23 := s2023.hid _ _ hD20
    have pa23 : Paired (dThree (hid [t, p] H23)) acc' ts := paired_mono (fun _ _ => mThree.up s2023.hid) pa20
    refine ⟨_, rfl, _, rfl, D, acc', rfl, .inl ⟨SqL.of (hid_at hD23), fun p7 n7 => ?_⟩⟩
    have u7 := sameU (o := .tup acc') n7
    refine ⟨[t, p], n, .ref p7, ts, rfl, lx23.same u7, hn, .inr ⟨p7, acc', rfl, hid_put (lx23.out n7), paired_mono (fun _ _ => mThree.up u7.hid) pa23⟩, hg, by omega, fun H24 e24 s24 m24 => ⟨_, rfl, rfl, _, rfl, eq_same (by rw [m24.uniq mx]) ?_⟩⟩
    have s2324 := u7.trans s24
    have lx24 := lx23.same s2324
    have hD24 := s2324.hid _ _ hD23
    have pa24 : Paired (dThree (hid [t, p] H24)) acc' ts := paired_mono (fun _ _ => mThree.up s2324.hid) pa23
    refine ⟨_, rfl, _, rfl, D, acc', rfl, .inl ⟨SqL.of (hid_at hD24), fun p8 n8 => ?_⟩⟩
    have u8 := sameU (o := .tup acc') n8
    refine ⟨[t, p], n, .ref p8, ts, rfl, lx24.same u8, hn, .inr ⟨p8, acc', rfl, hid_put (lx24.out n8), paired_mono (fun _ _ => mThree.up u8.hid) pa24⟩, hg, by omega, fun H25 u k4 lot4 s25 hu4 ll4 => ?_⟩
    obtain ⟨t4, us4, rfl, n4, h4, pt4⟩ := hu4
    refine ⟨t4, _, rfl, .inl (SqL.of (hid_at h4)), _, rfl, rfl, dT (by rw [paired_len pt4, (ll4.max hg).uniq mx]) (q _)⟩
end
end Tx
set_option Elab.async false
set_option linter.all false
set_option maxRecDepth 100000
set_option maxHeartbeats 4000000
namespace Tx
open PySem PySem.Spec PyProof.Rows L2
section
variable {P : Program} {w : World} {K : PySem.W.Frag} {mg : Str → Option Value} {base : Heap}
theorem sc_law : FnScope ["_law_script"] ["_law_script"] (defScope s_law) := ⟨rfl, rfl, rfl, by decide +kernel, rfl, by decide +kernel, by decide +kernel⟩
def sp_law (K : PySem.W.Frag) : Sp := fun vs H Q _ => ∃ (a : Addr) (ns : List Int), vs = [.ref a] ∧ SqL K H a (ns.map V.int) ∧ ∀ H', Q (.bl true) H'
theorem ua_law (T : Tt K mg) {f : Addr} {fd : FuncData} (F : FnP K d_law f fd) : Ua P w K mg base 12 f fd ["_law_script"] (sp_law K) := by
  refine uaD F sc_law (fun vs H Q E h => ?_) fun cdv A outer s H vs Q E hgd hr h => ?_
  · obtain ⟨a, ns, rfl, _⟩ := h
    rfl
  · obtain ⟨a, ns, rfl, ha, q⟩ := h
    refine ⟨_, pss_one (ps_ret (pe_u (c_law_right T) hgd hr (by rfl) (pa_cons (pe_c (c_law_pot T) (hr.mono (by decide)) (by rfl) (pa_cons (pv 0) (pa_cons pe_int pa_nil))) pa_nil))), ?_⟩
    exact ⟨_, rfl, a, ns, rfl, ha, fun H1 p s1 np hp => ⟨p, rfl, hp, fun H2 => q H2⟩⟩
/-- the law's def called on the script, at the heap behind the top -/
theorem script_call {mb : Str → Option Value} {k : Nat} {fa a : Addr} {fd : FuncData} {x : Str} {sp : Sp} {t : Shared} {us : List Value} {is : List Int}
    (KI : K.In t.heap) (nm : t.heap.Ns mainGlobals mg) (nb : t.heap.Ns builtinsNs mb) (bb : ∀ y : Str, y ≠ "__name__" → mb y = bootBuiltins y) (lim : t.heap.NoLimit) (ge : t.gens = #[])
    (ea : t.heap.get? a = some { cls := .type "list", data := .seq us.toArray }) (ui : IntsAre us is) (il : is.length ≤ sizeLine) (rm : Room k callerA)
    (U : ∀ b : Heap, K.In b → b.Ns mainGlobals mg → Ua P w K mg b k fa fd [x] sp) (bnd : ∀ (s : Shared) (u : Value), BindsTo s fd ⟨[u], []⟩ [(x, u)])
    (pr : ∀ G : Hp, SqL K G a (is.map V.int) → sp [.ref a] G (fun v _ => v = .bl true) fun _ _ _ => False) :
    codeAny (model P w) callerA (.call (.ref fa) ⟨[.ref a], []⟩) (fun r z => r = .ok (.ret (.bool true)) ∧ OldK t.heap z.heap ∧ z.os = t.os ∧ AllBare z.gens) t := by
  have uv := vals_ints ui
  have ul := ui.length
  have main : ∀ G : Hp, (∀ b, G b = none ∨ (b = a ∧ ∃ o xs, G b = some (.frz o (.lst xs)))) → SqL K G a (is.map V.int) → HOk P w G t.heap → (G a ≠ none → K.lookup a = none) →
      codeAny (model P w) callerA (.call (.ref fa) ⟨[.ref a], []⟩) (fun r z => r = .ok (.ret (.bool true)) ∧ OldK t.heap z.heap ∧ z.os = t.os ∧ AllBare z.gens) t := by
    intro G gO gS gok gK
    have away : ∀ {b : Addr} {o : Obj} {es : Array DictEntry} {ep : Nat}, t.heap.get? b = some o → o.data = .dict es ep → G b = none := fun {b o es ep} e d => by
      rcases gO b with z | ⟨eb, _⟩
      · exact z
      · rw [eb, ea] at e
        cases e
        cases (show Data.seq us.toArray _ = Data.dict es ep from d)
    have nss : ∀ {b : Addr} {m : Str → Option Value}, t.heap.Ns b m → (hidT t.heap G).Ns b m := fun {b m} ⟨o, es, ep, e, d, r⟩ => ⟨o, es, ep, hidT_get e (away e d), d, r⟩
    have KH : K.In (hidT t.heap G) := fun b o e => hidT_get (KI b o e) (by
      rcases gO b with z | ⟨eb, oo, xs, z⟩
      · exact z
      · have := gK (by rw [← eb, z]; exact fun y => by cases y)
        rw [eb, this] at e
        cases e)
    have md : Mod K mg (hidT t.heap G) := ⟨KH, nss nm, ⟨mb, nss nb, bb⟩, let ⟨mc, y1, y2⟩ := lim; ⟨mc, nss y1, y2⟩⟩
    have en : Env0 P w K mg (hidT t.heap G) callerA [] t G := ⟨rfl, md, fun b o e => of_hidT e, Nat.le_of_eq (hidT_size _ _), trivial, fun b hb => (List.not_mem_nil hb).elim, gok, .of_eq ge⟩
    refine codeAny_mono ((U _ KH (nss nm)).run callerA [] t G ⟨[.ref a], []⟩ [.ref a] [.ref a] _ _ rfl rm en (bnd t (.ref a)) (.cons rfl .nil) (pr G gS)) fun r z hz => ?_
    cases r with
    | error e => exact hz.elim
    | ok fl =>
      cases fl with
      | next => exact hz.elim
      | brk => exact hz.elim
      | cont => exact hz.elim
      | ret u =>
        obtain ⟨v, G', eo, br, un, gok', rv, ev⟩ := hz
        have ev : v = .bl true := ev
        subst ev
        have eu : u = Value.bool true := rv
        subst eu
        refine And.intro rfl (And.intro (OldK.of_keep fun b o e => ?_) (And.intro eo br))
        rcases gO b with y | ⟨eb, ob, xs, y⟩
        · exact un.keep b o e y (by intro c; exact (List.not_mem_nil (show b ∈ ([] : List Addr) from c)).elim) (by simp)
        · have f1 := (gok b _ y).1
          have f2 := (gok' b _ (un.frzs b ob _ y)).1
          rw [e] at f1
          cases f1
          exact f2
  cases ek : K.lookup a with
  | some o =>
    have e := KI a o ek
    rw [ea] at e
    cases e
    refine main (fun _ => none) (fun _ => Or.inl rfl) (Or.inr ⟨_, us.toArray, _, ek, rfl, rfl, rfl, by rw [List.size_toArray, ul]; exact il, by simpa using uv⟩) (fun b u z => ?_) fun z => absurd rfl z
    cases (show (none : Option HO) = some u from z)
  | none =>
    have at_a : ∀ (b : Addr) (u : HO), (if b = a then some (HO.frz { cls := .type "list", data := .seq us.toArray } (.lst (is.map V.int))) else none) = some u → b = a ∧ u = HO.frz { cls := .type "list", data := .seq us.toArray } (.lst (is.map V.int)) := fun b u z => by
      by_cases eb : b = a
      · rw [if_pos eb] at z
        exact ⟨eb, (Option.some.inj z).symm⟩
      · rw [if_neg eb] at z
        cases z
    refine main (fun b => if b = a then some (HO.frz { cls := .type "list", data := .seq us.toArray } (.lst (is.map V.int))) else none) (fun b => ?_) (Or.inl (Or.inr ⟨{ cls := .type "list", data := .seq us.toArray }, if_pos rfl⟩)) (fun b u z => ?_) fun _ => ek
    · by_cases eb : b = a
      · exact Or.inr ⟨eb, _, _, if_pos eb⟩
      · exact Or.inl (if_neg eb)
    · obtain ⟨eb, eu⟩ := at_a b u z
      subst eb
      subst eu
      exact ⟨ea, by rw [List.length_map]; exact il, us, _, uv, ea⟩
end
end Tx
set_option Elab.async false
set_option linter.all false
set_option maxRecDepth 100000
set_option maxHeartbeats 0
open PySem PySem.W PySem.Calls PyProof.Rows
theorem PySem.Challenge.cw_pairsfree_k82_whole_greatest_ringless_lo_holds : PySem.Challenge.rw_pairsfree_k82_whole_greatest_ringless_lo.Holds := by
  w_on; o_law
  refine HandSHeadRun.head_imp (r := Tx.R) (q := view Tx.R.prog [0, 73]) (H := Tx.hk) (ob := Tx.ob) (M := 6000) (loose := Tx.loose) (d := HandSHeadRun.topDef Tx.R.prog 73) (kwd := []) Tx.ob_eq
    Tx.run (by kernel_rfl) (by kernel_rfl) (by kernel_rfl) (by rfl) (by first | assumption | decide +kernel) (by decide +kernel) ⟨rfl, rfl, rfl, rfl, rfl, by decide +kernel⟩ ?hw ?hc
  case hw => w_witness2
  case hc =>
    refine Att.attach_call (l := PySem.Challenge.rw_pairsfree_k82_whole_greatest_ringless_lo) (n := 63) rfl (by kernel_rfl) fun w s0 s1 mg mb f o pm cd doc a vs ns G Y ho hd hcd hmg hobj hints hlen hgen => ?_
    obtain ⟨K, KX, says, ex⟩ := Y
    have T : Tx.Tt K mg := ⟨says, ex, fun e => mg_of KX G.T.g e, fun e => mg_none_of KX G.T.g e⟩
    have hname : mg ("law" : PySem.Str) = some (.ref f) := by
      have e : (HandSHeadRun.topDef Tx.R.prog 73).name = ("law" : PySem.Str) := by kernel_rfl
      rw [← e]
      exact hmg
    obtain ⟨fd, F⟩ := T.e_law
    have ef := hname.symm.trans T.g_law
    cases ef
    have bnd := L2.FunD.bindsA (ps := ["_law_script"]) F fun _ _ _ _ _ _ us hl => match us, hl with | [_], _ => rfl
    exact Tx.script_call (k := 12) KX G.T.g G.T.b G.T.builtins G.T.nolimit hgen hobj hints (Nat.le_trans hlen (by show 63 ≤ sizeLine; decide)) ⟨rfl, by decide, by decide⟩
      (fun b KB NB => Tx.ua_law ⟨says, ex, fun e => mg_of KX G.T.g e, fun e => mg_none_of KX G.T.g e⟩ F) (fun s u => bnd s [u] rfl) (fun H hS => ⟨a, ns, rfl, hS, fun _ => rfl⟩)
