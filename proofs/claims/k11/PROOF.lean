import PyProof.Rows.All
import Wide.All
import OpenK.AllK
import Wide.FinOn
import KE.KOpsOwn
import KE.KUnpackStar
import HandS.ForMost
import HandS.SlotsOwn
import HandS.Star
import HandS.IsInst
import HandS.FStr
import HandS.FStrTup
import HandS.Defaults
import HandS.ClsMeth
import HandS.Walk
import PySem.Challenge.RW_hoverrest_k11_whole_ratios_in_sequence
set_option Elab.async false
set_option linter.all false
set_option maxRecDepth 100000
set_option maxHeartbeats 4000000
/-! Plain mathematics: fractions in least terms as pairs, an insertion sort by cross products. -/
namespace K11
abbrev R := Int × Int
/-- n / d in least terms, for d above nought -/
def red (n d : Int) : R := (n / (Int.gcd n d : Int), d / (Int.gcd n d : Int))
/-- least terms, bounded -/
structure Ok (N D : Nat) (r : R) : Prop where
  pos : 0 < r.2
  hd : r.2 ≤ (D : Int)
  hn : r.1.natAbs ≤ N
  co : Int.gcd r.1 r.2 = 1
theorem Ok.mono {N D N' D' : Nat} {r : R} (h : Ok N D r) (h1 : N ≤ N') (h2 : D ≤ D') : Ok N' D' r :=
  ⟨h.pos, Int.le_trans h.hd (Int.ofNat_le.mpr h2), Nat.le_trans h.hn h1, h.co⟩
theorem gcd_pos {n d : Int} (hd : 0 < d) : 0 < Int.gcd n d := Int.gcd_pos_of_ne_zero_right _ (by omega)
theorem red_mul {n d : Int} (hd : 0 < d) : n = (Int.gcd n d : Int) * (red n d).1 ∧ d = (Int.gcd n d : Int) * (red n d).2 :=
  ⟨(Int.mul_ediv_cancel' (Int.gcd_dvd_left n d)).symm, (Int.mul_ediv_cancel' (Int.gcd_dvd_right n d)).symm⟩
theorem gcd_le {n d : Int} (hd : 0 < d) : (Int.gcd n d : Int) ≤ d := Int.le_of_dvd hd (Int.gcd_dvd_right n d)
theorem red_ok {n d : Int} {N D : Nat} (hd : 0 < d) (h1 : n.natAbs ≤ N) (h2 : d ≤ (D : Int)) : Ok N D (red n d) := by
  have hg := gcd_pos (n := n) hd
  obtain ⟨e1, e2⟩ := red_mul (n := n) hd
  have hg' : (0 : Int) < (Int.gcd n d : Int) := by omega
  refine ⟨?_, ?_, ?_, ?_⟩
  · exact Int.ediv_pos_of_pos_of_dvd hd (by omega) (Int.gcd_dvd_right n d)
  · refine Int.le_trans ?_ h2
    exact Int.ediv_le_self _ (by omega)
  · refine Nat.le_trans ?_ h1
    show (n / (Int.gcd n d : Int)).natAbs ≤ n.natAbs
    rw [Int.natAbs_ediv_of_dvd (Int.gcd_dvd_left n d)]
    exact Nat.div_le_self _ _
  · show Int.gcd (n / (Int.gcd n d : Int)) (d / (Int.gcd n d : Int)) = 1
    exact Int.gcd_ediv_gcd_ediv_gcd hg
theorem red_id {r : R} (h : Int.gcd r.1 r.2 = 1) : red r.1 r.2 = r := by
  unfold red
  rw [h]
  simp
theorem Ok.red {N D : Nat} {r : R} (h : Ok N D r) : K11.red r.1 r.2 = r := red_id h.co
/-- what the cross difference of two reduced ones is -/
theorem crossK {n d m e : Int} (hd : 0 < d) (he : 0 < e) : ∃ k : Int, 0 < k ∧ n * e - m * d = k * ((red n d).1 * (red m e).2 - (red m e).1 * (red n d).2) := by
  obtain ⟨a1, a2⟩ := red_mul (n := n) hd
  obtain ⟨b1, b2⟩ := red_mul (n := m) he
  have hg : (0 : Int) < (Int.gcd n d : Int) := by have := gcd_pos (n := n) hd; omega
  have hh : (0 : Int) < (Int.gcd m e : Int) := by have := gcd_pos (n := m) he; omega
  refine ⟨(Int.gcd n d : Int) * (Int.gcd m e : Int), Int.mul_pos hg hh, ?_⟩
  generalize (Int.gcd n d : Int) = g at *
  generalize (Int.gcd m e : Int) = h at *
  generalize K11.red n d = x at *
  generalize K11.red m e = y at *
  rw [a1, a2, b1, b2]
  rw [Int.mul_sub]
  congr 1
  · ac_rfl
  · ac_rfl
theorem sign_le {k x : Int} (hk : 0 < k) : k * x ≤ 0 ↔ x ≤ 0 := by
  constructor
  · intro h
    by_cases hx : x ≤ 0
    · exact hx
    · have := Int.mul_pos hk (show 0 < x by omega)
      omega
  · intro h
    exact Int.mul_nonpos_of_nonneg_of_nonpos (Int.le_of_lt hk) h
theorem sign_lt {k x : Int} (hk : 0 < k) : 0 ≤ k * x ↔ 0 ≤ x := by
  constructor
  · intro h
    by_cases hx : 0 ≤ x
    · exact hx
    · have := Int.mul_neg_of_pos_of_neg hk (show x < 0 by omega)
      omega
  · intro h
    exact Int.mul_nonneg (Int.le_of_lt hk) h
/-- spacing -/
def spc (r s : R) : Int := r.1 * s.2 - s.1 * r.2
theorem spc_red_le {n d m e : Int} (hd : 0 < d) (he : 0 < e) (h : n * e - m * d ≤ 0) : spc (red n d) (red m e) ≤ 0 := by
  obtain ⟨k, hk, eq⟩ := crossK (n := n) (m := m) hd he
  rw [eq] at h
  exact (sign_le hk).mp h
theorem spc_red_ge {n d m e : Int} (hd : 0 < d) (he : 0 < e) (h : 0 ≤ n * e - m * d) : 0 ≤ spc (red n d) (red m e) := by
  obtain ⟨k, hk, eq⟩ := crossK (n := n) (m := m) hd he
  rw [eq] at h
  exact (sign_lt hk).mp h
def add (r s : R) : R := red (r.1 * s.2 + s.1 * r.2) (r.2 * s.2)
def sub (r s : R) : R := red (r.1 * s.2 - s.1 * r.2) (r.2 * s.2)
def mul (r s : R) : R := red (r.1 * s.1) (r.2 * s.2)
def half (r : R) : R := red r.1 (2 * r.2)
def abs' (r : R) : R := red (if r.1 < 0 then -r.1 else r.1) r.2
def ofInt (n : Int) : R := red n 1
theorem gcd_one' (n : Int) : Int.gcd n 1 = 1 := by simp
theorem ofInt_eq (n : Int) : ofInt n = (n, 1) := by
  unfold ofInt red
  rw [gcd_one']
  simp
theorem dvd_co {a b c : Int} (h : Int.gcd a b = 1) (d : a ∣ b * c) : a ∣ c := by
  have h1 : a.natAbs ∣ b.natAbs * c.natAbs := by
    rw [← Int.natAbs_mul]
    exact Int.natAbs_dvd_natAbs.mpr d
  exact Int.natAbs_dvd_natAbs.mp (Nat.Coprime.dvd_of_dvd_mul_left (show Nat.Coprime a.natAbs b.natAbs from h) h1)
/-- two in least terms with one worth are one -/
theorem eq_of_cross {N D M E : Nat} {r s : R} (hr : Ok N D r) (hs : Ok M E s) (h : r.1 * s.2 = s.1 * r.2) : r = s := by
  have h1 : r.2 ∣ s.2 := by
    have : r.2 ∣ r.1 * s.2 := ⟨s.1, by rw [h]; exact Int.mul_comm _ _⟩
    have c : Int.gcd r.2 r.1 = 1 := by rw [Int.gcd_comm]; exact hr.co
    exact dvd_co c this
  have h2 : s.2 ∣ r.2 := by
    have : s.2 ∣ s.1 * r.2 := ⟨r.1, by rw [← h]; exact Int.mul_comm _ _⟩
    have c : Int.gcd s.2 s.1 = 1 := by rw [Int.gcd_comm]; exact hs.co
    exact dvd_co c this
  have e2 : r.2 = s.2 := Int.dvd_antisymm (Int.le_of_lt hr.pos) (Int.le_of_lt hs.pos) h1 h2
  have e1 : r.1 = s.1 := by
    rw [e2] at h
    exact Int.eq_of_mul_eq_mul_right (by have := hs.pos; omega) h
  exact Prod.ext e1 e2
/-! what the difference tells -/
section
variable {N D M E : Nat} {r s : R}
theorem sub_zero (hr : Ok N D r) (hs : Ok M E s) : ((sub s r).1 = 0 ∧ (sub s r).2 = 1) ↔ (r.1 = s.1 ∧ r.2 = s.2) := by
  have hp : 0 < s.2 * r.2 := Int.mul_pos hs.pos hr.pos
  obtain ⟨e1, e2⟩ := red_mul (n := s.1 * r.2 - r.1 * s.2) hp
  constructor
  · rintro ⟨h1, h2⟩
    have z : s.1 * r.2 - r.1 * s.2 = 0 := by
      rw [e1]
      show _ * (sub s r).1 = 0
      rw [h1, Int.mul_zero]
    have := eq_of_cross hr hs (by omega)
    exact ⟨congrArg Prod.fst this, congrArg Prod.snd this⟩
  · rintro ⟨h1, h2⟩
    unfold sub red
    rw [h1, h2, Int.sub_self]
    have hq : 0 < s.2 * s.2 := Int.mul_pos hs.pos hs.pos
    have : Int.gcd 0 (s.2 * s.2) = (s.2 * s.2).natAbs := Int.gcd_zero_left _
    rw [this]
    have e : (((s.2 * s.2).natAbs : Nat) : Int) = s.2 * s.2 := by omega
    rw [e]
    exact ⟨Int.zero_ediv _, Int.ediv_self (by omega)⟩
theorem sub_sign (hr : Ok N D r) (hs : Ok M E s) : ∃ k : Int, 0 < k ∧ - spc r s = k * (sub s r).1 := by
  have hp : 0 < s.2 * r.2 := Int.mul_pos hs.pos hr.pos
  obtain ⟨e1, e2⟩ := red_mul (n := s.1 * r.2 - r.1 * s.2) hp
  have hg := gcd_pos (n := s.1 * r.2 - r.1 * s.2) hp
  refine ⟨(Int.gcd (s.1 * r.2 - r.1 * s.2) (s.2 * r.2) : Int), by omega, ?_⟩
  have : - spc r s = s.1 * r.2 - r.1 * s.2 := by unfold spc; omega
  rw [this]
  exact e1
theorem sub_ge (hr : Ok N D r) (hs : Ok M E s) (h : spc r s ≤ 0) : 0 ≤ (sub s r).1 := by
  obtain ⟨k, hk, e⟩ := sub_sign hr hs
  exact (sign_lt hk).mp (by omega)
theorem sub_pos (hr : Ok N D r) (hs : Ok M E s) : 0 < (sub s r).1 ↔ spc r s < 0 := by
  obtain ⟨k, hk, e⟩ := sub_sign hr hs
  have h := sign_le (x := (sub s r).1) hk
  constructor
  · intro q
    by_cases z : spc r s < 0
    · exact z
    · have := h.mp (by omega)
      omega
  · intro q
    by_cases z : 0 < (sub s r).1
    · exact z
    · have := h.mpr (by omega)
      omega
theorem add_le {P Q : Nat} {t : R} (hr : Ok N D r) (hs : Ok M E s) (ht : Ok P Q t) (h : spc r s ≤ 0) : spc (add r t) (add s t) ≤ 0 := by
  refine spc_red_le (Int.mul_pos hr.pos ht.pos) (Int.mul_pos hs.pos ht.pos) ?_
  have e : (r.1 * t.2 + t.1 * r.2) * (s.2 * t.2) - (s.1 * t.2 + t.1 * s.2) * (r.2 * t.2) = (t.2 * t.2) * spc r s := by
    unfold spc
    rw [Int.mul_sub, Int.add_mul, Int.add_mul]
    have a1 : r.1 * t.2 * (s.2 * t.2) = t.2 * t.2 * (r.1 * s.2) := by ac_rfl
    have a2 : s.1 * t.2 * (r.2 * t.2) = t.2 * t.2 * (s.1 * r.2) := by ac_rfl
    have a3 : t.1 * r.2 * (s.2 * t.2) = t.1 * s.2 * (r.2 * t.2) := by ac_rfl
    rw [a1, a2, a3]
    omega
  rw [e]
  exact (sign_le (Int.mul_pos ht.pos ht.pos)).mpr h
theorem mul_ge {P Q : Nat} {t : R} (hr : Ok N D r) (hs : Ok M E s) (ht : Ok P Q t) (hn : t.1 < 0) (h : spc r s ≤ 0) : 0 ≤ spc (mul r t) (mul s t) := by
  refine spc_red_ge (Int.mul_pos hr.pos ht.pos) (Int.mul_pos hs.pos ht.pos) ?_
  have e : r.1 * t.1 * (s.2 * t.2) - s.1 * t.1 * (r.2 * t.2) = (t.2 * (-t.1)) * (-spc r s) := by
    unfold spc
    have a1 : r.1 * t.1 * (s.2 * t.2) = t.2 * t.1 * (r.1 * s.2) := by ac_rfl
    have a2 : s.1 * t.1 * (r.2 * t.2) = t.2 * t.1 * (s.1 * r.2) := by ac_rfl
    rw [a1, a2, ← Int.mul_sub, Int.mul_neg (t.2), Int.neg_mul_neg]
  rw [e]
  exact Int.mul_nonneg (Int.le_of_lt (Int.mul_pos ht.pos (by omega))) (by omega)
theorem half_le (hr : Ok N D r) (hs : Ok M E s) (h : spc r s ≤ 0) : spc (half r) (half s) ≤ 0 := by
  have p1 := hr.pos
  have p2 := hs.pos
  refine spc_red_le (by omega) (by omega) ?_
  have e : r.1 * (2 * s.2) - s.1 * (2 * r.2) = 2 * spc r s := by
    unfold spc
    have a1 : r.1 * (2 * s.2) = 2 * (r.1 * s.2) := by ac_rfl
    have a2 : s.1 * (2 * r.2) = 2 * (s.1 * r.2) := by ac_rfl
    rw [a1, a2]
    omega
  rw [e]
  omega
theorem abs_eq (hr : Ok N D r) : abs' r = ((if r.1 < 0 then -r.1 else r.1), r.2) := by
  have : Int.gcd (if r.1 < 0 then -r.1 else r.1) r.2 = 1 := by
    split
    · rw [Int.neg_gcd]
      exact hr.co
    · exact hr.co
  unfold abs'
  exact red_id (r := ((if r.1 < 0 then -r.1 else r.1), r.2)) this
theorem abs_ge (hr : Ok N D r) : 0 ≤ spc (abs' r) r := by
  rw [abs_eq hr]
  unfold spc
  show 0 ≤ (if r.1 < 0 then -r.1 else r.1) * r.2 - r.1 * r.2
  rw [← Int.sub_mul]
  refine Int.mul_nonneg ?_ (Int.le_of_lt hr.pos)
  split <;> omega
end
/-! ### the sort -/
def before (p q : R) : Bool := decide (p.1 * q.2 < q.1 * p.2)
theorem before_spc (p q : R) : before p q = decide (spc p q < 0) := by
  unfold before spc
  by_cases h : p.1 * q.2 < q.1 * p.2
  · rw [decide_eq_true h, decide_eq_true (by omega)]
  · rw [decide_eq_false h, decide_eq_false (by omega)]
section
variable {α : Type}
/-- the place: the first one that p is before -/
def place (p : α × R) : List (α × R) → Nat
  | [] => 0
  | q :: l => if before p.2 q.2 = true then 0 else place p l + 1
def ins (p : α × R) (l : List (α × R)) : List (α × R) := l.take (place p l) ++ [p] ++ l.drop (place p l)
def laid : List (α × R) → List (α × R) → List (α × R)
  | acc, [] => acc
  | acc, p :: l => laid (ins p acc) l
theorem place_le (p : α × R) : ∀ l, place p l ≤ l.length
  | [] => Nat.le_refl _
  | q :: l => by
    unfold place
    split
    · exact Nat.zero_le _
    · exact Nat.succ_le_succ (place_le p l)
theorem place_before {p : α × R} : ∀ {l : List (α × R)} {i : Nat} {q : α × R}, i < place p l → l[i]? = some q → before p.2 q.2 = false
  | [], _, _, h, _ => absurd h (Nat.not_lt_zero _)
  | a :: l, i, q, h, e => by
    unfold place at h
    split at h
    · exact absurd h (Nat.not_lt_zero _)
    · rename_i hb
      cases i with
      | zero =>
        have : a = q := Option.some.inj e
        rw [← this]
        exact Bool.eq_false_iff.mpr hb
      | succ i => exact place_before (l := l) (i := i) (by omega) e
theorem place_at {p : α × R} : ∀ {l : List (α × R)} {q : α × R}, l[place p l]? = some q → before p.2 q.2 = true
  | [], _, e => by simp [place] at e
  | a :: l, q, e => by
    unfold place at e
    split at e
    · rename_i hb
      have : a = q := Option.some.inj e
      rw [← this]
      exact hb
    · exact place_at (l := l) (by simpa using e)
theorem place_is {p : α × R} {l : List (α × R)} {i : Nat} (hi : i ≤ l.length) (h1 : ∀ j q, j < i → l[j]? = some q → before p.2 q.2 = false) (h2 : ∀ q, l[i]? = some q → before p.2 q.2 = true) : place p l = i := by
  rcases Nat.lt_trichotomy (place p l) i with h | h | h
  · have hl : place p l < l.length := by omega
    have a := place_at (p := p) (List.getElem?_eq_getElem hl)
    have b := h1 _ _ h (List.getElem?_eq_getElem hl)
    rw [a] at b
    cases b
  · exact h
  · have hl : i < l.length := Nat.lt_of_lt_of_le h (place_le p l)
    have a := h2 _ (List.getElem?_eq_getElem hl)
    have b := place_before h (List.getElem?_eq_getElem hl)
    rw [a] at b
    cases b
theorem mem_ins {p x : α × R} {l : List (α × R)} (h : x ∈ ins p l) : x = p ∨ x ∈ l := by
  unfold ins at h
  rcases List.mem_append.mp h with h | h
  · rcases List.mem_append.mp h with h | h
    · exact .inr (List.mem_of_mem_take h)
    · exact .inl (List.mem_singleton.mp h)
  · exact .inr (List.mem_of_mem_drop h)
theorem len_ins (p : α × R) (l : List (α × R)) : (ins p l).length = l.length + 1 := by
  unfold ins
  have := place_le p l
  simp only [List.length_append, List.length_take, List.length_drop, List.length_singleton]
  omega
/-- one beside another one, ascending -/
def Asc (l : List (α × R)) : Prop := ∀ i x y, l[i]? = some x → l[i + 1]? = some y → spc x.2 y.2 ≤ 0
theorem spc_swap (r s : R) : spc r s = - spc s r := by unfold spc; omega
theorem ins_get_lt {p : α × R} {l : List (α × R)} {i : Nat} (h : i < place p l) : (ins p l)[i]? = l[i]? := by
  have := place_le p l
  unfold ins
  rw [List.append_assoc, List.getElem?_append_left (by rw [List.length_take]; omega), List.getElem?_take_of_lt h]
theorem ins_get_at {p : α × R} {l : List (α × R)} : (ins p l)[place p l]? = some p := by
  have := place_le p l
  unfold ins
  rw [List.append_assoc, List.getElem?_append_right (by rw [List.length_take]; omega), List.length_take, Nat.min_eq_left this, Nat.sub_self]
  rfl
theorem ins_get_gt {p : α × R} {l : List (α × R)} {i : Nat} (h : place p l ≤ i) : (ins p l)[i + 1]? = l[i]? := by
  have := place_le p l
  unfold ins
  rw [List.append_assoc, List.getElem?_append_right (by rw [List.length_take]; omega), List.length_take, Nat.min_eq_left this]
  have e : i + 1 - place p l = (i - place p l) + 1 := by omega
  rw [e]
  show (l.drop (place p l))[i - place p l]? = _
  rw [List.getElem?_drop]
  congr 1
  omega
theorem asc_ins {p : α × R} {l : List (α × R)} (h : Asc l) : Asc (ins p l) := by
  intro i x y hx hy
  by_cases h1 : i + 1 < place p l
  · rw [ins_get_lt (by omega)] at hx
    rw [ins_get_lt h1] at hy
    exact h i x y hx hy
  · by_cases h2 : i + 1 = place p l
    · rw [ins_get_lt (by omega)] at hx
      rw [h2, ins_get_at] at hy
      have : p = y := Option.some.inj hy
      subst this
      have b := place_before (p := p) (show i < place p l by omega) hx
      rw [before_spc] at b
      have := of_decide_eq_false b
      have s := spc_swap x.2 p.2
      omega
    · by_cases h3 : i = place p l
      · rw [h3, ins_get_at] at hx
        have : p = x := Option.some.inj hx
        subst this
        rw [ins_get_gt (by omega), h3] at hy
        have b := place_at hy
        rw [before_spc] at b
        have := of_decide_eq_true b
        omega
      · obtain ⟨j, rfl⟩ : ∃ j, i = j + 1 := ⟨i - 1, by omega⟩
        rw [ins_get_gt (by omega)] at hx hy
        exact h j x y hx hy
theorem asc_laid : ∀ {l acc : List (α × R)}, Asc acc → Asc (laid acc l)
  | [], _, h => h
  | _ :: l, _, h => asc_laid (l := l) (asc_ins h)
theorem asc_nil : Asc ([] : List (α × R)) := fun _ _ _ h => by simp at h
theorem mem_laid {x : α × R} : ∀ {l acc : List (α × R)}, x ∈ laid acc l → x ∈ acc ∨ x ∈ l
  | [], _, h => .inl h
  | p :: l, acc, h => by
    rcases mem_laid (l := l) h with h | h
    · rcases mem_ins h with h | h
      · exact .inr (by rw [h]; exact List.mem_cons_self)
      · exact .inl h
    · exact .inr (List.mem_cons_of_mem _ h)
theorem len_laid : ∀ (l acc : List (α × R)), (laid acc l).length = acc.length + l.length
  | [], acc => by show acc.length = acc.length + 0; omega
  | p :: l, acc => by
    show (laid (ins p acc) l).length = acc.length + (l.length + 1)
    rw [len_laid l, len_ins]
    omega
theorem laid_snoc : ∀ (l acc : List (α × R)) (p : α × R), laid acc (l ++ [p]) = ins p (laid acc l)
  | [], _, _ => rfl
  | q :: l, acc, p => laid_snoc l (ins q acc) p
theorem laid_take {l : List (α × R)} {i : Nat} {p : α × R} (h : l[i]? = some p) : laid [] (l.take (i + 1)) = ins p (laid [] (l.take i)) := by
  rw [List.take_add_one, h]
  exact laid_snoc _ _ _
end
section
variable {α β : Type}
theorem place_map {p : α × R} {q : β × R} (e : p.2 = q.2) : ∀ {l : List (α × R)} {m : List (β × R)}, l.map Prod.snd = m.map Prod.snd → place p l = place q m
  | [], [], _ => rfl
  | [], _ :: _, h => by simp at h
  | _ :: _, [], h => by simp at h
  | a :: l, b :: m, h => by
    rw [List.map_cons, List.map_cons] at h
    injection h with h1 h2
    unfold place
    rw [e, h1, place_map e h2]
theorem ins_map {p : α × R} {q : β × R} (e : p.2 = q.2) {l : List (α × R)} {m : List (β × R)} (h : l.map Prod.snd = m.map Prod.snd) : (ins p l).map Prod.snd = (ins q m).map Prod.snd := by
  unfold ins
  simp only [List.map_append, List.map_take, List.map_drop, List.map_cons, List.map_nil]
  rw [h, e, place_map e h]
theorem laid_map : ∀ {l : List (α × R)} {m : List (β × R)} {a : List (α × R)} {b : List (β × R)}, a.map Prod.snd = b.map Prod.snd → l.map Prod.snd = m.map Prod.snd → (laid a l).map Prod.snd = (laid b m).map Prod.snd
  | [], [], _, _, h, _ => h
  | [], _ :: _, _, _, _, h => by simp at h
  | _ :: _, [], _, _, _, h => by simp at h
  | x :: l, y :: m, a, b, h0, h => by
    rw [List.map_cons, List.map_cons] at h
    injection h with h1 h2
    exact laid_map (l := l) (m := m) (ins_map h1 h0) h2
end
end K11
/-! Own rules: operators of slotted instances, abs, a static method, repr of a pair, a star target, one power. -/
namespace K11
open PySem PySem.Spec PyProof.Rows L2
section
variable {X : Cx} {CX : CXT} {C g : Addr} {n : Nat} {sp : Sp} {E : XK}
/-- x op i, x an instance with slots, i an int -/
def rOwnI (C : Addr) (sp : Sp) (E : XK) : R2 := fun x y H Q => ∃ a dx vs i, x = .ref a ∧ y = .int i ∧ SlX.Slt H a C dx vs ∧ sp [x, y] H Q E
theorem op_ownI {op : CmpOp} (hop : ∀ a b, compareOp op a b = richCompare op a b) (hn : PySem.W.notFirst X.K C (.type "int") = true) (hs : PySem.W.findIn X.K (.ref C) (cmpInfo op).2.1 = some (some (.ref g)))
    (hf : PySem.W.isFn X.K (.ref g) = true) (F : FnR X.prog X.w X.K X.mg X.base CX n g sp) (hr : Room n X.A) (hx : Passes CX X E) : OpR X (compareOp op) (rOwnI C sp E) := by
  intro pins s σ H x y v u Q I rx ry h
  obtain ⟨a, dx, vs, i, rfl, rfl, ha, q⟩ := h
  cases (show v = Value.ref a from rx)
  obtain ⟨t, eu⟩ := (show ∃ t, u = Value.int i t from ry)
  subst eu
  obtain ⟨sl, od, _, J, _⟩ := SlX.slt_inst I ha
  obtain ⟨m, hF⟩ := I.fr
  rw [hop]
  have ty : PySem.W.Looks (model X.prog X.w) s.heap (typeOf (.int i t)) (.type "int") := PySem.W.Looks.of_pure rfl
  refine PySem.W.cmp_K (op := op) (tb := .type "int") hr.units0 hF I.ok.mod.kin J ty hn hs hf ?_
  refine wpAny_mono (wpAny_call (run_fnR (us := [.ref a, .int i t]) (vs := [.ref a, .int i]) F hr hx I (.cons rfl (.cons ⟨t, rfl⟩ .nil)) q)) (fun r s' z => ?_) fun _ _ e => e
  obtain ⟨z', H', I', rz, qz⟩ := z
  exact SlX.cmpback rz ⟨z', H', I', rz, qz⟩
/-- x + y and the like, both instances of one class -/
def rBin (C : Addr) (sp : Sp) (E : XK) : R2 := fun x y H Q => ∃ a dx vs b dy ws, x = .ref a ∧ y = .ref b ∧ SlX.Slt H a C dx vs ∧ SlX.Slt H b C dy ws ∧ sp [x, y] H Q E
theorem op_bin {op : Operator} (hc : PySem.W.selfFirst X.K C = true) (hs : PySem.W.findIn X.K (.ref C) (PySem.dunder op.info.2) = some (some (.ref g))) (hf : PySem.W.isFn X.K (.ref g) = true)
    (F : FnR X.prog X.w X.K X.mg X.base CX n g sp) (hr : Room n X.A) (hx : Passes CX X E) : OpR X (binaryOp op) (rBin C sp E) := by
  intro pins s σ H x y v u Q I rx ry h
  obtain ⟨a, dx, vs, b, dy, ws, rfl, rfl, ha, hb, q⟩ := h
  cases (show v = Value.ref a from rx)
  cases (show u = Value.ref b from ry)
  obtain ⟨sl, od, _, J, _⟩ := SlX.slt_inst I ha
  obtain ⟨sl', od', _, J', _⟩ := SlX.slt_inst I hb
  obtain ⟨m, hF⟩ := I.fr
  refine PySem.W.binop_K hF I.ok.mod.kin J J'.type hc hs hf ?_
  refine wpAny_mono (wpAny_call (run_fnR (us := [.ref a, .ref b]) (vs := [.ref a, .ref b]) F hr hx I (.cons rfl (.cons rfl .nil)) q)) (fun r s' z => ?_) fun _ _ e => e
  obtain ⟨z', H', I', rz, qz⟩ := z
  exact SlX.cmpback rz ⟨z', H', I', rz, qz⟩
/-- x * i, x an instance, i an int -/
theorem op_binI {op : Operator} {fo ro rc : Option Value} (hc : PySem.W.selfFirst X.K C = true) (hs : PySem.W.findIn X.K (.ref C) (PySem.dunder op.info.2) = some (some (.ref g))) (hf : PySem.W.isFn X.K (.ref g) = true)
    (hrd : PySem.W.findIn X.K (.ref C) (PySem.dunderR op.info.2) = some rc) (hp : rc = none ∨ ∃ g : Addr, rc = some (.ref g)) (h1 : PySem.W.findIn X.K (.type "int") (PySem.dunder op.info.2) = some fo)
    (h2 : PySem.W.findIn X.K (.type "int") (PySem.dunderR op.info.2) = some ro) (hsub : PySem.W.subIn X.K (.type "int") (.ref C) = some false)
    (F : FnR X.prog X.w X.K X.mg X.base CX n g sp) (hr : Room n X.A) (hx : Passes CX X E) : OpR X (binaryOp op) (rOwnI C sp E) := by
  intro pins s σ H x y v u Q I rx ry h
  obtain ⟨a, dx, vs, i, rfl, rfl, ha, q⟩ := h
  cases (show v = Value.ref a from rx)
  obtain ⟨t, eu⟩ := (show ∃ t, u = Value.int i t from ry)
  subst eu
  obtain ⟨sl, od, _, J, _⟩ := SlX.slt_inst I ha
  obtain ⟨m, hF⟩ := I.fr
  refine PySem.W.ksp_binT (T := "int") hF I.ok.mod.kin J rfl hc hs hf hrd hp h1 h2 hsub ?_
  refine wpAny_mono (wpAny_call (run_fnR (us := [.ref a, .int i t]) (vs := [.ref a, .int i]) F hr hx I (.cons rfl (.cons ⟨t, rfl⟩ .nil)) q)) (fun r s' z => ?_) fun _ _ e => e
  obtain ⟨z', H', I', rz, qz⟩ := z
  exact SlX.cmpback rz ⟨z', H', I', rz, qz⟩
/-- abs(x), x an instance -/
def rAbs (C : Addr) (sp : Sp) (E : XK) : List V → Hp → VK → Prop := fun xs H Q => ∃ a dx vs, xs = [V.ref a] ∧ SlX.Slt H a C dx vs ∧ sp [.ref a] H Q E
theorem call_absOwn (hs : PySem.W.findIn X.K (.ref C) "__abs__" = some (some (.ref g))) (hf : PySem.W.isFn X.K (.ref g) = true) (F : FnR X.prog X.w X.K X.mg X.base CX n g sp) (hr : Room (n + 1) X.A) (hx : Passes CX X E) :
    CallR X (.builtin "abs") (rAbs C sp E) := by
  intro pins s σ H xs us Q I r h
  obtain ⟨a, dx, vs, rfl, ha, q⟩ := h
  obtain ⟨u, rfl, ru⟩ := r.one
  cases (show u = Value.ref a from ru)
  obtain ⟨sl, od, _, J, _⟩ := SlX.slt_inst I ha
  have hr1 : Room n X.A.in1 := hr.in1
  refine Calls.call_function_entry kind_abs plain_abs entry_abs (args_abs _) ?_
  unfold Builtin.«abs»
  refine wpAny_bind (m := oneArg "abs" _) (wpAny_pure ?_)
  refine wpAny_bind (m := callSpecial? (.ref a) (Str.ofString "__abs__")) (PySem.W.special_fn I.kIn J hs (beq_iff_eq.mp hf) (wpAny_mono (wpAny_call (SlX.run_at (us := [.ref a]) (ws := [.ref a]) F hr1 I.env0.in1 hx I (.cons rfl .nil) q)) (fun w s' z => ?_) fun _ _ e => e))
  exact wpAny_pure ⟨_, rfl, z⟩
end
end K11
namespace K11
open PySem PySem.Spec PyProof.Rows L2
/-! ### repr of a pair of ints, where no repr is under way -/
def pairText (i j : Int) : Str := tupleText [Str.ofString (toString i), Str.ofString (toString j)]
def rRep (K : PySem.W.Frag) : List V → Hp → VK → Prop := fun xs H Q => ∃ a i j, xs = [V.ref a] ∧ SqT K H a [.int i, .int j] ∧ i.natAbs.log2 < 1000 ∧ j.natAbs.log2 < 1000 ∧ Q (.str (pairText i j)) H
section
variable {X : Cx}
theorem pair_len {i j : Int} (h1 : i.natAbs.log2 < 1000) (h2 : j.natAbs.log2 < 1000) : (pairText i j).length ≤ sizeLine := by
  have a1 : (Str.ofString (toString i)).length ≤ 1001 := by rw [PySem.ofString_length]; exact PySem.int_text_length_le (by decide) h1
  have a2 : (Str.ofString (toString j)).length ≤ 1001 := by rw [PySem.ofString_length]; exact PySem.int_text_length_le (by decide) h2
  have h := PySem.tupleText_len_le [Str.ofString (toString i), Str.ofString (toString j)]
  simp only [List.map_cons, List.map_nil, List.sum_cons, List.sum_nil, List.length_cons, List.length_nil] at h
  have e : (3000 : Nat) ≤ sizeLine := by rw [sizeLine_eq]; decide
  unfold pairText
  omega
theorem call_repr2 {k : Nat} (hg : X.A.guards = some []) (hr : Room k X.A) : CallR X (.builtin "repr") (rRep X.K) := by
  intro pins s σ H xs us Q I r h
  obtain ⟨a, i, j, rfl, ht, h1, h2, q⟩ := h
  obtain ⟨u, rfl, ru⟩ := r.one
  cases (show u = Value.ref a from ru)
  obtain ⟨its, rv, ⟨o, ho, hc, m, hd⟩, _⟩ := I.tuple ht
  have all : ReprAll X.prog X.w its.toArray.toList [Str.ofString (toString i), Str.ofString (toString j)] := by
    cases rv with
    | cons r1 rv =>
      cases rv with
      | cons r2 rv =>
        cases rv
        obtain ⟨t1, rfl⟩ := r1
        obtain ⟨t2, rfl⟩ := r2
        exact .cons (ReprIs.int t1 (by omega)) (.cons (ReprIs.int t2 (by omega)) .nil)
  have ty : s.TypeIs (.ref a) "tuple" := ⟨o, ho, hc⟩
  have hu := hr.units
  refine call_repr_slot (by omega) ty PySem.F.slot_tuple_repr ?_
  refine call_tuple_repr ty (g := []) hg (fun c hc => absurd hc (by simp)) ho hd all (fun t tk => ?_) (pair_len h1 h2)
  exact ⟨_, t, rfl, .str (pairText i j), H, I.tok tk, ⟨t, rfl⟩, q⟩
end
/-! ### a static method, called off its class -/
structure SMet (K : PySem.W.Frag) (C : Addr) (mc : Value) (m : Str) (p g : Addr) : Prop where
  at_ : PySem.W.findCls K (.ref C) mc m = some (.get (.builtin "staticmethod.__get__") (.ref p) .none (.ref C))
  rc : ∃ rest, PySem.W.recIn K p "staticmethod" = some (.ref g :: rest)
  kp : PySem.W.keepIn K (.ref g) = true
def tSMeth (C : Addr) (sp : Sp) (E : XK) (ta : TE) (t : TA) : TE := fun σ H Q => ta σ H fun x H1 => x = .ref C ∧ t σ H1 fun vs H2 => sp vs H2 Q E
section
variable {X : Cx} {CX : CXT} {k : Nat} {C p g : Addr} {mc : Value} {sp : Sp} {E : XK} {o e : Expr} {es : List Expr} {m : Str} {pos apos : Pos} {ta : TE} {t : TA} {pl : Sem Bool}
theorem pe_smeth (hb : PE X o ta) (rd : ClX.CRead X.K C mc) (c : SMet X.K C mc m p g) (F : FnR X.prog X.w X.K X.mg X.base CX k g sp) (room : Room k X.A) (hx : Passes CX X E) (hargs : PA X (e :: es) t)
    (hst : starEach (e :: es) X.env = (false, eval e X.env) :: starEach es X.env := by rfl) (hpl : (backTo pos (starEach es X.env)).any (·.1) = false := by rfl)
    (ht : eval (.Call (.Attribute o m apos) (e :: es) [] pos) X.env = (do
      let ov ← eval o X.env
      standAt apos.atName
      let (f, first) ← holding [ov] (getMethod ov m pl)
      callWith pos f first (backTo pos (starEach (e :: es) X.env)) (backToKw pos (keywordEach [] X.env))) := by rfl) :
    PE X (.Call (.Attribute o m apos) (e :: es) [] pos) (tSMeth C sp E ta t) := by
  refine ⟨fun pins s σ H Q I h => ?_⟩
  refine PySem.W.methodCall_KW (pl := pl) (thn (hb.run pins s σ H _ I h) fun u s1 hu => ?_) ht
  obtain ⟨x, H1, I1, rx, ex, q⟩ := hu
  subst ex
  obtain rfl : u = Value.ref C := rx
  obtain ⟨rest, hp⟩ := c.rc
  refine PySem.W.method_cls I1.kIn rd.ga (PySem.W.cls_bind I1.kIn rd.rd c.at_ (wpAny_call (PySem.W.sm_get (s := { s1 with toks := s1.toks + 1 }) I1.kIn hp (PySem.W.handed_on rfl ?_))))
  refine PySem.W.callWith_K (first := []) (h₀ := X.base) I1.ok.mod.kin c.kp (thn (hargs.run pos pins _ σ H1 _ (I1.tok (s1.toks + 1)) q) fun us s2 ⟨vs, H2, I2, r, q2⟩ => ⟨I2.kIn, ?_⟩) hst hpl
  exact wpAny_call (run_fnR (us := us) (vs := vs) F room hx I2 r q2)
end
/-! ### head, *more = a list -/
theorem unpack_star {prog : Program} {w : World} {A : Around} {E : Value → Shared → Prop} {s : Shared} {l : Addr} {y : Value} {ys : List Value} {Q : List Value → Shared → Prop} (hl : s.heap.IsList l (y :: ys).toArray) (hh : A.handled = none) (hz : ys.length < 16384)
    (fin : ∀ (h₂ : Heap) (tk : Tok), (∀ b o, s.heap.get? b = some o → h₂.get? b = some o) → Q [y, .ref h₂.objs.size] { s with heap := h₂.push { cls := .type "list", data := .seq ys.toArray }, toks := tk }) :
    wpAny (model prog w) A (unpackItems (.ref l) 2 (some 1)) Q E s := by
  have hll : l < s.heap.objs.size := by
    obtain ⟨o, ho, _⟩ := hl
    exact Heap.lt_size ho
  have hne : l ≠ s.heap.objs.size := Nat.ne_of_lt hll
  have hsz : (y :: ys).toArray.size = ys.length + 1 := by simp
  unfold unpackItems notIterableAtAll
  refine wpAny_bind (wpAny_bind (wpAny_specialOf hl.typeIs PySem.F.slot_list_iter.lookup (wpAny_pure ?_)))
  simp only [Bool.false_eq_true, if_false]
  refine wpAny_bind (wpAny_holding (wpAny_pyIter_list hl ?_))
  have hl0 := hl.push ({ cls := .type "list_iterator", data := .fields #[.ref l, .int 0 0] } : Obj)
  refine wpAny_bind (wpAny_holding (PySem.W.kun_draw hne 1 0 _ _ ⟨_, Heap.get?_push_size _ rfl, rfl, rfl⟩ (hl.push _) (by rw [hsz]; omega) fun h₁ it₁ same₁ => ?_))
  have l₁ : h₁.IsList l (y :: ys).toArray := (hl.push _).extBut same₁.extBut hne
  have it₁' := it₁
  have l₁' := l₁
  obtain ⟨oi, hoi, _⟩ := it₁'
  obtain ⟨ol, hol, _⟩ := l₁'
  have hfirst : List.take 1 (List.drop 0 (y :: ys).toArray.toList) = [y] := by simp
  rw [hfirst]
  refine wpAny_ite_false (by simp) ?_
  refine wpAny_bind (wpAny_holding (PySem.W.kun_collect (s := { s with heap := h₁ }) (T := "list_iterator") (.inr (.inr (.inl rfl))) (Walks.list (A := A.in1) hh s.heap.objs.size l hne (y :: ys).toArray) (fun j u st => st.1.typeIs) (k := 1)
    (by rw [hsz]; omega) ⟨it₁, l₁⟩ (Heap.lt_size hoi) (Heap.lt_size hol) (fun h₂ tk keep => ?_) (by rw [hsz, sizeLine_eq]; omega)))
  have hrest : List.drop 1 (y :: ys).toArray.toList = ys := by simp
  rw [hrest]
  have old : ∀ b o, s.heap.get? b = some o → h₂.get? b = some o := fun b o e => by
    have nb : b ≠ s.heap.objs.size := Nat.ne_of_lt (Heap.lt_size e)
    exact keep b o nb (same₁.extBut b o nb (Heap.get?_push_of_some _ e))
  show wpAny _ _ (if ys.length < 0 then _ else _) _ _ _
  refine wpAny_ite_false (by simp) ?_
  show wpAny _ _ (newList (ys.take (ys.length - 0)) >>= fun d => pure ([y] ++ [d] ++ ys.drop (ys.length - 0))) _ _ _
  rw [Nat.sub_zero, List.take_length, List.drop_length]
  refine wpAny_bind (wpAny_newList (wpAny_pure ?_) (by rw [sizeLine_eq]; omega))
  exact fin h₂ tk old
def gStar (K : PySem.W.Frag) (t : TGs) : TG := fun v σ H Q => ∃ a y ys, v = .ref a ∧ SqL K H a (y :: ys) ∧ ys.length < 1000 ∧ ∀ p, H p = none → t [y, .ref p] σ (upd H p (.lst ys)) Q
theorem pg_star {X : Cx} {es : List Expr} {k : Nat} {pos : Pos} {t : TGs} (hc : X.calm = true) (hes : PGs X es t) (hn : (assignEach es X.env).length = 2 := by rfl) (hst : (assignEach es X.env).findIdx? (·.1) = some 1 := by rfl) :
    PG X (.Tuple es k pos) (gStar X.K t) := by
  refine ⟨fun pins s σ H v u Q I r hw => ?_⟩
  obtain ⟨a, y, ys, e1, hq, hl, hw⟩ := hw
  subst e1
  obtain rfl : u = Value.ref a := r
  obtain ⟨its, rv, hL, hz⟩ := I.list hq
  cases rv with
  | @cons _ y' _ ys' ry rys =>
    have hlen : ys'.length = ys.length := rys.length.symm
    rw [assign_Tuple]
    refine wpAny_bind (wpAny_standAt ?_)
    unfold unpack
    rw [hn, hst]
    refine wpAny_bind (wpAny_holding (unpack_star hL.isList (I.ok.hd hc) (by omega) fun h₂ tk keep => ?_))
    have I0 : Inv X pins σ H { s with heap := h₂, toks := tk } := I.kept keep
    have nD : H h₂.objs.size = none := I0.hok.fresh (Nat.le_refl _)
    have z : ys.length ≤ sizeLine := by rw [sizeLine_eq]; omega
    have I1 : Inv X pins σ (upd H h₂.objs.size (.lst ys)) { s with heap := h₂.push { cls := .type "list", data := .seq ys'.toArray }, toks := tk } :=
      I0.laid (t' := tk) (fun b o e => Heap.get?_push_of_some _ e) (Nat.le_refl _) ⟨z, ys', 0, rys, Heap.get?_push_size _ rfl⟩
    exact hes.run pins _ σ _ [y, .ref h₂.objs.size] _ Q I1 (.cons ry (.cons rfl .nil)) (hw _ nD)
/-! ### the one great power -/
theorem op_powK {X : Cx} : OpR X (binaryOp .Pow) (rI (fun i j => (Builtin.Int.intBits i : Int) * j ≤ 2 ^ 27 ∧ 0 ≤ j) fun i j => .int (i ^ j.toNat)) := opI fun _ _ _ _ _ _ _ hc q => pow_int hc.2 hc.1 q
end K11
namespace K11
open PySem PySem.Spec PyProof.Rows L2
/-! ### calls where no guard stands on the stack -/
/-- a promise by positional values, asked only where the stack holds no guard (no repr is under way) -/
def FnG (P : Program) (w : World) (K : PySem.W.Frag) (mg : Str → Option Value) (base : Heap) (k : Nat) (f : Addr) (sp : Sp) : Prop :=
  ∀ (A : Around) (outer : List Env) (s : Shared) (H : Hp) (us : List Value) (vs : List V) (Q : VK), A.guards = some [] → Room k A → Env0 P w K mg base A outer s H → Vals vs us → sp vs H Q E0 →
    codeAny (model P w) A (.call (.ref f) ⟨us, []⟩) (CR CX0 outer P w H s Q E0) s
section
variable {P : Program} {w : World} {K : PySem.W.Frag} {mg : Str → Option Value} {base : Heap}
theorem okG {x qual : Str} {st : Stmt} {f : Addr} {fd : FuncData} {N ps : List Str} {k : Nat} {sp : Sp} (F : Fun K x qual st f fd) (b : Binds K fd ps []) (S : FnScope N ps (defScope st)) (len : ∀ vs H Q, sp vs H Q E0 → vs.length = ps.length)
    (walk : ∀ (cdv : Value) (A : Around) (outer : List Env) (s : Shared) (H : Hp) (vs : List V) (Q : VK), A.guards = some [] → Room k (A.deeper (envOfC qual (defScope st) s.heap.objs.size f cdv)) → sp vs H Q E0 →
      ∃ t, PSs (cxOf CX0 P w K mg base N qual (defScope st) f cdv A outer s H E0).nox (defBody st) t ∧ t { nx := fun _ H' => Q .non H', rt := Q } (start N vs) H) : FnG P w K mg base (k + 1) f sp := by
  intro A outer s H us vs Q hg hr e0 r hsp
  obtain ⟨oc, od, kV, doc, pm, an, cdv, ct, osl, rfl, lk, hcd⟩ := F.ex
  have hl := len _ _ _ hsp
  refine StX.run_bnd lk hcd S hr e0 (G := fun zs H2 => zs = vs ∧ H2 = H) (fun A' Ex R fin => ?_) fun s2 H2 zs hz hr2 => ?_
  · have KX : K.In s.heap := e0.mod.kin.keeps fun c o e => (e0.bs c o e).1
    have hb := b s us KX (by rw [List.append_nil, ← r.length]; exact hl)
    rw [List.append_nil] at hb
    exact hb _ _ _ _ (fin s H vs us e0 Un.refl rfl (fun _ _ z => z) r hl ⟨rfl, rfl⟩)
  · obtain ⟨rfl, rfl⟩ := hz
    obtain ⟨t, ht, hq⟩ := walk cdv A outer s2 H2 zs Q hg hr2 hsp
    exact ⟨t, ht.nox, hq⟩
end
section
variable {X : Cx} {k : Nat} {f : Addr} {sp : Sp} {x : Str} {p pos : Pos} {e : Expr} {es : List Expr} {t : TA}
theorem pe_callG (F : FnG X.prog X.w X.K X.mg X.base k f sp) (guard : X.A.guards = some []) (room : Room k X.A) (hg : Gl X x) (hm : X.mg x = some (.ref f)) (hk : PySem.W.keepIn X.K (.ref f) = true) (hargs : PA X (e :: es) t)
    (hdb : (x == ("__debug__" : Str)) = false := by decide) (he : starEach (e :: es) X.env = (false, eval e X.env) :: starEach es X.env := by rfl) (hpl : (backTo pos (starEach es X.env)).any (·.1) = false := by rfl) :
    PE X (.Call (.Name x p) (e :: es) [] pos) (tCall sp [] E0 t) := by
  refine ⟨fun pins s σ H Q I h => ?_⟩
  refine wpAny_Call_Name_kw (ld_glob I hg hm ?_ hdb)
  refine PySem.W.callWith_K (h₀ := X.base) I.ok.mod.kin hk (thn (hargs.run pos pins s σ H _ I h) fun us s1 hq => ?_) he hpl
  obtain ⟨vs, H1, I1, r, q⟩ := hq
  rw [List.append_nil] at q
  refine ⟨I1.kIn, wpAny_call (codeAny_mono (F X.A X.stack s1 H1 us vs Q guard room I1.env0 r q) fun r s' hq => ?_)⟩
  cases r with
  | error e => exact False.elim hq
  | ok fl =>
    cases fl with
    | ret u => exact I1.after hq
    | next => exact False.elim hq
    | brk => exact False.elim hq
    | cont => exact False.elim hq
end
/-! ### the law's entry -/
section
variable {P : Program} {w : World} {K : PySem.W.Frag} {mg mb : Str → Option Value} {k : Nat} {fa a : Addr} {sp : Sp} {s₁ : Shared} {vs : List Value} {ns : List Int}
/-- from a heap H that tracks nothing but the script at a -/
theorem enterG (H : Hp) (KX : K.In s₁.heap) (hns : s₁.heap.Ns mainGlobals mg) (hb : s₁.heap.Ns builtinsNs mb) (hbb : ∀ x : Str, x ≠ "__name__" → mb x = bootBuiltins x) (hlim : s₁.heap.NoLimit) (hgen : s₁.gens = #[])
    (ha : s₁.heap.get? a = some { cls := .type "list", data := .seq vs.toArray }) (room : Room k callerA) (F : ∀ base : Heap, K.In base → base.Ns mainGlobals mg → FnG P w K mg base k fa sp)
    (only : Only H) (hok : HOk P w H s₁.heap) (at_ : ∀ b, H b ≠ none → b = a) (out : H a ≠ none → K.lookup a = none) (want : sp [.ref a] H (fun v _ => v = .bl true) E0) :
    codeAny (model P w) callerA (.call (.ref fa) ⟨[.ref a], []⟩) (fun r s' => r = .ok (.ret (.bool true)) ∧ OldK s₁.heap s'.heap ∧ s'.os = s₁.os ∧ AllBare s'.gens) s₁ := by
  have untracked : ∀ {b : Addr} {o : Obj} {es : Array DictEntry} {ep : Nat}, s₁.heap.get? b = some o → o.data = .dict es ep → H b = none := by
    intro b o es ep e d
    cases q : H b with
    | none => rfl
    | some u =>
      have hab : b = a := at_ b (by rw [q]; exact Option.some_ne_none u)
      rw [hab, ha] at e
      cases e
      cases (show Data.seq vs.toArray _ = Data.dict es ep from d)
  have spaces : ∀ {b : Addr} {m : Str → Option Value}, s₁.heap.Ns b m → (hidT s₁.heap H).Ns b m := by
    intro b m n
    obtain ⟨o, es, ep, e, d, rest⟩ := n
    exact ⟨o, es, ep, hidT_get e (untracked e d), d, rest⟩
  have written : K.In (hidT s₁.heap H) := by
    intro b o e
    refine hidT_get (KX b o e) ?_
    cases q : H b with
    | none => rfl
    | some u =>
      have hab : b = a := at_ b (by rw [q]; exact Option.some_ne_none u)
      have z := out (by rw [← hab, q]; exact Option.some_ne_none u)
      rw [hab, z] at e
      cases e
  obtain ⟨mc, c1, c2⟩ := hlim
  have mod : Mod K mg (hidT s₁.heap H) := ⟨written, spaces hns, ⟨mb, spaces hb, hbb⟩, ⟨mc, spaces c1, c2⟩⟩
  have start0 : Env0 P w K mg (hidT s₁.heap H) callerA [] s₁ H :=
    ⟨rfl, mod, fun b o e => of_hidT e, Nat.le_of_eq (hidT_size _ _), True.intro, fun b hm => absurd hm List.not_mem_nil, hok, .of_eq hgen⟩
  refine codeAny_mono (F _ written (spaces hns) callerA [] s₁ H [.ref a] [.ref a] _ rfl room start0 (.cons rfl .nil) want) fun r s' h => ?_
  cases r with
  | error e => exact False.elim h
  | ok fl =>
    cases fl with
    | next => exact False.elim h
    | brk => exact False.elim h
    | cont => exact False.elim h
    | ret u =>
      obtain ⟨v, H', os, bare, un, ok2, rv, ev⟩ := h
      subst ev
      obtain rfl : u = Value.bool true := rv
      refine ⟨rfl, OldK.of_keep fun b o e => ?_, os, bare⟩
      cases q : H b with
      | none => exact un.keep b o e q List.not_mem_nil List.not_mem_nil
      | some u =>
        rcases only b with z | ⟨ob, xs, z⟩
        · rw [q] at z
          cases z
        · obtain ⟨before, _⟩ := hok b _ z
          obtain ⟨behind, _⟩ := ok2 b _ (un.frzs b ob _ z)
          rw [before] at e
          cases e
          exact behind
theorem callG (KX : K.In s₁.heap) (hns : s₁.heap.Ns mainGlobals mg) (hb : s₁.heap.Ns builtinsNs mb) (hbb : ∀ x : Str, x ≠ "__name__" → mb x = bootBuiltins x) (hlim : s₁.heap.NoLimit) (hgen : s₁.gens = #[])
    (ha : s₁.heap.get? a = some { cls := .type "list", data := .seq vs.toArray }) (hi : IntsAre vs ns) (hl : ns.length ≤ sizeLine) (room : Room k callerA) (F : ∀ base : Heap, K.In base → base.Ns mainGlobals mg → FnG P w K mg base k fa sp)
    (want : ∀ H : Hp, Only H → SqL K H a (ns.map V.int) → sp [.ref a] H (fun v _ => v = .bl true) E0) :
    codeAny (model P w) callerA (.call (.ref fa) ⟨[.ref a], []⟩) (fun r s' => r = .ok (.ret (.bool true)) ∧ OldK s₁.heap s'.heap ∧ s'.os = s₁.os ∧ AllBare s'.gens) s₁ := by
  have rv := vals_ints hi
  have lenV := hi.length
  cases hk : K.lookup a with
  | some o =>
    have e := KX a o hk
    rw [ha] at e
    cases e
    have seen : SqL K (fun _ => none) a (ns.map V.int) := .inr ⟨_, vs.toArray, _, hk, rfl, rfl, rfl, by rw [List.size_toArray, lenV]; exact hl, rv⟩
    have none_is : Only (fun _ => none) := fun _ => .inl rfl
    exact enterG (fun _ => none) KX hns hb hbb hlim hgen ha room F none_is (fun b u z => nomatch z) (fun b z => absurd rfl z) (fun z => absurd rfl z) (want _ none_is seen)
  | none =>
    let H : Hp := fun b => if b = a then some (.frz { cls := .type "list", data := .seq vs.toArray } (.lst (ns.map V.int))) else none
    have here : H a = some (.frz { cls := .type "list", data := .seq vs.toArray } (.lst (ns.map V.int))) := if_pos rfl
    have away : ∀ b, b ≠ a → H b = none := fun b z => if_neg z
    have only : Only H := fun b => by
      by_cases z : b = a
      · rw [z]
        exact .inr ⟨_, _, here⟩
      · exact .inl (away b z)
    refine enterG H KX hns hb hbb hlim hgen ha room F only (fun b u z => ?_) (fun b z => ?_) (fun _ => hk) (want H only (.inl (.inr ⟨_, here⟩)))
    · by_cases q : b = a
      · subst q
        rw [here] at z
        cases z
        exact ⟨ha, by rw [List.length_map]; exact hl, vs, _, rv, ha⟩
      · rw [away b q] at z
        cases z
    · by_cases q : b = a
      · exact q
      · exact absurd (away b q) z
end
theorem walkG {l : PySem.W.OpenLaw} {n k : Nat} {q : Program} {loose : List Str} {XP : (Str → Option Value) → Heap → Prop} {YP : World → Heap → Prop} {d : DefRec} {K : Params → PySem.W.Frag} {sp : PySem.W.Frag → Sp}
    (hn : l.most = some n) (hn2 : n ≤ sizeLine) (hdf : d.params.defaults = []) (room : Room k callerA) (hY : ∀ (w : World) (h : Heap), YP w h → (K w.params).In h)
    (F : ∀ (w : World) (mg : Str → Option Value) (fa : Addr) (h : Heap), (K w.params).In h → h.Ns mainGlobals mg → mg d.name = some (.ref fa) →
      ∀ base : Heap, (K w.params).In base → base.Ns mainGlobals mg → FnG l.prog w (K w.params) mg base k fa (sp (K w.params)))
    (want : ∀ (K : PySem.W.Frag) (H : Hp) (a : Addr) (ns : List Int), ns.length ≤ n → Only H → SqL K H a (ns.map V.int) → sp K [.ref a] H (fun v _ => v = .bl true) E0) :
    PySem.W.WalkO q loose XP YP l.row.toRowW d [] (fun f vs => PySem.call f vs) := by
  refine Att.attach_call hn hdf fun w s₀ s₁ mg mb fa o pm cd doc a vs ns G Y ho hd hcd hmg hobj hints hlen hgen => ?_
  have KX := hY w _ Y
  exact callG KX G.T.g G.T.b G.T.builtins G.T.nolimit hgen hobj hints (Nat.le_trans hlen hn2) room (F w mg fa _ KX G.T.g hmg) fun H hO hS => want _ H a ns hlen hO hS
end K11
namespace K11
open PySem PySem.Spec PyProof.Rows L2
/-! ### the text by places -/
def top (i : Nat) : Stmt := PySem.Challenge.pw_hoverrest_k11_whole_ratios_in_sequence.main.body.getD i (.Pass ⟨0, 0, 0, 0⟩)
abbrev sIsInteger : Stmt := top 7
abbrev sDivisor : Stmt := top 8
abbrev sFigures : Stmt := top 9
abbrev sRatio : Stmt := top 10
abbrev sInit : Stmt := inClass sRatio 1
abbrev sNumber : Stmt := inClass sRatio 2
abbrev sUnder : Stmt := inClass sRatio 3
abbrev sText : Stmt := inClass sRatio 4
abbrev sOf : Stmt := inClass sRatio 5
abbrev sHalved : Stmt := inClass sRatio 6
abbrev sEq : Stmt := inClass sRatio 8
abbrev sLt : Stmt := inClass sRatio 9
abbrev sLe : Stmt := inClass sRatio 10
abbrev sGt : Stmt := inClass sRatio 11
abbrev sGe : Stmt := inClass sRatio 12
abbrev sAbs : Stmt := inClass sRatio 14
abbrev sAdd : Stmt := inClass sRatio 15
abbrev sSub : Stmt := inClass sRatio 17
abbrev sMul : Stmt := inClass sRatio 19
abbrev sIsNumber : Stmt := top 11
abbrev sRatioOf : Stmt := top 12
abbrev sSpacing : Stmt := top 13
abbrev sPlus : Stmt := top 14
abbrev sMinus : Stmt := top 15
abbrev sTimes : Stmt := top 16
abbrev sPot : Stmt := top 18
abbrev sTake : Stmt := top 19
abbrev sOfSome : Stmt := top 20
abbrev sFrac : Stmt := top 21
abbrev sLawPlus : Stmt := top 22
abbrev sLawRatio : Stmt := top 23
abbrev sDrawn : Stmt := top 24
abbrev sIsRatio : Stmt := top 25
abbrev sIsBefore : Stmt := top 26
abbrev sLaid : Stmt := top 27
abbrev sTold : Stmt := top 28
abbrev sRight : Stmt := top 29
abbrev sLaw : Stmt := top 30
/-! ### what stands where -/
/-- a Ratio -/
def RA (C : Addr) (H : Hp) (a : Addr) (r : R) : Prop := ∃ dx, H a = some (SlX.SlO a C dx [some (.int r.1), some (.int r.2)]) ∧ H dx = some (.xd [])
theorem RA.same {C : Addr} {H H' : Hp} {a : Addr} {r : R} (s : Same H H') (h : RA C H a r) : RA C H' a r := by
  obtain ⟨dx, h1, h2⟩ := h
  exact ⟨dx, s _ _ h1, s _ _ h2⟩
theorem RA.slt {C : Addr} {H : Hp} {a : Addr} {r : R} (h : RA C H a r) : ∃ dx, SlX.Slt H a C dx [some (.int r.1), some (.int r.2)] := by
  obtain ⟨dx, h1, h2⟩ := h
  exact ⟨dx, .inr ⟨h1, h2⟩⟩
/-- an int or a Ratio -/
def Num (C : Addr) (H : Hp) (v : V) (s : R) : Prop := (∃ a, v = .ref a ∧ RA C H a s) ∨ (∃ i, v = .int i ∧ s = (i, 1))
theorem Num.same {C : Addr} {H H' : Hp} {v : V} {r : R} (s : Same H H') (h : Num C H v r) : Num C H' v r := by
  rcases h with ⟨a, e, h⟩ | h
  · exact .inl ⟨a, e, h.same s⟩
  · exact .inr h
abbrev Fit (r : R) : Prop := Ok 4611686018427387904 16383 r
theorem Fit.lo {r : R} (h : Fit r) : -(2 ^ 64) < r.1 ∧ r.1 < 2 ^ 64 := by
  have := h.hn
  omega
theorem Fit.un {r : R} (h : Fit r) : -(2 ^ 64) < r.2 ∧ r.2 < 2 ^ 64 := by
  have := h.pos
  have := h.hd
  omega
theorem fit_int {i : Int} (h : i.natAbs ≤ 4611686018427387904) : Fit (i, 1) := ⟨by show (0 : Int) < 1; decide, by show (1 : Int) ≤ _; decide, h, by show Int.gcd i 1 = 1; simp⟩
/-- all that was tracked stays, but what stands at a -/
def SameX (a : Addr) (H H' : Hp) : Prop := ∀ b o, H b = some o → b ≠ a → H' b = some o
theorem SameX.of {a : Addr} {H H' : Hp} (s : Same H H') : SameX a H H' := fun b o e _ => s b o e
theorem SameX.trans {a : Addr} {H H1 H2 : Hp} (x : SameX a H H1) (y : SameX a H1 H2) : SameX a H H2 := fun b o e n => y b o (x b o e n) n
theorem SameX.refl (a : Addr) (H : Hp) : SameX a H H := fun _ _ e _ => e
theorem same_upd {H : Hp} {p : Addr} {o : HO} (h : H p = none) : Same H (upd H p o) := fun b x e => by
  rw [upd_ne (ne_of_none e h)]
  exact e
theorem RA.sameX {C : Addr} {H H' : Hp} {p a : Addr} {r : R} {xs : List V} (s : SameX p H H') (hp : H p = some (.lst xs)) (h : RA C H a r) : RA C H' a r := by
  obtain ⟨dx, h1, h2⟩ := h
  have n1 : a ≠ p := fun e => by
    rw [e, hp] at h1
    unfold SlX.SlO at h1
    cases h1
  have n2 : dx ≠ p := fun e => by
    rw [e, hp] at h2
    cases h2
  exact ⟨dx, s _ _ h1 n1, s _ _ h2 n2⟩
theorem seqX {K : PySem.W.Frag} {H H' : Hp} {p a : Addr} {xs : List V} (s : SameX p H H') (n : a ≠ p) (h : SqL K H a xs) : SqL K H' a xs := by
  rcases h with (h | ⟨o, h⟩) | h
  · exact .inl (.inl (s _ _ h n))
  · exact .inl (.inr ⟨o, s _ _ h n⟩)
  · exact .inr h
theorem seqTX {K : PySem.W.Frag} {H H' : Hp} {p a : Addr} {xs ys : List V} (s : SameX p H H') (hp : H p = some (.lst ys)) (h : SqT K H a xs) : SqT K H' a xs := by
  have n : ∀ o, (∀ z, o ≠ HO.lst z) → H a = some o → a ≠ p := fun o no e q => by
    rw [q, hp] at e
    exact no ys (Option.some.inj e).symm
  rcases h with (h | ⟨o, h⟩) | h
  · exact .inl (.inl (s _ _ h (n (.tup xs) (fun _ z => nomatch z) h)))
  · exact .inl (.inr ⟨o, s _ _ h (n (.frz o (.tup xs)) (fun _ z => nomatch z) h)⟩)
  · exact .inr h
theorem seqT {K : PySem.W.Frag} {H H' : Hp} {a : Addr} {xs : List V} (s : Same H H') (h : SqT K H a xs) : SqT K H' a xs := by
  rcases h with (h | ⟨o, h⟩) | h
  · exact .inl (.inl (s _ _ h))
  · exact .inl (.inr ⟨o, s _ _ h⟩)
  · exact .inr h
/-- the law's pot behind at most n draws -/
def Pot (n : Nat) (H : Hp) (a : Addr) : Prop := ∃ o s c : Int, H a = some (.lst [.int o, .int s, .int c]) ∧ 0 ≤ o ∧ 0 ≤ s ∧ s < 2305843009213693921 ∧ 0 ≤ c ∧ c ≤ n
/-- a law's pair -/
abbrev PairAt (K : PySem.W.Frag) (H : Hp) (a : Addr) (r : R) : Prop := SqT K H a [.int r.1, .int r.2]
/-- the text of a Ratio -/
def txt (r : R) : Str := if r.2 = 1 then Str.ofString (toString r.1) else ((Str.empty ++ Str.ofString (toString r.1)) ++ Str.ofString "/") ++ Str.ofString (toString r.2)
/-! ### defs, as they stand behind the top, and their promises -/
section
variable (P : Program) (w : World) (K : PySem.W.Frag) (mg : Str → Option Value) (base : Heap) (C : Addr)
/-- a def of the module -/
def Def (x : Str) (st : Stmt) : Prop := ∃ f fd, Fun K x x st f fd ∧ mg x = some (.ref f)
/-- .. that keeps a promise -/
def Has (k : Nat) (x : Str) (sp : Sp) : Prop := ∃ f, FnR P w K mg base CX0 k f sp ∧ mg x = some (.ref f) ∧ PySem.W.keepIn K (.ref f) = true
def HasG (k : Nat) (x : Str) (sp : Sp) : Prop := ∃ f, FnG P w K mg base k f sp ∧ mg x = some (.ref f) ∧ PySem.W.keepIn K (.ref f) = true
/-- a method -/
def DefM (m qual : Str) (st : Stmt) : Prop := ∃ f fd, Fun K m qual st f fd ∧ Meth K C m f
def HasM (k : Nat) (m : Str) (sp : Sp) : Prop := ∃ f, FnR P w K mg base CX0 k f sp ∧ Meth K C m f
/-- a property -/
structure PropAt (m : Str) (p f : Addr) : Prop where
  at_ : PySem.W.findIn K (.ref C) m = some (some (.ref p))
  get : PySem.W.specialIn K (.ref p) "__get__" = some (some (.builtin "property.__get__"))
  tk : PySem.W.takesIn K (.ref p) = some true
  rc : ∃ rest, PySem.W.recIn K p "property" = some (.ref f :: rest)
def DefP (m qual : Str) (st : Stmt) : Prop := ∃ p f fd, Fun K m qual st f fd ∧ PropAt K C m p f
def HasP (k : Nat) (m : Str) (sp : Sp) : Prop := ∃ p f, FnR P w K mg base CX0 k f sp ∧ PropAt K C m p f
/-- what else the text has -/
structure Txt (K : PySem.W.Frag) (mg : Str → Option Value) (C : Addr) : Prop where
  cl : SlX.SCls K C
  isi : SlX.SIsi K C
  s0 : ∃ p, SlX.Slot1 K C "above" p 0
  s1 : ∃ p, SlX.Slot1 K C "below" p 1
  mgC : mg "Ratio" = some (.ref C)
  kC : PySem.W.keepIn K (.ref C) = true
  sf : PySem.W.selfFirst K C = true
  nf : PySem.W.notFirst K C (.ref C) = true
  nfI : PySem.W.notFirst K C (.type "int") = true
  sbI : PySem.W.subIn K (.type "int") (.ref C) = some false
  rmul : ∃ g : Addr, PySem.W.findIn K (.ref C) "__rmul__" = some (some (.ref g))
  sCI : PySem.W.subIn K (.ref C) (.type "int") = some false
  sCB : PySem.W.subIn K (.ref C) (.type "bool") = some false
  b_isinstance : mg "isinstance" = none
  b_int : mg "int" = none
  b_bool : mg "bool" = none
  b_all : mg "all" = none
  b_abs : mg "abs" = none
  b_str : mg "str" = none
  b_len : mg "len" = none
  b_range : mg "range" = none
  b_max : mg "max" = none
  b_min : mg "min" = none
  b_zip : mg "zip" = none
  b_repr : mg "repr" = none
  digits : ∃ t, mg "DIGITS" = some (.str "0123456789" t)
  most : ∃ t, mg "MOST_SIGNS" = some (.int 1802 t)
end
/-! ### short rules -/
theorem okR {P : Program} {w : World} {K : PySem.W.Frag} {mg : Str → Option Value} {base : Heap} {x qual : Str} {st : Stmt} {f : Addr} {fd : FuncData} {N ps : List Str} {k : Nat} {sp : Sp} (F : Fun K x qual st f fd) (b : Binds K fd ps []) (S : FnScope N ps (defScope st))
    (len : ∀ vs H Q E, sp vs H Q E → vs.length = ps.length)
    (walk : ∀ (cdv : Value) (A : Around) (outer : List Env) (s : Shared) (H : Hp) (vs : List V) (Q : VK) (E : XK), Room k (A.deeper (envOfC qual (defScope st) s.heap.objs.size f cdv)) → sp vs H Q E →
      ∃ t, PSs (cxOf CX0 P w K mg base N qual (defScope st) f cdv A outer s H E).nox (defBody st) t ∧ t { nx := fun _ H' => Q .non H', rt := Q } (start N vs) H) : FnR P w K mg base CX0 (k + 1) f sp :=
  ((F.ok S len walk).raw b .nil).imp fun vs H Q E q => by
    show sp (vs ++ []) H Q E
    rw [List.append_nil]
    exact q
section
variable {X : Cx} {C : Addr} {j k : Nat} {x m : Str} {sp : Sp} {e o : Expr} {es : List Expr} {t : TA} {ta : TE} {p pos apos : Pos} {pl : Sem Bool}
theorem pe_callH (G : Has X.prog X.w X.K X.mg X.base j x sp) (room : Room k X.A) (hg : Gl X x) (hargs : PA X (e :: es) t) (hjk : j ≤ k := by decide)
    (hdb : (x == ("__debug__" : Str)) = false := by decide) (he : starEach (e :: es) X.env = (false, eval e X.env) :: starEach es X.env := by rfl) (hpl : (backTo pos (starEach es X.env)).any (·.1) = false := by rfl) :
    PE X (.Call (.Name x p) (e :: es) [] pos) (tCall sp [] E0 t) := by
  obtain ⟨f, F, hm, hk⟩ := G
  refine ⟨fun pins s σ H Q I h => ?_⟩
  refine wpAny_Call_Name_kw (ld_glob I hg hm ?_ hdb)
  refine PySem.W.callWith_K (h₀ := X.base) I.ok.mod.kin hk (thn (hargs.run pos pins s σ H _ I h) fun us s1 hq => ?_) he hpl
  obtain ⟨vs, H1, I1, r, q⟩ := hq
  rw [List.append_nil] at q
  exact ⟨I1.kIn, wpAny_call (run_fnR F (room.mono hjk) pass0 I1 r q)⟩
theorem pe_callHG (G : HasG X.prog X.w X.K X.mg X.base j x sp) (guard : X.A.guards = some []) (room : Room k X.A) (hg : Gl X x) (hargs : PA X (e :: es) t) (hjk : j ≤ k := by decide)
    (hdb : (x == ("__debug__" : Str)) = false := by decide) (he : starEach (e :: es) X.env = (false, eval e X.env) :: starEach es X.env := by rfl) (hpl : (backTo pos (starEach es X.env)).any (·.1) = false := by rfl) :
    PE X (.Call (.Name x p) (e :: es) [] pos) (tCall sp [] E0 t) := by
  obtain ⟨f, F, hm, hk⟩ := G
  exact pe_callG F guard (room.mono hjk) hg hm hk hargs hdb he hpl
theorem pe_methH0 (he : PE X o ta) (c : SlX.SCls X.K C) (G : HasM X.prog X.w X.K X.mg X.base C j m sp) (room : Room k X.A) (hjk : j ≤ k := by decide)
    (ht : eval (.Call (.Attribute o m apos) [] [] pos) X.env = (do
      let ov ← eval o X.env
      standAt apos.atName
      let (f, first) ← holding [ov] (getMethod ov m pl)
      callWith pos f first (backTo pos (starEach [] X.env)) (backToKw pos (keywordEach [] X.env))) := by rfl) :
    PE X (.Call (.Attribute o m apos) [] [] pos) (SlX.tMethSl C sp E0 ta tNil) := by
  obtain ⟨f, F, hm⟩ := G
  exact SlX.pe_methSl0 (pl := pl) he c hm F (room.mono hjk) pass0 ht
theorem pe_propH (he : PE X e ta) (c : SlX.SCls X.K C) (G : HasP X.prog X.w X.K X.mg X.base C j m sp) (room : Room k X.A) (hjk : j + 1 ≤ k := by decide) (hb : attributeBase e m X.env (eval e X.env) = eval e X.env := by rfl) :
    PE X (.Attribute e m pos) (SlX.tPropSl C sp E0 ta) := by
  obtain ⟨q, f, F, h⟩ := G
  exact SlX.pe_propSl he c h.at_ h.get h.tk h.rc F (room.mono hjk) (fun _ _ _ _ z => z) hb
/-- comparison of an instance with another one, with an int -/
def rCmpN (C : Addr) (sp : Sp) : R2 := fun x y H Q => ∃ a r s, x = .ref a ∧ RA C H a r ∧ Num C H y s ∧ sp [x, y] H Q E0
theorem op_cmpH {op : CmpOp} (T : Txt X.K X.mg C) (G : HasM X.prog X.w X.K X.mg X.base C j (cmpInfo op).2.1 sp) (room : Room k X.A) (hjk : j ≤ k := by decide) (hop : ∀ a b, compareOp op a b = richCompare op a b := by intro _ _; rfl) : OpR X (compareOp op) (rCmpN C sp) := by
  obtain ⟨g, F, M⟩ := G
  intro pins s σ H x y v u Q I rx ry h
  obtain ⟨a, r, s', rfl, hr, hn, q⟩ := h
  obtain ⟨dx, hs⟩ := hr.slt
  rcases hn with ⟨b, rfl, hb⟩ | ⟨i, rfl, _⟩
  · obtain ⟨dy, hs'⟩ := hb.slt
    exact SlX.op_own (E := E0) hop M.at_ M.fn F (room.mono hjk) pass0 pins s σ H _ _ v u Q I rx ry ⟨a, dx, _, b, C, dy, _, rfl, rfl, hs, hs', T.nf, q⟩
  · exact op_ownI (E := E0) hop T.nfI M.at_ M.fn F (room.mono hjk) pass0 pins s σ H _ _ v u Q I rx ry ⟨a, dx, _, i, rfl, rfl, hs, q⟩
/-- + and the like of two instances -/
def rBinR (C : Addr) (sp : Sp) : R2 := fun x y H Q => ∃ a r b s, x = .ref a ∧ y = .ref b ∧ RA C H a r ∧ RA C H b s ∧ sp [x, y] H Q E0
theorem op_binH {op : Operator} {nm : Str} (T : Txt X.K X.mg C) (G : HasM X.prog X.w X.K X.mg X.base C j nm sp) (room : Room k X.A) (hnm : nm = PySem.dunder op.info.2 := by rfl) (hjk : j ≤ k := by decide) : OpR X (binaryOp op) (rBinR C sp) := by
  obtain ⟨g, F, M⟩ := G
  subst hnm
  intro pins s σ H x y v u Q I rx ry h
  obtain ⟨a, r, b, s', rfl, rfl, hr, hb, q⟩ := h
  obtain ⟨dx, hs⟩ := hr.slt
  obtain ⟨dy, hs'⟩ := hb.slt
  exact op_bin (E := E0) T.sf M.at_ M.fn F (room.mono hjk) pass0 pins s σ H _ _ v u Q I rx ry ⟨a, dx, _, b, dy, _, rfl, rfl, hs, hs', q⟩
theorem int_mul {K : PySem.W.Frag} : PySem.W.findIn K (.type "int") (PySem.dunder Operator.Mult.info.2) = some (some (.builtin "int.__mul__")) := show PySem.fastLookup "int" (PySem.dunder Operator.Mult.info.2) = _ by decide +kernel
theorem int_rmul {K : PySem.W.Frag} : PySem.W.findIn K (.type "int") (PySem.dunderR Operator.Mult.info.2) = some (some (.builtin "int.__rmul__")) := show PySem.fastLookup "int" (PySem.dunderR Operator.Mult.info.2) = _ by decide +kernel
/-- times a number -/
theorem op_mulH (T : Txt X.K X.mg C) (G : HasM X.prog X.w X.K X.mg X.base C j "__mul__" sp) (room : Room k X.A) (hjk : j ≤ k := by decide) : OpR X (binaryOp .Mult) (rCmpN C sp) := by
  obtain ⟨g, F, M⟩ := G
  intro pins s σ H x y v u Q I rx ry h
  obtain ⟨a, r, s', rfl, hr, hn, q⟩ := h
  obtain ⟨dx, hs⟩ := hr.slt
  rcases hn with ⟨b, rfl, hb⟩ | ⟨i, rfl, _⟩
  · obtain ⟨dy, hs'⟩ := hb.slt
    exact op_bin (op := .Mult) (E := E0) T.sf M.at_ M.fn F (room.mono hjk) pass0 pins s σ H _ _ v u Q I rx ry ⟨a, dx, _, b, dy, _, rfl, rfl, hs, hs', q⟩
  · obtain ⟨g', hg'⟩ := T.rmul
    exact op_binI (op := .Mult) (E := E0) (fo := some (.builtin "int.__mul__")) (ro := some (.builtin "int.__rmul__")) T.sf M.at_ M.fn hg' (.inr ⟨g', rfl⟩) int_mul int_rmul T.sbI F (room.mono hjk) pass0 pins s σ H _ _ v u Q I rx ry ⟨a, dx, _, i, rfl, rfl, hs, q⟩
theorem call_absH (G : HasM X.prog X.w X.K X.mg X.base C j "__abs__" sp) (room : Room k X.A) (hjk : j + 1 ≤ k := by decide) : CallR X (.builtin "abs") (rAbs C sp E0) := by
  obtain ⟨g, F, M⟩ := G
  exact call_absOwn M.at_ M.fn F (room.mono hjk) pass0
/-- x.above, x.below -/
theorem pe_above (T : Txt X.K X.mg C) (he : PE X e ta) (hb : attributeBase e "above" X.env (eval e X.env) = eval e X.env := by rfl) :
    PE X (.Attribute e "above" pos) (fun σ H Q => ta σ H fun y H1 => ∃ a r, y = .ref a ∧ RA C H1 a r ∧ Q (.int r.1) H1) := by
  obtain ⟨q, S⟩ := T.s0
  refine ⟨fun pins s σ H Q I h => ?_⟩
  refine attr_of hb (thn (he.run pins s σ H _ I h) fun u s1 hu => ?_)
  obtain ⟨y, H1, I1, ry, a, r, ey, hr, fin⟩ := hu
  subst ey
  obtain rfl : u = Value.ref a := ry
  obtain ⟨dx, hs⟩ := hr.slt
  exact SlX.getslot_ok I1 hs T.cl S rfl fun u' s2 I2 ru => ⟨.int r.1, H1, I2, ru, fin⟩
theorem pe_below (T : Txt X.K X.mg C) (he : PE X e ta) (hb : attributeBase e "below" X.env (eval e X.env) = eval e X.env := by rfl) :
    PE X (.Attribute e "below" pos) (fun σ H Q => ta σ H fun y H1 => ∃ a r, y = .ref a ∧ RA C H1 a r ∧ Q (.int r.2) H1) := by
  obtain ⟨q, S⟩ := T.s1
  refine ⟨fun pins s σ H Q I h => ?_⟩
  refine attr_of hb (thn (he.run pins s σ H _ I h) fun u s1 hu => ?_)
  obtain ⟨y, H1, I1, ry, a, r, ey, hr, fin⟩ := hu
  subst ey
  obtain rfl : u = Value.ref a := ry
  obtain ⟨dx, hs⟩ := hr.slt
  exact SlX.getslot_ok I1 hs T.cl S rfl fun u' s2 I2 ru => ⟨.int r.2, H1, I2, ru, fin⟩
/-- isinstance, as it is asked here -/
def isI : V → Bool
  | .int _ => true
  | _ => false
def rIs (C : Addr) : List V → Hp → VK → Prop := fun xs H Q => (∃ v s, xs = [v, .ty "int"] ∧ Num C H v s ∧ Q (.bl (isI v)) H) ∨ (∃ i, xs = [.int i, .ty "bool"] ∧ Q (.bl false) H) ∨
  (∃ a s, xs = [.ref a, .ref C] ∧ RA C H a s ∧ Q (.bl true) H) ∨ ∃ z, xs = [.str z, .ty "str"] ∧ Q (.bl true) H
theorem kit_sub {K : PySem.W.Frag} {T : String} {b : Bool} (h : PySem.W.subIn K (.ref C) (.type T) = some b) (hm : PySem.W.kitMeta T = true) : PySem.W.kitOne K (.ref C) (.type T) = some b := by
  unfold PySem.W.kitOne PySem.W.kitCls
  rw [if_neg (by intro z; cases beq_iff_eq.mp z)]
  dsimp only
  rw [if_pos hm, h]
theorem call_is (T : Txt X.K X.mg C) : CallR X (.builtin "isinstance") (rIs C) := by
  intro pins s σ H xs us Q I r h
  rcases h with ⟨v, s', rfl, hn, q⟩ | ⟨i, rfl, q⟩ | ⟨a, s', rfl, ha, q⟩ | ⟨z, rfl, q⟩
  · rcases hn with ⟨a, rfl, ha⟩ | ⟨i, rfl, _⟩
    · obtain ⟨dx, hs⟩ := ha.slt
      exact SlX.call_isiSl (.type "int") pins s σ H _ us Q I r ⟨a, C, dx, _, .ty "int", false, rfl, rfl, fun _ z => z, hs, T.cl, T.isi, kit_sub T.sCI (by decide +kernel), q⟩
    · exact call_isi pins s σ H _ us Q I r ⟨.int i, .ty "int", .type "int", .type "int", true, rfl, .ty "int", .base (.int i), kit_ty (by decide +kernel), q⟩
  · exact call_isi pins s σ H _ us Q I r ⟨.int i, .ty "bool", .type "int", .type "bool", false, rfl, .ty "bool", .base (.int i), kit_ty (by decide +kernel), q⟩
  · obtain ⟨dx, hs⟩ := ha.slt
    refine SlX.call_isiSl (.ref C) pins s σ H _ us Q I r ⟨a, C, dx, _, .ref C, true, rfl, rfl, fun _ z => z, hs, T.cl, T.isi, ?_, q⟩
    unfold PySem.W.kitOne
    exact if_pos (beq_self_eq_true _)
  · exact call_isi pins s σ H _ us Q I r ⟨.str z, .ty "str", .type "str", .type "str", true, rfl, .ty "str", .base (.str z), kit_ty (by decide +kernel), q⟩
theorem pe_ratioC (T : Txt X.K X.mg C) (hg : Gl X "Ratio") : PE X (.Name "Ratio" p) (tC (.ref C)) := pe_glob hg T.mgC rfl
end
/-! ### promises: the program -/
section
variable (K : PySem.W.Frag) (C : Addr)
/-- a new Ratio of the worth r is handed back -/
def New (H : Hp) (r : R) (Q : VK) : Prop := ∀ p H', Same H H' → H p = none → RA C H' p r → Q (.ref p) H'
def spIsInteger : Sp := fun vs H Q _ => (∃ i, vs = [.int i] ∧ Q (.bl true) H) ∨ ∃ a r, vs = [.ref a] ∧ RA C H a r ∧ Q (.bl false) H
def spDivisor : Sp := fun vs H Q _ => ∃ a b : Nat, vs = [.int a, .int b] ∧ Q (.int (Nat.gcd a b)) H
def spFigures : Sp := fun vs H Q _ => ∃ m : Nat, m < 10 ^ 10 ∧ vs = [.str (Str.ofString (toString (m : Int)))] ∧ ∀ H', Same H H' → Q (.bl true) H'
def spInit : Sp := fun vs H Q _ => ∃ x dx n d, vs = [.ref x, .int n, .int d] ∧ H x = some (.ins C dx []) ∧ dx ≠ x ∧ 0 < d ∧ d < 1073741824 ∧
  ∀ H', RA C H' x (red n d) → (∀ b o, H b = some o → b ≠ x → b ≠ dx → H' b = some o) → Q .non H'
def spInit1 : Sp := fun vs H Q _ => ∃ x dx n, vs = [.ref x, .int n] ∧ H x = some (.ins C dx []) ∧ dx ≠ x ∧
  ∀ H', RA C H' x (n, 1) → (∀ b o, H b = some o → b ≠ x → b ≠ dx → H' b = some o) → Q .non H'
def spNumber : Sp := fun vs H Q _ => ∃ a r, vs = [.ref a] ∧ RA C H a r ∧ Q (.int r.1) H
def spUnder : Sp := fun vs H Q _ => ∃ a r, vs = [.ref a] ∧ RA C H a r ∧ Q (.int r.2) H
def spText : Sp := fun vs H Q _ => ∃ a r, vs = [.ref a] ∧ RA C H a r ∧ Fit r ∧ Q (.str (txt r)) H
def spOf : Sp := fun vs H Q _ => ∃ r, vs = [.str (txt r)] ∧ Ok 9999999999 16383 r ∧ New C H r Q
def spHalved : Sp := fun vs H Q _ => ∃ a r, vs = [.ref a] ∧ RA C H a r ∧ Fit r ∧ New C H (half r) Q
def spAbs : Sp := fun vs H Q _ => ∃ a r, vs = [.ref a] ∧ RA C H a r ∧ Fit r ∧ New C H (abs' r) Q
def spEq : Sp := fun vs H Q _ => ∃ a r b s, vs = [.ref a, .ref b] ∧ RA C H a r ∧ RA C H b s ∧ Q (.bl (decide (r.1 = s.1) && decide (r.2 = s.2))) H
def spCmp (f : Int → Bool) : Sp := fun vs H Q _ => ∃ a r v s, vs = [.ref a, v] ∧ RA C H a r ∧ Num C H v s ∧ Fit r ∧ Fit s ∧ ∀ H', Same H H' → Q (.bl (f (spc r s))) H'
def spArith (f : R → R → R) : Sp := fun vs H Q _ => ∃ a r v s, vs = [.ref a, v] ∧ RA C H a r ∧ Num C H v s ∧ Fit r ∧ Fit s ∧ New C H (f r s) Q
def spIsNumber : Sp := fun vs H Q _ => ∃ v s, vs = [v] ∧ Num C H v s ∧ Q (.bl true) H
def spRatioOf : Sp := fun vs H Q _ => ∃ v s, vs = [v] ∧ Num C H v s ∧ ∀ p H', Same H H' → RA C H' p s → Q (.ref p) H'
def spSpacing : Sp := fun vs H Q _ => ∃ a r v s, vs = [.ref a, v] ∧ RA C H a r ∧ Num C H v s ∧ Fit r ∧ Fit s ∧ ∀ H', Same H H' → Q (.int (spc r s)) H'
def spBin (f : R → R → R) : Sp := fun vs H Q _ => ∃ a r b s, vs = [.ref a, .ref b] ∧ RA C H a r ∧ RA C H b s ∧ Fit r ∧ Fit s ∧ New C H (f r s) Q
/-! ### promises: the law -/
def spPot : Sp := fun vs H Q _ => ∃ (a : Addr) (ns : List Int) (k : Int), vs = [.ref a, .int k] ∧ SqL K H a (ns.map V.int) ∧ ns.length ≤ 63 ∧ 0 ≤ k ∧ k < 6 ∧ ∀ p H', Same H H' → H p = none → Pot 0 H' p → Q (.ref p) H'
def spTake : Sp := fun vs H Q _ => ∃ (a : Addr) (n : Nat) (u : Int), vs = [.ref a, .int u] ∧ Pot n H a ∧ n < 1000 ∧ 0 < u ∧ u ≤ 100000 ∧ ∀ d H', 0 ≤ d → d < u → SameX a H H' → Pot (n + 1) H' a → Q (.int d) H'
def spOfSome : Sp := fun vs H Q _ => ∃ (a : Addr) (n : Nat) (l : Addr) (xs : List V), vs = [.ref a, .ref l] ∧ Pot n H a ∧ n < 1000 ∧ SqL K H l xs ∧ l ≠ a ∧ 0 < xs.length ∧ xs.length ≤ 1000 ∧
  ∀ (i : Nat) x H', xs[i]? = some x → SameX a H H' → Pot (n + 1) H' a → Q x H'
def spFrac : Sp := fun vs H Q _ => ∃ n d, vs = [.int n, .int d] ∧ 0 < d ∧ d < 1073741824 ∧ ∀ p H', Same H H' → H p = none → H' p = some (.tup [.int (red n d).1, .int (red n d).2]) → Q (.ref p) H'
def spLawPlus : Sp := fun vs H Q _ => ∃ a b r s, vs = [.ref a, .ref b] ∧ PairAt K H a r ∧ PairAt K H b s ∧ Fit r ∧ Fit s ∧ ∀ p H', Same H H' → H p = none → H' p = some (.tup [.int (add r s).1, .int (add r s).2]) → Q (.ref p) H'
def spLawRatio : Sp := fun vs H Q _ => ∃ a r, vs = [.ref a] ∧ PairAt K H a r ∧ Fit r ∧ New C H r Q
def spDrawn : Sp := fun vs H Q _ => ∃ (a : Addr) (n : Nat), vs = [.ref a] ∧ Pot n H a ∧ n < 900 ∧ ∀ p r H', H p = none → SameX a H H' → Pot (n + 4) H' a → H' p = some (.tup [.int r.1, .int r.2]) → Ok 999999999 12 r → Q (.ref p) H'
def spIsRatio : Sp := fun vs H Q _ => ∃ a r b, vs = [.ref a, .ref b] ∧ RA C H a r ∧ PairAt K H b r ∧ Fit r ∧ ∀ H', Same H H' → Q (.bl true) H'
def spIsBefore : Sp := fun vs H Q _ => ∃ a b r s, vs = [.ref a, .ref b] ∧ PairAt K H a r ∧ PairAt K H b s ∧ Fit r ∧ Fit s ∧ Q (.bl (before r s)) H
def refs (ps : List (Addr × R)) : List V := ps.map fun p => V.ref p.1
def spLaid : Sp := fun vs H Q _ => ∃ (l : Addr) (ps : List (Addr × R)), vs = [.ref l] ∧ SqL K H l (refs ps) ∧ (∀ p ∈ ps, PairAt K H p.1 p.2 ∧ Fit p.2) ∧ ps.length ≤ 100 ∧ ∀ L H', Same H H' → H L = none → H' L = some (.lst (refs (laid [] ps))) → Q (.ref L) H'
def spTold : Sp := fun vs H Q _ => ∃ (l : Addr) (ps : List (Addr × R)), vs = [.ref l] ∧ SqL K H l (refs ps) ∧ (∀ p ∈ ps, RA C H p.1 p.2 ∧ Fit p.2) ∧ ps.length ≤ 100 ∧ ∀ L H', Same H H' → H L = none → H' L = some (.lst (refs (laid [] ps))) → Q (.ref L) H'
def spRight : Sp := fun vs H Q _ => ∃ (a : Addr) (n : Nat), vs = [.ref a] ∧ Pot n H a ∧ n < 200 ∧ ∀ H', SameX a H H' → Pot (n + 31) H' a → Q (.bl true) H'
def spLaw : Sp := fun vs H Q _ => ∃ (a : Addr) (ns : List Int), vs = [.ref a] ∧ SqL K H a (ns.map V.int) ∧ ns.length ≤ 63 ∧ ∀ H', Q (.bl true) H'
end
end K11
namespace K11
open PySem PySem.Spec PyProof.Rows L2
section
variable {P : Program} {w : World} {K : PySem.W.Frag} {mg : Str → Option Value} {base : Heap} {C : Addr}
/-! ### is_integer -/
theorem scIsInteger : FnScope ["value"] ["value"] (defScope sIsInteger) := ⟨rfl, rfl, rfl, by decide +kernel, rfl, by decide +kernel, by decide +kernel⟩
theorem has_isInteger (D : Def K mg "is_integer" sIsInteger) (T : Txt K mg C) : Has P w K mg base 1 "is_integer" (spIsInteger C) := by
  obtain ⟨f, fd, F, hm⟩ := D
  refine ⟨f, okR F (F.binds (ps := ["value"]) fun _ _ _ _ _ _ us hl => match us, hl with | [_], _ => rfl) scIsInteger (fun vs H Q E h => ?_) (fun cdv A outer s H vs Q E hr h => ?_), hm, F.kp⟩
  · rcases h with ⟨i, rfl, _⟩ | ⟨a, r, rfl, _⟩ <;> rfl
  · refine ⟨_, pss_one (ps_ret (pe_and (pe_callB (call_is T) (by rfl) T.b_isinstance boot_isinstance (pa_cons (pv 0) (pa_cons (pe_bltn (v := .ty "int") (by rfl) T.b_int PyProof.Rows.boot_int rfl) pa_nil)))
      (pe_one (pe_not (pe_callB (call_is T) (by rfl) T.b_isinstance boot_isinstance (pa_cons (pv 0) (pa_cons (pe_bltn (v := .ty "bool") (by rfl) T.b_bool PyProof.Rows.boot_bool rfl) pa_nil))))))), ?_⟩
    rcases h with ⟨i, rfl, q⟩ | ⟨a, r, rfl, hr', q⟩
    · refine ⟨.int i, rfl, .inl ⟨.int i, (i, 1), rfl, .inr ⟨i, rfl, rfl⟩, true, rfl, iteT ?_⟩⟩
      exact ⟨.int i, rfl, .inr (.inl ⟨i, rfl, false, rfl, q⟩)⟩
    · refine ⟨.ref a, rfl, .inl ⟨.ref a, r, rfl, .inl ⟨a, rfl, hr'⟩, false, rfl, iteF ?_⟩⟩
      exact q
/-! ### common_divisor -/
theorem scDivisor : FnScope ["one", "other"] ["one", "other"] (defScope sDivisor) := ⟨rfl, rfl, rfl, by decide +kernel, rfl, by decide +kernel, by decide +kernel⟩
def muDiv : L2.St → Hp → Nat := fun σ _ => match σ with
  | [_, some (.int b)] => b.toNat
  | _ => 0
theorem has_divisor (D : Def K mg "common_divisor" sDivisor) : Has P w K mg base 1 "common_divisor" spDivisor := by
  obtain ⟨f, fd, F, hm⟩ := D
  refine ⟨f, okR F (F.binds (ps := ["one", "other"]) fun _ _ _ _ _ _ us hl => match us, hl with | [_, _], _ => rfl) scDivisor (fun vs H Q E h => ?_) (fun cdv A outer s H vs Q E hr h => ?_), hm, F.kp⟩
  · obtain ⟨a, b, rfl, _⟩ := h
    rfl
  · obtain ⟨a, b, rfl, q⟩ := h
    refine ⟨_, pss_cons (ps_while PassesOwn.never (pt_cmpR op_gt (pv 1) pe_int (nomark _)) (pss_one (ps_par (by rfl) scDivisor.nd (i := 0) (j := 1) rfl rfl (by decide) rfl rfl (pa_cons (pv 1) (pa_cons (pe_op op_mod (pv 0) (pv 1)) pa_nil)) (by rfl))))
      (pss_one (ps_ret (pv 0))), ?_⟩
    refine while_by (fun σ H' => ∃ x y : Nat, σ = [some (.int x), some (.int y)] ∧ Nat.gcd x y = Nat.gcd a b ∧ H' = H) muDiv ⟨a, b, rfl, rfl, rfl⟩ (fun σ H' hp => ?_) fun σ H1 Q1 Q2 hq h1 => ?_
    · obtain ⟨x, y, rfl, hg, rfl⟩ := hp
      refine ⟨_, rfl, _, _, rfl, rfl, _, rfl, ite2 (fun e => ?_) (fun e => ?_)⟩
      · have hy : (0 : Int) < y := of_decide_eq_true e
        refine ⟨.int y, rfl, .int x, rfl, .int y, rfl, x, y, rfl, rfl, hy, _, _, rfl, ⟨y, x % y, ?_, ?_, rfl⟩, ?_⟩
        · show [some (V.int y), some (V.int ((x : Int) % (y : Int)))] = _
          rw [Int.natCast_emod]
        · rw [Nat.gcd_comm y, ← hg, Nat.gcd_comm x y, ← Nat.gcd_rec y x, Nat.gcd_comm]
        · show ((x : Int) % (y : Int)).toNat < (y : Int).toNat
          have := Int.emod_lt_of_pos (x : Int) hy
          have := Int.emod_nonneg (x : Int) (show (y : Int) ≠ 0 by omega)
          omega
      · have hy : ¬ (0 : Int) < y := fun z => e (decide_eq_true z)
        have hy0 : y = 0 := by omega
        subst hy0
        rw [Nat.gcd_zero_right] at hg
        refine ⟨.int x, rfl, ?_⟩
        rw [hg]
        exact q
    · obtain ⟨v, e, i, j, e1, e2, k, ek, q1⟩ := h1
      exact ⟨v, e, i, j, e1, e2, k, ek, hq _ _ q1⟩
/-! ### making a Ratio -/
theorem scInit : FnScope ["self", "number", "under", "common"] ["self", "number", "under"] (defScope sInit) := ⟨rfl, rfl, rfl, by decide +kernel, rfl, by decide +kernel, by decide +kernel⟩
abbrev FunI (K : PySem.W.Frag) (f : Addr) (fd : FuncData) : Prop := FunD K "__init__" "Ratio.__init__" (defArgs sInit) (defBody sInit) (defScope sInit) [.int 1] [] f fd
def HasI (P : Program) (w : World) (K : PySem.W.Frag) (mg : Str → Option Value) (base : Heap) (C : Addr) : Prop := ∃ f, Mk K C f ∧ FnR P w K mg base CX0 2 f (spInit C) ∧ FnR P w K mg base CX0 2 f (spInit1 C)
theorem abs_nat (n : Int) : (if n < 0 then -n else n) = (n.natAbs : Int) := by split <;> omega
theorem ok_init {f : Addr} {fd : FuncData} (F : FunI K f fd) (T : Txt K mg C) (GI : Has P w K mg base 1 "is_integer" (spIsInteger C)) (GD : Has P w K mg base 1 "common_divisor" spDivisor) :
    FnOk P w K mg base CX0 2 f fd ["self", "number", "under"] (spInit C) := by
  refine F.ok scInit (fun vs H Q E h => ?_) (fun cdv A outer s H vs Q E hr h => ?_)
  · obtain ⟨x, dx, n, d, rfl, _⟩ := h
    rfl
  · obtain ⟨x, dx, n, d, rfl, hx, ne, d0, d1, q⟩ := h
    refine ⟨_, PSs.nox (pss_cons (ps_if (PW.pt (pw_or (pt_not (pt_val (pe_callH GI hr (by rfl) (pa_cons (pv 1) pa_nil)))) (pw_or (pt_not (pt_val (pe_callH GI hr (by rfl) (pa_cons (pv 2) pa_nil)))) (pw_or1 (pt_cmpR op_eq (pv 2) pe_int (nomark _)))))) (pss_one ps_never) pss_nil)
      (pss_cons (ps_set (i := 3) scInit.nd rfl (.inl rfl) (pe_callH GD hr (by rfl) (pa_cons (pe_callB call_abs (by rfl) T.b_abs boot_abs (pa_cons (pv 1) pa_nil)) (pa_cons (pe_callB call_abs (by rfl) T.b_abs boot_abs (pa_cons (pv 2) pa_nil)) pa_nil))))
      (pss_cons (ps_if (pt_cmpR op_lt (pv 2) pe_int (nomark _)) (pss_one ps_never) pss_nil)
      (pss_cons (SlX.ps_sl (pv 0) (pe_op op_fdiv (pv 1) (pv 3)))
      (pss_one (SlX.ps_sl (pv 0) (pe_op op_fdiv (pv 2) (pv 3)))))))), ?_⟩
    refine ⟨.int n, rfl, .inl ⟨n, rfl, true, rfl, iteF ?_⟩⟩
    refine ⟨.int d, rfl, .inl ⟨d, rfl, true, rfl, iteF ?_⟩⟩
    refine ⟨.int d, rfl, rfl, _, rfl, ite2 (fun e => ?_) (fun _ => ?_)⟩
    · have z : V.int d = V.int 0 := of_decide_eq_true e
      have := V.int.inj z
      omega
    refine ⟨.int n, rfl, n, rfl, .int d, rfl, d, rfl, n.natAbs, d.natAbs, by rw [abs_nat, abs_nat]; rfl, ?_⟩
    refine ⟨.int d, rfl, d, 0, rfl, rfl, _, rfl, ite2 (fun e => ?_) (fun _ => ?_)⟩
    · have z : d < 0 := of_decide_eq_true e
      omega
    have hg := gcd_pos (n := n) d0
    have hl := gcd_le (n := n) d0
    have g0 : (0 : Int) < (Int.gcd n d : Int) := by omega
    have g1 : (Int.gcd n d : Int) < 1073741824 := by omega
    obtain ⟨p0, S0⟩ := T.s0
    obtain ⟨p1, S1⟩ := T.s1
    refine ⟨.int n, rfl, .int (Int.gcd n d), rfl, n, (Int.gcd n d : Int), rfl, rfl, ⟨g0, g1⟩, .ref x, rfl, x, C, dx, p0, [], 0, rfl, .inl ⟨hx, rfl⟩, T.cl, S0, ?_⟩
    refine ⟨.int d, rfl, .int (Int.gcd n d), rfl, d, (Int.gcd n d : Int), rfl, rfl, ⟨g0, g1⟩, .ref x, rfl, x, C, dx, p1, _, 1, rfl, SlX.slH_slt ne, T.cl, S1, ?_⟩
    rw [SlX.slH_twice ne]
    refine q _ ⟨dx, ?_, ?_⟩ fun b o e n1 n2 => ?_
    · unfold SlX.slH
      exact upd_same
    · unfold SlX.slH
      rw [upd_ne ne, upd_same]
    · rw [SlX.slH_ne n1 n2]
      exact e
theorem has_init {f : Addr} {fd : FuncData} (F : FunI K f fd) (M : Mk K C f) (T : Txt K mg C) (GI : Has P w K mg base 1 "is_integer" (spIsInteger C)) (GD : Has P w K mg base 1 "common_divisor" spDivisor) : HasI P w K mg base C := by
  have G := ok_init (P := P) (w := w) (base := base) F T GI GD
  obtain ⟨d3, v3, b3⟩ := F.binds1 (ps := ["self", "number", "under"]) 3 1 (by simp) rfl (fun _ _ _ _ _ _ _ us its h1 h2 => match us, its, h1, h2 with | [_, _, _], [_], _, _ => ⟨_, rfl, rfl⟩)
  obtain ⟨d2, v2, b2⟩ := F.binds1 (ps := ["self", "number", "under"]) 2 0 (by simp) rfl (fun _ _ _ _ _ _ _ us its h1 h2 => match us, its, h1, h2 with | [_, _], [_], _, _ => ⟨_, rfl, rfl⟩)
  refine ⟨f, M, (G.raw b3 v3).imp fun vs H Q E h => ?_, (G.raw b2 v2).imp fun vs H Q E h => ?_⟩
  · show spInit C (vs ++ []) H Q E
    rw [List.append_nil]
    exact h
  · obtain ⟨x, dx, n, rfl, hx, ne, q⟩ := h
    refine ⟨x, dx, n, 1, rfl, hx, ne, by decide, by decide, fun H' hr k => q H' ?_ k⟩
    have e := ofInt_eq n
    unfold ofInt at e
    rw [e] at hr
    exact hr
end
section
variable {X : Cx} {C : Addr} {k : Nat} {e : Expr} {es : List Expr} {t : TA} {p pos : Pos}
theorem made_same {H H' : Hp} {x dx : Addr} (hx : H x = none) (hd : H dx = none) (kp : ∀ b o, (upd (upd H dx (.own x)) x (.ins C dx [])) b = some o → b ≠ x → b ≠ dx → H' b = some o) : Same H H' := fun b o e => by
  have n1 := ne_of_none e hx
  have n2 := ne_of_none e hd
  exact kp b o (by rw [upd_ne n1, upd_ne n2]; exact e) n1 n2
/-- Ratio(n, d) -/
theorem pe_ratio2 (G : HasI X.prog X.w X.K X.mg X.base C) (T : Txt X.K X.mg C) (room : Room k X.A) (hg : Gl X "Ratio") (hargs : PA X (e :: es) t) (hjk : 3 ≤ k := by decide)
    (he : starEach (e :: es) X.env = (false, eval e X.env) :: starEach es X.env := by rfl) (hpl : (backTo pos (starEach es X.env)).any (·.1) = false := by rfl) :
    PE X (.Call (.Name "Ratio" p) (e :: es) [] pos) (fun σ H Q => t σ H fun vs H1 => ∃ n d, vs = [.int n, .int d] ∧ 0 < d ∧ d < 1073741824 ∧ New C H1 (red n d) Q) := by
  obtain ⟨f, M, F, _⟩ := G
  refine ⟨fun pins s σ H Q I h => ?_⟩
  refine wpAny_Call_Name_kw (ld_glob I hg T.mgC ?_ (by decide))
  refine PySem.W.callWith_K (h₀ := X.base) I.ok.mod.kin M.kp (thn (hargs.run pos pins s σ H _ I h) fun us s1 hq => ?_) he hpl
  obtain ⟨vs, H1, I1, r, n, d, ev, d0, d1, q⟩ := hq
  subst ev
  refine ⟨I1.kIn, StX.run_makeR (k := 2) M F (room.mono hjk) pass0 I1 r fun x dx hx hdx ne => ?_⟩
  refine ⟨x, dx, n, d, rfl, upd_same, ne, d0, d1, fun H' hr kp => ⟨rfl, q x H' (made_same hx hdx kp) hx hr⟩⟩
/-- Ratio(n) -/
theorem pe_ratio1 (G : HasI X.prog X.w X.K X.mg X.base C) (T : Txt X.K X.mg C) (room : Room k X.A) (hg : Gl X "Ratio") (hargs : PA X (e :: es) t) (hjk : 3 ≤ k := by decide)
    (he : starEach (e :: es) X.env = (false, eval e X.env) :: starEach es X.env := by rfl) (hpl : (backTo pos (starEach es X.env)).any (·.1) = false := by rfl) :
    PE X (.Call (.Name "Ratio" p) (e :: es) [] pos) (fun σ H Q => t σ H fun vs H1 => ∃ n, vs = [.int n] ∧ New C H1 (n, 1) Q) := by
  obtain ⟨f, M, _, F⟩ := G
  refine ⟨fun pins s σ H Q I h => ?_⟩
  refine wpAny_Call_Name_kw (ld_glob I hg T.mgC ?_ (by decide))
  refine PySem.W.callWith_K (h₀ := X.base) I.ok.mod.kin M.kp (thn (hargs.run pos pins s σ H _ I h) fun us s1 hq => ?_) he hpl
  obtain ⟨vs, H1, I1, r, n, ev, q⟩ := hq
  subst ev
  refine ⟨I1.kIn, StX.run_makeR (k := 2) M F (room.mono hjk) pass0 I1 r fun x dx hx hdx ne => ?_⟩
  refine ⟨x, dx, n, rfl, upd_same, ne, fun H' hr kp => ⟨rfl, q x H' (made_same hx hdx kp) hx hr⟩⟩
end
end K11
namespace K11
open PySem PySem.Spec PyProof.Rows L2
section
variable {P : Program} {w : World} {K : PySem.W.Frag} {mg : Str → Option Value} {base : Heap} {C : Addr}
theorem fit_mul {r s : R} (fr : Fit r) (fs : Fit s) : r.2 * s.2 < 1073741824 := by
  have a := fr.hd
  have b := fs.hd
  have c : r.2 * s.2 ≤ 16383 * 16383 := Int.mul_le_mul a b (Int.le_of_lt fs.pos) (by decide)
  omega
/-! ### number -/
theorem sc_number : FnScope ["self"] ["self"] (defScope sNumber) := ⟨rfl, rfl, rfl, by decide +kernel, rfl, by decide +kernel, by decide +kernel⟩
theorem has_number (D : DefP K C "number" "Ratio.number" sNumber) (T : Txt K mg C) : HasP P w K mg base C 1 "number" (spNumber C) := by
  obtain ⟨p, f, fd, F, hp⟩ := D
  refine ⟨p, f, okR F (F.binds (ps := ["self"]) fun _ _ _ _ _ _ us hl => match us, hl with | [_], _ => rfl) sc_number (fun vs H Q E h => ?_) (fun cdv A outer s H vs Q E hr h => ?_), hp⟩
  · obtain ⟨a, r, rfl, _⟩ := h
    rfl
  · obtain ⟨a, r, rfl, ha, q⟩ := h
    refine ⟨_, pss_one (ps_ret (pe_above T (pv 0))), ?_⟩
    exact ⟨.ref a, rfl, a, r, rfl, ha, q⟩
/-! ### under -/
theorem sc_under : FnScope ["self"] ["self"] (defScope sUnder) := ⟨rfl, rfl, rfl, by decide +kernel, rfl, by decide +kernel, by decide +kernel⟩
theorem has_under (D : DefP K C "under" "Ratio.under" sUnder) (T : Txt K mg C) : HasP P w K mg base C 1 "under" (spUnder C) := by
  obtain ⟨p, f, fd, F, hp⟩ := D
  refine ⟨p, f, okR F (F.binds (ps := ["self"]) fun _ _ _ _ _ _ us hl => match us, hl with | [_], _ => rfl) sc_under (fun vs H Q E h => ?_) (fun cdv A outer s H vs Q E hr h => ?_), hp⟩
  · obtain ⟨a, r, rfl, _⟩ := h
    rfl
  · obtain ⟨a, r, rfl, ha, q⟩ := h
    refine ⟨_, pss_one (ps_ret (pe_below T (pv 0))), ?_⟩
    exact ⟨.ref a, rfl, a, r, rfl, ha, q⟩
/-! ### text -/
theorem sc_text : FnScope ["self"] ["self"] (defScope sText) := ⟨rfl, rfl, rfl, by decide +kernel, rfl, by decide +kernel, by decide +kernel⟩
theorem log2_of {n : Int} (h : n.natAbs ≤ 4611686018427387904) : n.natAbs.log2 < 64 := by
  by_cases z : n.natAbs = 0
  · rw [z]; decide
  · exact (Nat.log2_lt z).mpr (by omega)
theorem len_of {n : Int} (h : n.natAbs ≤ 4611686018427387904) : (Str.ofString (toString n)).length ≤ 65 := by
  rw [PySem.ofString_length]
  exact PySem.int_text_length_le (by decide) (log2_of h)
theorem has_text (D : DefP K C "text" "Ratio.text" sText) (T : Txt K mg C) : HasP P w K mg base C 1 "text" (spText C) := by
  obtain ⟨p, f, fd, F, hp⟩ := D
  refine ⟨p, f, okR F (F.binds (ps := ["self"]) fun _ _ _ _ _ _ us hl => match us, hl with | [_], _ => rfl) sc_text (fun vs H Q E h => ?_) (fun cdv A outer s H vs Q E hr h => ?_), hp⟩
  · obtain ⟨a, r, rfl, _⟩ := h
    rfl
  · obtain ⟨a, r, rfl, ha, fit, q⟩ := h
    refine ⟨_, pss_one (ps_ret (pe_ifExp (pt_cmpR op_eq (pe_below T (pv 0)) pe_int (nomark _)) (pe_callTy call_str_int (by rfl) T.b_str PyProof.Rows.boot_str (pa_cons (pe_above T (pv 0)) pa_nil))
      (pe_joined (.cons (pe_fmt (pe_above T (pv 0))) (.cons pe_str (.cons (pe_fmt (pe_below T (pv 0))) .nil)))))), ?_⟩
    have l1 := log2_of fit.hn
    have u1 : r.2.natAbs ≤ 4611686018427387904 := by
      have := fit.pos
      have := fit.hd
      omega
    have l2 := log2_of u1
    have n1 := len_of fit.hn
    have n2 := len_of u1
    have big : (1000 : Nat) ≤ sizeLine := by rw [sizeLine_eq]; decide
    refine ⟨.ref a, rfl, a, r, rfl, ha, rfl, _, rfl, ite2 (fun e => ?_) (fun e => ?_)⟩
    · have z : V.int r.2 = V.int 1 := of_decide_eq_true e
      have e1 : r.2 = 1 := V.int.inj z
      refine ⟨.ref a, rfl, a, r, rfl, ha, r.1, rfl, by omega, ?_⟩
      have et : txt r = Str.ofString (toString r.1) := if_pos e1
      rw [et] at q
      exact q
    · have e1 : ¬ r.2 = 1 := fun z => e (decide_eq_true (by rw [z]))
      have et : txt r = ((Str.empty ++ Str.ofString (toString r.1)) ++ Str.ofString "/") ++ Str.ofString (toString r.2) := if_neg e1
      have a0 : (Str.empty).length = 0 := rfl
      have a1 : (Str.ofString "/").length = 1 := rfl
      have b1 : (Str.empty ++ Str.ofString (toString r.1)).length ≤ sizeLine := by rw [strLen_append]; omega
      have b2 : ((Str.empty ++ Str.ofString (toString r.1)) ++ Str.ofString "/").length ≤ sizeLine := by rw [strLen_append, strLen_append]; omega
      have b3 : (((Str.empty ++ Str.ofString (toString r.1)) ++ Str.ofString "/") ++ Str.ofString (toString r.2)).length ≤ sizeLine := by rw [strLen_append, strLen_append, strLen_append]; omega
      refine ⟨.ref a, rfl, a, r, rfl, ha, .inr ⟨r.1, rfl, by omega, _, rfl, b1, _, rfl, b2, .ref a, rfl, a, r, rfl, ha, .inr ⟨r.2, rfl, by omega, _, rfl, b3, ?_⟩⟩⟩
      rw [et] at q
      exact q
/-! ### == -/
theorem sc_eq : FnScope ["self", "other"] ["self", "other"] (defScope sEq) := ⟨rfl, rfl, rfl, by decide +kernel, rfl, by decide +kernel, by decide +kernel⟩
theorem has_eq (D : DefM K C "__eq__" "Ratio.__eq__" sEq) (T : Txt K mg C) : HasM P w K mg base C 1 "__eq__" (spEq C) := by
  obtain ⟨f, fd, F, hp⟩ := D
  refine ⟨f, okR F (F.binds (ps := ["self", "other"]) fun _ _ _ _ _ _ us hl => match us, hl with | [_, _], _ => rfl) sc_eq (fun vs H Q E h => ?_) (fun cdv A outer s H vs Q E hr h => ?_), hp⟩
  · obtain ⟨a, r, b, s', rfl, _⟩ := h
    rfl
  · obtain ⟨a, r, b, s', rfl, ha, hb, q⟩ := h
    refine ⟨_, pss_one (ps_ret (pe_and (pe_callB (call_is T) (by rfl) T.b_isinstance boot_isinstance (pa_cons (pv 1) (pa_cons (pe_ratioC T (by rfl)) pa_nil)))
      (pe_and (pe_cmpR op_eq (pe_above T (pv 0)) (pe_above T (pv 1)) (nomark _)) (pe_one (pe_cmpR op_eq (pe_below T (pv 0)) (pe_below T (pv 1)) (nomark _)))))), ?_⟩
    refine ⟨.ref b, rfl, .inr (.inr (.inl ⟨b, s', rfl, hb, true, rfl, iteT ?_⟩))⟩
    refine ⟨.ref a, rfl, a, r, rfl, ha, .ref b, rfl, b, s', rfl, hb, rfl, _, rfl, ?_⟩
    have e1 : decide (V.int r.1 = V.int s'.1) = decide (r.1 = s'.1) := by
      by_cases z : r.1 = s'.1
      · rw [decide_eq_true z, z]; exact decide_eq_true rfl
      · rw [decide_eq_false z]; exact decide_eq_false fun y => z (V.int.inj y)
    have e2 : decide (V.int r.2 = V.int s'.2) = decide (r.2 = s'.2) := by
      by_cases z : r.2 = s'.2
      · rw [decide_eq_true z, z]; exact decide_eq_true rfl
      · rw [decide_eq_false z]; exact decide_eq_false fun y => z (V.int.inj y)
    rw [e1]
    cases z : decide (r.1 = s'.1) with
    | true =>
      refine iteT ?_
      refine ⟨.ref a, rfl, a, r, rfl, ha, .ref b, rfl, b, s', rfl, hb, rfl, ?_⟩
      rw [e2]
      rw [z] at q
      exact q
    | false =>
      refine iteF ?_
      rw [z] at q
      exact q
/-! ### is_number, ratio_of, spacing -/
theorem sc_isNumber : FnScope ["value"] ["value"] (defScope sIsNumber) := ⟨rfl, rfl, rfl, by decide +kernel, rfl, by decide +kernel, by decide +kernel⟩
theorem has_isNumber (D : Def K mg "is_number" sIsNumber) (T : Txt K mg C) (GI : Has P w K mg base 1 "is_integer" (spIsInteger C)) : Has P w K mg base 2 "is_number" (spIsNumber C) := by
  obtain ⟨f, fd, F, hm⟩ := D
  refine ⟨f, okR F (F.binds (ps := ["value"]) fun _ _ _ _ _ _ us hl => match us, hl with | [_], _ => rfl) sc_isNumber (fun vs H Q E h => ?_) (fun cdv A outer s H vs Q E hr h => ?_), hm, F.kp⟩
  · obtain ⟨v, r, rfl, _⟩ := h
    rfl
  · obtain ⟨v, r, rfl, hn, q⟩ := h
    refine ⟨_, pss_one (ps_ret (pe_or (pe_callH GI hr (by rfl) (pa_cons (pv 0) pa_nil)) (pe_one (pe_callB (call_is T) (by rfl) T.b_isinstance boot_isinstance (pa_cons (pv 0) (pa_cons (pe_ratioC T (by rfl)) pa_nil)))))), ?_⟩
    rcases hn with ⟨a, rfl, ha⟩ | ⟨i, rfl, _⟩
    · refine ⟨.ref a, rfl, .inr ⟨a, r, rfl, ha, false, rfl, iteF ?_⟩⟩
      exact ⟨.ref a, rfl, .inr (.inr (.inl ⟨a, r, rfl, ha, q⟩))⟩
    · exact ⟨.int i, rfl, .inl ⟨i, rfl, true, rfl, iteT q⟩⟩
theorem sc_ratioOf : FnScope ["number"] ["number"] (defScope sRatioOf) := ⟨rfl, rfl, rfl, by decide +kernel, rfl, by decide +kernel, by decide +kernel⟩
theorem has_ratioOf (D : Def K mg "ratio_of" sRatioOf) (T : Txt K mg C) (GR : HasI P w K mg base C) : Has P w K mg base 4 "ratio_of" (spRatioOf C) := by
  obtain ⟨f, fd, F, hm⟩ := D
  refine ⟨f, okR F (F.binds (ps := ["number"]) fun _ _ _ _ _ _ us hl => match us, hl with | [_], _ => rfl) sc_ratioOf (fun vs H Q E h => ?_) (fun cdv A outer s H vs Q E hr h => ?_), hm, F.kp⟩
  · obtain ⟨v, r, rfl, _⟩ := h
    rfl
  · obtain ⟨v, r, rfl, hn, q⟩ := h
    refine ⟨_, pss_one (ps_ret (pe_ifExp (pt_val (pe_callB (call_is T) (by rfl) T.b_isinstance boot_isinstance (pa_cons (pv 0) (pa_cons (pe_bltn (v := .ty "int") (by rfl) T.b_int PyProof.Rows.boot_int rfl) pa_nil))))
      (pe_ratio1 GR T hr (by rfl) (pa_cons (pv 0) pa_nil)) (pv 0))), ?_⟩
    refine ⟨v, rfl, .inl ⟨v, r, rfl, hn, _, rfl, ?_⟩⟩
    rcases hn with ⟨a, rfl, ha⟩ | ⟨i, rfl, rfl⟩
    · refine iteF ?_
      exact ⟨.ref a, rfl, q a H (Same.refl H) ha⟩
    · refine iteT ?_
      exact ⟨.int i, rfl, i, rfl, fun p H' sm _ hr' => q p H' sm hr'⟩
theorem sc_spacing : FnScope ["one", "other", "beside"] ["one", "other"] (defScope sSpacing) := ⟨rfl, rfl, rfl, by decide +kernel, rfl, by decide +kernel, by decide +kernel⟩
theorem has_spacing (D : Def K mg "spacing" sSpacing) (T : Txt K mg C) (GO : Has P w K mg base 4 "ratio_of" (spRatioOf C)) : Has P w K mg base 5 "spacing" (spSpacing C) := by
  obtain ⟨f, fd, F, hm⟩ := D
  refine ⟨f, okR F (F.binds (ps := ["one", "other"]) fun _ _ _ _ _ _ us hl => match us, hl with | [_, _], _ => rfl) sc_spacing (fun vs H Q E h => ?_) (fun cdv A outer s H vs Q E hr h => ?_), hm, F.kp⟩
  · obtain ⟨a, r, v, s', rfl, _⟩ := h
    rfl
  · obtain ⟨a, r, v, s', rfl, ha, hn, fr, fs, q⟩ := h
    refine ⟨_, pss_cons (ps_set (i := 2) sc_spacing.nd rfl (.inl rfl) (pe_callH GO hr (by rfl) (pa_cons (pv 1) pa_nil)))
      (pss_one (ps_ret (pe_op op_sub (pe_op op_mul (pe_above T (pv 0)) (pe_below T (pv 2))) (pe_op op_mul (pe_above T (pv 2)) (pe_below T (pv 0)))))), ?_⟩
    refine ⟨v, rfl, v, s', rfl, hn, fun b H' sm hb => ?_⟩
    have ha' := ha.same sm
    refine ⟨.ref a, rfl, a, r, rfl, ha', .ref b, rfl, b, s', rfl, hb, _, _, rfl, rfl, .inl fr.lo, ?_⟩
    refine ⟨.ref b, rfl, b, s', rfl, hb, .ref a, rfl, a, r, rfl, ha', _, _, rfl, rfl, .inl fs.lo, _, _, rfl, rfl, ?_⟩
    exact q H' sm
/-! ### plus -/
theorem sc_plus : FnScope ["one", "other"] ["one", "other"] (defScope sPlus) := ⟨rfl, rfl, rfl, by decide +kernel, rfl, by decide +kernel, by decide +kernel⟩
theorem has_plus (D : Def K mg "plus" sPlus) (T : Txt K mg C) (GR : HasI P w K mg base C) : Has P w K mg base 4 "plus" (spBin C add) := by
  obtain ⟨f, fd, F, hm⟩ := D
  refine ⟨f, okR F (F.binds (ps := ["one", "other"]) fun _ _ _ _ _ _ us hl => match us, hl with | [_, _], _ => rfl) sc_plus (fun vs H Q E h => ?_) (fun cdv A outer s H vs Q E hr h => ?_), hm, F.kp⟩
  · obtain ⟨a, r, b, s', rfl, _⟩ := h
    rfl
  · obtain ⟨a, r, b, s', rfl, ha, hb, fr, fs, q⟩ := h
    refine ⟨_, pss_one (ps_ret (pe_ratio2 GR T hr (by rfl) (pa_cons (pe_op op_add (pe_op op_mul (pe_above T (pv 0)) (pe_below T (pv 1))) (pe_op op_mul (pe_above T (pv 1)) (pe_below T (pv 0))))
      (pa_cons (pe_op op_mul (pe_below T (pv 0)) (pe_below T (pv 1))) pa_nil)))), ?_⟩
    refine ⟨.ref a, rfl, a, r, rfl, ha, .ref b, rfl, b, s', rfl, hb, _, _, rfl, rfl, .inl fr.lo, ?_⟩
    refine ⟨.ref b, rfl, b, s', rfl, hb, .ref a, rfl, a, r, rfl, ha, _, _, rfl, rfl, .inl fs.lo, _, _, rfl, rfl, ?_⟩
    refine ⟨.ref a, rfl, a, r, rfl, ha, .ref b, rfl, b, s', rfl, hb, _, _, rfl, rfl, .inl fr.un, ?_⟩
    exact ⟨_, _, rfl, Int.mul_pos fr.pos fs.pos, fit_mul fr fs, q⟩
/-! ### minus -/
theorem sc_minus : FnScope ["one", "other"] ["one", "other"] (defScope sMinus) := ⟨rfl, rfl, rfl, by decide +kernel, rfl, by decide +kernel, by decide +kernel⟩
theorem has_minus (D : Def K mg "minus" sMinus) (T : Txt K mg C) (GR : HasI P w K mg base C) : Has P w K mg base 4 "minus" (spBin C sub) := by
  obtain ⟨f, fd, F, hm⟩ := D
  refine ⟨f, okR F (F.binds (ps := ["one", "other"]) fun _ _ _ _ _ _ us hl => match us, hl with | [_, _], _ => rfl) sc_minus (fun vs H Q E h => ?_) (fun cdv A outer s H vs Q E hr h => ?_), hm, F.kp⟩
  · obtain ⟨a, r, b, s', rfl, _⟩ := h
    rfl
  · obtain ⟨a, r, b, s', rfl, ha, hb, fr, fs, q⟩ := h
    refine ⟨_, pss_one (ps_ret (pe_ratio2 GR T hr (by rfl) (pa_cons (pe_op op_sub (pe_op op_mul (pe_above T (pv 0)) (pe_below T (pv 1))) (pe_op op_mul (pe_above T (pv 1)) (pe_below T (pv 0))))
      (pa_cons (pe_op op_mul (pe_below T (pv 0)) (pe_below T (pv 1))) pa_nil)))), ?_⟩
    refine ⟨.ref a, rfl, a, r, rfl, ha, .ref b, rfl, b, s', rfl, hb, _, _, rfl, rfl, .inl fr.lo, ?_⟩
    refine ⟨.ref b, rfl, b, s', rfl, hb, .ref a, rfl, a, r, rfl, ha, _, _, rfl, rfl, .inl fs.lo, _, _, rfl, rfl, ?_⟩
    refine ⟨.ref a, rfl, a, r, rfl, ha, .ref b, rfl, b, s', rfl, hb, _, _, rfl, rfl, .inl fr.un, ?_⟩
    exact ⟨_, _, rfl, Int.mul_pos fr.pos fs.pos, fit_mul fr fs, q⟩
/-! ### times, halved, abs -/
theorem sc_times : FnScope ["one", "other"] ["one", "other"] (defScope sTimes) := ⟨rfl, rfl, rfl, by decide +kernel, rfl, by decide +kernel, by decide +kernel⟩
theorem has_times (D : Def K mg "times" sTimes) (T : Txt K mg C) (GR : HasI P w K mg base C) : Has P w K mg base 4 "times" (spBin C mul) := by
  obtain ⟨f, fd, F, hm⟩ := D
  refine ⟨f, okR F (F.binds (ps := ["one", "other"]) fun _ _ _ _ _ _ us hl => match us, hl with | [_, _], _ => rfl) sc_times (fun vs H Q E h => ?_) (fun cdv A outer s H vs Q E hr h => ?_), hm, F.kp⟩
  · obtain ⟨a, r, b, s', rfl, _⟩ := h
    rfl
  · obtain ⟨a, r, b, s', rfl, ha, hb, fr, fs, q⟩ := h
    refine ⟨_, pss_one (ps_ret (pe_ratio2 GR T hr (by rfl) (pa_cons (pe_op op_mul (pe_above T (pv 0)) (pe_above T (pv 1))) (pa_cons (pe_op op_mul (pe_below T (pv 0)) (pe_below T (pv 1))) pa_nil)))), ?_⟩
    refine ⟨.ref a, rfl, a, r, rfl, ha, .ref b, rfl, b, s', rfl, hb, _, _, rfl, rfl, .inl fr.lo, ?_⟩
    refine ⟨.ref a, rfl, a, r, rfl, ha, .ref b, rfl, b, s', rfl, hb, _, _, rfl, rfl, .inl fr.un, ?_⟩
    exact ⟨_, _, rfl, Int.mul_pos fr.pos fs.pos, fit_mul fr fs, q⟩
theorem sc_halved : FnScope ["self"] ["self"] (defScope sHalved) := ⟨rfl, rfl, rfl, by decide +kernel, rfl, by decide +kernel, by decide +kernel⟩
theorem has_halved (D : DefM K C "halved" "Ratio.halved" sHalved) (T : Txt K mg C) (GR : HasI P w K mg base C) : HasM P w K mg base C 4 "halved" (spHalved C) := by
  obtain ⟨f, fd, F, hp⟩ := D
  refine ⟨f, okR F (F.binds (ps := ["self"]) fun _ _ _ _ _ _ us hl => match us, hl with | [_], _ => rfl) sc_halved (fun vs H Q E h => ?_) (fun cdv A outer s H vs Q E hr h => ?_), hp⟩
  · obtain ⟨a, r, rfl, _⟩ := h
    rfl
  · obtain ⟨a, r, rfl, ha, fr, q⟩ := h
    refine ⟨_, pss_one (ps_ret (pe_ratio2 GR T hr (by rfl) (pa_cons (pe_above T (pv 0)) (pa_cons (pe_op op_mul pe_int (pe_below T (pv 0))) pa_nil)))), ?_⟩
    have := fr.pos
    have := fr.hd
    refine ⟨.ref a, rfl, a, r, rfl, ha, .ref a, rfl, a, r, rfl, ha, _, _, rfl, rfl, .inr fr.un, ?_⟩
    exact ⟨_, _, rfl, by omega, by omega, q⟩
theorem sc_abs : FnScope ["self"] ["self"] (defScope sAbs) := ⟨rfl, rfl, rfl, by decide +kernel, rfl, by decide +kernel, by decide +kernel⟩
theorem has_abs (D : DefM K C "__abs__" "Ratio.__abs__" sAbs) (T : Txt K mg C) (GR : HasI P w K mg base C) : HasM P w K mg base C 4 "__abs__" (spAbs C) := by
  obtain ⟨f, fd, F, hp⟩ := D
  refine ⟨f, okR F (F.binds (ps := ["self"]) fun _ _ _ _ _ _ us hl => match us, hl with | [_], _ => rfl) sc_abs (fun vs H Q E h => ?_) (fun cdv A outer s H vs Q E hr h => ?_), hp⟩
  · obtain ⟨a, r, rfl, _⟩ := h
    rfl
  · obtain ⟨a, r, rfl, ha, fr, q⟩ := h
    refine ⟨_, pss_one (ps_ret (pe_ratio2 GR T hr (by rfl) (pa_cons (pe_callB call_abs (by rfl) T.b_abs boot_abs (pa_cons (pe_above T (pv 0)) pa_nil)) (pa_cons (pe_below T (pv 0)) pa_nil)))), ?_⟩
    have := fr.pos
    have := fr.hd
    refine ⟨.ref a, rfl, a, r, rfl, ha, r.1, rfl, .ref a, rfl, a, r, rfl, ha, ?_⟩
    exact ⟨_, _, rfl, by omega, by omega, q⟩
/-! ### the signs -/
theorem sc_lt : FnScope ["self", "other"] ["self", "other"] (defScope sLt) := ⟨rfl, rfl, rfl, by decide +kernel, rfl, by decide +kernel, by decide +kernel⟩
theorem has_lt (D : DefM K C "__lt__" "Ratio.__lt__" sLt) (T : Txt K mg C) (GN : Has P w K mg base 2 "is_number" (spIsNumber C)) (GS : Has P w K mg base 5 "spacing" (spSpacing C)) :
    HasM P w K mg base C 6 "__lt__" (spCmp C (fun x => decide (x < 0))) := by
  obtain ⟨f, fd, F, hp⟩ := D
  refine ⟨f, okR F (F.binds (ps := ["self", "other"]) fun _ _ _ _ _ _ us hl => match us, hl with | [_, _], _ => rfl) sc_lt (fun vs H Q E h => ?_) (fun cdv A outer s H vs Q E hr h => ?_), hp⟩
  · obtain ⟨a, r, v, s', rfl, _⟩ := h
    rfl
  · obtain ⟨a, r, v, s', rfl, ha, hn, fr, fs, q⟩ := h
    refine ⟨_, pss_cons (ps_if (pt_not (pt_val (pe_callH GN hr (by rfl) (pa_cons (pv 1) pa_nil)))) (pss_one ps_never) pss_nil)
      (pss_one (ps_ret (pe_cmpR op_lt (pe_callH GS hr (by rfl) (pa_cons (pv 0) (pa_cons (pv 1) pa_nil))) pe_int (nomark _)))), ?_⟩
    refine ⟨v, rfl, v, s', rfl, hn, true, rfl, iteF ?_⟩
    refine ⟨.ref a, rfl, v, rfl, a, r, v, s', rfl, ha, hn, fr, fs, fun H' sm => ?_⟩
    exact ⟨_, _, rfl, rfl, q H' sm⟩
theorem sc_le : FnScope ["self", "other"] ["self", "other"] (defScope sLe) := ⟨rfl, rfl, rfl, by decide +kernel, rfl, by decide +kernel, by decide +kernel⟩
theorem has_le (D : DefM K C "__le__" "Ratio.__le__" sLe) (T : Txt K mg C) (GN : Has P w K mg base 2 "is_number" (spIsNumber C)) (GS : Has P w K mg base 5 "spacing" (spSpacing C)) :
    HasM P w K mg base C 6 "__le__" (spCmp C (fun x => decide (x ≤ 0))) := by
  obtain ⟨f, fd, F, hp⟩ := D
  refine ⟨f, okR F (F.binds (ps := ["self", "other"]) fun _ _ _ _ _ _ us hl => match us, hl with | [_, _], _ => rfl) sc_le (fun vs H Q E h => ?_) (fun cdv A outer s H vs Q E hr h => ?_), hp⟩
  · obtain ⟨a, r, v, s', rfl, _⟩ := h
    rfl
  · obtain ⟨a, r, v, s', rfl, ha, hn, fr, fs, q⟩ := h
    refine ⟨_, pss_cons (ps_if (pt_not (pt_val (pe_callH GN hr (by rfl) (pa_cons (pv 1) pa_nil)))) (pss_one ps_never) pss_nil)
      (pss_one (ps_ret (pe_cmpR op_le (pe_callH GS hr (by rfl) (pa_cons (pv 0) (pa_cons (pv 1) pa_nil))) pe_int (nomark _)))), ?_⟩
    refine ⟨v, rfl, v, s', rfl, hn, true, rfl, iteF ?_⟩
    refine ⟨.ref a, rfl, v, rfl, a, r, v, s', rfl, ha, hn, fr, fs, fun H' sm => ?_⟩
    exact ⟨_, _, rfl, rfl, q H' sm⟩
theorem sc_gt : FnScope ["self", "other"] ["self", "other"] (defScope sGt) := ⟨rfl, rfl, rfl, by decide +kernel, rfl, by decide +kernel, by decide +kernel⟩
theorem has_gt (D : DefM K C "__gt__" "Ratio.__gt__" sGt) (T : Txt K mg C) (GN : Has P w K mg base 2 "is_number" (spIsNumber C)) (GS : Has P w K mg base 5 "spacing" (spSpacing C)) :
    HasM P w K mg base C 6 "__gt__" (spCmp C (fun x => decide (0 < x))) := by
  obtain ⟨f, fd, F, hp⟩ := D
  refine ⟨f, okR F (F.binds (ps := ["self", "other"]) fun _ _ _ _ _ _ us hl => match us, hl with | [_, _], _ => rfl) sc_gt (fun vs H Q E h => ?_) (fun cdv A outer s H vs Q E hr h => ?_), hp⟩
  · obtain ⟨a, r, v, s', rfl, _⟩ := h
    rfl
  · obtain ⟨a, r, v, s', rfl, ha, hn, fr, fs, q⟩ := h
    refine ⟨_, pss_cons (ps_if (pt_not (pt_val (pe_callH GN hr (by rfl) (pa_cons (pv 1) pa_nil)))) (pss_one ps_never) pss_nil)
      (pss_one (ps_ret (pe_cmpR op_gt (pe_callH GS hr (by rfl) (pa_cons (pv 0) (pa_cons (pv 1) pa_nil))) pe_int (nomark _)))), ?_⟩
    refine ⟨v, rfl, v, s', rfl, hn, true, rfl, iteF ?_⟩
    refine ⟨.ref a, rfl, v, rfl, a, r, v, s', rfl, ha, hn, fr, fs, fun H' sm => ?_⟩
    exact ⟨_, _, rfl, rfl, q H' sm⟩
theorem sc_ge : FnScope ["self", "other"] ["self", "other"] (defScope sGe) := ⟨rfl, rfl, rfl, by decide +kernel, rfl, by decide +kernel, by decide +kernel⟩
theorem has_ge (D : DefM K C "__ge__" "Ratio.__ge__" sGe) (T : Txt K mg C) (GN : Has P w K mg base 2 "is_number" (spIsNumber C)) (GS : Has P w K mg base 5 "spacing" (spSpacing C)) :
    HasM P w K mg base C 6 "__ge__" (spCmp C (fun x => decide (0 ≤ x))) := by
  obtain ⟨f, fd, F, hp⟩ := D
  refine ⟨f, okR F (F.binds (ps := ["self", "other"]) fun _ _ _ _ _ _ us hl => match us, hl with | [_, _], _ => rfl) sc_ge (fun vs H Q E h => ?_) (fun cdv A outer s H vs Q E hr h => ?_), hp⟩
  · obtain ⟨a, r, v, s', rfl, _⟩ := h
    rfl
  · obtain ⟨a, r, v, s', rfl, ha, hn, fr, fs, q⟩ := h
    refine ⟨_, pss_cons (ps_if (pt_not (pt_val (pe_callH GN hr (by rfl) (pa_cons (pv 1) pa_nil)))) (pss_one ps_never) pss_nil)
      (pss_one (ps_ret (pe_cmpR op_ge (pe_callH GS hr (by rfl) (pa_cons (pv 0) (pa_cons (pv 1) pa_nil))) pe_int (nomark _)))), ?_⟩
    refine ⟨v, rfl, v, s', rfl, hn, true, rfl, iteF ?_⟩
    refine ⟨.ref a, rfl, v, rfl, a, r, v, s', rfl, ha, hn, fr, fs, fun H' sm => ?_⟩
    exact ⟨_, _, rfl, rfl, q H' sm⟩
/-! ### the operators -/
theorem sc_add : FnScope ["self", "other"] ["self", "other"] (defScope sAdd) := ⟨rfl, rfl, rfl, by decide +kernel, rfl, by decide +kernel, by decide +kernel⟩
theorem has_add (D : DefM K C "__add__" "Ratio.__add__" sAdd) (T : Txt K mg C) (GN : Has P w K mg base 2 "is_number" (spIsNumber C)) (GO : Has P w K mg base 4 "ratio_of" (spRatioOf C)) (GB : Has P w K mg base 4 "plus" (spBin C add)) :
    HasM P w K mg base C 5 "__add__" (spArith C add) := by
  obtain ⟨f, fd, F, hp⟩ := D
  refine ⟨f, okR F (F.binds (ps := ["self", "other"]) fun _ _ _ _ _ _ us hl => match us, hl with | [_, _], _ => rfl) sc_add (fun vs H Q E h => ?_) (fun cdv A outer s H vs Q E hr h => ?_), hp⟩
  · obtain ⟨a, r, v, s', rfl, _⟩ := h
    rfl
  · obtain ⟨a, r, v, s', rfl, ha, hn, fr, fs, q⟩ := h
    refine ⟨_, pss_cons (ps_if (pt_not (pt_val (pe_callH GN hr (by rfl) (pa_cons (pv 1) pa_nil)))) (pss_one ps_never) pss_nil)
      (pss_one (ps_ret (pe_callH GB hr (by rfl) (pa_cons (pv 0) (pa_cons (pe_callH GO hr (by rfl) (pa_cons (pv 1) pa_nil)) pa_nil))))), ?_⟩
    refine ⟨v, rfl, v, s', rfl, hn, true, rfl, iteF ?_⟩
    refine ⟨.ref a, rfl, v, rfl, v, s', rfl, hn, fun b H1 sm hb => ?_⟩
    exact ⟨a, r, b, s', rfl, ha.same sm, hb, fr, fs, fun p H2 sm2 hp hr2 => q p H2 (sm.trans sm2) (Same.free sm hp) hr2⟩
theorem sc_sub : FnScope ["self", "other"] ["self", "other"] (defScope sSub) := ⟨rfl, rfl, rfl, by decide +kernel, rfl, by decide +kernel, by decide +kernel⟩
theorem has_sub (D : DefM K C "__sub__" "Ratio.__sub__" sSub) (T : Txt K mg C) (GN : Has P w K mg base 2 "is_number" (spIsNumber C)) (GO : Has P w K mg base 4 "ratio_of" (spRatioOf C)) (GB : Has P w K mg base 4 "minus" (spBin C sub)) :
    HasM P w K mg base C 5 "__sub__" (spArith C sub) := by
  obtain ⟨f, fd, F, hp⟩ := D
  refine ⟨f, okR F (F.binds (ps := ["self", "other"]) fun _ _ _ _ _ _ us hl => match us, hl with | [_, _], _ => rfl) sc_sub (fun vs H Q E h => ?_) (fun cdv A outer s H vs Q E hr h => ?_), hp⟩
  · obtain ⟨a, r, v, s', rfl, _⟩ := h
    rfl
  · obtain ⟨a, r, v, s', rfl, ha, hn, fr, fs, q⟩ := h
    refine ⟨_, pss_cons (ps_if (pt_not (pt_val (pe_callH GN hr (by rfl) (pa_cons (pv 1) pa_nil)))) (pss_one ps_never) pss_nil)
      (pss_one (ps_ret (pe_callH GB hr (by rfl) (pa_cons (pv 0) (pa_cons (pe_callH GO hr (by rfl) (pa_cons (pv 1) pa_nil)) pa_nil))))), ?_⟩
    refine ⟨v, rfl, v, s', rfl, hn, true, rfl, iteF ?_⟩
    refine ⟨.ref a, rfl, v, rfl, v, s', rfl, hn, fun b H1 sm hb => ?_⟩
    exact ⟨a, r, b, s', rfl, ha.same sm, hb, fr, fs, fun p H2 sm2 hp hr2 => q p H2 (sm.trans sm2) (Same.free sm hp) hr2⟩
theorem sc_mul : FnScope ["self", "other"] ["self", "other"] (defScope sMul) := ⟨rfl, rfl, rfl, by decide +kernel, rfl, by decide +kernel, by decide +kernel⟩
theorem has_mul (D : DefM K C "__mul__" "Ratio.__mul__" sMul) (T : Txt K mg C) (GN : Has P w K mg base 2 "is_number" (spIsNumber C)) (GO : Has P w K mg base 4 "ratio_of" (spRatioOf C)) (GB : Has P w K mg base 4 "times" (spBin C mul)) :
    HasM P w K mg base C 5 "__mul__" (spArith C mul) := by
  obtain ⟨f, fd, F, hp⟩ := D
  refine ⟨f, okR F (F.binds (ps := ["self", "other"]) fun _ _ _ _ _ _ us hl => match us, hl with | [_, _], _ => rfl) sc_mul (fun vs H Q E h => ?_) (fun cdv A outer s H vs Q E hr h => ?_), hp⟩
  · obtain ⟨a, r, v, s', rfl, _⟩ := h
    rfl
  · obtain ⟨a, r, v, s', rfl, ha, hn, fr, fs, q⟩ := h
    refine ⟨_, pss_cons (ps_if (pt_not (pt_val (pe_callH GN hr (by rfl) (pa_cons (pv 1) pa_nil)))) (pss_one ps_never) pss_nil)
      (pss_one (ps_ret (pe_callH GB hr (by rfl) (pa_cons (pv 0) (pa_cons (pe_callH GO hr (by rfl) (pa_cons (pv 1) pa_nil)) pa_nil))))), ?_⟩
    refine ⟨v, rfl, v, s', rfl, hn, true, rfl, iteF ?_⟩
    refine ⟨.ref a, rfl, v, rfl, v, s', rfl, hn, fun b H1 sm hb => ?_⟩
    exact ⟨a, r, b, s', rfl, ha.same sm, hb, fr, fs, fun p H2 sm2 hp hr2 => q p H2 (sm.trans sm2) (Same.free sm hp) hr2⟩
end
end K11
/-! Texts of Ratios, sign by sign. -/
namespace K11
open PySem PySem.Spec PyProof.Rows L2
open TL (tl tl_append tl_ofString len_tl ext_tl)
/-- the figures of a number -/
def dg (m : Nat) : List Nat := (Nat.toDigits 10 m).map Char.toNat
theorem dg_small {m : Nat} (h : m < 10) : dg m = [(Nat.digitChar m).toNat] := by
  unfold dg
  rw [Nat.toDigits_of_lt_base h]
  rfl
theorem dg_step {m : Nat} (h : ¬ m < 10) : dg m = dg (m / 10) ++ [(Nat.digitChar (m % 10)).toNat] := by
  have hm : m % 10 < 10 := Nat.mod_lt m (by decide)
  have t : Nat.toDigits 10 (m / 10) ++ Nat.toDigits 10 (m % 10) = Nat.toDigits 10 (10 * (m / 10) + m % 10) := Nat.toDigits_append_toDigits (by decide) (by omega) hm
  rw [Nat.div_add_mod] at t
  unfold dg
  rw [← t, List.map_append, Nat.toDigits_of_lt_base hm]
  rfl
theorem digit_in : ∀ d : Nat, d < 10 → 48 ≤ (Nat.digitChar d).toNat ∧ (Nat.digitChar d).toNat ≤ 57 ∧ ((Nat.digitChar d).toNat = 48 → d = 0) := by decide
theorem dg_in (m : Nat) : ∀ c ∈ dg m, 48 ≤ c ∧ c ≤ 57 := by
  induction m using Nat.strongRecOn with
  | _ m ih =>
    intro c hc
    by_cases h : m < 10
    · rw [dg_small h] at hc
      have e := List.mem_singleton.mp hc
      have := digit_in m h
      omega
    · rw [dg_step h] at hc
      rcases List.mem_append.mp hc with hc | hc
      · exact ih (m / 10) (by omega) c hc
      · have e := List.mem_singleton.mp hc
        have := digit_in (m % 10) (Nat.mod_lt m (by decide))
        omega
theorem dg_ne (m : Nat) : dg m ≠ [] := by
  by_cases h : m < 10
  · rw [dg_small h]
    simp
  · rw [dg_step h]
    simp
/-- no nought ahead -/
theorem dg_head (m : Nat) : ∀ c l, dg m = c :: l → m ≠ 0 → c ≠ 48 := by
  induction m using Nat.strongRecOn with
  | _ m ih =>
    intro c l e h0
    by_cases h : m < 10
    · rw [dg_small h] at e
      injection e with e1 _
      intro z
      exact h0 ((digit_in m h).2.2 (e1.trans z))
    · rw [dg_step h] at e
      cases q : dg (m / 10) with
      | nil => exact absurd q (dg_ne _)
      | cons c' l' =>
        rw [q] at e
        injection e with e1 _
        rw [← e1]
        exact ih (m / 10) (by omega) c' l' q (by omega)
theorem dg_zero : dg 0 = [48] := by decide
theorem tl_nat (m : Nat) : tl (Str.ofString (toString (m : Int))) = dg m := PySem.W.KIN.signs_num m
theorem tl_int (n : Int) : tl (Str.ofString (toString n)) = (if n < 0 then [45] else []) ++ dg n.natAbs := by
  cases n with
  | ofNat m =>
    have e : ¬ (Int.ofNat m < 0) := by
      have : (0 : Int) ≤ Int.ofNat m := Int.natCast_nonneg m
      omega
    rw [if_neg e]
    exact tl_nat m
  | negSucc m =>
    have e : Int.negSucc m < 0 := Int.negSucc_lt_zero m
    rw [if_pos e, tl_ofString]
    show (("-" : String) ++ toString (m + 1)).toList.map Char.toNat = _
    rw [String.toList_append, List.map_append]
    have h := tl_nat (m + 1)
    rw [tl_ofString] at h
    show _ ++ (toString (m + 1)).toList.map Char.toNat = [45] ++ dg (m + 1)
    rw [← h]
    rfl
/-- what stands behind the sign -/
def body (r : R) : List Nat := dg r.1.natAbs ++ (if r.2 = 1 then [] else 47 :: dg r.2.natAbs)
theorem tl_txt (r : R) (h : 0 < r.2) : tl (txt r) = (if r.1 < 0 then [45] else []) ++ body r := by
  unfold txt body
  by_cases e : r.2 = 1
  · rw [if_pos e, if_pos e, tl_int, List.append_nil]
  · rw [if_neg e, if_neg e, tl_append, tl_append, tl_append, tl_int, tl_int, if_neg (show ¬ r.2 < 0 by omega)]
    have e0 : tl Str.empty = [] := rfl
    have e1 : tl (Str.ofString "/") = [47] := rfl
    rw [e0, e1]
    simp only [List.nil_append, List.append_assoc, List.cons_append]
theorem dg_len {m : Nat} (h : m < 10 ^ 10) : (dg m).length ≤ 10 := by
  rw [← tl_nat, ← len_tl]
  exact PySem.W.KT.len_num (by omega) (by omega)
theorem txt_len {r : R} (h : Ok 9999999999 16383 r) : (txt r).length ≤ 22 := by
  have := h.pos
  have := h.hd
  have := h.hn
  rw [len_tl, tl_txt r h.pos]
  unfold body
  have a1 := dg_len (m := r.1.natAbs) (by omega)
  have a2 := dg_len (m := r.2.natAbs) (by omega)
  simp only [List.length_append]
  split <;> split <;> simp only [List.length_nil, List.length_cons] <;> omega
theorem split_no {S : List Nat} : ∀ (l acc : List Nat), (∀ c ∈ l, c ≠ 47) → TL.spl [47] 0 acc l = [acc ++ l]
  | [], acc, _ => by rw [TL.spl_nil, List.append_nil]
  | c :: l, acc, h => by
    rw [TL.spl_miss (TL.pre_of_head [] l (h c List.mem_cons_self)), split_no (S := S) l (acc ++ [c]) fun d hd => h d (List.mem_cons_of_mem _ hd), List.append_assoc]
    rfl
theorem split_at {m : List Nat} : ∀ (l acc : List Nat), (∀ c ∈ l, c ≠ 47) → TL.spl [47] 0 acc (l ++ 47 :: m) = (acc ++ l) :: TL.spl [47] 0 [] m
  | [], acc, _ => by
    show TL.spl [47] 0 acc (47 :: m) = _
    rw [TL.spl_hit (show TL.pre [47] (47 :: m) = true from TL.pre_self [47] m), List.append_nil]
    rfl
  | c :: l, acc, h => by
    show TL.spl [47] 0 acc (c :: (l ++ 47 :: m)) = _
    rw [TL.spl_miss (TL.pre_of_head [] _ (h c List.mem_cons_self)), split_at l (acc ++ [c]) fun d hd => h d (List.mem_cons_of_mem _ hd), List.append_assoc]
    rfl
theorem no47 (m : Nat) : ∀ c ∈ dg m, c ≠ 47 := fun c hc => by
  have := dg_in m c hc
  omega
abbrev num (m : Nat) : Str := Str.ofString (toString (m : Int))
/-- what split tells of the body -/
theorem split_body {z : Str} {r : R} (e : tl z = body r) : Txt.split z (Str.ofString "/") = num r.1.natAbs :: (if r.2 = 1 then [] else [num r.2.natAbs]) := by
  have e1 : tl (Str.ofString "/") = [47] := rfl
  have h := TL.split_spl z (Str.ofString "/") (by rw [e1]; simp) (TL.kind_ok (by decide +kernel))
  rw [e1, e] at h
  refine TL.map_tl_inj ?_
  rw [h]
  unfold body
  by_cases q : r.2 = 1
  · rw [if_pos q, if_pos q, List.append_nil, split_no (S := []) _ _ (no47 _)]
    show [[] ++ dg r.1.natAbs] = [tl (num r.1.natAbs)]
    rw [tl_nat, List.nil_append]
  · rw [if_neg q, if_neg q, split_at _ _ (no47 _), split_no (S := []) _ _ (no47 _)]
    show [[] ++ dg r.1.natAbs, [] ++ dg r.2.natAbs] = [tl (num r.1.natAbs), tl (num r.2.natAbs)]
    rw [tl_nat, tl_nat, List.nil_append, List.nil_append]
theorem cut_head (z : Str) : tl (cutS z none (some 1)) = (tl z).take 1 := by
  unfold cutS
  show (List.take (HT.sIx z.length z.length (some 1) - HT.sIx z.length 0 none) (List.drop (HT.sIx z.length 0 none) (tl z))) = _
  rw [show HT.sIx z.length z.length (some 1) = min 1 z.length from HT.sIx_nat z.length z.length 1, HT.sIx_none, List.drop_zero, Nat.sub_zero, len_tl]
  by_cases h : (tl z).length = 0
  · rw [List.length_eq_zero_iff.mp h]
    rfl
  · rw [Nat.min_eq_left (by omega)]
theorem cut_tail (z : Str) : tl (cutS z (some 1) none) = (tl z).drop 1 := by
  unfold cutS
  show (List.take (HT.sIx z.length z.length none - HT.sIx z.length 0 (some 1)) (List.drop (HT.sIx z.length 0 (some 1)) (tl z))) = _
  rw [show HT.sIx z.length 0 (some 1) = min 1 z.length from HT.sIx_nat z.length 0 1, HT.sIx_none, len_tl]
  by_cases h : (tl z).length = 0
  · rw [List.length_eq_zero_iff.mp h]
    rfl
  · rw [Nat.min_eq_left (by omega)]
    exact List.take_of_length_le (by rw [List.length_drop]; omega)
/-- whether a minus stands ahead -/
theorem minus_is {r : R} (h : 0 < r.2) : decide (V.str (cutS (txt r) none (some 1)) = V.str "-") = decide (r.1 < 0) := by
  have e1 : tl (Str.ofString "-") = [45] := rfl
  by_cases q : r.1 < 0
  · rw [decide_eq_true q]
    refine decide_eq_true (congrArg V.str (ext_tl ?_))
    rw [cut_head, tl_txt r h, if_pos q, e1]
    rfl
  · rw [decide_eq_false q]
    refine decide_eq_false fun z => ?_
    have z1 : cutS (txt r) none (some 1) = Str.ofString "-" := V.str.inj z
    have z2 := congrArg tl z1
    rw [cut_head, tl_txt r h, if_neg q, e1, List.nil_append] at z2
    unfold body at z2
    cases d : dg r.1.natAbs with
    | nil => exact dg_ne _ d
    | cons c l =>
      rw [d] at z2
      have c1 : c = 45 := by
        injection z2
      have := dg_in r.1.natAbs c (by rw [d]; exact List.mem_cons_self)
      omega
/-- the part that is split -/
theorem body_is {r : R} (h : 0 < r.2) : tl (if r.1 < 0 then cutS (txt r) (some 1) none else txt r) = body r := by
  by_cases q : r.1 < 0
  · rw [if_pos q, cut_tail, tl_txt r h, if_pos q]
    rfl
  · rw [if_neg q, tl_txt r h, if_neg q, List.nil_append]
theorem num_len {m : Nat} (h : m < 10 ^ 10) : (num m).length ≤ 10 := PySem.W.KT.len_num (by omega) (by omega)
theorem num_reads {m : Nat} (h : m < 10 ^ 10) : PySem.intText? (num m) = some (m : Int) := PySem.W.KIN.num_reads (by omega) (by omega)
end K11
namespace K11
open PySem PySem.Spec PyProof.Rows L2
open TL (tl tl_append tl_ofString len_tl ext_tl)
theorem PE.imp {X : Cx} {e : Expr} {t t' : TE} (h : PE X e t) (k : ∀ σ H Q, t' σ H Q → t σ H Q) : PE X e t' := ⟨fun pins s σ H Q I q => h.run pins s σ H Q I (k _ _ _ q)⟩
theorem all_true (n : Nat) : ((List.replicate n true).all id) = true := by
  induction n with
  | zero => rfl
  | succ n ih =>
    rw [List.replicate_succ, List.all_cons, ih]
    rfl
theorem trues_snoc (i : Nat) : (List.replicate i true).map V.bl ++ [V.bl true] = (List.replicate (i + 1) true).map V.bl := by
  rw [List.replicate_succ', List.map_append]
  rfl
theorem trues_len {i : Nat} (h : i ≤ 1000) : ((List.replicate i true).map V.bl).length < sizeLine := by
  rw [List.length_map, List.length_replicate]
  exact small1000 h
/-- the new list of a comprehension grows by one -/
theorem same_grow {H H1 : Hp} {D : Addr} {o : HO} (n : H D = none) (h : Same H H1) : Same H (upd H1 D o) := fun b x e => by
  rw [upd_ne (ne_of_none e n)]
  exact h b x e
theorem figure_in {c : Nat} (h : 48 ≤ c ∧ c ≤ 57) : c ∈ (Str.ofString "0123456789").cps.toList := by
  have e : (Str.ofString "0123456789").cps.toList = [48, 49, 50, 51, 52, 53, 54, 55, 56, 57] := by decide +kernel
  rw [e]
  simp only [List.mem_cons, List.not_mem_nil, or_false]
  omega
section
variable {P : Program} {w : World} {K : PySem.W.Frag} {mg : Str → Option Value} {base : Heap} {C : Addr}
theorem sc_figures : FnScope ["text", "sign"] ["text"] (defScope sFigures) := ⟨rfl, rfl, rfl, by decide +kernel, rfl, by decide +kernel, by decide +kernel⟩
theorem has_figures (D : Def K mg "is_figures" sFigures) (T : Txt K mg C) : Has P w K mg base 1 "is_figures" spFigures := by
  obtain ⟨f, fd, F, hm⟩ := D
  refine ⟨f, okR F (F.binds (ps := ["text"]) fun _ _ _ _ _ _ us hl => match us, hl with | [_], _ => rfl) sc_figures (fun vs H Q E h => ?_) (fun cdv A outer s H vs Q E hr h => ?_), hm, F.kp⟩
  · obtain ⟨m, _, rfl, _⟩ := h
    rfl
  · obtain ⟨m, hm10, rfl, q⟩ := h
    obtain ⟨t, hD⟩ := T.digits
    refine ⟨_, pss_one (ps_ret (pe_and (pe_cmpR op_ne (pv 0) pe_str (nomark _)) (pe_and (pe_callB (cr_all rfl) (by rfl) T.b_all boot_all (pa_cons
      (pe_lc (own := [("sign", 1)]) (g := gName 1) (tt := tYes) rfl sc_figures.nd (pi_str (pv 0)) (blkOk_by (own := [("sign", 1)]) (N := ["text", "sign"]) (sc := defScope sFigures) (by decide +kernel))
        (fun _ _ _ _ _ => pg_name (i := 1) sc_figures.nd rfl (Or.inl rfl)) (fun _ _ _ _ _ => pts_nil) (fun _ _ _ _ _ => pe_cmpR op_in_sign (pv 1) (pe_glob (v := .str "0123456789") (by rfl) hD ⟨t, rfl⟩) (by rfl))) pa_nil))
      (pe_one (pe_or (pe_cmpR op_eq (pv 0) pe_str (nomark _)) (pe_one (pe_cmpR op_ne (pe_item_str (pv 0) pe_int (fun _ _ => rfl)) pe_str (nomark _)))))))), ?_⟩
    have hlen : (num m).length ≤ 10 := num_len hm10
    have htl : tl (num m) = dg m := tl_nat m
    have hne : (!decide (V.str (num m) = V.str "")) = true := by
      rw [decide_eq_false]
      · rfl
      · intro z
        have z1 := congrArg tl (V.str.inj z)
        rw [htl] at z1
        exact dg_ne m z1
    refine ⟨.str (num m), rfl, rfl, true, congrArg V.bl hne, iteT ?_⟩
    refine ⟨.str (num m), rfl, num m, rfl, fun D hD0 => ?_⟩
    refine lc_it walk_str (fun i H' => Same H H' ∧ H' D = some (.lst ((List.replicate i true).map V.bl)) ∧ i ≤ 1000) ⟨same_grow hD0 (Same.refl H), upd_same, by decide⟩ (fun _ _ _ _ => True.intro) (fun i x H1 H2 hi hp hy => ?_) fun H1 hp => ?_
    · obtain ⟨rfl, c, hc, rfl⟩ := hy
      obtain ⟨sm, hl, _⟩ := hp
      have hcm : c ∈ dg m := by
        rw [← htl]
        show c ∈ (num m).cps.toList
        rw [← Array.getElem?_toList] at hc
        exact List.mem_of_getElem? hc
      have hin : decide (c ∈ (Str.ofString "0123456789").cps.toList) = true := decide_eq_true (figure_in (dg_in m c hcm))
      have hi2 : i < 10 := by
        have : (num m).cps.size = (num m).length := rfl
        omega
      refine ⟨rfl, ?_⟩
      refine ⟨.str ⟨#[c]⟩, rfl, c, "0123456789", rfl, rfl, _, hl, trues_len (by omega), same_grow hD0 sm, ?_, by omega⟩
      rw [upd_same]
      have e1 : (V.bl (decide (c ∈ (Str.ofString "0123456789").cps.toList))) = V.bl true := congrArg V.bl hin
      show some (HO.lst ((List.replicate i true).map V.bl ++ [V.bl (decide (c ∈ (Str.ofString "0123456789").cps.toList))])) = _
      rw [e1, trues_snoc]
    · obtain ⟨sm, hl, _⟩ := hp
      refine ⟨D, List.replicate _ true, rfl, SqL.of hl, true, congrArg V.bl (all_true _), iteT ?_⟩
      by_cases z : m = 0
      · subst z
        refine ⟨.str (num 0), rfl, rfl, true, congrArg V.bl (decide_eq_true (by decide +kernel)), iteT ?_⟩
        exact q H1 sm
      · cases hd : dg m with
        | nil => exact absurd hd (dg_ne m)
        | cons c l =>
          have hc := dg_head m c l hd z
          have n0 : decide (V.str (num m) = V.str "0") = false := decide_eq_false fun y => by
            have y1 := congrArg tl (V.str.inj y)
            have e0 : tl (Str.ofString "0") = [48] := rfl
            rw [htl, hd, e0] at y1
            injection y1 with y2 _
            exact hc y2
          refine ⟨.str (num m), rfl, rfl, false, congrArg V.bl n0, iteF ?_⟩
          have g0 : (num m).cps[0]? = some c := by
            rw [← Array.getElem?_toList]
            show (tl (num m))[0]? = some c
            rw [htl, hd]
            rfl
          have hl0 : 0 < (num m).length := by
            rw [len_tl, htl, hd]
            exact Nat.succ_pos _
          refine ⟨.str (num m), rfl, num m, 0, c, rfl, rfl, by decide, by decide, by omega, g0, rfl, ?_⟩
          have n1 : (!decide (V.str (⟨#[c]⟩ : Str) = V.str "0")) = true := by
            rw [decide_eq_false]
            · rfl
            · intro y
              have y1 := congrArg tl (V.str.inj y)
              have e0 : tl (Str.ofString "0") = [48] := rfl
              have e1 : tl (⟨#[c]⟩ : Str) = [c] := rfl
              rw [e0, e1] at y1
              injection y1 with y2 _
              exact hc y2
          have e2 : V.bl (!decide (V.str (⟨#[c]⟩ : Str) = V.str "0")) = V.bl true := congrArg V.bl n1
          show Q (V.bl (!decide (V.str (⟨#[c]⟩ : Str) = V.str "0"))) H1
          rw [e2]
          exact q H1 sm
end
end K11
namespace K11
open PySem PySem.Spec PyProof.Rows L2
open TL (tl tl_append tl_ofString len_tl ext_tl)
/-- a starred target among several -/
theorem pgs_star {X : Cx} {e : Expr} {es : List Expr} {p : Pos} {t : TG} {u : TGs} (h1 : PG X e t) (h2 : PGs X es u)
    (hs : (assignEach (.Starred e p :: es) X.env).map (·.2) = assign e X.env :: (assignEach es X.env).map (·.2) := by rfl) : PGs X (.Starred e p :: es) (gCons t u) := by
  refine ⟨fun pins s σ H vs us Q I r h => ?_⟩
  obtain ⟨v, vr, e1, q⟩ := h
  subst e1
  cases r with
  | @cons _ v' _ vr' rv rr =>
    rw [hs]
    refine assignInOrder_cons (thn (h1.run pins s σ H v v' _ I rv q) fun _ s1 hq => ?_)
    obtain ⟨σ1, H1, I1, q1⟩ := hq
    exact h2.run pins s1 σ1 H1 vr vr' Q I1 rr q1
/-- the items of head and more -/
def parts (r : R) : List V := if r.2 = 1 then [] else [.str (num r.2.natAbs)]
theorem parts_map (r : R) : List.map V.str (if r.2 = 1 then [] else [num r.2.natAbs]) = parts r := by
  unfold parts
  split <;> rfl
theorem parts_len (r : R) : (parts r).length ≤ 1 := by
  unfold parts
  split <;> simp
theorem parts_is {r : R} {v : V} (h : v ∈ parts r) : v = .str (num r.2.natAbs) := by
  unfold parts at h
  split at h
  · cases h
  · exact List.mem_singleton.mp h
section
variable {X : Cx} {a b c : Expr} {C : Addr} {pos : Pos}
/-- what the minus test tells -/
theorem pt_minus (h : PT X a (tTest (tOp rEq (tSl rSlS (tVar 0) tNoPart (tPart (tC (.int 1)))) (tC (.str "-"))))) :
    PT X a (fun σ H Q => ∃ r : R, σ[0]? = some (some (.str (txt r))) ∧ Ok 9999999999 16383 r ∧ Q (decide (r.1 < 0)) H) := by
  refine ⟨fun pins s σ H Q I q => h.run pins s σ H Q I ?_⟩
  obtain ⟨r, e, ok, q⟩ := q
  have big : (1000 : Nat) ≤ sizeLine := by rw [sizeLine_eq]; decide
  have hl := txt_len ok
  exact ⟨.str (txt r), e, 1, rfl, txt r, rfl, by omega, rfl, _, congrArg V.bl (minus_is ok.pos), q⟩
end
section
variable {P : Program} {w : World} {K : PySem.W.Frag} {mg : Str → Option Value} {base : Heap} {C : Addr}
theorem sc_of : FnScope ["text", "head", "more", "under", "found", "part"] ["text"] (defScope sOf) := ⟨rfl, rfl, rfl, by decide +kernel, rfl, by decide +kernel, by decide +kernel⟩
theorem num_all {r : R} (ok : Ok 9999999999 16383 r) : r.1.natAbs < 10 ^ 10 ∧ r.2.natAbs < 10 ^ 10 := by
  have := ok.pos
  have := ok.hd
  have := ok.hn
  omega
theorem eqv_nil (x : Str) : PyData.eqv (.list [.str x]) (.list []) = false := by
  first | rfl | decide | simp [PyData.eqv]
theorem eqv_nil' : PyData.eqv (.list []) (.list []) = true := by
  first | rfl | decide | simp [PyData.eqv]
theorem shaped_num (m : Nat) : SeqAt.shaped (.list [.str (num m)]) = true := by
  have ok : PyData.strOk (num m) = true := by
    unfold PyData.strOk
    rw [← Array.all_toList]
    show (tl (num m)).all _ = true
    rw [tl_nat, List.all_eq_true]
    intro c hc
    have := dg_in m c hc
    exact decide_eq_true (by omega)
  unfold SeqAt.shaped
  simp [PyData.canLay0, PyData.canLayAll0, PyData.depth, PyData.depthAll, ok]
theorem has_of {f : Addr} {fd : FuncData} (F : Fun K "of" "Ratio.of" sOf f fd) (T : Txt K mg C) (GR : HasI P w K mg base C) (GF : Has P w K mg base 1 "is_figures" spFigures) (GT : HasP P w K mg base C 1 "text" (spText C)) :
    FnR P w K mg base CX0 4 f (spOf C) := by
  refine okR F (F.binds (ps := ["text"]) fun _ _ _ _ _ _ us hl => match us, hl with | [_], _ => rfl) sc_of (fun vs H Q E h => ?_) (fun cdv A outer s H vs Q E hr h => ?_)
  · obtain ⟨r, rfl, _⟩ := h
    rfl
  · obtain ⟨r, rfl, ok, q⟩ := h
    obtain ⟨tm, hM⟩ := T.most
    have big : (1000 : Nat) ≤ sizeLine := by rw [sizeLine_eq]; decide
    have hlen := txt_len ok
    obtain ⟨n1, n2⟩ := num_all ok
    have hpos := ok.pos
    refine ⟨_, pss_cons (ps_if (PW.pt (pw_or (pt_not (pt_val (pe_callB (call_is T) (by rfl) T.b_isinstance boot_isinstance (pa_cons (pv 0) (pa_cons (pe_bltn (v := .ty "str") (by rfl) T.b_str PyProof.Rows.boot_str rfl) pa_nil)))))
        (pw_or1 (pt_cmpR op_gt (pe_callB call_len_str (by rfl) T.b_len PySem.boot_len (pa_cons (pv 0) pa_nil)) (pe_glob (v := .int 1802) (by rfl) hM ⟨tm, rfl⟩) (nomark _))))) (pss_one ps_never) pss_nil)
      (pss_cons (ps_asg (pe_split (pe_ifExp (pt_minus (pt_cmpR op_eq (pe_slice sl_str (pv 0) po_none (po_some pe_int)) pe_str (nomark _))) (pe_slice sl_str (pv 0) (po_some pe_int) po_none) (pv 0)) pe_str)
        (pg_star rfl (pgs_cons (pg_name (i := 1) sc_of.nd rfl (Or.inl rfl)) (pgs_star (pg_name (i := 2) sc_of.nd rfl (Or.inl rfl)) pgs_nil))))
      (pss_cons (ps_if (PW.pt (pw_or (pt_cmpR op_gt (pe_callB call_len_seq (by rfl) T.b_len PySem.boot_len (pa_cons (pv 2) pa_nil)) pe_int (nomark _))
        (pw_or1 (pt_not (pt_val (pe_callB (cr_all rfl) (by rfl) T.b_all boot_all (pa_cons (pe_lc (own := [("part", 5)]) (g := gName 5) (tt := tYes) rfl sc_of.nd (pi_list (pe_lst (pa_cons (pv 1) (StX.pa_star (pv 2) pa_nil))))
          (blkOk_by (own := [("part", 5)]) (N := ["text", "head", "more", "under", "found", "part"]) (sc := defScope sOf) (by decide +kernel)) (fun _ _ _ _ _ => pg_name (i := 5) sc_of.nd rfl (Or.inl rfl)) (fun _ _ _ _ _ => pts_nil)
          (fun _ _ _ _ _ => pe_callH GF hr (by rfl) (pa_cons (pv 5) pa_nil))) pa_nil)))))))
        (pss_one ps_never) pss_nil)
      (pss_cons (ps_set (i := 3) sc_of.nd rfl (Or.inl rfl) (pe_ifExp (pt_cmpR (op_neD hr.units) (pv 2) (pe_lst pa_nil) (nomark _)) (pe_callTy call_int_str (by rfl) T.b_int PyProof.Rows.boot_int (pa_cons (pe_ix ix_list (pv 2) pe_int (fun _ _ => rfl)) pa_nil)) pe_int))
      (pss_cons (ps_if (pt_cmpR op_eq (pv 3) pe_int (nomark _)) (pss_one ps_never) pss_nil)
      (pss_cons (ps_set (i := 4) sc_of.nd rfl (Or.inl rfl) (pe_ratio2 GR T hr (by rfl) (pa_cons (pe_ifExp (pt_minus (pt_cmpR op_eq (pe_slice sl_str (pv 0) po_none (po_some pe_int)) pe_str (nomark _)))
          (pe_un un_neg (pe_callTy call_int_str (by rfl) T.b_int PyProof.Rows.boot_int (pa_cons (pv 1) pa_nil))) (pe_callTy call_int_str (by rfl) T.b_int PyProof.Rows.boot_int (pa_cons (pv 1) pa_nil))) (pa_cons (pv 3) pa_nil))))
      (pss_cons (ps_if (pt_cmpR op_ne (pe_propH (pv 4) T.cl GT hr) (pv 0) (nomark _)) (pss_one ps_never) pss_nil)
      (pss_one (ps_ret (pv 4))))))))), ?_⟩
    -- the guard
    refine ⟨.str (txt r), rfl, .inr (.inr (.inr ⟨txt r, rfl, true, rfl, iteF ?_⟩))⟩
    refine ⟨.str (txt r), rfl, txt r, rfl, by omega, _, _, rfl, rfl, _, rfl, ite2 (fun e => ?_) (fun _ => ?_)⟩
    · have z : (1802 : Int) < ((txt r).length : Int) := of_decide_eq_true e
      omega
    -- the split
    have split : ∀ (z : Str), tl z = body r → ∀ (Q1 : VK), (∀ p, H p = none → Q1 (.ref p) (upd H p (.lst (.str (num r.1.natAbs) :: parts r)))) → rNewStrs (Txt.split z (Str.ofString "/")) H Q1 := by
      intro z hz Q1 q1 p hp
      rw [split_body hz, List.map_cons, parts_map]
      exact q1 p hp
    have bl := body_is hpos
    have zlen : ∀ z : Str, tl z = body r → z.length + 2 ≤ sizeLine := by
      intro z hz
      have a1 := tl_txt r hpos
      have a2 := congrArg List.length a1
      rw [List.length_append, ← len_tl] at a2
      rw [len_tl, hz]
      omega
    have step : ∀ (z : Str), tl z = body r → ∀ (Q1 : VK), (∀ p, H p = none → Q1 (.ref p) (upd H p (.lst (.str (num r.1.natAbs) :: parts r)))) →
        (∃ a, V.str z = .str a) ∧ (∃ a b, V.str z = .str a ∧ [V.str (Str.ofString "/")] = [.str b] ∧ (b.length == 0) = false ∧ a.length + 2 ≤ sizeLine ∧ rNewStrs (Txt.split a b) H Q1) :=
      fun z hz Q1 q1 => ⟨⟨z, rfl⟩, z, Str.ofString "/", rfl, rfl, rfl, zlen z hz, split z hz Q1 q1⟩
    refine ⟨r, rfl, ok, ?_⟩
    have go : ∀ (Q1 : VK), (∀ p, H p = none → Q1 (.ref p) (upd H p (.lst (.str (num r.1.natAbs) :: parts r)))) →
        if decide (r.1 < 0) = true then (tSl rSlS (tVar 0) (tPart (tC (.int 1))) tNoPart) (L2.start ["text", "head", "more", "under", "found", "part"] [.str (txt r)]) H (fun x H1 => (∃ a, x = .str a) ∧ tC (.str "/") (L2.start ["text", "head", "more", "under", "found", "part"] [.str (txt r)]) H1 fun y H2 => ∃ a b, x = .str a ∧ [y] = [.str b] ∧ (b.length == 0) = false ∧ a.length + 2 ≤ sizeLine ∧ rNewStrs (Txt.split a b) H2 Q1)
        else tVar 0 (L2.start ["text", "head", "more", "under", "found", "part"] [.str (txt r)]) H (fun x H1 => (∃ a, x = .str a) ∧ tC (.str "/") (L2.start ["text", "head", "more", "under", "found", "part"] [.str (txt r)]) H1 fun y H2 => ∃ a b, x = .str a ∧ [y] = [.str b] ∧ (b.length == 0) = false ∧ a.length + 2 ≤ sizeLine ∧ rNewStrs (Txt.split a b) H2 Q1) := by
      intro Q1 q1
      by_cases z : r.1 < 0
      · rw [if_pos z] at bl
        rw [if_pos (decide_eq_true z)]
        exact ⟨.str (txt r), rfl, 1, rfl, txt r, rfl, by omega, step _ bl Q1 q1⟩
      · rw [if_neg z] at bl
        rw [if_neg (by rw [decide_eq_false z]; exact Bool.false_ne_true)]
        exact ⟨.str (txt r), rfl, step _ bl Q1 q1⟩
    refine go _ fun L hL => ?_
    have hpl := parts_len r
    refine ⟨L, .str (num r.1.natAbs), parts r, rfl, SqL.of upd_same, by omega, fun M hM0 => ?_⟩
    refine ⟨_, _, rfl, _, _, rfl, rfl, ?_⟩
    have nML : M ≠ L := fun e => by
      rw [e, upd_same] at hM0
      cases hM0
    generalize hH1 : upd (upd H L (.lst (.str (num r.1.natAbs) :: parts r))) M (.lst (parts r)) = H1
    have s1 : Same H H1 := by
      rw [← hH1]
      exact (same_upd hL).trans (same_upd hM0)
    have hMl : H1 M = some (.lst (parts r)) := by rw [← hH1, upd_same]
    clear hH1
    -- no more than one part, all figures
    refine ⟨.ref M, rfl, M, parts r, rfl, .inl (SqL.of hMl), _, _, rfl, rfl, _, rfl, ite2 (fun e => ?_) (fun _ => ?_)⟩
    · have z : (1 : Int) < ((parts r).length : Int) := of_decide_eq_true e
      omega
    refine ⟨.str (num r.1.natAbs), rfl, .ref M, rfl, M, parts r, rfl, .inr (SqL.of hMl), ?_⟩
    have hlen2 : (V.str (num r.1.natAbs) :: (parts r ++ [])).length ≤ 2 := by
      rw [List.append_nil, List.length_cons]
      omega
    refine ⟨by omega, fun I hI => ?_⟩
    refine ⟨I, rfl, ⟨_, SqL.of upd_same⟩, fun D hD => ?_⟩
    have s2 : Same H1 (upd H1 I (.lst (V.str (num r.1.natAbs) :: (parts r ++ [])))) := same_upd hI
    have nID : I ≠ D := ne_of_none upd_same hD
    have nMI : M ≠ I := ne_of_none hMl hI
    have nMD : M ≠ D := ne_of_none (s2 _ _ hMl) hD
    refine lc_it (walk_list (xs := V.str (num r.1.natAbs) :: (parts r ++ []))) (fun i H' => Same H1 H' ∧ H' I = some (.lst (V.str (num r.1.natAbs) :: (parts r ++ []))) ∧ H' D = some (.lst ((List.replicate i true).map V.bl)) ∧ i ≤ 1000)
      ⟨s2.trans (same_upd hD), by rw [upd_ne nID, upd_same], upd_same, by decide⟩ (fun i H' _ hp => SqL.of hp.2.1) (fun i x H2 H3 hi hp hy => ?_) fun H2 hp => ?_
    · obtain ⟨rfl, hx⟩ := hy
      obtain ⟨sm, hIl, hDl, _⟩ := hp
      have hxm : x ∈ V.str (num r.1.natAbs) :: (parts r ++ []) := List.mem_of_getElem? hx
      have hx' : ∃ m : Nat, m < 10 ^ 10 ∧ x = .str (num m) := by
        rcases List.mem_cons.mp hxm with z | z
        · exact ⟨_, n1, z⟩
        · rw [List.append_nil] at z
          exact ⟨_, n2, parts_is z⟩
      obtain ⟨m, hm, rfl⟩ := hx'
      refine ⟨rfl, ?_⟩
      refine ⟨.str (num m), rfl, m, hm, rfl, fun H4 s4 => ?_⟩
      refine ⟨_, s4 _ _ hDl, trues_len (by omega), (fun b o e => ?_), ?_, ?_, by omega⟩
      · have nb : b ≠ D := fun z => by
          rw [z] at e
          have := s2 _ _ e
          rw [hD] at this
          cases this
        rw [upd_ne nb]
        exact s4 _ _ (sm _ _ e)
      · rw [upd_ne nID]
        exact s4 _ _ hIl
      · rw [upd_same, trues_snoc]
    · obtain ⟨sm, hIl, hDl, _⟩ := hp
      have hM2 := sm _ _ hMl
      refine ⟨D, List.replicate _ true, rfl, SqL.of hDl, true, congrArg V.bl (all_true _), iteF ?_⟩
      -- under
      have under : ∀ (Q1 : VK), (∀ H', Same H2 H' → Q1 (.int r.2) H') →
          tIf (tTest (tOp (rNeD K) (tVar 2) (tLst tNil))) (tCB (fun xs H Q => ∃ a n, xs = [V.str a] ∧ PySem.intText? a = some n ∧ a.length ≤ 640 ∧ Q (.int n) H) (tCons (tOp (rIxL K) (tVar 2) (tC (.int 0))) tNil)) (tC (.int 1))
            [some (.str (txt r)), some (.str (num r.1.natAbs)), some (.ref M), none, none, none] H2 Q1 := by
        intro Q1 q1
        refine ⟨.ref M, rfl, by decide, fun N hN => ?_⟩
        have s3 : Same H2 (upd H2 N (.lst [])) := same_upd hN
        have hM3 := s3 _ _ hM2
        by_cases e : r.2 = 1
        · have ep : parts r = [] := if_pos e
          rw [ep] at hM3
          refine ⟨.list [], .list [], .lst (SqL.of hM3) .nil, .lst (SqL.of upd_same) .nil, rfl, rfl, false, congrArg V.bl (by rw [eqv_nil']; rfl), iteF ?_⟩
          have := q1 _ s3
          rw [e] at this
          exact this
        · have ep : parts r = [.str (num r.2.natAbs)] := if_neg e
          rw [ep] at hM3
          refine ⟨.list [.str (num r.2.natAbs)], .list [], .lst (SqL.of hM3) (.cons (.str _) .nil), .lst (SqL.of upd_same) .nil, shaped_num _, rfl, true, congrArg V.bl (by rw [eqv_nil]; rfl), iteT ?_⟩
          refine ⟨.ref M, rfl, M, _, 0, _, rfl, rfl, SqL.of hM3, atI_nat (j := 0) rfl, num r.2.natAbs, (r.2.natAbs : Int), rfl, num_reads n2, Nat.le_trans (num_len n2) (by decide), ?_⟩
          have ez : ((r.2.natAbs : Nat) : Int) = r.2 := by omega
          rw [ez]
          exact q1 _ s3
      refine under _ fun H3 s3 => ?_
      refine ⟨.int r.2, rfl, rfl, _, rfl, ite2 (fun e => ?_) (fun _ => ?_)⟩
      · have z : V.int r.2 = V.int 0 := of_decide_eq_true e
        have := V.int.inj z
        omega
      -- found
      refine ⟨r, rfl, ok, ?_⟩
      have fin : ∀ p H', Same H3 H' → H3 p = none → RA C H' p r → Q (.ref p) H' := fun p H' s4 hp hra => q p H' (((s1.trans sm).trans s3).trans s4) (Same.free ((s1.trans sm).trans s3) hp) hra
      have ok2 : ∀ p H', RA C H' p (red r.1 r.2) → RA C H' p r := fun p H' h => by rw [ok.red] at h; exact h
      have fit : Fit r := ok.mono (by decide) (by decide)
      have last : ∀ p H', Same H3 H' → H3 p = none → RA C H' p (red r.1 r.2) →
          (tTest (tOp rNe (SlX.tPropSl C (spText C) E0 (tVar 4)) (tVar 0))) [some (.str (txt r)), some (.str (num r.1.natAbs)), some (.ref M), some (.int r.2), some (.ref p), none] H' (fun b H1 => if b = true then False else (∃ v, ([some (.str (txt r)), some (.str (num r.1.natAbs)), some (.ref M), some (.int r.2), some (.ref p), none] : L2.St)[4]? = some (some v) ∧ Q v H1)) := by
        intro p H' s4 hp hra
        have hra := ok2 p H' hra
        obtain ⟨dx, hs⟩ := hra.slt
        refine ⟨.ref p, rfl, p, dx, _, rfl, hs, p, r, rfl, hra, fit, .str (txt r), rfl, rfl, _, rfl, ?_⟩
        rw [decide_eq_true rfl]
        exact iteF ⟨.ref p, rfl, fin p H' s4 hp hra⟩
      refine ite2 (fun e => ?_) (fun e => ?_)
      · have z : r.1 < 0 := of_decide_eq_true e
        refine ⟨.str (num r.1.natAbs), rfl, num r.1.natAbs, _, rfl, num_reads n1, Nat.le_trans (num_len n1) (by decide), _, rfl, .int r.2, rfl, r.1, r.2, ?_, hpos, by have := ok.hd; omega, fun p H' s4 hp hra => last p H' s4 hp hra⟩
        have ez : -((r.1.natAbs : Nat) : Int) = r.1 := by omega
        show [V.int (-((r.1.natAbs : Nat) : Int)), V.int r.2] = _
        rw [ez]
      · have z : ¬ r.1 < 0 := fun y => e (decide_eq_true y)
        refine ⟨.str (num r.1.natAbs), rfl, num r.1.natAbs, _, rfl, num_reads n1, Nat.le_trans (num_len n1) (by decide), .int r.2, rfl, r.1, r.2, ?_, hpos, by have := ok.hd; omega, fun p H' s4 hp hra => last p H' s4 hp hra⟩
        have ez : ((r.1.natAbs : Nat) : Int) = r.1 := by omega
        rw [ez]
end
end K11
namespace K11
open PySem PySem.Spec PyProof.Rows L2
section
variable {P : Program} {w : World} {K : PySem.W.Frag} {mg : Str → Option Value} {base : Heap} {C : Addr}
/-! ### _law_pot -/
theorem sc_pot : FnScope ["_law_script", "_law_k", "_law_cell", "_law_own", "_law_small"] ["_law_script", "_law_k"] (defScope sPot) := ⟨rfl, rfl, rfl, by decide +kernel, rfl, by decide +kernel, by decide +kernel⟩
theorem map_get {ns : List Int} {j : Nat} (h : j < ns.length) : (ns.map V.int)[j]? = some (.int ns[j]) := by
  rw [List.getElem?_map, List.getElem?_eq_getElem h]
  rfl
theorem b01 (b : Bool) : ((0 : Int) ≤ if b = true then 1 else 0) ∧ (-(2 ^ 64) < (if b = true then 1 else 0 : Int) ∧ (if b = true then 1 else 0 : Int) < 2 ^ 64) := by
  cases b <;> decide
theorem mod_range {x m : Int} (h : 0 < m) : 0 ≤ x % m ∧ x % m < m := ⟨Int.emod_nonneg x (by omega), Int.emod_lt_of_pos x h⟩
theorem has_pot (D : Def K mg "_law_pot" sPot) (T : Txt K mg C) : Has P w K mg base 1 "_law_pot" (spPot K) := by
  obtain ⟨f, fd, F, hm⟩ := D
  refine ⟨f, okR F (F.binds (ps := ["_law_script", "_law_k"]) fun _ _ _ _ _ _ us hl => match us, hl with | [_, _], _ => rfl) sc_pot (fun vs H Q E h => ?_) (fun cdv A outer s H vs Q E hr h => ?_), hm, F.kp⟩
  · obtain ⟨a, ns, k, rfl, _⟩ := h
    rfl
  · obtain ⟨a, ns, k, rfl, hS, hlen, k0, k6, q⟩ := h
    refine ⟨_, pss_cons (ps_set (i := 2) sc_pot.nd rfl (.inl rfl) (PE.imp (t' := fun σ H Q => ∃ (a : Addr) (ns : List Int) (k : Int), σ[0]? = some (some (.ref a)) ∧ σ[1]? = some (some (.int k)) ∧ SqL K H a (ns.map V.int) ∧ 0 ≤ k ∧ k < 6 ∧ ∀ c, Q (.int c) H)
        (pe_ifExp (pt_cmpR op_lt (pv 1) (pe_callB call_len_seq (by rfl) T.b_len PySem.boot_len (pa_cons (pv 0) pa_nil)) (nomark _)) (pe_ix ix_list (pv 0) (pv 1) (fun _ _ => rfl)) (pe_op op_add (pe_op op_mul pe_int (pv 1)) pe_int)) ?_))
      (pss_cons (ps_set (i := 3) sc_pot.nd rfl (.inl rfl) (pe_op op_mul (pe_op op_mod (pe_callTy call_int1 (by rfl) T.b_int PyProof.Rows.boot_int (pa_cons (pe_callB call_abs (by rfl) T.b_abs boot_abs (pa_cons (pv 2) pa_nil)) pa_nil)) (pe_op op_powK (pe_op op_pow pe_int pe_int) pe_int))
        (pe_callTy call_int1 (by rfl) T.b_int PyProof.Rows.boot_int (pa_cons (pe_cmpR op_ge (pe_callB call_abs (by rfl) T.b_abs boot_abs (pa_cons (pv 2) pa_nil)) (pe_op op_pow pe_int pe_int) (nomark _)) pa_nil))))
      (pss_cons (ps_set (i := 4) sc_pot.nd rfl (.inl rfl) (pe_op op_mod (pe_callTy call_int1 (by rfl) T.b_int PyProof.Rows.boot_int (pa_cons (pv 2) pa_nil)) pe_int))
      (pss_one (ps_ret (pe_lst (pa_cons (pv 3) (pa_cons (pe_op op_mod (pe_callTy call_int1 (by rfl) T.b_int PyProof.Rows.boot_int (pa_cons (pe_op op_add (pe_op op_add (pe_op op_mul (pv 4) pe_int) (pe_op op_mul (pe_op op_mul pe_int (pv 1)) (pv 1))) pe_int) pa_nil)) pe_int) (pa_cons pe_int pa_nil)))))))), ?_⟩
    · intro σ H Q h
      obtain ⟨a, ns, k, h0, h1, hS, k0, k6, q⟩ := h
      refine ⟨_, h1, _, h0, a, ns.map V.int, rfl, .inl hS, k, _, rfl, rfl, _, rfl, ite2 (fun e => ?_) (fun _ => ?_)⟩
      · have z : k < ((ns.map V.int).length : Int) := of_decide_eq_true e
        rw [List.length_map] at z
        have zn : k.toNat < ns.length := by omega
        exact ⟨_, h0, _, h1, a, _, k, _, rfl, rfl, hS, at_of (j := k.toNat) (by omega) (map_get zn), q _⟩
      · exact ⟨_, h1, _, _, rfl, rfl, .inl (by decide), _, _, rfl, rfl, q _⟩
    · refine ⟨a, ns, k, rfl, rfl, hS, k0, k6, fun c => ?_⟩
      have p5 : (0 : Int) < ((10 : Int) ^ (60 : Int).toNat) ^ (5 : Int).toNat := by decide +kernel
      have g1 : (Builtin.Int.intBits ((10 : Int) ^ (60 : Int).toNat) : Int) * 5 ≤ 2 ^ 27 ∧ (0 : Int) ≤ 5 := by decide +kernel
      refine ⟨.int c, rfl, c, rfl, .inl ⟨_, rfl, _, _, rfl, rfl, ⟨by decide, by decide, by decide⟩, _, _, rfl, rfl, g1, _, _, rfl, rfl, p5, ?_⟩⟩
      refine ⟨.int c, rfl, c, rfl, _, _, rfl, rfl, ⟨by decide, by decide, by decide⟩, _, _, rfl, rfl, .inr ⟨_, rfl, _, _, rfl, rfl, .inr ?_, ?_⟩⟩
      · exact (b01 _).2
      have own0 : 0 ≤ ((if c < 0 then -c else c) % (((10 : Int) ^ (60 : Int).toNat) ^ (5 : Int).toNat)) * (if decide ((10 : Int) ^ (18 : Int).toNat ≤ if c < 0 then -c else c) = true then 1 else 0) :=
        Int.mul_nonneg (mod_range p5).1 (b01 _).1
      obtain ⟨s0, s1⟩ := mod_range (x := c) (m := 2305843009213693951) (by decide)
      refine ⟨.int c, rfl, .inl ⟨c, rfl, _, _, rfl, rfl, show (0 : Int) < 2305843009213693951 by decide, ?_⟩⟩
      refine ⟨_, rfl, _, rfl, _, _, rfl, rfl, .inr (by decide), _, rfl, _, _, rfl, rfl, .inl (by decide), _, rfl, _, _, rfl, rfl, .inr (by omega), _, _, rfl, rfl, _, _, rfl, rfl, .inl ⟨_, rfl, _, _, rfl, rfl, show (0 : Int) < 2305843009213693921 by decide, ?_⟩⟩
      refine ⟨by show (3 : Nat) ≤ sizeLine; rw [sizeLine_eq]; decide, fun p hp => ?_⟩
      obtain ⟨t0, t1⟩ := mod_range (x := c % 2305843009213693951 * 70979 + 8419 * k * k + 89) (m := 2305843009213693921) (by decide)
      exact q p _ (same_upd hp) hp ⟨_, _, 0, upd_same, own0, t0, t1, by decide, by decide⟩
end
end K11
namespace K11
open PySem PySem.Spec PyProof.Rows L2
section
variable {P : Program} {w : World} {K : PySem.W.Frag} {mg : Str → Option Value} {base : Heap} {C : Addr}
/-! ### _law_take -/
theorem sc_take : FnScope ["_law_pot_here", "_law_upto", "_law_digit", "_law_prime", "_law_mixed"] ["_law_pot_here", "_law_upto"] (defScope sTake) := ⟨rfl, rfl, rfl, by decide +kernel, rfl, by decide +kernel, by decide +kernel⟩
theorem primes_at {j : Int} (h0 : 0 ≤ j) (h5 : j < 5) : ∃ v : Int, atI [V.int 2147483647, V.int 2147483629, V.int 2147483587, V.int 2147483579, V.int 2147483563] j = some (.int v) ∧ 0 < v ∧ v ≤ 2147483647 := by
  have : j = 0 ∨ j = 1 ∨ j = 2 ∨ j = 3 ∨ j = 4 := by omega
  rcases this with rfl | rfl | rfl | rfl | rfl
  · exact ⟨_, at_of (j := 0) rfl rfl, by decide, by decide⟩
  · exact ⟨_, at_of (j := 1) rfl rfl, by decide, by decide⟩
  · exact ⟨_, at_of (j := 2) rfl rfl, by decide, by decide⟩
  · exact ⟨_, at_of (j := 3) rfl rfl, by decide, by decide⟩
  · exact ⟨_, at_of (j := 4) rfl rfl, by decide, by decide⟩
theorem has_take (D : Def K mg "_law_take" sTake) (T : Txt K mg C) : Has P w K mg base 1 "_law_take" spTake := by
  obtain ⟨f, fd, F, hm⟩ := D
  refine ⟨f, okR F (F.binds (ps := ["_law_pot_here", "_law_upto"]) fun _ _ _ _ _ _ us hl => match us, hl with | [_, _], _ => rfl) sc_take (fun vs H Q E h => ?_) (fun cdv A outer s H vs Q E hr h => ?_), hm, F.kp⟩
  · obtain ⟨a, n, u, rfl, _⟩ := h
    rfl
  · obtain ⟨a, n, u, rfl, hp, hn, u0, u1, q⟩ := h
    obtain ⟨o, y, c, ha, o0, y0, y1, c0, c1⟩ := hp
    refine ⟨_, pss_cons (ps_if (pt_cmpR op_gt (pe_ix ix_list (pv 0) pe_int (fun _ _ => rfl)) pe_int (nomark _))
        (pss_cons (ps_set (i := 2) sc_take.nd rfl (.inl rfl) (pe_op op_mod (pe_callTy call_int1 (by rfl) T.b_int PyProof.Rows.boot_int (pa_cons (pe_ix ix_list (pv 0) pe_int (fun _ _ => rfl)) pa_nil)) (pv 1)))
        (pss_cons (ps_asg (pe_op op_fdiv (pe_ix ix_list (pv 0) pe_int (fun _ _ => rfl)) (pv 1)) (pg_sub (pv 0) pe_int set_list))
        (pss_one (ps_ret (pv 2))))) pss_nil)
      (pss_cons (ps_asg (pe_op op_add (pe_ix ix_list (pv 0) pe_int (fun _ _ => rfl)) pe_int) (pg_sub (pv 0) pe_int set_list))
      (pss_cons (ps_set (i := 3) sc_take.nd rfl (.inl rfl) (pe_ix ix_list (pe_lst (pa_cons pe_int (pa_cons pe_int (pa_cons pe_int (pa_cons pe_int (pa_cons pe_int pa_nil))))))
        (pe_op op_mod (pe_callTy call_int1 (by rfl) T.b_int PyProof.Rows.boot_int (pa_cons (pe_ix ix_list (pv 0) pe_int (fun _ _ => rfl)) pa_nil)) pe_int) (fun _ _ => rfl)))
      (pss_cons (ps_set (i := 4) sc_take.nd rfl (.inl rfl) (pe_op op_mod (pe_callTy call_int1 (by rfl) T.b_int PyProof.Rows.boot_int (pa_cons (pe_op op_pow (pe_callTy call_int1 (by rfl) T.b_int PyProof.Rows.boot_int (pa_cons
          (pe_op op_add (pe_op op_add (pe_ix ix_list (pv 0) pe_int (fun _ _ => rfl)) (pe_op op_mul (pe_op op_mul pe_int (pe_ix ix_list (pv 0) pe_int (fun _ _ => rfl))) (pe_ix ix_list (pv 0) pe_int (fun _ _ => rfl)))) pe_int) pa_nil)) pe_int) pa_nil)) (pv 3)))
      (pss_cons (ps_set (i := 4) sc_take.nd rfl (.inl rfl) (pe_op op_mod (pe_callTy call_int1 (by rfl) T.b_int PyProof.Rows.boot_int (pa_cons (pe_op op_mul (pv 4)
          (pe_op op_add (pe_op op_mod (pe_callTy call_int1 (by rfl) T.b_int PyProof.Rows.boot_int (pa_cons (pv 4) pa_nil)) pe_int) (pe_op op_mul pe_int (pe_ix ix_list (pv 0) pe_int (fun _ _ => rfl))))) pa_nil)) pe_int))
      (pss_one (ps_ret (pe_op op_mod (pe_callTy call_int1 (by rfl) T.b_int PyProof.Rows.boot_int (pa_cons (pe_op op_fdiv (pv 4) pe_int) pa_nil)) (pv 1)))))))), ?_⟩
    refine ⟨.ref a, rfl, a, _, 0, _, rfl, rfl, SqL.of ha, at_of (j := 0) rfl rfl, _, _, rfl, rfl, _, rfl, ite2 (fun e => ?_) (fun _ => ?_)⟩
    · refine ⟨.ref a, rfl, a, _, 0, _, rfl, rfl, SqL.of ha, at_of (j := 0) rfl rfl, .inl ⟨_, rfl, .int u, rfl, _, _, rfl, rfl, u0, ?_⟩⟩
      refine ⟨.ref a, rfl, a, _, 0, _, rfl, rfl, SqL.of ha, at_of (j := 0) rfl rfl, .int u, rfl, _, _, rfl, rfl, ⟨u0, by omega⟩, ?_⟩
      refine ⟨.ref a, rfl, a, _, 0, 0, rfl, rfl, ha, rfl, ?_⟩
      obtain ⟨d0, d1⟩ := mod_range (x := o) u0
      refine ⟨_, rfl, q _ _ d0 d1 (fun b x e nb => by rw [upd_ne nb]; exact e) ⟨o / u, y, c, upd_same, Int.ediv_nonneg o0 (by omega), y0, y1, c0, by omega⟩⟩
    · refine ⟨.ref a, rfl, a, _, 2, _, rfl, rfl, SqL.of ha, at_of (j := 2) rfl rfl, _, _, rfl, rfl, .ref a, rfl, a, _, 2, 2, rfl, rfl, ha, rfl, ?_⟩
      have hb : (upd H a (.lst ([V.int o, V.int y, V.int c].set 2 (V.int (c + 1))))) a = some (.lst [.int o, .int y, .int (c + 1)]) := upd_same
      have sx : SameX a H (upd H a (.lst ([V.int o, V.int y, V.int c].set 2 (V.int (c + 1))))) := fun b x e nb => by
        rw [upd_ne nb]
        exact e
      generalize hH1 : upd H a (.lst ([V.int o, V.int y, V.int c].set 2 (V.int (c + 1)))) = H1 at hb sx
      refine ⟨by show (5 : Nat) ≤ sizeLine; rw [sizeLine_eq]; decide, fun L hL => ?_⟩
      have hb2 := (same_upd (o := .lst [V.int 2147483647, V.int 2147483629, V.int 2147483587, V.int 2147483579, V.int 2147483563]) hL) _ _ hb
      obtain ⟨j0, j1⟩ := mod_range (x := c + 1) (m := 5) (by decide)
      obtain ⟨v, hv, v0, v1⟩ := primes_at j0 j1
      refine ⟨.ref a, rfl, a, _, 2, _, rfl, rfl, SqL.of hb2, at_of (j := 2) rfl rfl, .inl ⟨_, rfl, _, _, rfl, rfl, show (0 : Int) < 5 by decide, ?_⟩⟩
      refine ⟨L, _, _, _, rfl, rfl, SqL.of upd_same, hv, ?_⟩
      have sx2 : SameX a H (upd H1 L (.lst [V.int 2147483647, V.int 2147483629, V.int 2147483587, V.int 2147483579, V.int 2147483563])) := sx.trans (SameX.of (same_upd hL))
      generalize upd H1 L (.lst [V.int 2147483647, V.int 2147483629, V.int 2147483587, V.int 2147483579, V.int 2147483563]) = H2 at hb2 sx2
      have cc : 104743 * (c + 1) * (c + 1) ≤ 104743 * 1000 * 1000 := by
        refine Int.mul_le_mul (by omega) (by omega) (by omega) (by decide)
      have cc0 : 0 ≤ 104743 * (c + 1) * (c + 1) := Int.mul_nonneg (by omega) (by omega)
      refine ⟨.ref a, rfl, a, _, 1, _, rfl, rfl, SqL.of hb2, at_of (j := 1) rfl rfl, .ref a, rfl, a, _, 2, _, rfl, rfl, SqL.of hb2, at_of (j := 2) rfl rfl, _, _, rfl, rfl, .inl (by decide), ?_⟩
      refine ⟨.ref a, rfl, a, _, 2, _, rfl, rfl, SqL.of hb2, at_of (j := 2) rfl rfl, _, _, rfl, rfl, .inr (by omega), _, _, rfl, rfl, _, _, rfl, rfl, .inl ⟨_, rfl, _, _, rfl, rfl, ⟨by decide, by decide, by omega⟩, .inl ⟨_, rfl, .int v, rfl, _, _, rfl, rfl, v0, ?_⟩⟩⟩
      obtain ⟨m0, m1⟩ := mod_range (x := (y + 104743 * (c + 1) * (c + 1) + 37) ^ (3 : Int).toNat) v0
      refine ⟨_, rfl, _, rfl, .inl ⟨_, rfl, _, _, rfl, rfl, show (0 : Int) < 10037 by decide, ?_⟩⟩
      refine ⟨.ref a, rfl, a, _, 2, _, rfl, rfl, SqL.of hb2, at_of (j := 2) rfl rfl, _, _, rfl, rfl, .inl (by decide), _, _, rfl, rfl, _, _, rfl, rfl, .inl ⟨by omega, by omega⟩, .inl ⟨_, rfl, _, _, rfl, rfl, show (0 : Int) < 2305843009213693907 by decide, ?_⟩⟩
      refine ⟨_, rfl, _, _, rfl, rfl, ⟨by decide, by decide⟩, .inl ⟨_, rfl, .int u, rfl, _, _, rfl, rfl, u0, ?_⟩⟩
      exact q _ H2 (mod_range u0).1 (mod_range u0).2 sx2 ⟨o, y, c + 1, hb2, o0, y0, y1, by omega, by omega⟩
/-! ### _law_of -/
theorem sc_ofSome : FnScope ["_law_pot_here", "_law_some"] ["_law_pot_here", "_law_some"] (defScope sOfSome) := ⟨rfl, rfl, rfl, by decide +kernel, rfl, by decide +kernel, by decide +kernel⟩
theorem has_ofSome (D : Def K mg "_law_of" sOfSome) (T : Txt K mg C) (GT : Has P w K mg base 1 "_law_take" spTake) : Has P w K mg base 2 "_law_of" (spOfSome K) := by
  obtain ⟨f, fd, F, hm⟩ := D
  refine ⟨f, okR F (F.binds (ps := ["_law_pot_here", "_law_some"]) fun _ _ _ _ _ _ us hl => match us, hl with | [_, _], _ => rfl) sc_ofSome (fun vs H Q E h => ?_) (fun cdv A outer s H vs Q E hr h => ?_), hm, F.kp⟩
  · obtain ⟨a, n, l, xs, rfl, _⟩ := h
    rfl
  · obtain ⟨a, n, l, xs, rfl, hp, hn, hl, nla, x0, x1, q⟩ := h
    refine ⟨_, pss_one (ps_ret (pe_ix ix_list (pv 1) (pe_callH GT hr (by rfl) (pa_cons (pv 0) (pa_cons (pe_callB call_len_seq (by rfl) T.b_len PySem.boot_len (pa_cons (pv 1) pa_nil)) pa_nil))) (fun _ _ => rfl))), ?_⟩
    refine ⟨.ref l, rfl, .ref a, rfl, .ref l, rfl, l, xs, rfl, .inl hl, a, n, xs.length, rfl, hp, hn, by omega, by omega, fun d H' d0 d1 sx hp' => ?_⟩
    have hd : d.toNat < xs.length := by omega
    have hg : xs[d.toNat]? = some xs[d.toNat] := List.getElem?_eq_getElem hd
    exact ⟨l, xs, d, _, rfl, rfl, seqX sx nla hl, at_of (j := d.toNat) (by omega) hg, q d.toNat _ H' hg sx hp'⟩
/-! ### _law_frac -/
theorem sc_frac : FnScope ["_law_num", "_law_den", "_law_one", "_law_other"] ["_law_num", "_law_den"] (defScope sFrac) := ⟨rfl, rfl, rfl, by decide +kernel, rfl, by decide +kernel, by decide +kernel⟩
def muFrac : L2.St → Hp → Nat := fun σ _ => match σ with
  | [_, _, _, some (.int b)] => b.toNat
  | _ => 0
theorem has_frac (D : Def K mg "_law_frac" sFrac) (T : Txt K mg C) : Has P w K mg base 1 "_law_frac" spFrac := by
  obtain ⟨f, fd, F, hm⟩ := D
  refine ⟨f, okR F (F.binds (ps := ["_law_num", "_law_den"]) fun _ _ _ _ _ _ us hl => match us, hl with | [_, _], _ => rfl) sc_frac (fun vs H Q E h => ?_) (fun cdv A outer s H vs Q E hr h => ?_), hm, F.kp⟩
  · obtain ⟨n, d, rfl, _⟩ := h
    rfl
  · obtain ⟨n, d, rfl, d0, d1, q⟩ := h
    refine ⟨_, pss_cons (ps_par (by rfl) sc_frac.nd (i := 2) (j := 3) rfl rfl (by decide) rfl rfl (pa_cons (pe_callTy call_int1 (by rfl) T.b_int PyProof.Rows.boot_int (pa_cons (pe_callB call_abs (by rfl) T.b_abs boot_abs (pa_cons (pv 0) pa_nil)) pa_nil))
        (pa_cons (pe_callTy call_int1 (by rfl) T.b_int PyProof.Rows.boot_int (pa_cons (pv 1) pa_nil)) pa_nil)) (by rfl))
      (pss_cons (ps_while PassesOwn.never (pt_cmpR op_gt (pv 3) pe_int (nomark _)) (pss_one (ps_par (by rfl) sc_frac.nd (i := 2) (j := 3) rfl rfl (by decide) rfl rfl (pa_cons (pv 3) (pa_cons (pe_op op_mod (pe_callTy call_int1 (by rfl) T.b_int PyProof.Rows.boot_int (pa_cons (pv 2) pa_nil)) (pv 3)) pa_nil)) (by rfl))))
      (pss_one (ps_ret (pe_tup (pa_cons (pe_op op_fdiv (pv 0) (pv 2)) (pa_cons (pe_op op_fdiv (pv 1) (pv 2)) pa_nil)))))), ?_⟩
    refine ⟨.int n, rfl, n, rfl, .inl ⟨_, rfl, .int d, rfl, .inl ⟨d, rfl, _, _, rfl, ?_⟩⟩⟩
    refine while_by (fun σ H' => ∃ x y : Nat, σ = [some (.int n), some (.int d), some (.int x), some (.int y)] ∧ Nat.gcd x y = Int.gcd n d ∧ H' = H) muFrac ⟨n.natAbs, d.natAbs, ?_, rfl, rfl⟩ (fun σ H' hp => ?_) fun σ H1 Q1 Q2 hq h1 => ?_
    · have e1 := abs_nat n
      have e2 : (d.natAbs : Int) = d := by omega
      rw [← e1, e2]
      rfl
    · obtain ⟨x, y, rfl, hg, rfl⟩ := hp
      refine ⟨_, rfl, _, _, rfl, rfl, _, rfl, ite2 (fun e => ?_) (fun e => ?_)⟩
      · have hy : (0 : Int) < y := of_decide_eq_true e
        refine ⟨.int y, rfl, .int x, rfl, .inl ⟨x, rfl, .int y, rfl, x, y, rfl, rfl, hy, _, _, rfl, ⟨y, x % y, ?_, ?_, rfl⟩, ?_⟩⟩
        · show [some (V.int n), some (V.int d), some (V.int y), some (V.int ((x : Int) % (y : Int)))] = _
          rw [Int.natCast_emod]
        · rw [Nat.gcd_comm y, ← hg, Nat.gcd_comm x y, ← Nat.gcd_rec y x, Nat.gcd_comm]
        · show ((x : Int) % (y : Int)).toNat < (y : Int).toNat
          have := Int.emod_lt_of_pos (x : Int) hy
          have := Int.emod_nonneg (x : Int) (show (y : Int) ≠ 0 by omega)
          omega
      · have hy : ¬ (0 : Int) < y := fun z => e (decide_eq_true z)
        have hy0 : y = 0 := by omega
        subst hy0
        rw [Nat.gcd_zero_right] at hg
        subst hg
        have hgp := gcd_pos (n := n) d0
        have hgl := gcd_le (n := n) d0
        refine ⟨.int n, rfl, _, rfl, _, _, rfl, rfl, ⟨by omega, by omega⟩, .int d, rfl, _, rfl, _, _, rfl, rfl, ⟨by omega, by omega⟩, ?_⟩
        exact ⟨by show (2 : Nat) ≤ sizeLine; rw [sizeLine_eq]; decide, fun p hp => q p _ (same_upd hp) hp upd_same⟩
    · obtain ⟨v, e, i, j, e1, e2, k, ek, q1⟩ := h1
      exact ⟨v, e, i, j, e1, e2, k, ek, hq _ _ q1⟩
/-! ### _law_plus, _law_ratio, _law_is_before -/
theorem sc_lawPlus : FnScope ["_law_one", "_law_other"] ["_law_one", "_law_other"] (defScope sLawPlus) := ⟨rfl, rfl, rfl, by decide +kernel, rfl, by decide +kernel, by decide +kernel⟩
theorem fit_mul' {r s : R} (fr : Fit r) (fs : Fit s) : r.2 * s.2 < 1073741824 := by
  have a := fr.hd
  have b := fs.hd
  have c : r.2 * s.2 ≤ 16383 * 16383 := Int.mul_le_mul a b (Int.le_of_lt fs.pos) (by decide)
  omega
theorem has_lawPlus (D : Def K mg "_law_plus" sLawPlus) (GF : Has P w K mg base 1 "_law_frac" spFrac) : Has P w K mg base 2 "_law_plus" (spLawPlus K) := by
  obtain ⟨f, fd, F, hm⟩ := D
  refine ⟨f, okR F (F.binds (ps := ["_law_one", "_law_other"]) fun _ _ _ _ _ _ us hl => match us, hl with | [_, _], _ => rfl) sc_lawPlus (fun vs H Q E h => ?_) (fun cdv A outer s H vs Q E hr h => ?_), hm, F.kp⟩
  · obtain ⟨a, b, r, s', rfl, _⟩ := h
    rfl
  · obtain ⟨a, b, r, s', rfl, ha, hb, fr, fs, q⟩ := h
    refine ⟨_, pss_one (ps_ret (pe_callH GF hr (by rfl) (pa_cons (pe_op op_add (pe_op op_mul (pe_ix ix_tup (pv 0) pe_int (fun _ _ => rfl)) (pe_ix ix_tup (pv 1) pe_int (fun _ _ => rfl))) (pe_op op_mul (pe_ix ix_tup (pv 1) pe_int (fun _ _ => rfl)) (pe_ix ix_tup (pv 0) pe_int (fun _ _ => rfl))))
      (pa_cons (pe_op op_mul (pe_ix ix_tup (pv 0) pe_int (fun _ _ => rfl)) (pe_ix ix_tup (pv 1) pe_int (fun _ _ => rfl))) pa_nil)))), ?_⟩
    refine ⟨.ref a, rfl, a, _, 0, _, rfl, rfl, ha, at_of (j := 0) rfl rfl, .ref b, rfl, b, _, 1, _, rfl, rfl, hb, at_of (j := 1) rfl rfl, _, _, rfl, rfl, .inl fr.lo, ?_⟩
    refine ⟨.ref b, rfl, b, _, 0, _, rfl, rfl, hb, at_of (j := 0) rfl rfl, .ref a, rfl, a, _, 1, _, rfl, rfl, ha, at_of (j := 1) rfl rfl, _, _, rfl, rfl, .inl fs.lo, _, _, rfl, rfl, ?_⟩
    refine ⟨.ref a, rfl, a, _, 1, _, rfl, rfl, ha, at_of (j := 1) rfl rfl, .ref b, rfl, b, _, 1, _, rfl, rfl, hb, at_of (j := 1) rfl rfl, _, _, rfl, rfl, .inl fr.un, ?_⟩
    exact ⟨_, _, rfl, Int.mul_pos fr.pos fs.pos, fit_mul' fr fs, q⟩
theorem sc_lawRatio : FnScope ["_law_pair"] ["_law_pair"] (defScope sLawRatio) := ⟨rfl, rfl, rfl, by decide +kernel, rfl, by decide +kernel, by decide +kernel⟩
theorem has_lawRatio (D : Def K mg "_law_ratio" sLawRatio) (T : Txt K mg C) (GR : HasI P w K mg base C) : Has P w K mg base 4 "_law_ratio" (spLawRatio K C) := by
  obtain ⟨f, fd, F, hm⟩ := D
  refine ⟨f, okR F (F.binds (ps := ["_law_pair"]) fun _ _ _ _ _ _ us hl => match us, hl with | [_], _ => rfl) sc_lawRatio (fun vs H Q E h => ?_) (fun cdv A outer s H vs Q E hr h => ?_), hm, F.kp⟩
  · obtain ⟨a, r, rfl, _⟩ := h
    rfl
  · obtain ⟨a, r, rfl, ha, fr, q⟩ := h
    refine ⟨_, pss_one (ps_ret (pe_ratio2 GR T hr (by rfl) (pa_cons (pe_ix ix_tup (pv 0) pe_int (fun _ _ => rfl)) (pa_cons (pe_ix ix_tup (pv 0) pe_int (fun _ _ => rfl)) pa_nil)))), ?_⟩
    refine ⟨.ref a, rfl, a, _, 0, _, rfl, rfl, ha, at_of (j := 0) rfl rfl, .ref a, rfl, a, _, 1, _, rfl, rfl, ha, at_of (j := 1) rfl rfl, ?_⟩
    have := fr.hd
    refine ⟨r.1, r.2, rfl, fr.pos, by omega, ?_⟩
    rw [fr.red]
    exact q
theorem sc_isBefore : FnScope ["_law_one", "_law_other"] ["_law_one", "_law_other"] (defScope sIsBefore) := ⟨rfl, rfl, rfl, by decide +kernel, rfl, by decide +kernel, by decide +kernel⟩
theorem has_isBefore (D : Def K mg "_law_is_before" sIsBefore) : Has P w K mg base 1 "_law_is_before" (spIsBefore K) := by
  obtain ⟨f, fd, F, hm⟩ := D
  refine ⟨f, okR F (F.binds (ps := ["_law_one", "_law_other"]) fun _ _ _ _ _ _ us hl => match us, hl with | [_, _], _ => rfl) sc_isBefore (fun vs H Q E h => ?_) (fun cdv A outer s H vs Q E hr h => ?_), hm, F.kp⟩
  · obtain ⟨a, b, r, s', rfl, _⟩ := h
    rfl
  · obtain ⟨a, b, r, s', rfl, ha, hb, fr, fs, q⟩ := h
    refine ⟨_, pss_one (ps_ret (pe_cmpR op_lt (pe_op op_mul (pe_ix ix_tup (pv 0) pe_int (fun _ _ => rfl)) (pe_ix ix_tup (pv 1) pe_int (fun _ _ => rfl))) (pe_op op_mul (pe_ix ix_tup (pv 1) pe_int (fun _ _ => rfl)) (pe_ix ix_tup (pv 0) pe_int (fun _ _ => rfl))) (nomark _))), ?_⟩
    refine ⟨.ref a, rfl, a, _, 0, _, rfl, rfl, ha, at_of (j := 0) rfl rfl, .ref b, rfl, b, _, 1, _, rfl, rfl, hb, at_of (j := 1) rfl rfl, _, _, rfl, rfl, .inl fr.lo, ?_⟩
    refine ⟨.ref b, rfl, b, _, 0, _, rfl, rfl, hb, at_of (j := 0) rfl rfl, .ref a, rfl, a, _, 1, _, rfl, rfl, ha, at_of (j := 1) rfl rfl, _, _, rfl, rfl, .inl fs.lo, ?_⟩
    exact ⟨_, _, rfl, rfl, q⟩
/-! ### _law_drawn_pair -/
theorem sc_drawn : FnScope ["_law_pot_here", "_law_den", "_law_some"] ["_law_pot_here"] (defScope sDrawn) := ⟨rfl, rfl, rfl, by decide +kernel, rfl, by decide +kernel, by decide +kernel⟩
theorem den_in {d : Int} (h0 : 0 ≤ d) (h1 : d < 12) {i : Nat} {x : V} (h : [V.int 1, V.int 1, V.int 1, V.int 2, V.int 3, V.int (1 + d)][i]? = some x) : ∃ z : Int, x = .int z ∧ 0 < z ∧ z ≤ 12 := by
  have m := List.mem_of_getElem? h
  simp only [List.mem_cons, List.not_mem_nil, or_false] at m
  rcases m with rfl | rfl | rfl | rfl | rfl | rfl
  · exact ⟨_, rfl, by decide, by decide⟩
  · exact ⟨_, rfl, by decide, by decide⟩
  · exact ⟨_, rfl, by decide, by decide⟩
  · exact ⟨_, rfl, by decide, by decide⟩
  · exact ⟨_, rfl, by decide, by decide⟩
  · exact ⟨_, rfl, by omega, by omega⟩
theorem num_in {d : Int} (h0 : 0 ≤ d) (h1 : d < 2001) {i : Nat} {x : V} (h : [V.int 0, V.int 1, V.int (-1), V.int 2, V.int (-3), V.int 7, V.int 10, V.int (-12), V.int (d - 1000), V.int 999999999, V.int (-999999999)][i]? = some x) : ∃ z : Int, x = .int z ∧ z.natAbs ≤ 999999999 := by
  have m := List.mem_of_getElem? h
  simp only [List.mem_cons, List.not_mem_nil, or_false] at m
  rcases m with rfl | rfl | rfl | rfl | rfl | rfl | rfl | rfl | rfl | rfl | rfl
  all_goals exact ⟨_, rfl, by omega⟩
theorem Pot.kept {n : Nat} {H H' : Hp} {a : Addr} (h : Pot n H a) (s : Same H H') : Pot n H' a := by
  obtain ⟨o, y, c, ha, r⟩ := h
  exact ⟨o, y, c, s _ _ ha, r⟩
theorem Pot.at_ {n : Nat} {H : Hp} {a : Addr} (h : Pot n H a) : ∃ xs, H a = some (.lst xs) := by
  obtain ⟨o, y, c, ha, _⟩ := h
  exact ⟨_, ha⟩
theorem has_drawn (D : Def K mg "_law_drawn_pair" sDrawn) (GT : Has P w K mg base 1 "_law_take" spTake) (GO : Has P w K mg base 2 "_law_of" (spOfSome K)) (GF : Has P w K mg base 1 "_law_frac" spFrac) : Has P w K mg base 3 "_law_drawn_pair" spDrawn := by
  obtain ⟨f, fd, F, hm⟩ := D
  refine ⟨f, okR F (F.binds (ps := ["_law_pot_here"]) fun _ _ _ _ _ _ us hl => match us, hl with | [_], _ => rfl) sc_drawn (fun vs H Q E h => ?_) (fun cdv A outer s H vs Q E hr h => ?_), hm, F.kp⟩
  · obtain ⟨a, n, rfl, _⟩ := h
    rfl
  · obtain ⟨a, n, rfl, hp, hn, q⟩ := h
    refine ⟨_, pss_cons (ps_set (i := 1) sc_drawn.nd rfl (.inl rfl) (pe_callH GO hr (by rfl) (pa_cons (pv 0) (pa_cons (pe_lst (pa_cons pe_int (pa_cons pe_int (pa_cons pe_int (pa_cons pe_int (pa_cons pe_int (pa_cons (pe_op op_add pe_int (pe_callH GT hr (by rfl) (pa_cons (pv 0) (pa_cons pe_int pa_nil)))) pa_nil))))))) pa_nil))))
      (pss_cons (ps_set (i := 2) sc_drawn.nd rfl (.inl rfl) (pe_lst (pa_cons pe_int (pa_cons pe_int (pa_cons (pe_un un_neg pe_int) (pa_cons pe_int (pa_cons (pe_un un_neg pe_int) (pa_cons pe_int (pa_cons pe_int (pa_cons (pe_un un_neg pe_int)
        (pa_cons (pe_op op_sub (pe_callH GT hr (by rfl) (pa_cons (pv 0) (pa_cons pe_int pa_nil))) pe_int) (pa_cons pe_int (pa_cons (pe_un un_neg pe_int) pa_nil)))))))))))))
      (pss_one (ps_ret (pe_callH GF hr (by rfl) (pa_cons (pe_callH GO hr (by rfl) (pa_cons (pv 0) (pa_cons (pv 2) pa_nil))) (pa_cons (pv 1) pa_nil)))))), ?_⟩
    have line : (100 : Nat) ≤ sizeLine := by rw [sizeLine_eq]; decide
    refine ⟨.ref a, rfl, .ref a, rfl, a, n, 12, rfl, hp, by omega, by decide, by decide, fun d H1 d0 d1 s1 hp1 => ?_⟩
    refine ⟨_, _, rfl, rfl, by show (6 : Nat) ≤ sizeLine; omega, fun l hl => ?_⟩
    obtain ⟨ys, hys⟩ := hp1.at_
    refine ⟨a, n + 1, l, _, rfl, hp1.kept (same_upd hl), by omega, SqL.of upd_same, (ne_of_none hys hl).symm, by show 0 < 6; decide, by show 6 ≤ 1000; decide, fun i x H2 hx s2 hp2 => ?_⟩
    obtain ⟨z, rfl, z0, z12⟩ := den_in d0 d1 hx
    refine ⟨1, rfl, 3, rfl, 12, rfl, .ref a, rfl, a, n + 2, 2001, rfl, hp2, by omega, by decide, by decide, fun e H3 e0 e1 s3 hp3 => ?_⟩
    refine ⟨_, _, rfl, rfl, 999999999, rfl, by show (11 : Nat) ≤ sizeLine; omega, fun L hL => ?_⟩
    obtain ⟨zs, hzs⟩ := hp3.at_
    refine ⟨.ref a, rfl, .ref L, rfl, a, n + 3, L, _, rfl, hp3.kept (same_upd hL), by omega, SqL.of upd_same, (ne_of_none hzs hL).symm, by show 0 < 11; decide, by show 11 ≤ 1000; decide, fun j y H4 hy s4 hp4 => ?_⟩
    obtain ⟨m, rfl, m0⟩ := num_in e0 e1 hy
    refine ⟨.int z, rfl, m, z, rfl, z0, by omega, fun p H5 sm hpn hH5 => ?_⟩
    have sx : SameX a H H4 := (((s1.trans (SameX.of (same_upd hl))).trans s2).trans s3).trans ((SameX.of (same_upd hL)).trans s4)
    obtain ⟨ws, hws⟩ := hp4.at_
    have hfree : H p = none := by
      cases e : H p with
      | none => rfl
      | some o =>
        by_cases h : p = a
        · rw [h, hws] at hpn
          cases hpn
        · have := sx p o e h
          rw [this] at hpn
          cases hpn
    exact q p (red m z) H5 hfree (sx.trans (SameX.of sm)) (hp4.kept sm) hH5 (red_ok z0 m0 (by omega))
end
end K11
namespace K11
open PySem PySem.Spec PyProof.Rows L2
theorem refs_len (ps : List (Addr × R)) : (refs ps).length = ps.length := List.length_map _
theorem refs_get {ps : List (Addr × R)} {i : Nat} {p : Addr × R} (h : ps[i]? = some p) : (refs ps)[i]? = some (.ref p.1) := by
  unfold refs
  rw [List.getElem?_map, h]
  rfl
theorem refs_ins (p : Addr × R) (l : List (Addr × R)) : (refs l).take (place p l) ++ [V.ref p.1] ++ (refs l).drop (place p l) = refs (ins p l) := by
  unfold refs ins
  rw [List.map_append, List.map_append, List.map_take, List.map_drop]
  rfl
theorem refs_of {ps : List (Addr × R)} {i : Nat} {x : V} (h : (refs ps)[i]? = some x) : ∃ p, ps[i]? = some p ∧ x = .ref p.1 := by
  unfold refs at h
  rw [List.getElem?_map] at h
  cases e : ps[i]? with
  | none => rw [e] at h; cases h
  | some p =>
    rw [e] at h
    exact ⟨p, rfl, (Option.some.inj h).symm⟩
theorem mem_taken {x : Addr × R} {ps : List (Addr × R)} {i : Nat} (h : x ∈ laid [] (ps.take i)) : x ∈ ps := by
  rcases mem_laid h with z | z
  · cases z
  · exact List.mem_of_mem_take z
theorem taken_len {ps : List (Addr × R)} (i : Nat) : (laid [] (ps.take i)).length ≤ ps.length := by
  rw [len_laid, List.length_take, List.length_nil]
  omega
/-- a while whose exit is named -/
def tWhileX (c : TT) (tb : TS) : TS := fun D σ H => ∃ Ex : L2.St → Hp → Prop, tWhile c tb { D with nx := Ex } σ H ∧ ∀ σ H, Ex σ H → D.nx σ H
theorem ps_whileX {X : Cx} {c : Expr} {body : List Stmt} {tc : TT} {tb : TS} {pos : Pos} (hp : PassesOwn (model X.prog X.w) X.A X.env X.xe) (hc : PT X c tc) (hb : PSs X body tb) : PS X (.While c body [] pos) (tWhileX tc tb) := by
  refine ⟨fun pins s σ H D I h => ?_⟩
  obtain ⟨Ex, h1, h2⟩ := h
  refine thn ((ps_while hp hc hb).run pins s σ H { D with nx := Ex } I h1) fun f s' q => ?_
  cases f with
  | next =>
    obtain ⟨σ', H', I', q⟩ := q
    exact ⟨σ', H', I', h2 σ' H' q⟩
  | brk => exact q
  | cont => exact q
  | ret v => exact q
section
variable {P : Program} {w : World} {K : PySem.W.Frag} {mg : Str → Option Value} {base : Heap} {C : Addr}
/-! ### _law_laid -/
theorem sc_laid : FnScope ["_law_pairs", "_law_found", "_law_pair", "_law_at"] ["_law_pairs"] (defScope sLaid) := ⟨rfl, rfl, rfl, by decide +kernel, rfl, by decide +kernel, by decide +kernel⟩
theorem has_laid (D : Def K mg "_law_laid" sLaid) (T : Txt K mg C) (GB : Has P w K mg base 1 "_law_is_before" (spIsBefore K)) : Has P w K mg base 2 "_law_laid" (spLaid K) := by
  obtain ⟨f, fd, F, hm⟩ := D
  refine ⟨f, okR F (F.binds (ps := ["_law_pairs"]) fun _ _ _ _ _ _ us hl => match us, hl with | [_], _ => rfl) sc_laid (fun vs H Q E h => ?_) (fun cdv A outer s H vs Q E hr h => ?_), hm, F.kp⟩
  · obtain ⟨l, ps, rfl, _⟩ := h
    rfl
  · obtain ⟨l, ps, rfl, hl, hall, hlen, q⟩ := h
    refine ⟨_, pss_cons (ps_set (i := 1) sc_laid.nd rfl (.inl rfl) (pe_lst pa_nil))
      (pss_cons (ps_for PassesOwn.never rfl (pi_list (pv 0)) (pg_name (i := 2) sc_laid.nd rfl (.inl rfl))
        (pss_cons (ps_set (i := 3) sc_laid.nd rfl (.inl rfl) pe_int)
        (pss_cons (ps_whileX PassesOwn.never (PW.pt (pw_and (pt_cmpR op_lt (pv 3) (pe_callB call_len_seq (by rfl) T.b_len PySem.boot_len (pa_cons (pv 1) pa_nil)) (nomark _))
          (pw_and1 (pt_not (pt_val (pe_callH GB hr (by rfl) (pa_cons (pv 2) (pa_cons (pe_ix ix_list (pv 1) (pv 3) (fun _ _ => rfl)) pa_nil))))))))
          (pss_one (ps_set (i := 3) sc_laid.nd rfl (.inl rfl) (pe_op op_add (pv 3) pe_int))))
        (pss_one (ps_expr (pe_bm PySem.F.plainAttrs_list PySem.F.slot_list_insert PySem.F.type_list_insert mt_insert (pv 1) (pa_cons (pv 3) (pa_cons (pv 2) pa_nil))))))))
      (pss_one (ps_ret (pv 1)))), ?_⟩
    have line : (1000 : Nat) ≤ sizeLine := by rw [sizeLine_eq]; decide
    refine ⟨Nat.zero_le _, fun L hL => ?_⟩
    have s0 : Same H (upd H L (.lst [])) := same_upd hL
    refine ⟨.ref l, rfl, l, rfl, ⟨_, s0.seq hl⟩, for_list (xs := refs ps) (fun i σ H' => ∃ y2 y3, σ = [some (.ref l), some (.ref L), y2, y3] ∧ Same H H' ∧ H' L = some (.lst (refs (laid [] (ps.take i)))))
      ⟨none, none, rfl, s0, upd_same⟩ (fun i σ H' _ hp => ?_) (fun i x σ H' hx hp => ?_) fun σ H' hp => ?_⟩
    · obtain ⟨_, _, _, sm, _⟩ := hp
      exact sm.seq hl
    · obtain ⟨y2, y3, rfl, sm, hF⟩ := hp
      obtain ⟨p, hpi, rfl⟩ := refs_of hx
      obtain ⟨pA, pF⟩ := hall p (List.mem_of_getElem? hpi)
      have hlenF := taken_len (ps := ps) i
      have hnext := laid_take hpi
      have hmem : ∀ z ∈ laid [] (ps.take i), PairAt K H z.1 z.2 ∧ Fit z.2 := fun z hz => hall z (mem_taken hz)
      generalize laid [] (ps.take i) = FF at hF hlenF hnext hmem
      have hpl := place_le p FF
      refine ⟨fun σ H'' => σ = [some (.ref l), some (.ref L), some (.ref p.1), some (.int (place p FF))] ∧ H'' = H', ?_, fun σ H'' hex => ?_⟩
      · refine ⟨fun m σ H'' => ∃ k : Nat, m = place p FF - k ∧ σ = [some (.ref l), some (.ref L), some (.ref p.1), some (.int k)] ∧ k ≤ place p FF ∧ H'' = H', ⟨_, 0, rfl, rfl, Nat.zero_le _, rfl⟩, fun m σ H'' hW => ?_⟩
        obtain ⟨k, rfl, rfl, hk, rfl⟩ := hW
        refine ⟨.int k, rfl, .ref L, rfl, L, refs FF, rfl, .inl (SqL.of hF), _, _, rfl, rfl, _, rfl, ite2 (fun e => ?_) (fun e => ?_)⟩
        · have hkl : (k : Int) < ((refs FF).length : Int) := of_decide_eq_true e
          rw [refs_len] at hkl
          have hkn : k < FF.length := by omega
          have hg : FF[k]? = some FF[k] := List.getElem?_eq_getElem hkn
          obtain ⟨zA, zF⟩ := hmem _ (List.mem_of_getElem? hg)
          refine ⟨.ref p.1, rfl, .ref L, rfl, .int k, rfl, L, _, _, _, rfl, rfl, SqL.of hF, atI_nat (refs_get hg), p.1, FF[k].1, p.2, FF[k].2, rfl, seqT sm pA, seqT sm zA, pF, zF, _, rfl, ?_⟩
          cases hb : before p.2 FF[k].2 with
          | true =>
            refine iteF ?_
            have ek : place p FF = k := by
              rcases Nat.lt_or_ge k (place p FF) with z | z
              · have := place_before z hg
                rw [hb] at this
                cases this
              · omega
            rw [ek]
            exact ⟨rfl, rfl⟩
          | false =>
            refine iteT ?_
            have lt : k < place p FF := by
              rcases Nat.lt_or_ge k (place p FF) with z | z
              · exact z
              · have ek : place p FF = k := by omega
                have := place_at (p := p) (l := FF) (by rw [ek]; exact hg)
                rw [hb] at this
                cases this
            refine ⟨fun σ' H3 => σ' = [some (.ref l), some (.ref L), some (.ref p.1), some (.int ((k + 1 : Nat) : Int))] ∧ H3 = H'', fun σ' H3 hN => ?_, ?_⟩
            · obtain ⟨rfl, rfl⟩ := hN
              exact ⟨_, by omega, k + 1, rfl, rfl, lt, rfl⟩
            · exact ⟨.int k, rfl, _, _, rfl, rfl, rfl, rfl⟩
        · have hkl : ¬ (k : Int) < ((refs FF).length : Int) := fun z => e (decide_eq_true z)
          rw [refs_len] at hkl
          have ek : place p FF = k := by omega
          refine iteF ?_
          rw [ek]
          exact ⟨rfl, rfl⟩
      · obtain ⟨rfl, rfl⟩ := hex
        refine ⟨.ref L, rfl, .inl ⟨rfl, _, SqL.of hF⟩, .int (place p FF), rfl, .ref p.1, rfl, L, refs FF, _, _, rfl, rfl, hF, ?_, by omega, by omega, ?_⟩
        · rw [refs_len]
          omega
        · refine ⟨_, _, rfl, fun b o e => ?_, ?_⟩
          · have nb : b ≠ L := ne_of_none e hL
            rw [upd_ne nb]
            exact sm b o e
          · rw [upd_same, hnext, ← refs_ins]
            rfl
    · obtain ⟨y2, y3, rfl, sm, hF⟩ := hp
      rw [refs_len, List.take_length] at hF
      exact ⟨.ref L, rfl, q L H' sm hL hF⟩
/-! ### _law_told_laid -/
theorem sc_told : FnScope ["_law_numbers", "_law_found", "_law_number", "_law_at"] ["_law_numbers"] (defScope sTold) := ⟨rfl, rfl, rfl, by decide +kernel, rfl, by decide +kernel, by decide +kernel⟩
theorem has_told (D : Def K mg "_law_told_laid" sTold) (T : Txt K mg C) (GG : HasM P w K mg base C 6 "__ge__" (spCmp C fun x => decide (0 ≤ x))) : Has P w K mg base 7 "_law_told_laid" (spTold K C) := by
  obtain ⟨f, fd, F, hm⟩ := D
  refine ⟨f, okR F (F.binds (ps := ["_law_numbers"]) fun _ _ _ _ _ _ us hl => match us, hl with | [_], _ => rfl) sc_told (fun vs H Q E h => ?_) (fun cdv A outer s H vs Q E hr h => ?_), hm, F.kp⟩
  · obtain ⟨l, ps, rfl, _⟩ := h
    rfl
  · obtain ⟨l, ps, rfl, hl, hall, hlen, q⟩ := h
    refine ⟨_, pss_cons (ps_set (i := 1) sc_told.nd rfl (.inl rfl) (pe_lst pa_nil))
      (pss_cons (ps_for PassesOwn.never rfl (pi_list (pv 0)) (pg_name (i := 2) sc_told.nd rfl (.inl rfl))
        (pss_cons (ps_set (i := 3) sc_told.nd rfl (.inl rfl) pe_int)
        (pss_cons (ps_whileX PassesOwn.never (PW.pt (pw_and (pt_cmpR op_lt (pv 3) (pe_callB call_len_seq (by rfl) T.b_len PySem.boot_len (pa_cons (pv 1) pa_nil)) (nomark _))
          (pw_and1 (pt_cmpR (op_cmpH (op := .GtE) T GG hr) (pv 2) (pe_ix ix_list (pv 1) (pv 3) (fun _ _ => rfl)) (nomark _)))))
          (pss_one (ps_set (i := 3) sc_told.nd rfl (.inl rfl) (pe_op op_add (pv 3) pe_int))))
        (pss_one (ps_expr (pe_bm PySem.F.plainAttrs_list PySem.F.slot_list_insert PySem.F.type_list_insert mt_insert (pv 1) (pa_cons (pv 3) (pa_cons (pv 2) pa_nil))))))))
      (pss_one (ps_ret (pv 1)))), ?_⟩
    have line : (1000 : Nat) ≤ sizeLine := by rw [sizeLine_eq]; decide
    refine ⟨Nat.zero_le _, fun L hL => ?_⟩
    have s0 : Same H (upd H L (.lst [])) := same_upd hL
    refine ⟨.ref l, rfl, l, rfl, ⟨_, s0.seq hl⟩, for_list (xs := refs ps) (fun i σ H' => ∃ y2 y3, σ = [some (.ref l), some (.ref L), y2, y3] ∧ Same H H' ∧ H' L = some (.lst (refs (laid [] (ps.take i)))))
      ⟨none, none, rfl, s0, upd_same⟩ (fun i σ H' _ hp => ?_) (fun i x σ H' hx hp => ?_) fun σ H' hp => ?_⟩
    · obtain ⟨_, _, _, sm, _⟩ := hp
      exact sm.seq hl
    · obtain ⟨y2, y3, rfl, sm, hF⟩ := hp
      obtain ⟨p, hpi, rfl⟩ := refs_of hx
      obtain ⟨pA, pF⟩ := hall p (List.mem_of_getElem? hpi)
      have hlenF := taken_len (ps := ps) i
      have hnext := laid_take hpi
      have hmem : ∀ z ∈ laid [] (ps.take i), RA C H z.1 z.2 ∧ Fit z.2 := fun z hz => hall z (mem_taken hz)
      generalize laid [] (ps.take i) = FF at hF hlenF hnext hmem
      have hpl := place_le p FF
      refine ⟨fun σ H'' => σ = [some (.ref l), some (.ref L), some (.ref p.1), some (.int (place p FF))] ∧ Same H' H'', ?_, fun σ H'' hex => ?_⟩
      · refine ⟨fun m σ H'' => ∃ k : Nat, m = place p FF - k ∧ σ = [some (.ref l), some (.ref L), some (.ref p.1), some (.int k)] ∧ k ≤ place p FF ∧ Same H' H'', ⟨_, 0, rfl, rfl, Nat.zero_le _, Same.refl _⟩, fun m σ H'' hW => ?_⟩
        obtain ⟨k, rfl, rfl, hk, s2⟩ := hW
        have hF2 := s2 _ _ hF
        have sm2 := sm.trans s2
        refine ⟨.int k, rfl, .ref L, rfl, L, refs FF, rfl, .inl (SqL.of hF2), _, _, rfl, rfl, _, rfl, ite2 (fun e => ?_) (fun e => ?_)⟩
        · have hkl : (k : Int) < ((refs FF).length : Int) := of_decide_eq_true e
          rw [refs_len] at hkl
          have hkn : k < FF.length := by omega
          have hg : FF[k]? = some FF[k] := List.getElem?_eq_getElem hkn
          obtain ⟨zA, zF⟩ := hmem _ (List.mem_of_getElem? hg)
          refine ⟨.ref p.1, rfl, .ref L, rfl, .int k, rfl, L, _, _, _, rfl, rfl, SqL.of hF2, atI_nat (refs_get hg), p.1, p.2, FF[k].2, rfl, pA.same sm2, .inl ⟨FF[k].1, rfl, zA.same sm2⟩,
            p.1, p.2, .ref FF[k].1, FF[k].2, rfl, pA.same sm2, .inl ⟨FF[k].1, rfl, zA.same sm2⟩, pF, zF, fun H3 s3 => ⟨_, rfl, ?_⟩⟩
          have bs := before_spc p.2 FF[k].2
          refine ite2 (fun e => ?_) (fun e => ?_)
          · have ge : 0 ≤ spc p.2 FF[k].2 := of_decide_eq_true e
            have hb : before p.2 FF[k].2 = false := by
              rw [bs]
              exact decide_eq_false (by omega)
            have lt : k < place p FF := by
              rcases Nat.lt_or_ge k (place p FF) with z | z
              · exact z
              · have ek : place p FF = k := by omega
                have := place_at (p := p) (l := FF) (by rw [ek]; exact hg)
                rw [hb] at this
                cases this
            refine ⟨fun σ' H4 => σ' = [some (.ref l), some (.ref L), some (.ref p.1), some (.int ((k + 1 : Nat) : Int))] ∧ Same H' H4, fun σ' H4 hN => ?_, ?_⟩
            · obtain ⟨rfl, s4⟩ := hN
              exact ⟨_, by omega, k + 1, rfl, rfl, lt, s4⟩
            · exact ⟨.int k, rfl, _, _, rfl, rfl, rfl, s2.trans s3⟩
          · have ge : ¬ 0 ≤ spc p.2 FF[k].2 := fun z => e (decide_eq_true z)
            have hb : before p.2 FF[k].2 = true := by
              rw [bs]
              exact decide_eq_true (by omega)
            have ek : place p FF = k := by
              rcases Nat.lt_or_ge k (place p FF) with z | z
              · have := place_before z hg
                rw [hb] at this
                cases this
              · omega
            rw [ek]
            exact ⟨rfl, s2.trans s3⟩
        · have hkl : ¬ (k : Int) < ((refs FF).length : Int) := fun z => e (decide_eq_true z)
          rw [refs_len] at hkl
          have ek : place p FF = k := by omega
          refine iteF ?_
          rw [ek]
          exact ⟨rfl, s2⟩
      · obtain ⟨rfl, s2⟩ := hex
        have hF2 := s2 _ _ hF
        have sm2 := sm.trans s2
        refine ⟨.ref L, rfl, .inl ⟨rfl, _, SqL.of hF2⟩, .int (place p FF), rfl, .ref p.1, rfl, L, refs FF, _, _, rfl, rfl, hF2, ?_, by omega, by omega, ?_⟩
        · rw [refs_len]
          omega
        · refine ⟨_, _, rfl, fun b o e => ?_, ?_⟩
          · have nb : b ≠ L := ne_of_none e hL
            rw [upd_ne nb]
            exact sm2 b o e
          · rw [upd_same, hnext, ← refs_ins]
            rfl
    · obtain ⟨y2, y3, rfl, sm, hF⟩ := hp
      rw [refs_len, List.take_length] at hF
      exact ⟨.ref L, rfl, q L H' sm hL hF⟩
/-! ### _law_is_ratio -/
theorem sc_isRatio : FnScope ["_law_value", "_law_pair"] ["_law_value", "_law_pair"] (defScope sIsRatio) := ⟨rfl, rfl, rfl, by decide +kernel, rfl, by decide +kernel, by decide +kernel⟩
theorem has_isRatio (D : Def K mg "_law_is_ratio" sIsRatio) (T : Txt K mg C) (GN : HasP P w K mg base C 1 "number" (spNumber C)) (GU : HasP P w K mg base C 1 "under" (spUnder C)) : HasG P w K mg base 3 "_law_is_ratio" (spIsRatio K C) := by
  obtain ⟨f, fd, F, hm⟩ := D
  refine ⟨f, okG F (F.binds (ps := ["_law_value", "_law_pair"]) fun _ _ _ _ _ _ us hl => match us, hl with | [_, _], _ => rfl) sc_isRatio (fun vs H Q h => ?_) (fun cdv A outer s H vs Q guard hr h => ?_), hm, F.kp⟩
  · obtain ⟨a, r, b, rfl, _⟩ := h
    rfl
  · obtain ⟨a, r, b, rfl, ha, hb, fit, q⟩ := h
    refine ⟨_, pss_one (ps_ret (pe_and (pe_callB (call_is T) (by rfl) T.b_isinstance boot_isinstance (pa_cons (pv 0) (pa_cons (pe_ratioC T (by rfl)) pa_nil)))
      (pe_one (pe_cmpR op_eq (pe_callB (call_repr2 guard hr) (by rfl) T.b_repr boot_repr (pa_cons (pe_tup (pa_cons (pe_propH (pv 0) T.cl GN hr) (pa_cons (pe_propH (pv 0) T.cl GU hr) pa_nil))) pa_nil))
        (pe_callB (call_repr2 guard hr) (by rfl) T.b_repr boot_repr (pa_cons (pv 1) pa_nil)) (nomark _))))), ?_⟩
    refine ⟨.ref a, rfl, .inr (.inr (.inl ⟨a, r, rfl, ha, true, rfl, iteT ?_⟩))⟩
    obtain ⟨dx, hs⟩ := ha.slt
    have u1 : r.2.natAbs ≤ 4611686018427387904 := by
      have := fit.pos
      have := fit.hd
      omega
    have l1 := log2_of fit.hn
    have l2 := log2_of u1
    refine ⟨.ref a, rfl, a, dx, _, rfl, hs, a, r, rfl, ha, .ref a, rfl, a, dx, _, rfl, hs, a, r, rfl, ha, by show (2 : Nat) ≤ sizeLine; rw [sizeLine_eq]; decide, fun p hp => ?_⟩
    have sm : Same H (upd H p (.tup [.int r.1, .int r.2])) := same_upd hp
    refine ⟨p, r.1, r.2, rfl, SqT.of upd_same, by omega, by omega, .ref b, rfl, b, r.1, r.2, rfl, seqT sm hb, by omega, by omega, rfl, ?_⟩
    rw [decide_eq_true rfl]
    exact q _ sm
end
end K11
namespace K11
open PySem PySem.Spec PyProof.Rows L2
theorem PS.imp {X : Cx} {st : Stmt} {t t' : TS} (h : PS X st t) (k : ∀ D σ H, t' D σ H → t D σ H) : PS X st t' := ⟨fun pins s σ H D I q => h.run pins s σ H D I (k _ _ _ q)⟩
abbrev NR : List Str := ["_law_pot_here", "_law_pairs", "_law_numbers", "_law_laid_here", "_law_shift", "_law_by", "_law_one", "_law_other", "_law_space", "_law_turn", "_law_pair", "_law_number"]
abbrev XR (P : Program) (w : World) (K : PySem.W.Frag) (mg : Str → Option Value) (base : Heap) (f : Addr) (cdv : Value) (A : Around) (outer : List Env) (s : Shared) (H : Hp) : Cx :=
  (cxOf CX0 P w K mg base NR "_law_right" (defScope sRight) f cdv A outer s H E0).nox
abbrev stR (i : Nat) : Stmt := (defBody sRight).getD i (.Pass ⟨0, 0, 0, 0⟩)
theorem sc_right : FnScope NR ["_law_pot_here"] (defScope sRight) := ⟨rfl, rfl, rfl, by decide +kernel, rfl, by decide +kernel, by decide +kernel⟩
/-- the slots of _law_right -/
abbrev SR (a : Addr) (y1 y2 y3 y4 y5 y6 y7 y8 : Option V) : L2.St := [some (.ref a), y1, y2, y3, y4, y5, y6, y7, y8, none, none, none]
abbrev Small (r : R) : Prop := Ok 9999999999 84 r
theorem Small.fit {r : R} (h : Small r) : Fit r := h.mono (by decide) (by decide)
theorem ok_small {r : R} (h : Ok 999999999 12 r) : Small r := h.mono (by decide) (by decide)
/-- a heap step that leaves all but the pot frees nothing -/
theorem free_of {a p : Addr} {n : Nat} {H H' : Hp} (s : SameX a H H') (h : Pot n H' a) (hp : H' p = none) : H p = none := by
  obtain ⟨ws, hws⟩ := h.at_
  cases e : H p with
  | none => rfl
  | some o =>
    by_cases q : p = a
    · rw [q, hws] at hp
      cases hp
    · rw [s p o e q] at hp
      cases hp
section
variable {P : Program} {w : World} {K : PySem.W.Frag} {mg : Str → Option Value} {base : Heap} {C : Addr} {f : Addr} {cdv : Value} {A : Around} {outer : List Env} {s : Shared} {H0 : Hp}
/-! ### the six pairs -/
def tR1 (K : PySem.W.Frag) : TS := fun D σ H => ∃ (a : Addr) (n : Nat), σ = SR a none none none none none none none none ∧ Pot n H a ∧ n < 400 ∧ ∀ (L : Addr) (ps : List (Addr × R)) (H' : Hp), ps.length = 6 → H' L = some (.lst (refs ps)) → L ≠ a →
  (∀ p ∈ ps, PairAt K H' p.1 p.2 ∧ Ok 999999999 12 p.2) → SameX a H H' → Pot (n + 24) H' a → D.nx (SR a (some (.ref L)) none none none none none none none) H'
theorem refs_snoc (ps : List (Addr × R)) (p : Addr × R) : refs ps ++ [V.ref p.1] = refs (ps ++ [p]) := by
  unfold refs
  rw [List.map_append]
  rfl
theorem st1 {k : Nat} (room : Room k (XR P w K mg base f cdv A outer s H0).A) (h3 : 3 ≤ k) (T : Txt K mg C) (GD : Has P w K mg base 3 "_law_drawn_pair" spDrawn) : PS (XR P w K mg base f cdv A outer s H0) (stR 0) (tR1 K) := by
  refine PS.imp (ps_setLc (i := 1) (own := [("_law_turn", 9)]) (g := gName 9) (tt := tYes) (by rfl) sc_right.nd rfl rfl (sw_true rfl rfl rfl (by decide +kernel)) (pi_range1 (by rfl) T.b_range (pa_cons pe_int pa_nil))
    (blkOk_by (own := [("_law_turn", 9)]) (N := NR) (sc := defScope sRight) (by decide +kernel)) (fun _ _ _ _ _ => pg_name (i := 9) sc_right.nd rfl (Or.inl rfl)) (fun _ _ _ _ _ => pts_nil)
    (fun _ _ _ _ _ => pe_callH GD room (by rfl) (pa_cons (pv 0) pa_nil) h3)) fun D σ H h => ?_
  obtain ⟨a, n, rfl, hp, hn, q⟩ := h
  refine ⟨6, rfl, by decide, by decide, fun L hL => ?_⟩
  obtain ⟨ws, hws⟩ := hp.at_
  have naL : a ≠ L := ne_of_none hws hL
  refine lc_range (lo := 0) (n := 6) (fun i H' => ∃ ps : List (Addr × R), ps.length = i ∧ i ≤ 6 ∧ H' L = some (.lst (refs ps)) ∧ (∀ p ∈ ps, H' p.1 = some (.tup [.int p.2.1, .int p.2.2]) ∧ Ok 999999999 12 p.2) ∧ SameX a H H' ∧ Pot (n + 4 * i) H' a)
    ⟨[], rfl, by decide, upd_same, (fun _ hm => nomatch hm), SameX.of (same_upd hL), hp.kept (same_upd hL)⟩ (fun i H' hi hP => ?_) fun H' hP => ?_
  · obtain ⟨ps, hlen, _, hl, hall, sx, hp'⟩ := hP
    refine ⟨rfl, ?_⟩
    refine ⟨.ref a, rfl, a, n + 4 * i, rfl, hp', by omega, fun p r H2 hfree s2 hp2 htup ok => ?_⟩
    have hl2 := s2 _ _ hl naL.symm
    have npL : p ≠ L := ne_of htup hl2 (fun z => nomatch z)
    refine ⟨_, hl2, ?_, ps ++ [(p, r)], ?_, hi, ?_, fun z hz => ?_, fun b o e nb => ?_, ?_⟩
    · rw [refs_len, hlen]
      exact small1000 (by omega)
    · rw [List.length_append, hlen]
      rfl
    · rw [upd_same, ← refs_snoc]
    · rcases List.mem_append.mp hz with z1 | z1
      · obtain ⟨t1, t2⟩ := hall z z1
        have nz : z.1 ≠ a := by
          obtain ⟨vs, hvs⟩ := hp'.at_
          exact ne_of t1 hvs (fun y => nomatch y)
        have t3 := s2 _ _ t1 nz
        refine ⟨?_, t2⟩
        rw [upd_ne (ne_of t3 hl2 (fun y => nomatch y))]
        exact t3
      · have ez := List.mem_singleton.mp z1
        subst ez
        exact ⟨by rw [upd_ne npL]; exact htup, ok⟩
    · rw [upd_ne (ne_of_none e hL)]
      exact s2 b o (sx b o e nb) nb
    · obtain ⟨o, y, c, h1, h2⟩ := hp2
      have e4 : n + 4 * (i + 1) = n + 4 * i + 4 := by omega
      rw [e4]
      exact ⟨o, y, c, by rw [upd_ne naL]; exact h1, h2⟩
  · obtain ⟨ps, hlen, _, hl, hall, sx, hp'⟩ := hP
    exact q L ps H' hlen hl naL.symm (fun p hp => ⟨SqT.of (hall p hp).1, (hall p hp).2⟩) sx hp'
/-! ### two more -/
def tR2 (K : PySem.W.Frag) : TS := fun D σ H => ∃ (a L : Addr) (n : Nat) (ps : List (Addr × R)), σ = SR a (some (.ref L)) none none none none none none none ∧ Pot n H a ∧ n < 450 ∧ ps.length = 6 ∧ H L = some (.lst (refs ps)) ∧ L ≠ a ∧
  (∀ p ∈ ps, PairAt K H p.1 p.2 ∧ Ok 999999999 12 p.2) ∧ ∀ (M : Addr) (qs : List (Addr × R)) (H' : Hp), qs.length = 8 → H' M = some (.lst (refs qs)) → M ≠ a →
  (∀ p ∈ qs, PairAt K H' p.1 p.2 ∧ Small p.2) → SameX a H H' → Pot (n + 2) H' a → D.nx (SR a (some (.ref M)) none none none none none none none) H'
theorem seventh {r : R} (h : Ok 999999999 12 r) : Small (add r (1, 7)) := by
  have := h.pos
  have := h.hd
  have := h.hn
  refine red_ok ?_ ?_ ?_
  · show 0 < r.2 * 7
    omega
  · show (r.1 * 7 + 1 * r.2).natAbs ≤ 9999999999
    omega
  · show r.2 * 7 ≤ ((84 : Nat) : Int)
    omega
theorem fit17 : Fit (1, 7) := ⟨by decide, by decide, by decide, by decide⟩
theorem st2 {k : Nat} (room : Room k (XR P w K mg base f cdv A outer s H0).A) (h3 : 2 ≤ k) (GO : Has P w K mg base 2 "_law_of" (spOfSome K)) (GP : Has P w K mg base 2 "_law_plus" (spLawPlus K)) : PS (XR P w K mg base f cdv A outer s H0) (stR 1) (tR2 K) := by
  refine PS.imp (ps_set (i := 1) sc_right.nd rfl (.inl rfl) (pe_op op_cat (pv 1) (pe_lst (pa_cons (pe_callH GO room (by rfl) (pa_cons (pv 0) (pa_cons (pv 1) pa_nil)) h3)
    (pa_cons (pe_callH GP room (by rfl) (pa_cons (pe_callH GO room (by rfl) (pa_cons (pv 0) (pa_cons (pv 1) pa_nil)) h3) (pa_cons (pe_tup (pa_cons pe_int (pa_cons pe_int pa_nil))) pa_nil)) h3) pa_nil))))) fun D σ H h => ?_
  obtain ⟨a, L, n, ps, rfl, hp, hn, hlen, hl, nLa, hall, q⟩ := h
  have line : (100 : Nat) ≤ sizeLine := by rw [sizeLine_eq]; decide
  have hrl := refs_len ps
  refine ⟨.ref L, rfl, .ref a, rfl, .ref L, rfl, a, n, L, refs ps, rfl, hp, by omega, SqL.of hl, nLa, by omega, by omega, fun i x H1 hx s1 hp1 => ?_⟩
  obtain ⟨p7, h7, rfl⟩ := refs_of hx
  have m7 := List.mem_of_getElem? h7
  have hl1 := s1 _ _ hl nLa
  refine ⟨.ref a, rfl, .ref L, rfl, a, n + 1, L, refs ps, rfl, hp1, by omega, SqL.of hl1, nLa, by omega, by omega, fun j y H2 hy s2 hp2 => ?_⟩
  obtain ⟨p8, h8, rfl⟩ := refs_of hy
  have m8 := List.mem_of_getElem? h8
  obtain ⟨A8, O8⟩ := hall p8 m8
  have sx2 : SameX a H H2 := s1.trans s2
  obtain ⟨ws, hws⟩ := hp.at_
  have hl2 := sx2 _ _ hl nLa
  refine ⟨by show (2 : Nat) ≤ sizeLine; omega, fun t ht => ?_⟩
  have s3 := same_upd (o := .tup [.int 1, .int 7]) ht
  refine ⟨p8.1, t, p8.2, (1, 7), rfl, seqT s3 (seqTX sx2 hws A8), SqT.of upd_same, (ok_small O8).fit, fit17, fun p9 H4 s4 hf9 h9 => ?_⟩
  refine ⟨by show (2 : Nat) ≤ sizeLine; omega, fun B hB => ?_⟩
  have s5 := same_upd (o := .lst [.ref p7.1, .ref p9]) hB
  have s25 := (s3.trans s4).trans s5
  refine ⟨L, B, refs ps, [.ref p7.1, .ref p9], rfl, rfl, s25 _ _ hl2, upd_same, ?_, fun M hM => ?_⟩
  · rw [hrl]
    show ps.length + 2 ≤ sizeLine
    omega
  · have s6 := same_upd (o := .lst (refs ps ++ [.ref p7.1, .ref p9])) hM
    have s26 := s25.trans s6
    have el : refs ps ++ [.ref p7.1, .ref p9] = refs (ps ++ [p7, (p9, add p8.2 (1, 7))]) := by
      unfold refs
      rw [List.map_append]
      rfl
    have hp6 := hp2.kept s26
    obtain ⟨vs, hvs⟩ := hp6.at_
    have hM' : H2 M = none := Same.free s25 hM
    obtain ⟨us, hus⟩ := hp2.at_
    refine q M (ps ++ [p7, (p9, add p8.2 (1, 7))]) _ ?_ ?_ (ne_of_none hus hM').symm (fun z hz => ?_) (sx2.trans (SameX.of s26)) hp6
    · rw [List.length_append, hlen]
      rfl
    · rw [upd_same, el]
    · rcases List.mem_append.mp hz with z1 | z1
      · obtain ⟨t1, t2⟩ := hall z z1
        exact ⟨seqT s26 (seqTX sx2 hws t1), ok_small t2⟩
      · simp only [List.mem_cons, List.not_mem_nil, or_false] at z1
        rcases z1 with rfl | rfl
        · obtain ⟨t1, t2⟩ := hall z m7
          exact ⟨seqT s26 (seqTX sx2 hws t1), ok_small t2⟩
        · exact ⟨seqT (s5.trans s6) (SqT.of h9), seventh O8⟩
end
end K11
namespace K11
open PySem PySem.Spec PyProof.Rows L2
/-- Ratio.of -/
def HasS (P : Program) (w : World) (K : PySem.W.Frag) (mg : Str → Option Value) (base : Heap) (C : Addr) : Prop := ∃ mc p g, ClX.CRead K C mc ∧ SMet K C mc "of" p g ∧ FnR P w K mg base CX0 4 g (spOf C)
section
variable {X : Cx} {C : Addr} {k : Nat} {e : Expr} {es : List Expr} {t : TA} {p p0 pos : Pos} {pl : Sem Bool}
theorem pe_ofH (G : HasS X.prog X.w X.K X.mg X.base C) (T : Txt X.K X.mg C) (room : Room k X.A) (h4 : 4 ≤ k) (hg : Gl X "Ratio") (hargs : PA X (e :: es) t)
    (hst : starEach (e :: es) X.env = (false, eval e X.env) :: starEach es X.env := by rfl) (hpl : (backTo pos (starEach es X.env)).any (·.1) = false := by rfl)
    (ht : eval (.Call (.Attribute (.Name "Ratio" p0) "of" p) (e :: es) [] pos) X.env = (do
      let ov ← eval (.Name "Ratio" p0) X.env
      standAt p.atName
      let (f, first) ← holding [ov] (getMethod ov "of" pl)
      callWith pos f first (backTo pos (starEach (e :: es) X.env)) (backToKw pos (keywordEach [] X.env))) := by rfl) :
    PE X (.Call (.Attribute (.Name "Ratio" p0) "of" p) (e :: es) [] pos) (tSMeth C (spOf C) E0 (tC (.ref C)) t) := by
  obtain ⟨mc, q, g, rd, sm, F⟩ := G
  exact pe_smeth (pl := pl) (pe_ratioC T hg) rd sm F (room.mono h4) pass0 hargs hst hpl ht
end
theorem rd_cmp {C a : Addr} {H : Hp} {r s : R} {v : V} {fn : Int → Bool} {Q : VK} (ha : RA C H a r) (hn : Num C H v s) (fr : Fit r) (fs : Fit s) (k : ∀ H', Same H H' → Q (.bl (fn (spc r s))) H') : rCmpN C (spCmp C fn) (.ref a) v H Q :=
  ⟨a, r, s, rfl, ha, hn, a, r, v, s, rfl, ha, hn, fr, fs, k⟩
theorem rd_eq {C a b : Addr} {H : Hp} {r s : R} {Q : VK} (ha : RA C H a r) (hb : RA C H b s) (k : Q (.bl (decide (r.1 = s.1) && decide (r.2 = s.2))) H) : rCmpN C (spEq C) (.ref a) (.ref b) H Q :=
  ⟨a, r, s, rfl, ha, .inl ⟨b, rfl, hb⟩, a, r, b, s, rfl, ha, hb, k⟩
theorem rd_bin {C a b : Addr} {H : Hp} {r s : R} {fn : R → R → R} {Q : VK} (ha : RA C H a r) (hb : RA C H b s) (fr : Fit r) (fs : Fit s) (k : New C H (fn r s) Q) : rBinR C (spArith C fn) (.ref a) (.ref b) H Q :=
  ⟨a, r, b, s, rfl, rfl, ha, hb, a, r, .ref b, s, rfl, ha, .inl ⟨b, rfl, hb⟩, fr, fs, k⟩
theorem rd_num {C a : Addr} {H : Hp} {r s : R} {v : V} {fn : R → R → R} {Q : VK} (ha : RA C H a r) (hn : Num C H v s) (fr : Fit r) (fs : Fit s) (k : New C H (fn r s) Q) : rCmpN C (spArith C fn) (.ref a) v H Q :=
  ⟨a, r, s, rfl, ha, hn, a, r, v, s, rfl, ha, hn, fr, fs, k⟩
section
variable {P : Program} {w : World} {K : PySem.W.Frag} {mg : Str → Option Value} {base : Heap} {C : Addr} {f : Addr} {cdv : Value} {A : Around} {outer : List Env} {s : Shared} {H0 : Hp}
/-! ### the numbers -/
def tR3 (K : PySem.W.Frag) (C : Addr) : TS := fun D σ H => ∃ (a M : Addr) (qs : List (Addr × R)), σ = SR a (some (.ref M)) none none none none none none none ∧ H M = some (.lst (refs qs)) ∧ qs.length ≤ 100 ∧ (∀ p ∈ qs, PairAt K H p.1 p.2 ∧ Small p.2) ∧
  ∀ (N : Addr) (ns : List (Addr × R)) (H' : Hp), ns.map Prod.snd = qs.map Prod.snd → H N = none → H' N = some (.lst (refs ns)) → (∀ p ∈ ns, RA C H' p.1 p.2) → Same H H' → D.nx (SR a (some (.ref M)) (some (.ref N)) none none none none none none) H'
theorem st3 {k : Nat} (room : Room k (XR P w K mg base f cdv A outer s H0).A) (h4 : 4 ≤ k) (GR : Has P w K mg base 4 "_law_ratio" (spLawRatio K C)) : PS (XR P w K mg base f cdv A outer s H0) (stR 2) (tR3 K C) := by
  refine PS.imp (ps_setLc (i := 2) (own := [("_law_pair", 10)]) (g := gName 10) (tt := tYes) (by rfl) sc_right.nd rfl rfl (sw_true rfl rfl rfl (by decide +kernel)) (pi_list (pv 1))
    (blkOk_by (own := [("_law_pair", 10)]) (N := NR) (sc := defScope sRight) (by decide +kernel)) (fun _ _ _ _ _ => pg_name (i := 10) sc_right.nd rfl (Or.inl rfl)) (fun _ _ _ _ _ => pts_nil)
    (fun _ _ _ _ _ => pe_callH GR room (by rfl) (pa_cons (pv 10) pa_nil) h4)) fun D σ H h => ?_
  obtain ⟨a, M, qs, rfl, hM, hlen, hall, q⟩ := h
  refine ⟨.ref M, rfl, M, rfl, ⟨_, SqL.of hM⟩, fun N hN => ?_⟩
  have nMN : M ≠ N := ne_of_none hM hN
  refine lc_it (walk_list (xs := refs qs)) (fun i H' => ∃ ns : List (Addr × R), ns.map Prod.snd = (qs.take i).map Prod.snd ∧ H' N = some (.lst (refs ns)) ∧ (∀ p ∈ ns, RA C H' p.1 p.2) ∧ Same H H')
    ⟨[], rfl, upd_same, (fun _ hm => nomatch hm), same_upd hN⟩ (fun i H' _ hP => ?_) (fun i x H1 H2 hi hP hy => ?_) fun H' hP => ?_
  · obtain ⟨ns, _, _, _, sm⟩ := hP
    exact SqL.of (sm _ _ hM)
  · obtain ⟨rfl, hx⟩ := hy
    obtain ⟨ns, hmap, hl, hra, sm⟩ := hP
    obtain ⟨p, hpi, rfl⟩ := refs_of hx
    obtain ⟨pA, pS⟩ := hall p (List.mem_of_getElem? hpi)
    refine ⟨rfl, ?_⟩
    refine ⟨.ref p.1, rfl, p.1, p.2, rfl, seqT sm pA, pS.fit, fun z H3 s3 hz hrz => ?_⟩
    have hl3 := s3 _ _ hl
    have sx : SameX N H3 (upd H3 N (.lst (refs ns ++ [.ref z]))) := fun b o e nb => by
      rw [upd_ne nb]
      exact e
    have hlenNs : ns.length ≤ 100 := by
      have := congrArg List.length hmap
      rw [List.length_map, List.length_map, List.length_take] at this
      omega
    refine ⟨_, hl3, ?_, ns ++ [(z, p.2)], ?_, ?_, fun y hy => ?_, same_grow hN (sm.trans s3)⟩
    · rw [refs_len]
      exact small1000 (by omega)
    · rw [List.map_append, hmap, List.take_add_one, hpi, List.map_append]
      rfl
    · rw [upd_same, ← refs_snoc]
    · rcases List.mem_append.mp hy with y1 | y1
      · exact ((hra y y1).same s3).sameX sx hl3
      · have ey := List.mem_singleton.mp y1
        subst ey
        exact hrz.sameX sx hl3
  · obtain ⟨ns, hmap, hl, hra, sm⟩ := hP
    rw [refs_len, List.take_length] at hmap
    exact q N ns H' hmap hN hl hra sm
/-! ### the numbers in sequence, the shift -/
def tR4 (C : Addr) : TS := fun D σ H => ∃ (a M N : Addr) (n : Nat) (ns : List (Addr × R)), σ = SR a (some (.ref M)) (some (.ref N)) none none none none none none ∧ Pot n H a ∧ n < 450 ∧ H N = some (.lst (refs ns)) ∧ ns.length ≤ 100 ∧ (∀ p ∈ ns, RA C H p.1 p.2 ∧ Small p.2) ∧
  ∀ (L b : Addr) (r : R) (H' : Hp), L ≠ a → H' L = some (.lst (refs (laid [] ns))) → RA C H' b r → Small r → SameX a H H' → Pot (n + 4) H' a → D.nx (SR a (some (.ref M)) (some (.ref N)) (some (.ref L)) (some (.ref b)) none none none none) H'
theorem st4 {k : Nat} (room : Room k (XR P w K mg base f cdv A outer s H0).A) (h7 : 7 ≤ k) (GT : Has P w K mg base 7 "_law_told_laid" (spTold K C)) (GR : Has P w K mg base 4 "_law_ratio" (spLawRatio K C)) (GD : Has P w K mg base 3 "_law_drawn_pair" spDrawn) :
    PS (XR P w K mg base f cdv A outer s H0) (stR 3) (tR4 C) := by
  refine PS.imp (ps_par (by rfl) sc_right.nd (i := 3) (j := 4) rfl rfl (by decide) rfl rfl (pa_cons (pe_callH GT room (by rfl) (pa_cons (pv 2) pa_nil) h7)
    (pa_cons (pe_callH GR room (by rfl) (pa_cons (pe_callH GD room (by rfl) (pa_cons (pv 0) pa_nil) (by omega)) pa_nil) (by omega)) pa_nil)) (by rfl)) fun D σ H h => ?_
  obtain ⟨a, M, N, n, ns, rfl, hp, hn, hN, hlen, hall, q⟩ := h
  obtain ⟨ws, hws⟩ := hp.at_
  refine ⟨.ref N, rfl, N, ns, rfl, SqL.of hN, (fun p hm => ⟨(hall p hm).1, (hall p hm).2.fit⟩), hlen, fun L H1 s1 hL0 hL => ?_⟩
  have nLa : L ≠ a := (ne_of_none hws hL0).symm
  refine ⟨.ref a, rfl, a, n, rfl, hp.kept s1, by omega, fun p r H2 hp0 s2 hp2 htup ok => ?_⟩
  have hL2 := s2 _ _ hL nLa
  have sm := ok_small ok
  refine ⟨p, r, rfl, SqT.of htup, sm.fit, fun b H3 s3 hb0 hb => ?_⟩
  exact ⟨_, _, rfl, q L b r H3 nLa (s3 _ _ hL2) hb sm (((SameX.of s1).trans s2).trans (SameX.of s3)) (hp2.kept s3)⟩
/-! ### the factor below nought -/
def tR5 (C : Addr) : TS := fun D σ H => ∃ (a M N L b : Addr) (n : Nat), σ = SR a (some (.ref M)) (some (.ref N)) (some (.ref L)) (some (.ref b)) none none none none ∧ Pot n H a ∧ n < 450 ∧
  ∀ (v : V) (r : R) (H' : Hp), Num C H' v r → Ok 2 3 r → r.1 < 0 → SameX a H H' → Pot (n + 1) H' a → D.nx (SR a (some (.ref M)) (some (.ref N)) (some (.ref L)) (some (.ref b)) (some v) none none none) H'
theorem red_third : red (-1) 3 = (-1, 3) := by decide
theorem st5 {k : Nat} (room : Room k (XR P w K mg base f cdv A outer s H0).A) (h3 : 3 ≤ k) (T : Txt K mg C) (GI : HasI P w K mg base C) (GO : Has P w K mg base 2 "_law_of" (spOfSome K)) : PS (XR P w K mg base f cdv A outer s H0) (stR 4) (tR5 C) := by
  refine PS.imp (ps_set (i := 5) sc_right.nd rfl (.inl rfl) (pe_callH GO room (by rfl) (pa_cons (pv 0) (pa_cons (pe_lst (pa_cons (pe_ratio2 GI T room (by rfl) (pa_cons (pe_un un_neg pe_int) (pa_cons pe_int pa_nil)) h3)
    (pa_cons (pe_un un_neg pe_int) (pa_cons (pe_un un_neg pe_int) pa_nil)))) pa_nil)) (by omega))) fun D σ H h => ?_
  obtain ⟨a, M, N, L, b, n, rfl, hp, hn, q⟩ := h
  refine ⟨.ref a, rfl, 1, rfl, _, _, rfl, by decide, by decide, fun c H1 s1 hc0 hc => ?_⟩
  refine ⟨2, rfl, 1, rfl, by show (3 : Nat) ≤ sizeLine; rw [sizeLine_eq]; decide, fun l hl => ?_⟩
  have hp1 := hp.kept s1
  obtain ⟨ws, hws⟩ := hp1.at_
  have s2 := same_upd (o := .lst [.ref c, .int (-2), .int (-1)]) hl
  refine ⟨a, n, l, _, rfl, hp1.kept s2, by omega, SqL.of upd_same, (ne_of_none hws hl).symm, by show 0 < 3; decide, by show 3 ≤ 1000; decide, fun i x H2 hx sx hp2 => ?_⟩
  have m := List.mem_of_getElem? hx
  have hc2 := hc.same s2
  obtain ⟨vs, hvs⟩ := (hp1.kept s2).at_
  have hc3 := hc2.sameX sx hvs
  have sxx : SameX a H H2 := ((SameX.of s1).trans (SameX.of s2)).trans sx
  have m' : x = .ref c ∨ x = .int (-2) ∨ x = .int (-1) := by
    rcases List.mem_cons.mp m with z | z
    · exact .inl z
    · rcases List.mem_cons.mp z with z | z
      · exact .inr (.inl z)
      · exact .inr (.inr (List.mem_singleton.mp z))
  rcases m' with rfl | rfl | rfl
  · refine q (.ref c) (-1, 3) H2 (.inl ⟨c, rfl, ?_⟩) ⟨by decide, by decide, by decide, by decide⟩ (by decide) sxx hp2
    have e : red (-1) 3 = (-1, 3) := red_third
    rw [← e]
    exact hc3
  · exact q (.int (-2)) (-2, 1) H2 (.inr ⟨-2, rfl, rfl⟩) ⟨by decide, by decide, by decide, by decide⟩ (by decide) sxx hp2
  · exact q (.int (-1)) (-1, 1) H2 (.inr ⟨-1, rfl, rfl⟩) ⟨by decide, by decide, by decide, by decide⟩ (by decide) sxx hp2
/-! ### the sequence is the law's own -/
def tR6 (K : PySem.W.Frag) (C : Addr) : TS := fun D σ H => ∃ (a M L : Addr) (yN yb yv : Option V) (ns qs : List (Addr × R)), σ = SR a (some (.ref M)) yN (some (.ref L)) yb yv none none none ∧ H L = some (.lst (refs (laid [] ns))) ∧ H M = some (.lst (refs qs)) ∧
  ns.map Prod.snd = qs.map Prod.snd ∧ qs.length ≤ 100 ∧ (∀ p ∈ ns, RA C H p.1 p.2) ∧ (∀ p ∈ qs, PairAt K H p.1 p.2 ∧ Small p.2) ∧ ∀ H', Same H H' → D.nx σ H'
theorem st6 {k : Nat} (guard : (XR P w K mg base f cdv A outer s H0).A.guards = some []) (room : Room k (XR P w K mg base f cdv A outer s H0).A) (h3 : 3 ≤ k) (T : Txt K mg C) (GL : Has P w K mg base 2 "_law_laid" (spLaid K)) (GS : HasG P w K mg base 3 "_law_is_ratio" (spIsRatio K C)) :
    PS (XR P w K mg base f cdv A outer s H0) (stR 5) (tR6 K C) := by
  refine PS.imp (ps_if (pt_not (pt_val (pe_callB (cr_all rfl) (by rfl) T.b_all boot_all (pa_cons (pe_lc (own := [("_law_number", 11), ("_law_pair", 10)]) (g := gTup K 2 (gCons (gName 11) (gCons (gName 10) gNil))) (tt := tYes) rfl sc_right.nd
      (pi_zip (by rfl) T.b_zip (pa_cons (pv 3) (pa_cons (pe_callH GL room (by rfl) (pa_cons (pv 1) pa_nil) (by omega)) pa_nil))) (blkOk_by (own := [("_law_number", 11), ("_law_pair", 10)]) (N := NR) (sc := defScope sRight) (by decide +kernel))
      (fun _ _ _ _ _ => pg_tup rfl (pgs_cons (pg_name (i := 11) sc_right.nd rfl (Or.inl rfl)) (pgs_cons (pg_name (i := 10) sc_right.nd rfl (Or.inl rfl)) pgs_nil))) (fun _ _ _ _ _ => pts_nil)
      (fun _ _ _ _ _ => pe_callHG GS guard room (by rfl) (pa_cons (pv 11) (pa_cons (pv 10) pa_nil)) h3)) pa_nil)))) (pss_one (ps_ret pe_bl)) pss_nil) fun D σ H h => ?_
  obtain ⟨a, M, L, yN, yb, yv, ns, qs, rfl, hL, hM, hmap, hlen, hra, hpa, q⟩ := h
  have hlenN : ns.length = qs.length := by
    have := congrArg List.length hmap
    rw [List.length_map, List.length_map] at this
    exact this
  refine ⟨.ref L, rfl, .ref M, rfl, M, qs, rfl, SqL.of hM, (fun p hm => ⟨(hpa p hm).1, (hpa p hm).2.fit⟩), hlen, fun B H1 s1 hB0 hB => ?_⟩
  have hmap2 := laid_map (a := ([] : List (Addr × R))) (b := ([] : List (Addr × R))) rfl hmap
  have l1 : (laid [] ns).length = qs.length := by
    rw [len_laid, List.length_nil]
    omega
  have l2 : (laid [] qs).length = qs.length := by
    rw [len_laid, List.length_nil]
    omega
  have mem1 : ∀ x ∈ laid [] ns, RA C H x.1 x.2 := fun x hx => by
    rcases mem_laid hx with z | z
    · cases z
    · exact hra x z
  have mem2 : ∀ x ∈ laid [] qs, PairAt K H x.1 x.2 ∧ Small x.2 := fun x hx => by
    rcases mem_laid hx with z | z
    · cases z
    · exact hpa x z
  generalize laid [] ns = ll at hL hmap2 l1 mem1
  generalize laid [] qs = mm at hB hmap2 l2 mem2
  have hL1 := s1 _ _ hL
  refine ⟨L, B, refs ll, refs mm, rfl, SqL.of hL1, SqL.of hB, fun D0 hD0 => ?_⟩
  have nLD : L ≠ D0 := ne_of_none hL1 hD0
  have nBD : B ≠ D0 := ne_of_none hB hD0
  refine lc_it (walk_zip (n := qs.length) (xs := refs ll) (ys := refs mm) (by rw [refs_len, refs_len, l1, l2]; omega)) (fun i H' => Same H1 H' ∧ H' D0 = some (.lst ((List.replicate i true).map V.bl)))
    ⟨same_upd hD0, upd_same⟩ (fun i H' _ hP => ⟨SqL.of (hP.1 _ _ hL1), SqL.of (hP.1 _ _ hB)⟩) (fun i x H2 H3 hi hP hy => ?_) fun H' hP => ?_
  · obtain ⟨sm, hD⟩ := hP
    obtain ⟨t, x1, x2, rfl, ht, rfl, g1, g2⟩ := hy
    obtain ⟨p1, e1, rfl⟩ := refs_of g1
    obtain ⟨p2, e2, rfl⟩ := refs_of g2
    have e12 : p1.2 = p2.2 := by
      have z1 : (ll.map Prod.snd)[i]? = some p1.2 := by rw [List.getElem?_map, e1]; rfl
      have z2 : (mm.map Prod.snd)[i]? = some p2.2 := by rw [List.getElem?_map, e2]; rfl
      rw [hmap2, z2] at z1
      exact (Option.some.inj z1).symm
    have st := same_upd (o := .tup [.ref p1.1, .ref p2.1]) ht
    have ss := (s1.trans sm).trans st
    have ra1 := (mem1 p1 (List.mem_of_getElem? e1)).same ss
    obtain ⟨pa2, sm2⟩ := mem2 p2 (List.mem_of_getElem? e2)
    refine ⟨t, _, rfl, SqT.of upd_same, rfl, _, _, rfl, _, _, rfl, rfl, rfl, ?_⟩
    refine ⟨.ref p1.1, rfl, .ref p2.1, rfl, p1.1, p1.2, p2.1, rfl, ra1, by rw [e12]; exact seqT ss pa2, by rw [e12]; exact sm2.fit, fun H4 s4 => ?_⟩
    refine ⟨_, s4 _ _ (st _ _ hD), trues_len (by omega), ?_, ?_⟩
    · intro b o e
      have nb : b ≠ D0 := ne_of_none e hD0
      rw [upd_ne nb]
      exact s4 _ _ (st _ _ (sm _ _ e))
    · rw [upd_same, trues_snoc]
  · obtain ⟨sm, hD⟩ := hP
    refine ⟨D0, List.replicate _ true, rfl, SqL.of hD, true, congrArg V.bl (all_true _), iteF ?_⟩
    exact q H' (s1.trans sm)
end
end K11
namespace K11
open PySem PySem.Spec PyProof.Rows L2
theorem cut1 (xs : List V) : cutV xs (some 1) none = xs.drop 1 := by
  unfold cutV
  rw [show HT.sIx xs.length 0 (some 1) = min 1 xs.length from HT.sIx_nat xs.length 0 1, HT.sIx_none]
  cases xs with
  | nil => rfl
  | cons x r =>
    rw [show min 1 (x :: r).length = 1 by
      rw [List.length_cons]
      omega]
    show (List.take ((x :: r).length - 1) r) = r
    rw [List.length_cons, Nat.add_sub_cancel]
    exact List.take_length
section
variable {N D M E : Nat} {r s t : R}
theorem add_fit (hr : Small r) (ht : Small t) : Fit (add r t) := by
  have a1 := hr.hn
  have a2 := hr.hd
  have a3 := hr.pos
  have b1 := ht.hn
  have b2 := ht.hd
  have b3 := ht.pos
  have c1 : (r.1 * t.2).natAbs ≤ 9999999999 * 84 := by
    rw [Int.natAbs_mul]
    exact Nat.mul_le_mul a1 (by omega)
  have c2 : (t.1 * r.2).natAbs ≤ 9999999999 * 84 := by
    rw [Int.natAbs_mul]
    exact Nat.mul_le_mul b1 (by omega)
  have c3 : r.2 * t.2 ≤ 84 * 84 := Int.mul_le_mul (by omega) (by omega) (by omega) (by decide)
  exact red_ok (Int.mul_pos a3 b3) (by omega) (by omega)
theorem sub_fit (hr : Small r) (ht : Small t) : Fit (sub r t) := by
  have a1 := hr.hn
  have a2 := hr.hd
  have a3 := hr.pos
  have b1 := ht.hn
  have b2 := ht.hd
  have b3 := ht.pos
  have c1 : (r.1 * t.2).natAbs ≤ 9999999999 * 84 := by
    rw [Int.natAbs_mul]
    exact Nat.mul_le_mul a1 (by omega)
  have c2 : (t.1 * r.2).natAbs ≤ 9999999999 * 84 := by
    rw [Int.natAbs_mul]
    exact Nat.mul_le_mul b1 (by omega)
  have c3 : r.2 * t.2 ≤ 84 * 84 := Int.mul_le_mul (by omega) (by omega) (by omega) (by decide)
  exact red_ok (Int.mul_pos a3 b3) (by omega) (by omega)
theorem mul_fit (hr : Small r) (ht : Ok 2 3 t) : Fit (mul r t) := by
  have a1 := hr.hn
  have a2 := hr.hd
  have a3 := hr.pos
  have b1 := ht.hn
  have b2 := ht.hd
  have b3 := ht.pos
  have c1 : (r.1 * t.1).natAbs ≤ 9999999999 * 2 := by
    rw [Int.natAbs_mul]
    exact Nat.mul_le_mul a1 b1
  have c3 : r.2 * t.2 ≤ 84 * 3 := Int.mul_le_mul (by omega) (by omega) (by omega) (by decide)
  exact red_ok (Int.mul_pos a3 b3) (by omega) (by omega)
theorem half_fit (hr : Small r) : Fit (half r) := by
  have a1 := hr.hn
  have a2 := hr.hd
  have a3 := hr.pos
  exact red_ok (by omega) (by omega) (by omega)
theorem abs_fit (hr : Small r) : Fit (abs' r) := by
  have a1 := hr.hn
  have a2 := hr.hd
  have a3 := hr.pos
  exact red_ok (by omega) (by rw [abs_nat]; omega) (by omega)
end
theorem nought_fit : Fit (0, 1) := ⟨by decide, by decide, by decide, by decide⟩
theorem spc_zero (x : R) : spc x (0, 1) = x.1 := by
  show x.1 * 1 - 0 * x.2 = x.1
  omega
theorem bool_ne {p q : Bool} (h : p = q) : (!decide (V.bl p = V.bl q)) = false := by
  rw [h, decide_eq_true rfl]
  rfl
theorem and_iff {p q p' q' : Prop} [Decidable p] [Decidable q] [Decidable p'] [Decidable q'] (h : (p ∧ q) ↔ (p' ∧ q')) : (decide p && decide q) = (decide p' && decide q') := by
  by_cases h1 : p ∧ q
  · have h2 := h.mp h1
    rw [decide_eq_true h1.1, decide_eq_true h1.2, decide_eq_true h2.1, decide_eq_true h2.2]
  · have h2 : ¬ (p' ∧ q') := fun z => h1 (h.mpr z)
    have e1 : (decide p && decide q) = false := Bool.eq_false_iff.mpr fun z => h1 (by
      rw [Bool.and_eq_true] at z
      exact ⟨of_decide_eq_true z.1, of_decide_eq_true z.2⟩)
    have e2 : (decide p' && decide q') = false := Bool.eq_false_iff.mpr fun z => h2 (by
      rw [Bool.and_eq_true] at z
      exact ⟨of_decide_eq_true z.1, of_decide_eq_true z.2⟩)
    rw [e1, e2]
section
variable {P : Program} {w : World} {K : PySem.W.Frag} {mg : Str → Option Value} {base : Heap} {C : Addr} {f : Addr} {cdv : Value} {A : Around} {outer : List Env} {s : Shared} {H0 : Hp}
/-- what the signs and operators promise -/
structure Signs (P : Program) (w : World) (K : PySem.W.Frag) (mg : Str → Option Value) (base : Heap) (C : Addr) : Prop where
  lt : HasM P w K mg base C 6 "__lt__" (spCmp C fun x => decide (x < 0))
  le : HasM P w K mg base C 6 "__le__" (spCmp C fun x => decide (x ≤ 0))
  gt : HasM P w K mg base C 6 "__gt__" (spCmp C fun x => decide (0 < x))
  ge : HasM P w K mg base C 6 "__ge__" (spCmp C fun x => decide (0 ≤ x))
  eq : HasM P w K mg base C 1 "__eq__" (spEq C)
  add : HasM P w K mg base C 5 "__add__" (spArith C add)
  sub : HasM P w K mg base C 5 "__sub__" (spArith C sub)
  mul : HasM P w K mg base C 5 "__mul__" (spArith C mul)
  abs : HasM P w K mg base C 4 "__abs__" (spAbs C)
  half : HasM P w K mg base C 4 "halved" (spHalved C)
  init : HasI P w K mg base C
  text : HasP P w K mg base C 1 "text" (spText C)
  of : HasS P w K mg base C
/-! ### neighbours -/
def bodyOf : Stmt → List Stmt
  | .For _ _ body _ _ => body
  | _ => []
abbrev stB (j : Nat) : Stmt := (bodyOf (stR 6)).getD j (.Pass ⟨0, 0, 0, 0⟩)
/-- two neighbours, their space, the shift and the factor -/
structure Two (C : Addr) (H : Hp) (p1 p2 z b : Addr) (v : V) (r s t u : R) : Prop where
  a1 : RA C H p1 r
  a2 : RA C H p2 s
  az : RA C H z (sub s r)
  ab : RA C H b t
  av : Num C H v u
  m1 : Small r
  m2 : Small s
  mt : Small t
  mu : Ok 2 3 u
  un : u.1 < 0
  le : spc r s ≤ 0
theorem Two.same {C : Addr} {H H' : Hp} {p1 p2 z b : Addr} {v : V} {r s t u : R} (sm : Same H H') (h : Two C H p1 p2 z b v r s t u) : Two C H' p1 p2 z b v r s t u :=
  ⟨h.a1.same sm, h.a2.same sm, h.az.same sm, h.ab.same sm, h.av.same sm, h.m1, h.m2, h.mt, h.mu, h.un, h.le⟩
def tChk (C : Addr) : TS := fun D σ H => ∃ (a p1 p2 z b : Addr) (y1 y2 y3 : Option V) (v : V) (r s t u : R), σ = SR a y1 y2 y3 (some (.ref b)) (some v) (some (.ref p1)) (some (.ref p2)) (some (.ref z)) ∧ Two C H p1 p2 z b v r s t u ∧ ∀ H', Same H H' → D.nx σ H'
theorem chk1 (room : Room 7 (XR P w K mg base f cdv A outer s H0).A) (T : Txt K mg C) (S : Signs P w K mg base C) : PS (XR P w K mg base f cdv A outer s H0) (stB 1) (tChk C) := by
  refine PS.imp (ps_if (PW.pt (pw_or (pt_not (pt_cmpR (op_cmpH (op := .LtE) T S.le room) (pv 6) (pv 7) (nomark _))) (pw_or (pt_cmpR (op_cmpH (op := .Gt) T S.gt room) (pv 6) (pv 7) (nomark _))
        (pw_or (pt_cmpR (op_cmpH (op := .Lt) T S.lt room) (pv 8) pe_int (nomark _))
        (pw_or1 (pt_cmpR op_ne (pe_cmpR (op_cmpH (op := .Eq) T S.eq room) (pv 8) (pe_ratio1 S.init T room (by rfl) (pa_cons pe_int pa_nil)) (nomark _)) (pe_cmpR (op_cmpH (op := .Eq) T S.eq room) (pv 6) (pv 7) (nomark _)) (nomark _)))))))
      (pss_one (ps_ret pe_bl)) pss_nil) fun D σ H h => ?_
  obtain ⟨a, p1, p2, z, b, y1, y2, y3, v, r, s', t, u, rfl, W, q⟩ := h
  have zf := sub_fit W.m2 W.m1
  have z0 := sub_ge W.m1 W.m2 W.le
  have zz := sub_zero W.m1 W.m2
  have le := W.le
  refine ⟨.ref p1, rfl, .ref p2, rfl, rd_cmp W.a1 (.inl ⟨p2, rfl, W.a2⟩) W.m1.fit W.m2.fit fun H5 s3 => ⟨_, rfl, iteNS le ?_⟩⟩
  have W3 := W.same s3
  refine ⟨.ref p1, rfl, .ref p2, rfl, rd_cmp W3.a1 (.inl ⟨p2, rfl, W3.a2⟩) W.m1.fit W.m2.fit fun H6 s4 => ⟨_, rfl, ite2 (fun e => ?_) (fun _ => ?_)⟩⟩
  · have := of_decide_eq_true e
    omega
  have W4 := W3.same s4
  refine ⟨.ref z, rfl, rd_cmp W4.az (.inr ⟨0, rfl, rfl⟩) zf nought_fit fun H7 s5 => ⟨_, rfl, ite2 (fun e => ?_) (fun _ => ?_)⟩⟩
  · have := of_decide_eq_true e
    rw [spc_zero] at this
    omega
  have W5 := W4.same s5
  refine ⟨.ref z, rfl, 0, rfl, fun nz H8 s6 _ hnz => ?_⟩
  have W6 := W5.same s6
  refine rd_eq W6.az hnz ?_
  refine ⟨.ref p1, rfl, .ref p2, rfl, rd_eq W6.a1 W6.a2 ?_⟩
  refine ⟨rfl, false, congrArg V.bl (bool_ne (and_iff zz)), iteF ?_⟩
  exact q H8 (((s3.trans s4).trans s5).trans s6)
theorem chk2 (room : Room 7 (XR P w K mg base f cdv A outer s H0).A) (T : Txt K mg C) (S : Signs P w K mg base C) : PS (XR P w K mg base f cdv A outer s H0) (stB 2) (tChk C) := by
  refine PS.imp (ps_if (PW.pt (pw_or (pt_cmpR op_ne (pe_cmpR (op_cmpH (op := .Lt) T S.lt room) (pv 6) (pv 7) (nomark _)) (pe_cmpR (op_cmpH (op := .Gt) T S.gt room) (pv 8) pe_int (nomark _)) (nomark _))
        (pw_or1 (PW.pt (pw_and (pt_cmpR (op_cmpH (op := .GtE) T S.ge room) (pv 6) (pv 7) (nomark _)) (pw_and1 (pt_cmpR (op_cmpH (op := .Gt) T S.gt room) (pv 8) pe_int (nomark _))))))))
      (pss_one (ps_ret pe_bl)) pss_nil) fun D σ H h => ?_
  obtain ⟨a, p1, p2, z, b, y1, y2, y3, v, r, s', t, u, rfl, W, q⟩ := h
  have zf := sub_fit W.m2 W.m1
  have zp := sub_pos W.m1 W.m2
  refine ⟨.ref p1, rfl, .ref p2, rfl, rd_cmp W.a1 (.inl ⟨p2, rfl, W.a2⟩) W.m1.fit W.m2.fit fun H9 s7 => ?_⟩
  have W7 := W.same s7
  refine ⟨.ref z, rfl, rd_cmp W7.az (.inr ⟨0, rfl, rfl⟩) zf nought_fit fun H10 s8 => ?_⟩
  have W8 := W7.same s8
  have same2 : decide (spc r s' < 0) = decide (0 < spc (sub s' r) (0, 1)) := by
    rw [spc_zero]
    exact decide_eq_decide.mpr zp.symm
  refine ⟨rfl, false, congrArg V.bl (bool_ne same2), iteF ?_⟩
  refine ⟨.ref p1, rfl, .ref p2, rfl, rd_cmp W8.a1 (.inl ⟨p2, rfl, W8.a2⟩) W.m1.fit W.m2.fit fun H11 s9 => ⟨_, rfl, ?_⟩⟩
  have W9 := W8.same s9
  refine ite2 (fun e => ?_) (fun _ => ?_)
  · have ge := of_decide_eq_true e
    refine ⟨.ref z, rfl, rd_cmp W9.az (.inr ⟨0, rfl, rfl⟩) zf nought_fit fun H12 s10 => ⟨_, rfl, ite2 (fun e => ?_) (fun _ => ?_)⟩⟩
    · have h0 := of_decide_eq_true e
      rw [spc_zero] at h0
      have := zp.mp h0
      omega
    · exact q H12 (((s7.trans s8).trans s9).trans s10)
  · refine iteF ?_
    exact q H11 ((s7.trans s8).trans s9)
theorem chk3 (room : Room 7 (XR P w K mg base f cdv A outer s H0).A) (T : Txt K mg C) (S : Signs P w K mg base C) : PS (XR P w K mg base f cdv A outer s H0) (stB 3) (tChk C) := by
  refine PS.imp (ps_if (PW.pt (pw_or (pt_not (pt_cmpR (op_cmpH (op := .LtE) T S.le room) (pe_op (op_binH (op := .Add) (nm := "__add__") T S.add room) (pv 6) (pv 4)) (pe_op (op_binH (op := .Add) (nm := "__add__") T S.add room) (pv 7) (pv 4)) (nomark _)))
        (pw_or (pt_not (pt_cmpR (op_cmpH (op := .GtE) T S.ge room) (pe_op (op_mulH T S.mul room) (pv 6) (pv 5)) (pe_op (op_mulH T S.mul room) (pv 7) (pv 5)) (nomark _)))
        (pw_or1 (pt_cmpR (op_cmpH (op := .Gt) T S.gt room) (pe_methH0 (pv 6) T.cl S.half room) (pe_methH0 (pv 7) T.cl S.half room) (nomark _))))))
      (pss_one (ps_ret pe_bl)) pss_nil) fun D σ H h => ?_
  obtain ⟨a, p1, p2, z, b, y1, y2, y3, v, r, s', t, u, rfl, W, q⟩ := h
  have la := add_le W.m1 W.m2 W.mt W.le
  have lm := mul_ge W.m1 W.m2 W.mu W.un W.le
  have lh := half_le W.m1 W.m2 W.le
  refine ⟨.ref p1, rfl, .ref b, rfl, rd_bin W.a1 W.ab W.m1.fit W.mt.fit fun c1 H1 s1 _ hc1 => ?_⟩
  have W1 := W.same s1
  refine ⟨.ref p2, rfl, .ref b, rfl, rd_bin W1.a2 W1.ab W.m2.fit W.mt.fit fun c2 H2 s2 _ hc2 => ?_⟩
  refine rd_cmp (hc1.same s2) (.inl ⟨c2, rfl, hc2⟩) (add_fit W.m1 W.mt) (add_fit W.m2 W.mt) fun H3 s3 => ⟨_, rfl, iteNS la ?_⟩
  have W3 := (W1.same s2).same s3
  refine ⟨.ref p1, rfl, v, rfl, rd_num W3.a1 W3.av W.m1.fit (W.mu.mono (by decide) (by decide)) fun c3 H4 s4 _ hc3 => ?_⟩
  have W4 := W3.same s4
  refine ⟨.ref p2, rfl, v, rfl, rd_num W4.a2 W4.av W.m2.fit (W.mu.mono (by decide) (by decide)) fun c4 H5 s5 _ hc4 => ?_⟩
  refine rd_cmp (hc3.same s5) (.inl ⟨c4, rfl, hc4⟩) (mul_fit W.m1 W.mu) (mul_fit W.m2 W.mu) fun H6 s6 => ⟨_, rfl, iteNS lm ?_⟩
  have W6 := (W4.same s5).same s6
  obtain ⟨d1, h1⟩ := W6.a1.slt
  refine ⟨.ref p1, rfl, p1, d1, _, rfl, h1, p1, r, rfl, W6.a1, W.m1.fit, fun c5 H7 s7 _ hc5 => ?_⟩
  have W7 := W6.same s7
  obtain ⟨d2, h2⟩ := W7.a2.slt
  refine ⟨.ref p2, rfl, p2, d2, _, rfl, h2, p2, s', rfl, W7.a2, W.m2.fit, fun c6 H8 s8 _ hc6 => ?_⟩
  refine rd_cmp (hc5.same s8) (.inl ⟨c6, rfl, hc6⟩) (half_fit W.m1) (half_fit W.m2) fun H9 s9 => ⟨_, rfl, ite2 (fun e => ?_) (fun _ => ?_)⟩
  · have := of_decide_eq_true e
    omega
  · exact q H9 ((((((((s1.trans s2).trans s3).trans s4).trans s5).trans s6).trans s7).trans s8).trans s9)
def tR7 (C : Addr) : TS := fun D σ H => ∃ (a L b : Addr) (y1 y2 : Option V) (v : V) (ll : List (Addr × R)) (t u : R), σ = SR a y1 y2 (some (.ref L)) (some (.ref b)) (some v) none none none ∧ H L = some (.lst (refs ll)) ∧ ll.length ≤ 100 ∧ (∀ p ∈ ll, RA C H p.1 p.2 ∧ Small p.2) ∧ Asc ll ∧
  RA C H b t ∧ Small t ∧ Num C H v u ∧ Ok 2 3 u ∧ u.1 < 0 ∧ ∀ y6 y7 y8 H', Same H H' → D.nx (SR a y1 y2 (some (.ref L)) (some (.ref b)) (some v) y6 y7 y8) H'
theorem drop_get {α : Type} {l : List α} {i : Nat} {x : α} (h : (l.drop 1)[i]? = some x) : l[i + 1]? = some x := by
  rw [List.getElem?_drop] at h
  rw [Nat.add_comm i 1]
  exact h
theorem st7 (room : Room 7 (XR P w K mg base f cdv A outer s H0).A) (T : Txt K mg C) (S : Signs P w K mg base C) : PS (XR P w K mg base f cdv A outer s H0) (stR 6) (tR7 C) := by
  refine PS.imp (ps_for PassesOwn.never rfl (pi_zip (by rfl) T.b_zip (pa_cons (pv 3) (pa_cons (pe_slice sl_list (pv 3) (po_some pe_int) po_none) pa_nil)))
    (pg_tup rfl (pgs_cons (pg_name (i := 6) sc_right.nd rfl (Or.inl rfl)) (pgs_cons (pg_name (i := 7) sc_right.nd rfl (Or.inl rfl)) pgs_nil)))
    (pss_cons (ps_set (i := 8) sc_right.nd rfl (.inl rfl) (pe_op (op_binH (op := .Sub) (nm := "__sub__") T S.sub room) (pv 7) (pv 6)))
    (pss_cons (chk1 room T S) (pss_cons (chk2 room T S) (pss_one (chk3 room T S)))))) fun D σ H h => ?_
  obtain ⟨a, L, b, y1, y2, v, ll, t, u, rfl, hL, hlen, hall, asc, hb, ht, hv, hu, un, q⟩ := h
  refine ⟨.ref L, rfl, .ref L, rfl, 1, rfl, L, refs ll, rfl, SqL.of hL, fun Z hZ => ?_⟩
  rw [cut1]
  have s0 := same_upd (o := .lst ((refs ll).drop 1)) hZ
  refine ⟨L, Z, refs ll, (refs ll).drop 1, rfl, SqL.of (s0 _ _ hL), SqL.of upd_same, ?_⟩
  refine for_it (walk_zip (n := ll.length - 1) (xs := refs ll) (ys := (refs ll).drop 1) (by rw [List.length_drop, refs_len]; omega)) (fun i σ H' => (∃ y6 y7 y8, σ = SR a y1 y2 (some (.ref L)) (some (.ref b)) (some v) y6 y7 y8) ∧ Same H H' ∧ H' Z = some (.lst ((refs ll).drop 1)))
    ⟨⟨none, none, none, rfl⟩, s0, upd_same⟩ (fun i σ H' _ hP => ⟨SqL.of (hP.2.1 _ _ hL), SqL.of hP.2.2⟩) (fun i x σ H1 H2 hi hP hy => ?_) fun σ H' hP => ?_
  · obtain ⟨⟨y6, y7, y8, rfl⟩, sm, hZ1⟩ := hP
    obtain ⟨tp, x1, x2, rfl, htp, rfl, g1, g2⟩ := hy
    obtain ⟨p1, e1, rfl⟩ := refs_of g1
    obtain ⟨p2, e2, rfl⟩ := refs_of (drop_get g2)
    have le := asc i p1 p2 e1 e2
    obtain ⟨r1', m1⟩ := hall p1 (List.mem_of_getElem? e1)
    obtain ⟨r2', m2⟩ := hall p2 (List.mem_of_getElem? e2)
    have st := same_upd (o := .tup [.ref p1.1, .ref p2.1]) htp
    have s1 := sm.trans st
    have hZ2 := st _ _ hZ1
    refine ⟨tp, _, rfl, SqT.of upd_same, rfl, _, _, rfl, _, _, rfl, rfl, ?_⟩
    refine ⟨.ref p2.1, rfl, .ref p1.1, rfl, rd_bin (r2'.same s1) (r1'.same s1) m2.fit m1.fit fun z H4 s2 _ hz => ?_⟩
    have s12 := s1.trans s2
    have hZ3 := s2 _ _ hZ2
    have W : Two C H4 p1.1 p2.1 z b v p1.2 p2.2 t u := ⟨r1'.same s12, r2'.same s12, hz, hb.same s12, hv.same s12, m1, m2, ht, hu, un, le⟩
    refine ⟨a, p1.1, p2.1, z, b, y1, y2, some (.ref L), v, p1.2, p2.2, t, u, rfl, W, fun H5 s5 => ?_⟩
    refine ⟨a, p1.1, p2.1, z, b, y1, y2, some (.ref L), v, p1.2, p2.2, t, u, rfl, W.same s5, fun H6 s6 => ?_⟩
    refine ⟨a, p1.1, p2.1, z, b, y1, y2, some (.ref L), v, p1.2, p2.2, t, u, rfl, (W.same s5).same s6, fun H7 s7 => ?_⟩
    have s57 := (s5.trans s6).trans s7
    exact ⟨⟨_, _, _, rfl⟩, s12.trans s57, s57 _ _ hZ3⟩
  · obtain ⟨⟨y6, y7, y8, rfl⟩, sm, _⟩ := hP
    exact q y6 y7 y8 H' sm
/-! ### texts and absolute worths -/
def tR8 (C : Addr) : TS := fun D σ H => ∃ (a L : Addr) (y1 y2 y4 y5 y6 y7 y8 : Option V) (ll : List (Addr × R)), σ = SR a y1 y2 (some (.ref L)) y4 y5 y6 y7 y8 ∧ H L = some (.lst (refs ll)) ∧ ll.length ≤ 100 ∧ (∀ p ∈ ll, RA C H p.1 p.2 ∧ Small p.2) ∧ ∀ H', Same H H' → D.rt (.bl true) H'
theorem st8 (room : Room 7 (XR P w K mg base f cdv A outer s H0).A) (T : Txt K mg C) (S : Signs P w K mg base C) : PS (XR P w K mg base f cdv A outer s H0) (stR 7) (tR8 C) := by
  refine PS.imp (ps_ret (pe_callB (cr_all rfl) (by rfl) T.b_all boot_all (pa_cons (pe_lc (own := [("_law_number", 11)]) (g := gName 11) (tt := tYes) rfl sc_right.nd (pi_list (pv 3))
    (blkOk_by (own := [("_law_number", 11)]) (N := NR) (sc := defScope sRight) (by decide +kernel)) (fun _ _ _ _ _ => pg_name (i := 11) sc_right.nd rfl (Or.inl rfl)) (fun _ _ _ _ _ => pts_nil)
    (fun _ _ _ _ _ => pe_and (pe_cmpR (op_cmpH (op := .Eq) T S.eq room) (pe_ofH S.of T room (by decide) (by rfl) (pa_cons (pe_propH (pv 11) T.cl S.text room) pa_nil)) (pv 11) (nomark _))
      (pe_one (pe_cmpR (op_cmpH (op := .GtE) T S.ge room) (pe_callB (call_absH S.abs room) (by rfl) T.b_abs boot_abs (pa_cons (pv 11) pa_nil)) (pv 11) (nomark _))))) pa_nil))) fun D σ H h => ?_
  obtain ⟨a, L, y1, y2, y4, y5, y6, y7, y8, ll, rfl, hL, hlen, hall, q⟩ := h
  refine ⟨.ref L, rfl, L, rfl, ⟨_, SqL.of hL⟩, fun D0 hD0 => ?_⟩
  have nLD : L ≠ D0 := ne_of_none hL hD0
  refine lc_it (walk_list (xs := refs ll)) (fun i H' => Same H H' ∧ H' D0 = some (.lst ((List.replicate i true).map V.bl))) ⟨same_upd hD0, upd_same⟩ (fun i H' _ hP => SqL.of (hP.1 _ _ hL)) (fun i x H1 H2 hi hP hy => ?_) fun H' hP => ?_
  · obtain ⟨rfl, hx⟩ := hy
    obtain ⟨sm, hD⟩ := hP
    obtain ⟨p, hp, rfl⟩ := refs_of hx
    obtain ⟨hra, hs⟩ := hall p (List.mem_of_getElem? hp)
    have hra1 := hra.same sm
    obtain ⟨dx, hsl⟩ := hra1.slt
    rw [refs_len] at hi
    refine ⟨rfl, ?_⟩
    refine ⟨rfl, .ref p.1, rfl, p.1, dx, _, rfl, hsl, p.1, p.2, rfl, hra1, hs.fit, p.2, rfl, hs.mono (by decide) (by decide), fun z H3 s3 _ hz => ?_⟩
    have hra3 := hra1.same s3
    refine ⟨.ref p.1, rfl, rd_eq hz hra3 ?_⟩
    have e1 : (decide (p.2.1 = p.2.1) && decide (p.2.2 = p.2.2)) = true := by
      rw [decide_eq_true rfl, decide_eq_true rfl]
      rfl
    refine ⟨true, congrArg V.bl e1, iteT ?_⟩
    obtain ⟨dy, hsl3⟩ := hra3.slt
    refine ⟨.ref p.1, rfl, p.1, dy, _, rfl, hsl3, p.1, p.2, rfl, hra3, hs.fit, fun c H4 s4 _ hc => ?_⟩
    refine ⟨.ref p.1, rfl, rd_cmp hc (.inl ⟨p.1, rfl, hra3.same s4⟩) (abs_fit hs) hs.fit fun H5 s5 => ?_⟩
    have s35 := (s3.trans s4).trans s5
    refine ⟨_, s35 _ _ hD, trues_len (by omega), ?_, ?_⟩
    · intro b o e
      have nb : b ≠ D0 := ne_of_none e hD0
      rw [upd_ne nb]
      exact s35 _ _ (sm _ _ e)
    · have e2 : decide (0 ≤ spc (abs' p.2) p.2) = true := decide_eq_true (abs_ge hs)
      rw [upd_same]
      show some (HO.lst ((List.replicate i true).map V.bl ++ [V.bl (decide (0 ≤ spc (abs' p.2) p.2))])) = _
      rw [e2, trues_snoc]
  · obtain ⟨sm, hD⟩ := hP
    refine ⟨D0, List.replicate _ true, rfl, SqL.of hD, ?_⟩
    rw [all_true]
    exact q H' sm
end
end K11
namespace K11
open PySem PySem.Spec PyProof.Rows L2
/-- what the law's own defs promise -/
structure Laws (P : Program) (w : World) (K : PySem.W.Frag) (mg : Str → Option Value) (base : Heap) (C : Addr) : Prop where
  pot : Has P w K mg base 1 "_law_pot" (spPot K)
  some_ : Has P w K mg base 2 "_law_of" (spOfSome K)
  plus : Has P w K mg base 2 "_law_plus" (spLawPlus K)
  ratio : Has P w K mg base 4 "_law_ratio" (spLawRatio K C)
  drawn : Has P w K mg base 3 "_law_drawn_pair" spDrawn
  isRatio : HasG P w K mg base 3 "_law_is_ratio" (spIsRatio K C)
  laid : Has P w K mg base 2 "_law_laid" (spLaid K)
  told : Has P w K mg base 7 "_law_told_laid" (spTold K C)
section
variable {P : Program} {w : World} {K : PySem.W.Frag} {mg : Str → Option Value} {base : Heap} {C : Addr}
theorem has_right (D : Def K mg "_law_right" sRight) (T : Txt K mg C) (S : Signs P w K mg base C) (G : Laws P w K mg base C) : HasG P w K mg base 8 "_law_right" spRight := by
  obtain ⟨f, fd, F, hm⟩ := D
  refine ⟨f, okG F (F.binds (ps := ["_law_pot_here"]) fun _ _ _ _ _ _ us hl => match us, hl with | [_], _ => rfl) sc_right (fun vs H Q h => ?_) (fun cdv A outer s H vs Q guard hr h => ?_), hm, F.kp⟩
  · obtain ⟨a, n, rfl, _⟩ := h
    rfl
  · obtain ⟨a, n, rfl, hp, hn, q⟩ := h
    refine ⟨_, pss_cons (st1 hr (by decide) T G.drawn) (pss_cons (st2 hr (by decide) G.some_ G.plus) (pss_cons (st3 hr (by decide) G.ratio) (pss_cons (st4 hr (by decide) G.told G.ratio G.drawn) (pss_cons (st5 hr (by decide) T S.init G.some_)
      (pss_cons (st6 guard hr (by decide) T G.laid G.isRatio) (pss_cons (st7 hr T S) (pss_one (st8 hr T S)))))))), ?_⟩
    refine ⟨a, n, rfl, hp, by omega, fun L1 ps H1 hlen hL1 nL1a hall s1 hp1 => ?_⟩
    refine ⟨a, L1, n + 24, ps, rfl, hp1, by omega, hlen, hL1, nL1a, hall, fun M qs H2 hq hM nMa hallq s2 hp2 => ?_⟩
    refine ⟨a, M, qs, rfl, hM, by omega, hallq, fun N ns H3 hmap hN0 hN hra s3 => ?_⟩
    have hlenN : ns.length = qs.length := by
      have := congrArg List.length hmap
      rw [List.length_map, List.length_map] at this
      exact this
    have small : ∀ p ∈ ns, Small p.2 := fun p hm => by
      have m1 : p.2 ∈ qs.map Prod.snd := by
        rw [← hmap]
        exact List.mem_map_of_mem hm
      obtain ⟨y, hy, ey⟩ := List.mem_map.mp m1
      rw [← ey]
      exact (hallq y hy).2
    have hp3 := hp2.kept s3
    refine ⟨a, M, N, n + 26, ns, rfl, hp3, by omega, hN, by omega, (fun p hm => ⟨hra p hm, small p hm⟩), fun L b t H4 nLa hL hb ht s4 hp4 => ?_⟩
    refine ⟨a, M, N, L, b, n + 30, rfl, hp4, by omega, fun v u H5 hv hu un s5 hp5 => ?_⟩
    obtain ⟨w3, hw3⟩ := hp3.at_
    obtain ⟨w4, hw4⟩ := hp4.at_
    have hL5 := s5 _ _ hL nLa
    have hM5 := s5 _ _ (s4 _ _ (s3 _ _ hM) nMa) nMa
    have hra5 : ∀ p ∈ ns, RA C H5 p.1 p.2 := fun p hm => ((hra p hm).sameX s4 hw3).sameX s5 hw4
    have hpa5 : ∀ p ∈ qs, PairAt K H5 p.1 p.2 ∧ Small p.2 := fun p hm => ⟨seqTX s5 hw4 (seqTX s4 hw3 (seqT s3 (hallq p hm).1)), (hallq p hm).2⟩
    refine ⟨a, M, L, some (.ref N), some (.ref b), some v, ns, qs, rfl, hL5, hM5, hmap, by omega, hra5, hpa5, fun H6 s6 => ?_⟩
    have hb5 := hb.sameX s5 hw4
    have l8 : (laid [] ns).length = 8 := by
      rw [len_laid, List.length_nil]
      omega
    have all5 : ∀ p ∈ laid [] ns, RA C H5 p.1 p.2 ∧ Small p.2 := fun p hm => by
      rcases mem_laid hm with z | z
      · cases z
      · exact ⟨hra5 p z, small p z⟩
    refine ⟨a, L, b, some (.ref M), some (.ref N), v, laid [] ns, t, u, rfl, s6 _ _ hL5, by omega, (fun p hm => ⟨(all5 p hm).1.same s6, (all5 p hm).2⟩), asc_laid asc_nil, hb5.same s6, ht, hv.same s6, hu, un, fun y6 y7 y8 H7 s7 => ?_⟩
    have s67 := s6.trans s7
    refine ⟨a, L, _, _, _, _, y6, y7, y8, laid [] ns, rfl, s67 _ _ hL5, by omega, (fun p hm => ⟨(all5 p hm).1.same s67, (all5 p hm).2⟩), fun H8 s8 => ?_⟩
    have s68 := s67.trans s8
    exact q H8 (((((s1.trans s2).trans (SameX.of s3)).trans s4).trans s5).trans (SameX.of s68)) (hp5.kept s68)
/-! ### the law -/
theorem sc_law : FnScope ["_law_script", "_law_k", "_law_pot_here", "_law_turn"] ["_law_script"] (defScope sLaw) := ⟨rfl, rfl, rfl, by decide +kernel, rfl, by decide +kernel, by decide +kernel⟩
theorem turns_in (m : Nat) : let j : Int := if (if (m : Int) < 6 then (m : Int) else 6) > 1 then (if (m : Int) < 6 then (m : Int) else 6) else 1; 1 ≤ j ∧ j ≤ 6 := by
  dsimp only
  split <;> split <;> omega
theorem has_law {f : Addr} {fd : FuncData} (F : Fun K "law" "law" sLaw f fd) (T : Txt K mg C) (GP : Has P w K mg base 1 "_law_pot" (spPot K)) (GR : HasG P w K mg base 8 "_law_right" spRight) : FnG P w K mg base 9 f (spLaw K) := by
  refine okG F (F.binds (ps := ["_law_script"]) fun _ _ _ _ _ _ us hl => match us, hl with | [_], _ => rfl) sc_law (fun vs H Q h => ?_) (fun cdv A outer s H vs Q guard hr h => ?_)
  · obtain ⟨a, ns, rfl, _⟩ := h
    rfl
  · obtain ⟨a, ns, rfl, hS, hlen, q⟩ := h
    refine ⟨_, pss_cons (ps_for PassesOwn.never rfl (pi_range1 (by rfl) T.b_range (pa_cons (pe_callB (call_max2 rfl) (by rfl) T.b_max PyProof.Rows.boot_max (pa_cons pe_int (pa_cons (pe_callB (call_min2 rfl) (by rfl) T.b_min PyProof.Rows.boot_min (pa_cons pe_int
        (pa_cons (pe_callB call_len_seq (by rfl) T.b_len PySem.boot_len (pa_cons (pv 0) pa_nil)) pa_nil))) pa_nil))) pa_nil)) (pg_name (i := 1) sc_law.nd rfl (.inl rfl))
      (pss_cons (ps_set (i := 2) sc_law.nd rfl (.inr rfl) (pe_callH GP hr (by rfl) (pa_cons (pv 0) (pa_cons (pv 1) pa_nil))))
      (pss_one (ps_if (pt_not (pt_val (pe_callB (cr_all rfl) (by rfl) T.b_all boot_all (pa_cons (pe_lc (own := [("_law_turn", 3)]) (g := gName 3) (tt := tYes) rfl sc_law.nd (pi_range1 (by rfl) T.b_range (pa_cons pe_int pa_nil))
        (blkOk_by (own := [("_law_turn", 3)]) (N := ["_law_script", "_law_k", "_law_pot_here", "_law_turn"]) (sc := defScope sLaw) (by decide +kernel)) (fun _ _ _ _ _ => pg_name (i := 3) sc_law.nd rfl (Or.inl rfl)) (fun _ _ _ _ _ => pts_nil)
        (fun _ _ _ _ _ => pe_callHG GR guard hr (by rfl) (pa_cons (pv 2) pa_nil))) pa_nil)))) (pss_one (ps_ret pe_bl)) pss_nil))))
      (pss_one (ps_ret pe_bl)), ?_⟩
    have tin := turns_in (ns.map V.int).length
    dsimp only at tin
    refine ⟨.ref a, rfl, a, _, rfl, .inl hS, _, _, rfl, _, _, rfl, _, rfl, by omega, by omega, ?_⟩
    refine for_range (lo := 0) (fun i σ H' => (∃ y1 y2, σ = [some (.ref a), y1, y2, none]) ∧ Same H H') ⟨⟨none, none, rfl⟩, Same.refl H⟩ (fun i σ H1 hi hP => ?_) fun σ H' hP => q H'
    obtain ⟨⟨y1, y2, rfl⟩, sm⟩ := hP
    refine ⟨.ref a, rfl, .int (0 + (i : Int)), rfl, a, ns, 0 + (i : Int), rfl, sm.seq hS, hlen, by omega, by omega, fun p H2 s2 hp0 hp => ?_⟩
    refine ⟨2, rfl, by decide, by decide, fun D hD => ?_⟩
    obtain ⟨ws, hws⟩ := hp.at_
    have npD : p ≠ D := ne_of_none hws hD
    refine lc_range (lo := 0) (n := 2) (fun j H' => SameX p H2 H' ∧ H' D = some (.lst ((List.replicate j true).map V.bl)) ∧ Pot (31 * j) H' p) ⟨SameX.of (same_upd hD), upd_same, hp.kept (same_upd hD)⟩ (fun j H3 hj hP => ?_) fun H3 hP => ?_
    · obtain ⟨sx, hl, hp3⟩ := hP
      refine ⟨rfl, ?_⟩
      refine ⟨.ref p, rfl, p, 31 * j, rfl, hp3, by omega, fun H4 s4 hp4 => ?_⟩
      refine ⟨_, s4 _ _ hl npD.symm, trues_len (by omega), fun b o e nb => ?_, ?_, ?_⟩
      · rw [upd_ne (ne_of_none e hD)]
        exact s4 b o (sx b o e nb) nb
      · rw [upd_same, trues_snoc]
      · obtain ⟨o, y, c, g1, g2⟩ := hp4
        exact ⟨o, y, c, by rw [upd_ne npD]; exact g1, by rw [show 31 * (j + 1) = 31 * j + 31 by omega]; exact g2⟩
    · obtain ⟨sx, hl, hp3⟩ := hP
      refine ⟨D, List.replicate 2 true, rfl, SqL.of hl, true, rfl, iteF ?_⟩
      refine ⟨⟨_, _, rfl⟩, fun b o e => ?_⟩
      have e1 := sm b o e
      exact sx b o (s2 b o e1) (ne_of_none e1 hp0)
end
end K11
namespace K11
open PySem PySem.Spec PyProof.Rows L2
/-! ### what the top has written -/
theorem all_mk {P : Program} {w : World} {K : PySem.W.Frag} {h : Heap} {mg : Str → Option Value} {fa C : Addr} (X : K.In h) (G : h.Ns mainGlobals mg) (hfa : mg "law" = some (.ref fa))
    {f1 : Addr} {od1 an1 : Option Addr} {sl1 : Array (Option Value)} {oc1 kV1 dc1 pm1 cd1 ct1 : Value}
    {f2 : Addr} {od2 an2 : Option Addr} {sl2 : Array (Option Value)} {oc2 kV2 dc2 pm2 cd2 ct2 : Value}
    {f3 : Addr} {od3 an3 : Option Addr} {sl3 : Array (Option Value)} {oc3 kV3 dc3 pm3 cd3 ct3 : Value}
    {f4 : Addr} {od4 an4 : Option Addr} {sl4 : Array (Option Value)} {oc4 kV4 dc4 pm4 cd4 ct4 : Value}
    {f5 : Addr} {od5 an5 : Option Addr} {sl5 : Array (Option Value)} {oc5 kV5 dc5 pm5 cd5 ct5 : Value}
    {f6 : Addr} {od6 an6 : Option Addr} {sl6 : Array (Option Value)} {oc6 kV6 dc6 pm6 cd6 ct6 : Value}
    {f7 : Addr} {od7 an7 : Option Addr} {sl7 : Array (Option Value)} {oc7 kV7 dc7 pm7 cd7 ct7 : Value}
    {f8 : Addr} {od8 an8 : Option Addr} {sl8 : Array (Option Value)} {oc8 kV8 dc8 pm8 cd8 ct8 : Value}
    {f9 : Addr} {od9 an9 : Option Addr} {sl9 : Array (Option Value)} {oc9 kV9 dc9 pm9 cd9 ct9 : Value}
    {f10 : Addr} {od10 an10 : Option Addr} {sl10 : Array (Option Value)} {oc10 kV10 dc10 pm10 cd10 ct10 : Value}
    {f11 : Addr} {od11 an11 : Option Addr} {sl11 : Array (Option Value)} {oc11 kV11 dc11 pm11 cd11 ct11 : Value}
    {f12 : Addr} {od12 an12 : Option Addr} {sl12 : Array (Option Value)} {oc12 kV12 dc12 pm12 cd12 ct12 : Value}
    {f13 : Addr} {od13 an13 : Option Addr} {sl13 : Array (Option Value)} {oc13 kV13 dc13 pm13 cd13 ct13 : Value}
    {f14 : Addr} {od14 an14 : Option Addr} {sl14 : Array (Option Value)} {oc14 kV14 dc14 pm14 cd14 ct14 : Value}
    {f15 : Addr} {od15 an15 : Option Addr} {sl15 : Array (Option Value)} {oc15 kV15 dc15 pm15 cd15 ct15 : Value}
    {f16 : Addr} {od16 an16 : Option Addr} {sl16 : Array (Option Value)} {oc16 kV16 dc16 pm16 cd16 ct16 : Value}
    {f17 : Addr} {od17 an17 : Option Addr} {sl17 : Array (Option Value)} {oc17 kV17 dc17 pm17 cd17 ct17 : Value}
    {f18 : Addr} {od18 an18 : Option Addr} {sl18 : Array (Option Value)} {oc18 kV18 dc18 pm18 cd18 ct18 : Value}
    {f19 : Addr} {od19 an19 : Option Addr} {sl19 : Array (Option Value)} {oc19 kV19 dc19 pm19 cd19 ct19 : Value}
    {f20 : Addr} {od20 an20 : Option Addr} {sl20 : Array (Option Value)} {oc20 kV20 dc20 pm20 cd20 ct20 : Value}
    {f21 : Addr} {od21 an21 : Option Addr} {sl21 : Array (Option Value)} {oc21 kV21 dc21 pm21 cd21 ct21 : Value}
    {f22 : Addr} {od22 an22 : Option Addr} {sl22 : Array (Option Value)} {oc22 kV22 dc22 pm22 cd22 ct22 : Value}
    {f23 : Addr} {od23 an23 : Option Addr} {sl23 : Array (Option Value)} {oc23 kV23 dc23 pm23 cd23 ct23 : Value}
    {f24 : Addr} {od24 an24 : Option Addr} {sl24 : Array (Option Value)} {oc24 kV24 dc24 pm24 cd24 ct24 : Value}
    {f25 : Addr} {od25 an25 : Option Addr} {sl25 : Array (Option Value)} {oc25 kV25 dc25 pm25 cd25 ct25 : Value}
    {f26 : Addr} {od26 an26 : Option Addr} {sl26 : Array (Option Value)} {oc26 kV26 dc26 pm26 cd26 ct26 : Value}
    {f27 : Addr} {od27 an27 : Option Addr} {sl27 : Array (Option Value)} {oc27 kV27 dc27 pm27 cd27 ct27 : Value}
    {f28 : Addr} {od28 an28 : Option Addr} {sl28 : Array (Option Value)} {oc28 kV28 dc28 pm28 cd28 ct28 : Value}
    {f29 : Addr} {od29 an29 : Option Addr} {sl29 : Array (Option Value)} {oc29 kV29 dc29 pm29 cd29 ct29 : Value}
    {f30 : Addr} {od30 an30 : Option Addr} {sl30 : Array (Option Value)} {oc30 kV30 dc30 pm30 cd30 ct30 : Value}
    {f31 : Addr} {od31 an31 : Option Addr} {sl31 : Array (Option Value)} {oc31 kV31 dc31 pm31 cd31 ct31 : Value}
    {f32 : Addr} {od32 an32 : Option Addr} {sl32 : Array (Option Value)} {oc32 kV32 dc32 pm32 cd32 ct32 : Value}
    {f33 : Addr} {od33 an33 : Option Addr} {sl33 : Array (Option Value)} {oc33 kV33 dc33 pm33 cd33 ct33 : Value}
    {p33 : Addr} {rs33 : List Value}
    {f34 : Addr} {od34 an34 : Option Addr} {sl34 : Array (Option Value)} {oc34 kV34 dc34 pm34 cd34 ct34 : Value}
    {p34 : Addr} {rs34 : List Value}
    {f35 : Addr} {od35 an35 : Option Addr} {sl35 : Array (Option Value)} {oc35 kV35 dc35 pm35 cd35 ct35 : Value}
    {p35 : Addr} {rs35 : List Value}
    {f36 : Addr} {od36 an36 : Option Addr} {sl36 : Array (Option Value)} {oc36 kV36 dc36 pm36 cd36 ct36 : Value}
    {p36 : Addr} {rs36 : List Value} {mc : Value}
    {f37 : Addr} {od37 an37 : Option Addr} {sl37 : Array (Option Value)} {oc37 kV37 dc37 pm37 cd37 ct37 : Value}
    {dT : Addr} {ocT : Value} {odT : Option Addr} {slT : Array (Option Value)} {nT : Nat} {tT : Tok}
    {q0 q1 fR : Addr} {tD tM : Tok}
    (aC : PySem.W.nsIn K mainGlobals "Ratio" = some (some (.ref C)))
    (a1 : PySem.W.nsIn K mainGlobals "is_integer" = some (some (.ref f1)))
    (l1 : K.lookup f1 = some ⟨oc1, od1, .func (PySem.W.fnOf "is_integer" "is_integer" (defArgs sIsInteger) (defBody sIsInteger) (defScope sIsInteger) .none kV1 dc1 pm1 an1 cd1 ct1), sl1⟩)
    (c1 : PySem.W.codeIn K cd1 "is_integer" = true)
    (k1 : PySem.W.keepIn K (.ref f1) = true)
    (a2 : PySem.W.nsIn K mainGlobals "common_divisor" = some (some (.ref f2)))
    (l2 : K.lookup f2 = some ⟨oc2, od2, .func (PySem.W.fnOf "common_divisor" "common_divisor" (defArgs sDivisor) (defBody sDivisor) (defScope sDivisor) .none kV2 dc2 pm2 an2 cd2 ct2), sl2⟩)
    (c2 : PySem.W.codeIn K cd2 "common_divisor" = true)
    (k2 : PySem.W.keepIn K (.ref f2) = true)
    (a3 : PySem.W.nsIn K mainGlobals "is_figures" = some (some (.ref f3)))
    (l3 : K.lookup f3 = some ⟨oc3, od3, .func (PySem.W.fnOf "is_figures" "is_figures" (defArgs sFigures) (defBody sFigures) (defScope sFigures) .none kV3 dc3 pm3 an3 cd3 ct3), sl3⟩)
    (c3 : PySem.W.codeIn K cd3 "is_figures" = true)
    (k3 : PySem.W.keepIn K (.ref f3) = true)
    (a4 : PySem.W.nsIn K mainGlobals "is_number" = some (some (.ref f4)))
    (l4 : K.lookup f4 = some ⟨oc4, od4, .func (PySem.W.fnOf "is_number" "is_number" (defArgs sIsNumber) (defBody sIsNumber) (defScope sIsNumber) .none kV4 dc4 pm4 an4 cd4 ct4), sl4⟩)
    (c4 : PySem.W.codeIn K cd4 "is_number" = true)
    (k4 : PySem.W.keepIn K (.ref f4) = true)
    (a5 : PySem.W.nsIn K mainGlobals "ratio_of" = some (some (.ref f5)))
    (l5 : K.lookup f5 = some ⟨oc5, od5, .func (PySem.W.fnOf "ratio_of" "ratio_of" (defArgs sRatioOf) (defBody sRatioOf) (defScope sRatioOf) .none kV5 dc5 pm5 an5 cd5 ct5), sl5⟩)
    (c5 : PySem.W.codeIn K cd5 "ratio_of" = true)
    (k5 : PySem.W.keepIn K (.ref f5) = true)
    (a6 : PySem.W.nsIn K mainGlobals "spacing" = some (some (.ref f6)))
    (l6 : K.lookup f6 = some ⟨oc6, od6, .func (PySem.W.fnOf "spacing" "spacing" (defArgs sSpacing) (defBody sSpacing) (defScope sSpacing) .none kV6 dc6 pm6 an6 cd6 ct6), sl6⟩)
    (c6 : PySem.W.codeIn K cd6 "spacing" = true)
    (k6 : PySem.W.keepIn K (.ref f6) = true)
    (a7 : PySem.W.nsIn K mainGlobals "plus" = some (some (.ref f7)))
    (l7 : K.lookup f7 = some ⟨oc7, od7, .func (PySem.W.fnOf "plus" "plus" (defArgs sPlus) (defBody sPlus) (defScope sPlus) .none kV7 dc7 pm7 an7 cd7 ct7), sl7⟩)
    (c7 : PySem.W.codeIn K cd7 "plus" = true)
    (k7 : PySem.W.keepIn K (.ref f7) = true)
    (a8 : PySem.W.nsIn K mainGlobals "minus" = some (some (.ref f8)))
    (l8 : K.lookup f8 = some ⟨oc8, od8, .func (PySem.W.fnOf "minus" "minus" (defArgs sMinus) (defBody sMinus) (defScope sMinus) .none kV8 dc8 pm8 an8 cd8 ct8), sl8⟩)
    (c8 : PySem.W.codeIn K cd8 "minus" = true)
    (k8 : PySem.W.keepIn K (.ref f8) = true)
    (a9 : PySem.W.nsIn K mainGlobals "times" = some (some (.ref f9)))
    (l9 : K.lookup f9 = some ⟨oc9, od9, .func (PySem.W.fnOf "times" "times" (defArgs sTimes) (defBody sTimes) (defScope sTimes) .none kV9 dc9 pm9 an9 cd9 ct9), sl9⟩)
    (c9 : PySem.W.codeIn K cd9 "times" = true)
    (k9 : PySem.W.keepIn K (.ref f9) = true)
    (a10 : PySem.W.nsIn K mainGlobals "_law_pot" = some (some (.ref f10)))
    (l10 : K.lookup f10 = some ⟨oc10, od10, .func (PySem.W.fnOf "_law_pot" "_law_pot" (defArgs sPot) (defBody sPot) (defScope sPot) .none kV10 dc10 pm10 an10 cd10 ct10), sl10⟩)
    (c10 : PySem.W.codeIn K cd10 "_law_pot" = true)
    (k10 : PySem.W.keepIn K (.ref f10) = true)
    (a11 : PySem.W.nsIn K mainGlobals "_law_take" = some (some (.ref f11)))
    (l11 : K.lookup f11 = some ⟨oc11, od11, .func (PySem.W.fnOf "_law_take" "_law_take" (defArgs sTake) (defBody sTake) (defScope sTake) .none kV11 dc11 pm11 an11 cd11 ct11), sl11⟩)
    (c11 : PySem.W.codeIn K cd11 "_law_take" = true)
    (k11 : PySem.W.keepIn K (.ref f11) = true)
    (a12 : PySem.W.nsIn K mainGlobals "_law_of" = some (some (.ref f12)))
    (l12 : K.lookup f12 = some ⟨oc12, od12, .func (PySem.W.fnOf "_law_of" "_law_of" (defArgs sOfSome) (defBody sOfSome) (defScope sOfSome) .none kV12 dc12 pm12 an12 cd12 ct12), sl12⟩)
    (c12 : PySem.W.codeIn K cd12 "_law_of" = true)
    (k12 : PySem.W.keepIn K (.ref f12) = true)
    (a13 : PySem.W.nsIn K mainGlobals "_law_frac" = some (some (.ref f13)))
    (l13 : K.lookup f13 = some ⟨oc13, od13, .func (PySem.W.fnOf "_law_frac" "_law_frac" (defArgs sFrac) (defBody sFrac) (defScope sFrac) .none kV13 dc13 pm13 an13 cd13 ct13), sl13⟩)
    (c13 : PySem.W.codeIn K cd13 "_law_frac" = true)
    (k13 : PySem.W.keepIn K (.ref f13) = true)
    (a14 : PySem.W.nsIn K mainGlobals "_law_plus" = some (some (.ref f14)))
    (l14 : K.lookup f14 = some ⟨oc14, od14, .func (PySem.W.fnOf "_law_plus" "_law_plus" (defArgs sLawPlus) (defBody sLawPlus) (defScope sLawPlus) .none kV14 dc14 pm14 an14 cd14 ct14), sl14⟩)
    (c14 : PySem.W.codeIn K cd14 "_law_plus" = true)
    (k14 : PySem.W.keepIn K (.ref f14) = true)
    (a15 : PySem.W.nsIn K mainGlobals "_law_ratio" = some (some (.ref f15)))
    (l15 : K.lookup f15 = some ⟨oc15, od15, .func (PySem.W.fnOf "_law_ratio" "_law_ratio" (defArgs sLawRatio) (defBody sLawRatio) (defScope sLawRatio) .none kV15 dc15 pm15 an15 cd15 ct15), sl15⟩)
    (c15 : PySem.W.codeIn K cd15 "_law_ratio" = true)
    (k15 : PySem.W.keepIn K (.ref f15) = true)
    (a16 : PySem.W.nsIn K mainGlobals "_law_drawn_pair" = some (some (.ref f16)))
    (l16 : K.lookup f16 = some ⟨oc16, od16, .func (PySem.W.fnOf "_law_drawn_pair" "_law_drawn_pair" (defArgs sDrawn) (defBody sDrawn) (defScope sDrawn) .none kV16 dc16 pm16 an16 cd16 ct16), sl16⟩)
    (c16 : PySem.W.codeIn K cd16 "_law_drawn_pair" = true)
    (k16 : PySem.W.keepIn K (.ref f16) = true)
    (a17 : PySem.W.nsIn K mainGlobals "_law_is_ratio" = some (some (.ref f17)))
    (l17 : K.lookup f17 = some ⟨oc17, od17, .func (PySem.W.fnOf "_law_is_ratio" "_law_is_ratio" (defArgs sIsRatio) (defBody sIsRatio) (defScope sIsRatio) .none kV17 dc17 pm17 an17 cd17 ct17), sl17⟩)
    (c17 : PySem.W.codeIn K cd17 "_law_is_ratio" = true)
    (k17 : PySem.W.keepIn K (.ref f17) = true)
    (a18 : PySem.W.nsIn K mainGlobals "_law_is_before" = some (some (.ref f18)))
    (l18 : K.lookup f18 = some ⟨oc18, od18, .func (PySem.W.fnOf "_law_is_before" "_law_is_before" (defArgs sIsBefore) (defBody sIsBefore) (defScope sIsBefore) .none kV18 dc18 pm18 an18 cd18 ct18), sl18⟩)
    (c18 : PySem.W.codeIn K cd18 "_law_is_before" = true)
    (k18 : PySem.W.keepIn K (.ref f18) = true)
    (a19 : PySem.W.nsIn K mainGlobals "_law_laid" = some (some (.ref f19)))
    (l19 : K.lookup f19 = some ⟨oc19, od19, .func (PySem.W.fnOf "_law_laid" "_law_laid" (defArgs sLaid) (defBody sLaid) (defScope sLaid) .none kV19 dc19 pm19 an19 cd19 ct19), sl19⟩)
    (c19 : PySem.W.codeIn K cd19 "_law_laid" = true)
    (k19 : PySem.W.keepIn K (.ref f19) = true)
    (a20 : PySem.W.nsIn K mainGlobals "_law_told_laid" = some (some (.ref f20)))
    (l20 : K.lookup f20 = some ⟨oc20, od20, .func (PySem.W.fnOf "_law_told_laid" "_law_told_laid" (defArgs sTold) (defBody sTold) (defScope sTold) .none kV20 dc20 pm20 an20 cd20 ct20), sl20⟩)
    (c20 : PySem.W.codeIn K cd20 "_law_told_laid" = true)
    (k20 : PySem.W.keepIn K (.ref f20) = true)
    (a21 : PySem.W.nsIn K mainGlobals "_law_right" = some (some (.ref f21)))
    (l21 : K.lookup f21 = some ⟨oc21, od21, .func (PySem.W.fnOf "_law_right" "_law_right" (defArgs sRight) (defBody sRight) (defScope sRight) .none kV21 dc21 pm21 an21 cd21 ct21), sl21⟩)
    (c21 : PySem.W.codeIn K cd21 "_law_right" = true)
    (k21 : PySem.W.keepIn K (.ref f21) = true)
    (a22 : PySem.W.nsIn K mainGlobals "law" = some (some (.ref f22)))
    (l22 : K.lookup f22 = some ⟨oc22, od22, .func (PySem.W.fnOf "law" "law" (defArgs sLaw) (defBody sLaw) (defScope sLaw) .none kV22 dc22 pm22 an22 cd22 ct22), sl22⟩)
    (c22 : PySem.W.codeIn K cd22 "law" = true)
    (k22 : PySem.W.keepIn K (.ref f22) = true)
    (a23 : PySem.W.findIn K (.ref C) "halved" = some (some (.ref f23)))
    (i23 : PySem.W.isFn K (.ref f23) = true)
    (l23 : K.lookup f23 = some ⟨oc23, od23, .func (PySem.W.fnOf "halved" "Ratio.halved" (defArgs sHalved) (defBody sHalved) (defScope sHalved) .none kV23 dc23 pm23 an23 cd23 ct23), sl23⟩)
    (c23 : PySem.W.codeIn K cd23 "Ratio.halved" = true)
    (k23 : PySem.W.keepIn K (.ref f23) = true)
    (a24 : PySem.W.findIn K (.ref C) "__eq__" = some (some (.ref f24)))
    (i24 : PySem.W.isFn K (.ref f24) = true)
    (l24 : K.lookup f24 = some ⟨oc24, od24, .func (PySem.W.fnOf "__eq__" "Ratio.__eq__" (defArgs sEq) (defBody sEq) (defScope sEq) .none kV24 dc24 pm24 an24 cd24 ct24), sl24⟩)
    (c24 : PySem.W.codeIn K cd24 "Ratio.__eq__" = true)
    (k24 : PySem.W.keepIn K (.ref f24) = true)
    (a25 : PySem.W.findIn K (.ref C) "__lt__" = some (some (.ref f25)))
    (i25 : PySem.W.isFn K (.ref f25) = true)
    (l25 : K.lookup f25 = some ⟨oc25, od25, .func (PySem.W.fnOf "__lt__" "Ratio.__lt__" (defArgs sLt) (defBody sLt) (defScope sLt) .none kV25 dc25 pm25 an25 cd25 ct25), sl25⟩)
    (c25 : PySem.W.codeIn K cd25 "Ratio.__lt__" = true)
    (k25 : PySem.W.keepIn K (.ref f25) = true)
    (a26 : PySem.W.findIn K (.ref C) "__le__" = some (some (.ref f26)))
    (i26 : PySem.W.isFn K (.ref f26) = true)
    (l26 : K.lookup f26 = some ⟨oc26, od26, .func (PySem.W.fnOf "__le__" "Ratio.__le__" (defArgs sLe) (defBody sLe) (defScope sLe) .none kV26 dc26 pm26 an26 cd26 ct26), sl26⟩)
    (c26 : PySem.W.codeIn K cd26 "Ratio.__le__" = true)
    (k26 : PySem.W.keepIn K (.ref f26) = true)
    (a27 : PySem.W.findIn K (.ref C) "__gt__" = some (some (.ref f27)))
    (i27 : PySem.W.isFn K (.ref f27) = true)
    (l27 : K.lookup f27 = some ⟨oc27, od27, .func (PySem.W.fnOf "__gt__" "Ratio.__gt__" (defArgs sGt) (defBody sGt) (defScope sGt) .none kV27 dc27 pm27 an27 cd27 ct27), sl27⟩)
    (c27 : PySem.W.codeIn K cd27 "Ratio.__gt__" = true)
    (k27 : PySem.W.keepIn K (.ref f27) = true)
    (a28 : PySem.W.findIn K (.ref C) "__ge__" = some (some (.ref f28)))
    (i28 : PySem.W.isFn K (.ref f28) = true)
    (l28 : K.lookup f28 = some ⟨oc28, od28, .func (PySem.W.fnOf "__ge__" "Ratio.__ge__" (defArgs sGe) (defBody sGe) (defScope sGe) .none kV28 dc28 pm28 an28 cd28 ct28), sl28⟩)
    (c28 : PySem.W.codeIn K cd28 "Ratio.__ge__" = true)
    (k28 : PySem.W.keepIn K (.ref f28) = true)
    (a29 : PySem.W.findIn K (.ref C) "__abs__" = some (some (.ref f29)))
    (i29 : PySem.W.isFn K (.ref f29) = true)
    (l29 : K.lookup f29 = some ⟨oc29, od29, .func (PySem.W.fnOf "__abs__" "Ratio.__abs__" (defArgs sAbs) (defBody sAbs) (defScope sAbs) .none kV29 dc29 pm29 an29 cd29 ct29), sl29⟩)
    (c29 : PySem.W.codeIn K cd29 "Ratio.__abs__" = true)
    (k29 : PySem.W.keepIn K (.ref f29) = true)
    (a30 : PySem.W.findIn K (.ref C) "__add__" = some (some (.ref f30)))
    (i30 : PySem.W.isFn K (.ref f30) = true)
    (l30 : K.lookup f30 = some ⟨oc30, od30, .func (PySem.W.fnOf "__add__" "Ratio.__add__" (defArgs sAdd) (defBody sAdd) (defScope sAdd) .none kV30 dc30 pm30 an30 cd30 ct30), sl30⟩)
    (c30 : PySem.W.codeIn K cd30 "Ratio.__add__" = true)
    (k30 : PySem.W.keepIn K (.ref f30) = true)
    (a31 : PySem.W.findIn K (.ref C) "__sub__" = some (some (.ref f31)))
    (i31 : PySem.W.isFn K (.ref f31) = true)
    (l31 : K.lookup f31 = some ⟨oc31, od31, .func (PySem.W.fnOf "__sub__" "Ratio.__sub__" (defArgs sSub) (defBody sSub) (defScope sSub) .none kV31 dc31 pm31 an31 cd31 ct31), sl31⟩)
    (c31 : PySem.W.codeIn K cd31 "Ratio.__sub__" = true)
    (k31 : PySem.W.keepIn K (.ref f31) = true)
    (a32 : PySem.W.findIn K (.ref C) "__mul__" = some (some (.ref f32)))
    (i32 : PySem.W.isFn K (.ref f32) = true)
    (l32 : K.lookup f32 = some ⟨oc32, od32, .func (PySem.W.fnOf "__mul__" "Ratio.__mul__" (defArgs sMul) (defBody sMul) (defScope sMul) .none kV32 dc32 pm32 an32 cd32 ct32), sl32⟩)
    (c32 : PySem.W.codeIn K cd32 "Ratio.__mul__" = true)
    (k32 : PySem.W.keepIn K (.ref f32) = true)
    (a33 : PySem.W.findIn K (.ref C) "number" = some (some (.ref p33)))
    (g33 : PySem.W.specialIn K (.ref p33) "__get__" = some (some (.builtin "property.__get__")))
    (t33 : PySem.W.takesIn K (.ref p33) = some true)
    (r33 : PySem.W.recIn K p33 "property" = some (.ref f33 :: rs33))
    (l33 : K.lookup f33 = some ⟨oc33, od33, .func (PySem.W.fnOf "number" "Ratio.number" (defArgs sNumber) (defBody sNumber) (defScope sNumber) .none kV33 dc33 pm33 an33 cd33 ct33), sl33⟩)
    (c33 : PySem.W.codeIn K cd33 "Ratio.number" = true)
    (k33 : PySem.W.keepIn K (.ref f33) = true)
    (a34 : PySem.W.findIn K (.ref C) "under" = some (some (.ref p34)))
    (g34 : PySem.W.specialIn K (.ref p34) "__get__" = some (some (.builtin "property.__get__")))
    (t34 : PySem.W.takesIn K (.ref p34) = some true)
    (r34 : PySem.W.recIn K p34 "property" = some (.ref f34 :: rs34))
    (l34 : K.lookup f34 = some ⟨oc34, od34, .func (PySem.W.fnOf "under" "Ratio.under" (defArgs sUnder) (defBody sUnder) (defScope sUnder) .none kV34 dc34 pm34 an34 cd34 ct34), sl34⟩)
    (c34 : PySem.W.codeIn K cd34 "Ratio.under" = true)
    (k34 : PySem.W.keepIn K (.ref f34) = true)
    (a35 : PySem.W.findIn K (.ref C) "text" = some (some (.ref p35)))
    (g35 : PySem.W.specialIn K (.ref p35) "__get__" = some (some (.builtin "property.__get__")))
    (t35 : PySem.W.takesIn K (.ref p35) = some true)
    (r35 : PySem.W.recIn K p35 "property" = some (.ref f35 :: rs35))
    (l35 : K.lookup f35 = some ⟨oc35, od35, .func (PySem.W.fnOf "text" "Ratio.text" (defArgs sText) (defBody sText) (defScope sText) .none kV35 dc35 pm35 an35 cd35 ct35), sl35⟩)
    (c35 : PySem.W.codeIn K cd35 "Ratio.text" = true)
    (k35 : PySem.W.keepIn K (.ref f35) = true)
    (tC : PySem.W.typeIn K (.ref C) = some mc)
    (a36 : PySem.W.findCls K (.ref C) mc "of" = some (.get (.builtin "staticmethod.__get__") (.ref p36) .none (.ref C)))
    (r36 : PySem.W.recIn K p36 "staticmethod" = some (.ref f36 :: rs36))
    (rdC : PySem.W.readsIn K C mc = true)
    (gaC : PySem.W.specialIn K (.ref C) "__getattribute__" = some (some (.builtin "type.__getattribute__")))
    (l36 : K.lookup f36 = some ⟨oc36, od36, .func (PySem.W.fnOf "of" "Ratio.of" (defArgs sOf) (defBody sOf) (defScope sOf) .none kV36 dc36 pm36 an36 cd36 ct36), sl36⟩)
    (c36 : PySem.W.codeIn K cd36 "Ratio.of" = true)
    (k36 : PySem.W.keepIn K (.ref f36) = true)
    (a37 : PySem.W.findIn K (.ref C) "__init__" = some (some (.ref f37)))
    (i37 : PySem.W.isFn K (.ref f37) = true)
    (l37 : K.lookup f37 = some ⟨oc37, od37, .func (PySem.W.fnOf "__init__" "Ratio.__init__" (defArgs sInit) (defBody sInit) (defScope sInit) (.ref dT) kV37 dc37 pm37 an37 cd37 ct37), sl37⟩)
    (c37 : PySem.W.codeIn K cd37 "Ratio.__init__" = true)
    (k37 : PySem.W.keepIn K (.ref f37) = true)
    (lT : K.lookup dT = some ⟨ocT, odT, .seq #[.int 1 tT] nT, slT⟩)
    (mkC : PySem.W.makesIn K C = true)
    (kC : PySem.W.keepIn K (.ref C) = true)
    (pgC : PySem.W.plainGet K C Str.empty = true)
    (icC : PySem.W.isClsIn K C = true)
    (poC : PySem.W.plainOver K C = true)
    (saC : PySem.W.findIn K (.ref C) "__setattr__" = some (some (.builtin "object.__setattr__")))
    (y1 : PySem.W.findIn K (.ref C) "__class__" = some (some (.builtin "object.__class__")))
    (y2 : PySem.W.specialIn K (.builtin "object.__class__") "__get__" = some (some (.builtin "getset_descriptor.__get__")))
    (y3 : PySem.W.takesIn K (.builtin "object.__class__") = some true)
    (y4 : PySem.W.mroIn K C (.type "object") = some true)
    (u0a : PySem.W.findIn K (.ref C) "above" = some (some (.ref q0)))
    (u0g : PySem.W.specialIn K (.ref q0) "__get__" = some (some (.builtin "member_descriptor.__get__")))
    (u0t : PySem.W.takesIn K (.ref q0) = some true)
    (u0y : PySem.W.typeIn K (.ref q0) = some (.type "member_descriptor"))
    (u0x : PySem.W.slotIn K q0 C = some 0)
    (u1a : PySem.W.findIn K (.ref C) "below" = some (some (.ref q1)))
    (u1g : PySem.W.specialIn K (.ref q1) "__get__" = some (some (.builtin "member_descriptor.__get__")))
    (u1t : PySem.W.takesIn K (.ref q1) = some true)
    (u1y : PySem.W.typeIn K (.ref q1) = some (.type "member_descriptor"))
    (u1x : PySem.W.slotIn K q1 C = some 1)
    (sfC : PySem.W.selfFirst K C = true)
    (nfI : PySem.W.notFirst K C (.type "int") = true)
    (sbI : PySem.W.subIn K (.type "int") (.ref C) = some false)
    (rmC : PySem.W.findIn K (.ref C) "__rmul__" = some (some (.ref fR)))
    (sCI : PySem.W.subIn K (.ref C) (.type "int") = some false)
    (sCB : PySem.W.subIn K (.ref C) (.type "bool") = some false)
    (eD : PySem.W.nsIn K mainGlobals "DIGITS" = some (some (.str "0123456789" tD)))
    (eM : PySem.W.nsIn K mainGlobals "MOST_SIGNS" = some (some (.int 1802 tM)))
    (z_isinstance : PySem.W.nsIn K mainGlobals "isinstance" = some none)
    (z_int : PySem.W.nsIn K mainGlobals "int" = some none)
    (z_bool : PySem.W.nsIn K mainGlobals "bool" = some none)
    (z_all : PySem.W.nsIn K mainGlobals "all" = some none)
    (z_abs : PySem.W.nsIn K mainGlobals "abs" = some none)
    (z_str : PySem.W.nsIn K mainGlobals "str" = some none)
    (z_len : PySem.W.nsIn K mainGlobals "len" = some none)
    (z_range : PySem.W.nsIn K mainGlobals "range" = some none)
    (z_max : PySem.W.nsIn K mainGlobals "max" = some none)
    (z_min : PySem.W.nsIn K mainGlobals "min" = some none)
    (z_zip : PySem.W.nsIn K mainGlobals "zip" = some none)
    (z_repr : PySem.W.nsIn K mainGlobals "repr" = some none) :
    ∀ base : Heap, K.In base → base.Ns mainGlobals mg → FnG P w K mg base 9 fa (spLaw K) := by
  have e := hfa.symm.trans (PySem.W.mg_of X G a22)
  cases e
  have D1 : Def K mg "is_integer" sIsInteger := ⟨f1, _, fun_mk (st := sIsInteger) l1 c1 k1, PySem.W.mg_of X G a1⟩
  have D2 : Def K mg "common_divisor" sDivisor := ⟨f2, _, fun_mk (st := sDivisor) l2 c2 k2, PySem.W.mg_of X G a2⟩
  have D3 : Def K mg "is_figures" sFigures := ⟨f3, _, fun_mk (st := sFigures) l3 c3 k3, PySem.W.mg_of X G a3⟩
  have D4 : Def K mg "is_number" sIsNumber := ⟨f4, _, fun_mk (st := sIsNumber) l4 c4 k4, PySem.W.mg_of X G a4⟩
  have D5 : Def K mg "ratio_of" sRatioOf := ⟨f5, _, fun_mk (st := sRatioOf) l5 c5 k5, PySem.W.mg_of X G a5⟩
  have D6 : Def K mg "spacing" sSpacing := ⟨f6, _, fun_mk (st := sSpacing) l6 c6 k6, PySem.W.mg_of X G a6⟩
  have D7 : Def K mg "plus" sPlus := ⟨f7, _, fun_mk (st := sPlus) l7 c7 k7, PySem.W.mg_of X G a7⟩
  have D8 : Def K mg "minus" sMinus := ⟨f8, _, fun_mk (st := sMinus) l8 c8 k8, PySem.W.mg_of X G a8⟩
  have D9 : Def K mg "times" sTimes := ⟨f9, _, fun_mk (st := sTimes) l9 c9 k9, PySem.W.mg_of X G a9⟩
  have D10 : Def K mg "_law_pot" sPot := ⟨f10, _, fun_mk (st := sPot) l10 c10 k10, PySem.W.mg_of X G a10⟩
  have D11 : Def K mg "_law_take" sTake := ⟨f11, _, fun_mk (st := sTake) l11 c11 k11, PySem.W.mg_of X G a11⟩
  have D12 : Def K mg "_law_of" sOfSome := ⟨f12, _, fun_mk (st := sOfSome) l12 c12 k12, PySem.W.mg_of X G a12⟩
  have D13 : Def K mg "_law_frac" sFrac := ⟨f13, _, fun_mk (st := sFrac) l13 c13 k13, PySem.W.mg_of X G a13⟩
  have D14 : Def K mg "_law_plus" sLawPlus := ⟨f14, _, fun_mk (st := sLawPlus) l14 c14 k14, PySem.W.mg_of X G a14⟩
  have D15 : Def K mg "_law_ratio" sLawRatio := ⟨f15, _, fun_mk (st := sLawRatio) l15 c15 k15, PySem.W.mg_of X G a15⟩
  have D16 : Def K mg "_law_drawn_pair" sDrawn := ⟨f16, _, fun_mk (st := sDrawn) l16 c16 k16, PySem.W.mg_of X G a16⟩
  have D17 : Def K mg "_law_is_ratio" sIsRatio := ⟨f17, _, fun_mk (st := sIsRatio) l17 c17 k17, PySem.W.mg_of X G a17⟩
  have D18 : Def K mg "_law_is_before" sIsBefore := ⟨f18, _, fun_mk (st := sIsBefore) l18 c18 k18, PySem.W.mg_of X G a18⟩
  have D19 : Def K mg "_law_laid" sLaid := ⟨f19, _, fun_mk (st := sLaid) l19 c19 k19, PySem.W.mg_of X G a19⟩
  have D20 : Def K mg "_law_told_laid" sTold := ⟨f20, _, fun_mk (st := sTold) l20 c20 k20, PySem.W.mg_of X G a20⟩
  have D21 : Def K mg "_law_right" sRight := ⟨f21, _, fun_mk (st := sRight) l21 c21 k21, PySem.W.mg_of X G a21⟩
  have D23 : DefM K C "halved" "Ratio.halved" sHalved := ⟨f23, _, fun_mk (st := sHalved) l23 c23 k23, ⟨a23, i23, k23⟩⟩
  have D24 : DefM K C "__eq__" "Ratio.__eq__" sEq := ⟨f24, _, fun_mk (st := sEq) l24 c24 k24, ⟨a24, i24, k24⟩⟩
  have D25 : DefM K C "__lt__" "Ratio.__lt__" sLt := ⟨f25, _, fun_mk (st := sLt) l25 c25 k25, ⟨a25, i25, k25⟩⟩
  have D26 : DefM K C "__le__" "Ratio.__le__" sLe := ⟨f26, _, fun_mk (st := sLe) l26 c26 k26, ⟨a26, i26, k26⟩⟩
  have D27 : DefM K C "__gt__" "Ratio.__gt__" sGt := ⟨f27, _, fun_mk (st := sGt) l27 c27 k27, ⟨a27, i27, k27⟩⟩
  have D28 : DefM K C "__ge__" "Ratio.__ge__" sGe := ⟨f28, _, fun_mk (st := sGe) l28 c28 k28, ⟨a28, i28, k28⟩⟩
  have D29 : DefM K C "__abs__" "Ratio.__abs__" sAbs := ⟨f29, _, fun_mk (st := sAbs) l29 c29 k29, ⟨a29, i29, k29⟩⟩
  have D30 : DefM K C "__add__" "Ratio.__add__" sAdd := ⟨f30, _, fun_mk (st := sAdd) l30 c30 k30, ⟨a30, i30, k30⟩⟩
  have D31 : DefM K C "__sub__" "Ratio.__sub__" sSub := ⟨f31, _, fun_mk (st := sSub) l31 c31 k31, ⟨a31, i31, k31⟩⟩
  have D32 : DefM K C "__mul__" "Ratio.__mul__" sMul := ⟨f32, _, fun_mk (st := sMul) l32 c32 k32, ⟨a32, i32, k32⟩⟩
  have D33 : DefP K C "number" "Ratio.number" sNumber := ⟨p33, f33, _, fun_mk (st := sNumber) l33 c33 k33, ⟨a33, g33, t33, ⟨_, r33⟩⟩⟩
  have D34 : DefP K C "under" "Ratio.under" sUnder := ⟨p34, f34, _, fun_mk (st := sUnder) l34 c34 k34, ⟨a34, g34, t34, ⟨_, r34⟩⟩⟩
  have D35 : DefP K C "text" "Ratio.text" sText := ⟨p35, f35, _, fun_mk (st := sText) l35 c35 k35, ⟨a35, g35, t35, ⟨_, r35⟩⟩⟩
  have nfC : PySem.W.notFirst K C (.ref C) = true := by
    unfold PySem.W.notFirst
    rw [beq_self_eq_true]
    rfl
  have T : Txt K mg C := {
    cl := ⟨pgC, icC, poC, saC⟩, isi := ⟨y1, y2, y3, y4⟩, s0 := ⟨q0, u0a, u0g, u0t, u0y, u0x, by decide⟩, s1 := ⟨q1, u1a, u1g, u1t, u1y, u1x, by decide⟩, mgC := PySem.W.mg_of X G aC, kC := kC, sf := sfC, nf := nfC, nfI := nfI, sbI := sbI, rmul := ⟨fR, rmC⟩, sCI := sCI, sCB := sCB,
    b_isinstance := PySem.W.mg_none_of X G z_isinstance,
    b_int := PySem.W.mg_none_of X G z_int,
    b_bool := PySem.W.mg_none_of X G z_bool,
    b_all := PySem.W.mg_none_of X G z_all,
    b_abs := PySem.W.mg_none_of X G z_abs,
    b_str := PySem.W.mg_none_of X G z_str,
    b_len := PySem.W.mg_none_of X G z_len,
    b_range := PySem.W.mg_none_of X G z_range,
    b_max := PySem.W.mg_none_of X G z_max,
    b_min := PySem.W.mg_none_of X G z_min,
    b_zip := PySem.W.mg_none_of X G z_zip,
    b_repr := PySem.W.mg_none_of X G z_repr,
    digits := ⟨tD, PySem.W.mg_of X G eD⟩, most := ⟨tM, PySem.W.mg_of X G eM⟩ }
  have FL := fun_mk (st := sLaw) l22 c22 k22
  have FO := fun_mk (st := sOf) l36 c36 k36
  have FI : FunI K f37 (PySem.W.fnOf "__init__" "Ratio.__init__" (defArgs sInit) (defBody sInit) (defScope sInit) (.ref dT) kV37 dc37 pm37 an37 cd37 ct37) :=
    ⟨⟨oc37, od37, .ref dT, kV37, dc37, pm37, an37, cd37, ct37, sl37, rfl, l37, c37, .inr ⟨by simp, dT, _, [.int 1 tT], nT, rfl, lT, rfl, .cons ⟨tT, rfl⟩ .nil⟩, .inl rfl⟩, k37⟩
  intro base _ _
  have gInt := has_isInteger (P := P) (w := w) (base := base) D1 T
  have gDiv := has_divisor (P := P) (w := w) (base := base) D2
  have gFig := has_figures (P := P) (w := w) (base := base) D3 T
  have gInit := has_init (P := P) (w := w) (base := base) FI ⟨mkC, a37, i37, kC⟩ T gInt gDiv
  have gNum := has_number (P := P) (w := w) (base := base) D33 T
  have gUnd := has_under (P := P) (w := w) (base := base) D34 T
  have gText := has_text (P := P) (w := w) (base := base) D35 T
  have gIsN := has_isNumber (P := P) (w := w) (base := base) D4 T gInt
  have gRO := has_ratioOf (P := P) (w := w) (base := base) D5 T gInit
  have gSp := has_spacing (P := P) (w := w) (base := base) D6 T gRO
  have gPlus := has_plus (P := P) (w := w) (base := base) D7 T gInit
  have gMinus := has_minus (P := P) (w := w) (base := base) D8 T gInit
  have gTimes := has_times (P := P) (w := w) (base := base) D9 T gInit
  have gOf := has_of (P := P) (w := w) (base := base) FO T gInit gFig gText
  have S : Signs P w K mg base C := {
    lt := has_lt D25 T gIsN gSp, le := has_le D26 T gIsN gSp, gt := has_gt D27 T gIsN gSp, ge := has_ge D28 T gIsN gSp, eq := has_eq D24 T,
    add := has_add D30 T gIsN gRO gPlus, sub := has_sub D31 T gIsN gRO gMinus, mul := has_mul D32 T gIsN gRO gTimes, abs := has_abs D29 T gInit, half := has_halved D23 T gInit, init := gInit, text := gText,
    of := ⟨mc, p36, f36, ⟨rdC, gaC⟩, ⟨a36, ⟨_, r36⟩, k36⟩, gOf⟩ }
  have gTake := has_take (P := P) (w := w) (base := base) D11 T
  have gSome := has_ofSome (P := P) (w := w) (base := base) D12 T gTake
  have gFrac := has_frac (P := P) (w := w) (base := base) D13 T
  have gBef := has_isBefore (P := P) (w := w) (base := base) D18
  have L : Laws P w K mg base C := {
    pot := has_pot D10 T, some_ := gSome, plus := has_lawPlus D14 gFrac, ratio := has_lawRatio D15 T gInit, drawn := has_drawn D16 gTake gSome gFrac,
    isRatio := has_isRatio D17 T gNum gUnd, laid := has_laid D19 T gBef, told := has_told D20 T S.ge }
  exact has_law FL T L.pot (has_right D21 T S L)
theorem sp_end (K : PySem.W.Frag) (H : Hp) (a : Addr) (ns : List Int) (hl : ns.length ≤ 63) (hS : SqL K H a (ns.map V.int)) : spLaw K [.ref a] H (fun v _ => v = .bl true) E0 := ⟨a, ns, rfl, hS, hl, fun _ => rfl⟩
end K11
open PySem PySem.W PyProof.Rows
set_option maxRecDepth 100000 in
set_option maxHeartbeats 0 in
theorem PySem.Challenge.cw_hoverrest_k11_whole_ratios_in_sequence_holds : PySem.Challenge.rw_hoverrest_k11_whole_ratios_in_sequence.Holds := by
  w_on; o_law; k_head; (case hw => w_witness2)
  k_fill
  refine K11.walkG (l := PySem.Challenge.rw_hoverrest_k11_whole_ratios_in_sequence) (n := 63) (k := 9) (sp := K11.spLaw) rfl (by decide) rfl ⟨rfl, by decide, by decide⟩ (fun w h Y => PySem.W.kIn_of Y) ?F (fun K H a ns hl _ hS => K11.sp_end K H a ns hl hS)
  case F =>
    intro w mg fa h KX G hmg
    refine' K11.all_mk KX G hmg ?aC ?a1 ?l1 ?c1 ?k1 ?a2 ?l2 ?c2 ?k2 ?a3 ?l3 ?c3 ?k3 ?a4 ?l4 ?c4 ?k4 ?a5 ?l5 ?c5 ?k5 ?a6 ?l6 ?c6 ?k6 ?a7 ?l7 ?c7 ?k7 ?a8 ?l8 ?c8 ?k8 ?a9 ?l9 ?c9 ?k9 ?a10 ?l10 ?c10 ?k10 ?a11 ?l11 ?c11 ?k11 ?a12 ?l12 ?c12 ?k12 ?a13 ?l13 ?c13 ?k13 ?a14 ?l14 ?c14 ?k14 ?a15 ?l15 ?c15 ?k15 ?a16 ?l16 ?c16 ?k16 ?a17 ?l17 ?c17 ?k17 ?a18 ?l18 ?c18 ?k18 ?a19 ?l19 ?c19 ?k19 ?a20 ?l20 ?c20 ?k20 ?a21 ?l21 ?c21 ?k21 ?a22 ?l22 ?c22 ?k22 ?a23 ?i23 ?l23 ?c23 ?k23 ?a24 ?i24 ?l24 ?c24 ?k24 ?a25 ?i25 ?l25 ?c25 ?k25 ?a26 ?i26 ?l26 ?c26 ?k26 ?a27 ?i27 ?l27 ?c27 ?k27 ?a28 ?i28 ?l28 ?c28 ?k28 ?a29 ?i29 ?l29 ?c29 ?k29 ?a30 ?i30 ?l30 ?c30 ?k30 ?a31 ?i31 ?l31 ?c31 ?k31 ?a32 ?i32 ?l32 ?c32 ?k32 ?a33 ?g33 ?t33 ?r33 ?l33 ?c33 ?k33 ?a34 ?g34 ?t34 ?r34 ?l34 ?c34 ?k34 ?a35 ?g35 ?t35 ?r35 ?l35 ?c35 ?k35 ?tC ?a36 ?r36 ?rdC ?gaC ?l36 ?c36 ?k36 ?a37 ?i37 ?l37 ?c37 ?k37 ?lT ?mkC ?kC ?pgC ?icC ?poC ?saC ?y1 ?y2 ?y3 ?y4 ?u0a ?u0g ?u0t ?u0y ?u0x ?u1a ?u1g ?u1t ?u1y ?u1x ?sfC ?nfI ?sbI ?rmC ?sCI ?sCB ?eD ?eM ?z_isinstance ?z_int ?z_bool ?z_all ?z_abs ?z_str ?z_len ?z_range ?z_max ?z_min ?z_zip ?z_repr
    (case aC => k_is)
    (case a1 => k_is)
    (case l1 => k_is)
    (case c1 => k_is)
    (case k1 => k_is)
    (case a2 => k_is)
    (case l2 => k_is)
    (case c2 => k_is)
    (case k2 => k_is)
    (case a3 => k_is)
    (case l3 => k_is)
    (case c3 => k_is)
    (case k3 => k_is)
    (case a4 => k_is)
    (case l4 => k_is)
    (case c4 => k_is)
    (case k4 => k_is)
    (case a5 => k_is)
    (case l5 => k_is)
    (case c5 => k_is)
    (case k5 => k_is)
    (case a6 => k_is)
    (case l6 => k_is)
    (case c6 => k_is)
    (case k6 => k_is)
    (case a7 => k_is)
    (case l7 => k_is)
    (case c7 => k_is)
    (case k7 => k_is)
    (case a8 => k_is)
    (case l8 => k_is)
    (case c8 => k_is)
    (case k8 => k_is)
    (case a9 => k_is)
    (case l9 => k_is)
    (case c9 => k_is)
    (case k9 => k_is)
    (case a10 => k_is)
    (case l10 => k_is)
    (case c10 => k_is)
    (case k10 => k_is)
    (case a11 => k_is)
    (case l11 => k_is)
    (case c11 => k_is)
    (case k11 => k_is)
    (case a12 => k_is)
    (case l12 => k_is)
    (case c12 => k_is)
    (case k12 => k_is)
    (case a13 => k_is)
    (case l13 => k_is)
    (case c13 => k_is)
    (case k13 => k_is)
    (case a14 => k_is)
    (case l14 => k_is)
    (case c14 => k_is)
    (case k14 => k_is)
    (case a15 => k_is)
    (case l15 => k_is)
    (case c15 => k_is)
    (case k15 => k_is)
    (case a16 => k_is)
    (case l16 => k_is)
    (case c16 => k_is)
    (case k16 => k_is)
    (case a17 => k_is)
    (case l17 => k_is)
    (case c17 => k_is)
    (case k17 => k_is)
    (case a18 => k_is)
    (case l18 => k_is)
    (case c18 => k_is)
    (case k18 => k_is)
    (case a19 => k_is)
    (case l19 => k_is)
    (case c19 => k_is)
    (case k19 => k_is)
    (case a20 => k_is)
    (case l20 => k_is)
    (case c20 => k_is)
    (case k20 => k_is)
    (case a21 => k_is)
    (case l21 => k_is)
    (case c21 => k_is)
    (case k21 => k_is)
    (case a22 => k_is)
    (case l22 => k_is)
    (case c22 => k_is)
    (case k22 => k_is)
    (case a23 => k_is)
    (case i23 => k_is)
    (case l23 => k_is)
    (case c23 => k_is)
    (case k23 => k_is)
    (case a24 => k_is)
    (case i24 => k_is)
    (case l24 => k_is)
    (case c24 => k_is)
    (case k24 => k_is)
    (case a25 => k_is)
    (case i25 => k_is)
    (case l25 => k_is)
    (case c25 => k_is)
    (case k25 => k_is)
    (case a26 => k_is)
    (case i26 => k_is)
    (case l26 => k_is)
    (case c26 => k_is)
    (case k26 => k_is)
    (case a27 => k_is)
    (case i27 => k_is)
    (case l27 => k_is)
    (case c27 => k_is)
    (case k27 => k_is)
    (case a28 => k_is)
    (case i28 => k_is)
    (case l28 => k_is)
    (case c28 => k_is)
    (case k28 => k_is)
    (case a29 => k_is)
    (case i29 => k_is)
    (case l29 => k_is)
    (case c29 => k_is)
    (case k29 => k_is)
    (case a30 => k_is)
    (case i30 => k_is)
    (case l30 => k_is)
    (case c30 => k_is)
    (case k30 => k_is)
    (case a31 => k_is)
    (case i31 => k_is)
    (case l31 => k_is)
    (case c31 => k_is)
    (case k31 => k_is)
    (case a32 => k_is)
    (case i32 => k_is)
    (case l32 => k_is)
    (case c32 => k_is)
    (case k32 => k_is)
    (case a33 => k_is)
    (case g33 => k_is)
    (case t33 => k_is)
    (case r33 => k_is)
    (case l33 => k_is)
    (case c33 => k_is)
    (case k33 => k_is)
    (case a34 => k_is)
    (case g34 => k_is)
    (case t34 => k_is)
    (case r34 => k_is)
    (case l34 => k_is)
    (case c34 => k_is)
    (case k34 => k_is)
    (case a35 => k_is)
    (case g35 => k_is)
    (case t35 => k_is)
    (case r35 => k_is)
    (case l35 => k_is)
    (case c35 => k_is)
    (case k35 => k_is)
    (case tC => k_is)
    (case a36 => k_is)
    (case r36 => k_is)
    (case rdC => k_is)
    (case gaC => k_is)
    (case l36 => k_is)
    (case c36 => k_is)
    (case k36 => k_is)
    (case a37 => k_is)
    (case i37 => k_is)
    (case l37 => k_is)
    (case c37 => k_is)
    (case k37 => k_is)
    (case lT => k_is)
    (case mkC => k_is)
    (case kC => k_is)
    (case pgC => k_is)
    (case icC => k_is)
    (case poC => k_is)
    (case saC => k_is)
    (case y1 => k_is)
    (case y2 => k_is)
    (case y3 => k_is)
    (case y4 => k_is)
    (case u0a => k_is)
    (case u0g => k_is)
    (case u0t => k_is)
    (case u0y => k_is)
    (case u0x => k_is)
    (case u1a => k_is)
    (case u1g => k_is)
    (case u1t => k_is)
    (case u1y => k_is)
    (case u1x => k_is)
    (case sfC => k_is)
    (case nfI => k_is)
    (case sbI => k_is)
    (case rmC => k_is)
    (case sCI => k_is)
    (case sCB => k_is)
    (case eD => k_is)
    (case eM => k_is)
    (case z_isinstance => k_is)
    (case z_int => k_is)
    (case z_bool => k_is)
    (case z_all => k_is)
    (case z_abs => k_is)
    (case z_str => k_is)
    (case z_len => k_is)
    (case z_range => k_is)
    (case z_max => k_is)
    (case z_min => k_is)
    (case z_zip => k_is)
    (case z_repr => k_is)
