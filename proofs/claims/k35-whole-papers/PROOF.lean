import PyProof.Rows.All
import Wide.All
import OpenK.AllK
import Wide.FinOn
import HandS.ForMost
import HandS.Evl
import HandS.IsInst
import HandS.TupAny
import HandS.TupMul
import HandS.Style
import HandS.Wide
import HandS.Zip
import HandS.Walk
import HandS.Defaults
import KE.GoesNew
import KE.GoesMore
import KE.KTurns
import KE.KRevSl
import HandS.HeadHook1
import HandS.HeadHook2
import PySem.Challenge.RW_slanttables_k35_whole_papers
import PyProof.P3Eq
import KE.KStateDown
import HandS.Exc
import HandS.Head0
import HandS.Head1
import HandS.Head2
import HandS.HeadEnd
set_option Elab.async false
set_option linter.all false
set_option maxRecDepth 100000
set_option maxHeartbeats 0
/-! Plain mathematics: sums, elimination, kernels. -/
namespace K35

/-- the sum of f j for j below n, from the left -/
def sm : Nat → (Nat → Rat) → Rat
  | 0, _ => 0
  | n + 1, f => sm n f + f n

theorem sm_congr {n : Nat} {f g : Nat → Rat} (h : ∀ j, j < n → f j = g j) : sm n f = sm n g := by
  induction n with
  | zero => rfl
  | succ n ih =>
    show sm n f + f n = sm n g + g n
    rw [ih fun j hj => h j (by omega), h n (by omega)]
theorem sm_zero {n : Nat} {f : Nat → Rat} (h : ∀ j, j < n → f j = 0) : sm n f = 0 := by
  induction n with
  | zero => rfl
  | succ n ih =>
    show sm n f + f n = 0
    rw [ih fun j hj => h j (by omega), h n (by omega)]
    grind
theorem sm_add {n : Nat} {f g : Nat → Rat} : sm n (fun j => f j + g j) = sm n f + sm n g := by
  induction n with
  | zero => show (0 : Rat) = 0 + 0; grind
  | succ n ih =>
    show sm n (fun j => f j + g j) + (f n + g n) = (sm n f + f n) + (sm n g + g n)
    rw [ih]
    grind
theorem sm_sub {n : Nat} {f g : Nat → Rat} : sm n (fun j => f j - g j) = sm n f - sm n g := by
  induction n with
  | zero => show (0 : Rat) = 0 - 0; grind
  | succ n ih =>
    show sm n (fun j => f j - g j) + (f n - g n) = (sm n f + f n) - (sm n g + g n)
    rw [ih]
    grind
theorem sm_mulr {n : Nat} {f : Nat → Rat} {c : Rat} : sm n (fun j => f j * c) = sm n f * c := by
  induction n with
  | zero => show (0 : Rat) = 0 * c; grind
  | succ n ih =>
    show sm n (fun j => f j * c) + f n * c = (sm n f + f n) * c
    rw [ih]
    grind
theorem sm_one {n k : Nat} {f : Nat → Rat} (hk : k < n) (h : ∀ j, j < n → j ≠ k → f j = 0) : sm n f = f k := by
  induction n with
  | zero => omega
  | succ n ih =>
    show sm n f + f n = f k
    by_cases e : k = n
    · subst e
      rw [sm_zero fun j hj => h j (by omega) (by omega)]
      grind
    · rw [ih (by omega) fun j hj hn => h j (by omega) hn, h n (by omega) (by omega)]
      grind
theorem sm_two {n k l : Nat} {f : Nat → Rat} (hk : k < n) (hl : l < n) (kl : k ≠ l) (h : ∀ j, j < n → j ≠ k → j ≠ l → f j = 0) : sm n f = f k + f l := by
  have e : sm n f = sm n (fun j => (if j = k then f j else 0) + (if j = l then f j else 0)) := sm_congr fun j hj => by
    by_cases e1 : j = k
    · have : j ≠ l := by omega
      simp only [if_pos e1, if_neg this]; grind
    · by_cases e2 : j = l
      · simp only [if_neg e1, if_pos e2]; grind
      · simp only [if_neg e1, if_neg e2, h j hj e1 e2]; grind
  rw [e, sm_add, sm_one hk (fun j _ hj => if_neg hj), sm_one hl (fun j _ hj => if_neg hj), if_pos rfl, if_pos rfl]
/-- the first term apart -/
theorem sm_head {n : Nat} {f : Nat → Rat} : sm (n + 1) f = f 0 + sm n (fun j => f (j + 1)) := by
  induction n with
  | zero => show (0 : Rat) + f 0 = f 0 + 0; grind
  | succ n ih =>
    show sm (n + 1) f + f (n + 1) = f 0 + (sm n (fun j => f (j + 1)) + f (n + 1))
    rw [ih]
    grind
theorem sm_rev : ∀ {n : Nat} {f : Nat → Rat}, sm n f = sm n (fun j => f (n - 1 - j))
  | 0, _ => rfl
  | n + 1, f => by
    rw [sm_head (f := fun j => f (n + 1 - 1 - j))]
    show sm n f + f n = f (n + 1 - 1 - 0) + _
    rw [sm_rev (n := n) (f := f)]
    have e : sm n (fun j => f (n - 1 - j)) = sm n (fun j => f (n + 1 - 1 - (j + 1))) := sm_congr fun j hj => by
      rw [show n + 1 - 1 - (j + 1) = n - 1 - j by omega]
    rw [e, show n + 1 - 1 - 0 = n by omega]
    grind
/-- terms beyond k are 0 -/
theorem sm_trim {n k : Nat} {f : Nat → Rat} (h : k ≤ n) (z : ∀ j, k ≤ j → j < n → f j = 0) : sm n f = sm k f := by
  induction n with
  | zero => rw [show k = 0 by omega]
  | succ n ih =>
    by_cases e : k = n + 1
    · rw [e]
    · show sm n f + f n = sm k f
      rw [ih (by omega) fun j h1 h2 => z j h1 (by omega), z n (by omega) (by omega)]
      grind
theorem sm_split {n k : Nat} {f : Nat → Rat} : sm (n + k) f = sm n f + sm k (fun j => f (n + j)) := by
  induction k with
  | zero => show sm n f = sm n f + 0; grind
  | succ k ih =>
    show sm (n + k) f + f (n + k) = sm n f + (sm k (fun j => f (n + j)) + f (n + k))
    rw [ih]
    grind

/-- the products' sum -/
def dot (n : Nat) (r v : Nat → Rat) : Rat := sm n (fun j => r j * v j)
theorem dot_congr {n : Nat} {r v r' v' : Nat → Rat} (h : ∀ j, j < n → r j = r' j) (h' : ∀ j, j < n → v j = v' j) : dot n r v = dot n r' v' := sm_congr fun j hj => by rw [h j hj, h' j hj]

abbrev Mx := Nat → Nat → Rat
def Ker (m w : Nat) (M : Mx) (v : Nat → Rat) : Prop := ∀ i, i < m → dot w (M i) v = 0

/-- two rows exchanged -/
def swp (M : Mx) (h b : Nat) : Mx := fun i => if i = b then M h else if i = h then M b else M i
/-- the row h scaled, its place p cleared in all others -/
def clr (M : Mx) (h p : Nat) : Mx := fun i j => if i = h then M h j * (1 / M h p) else M i j - M h j * (1 / M h p) * M i p
/-- where below is something at the place -/
def belows (m k : Nat) (M : Mx) (p : Nat) : List Nat := (List.range' k (m - k)).filter fun i => decide (M i p ≠ 0)
def stp (m : Nat) (st : Mx × List Nat) (p : Nat) : Mx × List Nat :=
  match belows m st.2.length st.1 p with
  | [] => st
  | b :: _ => (clr (swp st.1 st.2.length b) st.2.length p, st.2 ++ [p])
/-- behind the places below c -/
def lin (m : Nat) (M : Mx) : Nat → Mx × List Nat
  | 0 => (M, [])
  | c + 1 => stp m (lin m M c) c

theorem belows_nil {m k : Nat} {M : Mx} {p : Nat} (h : belows m k M p = []) : ∀ i, k ≤ i → i < m → M i p = 0 := fun i h1 h2 => by
  unfold belows at h
  rw [List.filter_eq_nil_iff] at h
  have := h i (List.mem_range'_1.mpr ⟨h1, by omega⟩)
  simpa using this
theorem belows_cons {m k : Nat} {M : Mx} {p b : Nat} {r : List Nat} (h : belows m k M p = b :: r) : k ≤ b ∧ b < m ∧ M b p ≠ 0 := by
  have hm : b ∈ belows m k M p := by rw [h]; exact List.mem_cons_self
  unfold belows at hm
  rw [List.mem_filter, List.mem_range'_1] at hm
  exact ⟨hm.1.1, by omega, by simpa using hm.2⟩

theorem ker_swp {m w h b : Nat} {M : Mx} (hh : h < m) (hb : b < m) (v : Nat → Rat) : Ker m w (swp M h b) v ↔ Ker m w M v := by
  constructor
  · intro k i hi
    by_cases e1 : i = h
    · have := k b hb
      unfold swp at this
      rw [if_pos rfl] at this
      rw [e1]; exact this
    · by_cases e2 : i = b
      · have := k h hh
        unfold swp at this
        by_cases e3 : h = b
        · omega
        · rw [if_neg e3, if_pos rfl] at this
          rw [e2]; exact this
      · have := k i hi
        unfold swp at this
        rw [if_neg e2, if_neg e1] at this
        exact this
  · intro k i hi
    unfold swp
    split
    · exact k h hh
    · split
      · exact k b hb
      · exact k i hi
theorem dot_clr_h {w h p : Nat} {M : Mx} (v : Nat → Rat) : dot w (clr M h p h) v = dot w (M h) v * (1 / M h p) := by
  unfold dot
  rw [← sm_mulr]
  exact sm_congr fun j _ => by
    unfold clr
    rw [if_pos rfl]
    grind
theorem dot_clr_i {w h p i : Nat} {M : Mx} (v : Nat → Rat) (hi : i ≠ h) : dot w (clr M h p i) v = dot w (M i) v - dot w (M h) v * (1 / M h p * M i p) := by
  unfold dot
  rw [← sm_mulr, ← sm_sub]
  exact sm_congr fun j _ => by
    unfold clr
    rw [if_neg hi]
    grind
theorem ker_clr {m w h p : Nat} {M : Mx} (hh : h < m) (hp : M h p ≠ 0) (v : Nat → Rat) : Ker m w (clr M h p) v ↔ Ker m w M v := by
  have hz : Ker m w (clr M h p) v → dot w (M h) v = 0 := fun k => by
    have := k h hh
    rw [dot_clr_h] at this
    grind
  constructor
  · intro k i hi
    have h0 := hz k
    by_cases e : i = h
    · rw [e]; exact h0
    · have := k i hi
      rw [dot_clr_i v e, h0] at this
      grind
  · intro k i hi
    have h0 := k h hh
    by_cases e : i = h
    · rw [e, dot_clr_h, h0]; grind
    · rw [dot_clr_i v e, h0, k i hi]; grind

/-- what holds behind the places below c -/
structure Ech (m w : Nat) (M0 : Mx) (c : Nat) (M : Mx) (ps : List Nat) : Prop where
  len : ps.length ≤ m
  lt : ∀ p, p ∈ ps → p < c
  nd : ps.Nodup
  piv : ∀ k p, ps[k]? = some p → ∀ i, i < m → M i p = if i = k then 1 else 0
  zer : ∀ i, ps.length ≤ i → i < m → ∀ j, j < c → M i j = 0
  ker : ∀ v, Ker m w M v ↔ Ker m w M0 v

theorem Ech.start {m w : Nat} {M : Mx} : Ech m w M 0 M [] where
  len := Nat.zero_le _
  lt := fun p h => by cases h
  nd := List.nodup_nil
  piv := fun k p h => by simp at h
  zer := fun _ _ _ j hj => by omega
  ker := fun _ => Iff.rfl
theorem Ech.step {m w c : Nat} {M0 M : Mx} {ps : List Nat} (E : Ech m w M0 c M ps) : Ech m w M0 (c + 1) (stp m (M, ps) c).1 (stp m (M, ps) c).2 := by
  unfold stp
  cases hb : belows m ps.length M c with
  | nil =>
    have hz := belows_nil hb
    exact {
      len := E.len
      lt := fun p h => Nat.lt_succ_of_lt (E.lt p h)
      nd := E.nd
      piv := E.piv
      zer := fun i h1 h2 j hj => by
        by_cases e : j = c
        · subst e; exact hz i h1 h2
        · exact E.zer i h1 h2 j (by omega)
      ker := E.ker }
  | cons b r =>
    obtain ⟨b1, b2, b3⟩ := belows_cons hb
    have hk : ps.length < m := by omega
    show Ech m w M0 (c + 1) (clr (swp M ps.length b) ps.length c) (ps ++ [c])
    have s1 : swp M ps.length b ps.length = M b := by
      unfold swp
      by_cases e : ps.length = b
      · rw [if_pos e, e]
      · rw [if_neg e, if_pos rfl]
    have sz : ∀ i, ps.length ≤ i → i < m → ∀ j, j < c → swp M ps.length b i j = 0 := fun i h1 h2 j hj => by
      unfold swp
      split
      · exact E.zer _ (Nat.le_refl _) hk j hj
      · split
        · exact E.zer b b1 b2 j hj
        · exact E.zer i h1 h2 j hj
    have sp : ∀ k p, ps[k]? = some p → ∀ i, i < m → swp M ps.length b i p = if i = k then 1 else 0 := fun k p hp i hi => by
      have hkl : k < ps.length := (List.getElem?_eq_some_iff.mp hp).1
      have hpc : p < c := E.lt p (List.mem_of_getElem? hp)
      by_cases h : ps.length ≤ i
      · rw [sz i h hi p hpc, if_neg (by omega)]
      · unfold swp
        rw [if_neg (by omega), if_neg (by omega)]
        exact E.piv k p hp i hi
    have hne : swp M ps.length b ps.length c ≠ 0 := by rw [s1]; exact b3
    exact {
      len := by rw [List.length_append]; exact hk
      lt := fun p h => by
        rcases List.mem_append.mp h with h | h
        · exact Nat.lt_succ_of_lt (E.lt p h)
        · rw [List.mem_singleton.mp h]; exact Nat.lt_succ_self _
      nd := List.nodup_append.mpr ⟨E.nd, by simp, fun a ha b hb' e => by
        rw [List.mem_singleton.mp hb'] at e
        have := E.lt a ha
        omega⟩
      piv := fun k p hp i hi => by
        by_cases hkl : k < ps.length
        · rw [List.getElem?_append_left hkl] at hp
          have zk : swp M ps.length b ps.length p = 0 := by
            rw [sp k p hp _ hk, if_neg (by omega)]
          unfold clr
          split
          next e => rw [zk, e, if_neg (by omega)]; grind
          next e => rw [zk, sp k p hp i hi]; grind
        · have e1 : k = ps.length := by
            have := (List.getElem?_eq_some_iff.mp hp).1
            rw [List.length_append] at this
            simp at this
            omega
          subst e1
          have e2 : p = c := by simpa using hp.symm
          subst e2
          unfold clr
          split
          · grind
          · grind
      zer := fun i h1 h2 j hj => by
        rw [List.length_append] at h1
        have h1' : ps.length + 1 ≤ i := h1
        unfold clr
        rw [if_neg (by omega)]
        by_cases e : j = c
        · subst e; grind
        · rw [sz i (by omega) h2 j (by omega), sz _ (Nat.le_refl _) hk j (by omega)]
          grind
      ker := fun v => (ker_clr hk hne v).trans ((ker_swp hk b2 v).trans (E.ker v)) }
theorem lin_ech (m w : Nat) (M : Mx) : ∀ c, Ech m w M c (lin m M c).1 (lin m M c).2
  | 0 => Ech.start
  | c + 1 => (lin_ech m w M c).step

/-! ### free places -/
def freeL (n : Nat) (ps : List Nat) : List Nat := (List.range n).filter fun p => decide (p ∉ ps)
theorem mem_freeL {n : Nat} {ps : List Nat} {f : Nat} : f ∈ freeL n ps ↔ f < n ∧ f ∉ ps := by
  unfold freeL
  rw [List.mem_filter, List.mem_range]
  simp
/-- the row of a free place -/
def fv (R : Mx) (ps : List Nat) (f : Nat) : Nat → Nat → Rat
  | 0 => fun j => if j = f then 1 else 0
  | i + 1 => fun j => if j = ps.getD i 0 then 0 - R i f else fv R ps f i j
theorem fv_out {R : Mx} {ps : List Nat} {f j : Nat} (h : j ∉ ps) : ∀ i, i ≤ ps.length → fv R ps f i j = if j = f then 1 else 0
  | 0, _ => rfl
  | i + 1, hi => by
    unfold fv
    have e : j ≠ ps.getD i 0 := fun e => h (by
      rw [e, List.getD_eq_getElem?_getD, List.getElem?_eq_getElem (show i < ps.length by omega)]
      exact List.getElem_mem _)
    show (if j = ps.getD i 0 then 0 - R i f else fv R ps f i j) = _
    rw [if_neg e]
    exact fv_out h i (by omega)
theorem fv_in {R : Mx} {ps : List Nat} {f k p : Nat} (nd : ps.Nodup) (h : ps[k]? = some p) : ∀ i, k < i → i ≤ ps.length → fv R ps f i p = 0 - R k f
  | 0, hk, _ => by omega
  | i + 1, hk, hi => by
    show (if p = ps.getD i 0 then 0 - R i f else fv R ps f i p) = _
    have hi' : i < ps.length := by omega
    have e0 : ps.getD i 0 = ps[i] := by rw [List.getD_eq_getElem?_getD, List.getElem?_eq_getElem hi']; rfl
    obtain ⟨hk', ek⟩ := List.getElem?_eq_some_iff.mp h
    by_cases e : i = k
    · subst e
      rw [if_pos (by rw [e0, ek])]
    · rw [if_neg (fun z => e ((List.getElem_inj nd).mp (by rw [← e0, ← z, ek])))]
      exact fv_in nd h i (by omega) (by omega)

section
variable {m w : Nat} {M0 R : Mx} {ps : List Nat}
theorem Ech.free_ker (E : Ech m w M0 w R ps) {f : Nat} (hf : f < w) (hn : f ∉ ps) : Ker m w M0 (fv R ps f ps.length) := by
  rw [← E.ker]
  intro i hi
  by_cases hk : i < ps.length
  · have hp : ps[i]? = some ps[i] := List.getElem?_eq_getElem hk
    have hpw : ps[i] < w := E.lt _ (List.getElem_mem hk)
    have hne : f ≠ ps[i] := fun e => hn (by rw [e]; exact List.getElem_mem hk)
    unfold dot
    rw [sm_two hf hpw hne]
    · rw [fv_out hn _ (Nat.le_refl _), fv_in E.nd hp _ hk (Nat.le_refl _), E.piv i _ hp i hi, if_pos rfl, if_pos rfl]
      grind
    · intro j hj h1 h2
      by_cases hjp : j ∈ ps
      · obtain ⟨l, hl, el⟩ := List.getElem_of_mem hjp
        have hq : ps[l]? = some j := by rw [List.getElem?_eq_getElem hl, el]
        rw [E.piv l j hq i hi, if_neg (fun e => h2 (by subst e; rw [← el]))]
        grind
      · rw [fv_out hjp _ (Nat.le_refl _), if_neg h1]
        grind
  · exact sm_zero fun j hj => by
      rw [E.zer i (by omega) hi j hj]
      grind
theorem Ech.free_one {f : Nat} (hn : f ∉ ps) : fv R ps f ps.length f = 1 := by
  rw [fv_out hn _ (Nat.le_refl _), if_pos rfl]
/-- a vector of the kernel that is 0 at all free places is 0 -/
theorem Ech.zero_of (E : Ech m w M0 w R ps) {v : Nat → Rat} (k : Ker m w M0 v) (z : ∀ f, f < w → f ∉ ps → v f = 0) : ∀ j, j < w → v j = 0 := by
  intro j hj
  by_cases hjp : j ∈ ps
  · obtain ⟨l, hl, el⟩ := List.getElem_of_mem hjp
    have hq : ps[l]? = some j := by rw [List.getElem?_eq_getElem hl, el]
    have hlm : l < m := Nat.lt_of_lt_of_le hl E.len
    have h0 := (E.ker v).mpr k l hlm
    unfold dot at h0
    rw [sm_one hj] at h0
    · rw [E.piv l j hq l hlm, if_pos rfl] at h0
      grind
    · intro i hi hne
      by_cases hip : i ∈ ps
      · obtain ⟨l', hl', el'⟩ := List.getElem_of_mem hip
        have hq' : ps[l']? = some i := by rw [List.getElem?_eq_getElem hl', el']
        rw [E.piv l' i hq' l hlm, if_neg (fun e => hne (by subst e; rw [← el', ← el]))]
        grind
      · rw [z i hi hip]
        grind
  · exact z j hj hjp
end

theorem freeL_nodup {n : Nat} {ps : List Nat} : (freeL n ps).Nodup := (List.filter_sublist (p := _)).nodup List.nodup_range
theorem freeL_len : ∀ {ps : List Nat} {n : Nat}, ps.Nodup → (∀ p, p ∈ ps → p < n) → (freeL n ps).length + ps.length = n
  | [], n, _, _ => by
    unfold freeL
    rw [List.filter_eq_self.mpr (by simp)]
    simp
  | p :: ps, n, nd, lt => by
    have nd' := List.nodup_cons.mp nd
    have ih := freeL_len (ps := ps) (n := n) nd'.2 fun q h => lt q (List.mem_cons_of_mem _ h)
    have e : freeL n (p :: ps) = (freeL n ps).erase p := by
      rw [List.Nodup.erase_eq_filter freeL_nodup]
      unfold freeL
      rw [List.filter_filter]
      apply List.filter_congr
      intro x _
      by_cases h1 : x = p <;> by_cases h2 : x ∈ ps <;> simp [h1, h2]
    have hm : p ∈ freeL n ps := mem_freeL.mpr ⟨lt p List.mem_cons_self, nd'.1⟩
    rw [e, List.length_erase_of_mem hm, List.length_cons]
    have : 0 < (freeL n ps).length := List.length_pos_of_mem hm
    omega

/-- fewer rows than places: something is made to noughts -/
theorem wide_ker {m w : Nat} (M : Mx) (h : m < w) : ∃ v : Nat → Rat, Ker m w M v ∧ ∃ j, j < w ∧ v j ≠ 0 := by
  have E := lin_ech m w M w
  have hl := freeL_len E.nd E.lt
  have h0 : 0 < (freeL w (lin m M w).2).length := by
    have := E.len
    omega
  have hm : (freeL w (lin m M w).2)[0] ∈ freeL w (lin m M w).2 := List.getElem_mem h0
  obtain ⟨hf, hn⟩ := mem_freeL.mp hm
  refine ⟨_, E.free_ker hf hn, _, hf, ?_⟩
  rw [Ech.free_one hn]
  decide

/-- a kernel that goes, from behind, into another one has no more free places -/
theorem free_le {n : Nat} {M1 M2 : Mx} (h : ∀ v, Ker n n M1 v → Ker n n M2 (fun j => v (n - 1 - j))) :
    (freeL n (lin n M1 n).2).length ≤ (freeL n (lin n M2 n).2).length := by
  have E1 := lin_ech n n M1 n
  have E2 := lin_ech n n M2 n
  have l1 := freeL_len E1.nd E1.lt
  have l2 := freeL_len E2.nd E2.lt
  refine Nat.le_of_not_lt fun hlt => ?_
  generalize (lin n M1 n).1 = R1 at E1
  generalize (lin n M2 n).1 = R2 at E2
  generalize (lin n M1 n).2 = p1 at E1 l1 hlt
  generalize (lin n M2 n).2 = p2 at E2 l2 hlt
  obtain ⟨v, hk, j, hj, hv⟩ := wide_ker (m := p1.length + (freeL n p2).length) (w := n)
    (fun i => if i < p1.length then R1 i else fun j => if j = n - 1 - (freeL n p2).getD (i - p1.length) 0 then 1 else 0) (by omega)
  have k1 : Ker n n M1 v := (E1.ker v).mp fun i hi => by
    by_cases e : i < p1.length
    · have := hk i (by omega)
      simp only [if_pos e] at this
      exact this
    · exact sm_zero fun l hl => by
        rw [E1.zer i (by omega) hi l hl]
        grind
  have k2 := h v k1
  have z := E2.zero_of k2 fun f hf hn => by
    obtain ⟨l, hl, el⟩ := List.getElem_of_mem (mem_freeL.mpr ⟨hf, hn⟩)
    have := hk (p1.length + l) (by omega)
    simp only [if_neg (show ¬ p1.length + l < p1.length by omega)] at this
    rw [show p1.length + l - p1.length = l by omega, List.getD_eq_getElem?_getD, List.getElem?_eq_getElem hl, el] at this
    unfold dot at this
    rw [sm_one (show n - 1 - f < n by omega)] at this
    · simp only [Option.getD_some, if_true] at this
      grind
    · intro q _ hq
      simp only [Option.getD_some, if_neg hq]
      grind
  have := z (n - 1 - j) (by omega)
  rw [show n - 1 - (n - 1 - j) = j by omega] at this
  exact hv this
end K35
/-! Plain mathematics: shares in lowest terms, their bits. -/
namespace K35

/-! ### powers of two -/
theorem p_mul {a b A B : Nat} (ha : a < 2 ^ A) (hb : b < 2 ^ B) : a * b < 2 ^ (A + B) := by
  rw [Nat.pow_add]; exact Nat.mul_lt_mul'' ha hb
theorem p_le {a A B : Nat} (ha : a < 2 ^ A) (h : A ≤ B) : a < 2 ^ B := Nat.lt_of_lt_of_le ha (Nat.pow_le_pow_right (by decide) h)
theorem p_add {a b A B : Nat} (ha : a < 2 ^ A) (hb : b < 2 ^ A) (h : A + 1 ≤ B) : a + b < 2 ^ B := by
  refine p_le (A := A + 1) ?_ h
  rw [Nat.pow_succ]; omega
theorem p_pos (A : Nat) : 0 < 2 ^ A := Nat.two_pow_pos A

/-! ### a share of two ints -/
/-- what the while loop of common leaves, with the sign of the bottom -/
def both (t b : Int) : Int := if b < 0 then 0 - ((t.natAbs.gcd b.natAbs : Nat) : Int) else ((t.natAbs.gcd b.natAbs : Nat) : Int)
theorem both_ne {t b : Int} (hb : b ≠ 0) : both t b ≠ 0 := by
  have h : 0 < t.natAbs.gcd b.natAbs := Nat.gcd_pos_of_pos_right _ (by omega)
  unfold both
  split <;> omega
theorem both_le {t b : Int} (hb : b ≠ 0) : (both t b).natAbs ≤ b.natAbs := by
  have h : t.natAbs.gcd b.natAbs ≤ b.natAbs := Nat.gcd_le_right _ (by omega)
  unfold both
  split <;> omega
theorem both_dvd {t b : Int} : (both t b) ∣ t ∧ (both t b) ∣ b := by
  have h1 : ((t.natAbs.gcd b.natAbs : Nat) : Int) ∣ t := Int.gcd_dvd_left t b
  have h2 : ((t.natAbs.gcd b.natAbs : Nat) : Int) ∣ b := Int.gcd_dvd_right t b
  unfold both
  split
  · rw [Int.zero_sub]; exact ⟨(Int.neg_dvd).mpr h1, (Int.neg_dvd).mpr h2⟩
  · exact ⟨h1, h2⟩
theorem fdiv_both {x g : Int} (h : g ∣ x) (hg : g ≠ 0) : x.fdiv g * g = x := by
  obtain ⟨y, rfl⟩ := h
  rw [Int.mul_fdiv_cancel_left _ hg, Int.mul_comm]
theorem share_eq {t b : Int} (hb : b ≠ 0) : t.fdiv (both t b) = (Rat.divInt t b).num ∧ b.fdiv (both t b) = ((Rat.divInt t b).den : Int) := by
  have hg := both_ne (t := t) hb
  have ht := fdiv_both (both_dvd (t := t) (b := b)).1 hg
  have hbb := fdiv_both (both_dvd (t := t) (b := b)).2 hg
  rw [Rat.num_divInt, Rat.den_divInt, if_neg hb]
  have gg : b.gcd t = t.natAbs.gcd b.natAbs := by rw [Int.gcd_comm]; rfl
  rw [gg]
  have hgn : (0 : Int) < ((t.natAbs.gcd b.natAbs : Nat) : Int) := by
    have h : 0 < t.natAbs.gcd b.natAbs := Nat.gcd_pos_of_pos_right _ (by omega)
    omega
  have e : both t b = b.sign * ((t.natAbs.gcd b.natAbs : Nat) : Int) := by
    unfold both
    split
    next h => rw [Int.sign_eq_neg_one_of_neg h]; omega
    next h => rw [Int.sign_eq_one_of_pos (by omega)]; omega
  generalize t.natAbs.gcd b.natAbs = g at *
  have ss : b.sign * b.sign = 1 := by
    rcases Int.lt_or_gt_of_ne hb with h | h
    · rw [Int.sign_eq_neg_one_of_neg h]; rfl
    · rw [Int.sign_eq_one_of_pos h]; rfl
  constructor
  · have e1 : b.sign * t = t.fdiv (both t b) * (g : Int) := by
      calc b.sign * t = b.sign * (t.fdiv (both t b) * both t b) := by rw [ht]
        _ = (b.sign * b.sign) * (t.fdiv (both t b) * (g : Int)) := by rw [e]; grind
        _ = _ := by rw [ss]; grind
    rw [e1, Int.mul_ediv_cancel _ (by omega)]
  · have e1 : (b.natAbs : Int) = b.fdiv (both t b) * (g : Int) := by
      calc (b.natAbs : Int) = b.sign * b := by rw [Int.sign_mul_self]
        _ = b.sign * (b.fdiv (both t b) * both t b) := by rw [hbb]
        _ = (b.sign * b.sign) * (b.fdiv (both t b) * (g : Int)) := by rw [e]; grind
        _ = _ := by rw [ss]; grind
    rw [Int.natCast_ediv, e1, Int.mul_ediv_cancel _ (by omega)]

/-! ### the four operations, as the program writes them -/
theorem den_ne (q : Rat) : (q.den : Int) ≠ 0 := by have := q.den_nz; omega
theorem cast_den_ne (q : Rat) : ((q.den : Int) : Rat) ≠ 0 := by
  rw [Ne, Rat.intCast_eq_zero_iff]; exact den_ne q
theorem rat_eq (q : Rat) : q = (q.num : Rat) / ((q.den : Int) : Rat) := by
  have := Rat.num_divInt_den q
  rw [Rat.divInt_eq_div] at this
  exact this.symm
theorem add_eq (q r : Rat) : Rat.divInt (q.num * (r.den : Int) + r.num * (q.den : Int)) ((q.den : Int) * (r.den : Int)) = q + r := by
  rw [Rat.divInt_eq_div]
  have h1 := cast_den_ne q
  have h2 := cast_den_ne r
  have e1 := rat_eq q
  have e2 := rat_eq r
  rw [Rat.intCast_add, Rat.intCast_mul, Rat.intCast_mul, Rat.intCast_mul]
  generalize (q.num : Rat) = a at *
  generalize ((q.den : Int) : Rat) = b at *
  generalize (r.num : Rat) = c at *
  generalize ((r.den : Int) : Rat) = d at *
  grind
theorem sub_eq (q r : Rat) : Rat.divInt (q.num * (r.den : Int) - r.num * (q.den : Int)) ((q.den : Int) * (r.den : Int)) = q - r := by
  rw [Rat.divInt_eq_div, Rat.intCast_sub, Rat.intCast_mul, Rat.intCast_mul, Rat.intCast_mul]
  have h1 := cast_den_ne q
  have h2 := cast_den_ne r
  have e1 := rat_eq q
  have e2 := rat_eq r
  generalize (q.num : Rat) = a at *
  generalize ((q.den : Int) : Rat) = b at *
  generalize (r.num : Rat) = c at *
  generalize ((r.den : Int) : Rat) = d at *
  grind
theorem mul_eq (q r : Rat) : Rat.divInt (q.num * r.num) ((q.den : Int) * (r.den : Int)) = q * r := by
  rw [Rat.divInt_eq_div, Rat.intCast_mul, Rat.intCast_mul]
  have h1 := cast_den_ne q
  have h2 := cast_den_ne r
  have e1 := rat_eq q
  have e2 := rat_eq r
  generalize (q.num : Rat) = a at *
  generalize ((q.den : Int) : Rat) = b at *
  generalize (r.num : Rat) = c at *
  generalize ((r.den : Int) : Rat) = d at *
  grind
theorem num_ne {r : Rat} (h : r ≠ 0) : r.num ≠ 0 := fun z => h (Rat.num_eq_zero.mp z)
theorem div_eq (q r : Rat) (h : r ≠ 0) : Rat.divInt (q.num * (r.den : Int)) ((q.den : Int) * r.num) = q / r := by
  rw [Rat.divInt_eq_div, Rat.intCast_mul, Rat.intCast_mul]
  have h1 := cast_den_ne q
  have h2 := cast_den_ne r
  have h3 : (r.num : Rat) ≠ 0 := by rw [Ne, Rat.intCast_eq_zero_iff]; exact num_ne h
  have e1 := rat_eq q
  have e2 := rat_eq r
  generalize (q.num : Rat) = a at *
  generalize ((q.den : Int) : Rat) = b at *
  generalize (r.num : Rat) = c at *
  generalize ((r.den : Int) : Rat) = d at *
  grind

/-! ### bits of one share -/
def Bd (A : Nat) (q : Rat) : Prop := q.num.natAbs < 2 ^ A ∧ q.den < 2 ^ A
theorem Bd.mono {A B : Nat} {q : Rat} (h : Bd A q) (k : A ≤ B) : Bd B q := ⟨p_le h.1 k, p_le h.2 k⟩
/-- what is v over d has no more bits than these -/
theorem bd_of {A : Nat} {q : Rat} {v d : Int} (hd : d ≠ 0) (h1 : v.natAbs < 2 ^ A) (h2 : d.natAbs < 2 ^ A) (e : q * (d : Rat) = (v : Rat)) : Bd A q := by
  have e0 : q = Rat.divInt v d := by
    rw [Rat.divInt_eq_div]
    have : (d : Rat) ≠ 0 := by rw [Ne, Rat.intCast_eq_zero_iff]; exact hd
    grind
  obtain ⟨n1, n2⟩ := share_eq (t := v) hd
  rw [← e0] at n1 n2
  have hg := both_ne (t := v) hd
  have a1 := fdiv_both (both_dvd (t := v) (b := d)).1 hg
  have a2 := fdiv_both (both_dvd (t := v) (b := d)).2 hg
  rw [n1] at a1
  rw [n2] at a2
  have g1 : 1 ≤ (both v d).natAbs := by omega
  constructor
  · refine Nat.lt_of_le_of_lt ?_ h1
    rw [← a1, Int.natAbs_mul]
    exact Nat.le_mul_of_pos_right _ g1
  · refine Nat.lt_of_le_of_lt ?_ h2
    rw [← a2, Int.natAbs_mul, Int.natAbs_natCast]
    exact Nat.le_mul_of_pos_right _ g1
theorem bd_int {A : Nat} {v : Int} (h : v.natAbs < 2 ^ A) (h0 : 0 < A) : Bd A (v : Rat) := ⟨h, by
  show 1 < 2 ^ A
  exact Nat.one_lt_two_pow (by omega)⟩
theorem nat_add_le {a b : Int} : (a + b).natAbs ≤ a.natAbs + b.natAbs := Int.natAbs_add_le a b
theorem Bd.mul {A B : Nat} {q r : Rat} (hq : Bd A q) (hr : Bd B r) : Bd (A + B) (q * r) := by
  rw [← mul_eq]
  refine bd_of (v := q.num * r.num) (d := (q.den : Int) * (r.den : Int)) (Int.mul_ne_zero (den_ne q) (den_ne r)) ?_ ?_ ?_
  · rw [Int.natAbs_mul]; exact p_mul hq.1 hr.1
  · rw [Int.natAbs_mul]; exact p_mul hq.2 hr.2
  · rw [Rat.divInt_eq_div]
    refine Rat.div_mul_cancel ?_
    rw [Ne, Rat.intCast_eq_zero_iff]
    exact Int.mul_ne_zero (den_ne q) (den_ne r)
theorem Bd.add {A B : Nat} {q r : Rat} (hq : Bd A q) (hr : Bd B r) : Bd (A + B + 1) (q + r) := by
  rw [← add_eq]
  refine bd_of (v := q.num * (r.den : Int) + r.num * (q.den : Int)) (d := (q.den : Int) * (r.den : Int)) (Int.mul_ne_zero (den_ne q) (den_ne r)) ?_ ?_ ?_
  · refine Nat.lt_of_le_of_lt nat_add_le ?_
    rw [Int.natAbs_mul, Int.natAbs_mul]
    exact p_add (p_mul hq.1 hr.2) (by rw [Nat.add_comm A B]; exact p_mul hr.1 hq.2) (Nat.le_refl _)
  · rw [Int.natAbs_mul]; exact p_le (p_mul hq.2 hr.2) (by omega)
  · rw [Rat.divInt_eq_div]
    refine Rat.div_mul_cancel ?_
    rw [Ne, Rat.intCast_eq_zero_iff]
    exact Int.mul_ne_zero (den_ne q) (den_ne r)
theorem Bd.neg {A : Nat} {q : Rat} (h : Bd A q) : Bd A (-q) := ⟨by rw [Rat.neg_num, Int.natAbs_neg]; exact h.1, by rw [Rat.neg_den]; exact h.2⟩
theorem Bd.sub {A B : Nat} {q r : Rat} (hq : Bd A q) (hr : Bd B r) : Bd (A + B + 1) (q - r) := by
  rw [Rat.sub_eq_add_neg]
  exact hq.add hr.neg
theorem bd_zero {A : Nat} (h : 0 < A) : Bd A 0 := ⟨p_pos A, Nat.one_lt_two_pow (by omega)⟩
theorem bd_one {A : Nat} (h : 0 < A) : Bd A 1 := ⟨Nat.one_lt_two_pow (by omega), Nat.one_lt_two_pow (by omega)⟩
theorem Bd.inv {A : Nat} {q : Rat} (h : Bd A q) (h0 : q ≠ 0) : Bd A (1 / q) := by
  refine bd_of (v := (q.den : Int)) (d := q.num) (num_ne h0) (by rw [Int.natAbs_natCast]; exact h.2) h.1 ?_
  have h1 := cast_den_ne q
  have e1 := rat_eq q
  have h3 : (q.num : Rat) ≠ 0 := by rw [Ne, Rat.intCast_eq_zero_iff]; exact num_ne h0
  generalize (q.num : Rat) = a at *
  generalize ((q.den : Int) : Rat) = b at *
  grind
theorem Bd.div {A B : Nat} {q r : Rat} (hq : Bd A q) (hr : Bd B r) (h0 : r ≠ 0) : Bd (A + B) (q / r) := by
  have : q / r = q * (1 / r) := by grind
  rw [this]
  exact hq.mul (hr.inv h0)
theorem bd_sm {A B : Nat} {n : Nat} {f g : Nat → Rat} (hf : ∀ j, j < n → Bd A (f j)) (hg : ∀ j, j < n → Bd B (g j)) : Bd (n * (A + B + 1) + 1) (dot n f g) := by
  induction n with
  | zero => rw [Nat.zero_mul]; exact bd_zero (by decide)
  | succ n ih =>
    have h := (ih (fun j hj => hf j (by omega)) fun j hj => hg j (by omega)).add ((hf n (by omega)).mul (hg n (by omega)))
    refine Bd.mono h ?_
    rw [Nat.succ_mul]
    omega

/-! ### bits of a row: one bottom for all -/
def RB (N w : Nat) (f : Nat → Rat) : Prop := ∃ d : Int, d ≠ 0 ∧ d.natAbs < 2 ^ N ∧ ∀ j, j < w → ∃ v : Int, v.natAbs < 2 ^ N ∧ f j * (d : Rat) = (v : Rat)
theorem RB.bd {N w : Nat} {f : Nat → Rat} (h : RB N w f) {j : Nat} (hj : j < w) : Bd N (f j) := by
  obtain ⟨d, h0, hd, hv⟩ := h
  obtain ⟨v, h1, e⟩ := hv j hj
  exact bd_of h0 h1 hd e
theorem RB.mono {N N' w : Nat} {f : Nat → Rat} (h : RB N w f) (k : N ≤ N') : RB N' w f := by
  obtain ⟨d, h0, hd, hv⟩ := h
  exact ⟨d, h0, p_le hd k, fun j hj => by
    obtain ⟨v, h1, e⟩ := hv j hj
    exact ⟨v, p_le h1 k, e⟩⟩
theorem RB.congr {N w : Nat} {f g : Nat → Rat} (h : RB N w f) (e : ∀ j, j < w → g j = f j) : RB N w g := by
  obtain ⟨d, h0, hd, hv⟩ := h
  exact ⟨d, h0, hd, fun j hj => by rw [e j hj]; exact hv j hj⟩
theorem cast_ne {d : Int} (h : d ≠ 0) : (d : Rat) ≠ 0 := by rw [Ne, Rat.intCast_eq_zero_iff]; exact h
theorem RB.scale {N w p : Nat} {f : Nat → Rat} (h : RB N w f) (hp : p < w) (h0 : f p ≠ 0) : RB N w (fun j => f j * (1 / f p)) := by
  obtain ⟨d, hd0, hd, hv⟩ := h
  obtain ⟨a, ha, ea⟩ := hv p hp
  have hda := cast_ne hd0
  have ha0 : a ≠ 0 := fun z => by
    rw [z] at ea
    have : ((0 : Int) : Rat) = 0 := rfl
    grind
  refine ⟨a, ha0, ha, fun j hj => ?_⟩
  obtain ⟨v, h1, e⟩ := hv j hj
  refine ⟨v, h1, ?_⟩
  generalize (a : Rat) = a' at *
  generalize (d : Rat) = d' at *
  generalize (v : Rat) = v' at *
  grind
theorem alg1 {fp d a hp e b fj v hj u : Rat} (h0 : fp ≠ 0) (ea : fp * d = a) (eb : hp * e = b) (e1 : fj * d = v) (e2 : hj * e = u) : (hj - fj * (1 / fp) * hp) * (e * a) = u * a - v * b := by
  have x1 : 1 / fp * a = d := by grind
  have x2 : fj * (1 / fp) * a = v := by grind
  have x3 : fj * (1 / fp) * hp * (e * a) = v * b := by grind
  grind
theorem RB.elim {N w p : Nat} {f h : Nat → Rat} (hf : RB N w f) (hh : RB N w h) (hp : p < w) (h0 : f p ≠ 0) : RB (2 * N + 1) w (fun j => h j - f j * (1 / f p) * h p) := by
  obtain ⟨d, hd0, hd, hv⟩ := hf
  obtain ⟨e, he0, he, hu⟩ := hh
  obtain ⟨a, ha, ea⟩ := hv p hp
  obtain ⟨b, hb, eb⟩ := hu p hp
  have hda := cast_ne hd0
  have hea := cast_ne he0
  have ha0 : a ≠ 0 := fun z => by
    rw [z] at ea
    have : ((0 : Int) : Rat) = 0 := rfl
    grind
  have haa := cast_ne ha0
  refine ⟨e * a, Int.mul_ne_zero he0 ha0, ?_, fun j hj => ?_⟩
  · rw [Int.natAbs_mul]; exact p_le (p_mul he ha) (by omega)
  · obtain ⟨v, h1, e1⟩ := hv j hj
    obtain ⟨u, h2, e2⟩ := hu j hj
    refine ⟨u * a - v * b, ?_, ?_⟩
    · rw [Int.sub_eq_add_neg]
      refine Nat.lt_of_le_of_lt nat_add_le ?_
      rw [Int.natAbs_neg, Int.natAbs_mul, Int.natAbs_mul]
      exact p_add (p_mul h2 ha) (p_mul h1 hb) (by omega)
    · rw [Rat.intCast_sub, Rat.intCast_mul, Rat.intCast_mul, Rat.intCast_mul]
      exact alg1 h0 ea eb e1 e2
theorem rb_ints {N w : Nat} {s : Nat → Int} (h : ∀ j, j < w → (s j).natAbs < 2 ^ N) (h0 : 0 < N) : RB N w (fun j => (s j : Rat)) :=
  ⟨1, by decide, Nat.one_lt_two_pow (by omega), fun j hj => ⟨s j, h j hj, by show (s j : Rat) * 1 = _; grind⟩⟩
/-- after k pivots -/
def nx (N k : Nat) : Nat := 2 ^ k * (N + 1) - 1
theorem nx_zero (N : Nat) : nx N 0 = N := by unfold nx; omega
theorem nx_succ (N k : Nat) : nx N (k + 1) = 2 * nx N k + 1 := by
  unfold nx
  have : 0 < 2 ^ k * (N + 1) := Nat.mul_pos (p_pos k) (by omega)
  rw [Nat.pow_succ]
  have : 2 ^ k * 2 * (N + 1) = 2 * (2 ^ k * (N + 1)) := by rw [Nat.mul_comm (2 ^ k) 2, Nat.mul_assoc]
  omega
theorem nx_le {N k l : Nat} (h : k ≤ l) : nx N k ≤ nx N l := by
  unfold nx
  have := Nat.mul_le_mul_right (N + 1) (Nat.pow_le_pow_right (show 0 < 2 by decide) h)
  omega
theorem lin_rb {m w N : Nat} {M : Mx} (h : ∀ i, i < m → RB N w (M i)) : ∀ c, c ≤ w → ∀ i, i < m → RB (nx N (lin m M c).2.length) w ((lin m M c).1 i)
  | 0, _, i, hi => by
    show RB (nx N 0) w (M i)
    rw [nx_zero]
    exact h i hi
  | c + 1, hc, i, hi => by
    have ih := lin_rb h c (by omega)
    show RB (nx N (stp m (lin m M c) c).2.length) w ((stp m (lin m M c) c).1 i)
    generalize lin m M c = st at *
    unfold stp
    cases hb : belows m st.2.length st.1 c with
    | nil => exact ih i hi
    | cons b r =>
      obtain ⟨b1, b2, b3⟩ := belows_cons hb
      show RB (nx N (st.2 ++ [c]).length) w (clr (swp st.1 st.2.length b) st.2.length c i)
      rw [List.length_append, List.length_singleton, nx_succ]
      have hs : ∀ i, i < m → RB (nx N st.2.length) w (swp st.1 st.2.length b i) := fun i hi => by
        unfold swp
        split
        · exact ih _ (by omega)
        · split
          · exact ih _ b2
          · exact ih i hi
      have hk : st.2.length < m := by omega
      have hne : swp st.1 st.2.length b st.2.length c ≠ 0 := by
        unfold swp
        by_cases e : st.2.length = b
        · rw [if_pos e, e]; exact b3
        · rw [if_neg e, if_pos rfl]; exact b3
      by_cases e : i = st.2.length
      · refine RB.mono (RB.congr ((hs _ hk).scale (by omega) hne) fun j _ => ?_) (show nx N st.2.length ≤ _ by omega)
        unfold clr
        rw [if_pos e]
      · refine RB.congr ((hs _ hk).elim (hs i hi) (by omega) hne) fun j _ => ?_
        unfold clr
        rw [if_neg e]
theorem nx5 {N k : Nat} (h : k ≤ 5) : nx N k ≤ 32 * (N + 1) := by
  refine Nat.le_trans (nx_le h) ?_
  unfold nx
  omega
end K35
/-! Plain mathematics: slants, their tables, full ones, backs, steps. -/
namespace K35

/-- the table of slants of size n -/
def T (s : Nat → Int) (n : Nat) : Mx := fun i j => ((s (n - 1 + j - i) : Int) : Rat)
/-- as many and as great as slants are -/
def Sl (s : Nat → Int) (n : Nat) : Prop := 1 ≤ n ∧ n ≤ 5 ∧ ∀ j, j < 2 * n - 1 → -50 ≤ s j ∧ s j ≤ 50
def Full (s : Nat → Int) (n : Nat) : Prop := ∀ v, Ker n n (T s n) v → ∀ j, j < n → v j = 0
def ech (s : Nat → Int) (n : Nat) : Mx × List Nat := lin n (T s n) n
def frees (s : Nat → Int) (n : Nat) : List Nat := freeL n (ech s n).2
def freeR (s : Nat → Int) (n f : Nat) : Nat → Rat := fv (ech s n).1 (ech s n).2 f (ech s n).2.length
theorem ech_ok (s : Nat → Int) (n : Nat) : Ech n n (T s n) n (ech s n).1 (ech s n).2 := lin_ech n n (T s n) n
theorem frees_lt {s : Nat → Int} {n f : Nat} (h : f ∈ frees s n) : f < n := (mem_freeL.mp h).1
theorem freeR_ker {s : Nat → Int} {n f : Nat} (h : f ∈ frees s n) : Ker n n (T s n) (freeR s n f) := (ech_ok s n).free_ker (mem_freeL.mp h).1 (mem_freeL.mp h).2
theorem freeR_one {s : Nat → Int} {n f : Nat} (h : f ∈ frees s n) : freeR s n f f = 1 := Ech.free_one (mem_freeL.mp h).2
theorem full_iff {s : Nat → Int} {n : Nat} : frees s n = [] ↔ Full s n := by
  constructor
  · intro h v k
    refine (ech_ok s n).zero_of k fun f hf hn => ?_
    have : f ∈ frees s n := mem_freeL.mpr ⟨hf, hn⟩
    rw [h] at this
    cases this
  · intro h
    cases e : frees s n with
    | nil => rfl
    | cons f r =>
      have hm : f ∈ frees s n := by rw [e]; exact List.mem_cons_self
      have := h _ (freeR_ker hm) f (frees_lt hm)
      rw [freeR_one hm] at this
      exact absurd this (by decide)
/-- bits of the table -/
theorem T_rb {s : Nat → Int} {n : Nat} (S : Sl s n) : ∀ i, i < n → RB 7 n (T s n i) := fun i hi =>
  rb_ints (s := fun j => s (n - 1 + j - i)) (fun j hj => by
    have := S.2.2 (n - 1 + j - i) (by omega)
    show (s (n - 1 + j - i)).natAbs < 128
    omega) (by decide)
theorem T_bd {s : Nat → Int} {n : Nat} (S : Sl s n) {i j : Nat} (hi : i < n) (hj : j < n) : Bd 7 (T s n i j) := (T_rb S i hi).bd hj
/-- behind c columns -/
theorem lin_len {m w : Nat} {M : Mx} (c : Nat) : (lin m M c).2.length ≤ m := (lin_ech m w M c).len
theorem lin_rb5 {m w : Nat} {M : Mx} (h5 : m ≤ 5) (h : ∀ i, i < m → RB 7 w (M i)) {c : Nat} (hc : c ≤ w) : ∀ i, i < m → RB 256 w ((lin m M c).1 i) := fun i hi =>
  (lin_rb h c hc i hi).mono (nx5 (N := 7) (Nat.le_trans (lin_len (w := w) c) h5))
theorem freeR_bd {s : Nat → Int} {n f : Nat} (S : Sl s n) (hf : f ∈ frees s n) : ∀ j, j < n → Bd 257 (freeR s n f j) := fun j hj => by
  have E := ech_ok s n
  have rb := lin_rb5 S.2.1 (T_rb S) (c := n) (Nat.le_refl n)
  by_cases hp : j ∈ (ech s n).2
  · obtain ⟨l, hl, el⟩ := List.getElem_of_mem hp
    have hq : (ech s n).2[l]? = some j := by rw [List.getElem?_eq_getElem hl, el]
    show Bd 257 (fv _ _ _ _ j)
    rw [fv_in E.nd hq _ hl (Nat.le_refl _)]
    have h := (rb l (Nat.lt_of_lt_of_le hl E.len)).bd (frees_lt hf)
    have e : (0 : Rat) - (ech s n).1 l f = -((ech s n).1 l f) := by grind
    rw [e]
    exact h.neg.mono (by decide)
  · show Bd 257 (fv _ _ _ _ j)
    rw [fv_out hp _ (Nat.le_refl _)]
    split
    · exact bd_one (by decide)
    · exact bd_zero (by decide)

/-! ### turned -/
def turn (s : Nat → Int) (n : Nat) : Nat → Int := fun j => s (2 * n - 2 - j)
theorem turn_sl {s : Nat → Int} {n : Nat} (S : Sl s n) : Sl (turn s n) n := ⟨S.1, S.2.1, fun j hj => S.2.2 _ (by omega)⟩
theorem turn_dot {s : Nat → Int} {n i : Nat} (hi : i < n) (v : Nat → Rat) : dot n (T (turn s n) n i) v = dot n (T s n (n - 1 - i)) (fun j => v (n - 1 - j)) := by
  unfold dot
  rw [sm_rev]
  refine sm_congr fun j hj => ?_
  unfold T turn
  rw [show 2 * n - 2 - (n - 1 + (n - 1 - j) - i) = n - 1 + j - (n - 1 - i) by omega]
theorem turn_ker {s : Nat → Int} {n : Nat} (v : Nat → Rat) : Ker n n (T (turn s n) n) v → Ker n n (T s n) (fun j => v (n - 1 - j)) := fun k i hi => by
  have := k (n - 1 - i) (by omega)
  rw [turn_dot (by omega), show n - 1 - (n - 1 - i) = i by omega] at this
  exact this
theorem turn_ker' {s : Nat → Int} {n : Nat} (v : Nat → Rat) : Ker n n (T s n) v → Ker n n (T (turn s n) n) (fun j => v (n - 1 - j)) := fun k i hi => by
  rw [turn_dot hi]
  have := k (n - 1 - i) (by omega)
  rw [← this]
  refine dot_congr (fun _ _ => rfl) fun j hj => ?_
  show v (n - 1 - (n - 1 - j)) = v j
  rw [show n - 1 - (n - 1 - j) = j by omega]
theorem turn_free (s : Nat → Int) (n : Nat) : (frees (turn s n) n).length = (frees s n).length :=
  Nat.le_antisymm (free_le fun v k => turn_ker v k) (free_le fun v k => turn_ker' v k)

/-! ### the back -/
def aug (s : Nat → Int) (n : Nat) : Mx := fun i j => if j < n then T s n i j else if j - n = i then 1 else 0
theorem aug_rb {s : Nat → Int} {n : Nat} (S : Sl s n) : ∀ i, i < n → RB 7 (n + n) (aug s n i) := fun i hi => by
  refine RB.congr (f := fun j => (((if j < n then s (n - 1 + j - i) else if j - n = i then 1 else 0) : Int) : Rat)) (rb_ints (fun j hj => ?_) (by decide)) fun j hj => ?_
  · show _ < 128
    split
    next h =>
      have := S.2.2 (n - 1 + j - i) (by omega)
      omega
    next => split <;> decide
  · unfold aug T
    split
    · rfl
    · split <;> rfl
theorem aug_dot {s : Nat → Int} {n i : Nat} (hi : i < n) (v : Nat → Rat) : dot (n + n) (aug s n i) v = dot n (T s n i) v + v (n + i) := by
  unfold dot
  rw [sm_split]
  have e1 : sm n (fun j => aug s n i j * v j) = sm n (fun j => T s n i j * v j) := sm_congr fun j hj => by unfold aug; rw [if_pos hj]
  have e2 : sm n (fun j => aug s n i (n + j) * v (n + j)) = v (n + i) := by
    rw [sm_one hi fun j hj hn => by unfold aug; rw [if_neg (by omega), if_neg (by omega)]; grind]
    unfold aug
    rw [if_neg (by omega), if_pos (by omega)]
    grind
  rw [e1, e2]
/-- a row that a column without a pivot makes noughts -/
def kv (M : Mx) (c : Nat) : Nat → Rat := fun j => if j = c then 1 else if j < c then 0 - M j c else 0
theorem kv_c {M : Mx} {c : Nat} : kv M c c = 1 := if_pos rfl
theorem kv_lt {M : Mx} {c j : Nat} (h : j < c) : kv M c j = 0 - M j c := by unfold kv; rw [if_neg (by omega), if_pos h]
theorem kv_gt {M : Mx} {c j : Nat} (h : c < j) : kv M c j = 0 := by unfold kv; rw [if_neg (by omega), if_neg (by omega)]
theorem aug_piv {s : Nat → Int} {n : Nat} (F : Full s n) : ∀ c, c ≤ n → (lin n (aug s n) c).2 = List.range c
  | 0, _ => rfl
  | c + 1, hc => by
    have ih := aug_piv F c (by omega)
    have E := lin_ech n (n + n) (aug s n) c
    show (stp n (lin n (aug s n) c) c).2 = _
    generalize lin n (aug s n) c = st at *
    obtain ⟨M, ps⟩ := st
    have ih : ps = List.range c := ih
    subst ih
    unfold stp
    cases hb : belows n (List.range c).length M c with
    | cons b r =>
      show List.range c ++ [c] = _
      rw [List.range_succ]
    | nil =>
      exfalso
      have hz := belows_nil hb
      rw [List.length_range] at hz
      have hE : ∀ k, k < c → ∀ i, i < n → M i k = if i = k then 1 else 0 := fun k hk => E.piv k k (by rw [List.getElem?_range hk])
      have hker : Ker n (n + n) M (kv M c) := fun i hi => by
        unfold dot
        by_cases h : i < c
        · rw [sm_two (k := i) (l := c) (by omega) (by omega) (by omega)]
          · rw [hE i h i hi, if_pos rfl, kv_c, kv_lt h]
            grind
          · intro j hj h1 h2
            by_cases h3 : j < c
            · rw [hE j h3 i hi, if_neg (by omega)]
              grind
            · rw [kv_gt (by omega)]
              grind
        · refine sm_zero fun j hj => ?_
          by_cases h2 : j = c
          · subst h2
            rw [hz i (by omega) hi]
            grind
          · by_cases h3 : j < c
            · rw [hE j h3 i hi, if_neg (by omega)]
              grind
            · rw [kv_gt (by omega)]
              grind
      have hk := (E.ker _).mp hker
      have := F (kv M c) (fun i hi => by
        have := hk i hi
        rw [aug_dot hi, kv_gt (by omega), Rat.add_zero] at this
        exact this) c (by omega)
      rw [kv_c] at this
      exact absurd this (by decide)
theorem lin_stay {m : Nat} {M : Mx} {c : Nat} (h : (lin m M c).2.length = m) : ∀ k, lin m M (c + k) = lin m M c
  | 0 => rfl
  | k + 1 => by
    show stp m (lin m M (c + k)) (c + k) = lin m M c
    rw [lin_stay h k]
    unfold stp
    have : belows m (lin m M c).2.length (lin m M c).1 (c + k) = [] := by
      unfold belows
      rw [h, Nat.sub_self]
      rfl
    rw [this]
/-- the elimination of the table beside the unit table -/
def bk (s : Nat → Int) (n : Nat) : Mx × List Nat := lin n (aug s n) (n + n)
/-- a column of the back -/
def bcol (s : Nat → Int) (n a : Nat) : Nat → Rat := fun i => (bk s n).1 i (n + a)
theorem bcol_bd {s : Nat → Int} {n : Nat} (S : Sl s n) {a i : Nat} (ha : a < n) (hi : i < n) : Bd 256 (bcol s n a i) :=
  (lin_rb5 S.2.1 (aug_rb S) (Nat.le_refl _) i hi).bd (by omega)
def bv (s : Nat → Int) (n a : Nat) : Nat → Rat := fun j => if j < n then bcol s n a j else if j = n + a then -1 else 0
theorem bv_lt {s : Nat → Int} {n a j : Nat} (h : j < n) : bv s n a j = bcol s n a j := if_pos h
theorem bv_at {s : Nat → Int} {n a : Nat} : bv s n a (n + a) = -1 := by unfold bv; rw [if_neg (by omega), if_pos rfl]
theorem bv_ne {s : Nat → Int} {n a j : Nat} (h : ¬ j < n) (h' : j ≠ n + a) : bv s n a j = 0 := by unfold bv; rw [if_neg h, if_neg h']
theorem bcol_ok {s : Nat → Int} {n : Nat} (F : Full s n) {a : Nat} (ha : a < n) : ∀ i, i < n → dot n (T s n i) (bcol s n a) = if i = a then 1 else 0 := by
  have E := lin_ech n (n + n) (aug s n) n
  have hp := aug_piv F n (Nat.le_refl n)
  have hb : bk s n = lin n (aug s n) n := lin_stay (by rw [hp, List.length_range]) n
  have hE : ∀ k, k < n → ∀ i, i < n → (bk s n).1 i k = if i = k then 1 else 0 := fun k hk i hi => by
    rw [hb]
    exact E.piv k k (by rw [hp, List.getElem?_range hk]) i hi
  have hk := (E.ker (bv s n a)).mp fun i hi => by
    rw [← hb]
    unfold dot
    rw [sm_two (k := i) (l := n + a) (by omega) (by omega) (by omega)]
    · rw [hE i hi i hi, if_pos rfl, bv_lt hi, bv_at]
      unfold bcol
      grind
    · intro j hj h1 h2
      by_cases h3 : j < n
      · rw [hE j h3 i hi, if_neg (by omega)]
        grind
      · rw [bv_ne h3 h2]
        grind
  intro i hi
  have := hk i hi
  rw [aug_dot hi] at this
  have e : dot n (T s n i) (bv s n a) = dot n (T s n i) (bcol s n a) := dot_congr (fun _ _ => rfl) fun j hj => bv_lt hj
  rw [e] at this
  by_cases h : i = a
  · subst h
    rw [bv_at] at this
    rw [if_pos rfl]
    generalize dot n (T s n i) (bcol s n i) = z at *
    grind
  · rw [bv_ne (by omega) (by omega), Rat.add_zero] at this
    rw [if_neg h]
    exact this
end K35
/-! Plain mathematics: strong slants, step by step. -/
namespace K35
abbrev Fn := Nat → Rat
/-- the slants of the corner of size k -/
def cor (s : Nat → Int) (n k : Nat) : Nat → Int := fun j => s (n - k + j)
theorem cor_sl {s : Nat → Int} {n k : Nat} (S : Sl s n) (h1 : 1 ≤ k) (h2 : k ≤ n) : Sl (cor s n k) k := ⟨h1, Nat.le_trans h2 S.2.1, fun j hj => S.2.2 _ (by omega)⟩
theorem cor_T {s : Nat → Int} {n k i j : Nat} (h2 : k ≤ n) (hi : i < k) : T (cor s n k) k i j = T s n i j := by
  unfold T cor
  rw [show n - k + (k - 1 + j - i) = n - 1 + j - i by omega]
theorem cor_full {s : Nat → Int} {n : Nat} : cor s n n = s := by
  funext j
  unfold cor
  rw [Nat.sub_self, Nat.zero_add]

def lowV (s : Nat → Int) (k : Nat) (f : Fn) : Rat := dot (k - 1) (fun j => (s j : Rat)) f
def highV (s : Nat → Int) (k : Nat) (l : Fn) : Rat := dot (k - 1) (fun j => (s (k + j) : Rat)) l
def begun (k : Nat) (f : Fn) : Fn := fun j => if j < k - 1 then f j else 0
def ended (l : Fn) : Fn := fun j => if j = 0 then 0 else l (j - 1)
def restV (s : Nat → Int) (k : Nat) (st : Fn × Fn) : Rat := 1 - lowV s k st.1 * highV s k st.2
def nextS (s : Nat → Int) (k : Nat) (st : Fn × Fn) : Fn × Fn :=
  (fun j => (begun k st.1 j - ended st.2 j * lowV s k st.1) * (1 / restV s k st), fun j => (ended st.2 j - begun k st.1 j * highV s k st.2) * (1 / restV s k st))
/-- the step to size k of the slants of that size -/
def stepF (s : Nat → Int) (k : Nat) (st : Fn × Fn) : Option (Fn × Fn) := if restV s k st = 0 then none else some (nextS s k st)
def firstF (s : Nat → Int) : Option (Fn × Fn) := if s 0 = 0 then none else some (fun _ => 1 / (s 0 : Rat), fun _ => 1 / (s 0 : Rat))
/-- the step of size k + 1 -/
def stepA (s : Nat → Int) (n : Nat) : Nat → Option (Fn × Fn)
  | 0 => firstF (cor s n 1)
  | k + 1 => (stepA s n k).bind (stepF (cor s n (k + 2)) (k + 2))

/-- what a step is worth: for the size k + 1 -/
structure StepOk (s : Nat → Int) (n k : Nat) (st : Fn × Fn) : Prop where
  f1 : ∀ i, i < k + 1 → dot (k + 1) (T s n i) st.1 = if i = 0 then 1 else 0
  l1 : ∀ i, i < k + 1 → dot (k + 1) (T s n i) st.2 = if i = k then 1 else 0
  f0 : st.1 0 ≠ 0
  l0 : st.2 k ≠ 0
  full : ∀ v, Ker (k + 1) (k + 1) (T s n) v → ∀ j, j < k + 1 → v j = 0

theorem first_ok {s : Nat → Int} {n : Nat} {st : Fn × Fn} (hn : 1 ≤ n) (h : stepA s n 0 = some st) : StepOk s n 0 st := by
  unfold stepA firstF at h
  split at h
  · cases h
  next h0 =>
    cases h
    have e : ((cor s n 1) 0 : Rat) = T s n 0 0 := by
      unfold cor T
      rw [show n - 1 + 0 - 0 = n - 1 + 0 by omega]
    have h0' : T s n 0 0 ≠ 0 := by
      rw [← e]
      exact cast_ne h0
    have d1 : ∀ v, dot 1 (T s n 0) v = T s n 0 0 * v 0 := fun v => by
      show 0 + T s n 0 0 * v 0 = _
      grind
    exact {
      f1 := fun i hi => by
        rw [show i = 0 by omega, d1, if_pos rfl]
        show T s n 0 0 * (1 / ((cor s n 1) 0 : Rat)) = 1
        rw [e]
        grind
      l1 := fun i hi => by
        rw [show i = 0 by omega, d1, if_pos rfl]
        show T s n 0 0 * (1 / ((cor s n 1) 0 : Rat)) = 1
        rw [e]
        grind
      f0 := by
        show 1 / ((cor s n 1) 0 : Rat) ≠ 0
        rw [e]
        grind
      l0 := by
        show 1 / ((cor s n 1) 0 : Rat) ≠ 0
        rw [e]
        grind
      full := fun v k j hj => by
        have := k 0 (by omega)
        rw [d1] at this
        rw [show j = 0 by omega]
        grind }

section
variable {s : Nat → Int} {n k : Nat} {st : Fn × Fn}
/-- the table of the next size, of the begun row -/
theorem dot_begun (S : StepOk s n k st) (hk : k + 2 ≤ n) : ∀ i, i < k + 2 → dot (k + 2) (T s n i) (begun (k + 2) st.1) = if i = 0 then 1 else if i = k + 1 then lowV (cor s n (k + 2)) (k + 2) st.1 else 0 := by
  intro i hi
  have e : dot (k + 2) (T s n i) (begun (k + 2) st.1) = dot (k + 1) (T s n i) st.1 := by
    unfold dot
    rw [sm_trim (n := k + 2) (k := k + 1) (by omega) fun j h1 h2 => by
      unfold begun
      rw [if_neg (by omega)]
      grind]
    exact sm_congr fun j hj => by
      unfold begun
      rw [if_pos (by omega)]
  rw [e]
  by_cases h : i = k + 1
  · subst h
    rw [if_neg (by omega), if_pos rfl]
    unfold lowV
    refine dot_congr (fun j hj => ?_) fun _ _ => rfl
    unfold T cor
    rw [show n - 1 + j - (k + 1) = n - (k + 2) + j by omega]
  · rw [S.f1 i (by omega)]
    split
    · rfl
    · rfl
theorem dot_ended (S : StepOk s n k st) (hk : k + 2 ≤ n) : ∀ i, i < k + 2 → dot (k + 2) (T s n i) (ended st.2) = if i = 0 then highV (cor s n (k + 2)) (k + 2) st.2 else if i = k + 1 then 1 else 0 := by
  intro i hi
  have e : dot (k + 2) (T s n i) (ended st.2) = dot (k + 1) (fun j => T s n i (j + 1)) st.2 := by
    unfold dot
    rw [sm_head]
    show T s n i 0 * 0 + _ = _
    have : sm (k + 1) (fun j => T s n i (j + 1) * ended st.2 (j + 1)) = sm (k + 1) (fun j => T s n i (j + 1) * st.2 j) := sm_congr fun j hj => by
      unfold ended
      rw [if_neg (by omega), Nat.add_sub_cancel]
    rw [this]
    grind
  rw [e]
  by_cases h : i = 0
  · subst h
    rw [if_pos rfl]
    unfold highV
    refine dot_congr (fun j hj => ?_) fun _ _ => rfl
    unfold T cor
    rw [show n - 1 + (j + 1) - 0 = n - (k + 2) + (k + 2 + j) by omega]
  · have e2 : dot (k + 1) (fun j => T s n i (j + 1)) st.2 = dot (k + 1) (T s n (i - 1)) st.2 := dot_congr (fun j hj => by
      unfold T
      rw [show n - 1 + (j + 1) - i = n - 1 + j - (i - 1) by omega]) fun _ _ => rfl
    rw [e2, S.l1 (i - 1) (by omega), if_neg h]
    by_cases h2 : i = k + 1
    · rw [if_pos (by omega), if_pos h2]
    · rw [if_neg (by omega), if_neg h2]
theorem dot_lin {n : Nat} {r a b : Nat → Rat} {c d : Rat} : dot n r (fun j => (a j - b j * c) * d) = (dot n r a - dot n r b * c) * d := by
  unfold dot
  rw [← sm_mulr, ← sm_sub, ← sm_mulr]
  exact sm_congr fun j _ => by grind
theorem dot_lin1 {n : Nat} {r a b : Nat → Rat} {c : Rat} : dot n r (fun j => a j - b j * c) = dot n r a - dot n r b * c := by
  unfold dot
  rw [← sm_mulr, ← sm_sub]
  exact sm_congr fun j _ => by grind
theorem next_ok (S : StepOk s n k st) (hk : k + 2 ≤ n) (hr : restV (cor s n (k + 2)) (k + 2) st ≠ 0) : StepOk s n (k + 1) (nextS (cor s n (k + 2)) (k + 2) st) := by
  have hb := dot_begun S hk
  have he := dot_ended S hk
  have hre : restV (cor s n (k + 2)) (k + 2) st = 1 - lowV (cor s n (k + 2)) (k + 2) st.1 * highV (cor s n (k + 2)) (k + 2) st.2 := rfl
  have f1 : ∀ i, i < k + 2 → dot (k + 2) (T s n i) (nextS (cor s n (k + 2)) (k + 2) st).1 = if i = 0 then 1 else 0 := fun i hi => by
    show dot (k + 2) (T s n i) (fun j => (begun (k + 2) st.1 j - ended st.2 j * lowV (cor s n (k + 2)) (k + 2) st.1) * (1 / restV (cor s n (k + 2)) (k + 2) st)) = _
    rw [dot_lin, hb i hi, he i hi]
    generalize lowV (cor s n (k + 2)) (k + 2) st.1 = lo at *
    generalize highV (cor s n (k + 2)) (k + 2) st.2 = hi' at *
    generalize restV (cor s n (k + 2)) (k + 2) st = re at *
    by_cases h : i = 0
    · rw [if_pos h, if_pos h, if_pos h]
      grind
    · rw [if_neg h, if_neg h, if_neg h]
      split <;> grind
  have l1 : ∀ i, i < k + 2 → dot (k + 2) (T s n i) (nextS (cor s n (k + 2)) (k + 2) st).2 = if i = k + 1 then 1 else 0 := fun i hi => by
    show dot (k + 2) (T s n i) (fun j => (ended st.2 j - begun (k + 2) st.1 j * highV (cor s n (k + 2)) (k + 2) st.2) * (1 / restV (cor s n (k + 2)) (k + 2) st)) = _
    rw [dot_lin, hb i hi, he i hi]
    generalize lowV (cor s n (k + 2)) (k + 2) st.1 = lo at *
    generalize highV (cor s n (k + 2)) (k + 2) st.2 = hi' at *
    generalize restV (cor s n (k + 2)) (k + 2) st = re at *
    by_cases h : i = 0
    · rw [if_pos h, if_pos h, if_neg (by omega)]
      grind
    · rw [if_neg h, if_neg h]
      split <;> grind
  have l0 : (nextS (cor s n (k + 2)) (k + 2) st).2 (k + 1) ≠ 0 := by
    show (ended st.2 (k + 1) - begun (k + 2) st.1 (k + 1) * highV (cor s n (k + 2)) (k + 2) st.2) * (1 / restV (cor s n (k + 2)) (k + 2) st) ≠ 0
    unfold ended begun
    rw [if_neg (by omega), if_neg (by omega), Nat.add_sub_cancel]
    have := S.l0
    generalize highV (cor s n (k + 2)) (k + 2) st.2 = hi' at *
    generalize restV (cor s n (k + 2)) (k + 2) st = re at *
    grind
  exact {
    f1 := f1
    l1 := l1
    f0 := by
      show (begun (k + 2) st.1 0 - ended st.2 0 * lowV (cor s n (k + 2)) (k + 2) st.1) * (1 / restV (cor s n (k + 2)) (k + 2) st) ≠ 0
      unfold ended begun
      rw [if_pos (by omega), if_pos rfl]
      have := S.f0
      generalize lowV (cor s n (k + 2)) (k + 2) st.1 = lo at *
      generalize restV (cor s n (k + 2)) (k + 2) st = re at *
      grind
    l0 := l0
    full := fun v hv j hj => by
      generalize nextS (cor s n (k + 2)) (k + 2) st = nw at *
      -- what v is less its last share times the last row
      have hz : ∀ i, i < k + 1 → (fun j => v j - nw.2 j * (v (k + 1) / nw.2 (k + 1))) i = 0 := S.full _ fun i hi => by
        have e : dot (k + 1) (T s n i) (fun j => v j - nw.2 j * (v (k + 1) / nw.2 (k + 1))) = dot (k + 2) (T s n i) (fun j => v j - nw.2 j * (v (k + 1) / nw.2 (k + 1))) := by
          show _ = dot (k + 1) _ _ + T s n i (k + 1) * (v (k + 1) - nw.2 (k + 1) * (v (k + 1) / nw.2 (k + 1)))
          have : v (k + 1) - nw.2 (k + 1) * (v (k + 1) / nw.2 (k + 1)) = 0 := by grind
          rw [this, Rat.mul_zero, Rat.add_zero]
        rw [e, dot_lin1, hv i (by omega), l1 i (by omega), if_neg (by omega)]
        grind
      have h1 := hv (k + 1) (by omega)
      have h2 : dot (k + 2) (T s n (k + 1)) v = dot (k + 2) (T s n (k + 1)) nw.2 * (v (k + 1) / nw.2 (k + 1)) := by
        have e : dot (k + 2) (T s n (k + 1)) v - dot (k + 2) (T s n (k + 1)) nw.2 * (v (k + 1) / nw.2 (k + 1)) = 0 := by
          rw [← dot_lin1]
          refine sm_zero fun j hj => ?_
          show T s n (k + 1) j * (v j - nw.2 j * (v (k + 1) / nw.2 (k + 1))) = 0
          by_cases h : j < k + 1
          · have : v j - nw.2 j * (v (k + 1) / nw.2 (k + 1)) = 0 := hz j h
            rw [this]
            grind
          · rw [show j = k + 1 by omega]
            grind
        grind
      have h1' : dot (k + 2) (T s n (k + 1)) v = 0 := h1
      rw [h1', l1 (k + 1) (by omega), if_pos rfl] at h2
      have h3 : v (k + 1) = 0 := by grind
      by_cases h : j < k + 1
      · have : v j - nw.2 j * (v (k + 1) / nw.2 (k + 1)) = 0 := hz j h
        rw [h3] at this
        grind
      · rw [show j = k + 1 by omega]
        exact h3 }
/-- where the rest is 0 the corner is not full -/
theorem rest_zero (S : StepOk s n k st) (hk : k + 2 ≤ n) (hr : restV (cor s n (k + 2)) (k + 2) st = 0) : ∃ v, Ker (k + 2) (k + 2) (T s n) v ∧ v 0 ≠ 0 := by
  have hb := dot_begun S hk
  have he := dot_ended S hk
  refine ⟨fun j => begun (k + 2) st.1 j - ended st.2 j * lowV (cor s n (k + 2)) (k + 2) st.1, fun i hi => ?_, ?_⟩
  · rw [dot_lin1, hb i hi, he i hi]
    have hre : restV (cor s n (k + 2)) (k + 2) st = 1 - lowV (cor s n (k + 2)) (k + 2) st.1 * highV (cor s n (k + 2)) (k + 2) st.2 := rfl
    generalize lowV (cor s n (k + 2)) (k + 2) st.1 = lo at *
    generalize highV (cor s n (k + 2)) (k + 2) st.2 = hi' at *
    split
    · grind
    · split <;> grind
  · show begun (k + 2) st.1 0 - ended st.2 0 * _ ≠ 0
    unfold begun ended
    rw [if_pos (by omega), if_pos rfl]
    have := S.f0
    generalize lowV (cor s n (k + 2)) (k + 2) st.1 = lo at *
    grind
end
theorem step_ok {s : Nat → Int} {n : Nat} : ∀ {k : Nat} {st : Fn × Fn}, k + 1 ≤ n → stepA s n k = some st → StepOk s n k st
  | 0, _, hk, h => first_ok hk h
  | k + 1, st, hk, h => by
    unfold stepA at h
    cases e : stepA s n k with
    | none => rw [e] at h; cases h
    | some st0 =>
      rw [e] at h
      have h : stepF (cor s n (k + 2)) (k + 2) st0 = some st := h
      unfold stepF at h
      split at h
      · cases h
      next hr =>
        cases h
        exact next_ok (step_ok (by omega) e) hk hr
theorem ker_cor {s : Nat → Int} {n k : Nat} (hk : k ≤ n) (v : Nat → Rat) : Ker k k (T (cor s n k) k) v ↔ Ker k k (T s n) v := by
  have e : ∀ i, i < k → dot k (T (cor s n k) k i) v = dot k (T s n i) v := fun i hi => dot_congr (fun j _ => cor_T hk hi) fun _ _ => rfl
  exact ⟨fun h i hi => (e i hi).symm.trans (h i hi), fun h i hi => (e i hi).trans (h i hi)⟩
/-- a corner that a step reaches is full -/
theorem step_full {s : Nat → Int} {n k : Nat} {st : Fn × Fn} (hk : k + 1 ≤ n) (h : stepA s n k = some st) : Full (cor s n (k + 1)) (k + 1) := fun v hv =>
  (step_ok hk h).full v ((ker_cor hk v).mp hv)
/-- the first that none reaches is not -/
theorem step_weak {s : Nat → Int} {n k : Nat} (hk : k + 1 ≤ n) (h : stepA s n k = none) (h' : ∀ l, l < k → (stepA s n l).isSome = true) : ¬ Full (cor s n (k + 1)) (k + 1) := fun F => by
  cases k with
  | zero =>
    unfold stepA firstF at h
    split at h
    next h0 =>
      have := F (fun _ => 1) (fun i hi => by
        rw [show i = 0 by omega]
        show 0 + T (cor s n 1) 1 0 0 * 1 = 0
        unfold T
        rw [show 1 - 1 + 0 - 0 = 0 by omega, h0]
        have : ((0 : Int) : Rat) = 0 := rfl
        grind) 0 (by omega)
      exact absurd this (by decide)
    · cases h
  | succ k =>
    have h1 := h' k (by omega)
    cases e : stepA s n k with
    | none => rw [e] at h1; cases h1
    | some st =>
      unfold stepA at h
      rw [e] at h
      have h : stepF (cor s n (k + 2)) (k + 2) st = none := h
      unfold stepF at h
      split at h
      next hr =>
        obtain ⟨v, hv, h0⟩ := rest_zero (step_ok (by omega) e) hk hr
        exact h0 (F v ((ker_cor hk v).mpr hv) 0 (by omega))
      · cases h
/-- how many steps there are among the first i -/
def runs (s : Nat → Int) (n : Nat) : Nat → Nat
  | 0 => 0
  | i + 1 => if runs s n i = i ∧ (stepA s n i).isSome = true then i + 1 else runs s n i
def many (s : Nat → Int) (n : Nat) : Nat := runs s n n
theorem runs_le (s : Nat → Int) (n : Nat) : ∀ i, runs s n i ≤ i
  | 0 => Nat.le_refl _
  | i + 1 => by
    have := runs_le s n i
    unfold runs
    split <;> omega
theorem runs_some {s : Nat → Int} {n : Nat} : ∀ {i : Nat}, ∀ l, l < runs s n i → (stepA s n l).isSome = true
  | 0, l, h => by unfold runs at h; omega
  | i + 1, l, h => by
    unfold runs at h
    split at h
    next c =>
      by_cases e : l = i
      · rw [e]; exact c.2
      · exact runs_some (i := i) l (by omega)
    next => exact runs_some (i := i) l h
theorem runs_stop {s : Nat → Int} {n : Nat} : ∀ {i : Nat}, runs s n i < i → stepA s n (runs s n i) = none
  | 0, h => by omega
  | i + 1, h => by
    have hl := runs_le s n i
    unfold runs at h ⊢
    split at h
    next c => omega
    next c =>
      rw [if_neg c]
      by_cases e : runs s n i = i
      · cases q : stepA s n i with
        | none => rw [e]; exact q
        | some z => exact absurd ⟨e, by rw [q]; rfl⟩ c
      · exact runs_stop (i := i) (by omega)
theorem runs_all {s : Nat → Int} {n : Nat} : ∀ {i : Nat}, (∀ l, l < i → (stepA s n l).isSome = true) → runs s n i = i
  | 0, _ => rfl
  | i + 1, h => by
    unfold runs
    rw [if_pos ⟨runs_all fun l hl => h l (by omega), h i (by omega)⟩]
theorem runs_end {s : Nat → Int} {n i : Nat} (h : runs s n i < i) : ∀ k, runs s n (i + k) = runs s n i
  | 0 => rfl
  | k + 1 => by
    show runs s n (i + k + 1) = _
    have ih := runs_end h k
    show (if runs s n (i + k) = i + k ∧ _ then _ else runs s n (i + k)) = _
    rw [if_neg (fun z => by omega), ih]
theorem many_at {s : Nat → Int} {n k : Nat} (hk : k < n) (h : ∀ l, l < k → (stepA s n l).isSome = true) (h0 : stepA s n k = none) : many s n = k := by
  have e1 : runs s n k = k := runs_all h
  have e2 : runs s n (k + 1) = k := by
    unfold runs
    rw [if_neg (fun z => by rw [h0] at z; cases z.2), e1]
  have := runs_end (s := s) (n := n) (i := k + 1) (by omega) (n - (k + 1))
  rw [show k + 1 + (n - (k + 1)) = n by omega, e2] at this
  exact this

/-! ### bits of the steps -/
def sb : Nat → Nat
  | 0 => 6
  | k + 1 => 2 * sb k + 19
theorem p2 {N : Nat} : (2 : Nat) ^ (N + 1) = 2 * 2 ^ N := by rw [Nat.pow_succ, Nat.mul_comm]
/-- a sum of ints below 64 times tops over one bottom -/
theorem sum_rb {s : Nat → Int} {f : Fn} {d : Int} {N w : Nat} (hs : ∀ j, j < w → (s j).natAbs < 2 ^ 6) (hv : ∀ j, j < w → ∃ v : Int, v.natAbs < 2 ^ N ∧ f j * (d : Rat) = (v : Rat)) :
    ∃ L : Int, L.natAbs ≤ w * 2 ^ (N + 6) ∧ dot w (fun j => (s j : Rat)) f * (d : Rat) = (L : Rat) := by
  induction w with
  | zero => exact ⟨0, by simp, by show (0 : Rat) * d = 0; grind⟩
  | succ w ih =>
    obtain ⟨L, h1, e1⟩ := ih (fun j hj => hs j (by omega)) fun j hj => hv j (by omega)
    obtain ⟨v, h2, e2⟩ := hv w (by omega)
    refine ⟨L + s w * v, ?_, ?_⟩
    · refine Nat.le_trans nat_add_le ?_
      rw [Int.natAbs_mul, Nat.succ_mul]
      have := p_mul (hs w (by omega)) h2
      rw [Nat.add_comm 6 N] at this
      omega
    · show (dot w _ f + (s w : Rat) * f w) * (d : Rat) = _
      rw [Rat.intCast_add, Rat.intCast_mul, ← e1, ← e2]
      grind
theorem alg2 {v u L d h E : Rat} {b l lo hi r : Rat} (hd : d ≠ 0) (he : E ≠ 0) (e1 : b * d = v) (e2 : l * E = u) (e3 : lo * d = L) (e4 : hi * E = h) (e5 : r = 1 - lo * hi) (hr : r ≠ 0) :
    (b - l * lo) * (1 / r) * (d * E - L * h) = v * E - u * L := by
  have x : d * E - L * h = r * (d * E) := by rw [← e3, ← e4, e5]; grind
  rw [x]
  have : (b - l * lo) * (1 / r) * (r * (d * E)) = (b - l * lo) * (d * E) := by grind
  rw [this, ← e1, ← e2, ← e3]
  grind
theorem stepA_rb {s : Nat → Int} {n : Nat} (S : Sl s n) : ∀ {k : Nat} {st : Fn × Fn}, k + 1 ≤ n → stepA s n k = some st → RB (sb k) (k + 1) st.1 ∧ RB (sb k) (k + 1) st.2
  | 0, _, hk, h => by
    unfold stepA firstF at h
    split at h
    · cases h
    next h0 =>
      cases h
      have hc := (cor_sl S (k := 1) (by omega) hk).2.2 0 (by omega)
      have : RB (sb 0) (0 + 1) (fun _ => 1 / (cor s n 1 0 : Rat)) := ⟨cor s n 1 0, h0, by show _ < 64; omega, fun j _ => ⟨1, by show 1 < 64; decide, by
        have := cast_ne h0
        show 1 / (cor s n 1 0 : Rat) * (cor s n 1 0 : Rat) = 1
        grind⟩⟩
      exact ⟨this, this⟩
  | k + 1, st, hk, h => by
    unfold stepA at h
    cases e : stepA s n k with
    | none => rw [e] at h; cases h
    | some st0 =>
      rw [e] at h
      have h : stepF (cor s n (k + 2)) (k + 2) st0 = some st := h
      unfold stepF at h
      split at h
      · cases h
      next hr =>
        cases h
        obtain ⟨⟨d, hd0, hd, hv⟩, ⟨E, he0, he, hu⟩⟩ := stepA_rb S (by omega) e
        have hC := (cor_sl S (k := k + 2) (by omega) hk).2.2
        obtain ⟨L, hL, eL⟩ := sum_rb (w := k + 1) (s := cor s n (k + 2)) (f := st0.1) (d := d) (N := sb k) (fun j hj => by have := hC j (by omega); show _ < 64; omega) hv
        obtain ⟨h', hh, eh⟩ := sum_rb (w := k + 1) (s := fun j => cor s n (k + 2) (k + 2 + j)) (f := st0.2) (d := E) (N := sb k) (fun j hj => by have := hC (k + 2 + j) (by omega); show _ < 64; omega) hu
        have eL : lowV (cor s n (k + 2)) (k + 2) st0.1 * (d : Rat) = (L : Rat) := eL
        have eh : highV (cor s n (k + 2)) (k + 2) st0.2 * (E : Rat) = (h' : Rat) := eh
        have hk5 : k + 2 ≤ 5 := Nat.le_trans hk S.2.1
        have h4 : (k + 1) * 2 ^ (sb k + 6) < 2 ^ (sb k + 9) := by
          have : (2 : Nat) ^ (sb k + 9) = 8 * 2 ^ (sb k + 6) := by rw [show sb k + 9 = sb k + 6 + 3 by omega, Nat.pow_add 2 (sb k + 6) 3, Nat.mul_comm]
          rw [this]
          exact Nat.mul_lt_mul_of_pos_right (by omega) (p_pos _)
        have hL8 : L.natAbs < 2 ^ (sb k + 9) := Nat.lt_of_le_of_lt hL h4
        have hH8 : h'.natAbs < 2 ^ (sb k + 9) := Nat.lt_of_le_of_lt hh h4
        have e5 : restV (cor s n (k + 2)) (k + 2) st0 = 1 - lowV (cor s n (k + 2)) (k + 2) st0.1 * highV (cor s n (k + 2)) (k + 2) st0.2 := rfl
        have hda := cast_ne hd0
        have hea := cast_ne he0
        have hR : d * E - L * h' ≠ 0 := fun z => by
          have : ((d * E - L * h' : Int) : Rat) = restV (cor s n (k + 2)) (k + 2) st0 * ((d : Rat) * (E : Rat)) := by
            rw [Rat.intCast_sub, Rat.intCast_mul, Rat.intCast_mul, ← eL, ← eh, e5]
            grind
          rw [z] at this
          have z0 : ((0 : Int) : Rat) = 0 := rfl
          rw [z0] at this
          have hr' : restV (cor s n (k + 2)) (k + 2) st0 ≠ 0 := hr
          rcases Rat.mul_eq_zero.mp this.symm with q | q
          · exact hr' q
          · rcases Rat.mul_eq_zero.mp q with q | q
            · exact hda q
            · exact hea q
        have hRb : (d * E - L * h').natAbs < 2 ^ sb (k + 1) := by
          show _ < 2 ^ (2 * sb k + 19)
          rw [Int.sub_eq_add_neg]
          refine Nat.lt_of_le_of_lt nat_add_le ?_
          rw [Int.natAbs_neg, Int.natAbs_mul, Int.natAbs_mul]
          exact p_add (A := 2 * sb k + 18) (p_le (p_mul hd he) (by omega)) (p_le (p_mul hL8 hH8) (by omega)) (by omega)
        -- a begun row's top, an ended one's
        have hB : ∀ j, j < k + 2 → ∃ v : Int, v.natAbs < 2 ^ sb k ∧ begun (k + 2) st0.1 j * (d : Rat) = (v : Rat) := fun j hj => by
          unfold begun
          split
          next h => exact hv j (by omega)
          next => exact ⟨0, p_pos _, by show (0 : Rat) * d = 0; grind⟩
        have hEn : ∀ j, j < k + 2 → ∃ v : Int, v.natAbs < 2 ^ sb k ∧ ended st0.2 j * (E : Rat) = (v : Rat) := fun j hj => by
          unfold ended
          split
          next => exact ⟨0, p_pos _, by show (0 : Rat) * E = 0; grind⟩
          next h => exact hu (j - 1) (by omega)
        constructor
        · refine ⟨d * E - L * h', hR, hRb, fun j hj => ?_⟩
          obtain ⟨v, v1, v2⟩ := hB j hj
          obtain ⟨u, u1, u2⟩ := hEn j hj
          refine ⟨v * E - u * L, ?_, ?_⟩
          · show _ < 2 ^ (2 * sb k + 19)
            rw [Int.sub_eq_add_neg]
            refine Nat.lt_of_le_of_lt nat_add_le ?_
            rw [Int.natAbs_neg, Int.natAbs_mul, Int.natAbs_mul]
            exact p_add (A := 2 * sb k + 18) (p_le (p_mul v1 he) (by omega)) (p_le (p_mul u1 hL8) (by omega)) (by omega)
          · rw [Rat.intCast_sub, Rat.intCast_sub, Rat.intCast_mul, Rat.intCast_mul, Rat.intCast_mul, Rat.intCast_mul]
            exact alg2 hda hea v2 u2 eL eh e5 hr
        · refine ⟨d * E - L * h', hR, hRb, fun j hj => ?_⟩
          obtain ⟨v, v1, v2⟩ := hB j hj
          obtain ⟨u, u1, u2⟩ := hEn j hj
          refine ⟨u * d - v * h', ?_, ?_⟩
          · show _ < 2 ^ (2 * sb k + 19)
            rw [Int.sub_eq_add_neg]
            refine Nat.lt_of_le_of_lt nat_add_le ?_
            rw [Int.natAbs_neg, Int.natAbs_mul, Int.natAbs_mul]
            exact p_add (A := 2 * sb k + 18) (p_le (p_mul u1 hd) (by omega)) (p_le (p_mul v1 hH8) (by omega)) (by omega)
          · rw [Rat.intCast_sub, Rat.intCast_sub, Rat.intCast_mul, Rat.intCast_mul, Rat.intCast_mul, Rat.intCast_mul]
            have := alg2 hea hda u2 v2 eh eL (show restV (cor s n (k + 2)) (k + 2) st0 = 1 - highV (cor s n (k + 2)) (k + 2) st0.2 * lowV (cor s n (k + 2)) (k + 2) st0.1 by rw [e5]; grind) hr
            rw [← this]
            show _ = (ended st0.2 j - begun (k + 2) st0.1 j * highV (cor s n (k + 2)) (k + 2) st0.2) * (1 / restV (cor s n (k + 2)) (k + 2) st0) * _
            show (ended st0.2 j - begun (k + 2) st0.1 j * highV (cor s n (k + 2)) (k + 2) st0.2) * (1 / restV (cor s n (k + 2)) (k + 2) st0) * _ = _
            grind
theorem sb5 {k : Nat} (h : k ≤ 4) : sb k ≤ 400 := by
  match k, h with
  | 0, _ => decide
  | 1, _ => decide
  | 2, _ => decide
  | 3, _ => decide
  | 4, _ => decide
theorem stepA_bd {s : Nat → Int} {n k : Nat} {st : Fn × Fn} (S : Sl s n) (hk : k + 1 ≤ n) (h : stepA s n k = some st) : ∀ j, j < k + 1 → Bd 400 (st.1 j) ∧ Bd 400 (st.2 j) := fun j hj => by
  obtain ⟨a, b⟩ := stepA_rb S hk h
  have h5 := S.2.1
  exact ⟨(a.bd hj).mono (sb5 (by omega)), (b.bd hj).mono (sb5 (by omega))⟩
end K35
/-! Readings by data: what a piece of the text makes of slots of which the data are known. -/
namespace K35
open PySem PySem.Spec PyProof.Rows L2 Evl

/-! ### data that stand in a heap -/
/-- all but lists is as it was -/
def Tx (H H' : Hp) : Prop := ∀ b o, H b = some o → (∀ xs, o ≠ .lst xs) → H' b = some o
theorem Tx.of {H H' : Hp} (e : Ex H H') : Tx H H' := fun b o h _ => e b o h
theorem Tx.trans {H H1 H2 : Hp} (a : Tx H H1) (b : Tx H1 H2) : Tx H H2 := fun x o h n => b x o (a x o h n) n
theorem Tx.put {H : Hp} {l : Addr} {xs ys : List V} (h : H l = some (.lst xs)) : Tx H (upd H l (.lst ys)) := fun b o hb n => by
  by_cases e : b = l
  · subst e
    rw [h] at hb
    cases hb
    exact absurd rfl (n xs)
  · rw [upd_ne e]
    exact hb
/-- no list within -/
def noL : PyData → Bool
  | .tuple ds => noLs ds
  | .list _ => false
  | .dict _ => false
  | _ => true
where noLs : List PyData → Bool
  | [] => true
  | d :: ds => noL d && noLs ds
section
variable {K : PySem.W.Frag}
theorem sqt_tx {H H' : Hp} {a : Addr} {xs : List V} (e : Tx H H') (h : SqT K H a xs) : SqT K H' a xs := by
  rcases h with (h | ⟨o, h⟩) | h
  · exact .inl (.inl (e _ _ h fun _ z => nomatch z))
  · exact .inl (.inr ⟨o, e _ _ h fun _ z => nomatch z⟩)
  · exact .inr h
mutual
theorem dp_ex {H H' : Hp} (e : Ex H H') : ∀ (d : PyData) (v : V), Dp K H v d → Dp K H' v d
  | .none, _, h => by cases h; exact .non
  | .bool b, _, h => by cases h; exact .bl b
  | .int i, _, h => by cases h; exact .int i
  | .str x, _, h => by cases h; exact .str x
  | .list ds, _, h => by
    cases h with
    | lst hs ha => exact .lst (ex_l e hs) (dpa_ex e ds _ ha)
  | .tuple ds, _, h => by
    cases h with
    | tup hs ha => exact .tup (ex_t e hs) (dpa_ex e ds _ ha)
  | .dict _, _, h => by cases h
theorem dpa_ex {H H' : Hp} (e : Ex H H') : ∀ (ds : List PyData) (vs : List V), DpAll K H vs ds → DpAll K H' vs ds
  | [], _, h => by cases h; exact .nil
  | d :: ds, _, h => by
    cases h with
    | cons h1 h2 => exact .cons (dp_ex e d _ h1) (dpa_ex e ds _ h2)
end
mutual
theorem dp_tx {H H' : Hp} (e : Tx H H') : ∀ (d : PyData) (v : V), noL d = true → Dp K H v d → Dp K H' v d
  | .none, _, _, h => by cases h; exact .non
  | .bool b, _, _, h => by cases h; exact .bl b
  | .int i, _, _, h => by cases h; exact .int i
  | .str x, _, _, h => by cases h; exact .str x
  | .list ds, _, n, h => by unfold noL at n; cases n
  | .tuple ds, _, n, h => by
    cases h with
    | tup hs ha => exact .tup (sqt_tx e hs) (dpa_tx e ds _ (by unfold noL at n; exact n) ha)
  | .dict _, _, _, h => by cases h
theorem dpa_tx {H H' : Hp} (e : Tx H H') : ∀ (ds : List PyData) (vs : List V), noL.noLs ds = true → DpAll K H vs ds → DpAll K H' vs ds
  | [], _, _, h => by cases h; exact .nil
  | d :: ds, _, n, h => by
    unfold noL.noLs at n
    obtain ⟨n1, n2⟩ := Bool.and_eq_true_iff.mp n
    cases h with
    | cons h1 h2 => exact .cons (dp_tx e d _ n1 h1) (dpa_tx e ds _ n2 h2)
end
theorem noLs_all : ∀ {ds : List PyData}, (∀ d, d ∈ ds → noL d = true) → noL.noLs ds = true
  | [], _ => rfl
  | d :: ds, h => by
    unfold noL.noLs
    rw [h d List.mem_cons_self, noLs_all fun x hx => h x (List.mem_cons_of_mem _ hx)]
    rfl
theorem noL_map {n : Nat} {f : Nat → PyData} (h : ∀ i, i < n → noL (f i) = true) : noL.noLs ((List.range n).map f) = true := noLs_all fun d hd => by
  obtain ⟨i, hi, rfl⟩ := List.mem_map.mp hd
  exact h i (List.mem_range.mp hi)
variable {H : Hp} {v w' : V} {vs ws : List V} {d : PyData} {ds es : List PyData}
theorem dp_int {i : Int} (h : Dp K H v (.int i)) : v = .int i := by cases h; rfl
theorem dp_bl {b : Bool} (h : Dp K H v (.bool b)) : v = .bl b := by cases h; rfl
theorem dp_str {x : Str} (h : Dp K H v (.str x)) : v = .str x := by cases h; rfl
theorem dp_non (h : Dp K H v .none) : v = .non := by cases h; rfl
theorem dp_tup (h : Dp K H v (.tuple ds)) : ∃ a xs, v = .ref a ∧ SqT K H a xs ∧ DpAll K H xs ds := by
  cases h with
  | tup hs ha => exact ⟨_, _, rfl, hs, ha⟩
theorem dp_lst (h : Dp K H v (.list ds)) : ∃ a xs, v = .ref a ∧ SqL K H a xs ∧ DpAll K H xs ds := by
  cases h with
  | lst hs ha => exact ⟨_, _, rfl, hs, ha⟩
theorem dpa_len : ∀ {vs : List V} {ds : List PyData}, DpAll K H vs ds → vs.length = ds.length
  | _, _, .nil => rfl
  | _, _, .cons _ t => congrArg (· + 1) (dpa_len t)
theorem dpa_get : ∀ {vs : List V} {ds : List PyData} {i : Nat} {d : PyData}, DpAll K H vs ds → ds[i]? = some d → ∃ v, vs[i]? = some v ∧ Dp K H v d
  | _, _, _, _, .nil, e => by simp at e
  | _, _, 0, d, .cons h _, e => by
    simp at e
    subst e
    exact ⟨_, rfl, h⟩
  | _, _, i + 1, d, .cons _ t, e => by
    obtain ⟨v, h1, h2⟩ := dpa_get (i := i) t (by simpa using e)
    exact ⟨v, by simpa using h1, h2⟩
theorem dpa_get' : ∀ {vs : List V} {ds : List PyData} {i : Nat} {v : V}, DpAll K H vs ds → vs[i]? = some v → ∃ d, ds[i]? = some d ∧ Dp K H v d
  | _, _, _, _, .nil, e => by simp at e
  | _, _, 0, v, .cons h _, e => by
    simp at e
    subst e
    exact ⟨_, rfl, h⟩
  | _, _, i + 1, v, .cons _ t, e => by
    obtain ⟨d, h1, h2⟩ := dpa_get' (i := i) t (by simpa using e)
    exact ⟨d, by simpa using h1, h2⟩
theorem dpa_of_get : ∀ {vs : List V} {ds : List PyData}, vs.length = ds.length → (∀ (i : Nat) v d, vs[i]? = some v → ds[i]? = some d → Dp K H v d) → DpAll K H vs ds
  | [], [], _, _ => .nil
  | [], _ :: _, h, _ => by simp at h
  | _ :: _, [], h, _ => by simp at h
  | v :: vs, d :: ds, h, g => .cons (g 0 v d rfl rfl) (dpa_of_get (by simpa using h) fun i v d h1 h2 => g (i + 1) v d (by simpa using h1) (by simpa using h2))
theorem _root_.L2.DpAll.len (h : DpAll K H vs ds) : vs.length = ds.length := dpa_len h
theorem _root_.L2.DpAll.get {i : Nat} (h : DpAll K H vs ds) (e : ds[i]? = some d) : ∃ v, vs[i]? = some v ∧ Dp K H v d := dpa_get h e
theorem _root_.L2.DpAll.get' {i : Nat} (h : DpAll K H vs ds) (e : vs[i]? = some v) : ∃ d, ds[i]? = some d ∧ Dp K H v d := dpa_get' h e
theorem _root_.L2.DpAll.of_get (hl : vs.length = ds.length) (h : ∀ (i : Nat) v d, vs[i]? = some v → ds[i]? = some d → Dp K H v d) : DpAll K H vs ds := dpa_of_get hl h
theorem _root_.L2.DpAll.app (h : DpAll K H vs ds) (h' : DpAll K H ws es) : DpAll K H (vs ++ ws) (ds ++ es) := by
  induction vs generalizing ds with
  | nil => cases h; exact h'
  | cons v vs ih =>
    cases h with
    | cons h1 h2 => exact .cons h1 (ih h2)
theorem _root_.L2.DpAll.snoc (h : DpAll K H vs ds) (h' : Dp K H v d) : DpAll K H (vs ++ [v]) (ds ++ [d]) := h.app (.cons h' .nil)
theorem _root_.L2.DpAll.set (h : DpAll K H vs ds) (h' : Dp K H v d) (i : Nat) : DpAll K H (vs.set i v) (ds.set i d) := by
  refine DpAll.of_get (by rw [List.length_set, List.length_set, h.len]) fun j x e h1 h2 => ?_
  rw [List.getElem?_set] at h1 h2
  by_cases hij : i = j
  · subst hij
    rw [if_pos rfl] at h1 h2
    split at h1
    · split at h2
      · cases h1; cases h2; exact h'
      · cases h2
    · cases h1
  · rw [if_neg hij] at h1 h2
    obtain ⟨y, h3, h4⟩ := h.get h2
    rw [h1] at h3
    cases h3
    exact h4
theorem _root_.L2.DpAll.take (h : DpAll K H vs ds) (n : Nat) : DpAll K H (vs.take n) (ds.take n) := by
  induction vs generalizing ds n with
  | nil => cases h; simp; exact .nil
  | cons v vs ih =>
    cases h with
    | cons h1 h2 =>
      cases n with
      | zero => exact .nil
      | succ n => exact .cons h1 (ih h2 n)
theorem _root_.L2.DpAll.drop (h : DpAll K H vs ds) (n : Nat) : DpAll K H (vs.drop n) (ds.drop n) := by
  induction vs generalizing ds n with
  | nil => cases h; simp; exact .nil
  | cons v vs ih =>
    cases h with
    | cons h1 h2 =>
      cases n with
      | zero => exact .cons h1 h2
      | succ n => exact ih h2 n
theorem _root_.L2.DpAll.rev (h : DpAll K H vs ds) : DpAll K H vs.reverse ds.reverse := by
  induction vs generalizing ds with
  | nil => cases h; exact .nil
  | cons v vs ih =>
    cases h with
    | cons h1 h2 =>
      rw [List.reverse_cons, List.reverse_cons]
      exact (ih h2).snoc h1
theorem dpa_ints : ∀ (ns : List Int), DpAll K H (ns.map V.int) (ns.map PyData.int)
  | [] => .nil
  | n :: ns => .cons (.int n) (dpa_ints ns)
theorem dpa_ints_eq : ∀ {ns : List Int} {vs : List V}, DpAll K H vs (ns.map PyData.int) → vs = ns.map V.int
  | [], _, h => by cases h; rfl
  | n :: ns, _, h => by
    cases h with
    | cons h1 h2 => rw [dp_int h1, dpa_ints_eq h2]; rfl
theorem dpa_bls_eq : ∀ {bs : List Bool} {vs : List V}, DpAll K H vs (bs.map PyData.bool) → vs = bs.map V.bl
  | [], _, h => by cases h; rfl
  | n :: ns, _, h => by
    cases h with
    | cons h1 h2 => rw [dp_bl h1, dpa_bls_eq h2]; rfl
end

/-! ### the slots' data -/
abbrev Ga := List (Option PyData)
structure Sg (K : PySem.W.Frag) (H : Hp) (σ : L2.St) (Γ : Ga) : Prop where
  len : σ.length = Γ.length
  at_ : ∀ (i : Nat) (d : PyData), Γ[i]? = some (some d) → ∃ v, σ[i]? = some (some v) ∧ Dp K H v d
def wipeG (Γ : Ga) : List Nat → Ga
  | [] => Γ
  | v :: vs => (wipeG Γ vs).set v none
section
variable {K : PySem.W.Frag} {H H' : Hp} {σ : L2.St} {Γ : Ga} {v : V} {d : PyData}
theorem Sg.ex (g : Sg K H σ Γ) (e : Ex H H') : Sg K H' σ Γ := ⟨g.len, fun i d h => by
  obtain ⟨v, h1, h2⟩ := g.at_ i d h
  exact ⟨v, h1, dp_ex e d v h2⟩⟩
theorem Sg.set (g : Sg K H σ Γ) (i : Nat) (h : Dp K H v d) : Sg K H (σ.set i (some v)) (Γ.set i (some d)) := ⟨by rw [List.length_set, List.length_set]; exact g.len, fun j e he => by
  rw [List.getElem?_set] at he ⊢
  by_cases hij : i = j
  · subst hij
    rw [if_pos rfl] at he
    rw [if_pos rfl]
    split at he
    next hl =>
      cases he
      rw [if_pos (by rw [g.len]; exact hl)]
      exact ⟨v, rfl, h⟩
    · cases he
  · rw [if_neg hij] at he
    rw [if_neg hij]
    exact g.at_ j e he⟩
theorem Sg.unset (g : Sg K H σ Γ) (i : Nat) : Sg K H (σ.set i none) (Γ.set i none) := ⟨by rw [List.length_set, List.length_set]; exact g.len, fun j e he => by
  rw [List.getElem?_set] at he ⊢
  by_cases hij : i = j
  · subst hij
    rw [if_pos rfl] at he
    split at he <;> cases he
  · rw [if_neg hij] at he
    rw [if_neg hij]
    exact g.at_ j e he⟩
theorem Sg.wipe (g : Sg K H σ Γ) : ∀ vs : List Nat, Sg K H (L2.wipe σ vs) (wipeG Γ vs)
  | [] => g
  | v :: vs => (Sg.wipe g vs).unset v
theorem wipe_get {σ : L2.St} {j : Nat} : ∀ {vs : List Nat}, j ∉ vs → (L2.wipe σ vs)[j]? = σ[j]?
  | [], _ => rfl
  | v :: vs, h => by
    unfold L2.wipe
    rw [List.getElem?_set_ne (fun e => h (by rw [e]; exact List.mem_cons_self))]
    exact wipe_get fun z => h (List.mem_cons_of_mem _ z)
theorem wipe_in {σ : L2.St} {j : Nat} : ∀ {vs : List Nat}, j ∈ vs → j < σ.length → (L2.wipe σ vs)[j]? = some none
  | v :: vs, h, hl => by
    unfold L2.wipe
    rw [List.getElem?_set]
    by_cases e : v = j
    · subst e
      rw [if_pos rfl, if_pos (by rw [wipe_length]; exact hl)]
    · rw [if_neg e]
      rcases List.mem_cons.mp h with z | z
      · exact absurd z.symm e
      · exact wipe_in z hl
theorem wipe_eq {σ τ : L2.St} {vs : List Nat} (hl : σ.length = τ.length) (h : ∀ j, j ∉ vs → σ[j]? = τ[j]?) : L2.wipe σ vs = L2.wipe τ vs := by
  refine List.ext_getElem? fun j => ?_
  by_cases hj : j ∈ vs
  · by_cases hb : j < σ.length
    · rw [wipe_in hj hb, wipe_in hj (by omega)]
    · rw [List.getElem?_eq_none (by rw [wipe_length]; omega), List.getElem?_eq_none (by rw [wipe_length]; omega)]
  · rw [wipe_get hj, wipe_get hj, h j hj]
theorem wipe_set {σ : L2.St} {vs : List Nat} {j : Nat} {o : Option V} (h : j ∈ vs) : L2.wipe ((L2.wipe σ vs).set j o) vs = L2.wipe σ vs :=
  wipe_eq (by rw [List.length_set, wipe_length]) fun i hi => by
    rw [List.getElem?_set_ne (fun e : j = i => hi (e ▸ h)), wipe_get hi]
theorem wipe_set2 {σ : L2.St} {vs : List Nat} {j k : Nat} {o p : Option V} (h : j ∈ vs) (h' : k ∈ vs) : L2.wipe (((L2.wipe σ vs).set j o).set k p) vs = L2.wipe σ vs :=
  wipe_eq (by rw [List.length_set, List.length_set, wipe_length]) fun i hi => by
    rw [List.getElem?_set_ne (fun e : k = i => hi (e ▸ h')), List.getElem?_set_ne (fun e : j = i => hi (e ▸ h)), wipe_get hi]
end

/-! ### the judgements: an expression's datum, a new list's data, a test's answer, arguments' data, a part of a slice; a statement that falls through; one that returns -/
def ED (K : PySem.W.Frag) (te : TE) (Γ : Ga) (d : PyData) : Prop := ∀ σ H, Sg K H σ Γ → ∀ Q : VK, (∀ v H2, Ex H H2 → Dp K H2 v d → Q v H2) → te σ H Q
def EL (K : PySem.W.Frag) (te : TE) (Γ : Ga) (ds : List PyData) : Prop := ∀ σ H, Sg K H σ Γ → ∀ Q : VK, (∀ p vs H2, H p = none → Ex H H2 → H2 p = some (.lst vs) → DpAll K H2 vs ds → Q (.ref p) H2) → te σ H Q
def ET (K : PySem.W.Frag) (tt : TT) (Γ : Ga) (b : Bool) : Prop := ∀ σ H, Sg K H σ Γ → ∀ Q : Bool → Hp → Prop, (∀ H2, Ex H H2 → Q b H2) → tt σ H Q
def EA (K : PySem.W.Frag) (ta : TA) (Γ : Ga) (ds : List PyData) : Prop := ∀ σ H, Sg K H σ Γ → ∀ Q : List V → Hp → Prop, (∀ vs H2, Ex H H2 → DpAll K H2 vs ds → Q vs H2) → ta σ H Q
def EO (K : PySem.W.Frag) (to : TO) (Γ : Ga) (o : Option Int) : Prop := ∀ σ H, Sg K H σ Γ → ∀ Q : Option Int → Hp → Prop, (∀ H2, Ex H H2 → Q o H2) → to σ H Q
def SF (K : PySem.W.Frag) (t : TS) (Γ Γ' : Ga) : Prop := ∀ σ H D, Sg K H σ Γ → (∀ σ' H2, Ex H H2 → Sg K H2 σ' Γ' → D.nx σ' H2) → t D σ H
def SR (K : PySem.W.Frag) (t : TS) (Γ : Ga) (d : PyData) : Prop := ∀ σ H D, Sg K H σ Γ → (∀ v H2, Ex H H2 → Dp K H2 v d → D.rt v H2) → t D σ H

section
variable {K : PySem.W.Frag} {Γ Γ' Γ'' : Ga} {ta tb tc te tl th : TE} {tt tu : TT} {d e f : PyData} {ds es : List PyData} {i j : Int} {b c : Bool} {tr : TA}
theorem EL.ed (h : EL K te Γ ds) : ED K te Γ (.list ds) := fun σ H g Q q => h σ H g Q fun p vs H2 _ e hp ha => q _ H2 e (.lst (SqL.of hp) ha)
theorem ED.to (h : ED K te Γ d) (e : d = f) : ED K te Γ f := e ▸ h
theorem ET.to (h : ET K tt Γ b) (e : b = c) : ET K tt Γ c := e ▸ h
theorem EL.to (h : EL K te Γ ds) (e : ds = es) : EL K te Γ es := e ▸ h
/-! names, constants -/
theorem ed_var {k : Nat} (h : Γ[k]? = some (some d)) : ED K (tVar k) Γ d := fun σ H g Q q => by
  obtain ⟨v, h1, h2⟩ := g.at_ k d h
  exact ⟨v, h1, q v H (Ex.refl H) h2⟩
theorem ed_int : ED K (tC (.int i)) Γ (.int i) := fun σ H g Q q => q _ H (Ex.refl H) (.int i)
theorem ed_bl : ED K (tC (.bl b)) Γ (.bool b) := fun σ H g Q q => q _ H (Ex.refl H) (.bl b)
theorem ed_str {x : Str} : ED K (tC (.str x)) Γ (.str x) := fun σ H g Q q => q _ H (Ex.refl H) (.str x)
theorem ed_non : ED K (tC .non) Γ .none := fun σ H g Q q => q _ H (Ex.refl H) .non
theorem ed_c {v : V} (h : ∀ H, Dp K H v d) : ED K (tC v) Γ d := fun σ H g Q q => q _ H (Ex.refl H) (h H)
/-! operators -/
theorem ed_op {r : R2} (h1 : ED K ta Γ d) (h2 : ED K tb Γ e) (hr : ∀ x y H, Dp K H x d → Dp K H y e → ∀ Q : VK, (∀ v H2, Ex H H2 → Dp K H2 v f → Q v H2) → r x y H Q) : ED K (tOp r ta tb) Γ f := fun σ H g Q q =>
  h1 σ H g _ fun x H1 e1 hx => h2 σ H1 (g.ex e1) _ fun y H2 e2 hy => hr x y H2 (dp_ex e2 _ _ hx) hy Q fun v H3 e3 hv => q v H3 ((e1.trans e2).trans e3) hv
theorem ed_un {r : V → Hp → VK → Prop} (h1 : ED K ta Γ d) (hr : ∀ x H, Dp K H x d → ∀ Q : VK, (∀ v H2, Ex H H2 → Dp K H2 v f → Q v H2) → r x H Q) : ED K (tUn r ta) Γ f := fun σ H g Q q =>
  h1 σ H g _ fun x H1 e1 hx => hr x H1 hx Q fun v H3 e3 hv => q v H3 (e1.trans e3) hv
theorem r_val {r : R2} {v : V} {x y : V} (hv : ∀ H, Dp K H v f) (h : ∀ H (Q : VK), Q v H → r x y H Q) : ∀ H, ∀ Q : VK, (∀ v H2, Ex H H2 → Dp K H2 v f → Q v H2) → r x y H Q := fun H Q q => h H Q (q v H (Ex.refl H) (hv H))
theorem ed_I0 {g : Int → Int → Int} (h1 : ED K ta Γ (.int i)) (h2 : ED K tb Γ (.int j)) : ED K (tOp (rI0 fun i j => .int (g i j)) ta tb) Γ (.int (g i j)) := ed_op h1 h2 fun x y H hx hy Q q => by
  rw [dp_int hx, dp_int hy]
  exact ⟨i, j, rfl, rfl, q _ H (Ex.refl H) (.int _)⟩
theorem ed_I {C : Int → Int → Prop} {g : Int → Int → Int} (h1 : ED K ta Γ (.int i)) (h2 : ED K tb Γ (.int j)) (hc : C i j) : ED K (tOp (rI C fun i j => .int (g i j)) ta tb) Γ (.int (g i j)) := ed_op h1 h2 fun x y H hx hy Q q => by
  rw [dp_int hx, dp_int hy]
  exact ⟨i, j, rfl, rfl, hc, q _ H (Ex.refl H) (.int _)⟩
theorem ed_B0 {g : Int → Int → Bool} (h1 : ED K ta Γ (.int i)) (h2 : ED K tb Γ (.int j)) : ED K (tOp (rI0 fun i j => .bl (g i j)) ta tb) Γ (.bool (g i j)) := ed_op h1 h2 fun x y H hx hy Q q => by
  rw [dp_int hx, dp_int hy]
  exact ⟨i, j, rfl, rfl, q _ H (Ex.refl H) (.bl _)⟩
theorem ed_neg (h1 : ED K ta Γ (.int i)) : ED K (tUn (rU fun i => .int (-i)) ta) Γ (.int (-i)) := ed_un h1 fun x H hx Q q => by
  rw [dp_int hx]
  exact ⟨i, rfl, q _ H (Ex.refl H) (.int _)⟩
theorem ed_eqI (h1 : ED K ta Γ (.int i)) (h2 : ED K tb Γ (.int j)) : ED K (tOp rEq ta tb) Γ (.bool (decide (i = j))) := ed_op h1 h2 fun x y H hx hy Q q => by
  rw [dp_int hx, dp_int hy]
  refine ⟨rfl, q _ H (Ex.refl H) ?_⟩
  have e : decide (V.int i = V.int j) = decide (i = j) := by
    by_cases z : i = j
    · rw [z, decide_eq_true rfl, decide_eq_true rfl]
    · rw [decide_eq_false z, decide_eq_false fun q => z (V.int.inj q)]
  rw [e]
  exact .bl _
theorem ed_neI (h1 : ED K ta Γ (.int i)) (h2 : ED K tb Γ (.int j)) : ED K (tOp rNe ta tb) Γ (.bool (!decide (i = j))) := ed_op h1 h2 fun x y H hx hy Q q => by
  rw [dp_int hx, dp_int hy]
  refine ⟨rfl, q _ H (Ex.refl H) ?_⟩
  have e : decide (V.int i = V.int j) = decide (i = j) := by
    by_cases z : i = j
    · rw [z, decide_eq_true rfl, decide_eq_true rfl]
    · rw [decide_eq_false z, decide_eq_false fun q => z (V.int.inj q)]
  rw [e]
  exact .bl _
theorem ed_eqB (h1 : ED K ta Γ (.bool b)) (h2 : ED K tb Γ (.bool c)) : ED K (tOp rEq ta tb) Γ (.bool (b == c)) := ed_op h1 h2 fun x y H hx hy Q q => by
  rw [dp_bl hx, dp_bl hy]
  refine ⟨rfl, q _ H (Ex.refl H) ?_⟩
  have e : decide (V.bl b = V.bl c) = (b == c) := by cases b <;> cases c <;> decide
  rw [e]
  exact .bl _
theorem ed_neB (h1 : ED K ta Γ (.bool b)) (h2 : ED K tb Γ (.bool c)) : ED K (tOp rNe ta tb) Γ (.bool (!(b == c))) := ed_op h1 h2 fun x y H hx hy Q q => by
  rw [dp_bl hx, dp_bl hy]
  refine ⟨rfl, q _ H (Ex.refl H) ?_⟩
  have e : decide (V.bl b = V.bl c) = (b == c) := by cases b <;> cases c <;> decide
  rw [e]
  exact .bl _
theorem ed_eqS {x y : Str} (h1 : ED K ta Γ (.str x)) (h2 : ED K tb Γ (.str y)) : ED K (tOp rEq ta tb) Γ (.bool (decide (x = y))) := ed_op h1 h2 fun u v H hx hy Q q => by
  rw [dp_str hx, dp_str hy]
  refine ⟨rfl, q _ H (Ex.refl H) ?_⟩
  have e : decide (V.str x = V.str y) = decide (x = y) := by
    by_cases z : x = y
    · rw [z, decide_eq_true rfl, decide_eq_true rfl]
    · rw [decide_eq_false z, decide_eq_false fun q => z (V.str.inj q)]
  rw [e]
  exact .bl _
theorem ed_eqD (h1 : ED K ta Γ d) (h2 : ED K tb Γ e) (s1 : SeqAt.shaped d = true) (s2 : SeqAt.shaped e = true) : ED K (tOp (rEqD K) ta tb) Γ (.bool (PyData.eqv d e)) := ed_op h1 h2 fun u v H hx hy Q q =>
  ⟨d, e, hx, hy, s1, s2, q _ H (Ex.refl H) (.bl _)⟩
theorem ed_neD (h1 : ED K ta Γ d) (h2 : ED K tb Γ e) (s1 : SeqAt.shaped d = true) (s2 : SeqAt.shaped e = true) : ED K (tOp (rNeD K) ta tb) Γ (.bool (!PyData.eqv d e)) := ed_op h1 h2 fun u v H hx hy Q q =>
  ⟨d, e, hx, hy, s1, s2, q _ H (Ex.refl H) (.bl _)⟩
theorem ed_notBl (h1 : ED K ta Γ (.bool b)) (h2 : ED K tb Γ (.bool c)) : ED K (tOp rNotB ta tb) Γ (.bool (!decide (b = c))) := ed_op h1 h2 fun x y H hx hy Q q => by
  rw [dp_bl hx, dp_bl hy]
  exact ⟨b, c, rfl, rfl, q _ H (Ex.refl H) (.bl _)⟩
theorem atI_some {xs : List V} {n : Nat} {z : V} (h : xs[n]? = some z) : atI xs (n : Int) = some z := atI_nat h
theorem ed_ixT {n : Nat} (h1 : ED K ta Γ (.tuple ds)) (h2 : ED K tb Γ (.int i)) (hi : i = (n : Int)) (hd : ds[n]? = some d) : ED K (tOp (rIxT K) ta tb) Γ d := ed_op h1 h2 fun x y H hx hy Q q => by
  obtain ⟨a, xs, rfl, hs, ha⟩ := dp_tup hx
  rw [dp_int hy, hi]
  obtain ⟨v, hv, hd'⟩ := ha.get hd
  exact ⟨a, xs, (n : Int), v, rfl, rfl, hs, atI_nat hv, q v H (Ex.refl H) hd'⟩
theorem ed_ixL {n : Nat} (h1 : ED K ta Γ (.list ds)) (h2 : ED K tb Γ (.int i)) (hi : i = (n : Int)) (hd : ds[n]? = some d) : ED K (tOp (rIxL K) ta tb) Γ d := ed_op h1 h2 fun x y H hx hy Q q => by
  obtain ⟨a, xs, rfl, hs, ha⟩ := dp_lst hx
  rw [dp_int hy, hi]
  obtain ⟨v, hv, hd'⟩ := ha.get hd
  exact ⟨a, xs, (n : Int), v, rfl, rfl, hs, atI_nat hv, q v H (Ex.refl H) hd'⟩
/-- the last one -/
theorem ed_lastL (h1 : ED K ta Γ (.list (ds ++ [d]))) (h2 : ED K tb Γ (.int (-1))) : ED K (tOp (rIxL K) ta tb) Γ d := ed_op h1 h2 fun x y H hx hy Q q => by
  obtain ⟨a, xs, rfl, hs, ha⟩ := dp_lst hx
  rw [dp_int hy]
  have hl := ha.len
  rw [List.length_append, List.length_singleton] at hl
  obtain ⟨v, hv, hd'⟩ := ha.get (i := ds.length) (d := d) (by simp)
  have e : xs = xs.dropLast ++ [v] := by
    have hne : xs ≠ [] := fun z => by rw [z] at hl; simp at hl
    have : xs.getLast hne = v := by
      rw [List.getLast_eq_getElem]
      have := (List.getElem?_eq_some_iff.mp hv).2
      simp only [hl, Nat.add_sub_cancel]
      exact this
    rw [← this]
    exact (List.dropLast_concat_getLast hne).symm
  refine ⟨a, xs, -1, v, rfl, rfl, hs, ?_, q v H (Ex.refl H) hd'⟩
  rw [e]
  exact atI_last _ _
theorem ed_catT (h1 : ED K ta Γ (.tuple ds)) (h2 : ED K tb Γ (.tuple es)) (hz : ds.length + es.length ≤ 100000) : ED K (tOp (rCatA K) ta tb) Γ (.tuple (ds ++ es)) := ed_op h1 h2 fun x y H hx hy Q q => by
  obtain ⟨a, xs, rfl, hs, ha⟩ := dp_tup hx
  obtain ⟨b, ys, rfl, hs', ha'⟩ := dp_tup hy
  refine ⟨a, b, xs, ys, rfl, rfl, hs, hs', sz_of (by rw [ha.len, ha'.len]; exact hz), fun z => ?_, fun _ z => ?_, fun _ _ p hp => ?_⟩
  · subst z
    cases ha
    exact q _ H (Ex.refl H) (.tup hs' ha')
  · subst z
    cases ha'
    rw [List.append_nil] at q
    exact q _ H (Ex.refl H) (.tup hs ha)
  · have e : Ex H (upd H p (.tup (xs ++ ys))) := Ex.new hp
    exact q _ _ e (.tup (SqT.of upd_same) (dpa_ex e _ _ (ha.app ha')))
theorem el_cat (h1 : EL K ta Γ ds) (h2 : EL K tb Γ es) (hz : ds.length + es.length ≤ 100000) : EL K (tOp rCat ta tb) Γ (ds ++ es) := fun σ H g Q q =>
  h1 σ H g _ fun p vs H1 hp e1 hv ha => h2 σ H1 (g.ex e1) _ fun r ws H2 hr e2 hw hb =>
    ⟨p, r, vs, ws, rfl, rfl, e2 _ _ hv, hw, sz_of (by rw [ha.len, hb.len]; exact hz), fun l hl =>
      have e3 : Ex H2 (upd H2 l (.lst (vs ++ ws))) := Ex.new hl
      q l _ _ (fresh_back (e1.trans e2) hl) ((e1.trans e2).trans e3) upd_same (dpa_ex e3 _ _ ((dpa_ex e2 _ _ ha).app hb))⟩
/-! arguments, displays -/
theorem ea_nil : EA K tNil Γ [] := fun σ H g Q q => q [] H (Ex.refl H) .nil
theorem ea_cons (h : ED K te Γ d) (hr : EA K tr Γ ds) : EA K (tCons te tr) Γ (d :: ds) := fun σ H g Q q =>
  h σ H g _ fun v H1 e1 hv => hr σ H1 (g.ex e1) _ fun vs H2 e2 hvs => q _ H2 (e1.trans e2) (.cons (dp_ex e2 _ _ hv) hvs)
theorem ed_tup (h : EA K tr Γ ds) (hz : ds.length ≤ 100000) : ED K (tTup tr) Γ (.tuple ds) := fun σ H g Q q =>
  h σ H g _ fun vs H1 e1 ha => ⟨sz_of (by rw [ha.len]; exact hz), fun p hp =>
    have e2 : Ex H1 (upd H1 p (.tup vs)) := Ex.new hp
    q _ _ (e1.trans e2) (.tup (SqT.of upd_same) (dpa_ex e2 _ _ ha))⟩
theorem el_lst (h : EA K tr Γ ds) (hz : ds.length ≤ 100000) : EL K (tLst tr) Γ ds := fun σ H g Q q =>
  h σ H g _ fun vs H1 e1 ha => ⟨sz_of (by rw [ha.len]; exact hz), fun p hp =>
    have e2 : Ex H1 (upd H1 p (.lst vs)) := Ex.new hp
    q p _ _ (fresh_back e1 hp) (e1.trans e2) upd_same (dpa_ex e2 _ _ ha)⟩
/-! calls -/
/-- from such data such a datum -/
def spD (K : PySem.W.Frag) (R : List PyData → PyData → Prop) : Sp := fun vs H Q _ => ∃ ds d, R ds d ∧ DpAll K H vs ds ∧ ∀ v H', Ex H H' → Dp K H' v d → Q v H'
/-- from such data a new list of such data -/
def spL (K : PySem.W.Frag) (R : List PyData → List PyData → Prop) : Sp := fun vs H Q _ => ∃ ds es, R ds es ∧ DpAll K H vs ds ∧ ∀ p ws H', H p = none → Ex H H' → H' p = some (.lst ws) → DpAll K H' ws es → Q (.ref p) H'
theorem ed_call {R : List PyData → PyData → Prop} {E : XK} (h : EA K tr Γ ds) (hr : R ds d) : ED K (tCall (spD K R) [] E tr) Γ d := fun σ H g Q q =>
  h σ H g _ fun vs H1 e1 ha => ⟨ds, d, hr, by rw [List.append_nil]; exact ha, fun v H2 e2 hv => q v H2 (e1.trans e2) hv⟩
theorem el_call {R : List PyData → List PyData → Prop} {E : XK} (h : EA K tr Γ ds) (hr : R ds es) : EL K (tCall (spL K R) [] E tr) Γ es := fun σ H g Q q =>
  h σ H g _ fun vs H1 e1 ha => ⟨ds, es, hr, by rw [List.append_nil]; exact ha, fun p ws H2 hp e2 hl hw => q p ws H2 (fresh_back e1 hp) (e1.trans e2) hl hw⟩
theorem ed_cb {r : List V → Hp → VK → Prop} (h : EA K tr Γ ds) (hr : ∀ vs H, DpAll K H vs ds → ∀ Q : VK, (∀ v H2, Ex H H2 → Dp K H2 v d → Q v H2) → r vs H Q) : ED K (tCB r tr) Γ d := fun σ H g Q q =>
  h σ H g _ fun vs H1 e1 ha => hr vs H1 ha Q fun v H2 e2 hv => q v H2 (e1.trans e2) hv
theorem dpa1 {H : Hp} {vs : List V} (h : DpAll K H vs [d]) : ∃ v, vs = [v] ∧ Dp K H v d := by
  cases h with
  | cons h1 h2 => cases h2; exact ⟨_, rfl, h1⟩
theorem dpa2 {H : Hp} {vs : List V} (h : DpAll K H vs [d, e]) : ∃ v w, vs = [v, w] ∧ Dp K H v d ∧ Dp K H w e := by
  cases h with
  | cons h1 h2 =>
    obtain ⟨w, rfl, h3⟩ := dpa1 h2
    exact ⟨_, w, rfl, h1, h3⟩
abbrev rLenQ (K : PySem.W.Frag) : List V → Hp → VK → Prop := fun xs H Q => ∃ p ys, xs = [.ref p] ∧ (SqL K H p ys ∨ SqT K H p ys) ∧ Q (.int ys.length) H
theorem ed_lenT (h : ED K te Γ (.tuple ds)) : ED K (tCB (rLenQ K) (tCons te tNil)) Γ (.int (ds.length : Int)) := ed_cb (ea_cons h ea_nil) fun vs H ha Q q => by
  obtain ⟨v, rfl, hv⟩ := dpa1 ha
  obtain ⟨a, xs, rfl, hs, hx⟩ := dp_tup hv
  refine ⟨a, xs, rfl, .inr hs, ?_⟩
  rw [hx.len]
  exact q _ H (Ex.refl H) (.int _)
theorem ed_lenL (h : ED K te Γ (.list ds)) : ED K (tCB (rLenQ K) (tCons te tNil)) Γ (.int (ds.length : Int)) := ed_cb (ea_cons h ea_nil) fun vs H ha Q q => by
  obtain ⟨v, rfl, hv⟩ := dpa1 ha
  obtain ⟨a, xs, rfl, hs, hx⟩ := dp_lst hv
  refine ⟨a, xs, rfl, .inl hs, ?_⟩
  rw [hx.len]
  exact q _ H (Ex.refl H) (.int _)
theorem ed_abs (h : ED K te Γ (.int i)) : ED K (tCB (fun xs H Q => ∃ i, xs = [.int i] ∧ Q (.int (if i < 0 then -i else i)) H) (tCons te tNil)) Γ (.int (if i < 0 then -i else i)) := ed_cb (ea_cons h ea_nil) fun vs H ha Q q => by
  obtain ⟨v, rfl, hv⟩ := dpa1 ha
  rw [dp_int hv]
  exact ⟨i, rfl, q _ H (Ex.refl H) (.int _)⟩
theorem ed_max2 (h : ED K ta Γ (.int i)) (h' : ED K tb Γ (.int j)) : ED K (tCB (fun xs H Q => ∃ i j, xs = [.int i, .int j] ∧ Q (.int (if j > i then j else i)) H) (tCons ta (tCons tb tNil))) Γ (.int (if j > i then j else i)) := ed_cb (ea_cons h (ea_cons h' ea_nil)) fun vs H ha Q q => by
  obtain ⟨v, w, rfl, hv, hw⟩ := dpa2 ha
  rw [dp_int hv, dp_int hw]
  exact ⟨i, j, rfl, q _ H (Ex.refl H) (.int _)⟩
abbrev rInt1 : List V → Hp → VK → Prop := fun xs H Q => (∃ i, xs = [.int i] ∧ Q (.int i) H) ∨ ∃ k, xs = [.bl k] ∧ Q (.int (if k then 1 else 0)) H
theorem ed_intB (h : ED K te Γ (.bool b)) : ED K (tCB rInt1 (tCons te tNil)) Γ (.int (if b then 1 else 0)) := ed_cb (ea_cons h ea_nil) fun vs H ha Q q => by
  obtain ⟨v, rfl, hv⟩ := dpa1 ha
  rw [dp_bl hv]
  exact .inr ⟨b, rfl, q _ H (Ex.refl H) (.int _)⟩
theorem ed_all {bs : List Bool} (h : ED K te Γ (.list (bs.map PyData.bool))) : ED K (tCB (rAll K) (tCons te tNil)) Γ (.bool (bs.all id)) := ed_cb (ea_cons h ea_nil) fun vs H ha Q q => by
  obtain ⟨v, rfl, hv⟩ := dpa1 ha
  obtain ⟨a, xs, rfl, hs, hx⟩ := dp_lst hv
  rw [dpa_bls_eq hx] at hs
  exact ⟨a, bs, rfl, hs, q _ H (Ex.refl H) (.bl _)⟩
abbrev rTupQ (K : PySem.W.Frag) : List V → Hp → VK → Prop := fun xs H Q => ∃ p ys, xs = [.ref p] ∧ ((SqL K H p ys ∧ ∀ l, H l = none → Q (.ref l) (upd H l (.tup ys))) ∨ (SqT K H p ys ∧ Q (.ref p) H))
theorem ed_tupL (h : ED K te Γ (.list ds)) : ED K (tCB (rTupQ K) (tCons te tNil)) Γ (.tuple ds) := ed_cb (ea_cons h ea_nil) fun vs H ha Q q => by
  obtain ⟨v, rfl, hv⟩ := dpa1 ha
  obtain ⟨a, xs, rfl, hs, hx⟩ := dp_lst hv
  refine ⟨a, xs, rfl, .inl ⟨hs, fun l hl => ?_⟩⟩
  have e : Ex H (upd H l (.tup xs)) := Ex.new hl
  exact q _ _ e (.tup (SqT.of upd_same) (dpa_ex e _ _ hx))
abbrev rLstQ (K : PySem.W.Frag) : List V → Hp → VK → Prop := fun xs H Q => ∃ p ys, xs = [.ref p] ∧ (SqL K H p ys ∨ SqT K H p ys) ∧ ∀ l, H l = none → Q (.ref l) (upd H l (.lst ys))
theorem el_lstT (h : ED K te Γ (.tuple ds)) : EL K (tCB (rLstQ K) (tCons te tNil)) Γ ds := fun σ H g Q q => by
  refine (ea_cons h ea_nil) σ H g _ fun vs H1 e1 ha => ?_
  obtain ⟨v, rfl, hv⟩ := dpa1 ha
  obtain ⟨a, xs, rfl, hs, hx⟩ := dp_tup hv
  refine ⟨a, xs, rfl, .inr hs, fun l hl => ?_⟩
  have e : Ex H1 (upd H1 l (.lst xs)) := Ex.new hl
  exact q l xs _ (fresh_back e1 hl) (e1.trans e) upd_same (dpa_ex e _ _ hx)
theorem el_lstL (h : ED K te Γ (.list ds)) : EL K (tCB (rLstQ K) (tCons te tNil)) Γ ds := fun σ H g Q q => by
  refine (ea_cons h ea_nil) σ H g _ fun vs H1 e1 ha => ?_
  obtain ⟨v, rfl, hv⟩ := dpa1 ha
  obtain ⟨a, xs, rfl, hs, hx⟩ := dp_lst hv
  refine ⟨a, xs, rfl, .inl hs, fun l hl => ?_⟩
  have e : Ex H1 (upd H1 l (.lst xs)) := Ex.new hl
  exact q l xs _ (fresh_back e1 hl) (e1.trans e) upd_same (dpa_ex e _ _ hx)
/-! slices -/
theorem eo_no : EO K tNoPart Γ none := fun σ H g Q q => q H (Ex.refl H)
theorem eo_int (h : ED K te Γ (.int i)) : EO K (tPart te) Γ (some i) := fun σ H g Q q => h σ H g _ fun v H1 e1 hv => ⟨i, dp_int hv, q H1 e1⟩
theorem el_sl {t1 t2 : TO} {lo hi : Option Int} {es : List PyData} (h : ED K te Γ (.list ds)) (h1 : EO K t1 Γ lo) (h2 : EO K t2 Γ hi) (he : ∀ vs : List V, ∀ H, DpAll K H vs ds → DpAll K H (cutV vs lo hi) es) : EL K (tSl (rSlL K) te t1 t2) Γ es := fun σ H g Q q =>
  h σ H g _ fun v H1 e1 hv => h1 σ H1 (g.ex e1) _ fun H2 e2 => h2 σ H2 (g.ex (e1.trans e2)) _ fun H3 e3 => by
    obtain ⟨a, xs, rfl, hs, hx⟩ := dp_lst hv
    refine ⟨a, xs, rfl, ex_l (e2.trans e3) hs, fun p hp => ?_⟩
    have e4 : Ex H3 (upd H3 p (.lst (cutV xs lo hi))) := Ex.new hp
    exact q p _ _ (fresh_back ((e1.trans e2).trans e3) hp) (((e1.trans e2).trans e3).trans e4) upd_same (dpa_ex e4 _ _ (he _ _ (dpa_ex (e2.trans e3) _ _ hx)))
theorem ed_slT {t1 t2 : TO} {lo hi : Option Int} {es : List PyData} (h : ED K te Γ (.tuple ds)) (h1 : EO K t1 Γ lo) (h2 : EO K t2 Γ hi) (he : ∀ vs : List V, ∀ H, DpAll K H vs ds → DpAll K H (cutV vs lo hi) es)
    (hw : (HT.sIx ds.length 0 lo = 0 ∧ HT.sIx ds.length ds.length hi = ds.length) → es = ds) : ED K (tSl (rSlA K) te t1 t2) Γ (.tuple es) := fun σ H g Q q =>
  h σ H g _ fun v H1 e1 hv => h1 σ H1 (g.ex e1) _ fun H2 e2 => h2 σ H2 (g.ex (e1.trans e2)) _ fun H3 e3 => by
    obtain ⟨a, xs, rfl, hs, hx⟩ := dp_tup hv
    refine ⟨a, xs, rfl, ex_t (e2.trans e3) hs, fun z => ?_, fun _ p hp => ?_⟩
    · rw [hx.len] at z
      have hx' := dpa_ex (e2.trans e3) _ _ hx
      rw [← hw z] at hx'
      exact q _ H3 ((e1.trans e2).trans e3) (.tup (ex_t (e2.trans e3) hs) hx')
    · have e4 : Ex H3 (upd H3 p (.tup (cutV xs lo hi))) := Ex.new hp
      exact q _ _ (((e1.trans e2).trans e3).trans e4) (.tup (SqT.of upd_same) (dpa_ex e4 _ _ (he _ _ (dpa_ex (e2.trans e3) _ _ hx))))
/-! tests, and, or, not -/
theorem et_test (h : ED K te Γ (.bool b)) : ET K (tTest te) Γ b := fun σ H g Q q => h σ H g _ fun v H1 e1 hv => ⟨b, dp_bl hv, q H1 e1⟩
theorem et_B (h : ED K te Γ (.bool b)) : ET K (tB te) Γ b := fun σ H g Q q => h σ H g _ fun v H1 e1 hv => ⟨b, dp_bl hv, q H1 e1⟩
theorem et_not (h : ET K tt Γ b) : ET K (tNot tt) Γ (!b) := fun σ H g Q q => h σ H g _ fun H1 e1 => q H1 e1
theorem et_and (h : ET K tt Γ b) (h' : b = true → ET K tu Γ c) : ET K (tAnd tt tu) Γ (b && c) := fun σ H g Q q => h σ H g _ fun H1 e1 => by
  cases b with
  | true => exact iteT (h' rfl σ H1 (g.ex e1) Q fun H2 e2 => q H2 (e1.trans e2))
  | false => exact iteF (q H1 e1)
theorem et_or (h : ET K tt Γ b) (h' : b = false → ET K tu Γ c) : ET K (tOr tt tu) Γ (b || c) := fun σ H g Q q => h σ H g _ fun H1 e1 => by
  cases b with
  | true => exact iteT (q H1 e1)
  | false => exact iteF (h' rfl σ H1 (g.ex e1) Q fun H2 e2 => q H2 (e1.trans e2))
theorem ed_and (h : ED K ta Γ (.bool b)) (h' : b = true → ED K tb Γ (.bool c)) : ED K (tAndV ta tb) Γ (.bool (b && c)) := fun σ H g Q q => h σ H g _ fun v H1 e1 hv => ⟨b, dp_bl hv, by
  cases b with
  | true => exact iteT (h' rfl σ H1 (g.ex e1) Q fun v H2 e2 => q v H2 (e1.trans e2))
  | false => exact iteF (q _ H1 e1 (.bl _))⟩
theorem ed_not (h : ED K ta Γ (.bool b)) : ED K (tNotV ta) Γ (.bool (!b)) := fun σ H g Q q => h σ H g _ fun v H1 e1 hv => ⟨b, dp_bl hv, q _ H1 e1 (.bl _)⟩
theorem ed_if (h : ET K tt Γ b) (h1 : b = true → ED K ta Γ d) (h2 : b = false → ED K tb Γ d) : ED K (tIf tt ta tb) Γ d := fun σ H g Q q => h σ H g _ fun H1 e1 => by
  cases b with
  | true => exact iteT (h1 rfl σ H1 (g.ex e1) Q fun v H2 e2 => q v H2 (e1.trans e2))
  | false => exact iteF (h2 rfl σ H1 (g.ex e1) Q fun v H2 e2 => q v H2 (e1.trans e2))
/-- low <= x <= high -/
theorem ed_chain {g1 g2 : Int → Int → Bool} {k : Int} (h1 : ED K ta Γ (.int i)) (h2 : ED K tb Γ (.int j)) (h3 : ED K tc Γ (.int k)) :
    ED K (tChain (rI0 fun i j => .bl (g1 i j)) (rI0 fun i j => .bl (g2 i j)) ta tb tc) Γ (.bool (g1 i j && g2 j k)) := fun σ H g Q q =>
  h1 σ H g _ fun x H1 e1 hx => h2 σ H1 (g.ex e1) _ fun y H2 e2 hy => ⟨i, j, dp_int hx, dp_int hy, g1 i j, rfl, by
    cases hg : g1 i j with
    | true =>
      refine iteT (h3 σ H2 (g.ex (e1.trans e2)) _ fun z H3 e3 hz => ⟨j, k, dp_int hy, dp_int hz, ?_⟩)
      refine q _ H3 ((e1.trans e2).trans e3) ?_
      rw [hg]
      exact .bl _
    | false =>
      refine iteF (q _ H2 (e1.trans e2) ?_)
      rw [hg]
      exact .bl _⟩
/-! statements -/
variable {t u : TS}
theorem sf_next : SF K tNext Γ Γ := fun σ H D g q => q σ H (Ex.refl H) g
theorem sf_seq (h : SF K t Γ Γ') (h' : SF K u Γ' Γ'') : SF K (tSeq t u) Γ Γ'' := fun σ H D g q => h σ H { D with nx := u D } g fun σ' H1 e1 g1 => h' σ' H1 D g1 fun σ2 H2 e2 g2 => q σ2 H2 (e1.trans e2) g2
theorem sr_seq (h : SF K t Γ Γ') (h' : SR K u Γ' d) : SR K (tSeq t u) Γ d := fun σ H D g q => h σ H { D with nx := u D } g fun σ' H1 e1 g1 => h' σ' H1 D g1 fun v H2 e2 hv => q v H2 (e1.trans e2) hv
theorem sr_now (h : SR K t Γ d) : SR K (tSeq t u) Γ d := fun σ H D g q => h σ H { D with nx := u D } g q
theorem sf_set {k : Nat} (h : ED K te Γ d) : SF K (tAsg te (gName k)) Γ (Γ.set k (some d)) := fun σ H D g q => h σ H g _ fun v H1 e1 hv => q _ H1 e1 ((g.ex e1).set k hv)
theorem sf_drop (h : ED K te Γ d) : SF K (tDrop te) Γ Γ := fun σ H D g q => h σ H g _ fun v H1 e1 _ => q σ H1 e1 (g.ex e1)
theorem sr_ret (h : ED K te Γ d) : SR K (tRet te) Γ d := fun σ H D g q => h σ H g _ q
theorem sr_ifT (h : ET K tt Γ true) (h1 : SR K t Γ d) : SR K (tIfS tt t u) Γ d := fun σ H D g q => h σ H g _ fun H1 e1 => iteT (h1 σ H1 D (g.ex e1) fun v H2 e2 hv => q v H2 (e1.trans e2) hv)
theorem sr_ifF (h : ET K tt Γ false) (h1 : SR K u Γ d) : SR K (tIfS tt t u) Γ d := fun σ H D g q => h σ H g _ fun H1 e1 => iteF (h1 σ H1 D (g.ex e1) fun v H2 e2 hv => q v H2 (e1.trans e2) hv)
theorem sf_ifT (h : ET K tt Γ true) (h1 : SF K t Γ Γ') : SF K (tIfS tt t u) Γ Γ' := fun σ H D g q => h σ H g _ fun H1 e1 => iteT (h1 σ H1 D (g.ex e1) fun v H2 e2 hv => q v H2 (e1.trans e2) hv)
theorem sf_ifF (h : ET K tt Γ false) (h1 : SF K u Γ Γ') : SF K (tIfS tt t u) Γ Γ' := fun σ H D g q => h σ H g _ fun H1 e1 => iteF (h1 σ H1 D (g.ex e1) fun v H2 e2 hv => q v H2 (e1.trans e2) hv)
/-- a, b = x, y -/
theorem sf_par {k l : Nat} (h1 : ED K ta Γ d) (h2 : ED K tb Γ e) : SF K (tPar k l (tCons ta (tCons tb tNil))) Γ ((Γ.set k (some d)).set l (some e)) := fun σ H D g q =>
  (ea_cons h1 (ea_cons h2 ea_nil)) σ H g _ fun vs H1 e1 ha => by
    obtain ⟨v, w, rfl, hv, hw⟩ := dpa2 ha
    exact ⟨v, w, rfl, q _ H1 e1 (((g.ex e1).set k hv).set l hw)⟩
/-- a, b = a pair -/
theorem sf_pair {k l : Nat} (h : ED K te Γ (.tuple [d, e])) : SF K (tAsg te (gTup K 2 (gCons (gName k) (gCons (gName l) gNil)))) Γ ((Γ.set k (some d)).set l (some e)) := fun σ H D g q =>
  h σ H g _ fun v H1 e1 hv => by
    obtain ⟨a, xs, rfl, hs, hx⟩ := dp_tup hv
    obtain ⟨x, y, rfl, h1, h2⟩ := dpa2 hx
    exact ⟨a, [x, y], rfl, hs, rfl, x, [y], rfl, y, [], rfl, rfl, q _ H1 e1 (((g.ex e1).set k h1).set l h2)⟩
end
end K35
/-! Readings by data: what is walked, targets, comprehensions, loops; a def's promise. -/
namespace K35
open PySem PySem.Spec PyProof.Rows L2 Evl

/-- n turns, the i-th gives the datum ds i -/
structure IW (K : PySem.W.Frag) (J : It) (H1 : Hp) (n : Nat) (ds : Nat → PyData) : Prop where
  go : ∀ i H, i < n → Ex H1 H → J.go i H
  stop : ∀ H, Ex H1 H → J.stop n H
  yld : ∀ i H x H2, i < n → Ex H1 H → J.yld i H x H2 → Ex H H2 ∧ Dp K H2 x (ds i)
def EI (K : PySem.W.Frag) (wi : TI) (Γ : Ga) (n : Nat) (ds : Nat → PyData) : Prop := ∀ σ H, Sg K H σ Γ → ∀ R : It → Hp → Prop, (∀ J H1, Ex H H1 → IW K J H1 n ds → R J H1) → wi σ H R
def EG (K : PySem.W.Frag) (g : TG) (Γ : Ga) (d : PyData) (Γ' : Ga) (ks : List Nat) : Prop := ∀ x σ H, Sg K H σ Γ → Dp K H x d → ∀ Q : L2.St → Hp → Prop,
  (∀ σ' H', Ex H H' → Sg K H' σ' Γ' → (∀ j, j ∉ ks → σ'[j]? = σ[j]?) → Q σ' H') → g x σ H Q

section
variable {K : PySem.W.Frag} {Γ Γ' : Ga} {n : Nat} {ds : Nat → PyData} {tl te : TE} {ta tr : TA} {d e : PyData}
theorem rng_get {n i : Nat} {f : Nat → PyData} (h : i < n) : ((List.range n).map f)[i]? = some (f i) := by
  rw [List.getElem?_map, List.getElem?_range h]
  rfl
theorem rng_len {n : Nat} {f : Nat → PyData} : ((List.range n).map f).length = n := by rw [List.length_map, List.length_range]
theorem rng_snoc {n : Nat} {f : Nat → PyData} : (List.range (n + 1)).map f = (List.range n).map f ++ [f n] := by
  rw [List.range_succ, List.map_append]
  rfl
theorem rng_congr {n : Nat} {f g : Nat → PyData} (h : ∀ i, i < n → f i = g i) : (List.range n).map f = (List.range n).map g :=
  List.map_congr_left fun i hi => h i (List.mem_range.mp hi)
theorem rng_of (ds : List PyData) : ds = (List.range ds.length).map fun i => ds.getD i .none := by
  refine List.ext_getElem? fun i => ?_
  by_cases h : i < ds.length
  · rw [rng_get h, List.getD_eq_getElem?_getD, List.getElem?_eq_getElem h]
    rfl
  · rw [List.getElem?_eq_none (by omega), List.getElem?_eq_none (by rw [rng_len]; omega)]
theorem ei_list (h : ED K tl Γ (.list ((List.range n).map ds))) : EI K (iList K tl) Γ n ds := fun σ H g R q => h σ H g _ fun v H1 e1 hv => by
  obtain ⟨a, xs, rfl, hs, ha⟩ := dp_lst hv
  have hl := ha.len
  rw [rng_len] at hl
  subst hl
  refine ⟨a, rfl, ⟨xs, hs⟩, q _ H1 e1 ⟨fun i H2 hi e2 => (walk_list (K := K)).goes i H2 hi (ex_l e2 hs), fun H2 e2 => (walk_list (K := K)).stops H2 (ex_l e2 hs), fun i H2 x H3 hi e2 hy => ?_⟩⟩
  obtain ⟨rfl, hx⟩ := (walk_list (K := K)).yields i H2 x H3 hi (ex_l e2 hs) hy
  obtain ⟨d, hd, hp⟩ := ha.get' hx
  rw [rng_get hi] at hd
  cases hd
  exact ⟨Ex.refl _, dp_ex e2 _ _ hp⟩
theorem ei_tup (h : ED K tl Γ (.tuple ((List.range n).map ds))) : EI K (iTup K tl) Γ n ds := fun σ H g R q => h σ H g _ fun v H1 e1 hv => by
  obtain ⟨a, xs, rfl, hs, ha⟩ := dp_tup hv
  have hl := ha.len
  rw [rng_len] at hl
  subst hl
  refine ⟨a, rfl, ⟨xs, hs⟩, q _ H1 e1 ⟨fun i H2 hi e2 => (walk_tup (K := K)).goes i H2 hi (ex_t e2 hs), fun H2 e2 => (walk_tup (K := K)).stops H2 (ex_t e2 hs), fun i H2 x H3 hi e2 hy => ?_⟩⟩
  obtain ⟨rfl, hx⟩ := (walk_tup (K := K)).yields i H2 x H3 hi (ex_t e2 hs) hy
  obtain ⟨d, hd, hp⟩ := ha.get' hx
  rw [rng_get hi] at hd
  cases hd
  exact ⟨Ex.refl _, dp_ex e2 _ _ hp⟩
theorem ei_rng1 {m : Int} (h : EA K ta Γ [.int m]) (hm : m = (n : Int)) (hb : n ≤ 100000) : EI K (iRng1 ta) Γ n (fun i => .int (i : Int)) := fun σ H g R q => h σ H g _ fun vs H1 e1 ha => by
  obtain ⟨v, rfl, hv⟩ := dpa1 ha
  rw [dp_int hv, hm]
  refine ⟨n, rfl, by omega, by omega, q _ H1 e1 ?_⟩
  rw [Int.toNat_natCast]
  refine ⟨fun i H2 hi _ => (walk_range (lo := 0)).goes i H2 hi True.intro, fun H2 _ => (walk_range (lo := 0)).stops H2 True.intro, fun i H2 x H3 hi _ hy => ?_⟩
  obtain ⟨rfl, rfl⟩ := (walk_range (lo := 0)).yields i H2 x H3 hi True.intro hy
  refine ⟨Ex.refl _, ?_⟩
  show Dp K H3 (.int ((0 : Int) + (i : Int))) (.int (i : Int))
  rw [Int.zero_add]
  exact .int _
theorem ei_rng2 {lo hi : Int} (h : EA K ta Γ [.int lo, .int hi]) (hn : n = (hi - lo).toNat) (hb : -100000 ≤ lo ∧ lo ≤ 100000 ∧ -100000 ≤ hi ∧ hi ≤ 100000) : EI K (iRng2 ta) Γ n (fun i => .int (lo + (i : Int))) := fun σ H g R q => h σ H g _ fun vs H1 e1 ha => by
  obtain ⟨v, w, rfl, hv, hw⟩ := dpa2 ha
  rw [dp_int hv, dp_int hw]
  refine ⟨lo, hi, rfl, ⟨by omega, by omega, by omega, by omega⟩, q _ H1 e1 ?_⟩
  rw [← hn]
  refine ⟨fun i H2 hi _ => (walk_range (lo := lo)).goes i H2 hi True.intro, fun H2 _ => (walk_range (lo := lo)).stops H2 True.intro, fun i H2 x H3 hi _ hy => ?_⟩
  obtain ⟨rfl, rfl⟩ := (walk_range (lo := lo)).yields i H2 x H3 hi True.intro hy
  exact ⟨Ex.refl _, .int _⟩
theorem pair_dp {H : Hp} {T : Addr} {x y : V} (hT : H T = none) (hx : Dp K H x d) (hy : Dp K H y e) : Ex H (upd H T (.tup [x, y])) ∧ Dp K (upd H T (.tup [x, y])) (.ref T) (.tuple [d, e]) :=
  have ex : Ex H (upd H T (.tup [x, y])) := Ex.new hT
  ⟨ex, .tup (SqT.of upd_same) (.cons (dp_ex ex _ _ hx) (.cons (dp_ex ex _ _ hy) .nil))⟩
theorem ei_enum (h : EA K ta Γ [.list ((List.range n).map ds)]) : EI K (iEnum K ta) Γ n (fun i => .tuple [.int (i : Int), ds i]) := fun σ H g R q => h σ H g _ fun vs H1 e1 ha => by
  obtain ⟨v, rfl, hv⟩ := dpa1 ha
  obtain ⟨a, xs, rfl, hs, hx⟩ := dp_lst hv
  have hl := hx.len
  rw [rng_len] at hl
  subst hl
  refine ⟨a, xs, rfl, hs, q _ H1 e1 ⟨fun i H2 hi e2 => (walk_enum (K := K)).goes i H2 hi (ex_l e2 hs), fun H2 e2 => (walk_enum (K := K)).stops H2 (ex_l e2 hs), fun i H2 x H3 hi e2 hy => ?_⟩⟩
  obtain ⟨T, u, w, rfl, hT, rfl, h1, h2⟩ := (walk_enum (K := K)).yields i H2 x H3 hi (ex_l e2 hs) hy
  cases h1
  obtain ⟨d, hd, hp⟩ := hx.get' h2
  rw [rng_get hi] at hd
  cases hd
  exact pair_dp hT (.int _) (dp_ex e2 _ _ hp)
/-! targets -/
theorem eg_name {k : Nat} : EG K (gName k) Γ d (Γ.set k (some d)) [k] := fun x σ H g hx Q q => q _ H (Ex.refl H) (g.set k hx) fun j hj => by
  rw [List.getElem?_set_ne (fun z : k = j => hj (by rw [z]; exact List.mem_singleton.mpr rfl))]
theorem eg_pair {k l : Nat} : EG K (gTup K 2 (gCons (gName k) (gCons (gName l) gNil))) Γ (.tuple [d, e]) ((Γ.set k (some d)).set l (some e)) [k, l] := fun x σ H g hx Q q => by
  obtain ⟨a, xs, rfl, hs, ha⟩ := dp_tup hx
  obtain ⟨u, w, rfl, h1, h2⟩ := dpa2 ha
  refine ⟨a, [u, w], rfl, hs, rfl, u, [w], rfl, w, [], rfl, rfl, q _ H (Ex.refl H) ((g.set k h1).set l h2) fun j hj => ?_⟩
  rw [List.getElem?_set_ne (fun z : l = j => hj (by rw [z]; simp)), List.getElem?_set_ne (fun z : k = j => hj (by rw [z]; simp))]
theorem et_yes : ET K tYes Γ true := fun σ H g Q q => q H (Ex.refl H)
/-! comprehensions -/
theorem wipe_tgt {σ σ' : L2.St} {vs ks : List Nat} (hl : σ'.length = σ.length) (h : ∀ j, j ∉ ks → σ'[j]? = (L2.wipe σ vs)[j]?) (hk : ∀ k, k ∈ ks → k ∈ vs) : L2.wipe σ' vs = L2.wipe σ vs :=
  wipe_eq hl fun j hj => by
    rw [h j fun z => hj (hk j z), wipe_get hj]
theorem flt_snoc_y {n : Nat} {f : Nat → Bool} {b : Nat → PyData} (h : f n = true) : ((List.range (n + 1)).filter f).map b = ((List.range n).filter f).map b ++ [b n] := by
  rw [List.range_succ, List.filter_append, List.map_append, List.filter_cons, if_pos h] <;> rfl
theorem flt_snoc_n {n : Nat} {f : Nat → Bool} {b : Nat → PyData} (h : f n = false) : ((List.range (n + 1)).filter f).map b = ((List.range n).filter f).map b := by
  rw [List.range_succ, List.filter_append, List.map_append, List.filter_cons, if_neg (by rw [h]; decide)]
  show _ ++ [] = _
  rw [List.append_nil]
theorem flt_len {n : Nat} {f : Nat → Bool} {b : Nat → PyData} : (((List.range n).filter f).map b).length ≤ n := by
  rw [List.length_map]
  have h := List.length_filter_le f (List.range n)
  rw [List.length_range] at h
  exact h
theorem noL_flt {n : Nat} {f : Nat → Bool} {b : Nat → PyData} (h : ∀ i, i < n → noL (b i) = true) : noL.noLs (((List.range n).filter f).map b) = true := noLs_all fun d hd => by
  obtain ⟨i, hi, rfl⟩ := List.mem_map.mp hd
  exact h i (List.mem_range.mp (List.mem_filter.mp hi).1)
theorem el_lc {wi : TI} {g : TG} {tt : TT} {vs : List Nat} {f : Nat → Bool} {b : Nat → PyData} (hi : EI K wi Γ n ds) (ks : List Nat) (hks : ∀ k, k ∈ ks → k ∈ vs) (Γi : Nat → Ga) (hg : ∀ i, i < n → EG K g (wipeG Γ vs) (ds i) (Γi i) ks)
    (hΓ : ∀ i, i < n → (Γi i).length = Γ.length) (ht : ∀ i, i < n → ET K tt (Γi i) (f i)) (he : ∀ i, i < n → f i = true → ED K te (Γi i) (b i)) (hb : ∀ i, i < n → noL (b i) = true) (hn : n ≤ 40000) : EL K (tLc wi g tt te vs) Γ (((List.range n).filter f).map b) := fun σ H gs Q q =>
  hi σ H gs _ fun J H1 e1 W D hD => by
    let P : Nat → Hp → Prop := fun i H' => Ex H1 H' ∧ ∃ acc, H' D = some (.lst acc) ∧ DpAll K H' acc (((List.range i).filter f).map b)
    refine ⟨fun i m H' => m = n - i ∧ i ≤ n ∧ P i H', ⟨n, by simp, Nat.zero_le _, Ex.new hD, [], upd_same, .nil⟩, ?_⟩
    rintro i m H' ⟨rfl, hin, p⟩
    obtain ⟨e2, acc, hacc, hdp⟩ := p
    by_cases hlt : i < n
    · refine .inr ⟨W.go i H' hlt e2, P (i + 1), fun H3 p' => ⟨n - (i + 1), by omega, rfl, hlt, p'⟩, fun x H3 hy => ?_⟩
      obtain ⟨e3, hx⟩ := W.yld i H' x H3 hlt e2 hy
      have gs1 : Sg K H3 (L2.wipe σ vs) (wipeG Γ vs) := (gs.ex ((e1.trans e2).trans e3)).wipe vs
      refine hg i hlt x _ H3 gs1 hx _ fun σ2 H4 e4 g2 hσ => ⟨wipe_tgt (by rw [g2.len, hΓ i hlt, gs.len]) hσ hks, ?_⟩
      refine ht i hlt σ2 H4 g2 _ fun H5 e5 => ?_
      cases hf : f i with
      | true =>
        refine iteT (he i hlt hf σ2 H5 (g2.ex e5) _ fun y H6 e6 hyd => ?_)
        have e36 : Ex H' H6 := ((e3.trans e4).trans e5).trans e6
        refine ⟨acc, e36 D _ hacc, sz_lt (by rw [hdp.len]; have := @flt_len i f b; omega), Ex.mut (e2.trans e36) hD, acc ++ [y], upd_same, ?_⟩
        rw [flt_snoc_y hf]
        have tx : Tx H6 (upd H6 D (.lst (acc ++ [y]))) := Tx.put (e36 D _ hacc)
        exact (dpa_tx tx _ _ (noL_flt fun j hj => hb j (by omega)) (dpa_ex e36 _ _ hdp)).snoc (dp_tx tx _ _ (hb i hlt) hyd)
      | false =>
        have e35 : Ex H' H5 := (e3.trans e4).trans e5
        refine iteF ⟨e2.trans e35, acc, e35 D _ hacc, ?_⟩
        rw [flt_snoc_n hf]
        exact dpa_ex e35 _ _ hdp
    · have e : i = n := by omega
      subst e
      exact .inl ⟨W.stop H' e2, q D acc H' (fresh_back e1 hD) (e1.trans e2) hacc hdp⟩
theorem flt_all {n : Nat} : (List.range n).filter (fun _ => true) = List.range n := List.filter_eq_self.mpr fun _ _ => rfl
theorem el_lc1 {wi : TI} {g : TG} {vs : List Nat} {b : Nat → PyData} (hi : EI K wi Γ n ds) (ks : List Nat) (hks : ∀ k, k ∈ ks → k ∈ vs) (Γi : Nat → Ga) (hg : ∀ i, i < n → EG K g (wipeG Γ vs) (ds i) (Γi i) ks)
    (hΓ : ∀ i, i < n → (Γi i).length = Γ.length) (he : ∀ i, i < n → ED K te (Γi i) (b i)) (hb : ∀ i, i < n → noL (b i) = true) (hn : n ≤ 40000) : EL K (tLc wi g tYes te vs) Γ ((List.range n).map b) := by
  have h := el_lc (f := fun _ => true) hi ks hks Γi hg hΓ (fun _ _ => et_yes) (fun i hi _ => he i hi) hb hn
  rw [flt_all] at h
  exact h
theorem wipeG_len {Γ : Ga} : ∀ vs : List Nat, (wipeG Γ vs).length = Γ.length
  | [] => rfl
  | v :: vs => by
    show ((wipeG Γ vs).set v none).length = _
    rw [List.length_set, wipeG_len vs]
/-- over one name -/
theorem el_lcN {wi : TI} {vs : List Nat} {k : Nat} {b : Nat → PyData} (hi : EI K wi Γ n ds) (hk : k ∈ vs) (he : ∀ i, i < n → ED K te ((wipeG Γ vs).set k (some (ds i))) (b i)) (hb : ∀ i, i < n → noL (b i) = true) (hn : n ≤ 40000) : EL K (tLc wi (gName k) tYes te vs) Γ ((List.range n).map b) :=
  el_lc1 hi [k] (fun j hj => by rw [List.mem_singleton.mp hj]; exact hk) (fun i => (wipeG Γ vs).set k (some (ds i))) (fun i _ => eg_name) (fun i _ => by rw [List.length_set, wipeG_len]) he hb hn
theorem el_lcNf {wi : TI} {vs : List Nat} {k : Nat} {b : Nat → PyData} {tt : TT} {f : Nat → Bool} (hi : EI K wi Γ n ds) (hk : k ∈ vs) (ht : ∀ i, i < n → ET K tt ((wipeG Γ vs).set k (some (ds i))) (f i)) (he : ∀ i, i < n → f i = true → ED K te ((wipeG Γ vs).set k (some (ds i))) (b i))
    (hb : ∀ i, i < n → noL (b i) = true) (hn : n ≤ 40000) : EL K (tLc wi (gName k) tt te vs) Γ (((List.range n).filter f).map b) :=
  el_lc hi [k] (fun j hj => by rw [List.mem_singleton.mp hj]; exact hk) (fun i => (wipeG Γ vs).set k (some (ds i))) (fun i _ => eg_name) (fun i _ => by rw [List.length_set, wipeG_len]) ht he hb hn
/-- over pairs -/
theorem el_lcP {wi : TI} {vs : List Nat} {k l : Nat} {d1 d2 : Nat → PyData} {b : Nat → PyData} (hi : EI K wi Γ n (fun i => .tuple [d1 i, d2 i])) (hk : k ∈ vs) (hl : l ∈ vs) (he : ∀ i, i < n → ED K te (((wipeG Γ vs).set k (some (d1 i))).set l (some (d2 i))) (b i)) (hb : ∀ i, i < n → noL (b i) = true) (hn : n ≤ 40000) :
    EL K (tLc wi (gTup K 2 (gCons (gName k) (gCons (gName l) gNil))) tYes te vs) Γ ((List.range n).map b) :=
  el_lc1 hi [k, l] (fun j hj => by
    rcases List.mem_cons.mp hj with h | h
    · rw [h]; exact hk
    · rw [List.mem_singleton.mp h]; exact hl) (fun i => ((wipeG Γ vs).set k (some (d1 i))).set l (some (d2 i))) (fun i _ => eg_pair) (fun i _ => by rw [List.length_set, List.length_set, wipeG_len]) he hb hn
/-- of new lists -/
theorem el_lcL {wi : TI} {vs : List Nat} {k : Nat} {b : Nat → List PyData} (hi : EI K wi Γ n ds) (hk : k ∈ vs) (he : ∀ i, i < n → EL K te ((wipeG Γ vs).set k (some (ds i))) (b i)) (hb : ∀ i, i < n → noL.noLs (b i) = true) (hn : n ≤ 40000) : EL K (tLc wi (gName k) tYes te vs) Γ ((List.range n).map fun i => .list (b i)) := fun σ H gs Q q =>
  hi σ H gs _ fun J H1 e1 W D hD => by
    let P : Nat → Hp → Prop := fun i H' => Ex H1 H' ∧ ∃ acc : List V, H' D = some (.lst acc) ∧ acc.length = i ∧ ∀ j, j < i → ∃ p ws, acc[j]? = some (.ref p) ∧ p ≠ D ∧ H' p = some (.lst ws) ∧ DpAll K H' ws (b j)
    refine ⟨fun i m H' => m = n - i ∧ i ≤ n ∧ P i H', ⟨n, by simp, Nat.zero_le _, Ex.new hD, [], upd_same, rfl, fun j hj => by omega⟩, ?_⟩
    rintro i m H' ⟨rfl, hin, p⟩
    obtain ⟨e2, acc, hacc, hlen, hall⟩ := p
    by_cases hlt : i < n
    · refine .inr ⟨W.go i H' hlt e2, P (i + 1), fun H3 p' => ⟨n - (i + 1), by omega, rfl, hlt, p'⟩, fun x H3 hy => ?_⟩
      obtain ⟨e3, hx⟩ := W.yld i H' x H3 hlt e2 hy
      have gs1 : Sg K H3 (L2.wipe σ vs) (wipeG Γ vs) := (gs.ex ((e1.trans e2).trans e3)).wipe vs
      refine ⟨wipe_set hk, ?_⟩
      refine iteT (B := P (i + 1) H3) (he i hlt _ H3 (gs1.set k hx) _ fun p ws H6 hp e6 hws hdp => ?_)
      have e36 : Ex H' H6 := e3.trans e6
      have hpD : p ≠ D := fun z => by rw [z, e3 D _ hacc] at hp; cases hp
      have tx : Tx H6 (upd H6 D (.lst (acc ++ [.ref p]))) := Tx.put (e36 D _ hacc)
      refine ⟨acc, e36 D _ hacc, sz_lt (by omega), Ex.mut (e2.trans e36) hD, acc ++ [.ref p], upd_same, by rw [List.length_append, hlen]; rfl, fun j hj => ?_⟩
      by_cases hji : j < i
      · obtain ⟨p', ws', h1, h2, h3, h4⟩ := hall j hji
        refine ⟨p', ws', by rw [List.getElem?_append_left (by omega)]; exact h1, h2, by rw [upd_ne h2]; exact e36 _ _ h3, dpa_tx tx _ _ (hb j (by omega)) (dpa_ex e36 _ _ h4)⟩
      · have : j = i := by omega
        subst this
        refine ⟨p, ws, by rw [List.getElem?_append_right (by omega), hlen, Nat.sub_self]; rfl, hpD, by rw [upd_ne hpD]; exact hws, dpa_tx tx _ _ (hb j hlt) hdp⟩
    · have e : i = n := by omega
      subst e
      refine .inl ⟨W.stop H' e2, q D acc H' (fresh_back e1 hD) (e1.trans e2) hacc (DpAll.of_get (by rw [rng_len, hlen]) fun j v d hv hd => ?_)⟩
      have hj : j < i := by
        have := (List.getElem?_eq_some_iff.mp hv).1
        omega
      obtain ⟨p, ws, h1, h2, h3, h4⟩ := hall j hj
      rw [h1] at hv
      cases hv
      rw [rng_get hj] at hd
      cases hd
      exact .lst (SqL.of h3) h4
/-! loops -/
theorem sf_for {wi : TI} {g : TG} {tb : TS} {Γs Γi : Nat → Ga} {ks : List Nat} (hi : EI K wi (Γs 0) n ds) (hg : ∀ i, i < n → EG K g (Γs i) (ds i) (Γi i) ks) (hb : ∀ i, i < n → SF K tb (Γi i) (Γs (i + 1))) : SF K (tFor wi g tb) (Γs 0) (Γs n) := fun σ H D gs q =>
  hi σ H gs _ fun J H1 e1 W => by
    refine ⟨fun i m σ' H' => m = n - i ∧ i ≤ n ∧ Ex H1 H' ∧ Sg K H' σ' (Γs i), ⟨n, by simp, Nat.zero_le _, Ex.refl _, gs.ex e1⟩, ?_⟩
    rintro i m σ' H' ⟨rfl, hin, e2, g2⟩
    by_cases hlt : i < n
    · refine .inr ⟨W.go i H' hlt e2, fun σ' H' => Ex H1 H' ∧ Sg K H' σ' (Γs (i + 1)), fun σ3 H3 p => ⟨n - (i + 1), by omega, rfl, hlt, p.1, p.2⟩, fun x H3 hy => ?_⟩
      obtain ⟨e3, hx⟩ := W.yld i H' x H3 hlt e2 hy
      refine hg i hlt x σ' H3 (g2.ex e3) hx _ fun σ4 H4 e4 g4 _ => ?_
      exact hb i hlt σ4 H4 _ g4 fun σ5 H5 e5 g5 => ⟨((e2.trans e3).trans e4).trans e5, g5⟩
    · have e : i = n := by omega
      subst e
      exact .inl ⟨W.stop H' e2, q σ' H' (e1.trans e2) g2⟩
theorem sf_while {tt : TT} {tb : TS} {Γ' : Ga} (P : Nat → Ga → Prop) (m0 : Nat) (h0 : P m0 Γ) (hs : ∀ m Γ1, P m Γ1 → (ET K tt Γ1 false ∧ Γ1 = Γ') ∨ (ET K tt Γ1 true ∧ ∃ m' Γ2, m' < m ∧ SF K tb Γ1 Γ2 ∧ P m' Γ2)) : SF K (tWhile tt tb) Γ Γ' := fun σ H D gs q => by
  refine ⟨fun m σ' H' => Ex H H' ∧ ∃ Γ1, P m Γ1 ∧ Sg K H' σ' Γ1, ⟨m0, Ex.refl _, Γ, h0, gs⟩, ?_⟩
  rintro m σ' H' ⟨e1, Γ1, p, g1⟩
  rcases hs m Γ1 p with ⟨ht, rfl⟩ | ⟨ht, m', Γ2, hm, hb, p'⟩
  · exact ht σ' H' g1 _ fun H2 e2 => iteF (q σ' H2 (e1.trans e2) (g1.ex e2))
  · refine ht σ' H' g1 _ fun H2 e2 => iteT ⟨fun σ3 H3 => Ex H H3 ∧ Sg K H3 σ3 Γ2, fun σ3 H3 p3 => ⟨m', hm, p3.1, Γ2, p', p3.2⟩, hb σ' H2 _ (g1.ex e2) fun σ3 H3 e3 g3 => ⟨(e1.trans e2).trans e3, g3⟩⟩
end

/-! ### a def and its promise -/
structure Fnc (P : Program) (w : World) (K : PySem.W.Frag) (mg : Str → Option Value) (base : Heap) (x : Str) (k : Nat) (ps : List Str) (sp : Sp) (f : Addr) : Prop where
  ok : ∃ fd, FnOk P w K mg base CX0 k f fd ps sp ∧ Binds K fd ps []
  glo : mg x = some (.ref f)
  kp : PySem.W.keepIn K (.ref f) = true
theorem pe_fn {X : Cx} {x : Str} {k j : Nat} {ps : List Str} {sp : Sp} {f : Addr} {e : Expr} {es : List Expr} {t : TA} {p pos : Pos} (h : Fnc X.prog X.w X.K X.mg X.base x k ps sp f) (hr : Room j X.A) (ha : PA X (e :: es) t) (hkj : k ≤ j := by decide) (hg : Gl X x := by rfl) (hdb : (x == ("__debug__" : Str)) = false := by decide)
    (hs : starEach (e :: es) X.env = (false, eval e X.env) :: starEach es X.env := by rfl) (hpl : (backTo pos (starEach es X.env)).any (·.1) = false := by rfl) : PE X (.Call (.Name x p) (e :: es) [] pos) (tCall sp [] E0 t) := by
  obtain ⟨fd, F, b⟩ := h.ok
  exact pe_call F (hr.mono hkj) hg h.glo h.kp b .nil pass0 ha hdb hs hpl
section
variable {K : PySem.W.Frag}
theorem sg_start {H : Hp} {N : List Str} {vs : List V} {ds : List PyData} (h : DpAll K H vs ds) (hN : ds.length ≤ N.length) : Sg K H (L2.start N vs) (ds.map some ++ List.replicate (N.length - ds.length) none) := ⟨by
  have := h.len
  unfold L2.start
  rw [List.length_append, List.length_append, List.length_map, List.length_map, List.length_replicate, List.length_replicate]
  omega, fun i d hd => by
  have hl := h.len
  by_cases hi : i < ds.length
  · rw [List.getElem?_append_left (by rw [List.length_map]; exact hi), List.getElem?_map] at hd
    have hd' : ds[i]? = some d := by
      cases hq : ds[i]? with
      | none => rw [hq] at hd; cases hd
      | some z => rw [hq] at hd; cases hd; rfl
    obtain ⟨v, h1, h2⟩ := h.get hd'
    refine ⟨v, ?_, h2⟩
    unfold L2.start
    rw [List.getElem?_append_left (by rw [List.length_map]; omega), List.getElem?_map, h1]
    rfl
  · rw [List.getElem?_append_right (by rw [List.length_map]; omega), List.getElem?_replicate] at hd
    split at hd <;> cases hd⟩
end
end K35
/-! Further rules of values: zip of a list and a tuple, a tuple from behind, a tuple once, // by any divisor. -/
namespace K35
open PySem PySem.Spec PyProof.Rows L2 Evl HT

/-! ### // by a divisor of either sign -/
def DivZ (_ j : Int) : Prop := j ≠ 0 ∧ j.natAbs.log2 < 9000
theorem op_fdivZ {X : Cx} : OpR X (binaryOp .FloorDiv) (rI DivZ fun i j => .int (i.fdiv j)) := opI fun _ _ _ _ _ _ _ hc q => floordiv_int hc.1 q (.inl (PyProof.noPylong_of_log2 hc.2))

/-! ### zip of a list and a tuple -/
def ItM (K : PySem.W.Frag) (a b : Addr) : It where
  go := fun i H => ∃ xs ys : List V, SqL K H a xs ∧ SqT K H b ys ∧ i < min xs.length ys.length
  yld := fun i H v H' => ∃ T x y, v = .ref T ∧ H T = none ∧ H' = upd H T (.tup [x, y]) ∧ (∀ xs, SqL K H a xs → xs[i]? = some x) ∧ ∀ ys, SqT K H b ys → ys[i]? = some y
  stop := fun i H => ∃ xs ys : List V, SqL K H a xs ∧ SqT K H b ys ∧ i = min xs.length ys.length
theorem sep_of {z TI TO i1 i2 a b : Addr} (D : ZipApart z TI TO i1 i2 a b) : ZipSep2 z TI TO i1 i2 [i1, a] [i2, b] where
  TIz := D.TIz
  TOz := D.TOz
  TITO := D.TITO
  TIi1 := D.TIi1
  mem1 := by simp
  zf1 := by
    intro h
    rcases List.mem_cons.mp h with e | h
    · exact D.i1z e.symm
    · exact D.l1z (List.mem_singleton.mp h).symm
  Tf1 := by
    intro h
    rcases List.mem_cons.mp h with e | h
    · exact D.TOi1 e
    · exact D.l1TO (List.mem_singleton.mp h).symm
  TIi2 := D.TIi2
  mem2 := by simp
  zf2 := by
    intro h
    rcases List.mem_cons.mp h with e | h
    · exact D.i2z e.symm
    · exact D.l2z (List.mem_singleton.mp h).symm
  Tf2 := by
    intro h
    rcases List.mem_cons.mp h with e | h
    · exact D.TOi2 e
    · exact D.l2TO (List.mem_singleton.mp h).symm
  sep1_2 := by
    intro h
    rcases List.mem_cons.mp h with e | h
    · exact D.i12 e
    · exact D.l2i1 (List.mem_singleton.mp h).symm
  sep2_1 := by
    intro h
    rcases List.mem_cons.mp h with e | h
    · exact D.i12 e.symm
    · exact D.l1i2 (List.mem_singleton.mp h).symm
theorem five {z TI TO i1 i2 c : Addr} (h : c ∈ [z, TI, TO, i1, i2]) : c = z ∨ c = TI ∨ c = TO ∨ c = i1 ∨ c = i2 := by simpa using h
abbrev StM (z TI TO i1 i2 a b : Addr) (i : Nat) (h : Heap) : Prop := IsZip h z TI TO .none ∧ IsTupOf2 h TI (.ref i1) (.ref i2) ∧ (∃ x y, IsTupOf2 h TO x y) ∧ h.IsListIter i1 a i ∧ h.IsTupleIter i2 b i
theorem StM.old {z TI TO i1 i2 a b : Addr} {i : Nat} {h : Heap} (st : StM z TI TO i1 i2 a b i h) : ∀ c, c ∈ [z, TI, TO, i1, i2] → ∃ o, h.get? c = some o ∧ ∀ v, o.data ≠ .cell v := fun c hc => by
  obtain ⟨hz, hTI, ⟨x, y, hTO⟩, ⟨o1, e1, _, d1⟩, o2, e2, _, d2⟩ := st
  rcases five hc with q | q | q | q | q
  · subst q; exact ⟨_, hz, fun v q => nomatch q⟩
  · subst q; exact ⟨_, hTI, fun v q => nomatch q⟩
  · subst q; exact ⟨_, hTO, fun v q => nomatch q⟩
  · subst q; exact ⟨o1, e1, fun v q => by rw [d1] at q; cases q⟩
  · subst q; exact ⟨o2, e2, fun v q => by rw [d2] at q; cases q⟩
theorem turn_M {P : Program} {w : World} {K : PySem.W.Frag} {elts : List Expr} {kk : Nat} {tpos : Pos} {a b z TI TO i1 i2 : Addr} (D : ZipApart z TI TO i1 i2 a b) : Turn P w K (.Tuple elts kk tpos) (ItM K a b) [z, TI, TO, i1, i2] z (StM z TI TO i1 i2 a b) where
  mem := by simp
  obj := fun i h st c hc => st.old c hc
  keep := fun i h h' st k => by
    obtain ⟨hz, hTI, ⟨x, y, hTO⟩, h1, h2⟩ := st
    exact ⟨k z (by simp) _ hz, k TI (by simp) _ hTI, ⟨x, y, k TO (by simp) _ hTO⟩, h1.at fun o q => k i1 (by simp) o q, h2.at fun o q => k i2 (by simp) o q⟩
  item := by
    intro X eP ew eK hc i pins s σ H E I hf st hg
    subst eP ew eK
    obtain ⟨xs, ys, hx, hy, hlt⟩ := hg
    have old := st.old
    obtain ⟨hz, hTI, hTO, h1, h2⟩ := st
    obtain ⟨its, rv, p1, _⟩ := I.list hx
    obtain ⟨jts, rw', p2, _⟩ := I.tuple hy
    have l1 := rv.length
    have l2 := rw'.length
    have hh : X.A.in1.handled = none := I.ok.hd hc
    have W := GoesN.zip2 (prog := X.prog) (w := X.w) (A := X.A) (elts := elts) (x1 := kk) (pos := tpos) (sep_of D) (Draws.list hh i1 a D.l1i1 its.toArray) (Draws.tuple hh i2 b D.l2i2 jts.toArray)
    refine W.goes i s (fun u s2 => ∃ x H', Inv X pins σ H' s2 ∧ RelV x u ∧ (ItM X.K a b).yld i H x H' ∧ StM z TI TO i1 i2 a b (i + 1) s2.heap ∧ ∀ c ∈ [z, TI, TO, i1, i2], H' c = none) E (by rw [List.size_toArray, List.size_toArray]; omega)
      ⟨hz, hTI, hTO, ⟨h1, p1.isList⟩, h2, p2⟩ fun v h' tk hY st' hk _ => ?_
    obtain ⟨T, x, y, rfl, hnew, e1, e2, hT⟩ := hY
    obtain ⟨hz', hTI', hTO', ⟨h1', _⟩, h2', _⟩ := st'
    obtain ⟨u, hu, ru⟩ : ∃ u, xs[i]? = some u ∧ RelV u x := by
      have hi : i < xs.length := by omega
      obtain ⟨q, hq, rq⟩ := rv.get (List.getElem?_eq_getElem hi)
      have : its[i]? = some x := by simpa using e1
      rw [this] at hq
      cases hq
      exact ⟨_, List.getElem?_eq_getElem hi, rq⟩
    obtain ⟨u2, hu2, ru2⟩ : ∃ u, ys[i]? = some u ∧ RelV u y := by
      have hi : i < ys.length := by omega
      obtain ⟨q, hq, rq⟩ := rw'.get (List.getElem?_eq_getElem hi)
      have : jts[i]? = some y := by simpa using e2
      rw [this] at hq
      cases hq
      exact ⟨_, List.getElem?_eq_getElem hi, rq⟩
    have new : ObjOk X.prog X.w (upd H T (.tup [u, u2])) h' T (.tup [u, u2]) := ⟨by show 2 ≤ sizeLine; decide, [x, y], .cons ru (.cons ru2 .nil), hT⟩
    have I1 : Inv X pins σ (upd H T (.tup [u, u2])) { s with heap := h', toks := tk } := I.turnedNew (t' := tk) (ch := [z, TI, TO, i1, i2]) (fun c o hb q => hk c o (fun m => hb (by
      have : c = z ∨ c = TO ∨ c = i1 ∨ c = i2 := by simpa using m
      rcases this with q | q | q | q <;> simp [q])) q) hf hnew new
    refine ⟨.ref T, _, I1, rfl, ⟨T, u, u2, rfl, I.hok.fresh hnew, rfl, fun l hl => by rw [I.list_inj hl hx]; exact hu, fun l hl => by rw [I.tuple_inj hl hy]; exact hu2⟩, ⟨hz', hTI', hTO', h1', h2'⟩, fun c hcm => ?_⟩
    obtain ⟨o, ho, _⟩ := old c hcm
    rw [upd_ne (Nat.ne_of_lt (Nat.lt_of_lt_of_le (Heap.lt_size ho) hnew))]
    exact (hf c hcm).1
  done := by
    intro X eP ew eK hc i pins s σ H E I hf st hg
    subst eP ew eK
    obtain ⟨xs, ys, hx, hy, hlt⟩ := hg
    obtain ⟨hz, hTI, hTO, h1, h2⟩ := st
    obtain ⟨its, rv, p1, _⟩ := I.list hx
    obtain ⟨jts, rw', p2, _⟩ := I.tuple hy
    have l1 := rv.length
    have l2 := rw'.length
    have hh : X.A.in1.handled = none := I.ok.hd hc
    have W := GoesN.zip2 (prog := X.prog) (w := X.w) (A := X.A) (elts := elts) (x1 := kk) (pos := tpos) (sep_of D) (Draws.list hh i1 a D.l1i1 its.toArray) (Draws.tuple hh i2 b D.l2i2 jts.toArray)
    have en : min its.toArray.size jts.toArray.size = i := by
      rw [List.size_toArray, List.size_toArray]
      omega
    rw [en] at W
    refine W.stops s (fun s2 => Inv X pins σ H s2) E ⟨hz, hTI, hTO, ⟨h1, p1.isList⟩, h2, p2⟩ fun h' tk hk _ => ?_
    exact I.turnedL (t' := tk) (ch := [z, TI, TO, i1, i2]) (fun c o hb q => hk c o (fun m => hb (by
      have : c = z ∨ c = TO ∨ c = i1 ∨ c = i2 := by simpa using m
      rcases this with q | q | q | q <;> simp [q])) q) hf
  self := fun A i s Q E st h => wpAny_pyIter_zip st.1 h
/-- two lists, two tuples, a list and a tuple -/
def iZipM (K : PySem.W.Frag) (ta : TA) : TI := fun σ H R => ta σ H fun vs H1 => ∃ a b xs ys, vs = [.ref a, .ref b] ∧ SqL K H1 a xs ∧ SqT K H1 b ys ∧ R (ItM K a b) H1
theorem pi_zipM {X : Cx} {e e2 : Expr} {ta : TA} {p pos tpos : Pos} {elts : List Expr} {kk : Nat} (hg : Gl X "zip") (hm : X.mg "zip" = none) (ha : PA X [e, e2] ta)
    (hs : starEach [e, e2] X.env = (false, eval e X.env) :: starEach [e2] X.env := by rfl) (hpl : (backTo pos (starEach [e2] X.env)).any (·.1) = false := by rfl) :
    PI X (.Tuple elts kk tpos) (.Call (.Name "zip" p) [e, e2] [] pos) (iZipM X.K ta) := ⟨fun pins s σ H R I h => by
  refine Call_ (ld_blt I hg hm PyProof.Rows.boot_zip (PyProof.Rows.callWith_type1 (thn (ha.run pos pins s σ H _ I h) fun us s1 ⟨vs, H1, I1, r1, q1⟩ => ?_) hs hpl))
  obtain ⟨a, b, xs, ys, rfl, hx, hy, q⟩ := q1
  obtain ⟨u1, u2, rfl, ra, rb⟩ := vals2 r1
  cases ra
  cases rb
  obtain ⟨its, rv, p1, _⟩ := I1.list hx
  obtain ⟨jts, rw', p2, _⟩ := I1.tuple hy
  have la : a < s1.heap.objs.size := p1.lt
  have lb : b < s1.heap.objs.size := p2.lt
  refine zip_begins2 (begins_list a its.toArray) (begins_tuple b jts.toArray) p1.isList p2 fun h' hz hTI hTO h1 h2 _ hk => wpAny_pyIter_zip hz ?_
  have I2 : Inv X pins σ H1 { s1 with heap := h' } := I1.kept (t' := s1.toks) hk
  refine ⟨s1.heap.objs.size + 4, [s1.heap.objs.size + 4, s1.heap.objs.size + 2, s1.heap.objs.size + 3, s1.heap.objs.size, s1.heap.objs.size + 1], _, _, H1, rfl, I2, turn_M (PySem.W.ktu_apart s1.heap.objs.size a b la lb), ⟨hz, hTI, ⟨_, _, hTO⟩, ⟨_, h1, rfl, rfl⟩, _, h2, rfl, rfl⟩, fun c hcm => ?_, q⟩
  have hle : s1.heap.objs.size ≤ c := by
    rcases five hcm with z | z | z | z | z
    · rw [z]; exact Nat.le_add_right _ _
    · rw [z]; exact Nat.le_add_right _ _
    · rw [z]; exact Nat.le_add_right _ _
    · rw [z]; exact Nat.le_refl _
    · rw [z]; exact Nat.le_add_right _ _
  exact I1.fpOk hle (I1.hok.fresh hle)⟩

/-! ### t[::-1] of a tuple -/
section
variable {prog : Program} {w : World} {A : Around} {E : Value → Shared → Prop} {s : Shared}
theorem back_adjust (n : Nat) : Builtin.Slice.sliceAdjust none none (-1) (n : Int) = ((n : Int) - 1, -1) := by
  unfold Builtin.Slice.sliceAdjust
  simp
theorem back_places (n : Nat) : Builtin.Slice.slicePlaces ((n : Int) - 1) (-1) (-1) = n := by
  unfold Builtin.Slice.slicePlaces
  rw [if_neg (by decide)]
  by_cases h : (n : Int) - 1 > -1
  · rw [if_pos h]
    have : ((n : Int) - 1 - -1 - 1) / (- -1) = (n : Int) - 1 := by
      rw [show (- -1 : Int) = 1 by decide, Int.ediv_one]
      omega
    rw [this]
    omega
  · rw [if_neg h]
    have : n = 0 := by omega
    subst this
    rfl
theorem fm_congr {α β : Type} {f g : α → Option β} : ∀ {l : List α}, (∀ x, x ∈ l → f x = g x) → l.filterMap f = l.filterMap g
  | [], _ => rfl
  | a :: l, h => by rw [List.filterMap_cons, List.filterMap_cons, h a List.mem_cons_self, fm_congr fun x hx => h x (List.mem_cons_of_mem _ hx)]
theorem back_pick (xs : Array Value) : ((List.range xs.size).filterMap fun (k : Nat) => xs[(((xs.size : Nat) : Int) - 1 + (k : Int) * (-1)).toNat]?).toArray = xs.toList.reverse.toArray := by
  have e : (List.range xs.size).filterMap (fun (k : Nat) => xs[(((xs.size : Nat) : Int) - 1 + (k : Int) * (-1)).toNat]?) = ((List.range xs.size).map fun k => xs.size - 1 - k).filterMap (xs[·]?) := by
    rw [List.filterMap_map]
    refine fm_congr fun k hk => ?_
    have := List.mem_range.mp hk
    show xs[(((xs.size : Nat) : Int) - 1 + (k : Int) * (-1)).toNat]? = xs[xs.size - 1 - k]?
    rw [show (((xs.size : Nat) : Int) - 1 + (k : Int) * (-1)).toNat = xs.size - 1 - k by omega]
  rw [e, PySem.W.krv_range, List.filterMap_reverse, PySem.W.krv_all]
theorem getItem_back {t sl : Addr} {items : Array Value} {vk : Value} {Q : Value → Shared → Prop} (ht : IsTup s.heap t items) (hs : s.heap.IsSliceOf sl .none .none vk) (pk : IsPart vk (some (-1)))
    (h : Q (.ref s.heap.objs.size) { s with heap := s.heap.push { cls := .type "tuple", data := .seq items.toList.reverse.toArray } }) (hsz : items.size ≤ sizeLine) : wpAny (model prog w) A (getItem (.ref t) (.ref sl)) Q E s := by
  have hok : sizeOk (.seq items.toList.reverse.toArray) := by
    show items.toList.reverse.toArray.size ≤ sizeLine
    rw [List.size_toArray, List.length_reverse, Array.length_toList]
    exact hsz
  obtain ⟨os, hos, hcs, hds⟩ := id hs
  have isSl : s.TypeIs (.ref sl) "slice" := ⟨os, hos, hcs⟩
  unfold getItem
  try with_reducible refine wpAny_holding ?_
  first | refine wpAny_bind (wpAny_pure ?_) | skip
  refine wpAny_bind (wpAny_sequenceKey ht.typeIs (by decide) ?_)
  refine wpAny_bind (wpAny_callSpecial?_slot (name := Str.ofString "__getitem__") ht.typeIs PyProof.Rows.slot_tuple_getitem (wpAny_call_entry PyProof.Rows.slot_tuple_getitem ht.typeIs entry_tuple_getitem ?_ (args_tuple_getitem _ _)))
  show wpAny _ _ (Builtin.Tuple.tupleItemsOf (.ref t) >>= _) _ _ s
  refine wpAny_bind (tupleItemsOf_ ht ?_)
  refine wpAny_bind (wpAny_typeOf isSl ?_)
  rw [if_pos (by decide)]
  refine wpAny_bind ?_
  unfold Builtin.Slice.sliceApplied Builtin.Slice.sliceFields
  refine wpAny_bind (wpAny_bind (wpAny_field hos hds (x := .none) rfl (wpAny_bind (wpAny_field hos hds (x := .none) rfl (wpAny_bind (wpAny_field hos hds (x := vk) rfl (wpAny_pure ?_)))))))
  refine wpAny_bind (slicePart_ pk ?_)
  show wpAny _ _ (if ((-1 : Int) == 0) = true then _ else _) _ _ s
  rw [if_neg (by decide)]
  refine wpAny_bind (slicePart_ .none (wpAny_bind (slicePart_ .none (wpAny_bind (wpAny_pure ?_)))))
  show wpAny _ _ (match Builtin.Slice.sliceAdjust none none (-1) ((items.size : Nat) : Int) with | (lo, hi) => pure (lo, (-1 : Int), Builtin.Slice.slicePlaces lo hi (-1))) _ _ s
  rw [back_adjust]
  show wpAny _ _ (pure (((items.size : Nat) : Int) - 1, (-1 : Int), Builtin.Slice.slicePlaces (((items.size : Nat) : Int) - 1) (-1) (-1))) _ _ s
  rw [back_places]
  refine wpAny_pure ?_
  have hno : ¬ (((((items.size : Nat) : Int) - 1) == 0 && (-1 : Int) == 1 && items.size == items.size) = true) := by
    intro q
    rw [Bool.and_eq_true, Bool.and_eq_true] at q
    exact absurd q.1.2 (by decide)
  show wpAny _ _ (if ((((items.size : Nat) : Int) - 1) == 0 && (-1 : Int) == 1 && items.size == items.size) = true then _ else _) _ _ s
  rw [if_neg hno, back_pick]
  first
    | exact wpAny_bind (m := Builtin.Tuple.tupleExact _) (wpAny_newObj_type (wpAny_pure ⟨_, rfl, wpAny_pure h⟩) hok)
    | exact wpAny_bind (m := Builtin.Tuple.tupleExact _) (wpAny_newObj_type (wpAny_bind (wpAny_pure (wpAny_pure ⟨_, rfl, wpAny_pure h⟩))) hok)
    | exact wpAny_bind (wpAny_bind (m := Builtin.Tuple.tupleExact _) (wpAny_newObj_type (wpAny_pure (wpAny_pure ⟨_, rfl, wpAny_pure h⟩)) hok))
    | exact wpAny_bind (wpAny_bind (m := Builtin.Tuple.tupleExact _) (wpAny_newObj_type (wpAny_pure ⟨_, rfl, wpAny_pure h⟩) hok))
end
def tBackT (K : PySem.W.Frag) (te : TE) : TE := fun σ H Q => te σ H fun x H1 => ∃ a xs, x = .ref a ∧ SqT K H1 a xs ∧ ∀ p, H1 p = none → Q (.ref p) (upd H1 p (.tup xs.reverse))
theorem pe_backT {X : Cx} {e : Expr} {te : TE} {k : Nat} {p1 p2 p3 pos : Pos} (he : PE X e te) : PE X (.Subscript e (.Slice none none (some (.UnaryOp .USub (.Constant (.int 1) k p1) p2)) p3) pos) (tBackT X.K te) := ⟨fun pins s σ H Q I h => by
  refine Subscript_ (thn (he.run pins s σ H _ I h) fun v s1 ⟨x, H1, I1, r1, a, xs, ex, hx, q⟩ => ?_)
  subst ex
  cases r1
  have step : PO X (some (.UnaryOp .USub (.Constant (.int 1) k p1) p2)) (tPart (tUn (rU fun i => .int (-i)) (tC (.int 1)))) := po_some (pe_un un_neg pe_int)
  refine wpAny_Slice (thn (po_none.run pins s1 σ H1 (fun o H2 => o = none ∧ H2 = H1) I1 ⟨rfl, rfl⟩) fun vl s2 ⟨l, H2, I2, pl, el, e2⟩ => ?_)
  subst el e2
  refine thn (po_none.run pins s2 σ H2 (fun o H3 => o = none ∧ H3 = H2) I2 ⟨rfl, rfl⟩) fun vu s3 ⟨u, H3, I3, pu, eu, e3⟩ => ?_
  subst eu e3
  refine thn (step.run pins s3 σ H3 (fun o H4 => o = some (-1) ∧ H4 = H3) I3 ⟨1, rfl, -1, rfl, rfl, rfl⟩) fun vs s4 ⟨o, H4, I4, ps, eo, e4⟩ => ?_
  subst eo e4
  cases pl
  cases pu
  have I5 : Inv X pins σ H4 { s4 with heap := s4.heap.push { cls := .type "slice", data := .fields #[.none, .none, vs] } } := I4.kept (t' := s4.toks) fun b ob q => Heap.get?_push_of_some _ q
  obtain ⟨its, r, ht, hz⟩ := I5.tuple hx
  have hlen := r.length
  show wpAny (model X.prog X.w) X.A (subscriptTail e (.Slice none none (some (.UnaryOp .USub (.Constant (.int 1) k p1) p2)) p3) (.ref a) (.ref s4.heap.objs.size)) (EP X pins σ Q) X.xe { s4 with heap := s4.heap.push { cls := .type "slice", data := .fields #[.none, .none, vs] } }
  refine tail_any (ops := [.ref a, .ref s4.heap.objs.size]) ht.typeIs PyProof.Rows.slot_tuple_getitem.lookup ?_ (by with_unfolding_all rfl)
  refine getItem_back ht (Heap.IsSliceOf.new _ .none .none vs) ps ?_ (by rw [List.size_toArray]; omega)
  refine ⟨.ref _, _, I5.laid (t' := s4.toks) (o := .tup xs.reverse) (fun b ob q => Heap.get?_push_of_some _ q) (Nat.le_refl _) ?_, rfl, q _ (I5.hok.fresh (Nat.le_refl _))⟩
  exact ⟨by rw [List.length_reverse]; exact hz, _, r.reverse, IsTup.new _ _⟩⟩

/-! ### a tuple once -/
theorem once_meets (l : Addr) (items : Array Value) (n : Nat) (dd : Option Addr) (sl : Array (Option Value)) (u : Tok) :
    Meets (Builtin.«tuple.__mul__» ⟨[.ref l, .int 1 u], []⟩) (fun _ R s => s.heap.get? l = some { cls := .type "tuple", dict := dd, data := .seq items n, slots := sl } ∧ R (.ok (.ret (Value.ref l))) s) :=
  .of_wp fun prog w A R s h => by
    obtain ⟨hp, g, d, tk, os⟩ := s
    obtain ⟨hl, h⟩ := h
    have f1 := AutoSeq1.idx_int
    wp_walk using wpAny_loadPart' hl
    exact ⟨_, rfl, h⟩
/-- t * k, k from 1 on: once it is itself -/
def rTimesT (K : PySem.W.Frag) : R2 := fun x y H Q => ∃ l k xs, x = .ref l ∧ y = .int k ∧ SqT K H l xs ∧ xs ≠ [] ∧ 1 ≤ k ∧ k ≤ 1000 ∧ xs.length ≤ 1000 ∧ (k = 1 → Q (.ref l) H) ∧ (2 ≤ k → ∀ p, H p = none → Q (.ref p) (upd H p (.tup (List.replicate k.toNat xs).flatten)))
theorem op_timesT {X : Cx} : OpR X (binaryOp .Mult) (rTimesT X.K) := by
  intro pins s σ H x y v u Q I rx ry h
  obtain ⟨l, k, xs, rfl, rfl, hT, hne, h1, h2, hz, q1, q2⟩ := h
  by_cases hk : k = 1
  · subst hk
    cases rx
    obtain ⟨t, rfl⟩ := ry
    obtain ⟨its, r, ⟨⟨cls, dd, data, sl⟩, ho, hc, n, hd⟩, hs⟩ := I.tuple hT
    simp only at hc hd
    subst hc hd
    exact wpAny_binaryOp_repeat_ref (T := "tuple") (U := "int") (by decide) ⟨_, ho, rfl⟩ (fun s' => typeIs_int s' 1 t) noFill_tuple_mul F.fills_int_mul F.slot_int_rmul repeat_tuple F.slot_int_index.lookup
      (call_meets F.slot_int_rmul (typeIs_int s 1 t) F.entry_int_rmul (F.args_int_rmul_2 _ _) (int_rmul_tuple 1 t l its.toArray n dd sl)
        ⟨ho, rfl, ⟨_, ho, rfl⟩, call_meets F.slot_tuple_mul ⟨_, ho, rfl⟩ F.entry_tuple_mul (F.args_tuple_mul_2 _ _) (once_meets l its.toArray n dd sl t) ⟨ho, ⟨.ref l, H, I, rfl, q1 rfl⟩⟩⟩)
  · exact op_repT pins s σ H _ _ v u Q I rx ry ⟨l, k, xs, rfl, rfl, hT, hne, by omega, h2, hz, q2 (by omega)⟩

/-! ### by data -/
section
variable {K : PySem.W.Frag} {Γ : Ga} {n : Nat} {ta te tb : TE} {d1 d2 : Nat → PyData} {tr : TA} {ds : List PyData} {i j k : Int}
theorem ei_zipM (h : EA K tr Γ [.list ((List.range n).map d1), .tuple ((List.range n).map d2)]) : EI K (iZipM K tr) Γ n (fun i => .tuple [d1 i, d2 i]) := fun σ H g R q => h σ H g _ fun vs H1 e1 ha => by
  obtain ⟨v, w, rfl, hv, hw⟩ := dpa2 ha
  obtain ⟨a, xs, rfl, hs, hx⟩ := dp_lst hv
  obtain ⟨b, ys, rfl, ht, hy⟩ := dp_tup hw
  have l1 := hx.len
  have l2 := hy.len
  rw [rng_len] at l1 l2
  refine ⟨a, b, xs, ys, rfl, hs, ht, q _ H1 e1 ⟨fun i H2 hi e2 => ⟨xs, ys, ex_l e2 hs, ex_t e2 ht, by omega⟩, fun H2 e2 => ⟨xs, ys, ex_l e2 hs, ex_t e2 ht, by omega⟩, fun i H2 x H3 hi e2 hyd => ?_⟩⟩
  obtain ⟨T, u, z, rfl, hT, rfl, f1, f2⟩ := hyd
  obtain ⟨d, hd, hp⟩ := hx.get' (f1 xs (ex_l e2 hs))
  obtain ⟨d', hd', hp'⟩ := hy.get' (f2 ys (ex_t e2 ht))
  rw [rng_get hi] at hd hd'
  cases hd
  cases hd'
  exact pair_dp hT (dp_ex e2 _ _ hp) (dp_ex e2 _ _ hp')
theorem ei_zipT (h : EA K tr Γ [.tuple ((List.range n).map d1), .tuple ((List.range n).map d2)]) : EI K (RZ.iZipA K tr) Γ n (fun i => .tuple [d1 i, d2 i]) := fun σ H g R q => h σ H g _ fun vs H1 e1 ha => by
  obtain ⟨v, w, rfl, hv, hw⟩ := dpa2 ha
  obtain ⟨a, xs, rfl, hs, hx⟩ := dp_tup hv
  obtain ⟨b, ys, rfl, ht, hy⟩ := dp_tup hw
  have l1 := hx.len
  have l2 := hy.len
  rw [rng_len] at l1 l2
  refine ⟨a, b, xs, ys, rfl, .inr ⟨hs, ht, q _ H1 e1 ⟨fun i H2 hi e2 => ⟨xs, ys, xs[i]'(by omega), ys[i]'(by omega), ex_t e2 hs, ex_t e2 ht, List.getElem?_eq_getElem _, List.getElem?_eq_getElem _⟩, fun H2 e2 => ⟨xs, ys, ex_t e2 hs, ex_t e2 ht, .inl (by omega)⟩, fun i H2 x H3 hi e2 hyd => ?_⟩⟩⟩
  obtain ⟨T, u, z, rfl, hT, rfl, f1, f2⟩ := hyd
  obtain ⟨d, hd, hp⟩ := hx.get' (f1 xs (ex_t e2 hs))
  obtain ⟨d', hd', hp'⟩ := hy.get' (f2 ys (ex_t e2 ht))
  rw [rng_get hi] at hd hd'
  cases hd
  cases hd'
  exact pair_dp hT (dp_ex e2 _ _ hp) (dp_ex e2 _ _ hp')
theorem ed_backT (h : ED K te Γ (.tuple ds)) : ED K (tBackT K te) Γ (.tuple ds.reverse) := fun σ H g Q q => h σ H g _ fun v H1 e1 hv => by
  obtain ⟨a, xs, rfl, hs, hx⟩ := dp_tup hv
  refine ⟨a, xs, rfl, hs, fun p hp => ?_⟩
  have e2 : Ex H1 (upd H1 p (.tup xs.reverse)) := Ex.new hp
  exact q _ _ (e1.trans e2) (.tup (SqT.of upd_same) (dpa_ex e2 _ _ hx.rev))
theorem dpa_rep {H : Hp} {xs : List V} (h : DpAll K H xs ds) : ∀ k, DpAll K H (List.replicate k xs).flatten (List.replicate k ds).flatten
  | 0 => .nil
  | k + 1 => by
    rw [List.replicate_succ, List.replicate_succ, List.flatten_cons, List.flatten_cons]
    exact h.app (dpa_rep h k)
theorem ed_timesT (h : ED K ta Γ (.tuple ds)) (h2 : ED K tb Γ (.int k)) (hd : ds ≠ []) (h1 : 1 ≤ k ∧ k ≤ 1000) (hz : ds.length ≤ 1000) : ED K (tOp (rTimesT K) ta tb) Γ (.tuple (List.replicate k.toNat ds).flatten) := ed_op h h2 fun x y H hx hy Q q => by
  obtain ⟨a, xs, rfl, hs, ha⟩ := dp_tup hx
  rw [dp_int hy]
  have hl := ha.len
  refine ⟨a, k, xs, rfl, rfl, hs, fun z => hd (by subst z; cases ha; rfl), h1.1, h1.2, by omega, fun e => ?_, fun _ p hp => ?_⟩
  · refine q _ H (Ex.refl H) ?_
    subst e
    show Dp K H _ (.tuple (List.replicate 1 ds).flatten)
    rw [List.replicate_one, List.flatten_cons, List.flatten_nil, List.append_nil]
    exact .tup hs ha
  · have e2 : Ex H (upd H p (.tup (List.replicate k.toNat xs).flatten)) := Ex.new hp
    exact q _ _ e2 (.tup (SqT.of upd_same) (dpa_ex e2 _ _ (dpa_rep ha _)))
theorem el_repL (h : EL K ta Γ ds) (h2 : ED K tb Γ (.int k)) (h1 : 0 ≤ k ∧ k ≤ 1000) (hz : ds.length ≤ 50) : EL K (tOp rRep ta tb) Γ (List.replicate k.toNat ds).flatten := fun σ H g Q q =>
  h σ H g _ fun p vs H1 hp e1 hv ha => h2 σ H1 (g.ex e1) _ fun y H2 e2 hy => by
    rw [dp_int hy]
    have hl := ha.len
    refine ⟨p, k, vs, rfl, rfl, e2 _ _ hv, by omega, by omega, sz_of ?_, fun l hl => ?_⟩
    · have := Nat.mul_le_mul (show vs.length ≤ 50 by omega) (show k.toNat ≤ 1000 by omega)
      omega
    · have e3 : Ex H2 (upd H2 l (.lst (List.replicate k.toNat vs).flatten)) := Ex.new hl
      exact q l _ _ (fresh_back (e1.trans e2) hl) ((e1.trans e2).trans e3) upd_same (dpa_ex e3 _ _ (dpa_rep (dpa_ex e2 _ _ ha) _))
end
end K35
/-! The program's text by places, what its top leaves, a def's promise by its body. -/
namespace K35
open PySem PySem.Spec PyProof.Rows L2 Evl
def top (i : Nat) : Stmt := PySem.Challenge.pw_slanttables_k35_whole_papers.main.body.getD i (.Pass ⟨0, 0, 0, 0⟩)
def dd (i : Nat) (x : Str) : He.DefD := ⟨(x, none), x, x, defArgs (top i), defBody (top i), defScope (top i), [], []⟩
def fn : List He.DefD := [dd 3 "is_whole", dd 4 "is_upto", dd 5 "common", dd 6 "share", dd 7 "share_good", dd 8 "add", dd 9 "less", dd 10 "times", dd 11 "by", dd 12 "total", dd 13 "product_sum", dd 14 "scaled", dd 15 "rows_less", dd 16 "whole_row", dd 17 "unit_row", dd 27 "slants_good", dd 28 "check_slants", dd 29 "size_of", dd 30 "tabled", dd 31 "turned_slants", dd 32 "cornered", dd 33 "corner", dd 34 "is_row", dd 35 "check_row", dd 36 "made", dd 37 "times_row", dd 39 "lined", dd 40 "free_by", dd 41 "backs_by", dd 42 "free_rows", dd 43 "free_many", dd 44 "rank_of", dd 45 "full_by", dd 46 "is_full", dd 47 "makes_unit", dd 48 "makes_noughts", dd 49 "paper_good", dd 50 "paper_of", dd 52 "first_steps", dd 53 "stepped", dd 54 "steps_by", dd 55 "weak_of", dd 56 "first_weak", dd 57 "check_strong", dd 58 "steps_of", dd 60 "_law_cell_at", dd 61 "_law_next", dd 62 "_law_pen_of", dd 63 "_law_draw", dd 64 "_law_share", dd 65 "_law_add", dd 66 "_law_times", dd 67 "_law_slants_by", dd 68 "_law_row_by", dd 69 "_law_free_right", dd 70 "law"]
def fa1 : List He.Fa := [.glo "is_whole", .glo "is_upto", .glo "common", .glo "share", .glo "share_good", .glo "add", .glo "less", .glo "times", .glo "by", .glo "total", .glo "product_sum", .glo "scaled", .glo "rows_less", .glo "whole_row", .glo "unit_row", .glo "slants_good", .glo "check_slants", .glo "size_of", .glo "tabled", .glo "turned_slants", .glo "cornered", .glo "corner", .glo "is_row", .glo "check_row", .glo "made", .glo "times_row", .glo "lined", .glo "free_by", .glo "backs_by", .glo "free_rows"]
def fa2 : List He.Fa := [.glo "free_many", .glo "rank_of", .glo "full_by", .glo "is_full", .glo "makes_unit", .glo "makes_noughts", .glo "paper_good", .glo "paper_of", .glo "first_steps", .glo "stepped", .glo "steps_by", .glo "weak_of", .glo "first_weak", .glo "check_strong", .glo "steps_of", .glo "_law_cell_at", .glo "_law_next", .glo "_law_pen_of", .glo "_law_draw", .glo "_law_share", .glo "_law_add", .glo "_law_times", .glo "_law_slants_by", .glo "_law_row_by", .glo "_law_free_right", .glo "law"]
def fa3 : List He.Fa := [.free "isinstance", .free "int", .free "bool", .free "tuple", .free "len", .free "abs", .free "all", .free "range", .free "zip", .free "list", .free "str", .free "enumerate", .free "max"]
def fa4 : List He.Fa := [.glo "NOUGHT", .glo "ONE", .int "MOST_SIZE" 5, .int "MOST" 50]
def fa : List He.Fa := fa1 ++ fa2 ++ fa3 ++ fa4
def loose0 : List Str := ["NOUGHT", "ONE", "is_whole", "is_upto", "common", "share", "share_good", "add", "less", "times", "by", "total", "product_sum", "scaled", "rows_less", "whole_row", "unit_row", "SlantError", "NoSlants", "NoRow", "NoNumber", "NotStrong", "MOST_SIZE", "MOST", "slants_good", "check_slants", "size_of", "tabled", "turned_slants", "cornered"]
def loose1 : List Str := ["corner", "is_row", "check_row", "made", "times_row", "lined", "free_by", "backs_by", "free_rows", "free_many", "rank_of", "full_by", "is_full", "makes_unit", "makes_noughts", "paper_good", "paper_of", "first_steps", "stepped", "steps_by", "weak_of", "first_weak", "check_strong", "steps_of", "_law_cell_at", "_law_next", "_law_pen_of", "_law_draw", "_law_share", "_law_add"]
def loose2 : List Str := ["_law_times", "_law_slants_by", "_law_row_by", "_law_free_right"]
def loose : List Str := loose0 ++ loose1 ++ loose2
def exB (K : PySem.W.Frag) : Bool := He.tupB K "NOUGHT" [.int 0, .int 1] && He.tupB K "ONE" [.int 1, .int 1]
/-- the scope of the block that a def's last row hands back -/
def exScope : Expr → Scope
  | .ListComp _ _ sc _ => sc
  | .Call _ (e :: _) _ _ => exScope e
  | _ => { kind := .function, names := [], isGenerator := false, isCoroutine := false }
def lcScope (st : Stmt) : Scope := match (defBody st).getLast? with
  | some (.Return (some e) _) => exScope e
  | _ => { kind := .function, names := [], isGenerator := false, isCoroutine := false }
/-- what the top leaves -/
structure Wd (K : PySem.W.Frag) (mg : Str → Option Value) : Prop where
  ex : ∃ h : Heap, K.In h ∧ h.Ns mainGlobals mg
  says : He.SaysD fa fn K
  tups : exB K = true
section
variable {K : PySem.W.Frag} {mg : Str → Option Value}
theorem Wd.glo (W : Wd K mg) (i : Nat) {x : Str} (h : fa[i]? = some (.glo x) := by rfl) : mg x = some (.ref (He.ga K x)) := by
  obtain ⟨hp, X, G⟩ := W.ex
  exact He.glo_ok X G (W.says.fact i h)
theorem Wd.free_ (W : Wd K mg) (i : Nat) {x : Str} (h : fa[i]? = some (.free x) := by rfl) : mg x = none := by
  obtain ⟨hp, X, G⟩ := W.ex
  exact He.free_ok X G (W.says.fact i h)
theorem Wd.int_ (W : Wd K mg) (i : Nat) {x : Str} {n : Int} (h : fa[i]? = some (.int x n) := by rfl) : ∃ t, mg x = some (.int n t) := by
  obtain ⟨hp, X, G⟩ := W.ex
  exact He.int_ok X G (W.says.fact i h)
theorem Wd.n_isinstance (W : Wd K mg) : mg "isinstance" = none := W.free_ 56
theorem Wd.n_int (W : Wd K mg) : mg "int" = none := W.free_ 57
theorem Wd.n_bool (W : Wd K mg) : mg "bool" = none := W.free_ 58
theorem Wd.n_tuple (W : Wd K mg) : mg "tuple" = none := W.free_ 59
theorem Wd.n_len (W : Wd K mg) : mg "len" = none := W.free_ 60
theorem Wd.n_abs (W : Wd K mg) : mg "abs" = none := W.free_ 61
theorem Wd.n_all (W : Wd K mg) : mg "all" = none := W.free_ 62
theorem Wd.n_range (W : Wd K mg) : mg "range" = none := W.free_ 63
theorem Wd.n_zip (W : Wd K mg) : mg "zip" = none := W.free_ 64
theorem Wd.n_list (W : Wd K mg) : mg "list" = none := W.free_ 65
theorem Wd.n_str (W : Wd K mg) : mg "str" = none := W.free_ 66
theorem Wd.n_enumerate (W : Wd K mg) : mg "enumerate" = none := W.free_ 67
theorem Wd.n_max (W : Wd K mg) : mg "max" = none := W.free_ 68
theorem Wd.nought (W : Wd K mg) : mg "NOUGHT" = some (.ref (He.ga K "NOUGHT")) := W.glo 69
theorem Wd.one (W : Wd K mg) : mg "ONE" = some (.ref (He.ga K "ONE")) := W.glo 70
theorem Wd.msize (W : Wd K mg) : ∃ t, mg "MOST_SIZE" = some (.int 5 t) := W.int_ 71
theorem Wd.most (W : Wd K mg) : ∃ t, mg "MOST" = some (.int 50 t) := W.int_ 72
theorem Wd.MOST_t (W : Wd K mg) : mg "MOST" = some (.int 50 W.most.choose) := W.most.choose_spec
theorem Wd.MOST_SIZE_t (W : Wd K mg) : mg "MOST_SIZE" = some (.int 5 W.msize.choose) := W.msize.choose_spec
/-- a share's datum -/
def shD (q : Rat) : PyData := .tuple [.int q.num, .int (q.den : Int)]
theorem Wd.d0 (W : Wd K mg) (H : Hp) : Dp K H (.ref (He.ga K "NOUGHT")) (shD 0) :=
  .tup (He.tupB_ok (Bool.and_eq_true_iff.mp W.tups).1 H) (.cons (.int 0) (.cons (.int 1) .nil))
theorem Wd.d1 (W : Wd K mg) (H : Hp) : Dp K H (.ref (He.ga K "ONE")) (shD 1) :=
  .tup (He.tupB_ok (Bool.and_eq_true_iff.mp W.tups).2 H) (.cons (.int 1) (.cons (.int 1) .nil))
end

/-! ### a def's promise by its body -/
def Bnd (st : Stmt) (x : Str) (ps : List Str) : Prop := ∀ (kV doc pm : Value) (an : Option Addr) (cdv ct : Value) (us : List Value), us.length = ps.length →
  bindArgs (PySem.W.fnOf x x (defArgs st) (defBody st) (defScope st) .none kV doc pm an cdv ct) ⟨us, []⟩ = pure (ps.zip us)
section
variable {P : Program} {w : World} {K : PySem.W.Frag} {mg : Str → Option Value} {base : Heap}
theorem mk_fn (W : Wd K mg) {x : Str} {t : Nat} {N ps : List Str} {k : Nat} {sp : Sp} (i : Nat) (S : FnScope N ps (defScope (top t))) (hb : Bnd (top t) x ps) (len : ∀ vs H Q E, sp vs H Q E → vs.length = ps.length)
    (body : ∀ (cdv : Value) (A : Around) (outer : List Env) (s : Shared) (H : Hp) (E : XK), Room k (A.deeper (envOfC x (defScope (top t)) s.heap.objs.size (He.ga K x) cdv)) →
      ∃ tt, PSs (cxOf CX0 P w K mg base N x (defScope (top t)) (He.ga K x) cdv A outer s H E).nox (defBody (top t)) tt ∧ ∀ vs Q, sp vs H Q E → tt { nx := fun _ H' => Q .non H', rt := Q } (L2.start N vs) H)
    (hi : fn[i]? = some (dd t x) := by rfl) (hj : fa[i]? = some (.glo x) := by rfl) : Fnc P w K mg base x (k + 1) ps sp (He.ga K x) := by
  obtain ⟨fd, F⟩ := W.says.def_ i hi
  have F : FunD K x x (defArgs (top t)) (defBody (top t)) (defScope (top t)) [] [] (He.ga K x) fd := F
  refine ⟨⟨fd, F.ok S len fun cdv A outer s H vs Q E hr h => ?_, F.bindsN hb⟩, W.glo i hj, F.kp⟩
  obtain ⟨tt, h1, h2⟩ := body cdv A outer s H E hr
  exact ⟨tt, h1.nox, h2 vs Q h⟩
def Γ0 (N : List Str) (ds : List PyData) : Ga := ds.map some ++ List.replicate (N.length - ds.length) none
theorem mk_d (W : Wd K mg) {x : Str} {t : Nat} {N ps : List Str} {k : Nat} {R : List PyData → PyData → Prop} (i : Nat) (S : FnScope N ps (defScope (top t))) (hb : Bnd (top t) x ps) (len : ∀ ds d, R ds d → ds.length = ps.length ∧ ds.length ≤ N.length)
    (body : ∀ (cdv : Value) (A : Around) (outer : List Env) (s : Shared) (H : Hp) (E : XK), Room k (A.deeper (envOfC x (defScope (top t)) s.heap.objs.size (He.ga K x) cdv)) →
      ∃ tt, PSs (cxOf CX0 P w K mg base N x (defScope (top t)) (He.ga K x) cdv A outer s H E).nox (defBody (top t)) tt ∧ ∀ ds d, R ds d → SR K tt (Γ0 N ds) d)
    (hi : fn[i]? = some (dd t x) := by rfl) (hj : fa[i]? = some (.glo x) := by rfl) : Fnc P w K mg base x (k + 1) ps (spD K R) (He.ga K x) := by
  refine mk_fn W i S hb (fun vs H Q E h => ?_) (fun cdv A outer s H E hr => ?_) hi hj
  · obtain ⟨ds, d, hR, ha, _⟩ := h
    rw [ha.len, (len ds d hR).1]
  · obtain ⟨tt, h1, h2⟩ := body cdv A outer s H E hr
    refine ⟨tt, h1, fun vs Q h => ?_⟩
    obtain ⟨ds, d, hR, ha, q⟩ := h
    exact h2 ds d hR _ H _ (sg_start ha (len ds d hR).2) q
/-- a def that hands back nothing -/
theorem mk_n (W : Wd K mg) {x : Str} {t : Nat} {N ps : List Str} {k : Nat} {R : List PyData → Prop} (i : Nat) (S : FnScope N ps (defScope (top t))) (hb : Bnd (top t) x ps) (len : ∀ ds, R ds → ds.length = ps.length ∧ ds.length ≤ N.length)
    (body : ∀ (cdv : Value) (A : Around) (outer : List Env) (s : Shared) (H : Hp) (E : XK), Room k (A.deeper (envOfC x (defScope (top t)) s.heap.objs.size (He.ga K x) cdv)) →
      ∃ tt, PSs (cxOf CX0 P w K mg base N x (defScope (top t)) (He.ga K x) cdv A outer s H E).nox (defBody (top t)) tt ∧ ∀ ds, R ds → ∃ Γ', SF K tt (Γ0 N ds) Γ')
    (hi : fn[i]? = some (dd t x) := by rfl) (hj : fa[i]? = some (.glo x) := by rfl) : Fnc P w K mg base x (k + 1) ps (spD K fun ds d => R ds ∧ d = .none) (He.ga K x) := by
  refine mk_fn W i S hb (fun vs H Q E h => ?_) (fun cdv A outer s H E hr => ?_) hi hj
  · obtain ⟨ds, d, hR, ha, _⟩ := h
    rw [ha.len, (len ds hR.1).1]
  · obtain ⟨tt, h1, h2⟩ := body cdv A outer s H E hr
    refine ⟨tt, h1, fun vs Q h => ?_⟩
    obtain ⟨ds, d, ⟨hR, rfl⟩, ha, q⟩ := h
    obtain ⟨Γ', hS⟩ := h2 ds hR
    exact hS _ H _ (sg_start ha (len ds hR).2) fun σ' H2 e g => q .non H2 e .non
end
/-! the rules that name the written part, with it written out -/
section
variable {X : Cx} (K : PySem.W.Frag)
theorem ixT (h : X.K = K := by rfl) : IxR X (rIxT K) := by subst h; exact ix_tup
theorem ixL (h : X.K = K := by rfl) : IxR X (rIxL K) := by subst h; exact ix_list
theorem slT (h : X.K = K := by rfl) : SlR X (rSlA K) := by subst h; exact sl_tupA
theorem slL (h : X.K = K := by rfl) : SlR X (rSlL K) := by subst h; exact sl_list
theorem clLen (h : X.K = K := by rfl) : CallR X (.builtin "len") (rLenQ K) := by subst h; exact call_len_seq
theorem clAll (hc : X.calm = true) (h : X.K = K := by rfl) : CallR X (.builtin "all") (rAll K) := by subst h; exact cr_all hc
theorem clIsi (h : X.K = K := by rfl) : CallR X (.builtin "isinstance") (rIsi K) := by subst h; exact call_isi
theorem clTup (h : X.K = K := by rfl) : CallR X (.type "tuple") (rTupQ K) := by subst h; exact call_tuple_of
theorem clLst (h : X.K = K := by rfl) : CallR X (.type "list") (rLstQ K) := by subst h; exact call_list_of
theorem opCatT (h : X.K = K := by rfl) : OpR X (binaryOp .Add) (rCatA K) := by subst h; exact op_catA
theorem opTimesT (h : X.K = K := by rfl) : OpR X (binaryOp .Mult) (rTimesT K) := by subst h; exact op_timesT
theorem opEqD (hu : X.A.units + 64 < cLine) (h : X.K = K := by rfl) : OpR X (compareOp .Eq) (rEqD K) := by subst h; exact op_eqD hu
theorem opNeD (hu : X.A.units + 64 < cLine) (h : X.K = K := by rfl) : OpR X (compareOp .NotEq) (rNeD K) := by subst h; exact op_neD hu
theorem opNotIn (h : X.K = K := by rfl) : OpR X (compareOp .NotIn) (rIn K true) := by subst h; exact op_notIn_seq
theorem piL {tg l : Expr} {tl : TE} (hl : PE X l tl) (h : X.K = K := by rfl) : PI X tg l (iList K tl) := by subst h; exact pi_list hl
theorem piT {tg l : Expr} {tl : TE} (hl : PE X l tl) (h : X.K = K := by rfl) : PI X tg l (iTup K tl) := by subst h; exact pi_tup hl
theorem peBackT {e : Expr} {te : TE} {k : Nat} {p1 p2 p3 pos : Pos} (he : PE X e te) (h : X.K = K := by rfl) : PE X (.Subscript e (.Slice none none (some (.UnaryOp .USub (.Constant (.int 1) k p1) p2)) p3) pos) (tBackT K te) := by subst h; exact pe_backT he
theorem pgPair {e1 e2 : Expr} {k : Nat} {pos : Pos} {t1 t2 : TG} (hc : X.calm = true) (h1 : PG X e1 t1) (h2 : PG X e2 t2) (h : X.K = K := by rfl)
    (hn : (assignEach [e1, e2] X.env).length = 2 := by rfl) (hst : (assignEach [e1, e2] X.env).findIdx? (·.1) = none := by rfl)
    (ha : (assignEach [e1, e2] X.env).map (·.2) = assign e1 X.env :: (assignEach [e2] X.env).map (·.2) := by rfl) (hb : (assignEach [e2] X.env).map (·.2) = assign e2 X.env :: (assignEach [] X.env).map (·.2) := by rfl) : PG X (.Tuple [e1, e2] k pos) (gTup K 2 (gCons t1 (gCons t2 gNil))) := by
  subst h
  exact pg_tup hc (pgs_cons h1 (pgs_cons h2 pgs_nil hb) ha) hn hst
end
/-! isinstance -/
def tyName : PyData → String
  | .none => "NoneType"
  | .bool _ => "bool"
  | .int _ => "int"
  | .str _ => "str"
  | .list _ => "list"
  | .tuple _ => "tuple"
  | .dict _ => "dict"
section
variable {K : PySem.W.Frag} {Γ : Ga} {te : TE} {d : PyData}
theorem tyx_of {H : Hp} {v : V} (h : Dp K H v d) : TyX K H v (.type (tyName d)) := by
  cases h with
  | non => exact .base .non
  | bl b => exact .base (.bl b)
  | int i => exact .base (.int i)
  | str x => exact .base (.str x)
  | lst hs ha =>
    rcases hs with (h | ⟨o, h⟩) | ⟨o, its, n, h, hc, _⟩
    · exact .base (.lst h)
    · exact .base (.frz h)
    · exact .kList h hc
  | tup hs ha =>
    rcases hs with (h | ⟨o, h⟩) | ⟨o, its, n, h, hc, _⟩
    · exact .base (.tup h)
    · exact .fTuple h
    · exact .kTuple h hc
theorem ed_isi {n : String} {b : Bool} (h : ED K te Γ d) (hk : kitB (tyName d) n = some b) : ED K (tCB (rIsi K) (tCons te (tCons (tC (.ty n)) tNil))) Γ (.bool b) := fun σ H g Q q =>
  h σ H g _ fun v H1 e1 hv => ⟨v, .ty n, _, _, b, rfl, .ty n, tyx_of hv, kit_ty hk, q _ H1 e1 (.bl b)⟩
end
end K35
/-! Shares, rows of shares. -/
namespace K35
open PySem PySem.Spec PyProof.Rows L2 Evl
theorem pi_or {X : Cx} {tg it : Expr} {w1 w2 : TI} (h1 : PI X tg it w1) (h2 : PI X tg it w2) : PI X tg it (fun σ H R => w1 σ H R ∨ w2 σ H R) := ⟨fun pins s σ H R I h => by
  rcases h with h | h
  · exact h1.run pins s σ H R I h
  · exact h2.run pins s σ H R I h⟩
theorem ei_or1 {K : PySem.W.Frag} {w1 w2 : TI} {Γ : Ga} {n : Nat} {ds : Nat → PyData} (h : EI K w1 Γ n ds) : EI K (fun σ H R => w1 σ H R ∨ w2 σ H R) Γ n ds := fun σ H g R q => .inl (h σ H g R q)
theorem ei_or2 {K : PySem.W.Frag} {w1 w2 : TI} {Γ : Ga} {n : Nat} {ds : Nat → PyData} (h : EI K w2 Γ n ds) : EI K (fun σ H R => w1 σ H R ∨ w2 σ H R) Γ n ds := fun σ H g R q => .inr (h σ H g R q)
/-- a row's datum -/
def rowL (n : Nat) (f : Nat → Rat) : List PyData := (List.range n).map fun j => shD (f j)
def rowD (n : Nat) (f : Nat → Rat) : PyData := .tuple (rowL n f)
def intL (n : Nat) (s : Nat → Int) : List PyData := (List.range n).map fun j => .int (s j)
theorem noL_sh (q : Rat) : noL (shD q) = true := rfl
theorem noL_row (n : Nat) (f : Nat → Rat) : noL (rowD n f) = true := by
  unfold rowD noL
  exact noL_map fun i _ => noL_sh _
theorem rowL_congr {n : Nat} {f g : Nat → Rat} (h : ∀ j, j < n → f j = g j) : rowL n f = rowL n g := rng_congr fun i hi => by rw [h i hi]
theorem rowD_congr {n : Nat} {f g : Nat → Rat} (h : ∀ j, j < n → f j = g j) : rowD n f = rowD n g := congrArg PyData.tuple (rowL_congr h)
theorem bd_pos {A : Nat} {q : Rat} (h : Bd A q) : 0 < A := by
  have h1 := h.2
  have h2 := q.den_pos
  refine Nat.pos_of_ne_zero fun z => ?_
  rw [z] at h1
  omega
section
variable {P : Program} {w : World} {K : PySem.W.Frag} {mg : Str → Option Value} {base : Heap}
theorem k_ii : kitB "int" "int" = some true := by decide +kernel
theorem k_ib : kitB "int" "bool" = some false := by decide +kernel
theorem k_tt : kitB "tuple" "tuple" = some true := by decide +kernel
theorem k_ss : kitB "str" "str" = some true := by decide +kernel
theorem k_ll : kitB "list" "list" = some true := by decide +kernel
abbrev N_is_whole : List Str := ["thing"]
theorem sc_is_whole : FnScope N_is_whole ["thing"] (defScope (top 3)) := ⟨rfl, rfl, rfl, by decide +kernel, rfl, by decide +kernel, by decide +kernel⟩

def R_is_whole : List PyData → PyData → Prop := fun ds d => ∃ i, ds = [.int i] ∧ d = .bool true
theorem f_is_whole (W : Wd K mg) : Fnc P w K mg base "is_whole" 1 ["thing"] (spD K R_is_whole) (He.ga K "is_whole") :=
  mk_d W 0 sc_is_whole (fun _ _ _ _ _ _ us hl => match us, hl with | [_], _ => rfl) (fun ds d h => by obtain ⟨i, rfl, _⟩ := h; exact ⟨rfl, Nat.le_of_ble_eq_true rfl⟩) (fun cdv A outer s H E hr => ⟨_, (pss_one (ps_ret (pe_and (pe_callB (clIsi K) (by rfl) W.n_isinstance (by decide +kernel) (pa_cons (pv 0) (pa_cons (pe_bltn (v := .ty "int") (by rfl) W.n_int (by decide +kernel) rfl) pa_nil))) (pe_one (pe_not (pe_callB (clIsi K) (by rfl) W.n_isinstance (by decide +kernel) (pa_cons (pv 0) (pa_cons (pe_bltn (v := .ty "bool") (by rfl) W.n_bool (by decide +kernel) rfl) pa_nil)))))))), fun ds d hR => by
    obtain ⟨i, rfl, rfl⟩ := hR
    exact sr_ret (ed_and (ed_isi (d := .int i) (ed_var rfl) k_ii) fun _ => ed_not (ed_isi (d := .int i) (ed_var rfl) k_ib))⟩)
abbrev N_is_upto : List Str := ["thing", "low", "high"]
theorem sc_is_upto : FnScope N_is_upto ["thing", "low", "high"] (defScope (top 4)) := ⟨rfl, rfl, rfl, by decide +kernel, rfl, by decide +kernel, by decide +kernel⟩

def R_is_upto : List PyData → PyData → Prop := fun ds d => ∃ i lo hi : Int, ds = [.int i, .int lo, .int hi] ∧ d = .bool (decide (lo ≤ i) && decide (i ≤ hi))
theorem f_is_upto (W : Wd K mg) : Fnc P w K mg base "is_upto" 2 ["thing", "low", "high"] (spD K R_is_upto) (He.ga K "is_upto") :=
  mk_d W 1 sc_is_upto (fun _ _ _ _ _ _ us hl => match us, hl with | [_, _, _], _ => rfl) (fun ds d h => by obtain ⟨i, lo, hi, rfl, _⟩ := h; exact ⟨rfl, Nat.le_of_ble_eq_true rfl⟩) (fun cdv A outer s H E hr => ⟨_, (pss_one (ps_ret (pe_and (pe_fn (f_is_whole W) hr (pa_cons (pv 0) pa_nil)) (pe_one (pe_chain op_le op_le (pv 1) (pv 0) (pv 2)))))), fun ds d hR => by
    obtain ⟨i, lo, hi, rfl, rfl⟩ := hR
    exact sr_ret (ed_and (b := true) (ed_call (ea_cons (ed_var rfl) ea_nil) ⟨i, rfl, rfl⟩) fun _ => ed_chain (ed_var rfl) (ed_var rfl) (ed_var rfl))⟩)
/-! the greatest number that divides two -/
abbrev N_common : List Str := ["one", "other"]
theorem sc_common : FnScope N_common ["one", "other"] (defScope (top 5)) := ⟨rfl, rfl, rfl, by decide +kernel, rfl, by decide +kernel, by decide +kernel⟩

def R_common : List PyData → PyData → Prop := fun ds d => ∃ t b : Int, ds = [.int t, .int b] ∧ d = .int ((t.natAbs.gcd b.natAbs : Nat) : Int)
theorem abs_eq (i : Int) : (if i < 0 then -i else i) = (i.natAbs : Int) := by split <;> omega
theorem fmod_nat (a b : Nat) : (a : Int).fmod (b : Int) = ((a % b : Nat) : Int) := by
  rw [Int.fmod_eq_emod_of_nonneg _ (by omega)]
  rfl
theorem f_common (W : Wd K mg) : Fnc P w K mg base "common" 1 ["one", "other"] (spD K R_common) (He.ga K "common") :=
  mk_d W 2 sc_common (fun _ _ _ _ _ _ us hl => match us, hl with | [_, _], _ => rfl) (fun ds d h => by obtain ⟨t, b, rfl, _⟩ := h; exact ⟨rfl, Nat.le_of_ble_eq_true rfl⟩) (fun cdv A outer s H E hr => ⟨_, (pss_cons (ps_par (i := 0) (j := 1) (by rfl) sc_common.nd rfl rfl (by decide) rfl rfl (pa_cons (pe_callB call_abs (by rfl) W.n_abs (by decide +kernel) (pa_cons (pv 0) pa_nil)) (pa_cons (pe_callB call_abs (by rfl) W.n_abs (by decide +kernel) (pa_cons (pv 1) pa_nil)) pa_nil)) (by rfl))
    (pss_cons (ps_while PassesOwn.never (pt_cmpR op_ne (pv 1) pe_int (nomark _))
      (pss_one (ps_par (i := 0) (j := 1) (by rfl) sc_common.nd rfl rfl (by decide) rfl rfl (pa_cons (pv 1) (pa_cons (pe_op op_modN (pv 0) (pv 1)) pa_nil)) (by rfl))))
    (pss_one (ps_ret (pv 0))))), fun ds d hR => by
    obtain ⟨t, b, rfl, rfl⟩ := hR
    refine sr_seq (sf_par (ed_abs (ed_var rfl)) (ed_abs (ed_var rfl))) ?_
    rw [abs_eq, abs_eq]
    refine sr_seq (Γ' := [some (.int ((t.natAbs.gcd b.natAbs : Nat) : Int)), some (.int 0)]) (sf_while (fun m Γ1 => ∃ x y : Nat, Γ1 = [some (.int (x : Int)), some (.int (y : Int))] ∧ y = m ∧ x.gcd y = t.natAbs.gcd b.natAbs) b.natAbs ⟨t.natAbs, b.natAbs, rfl, rfl, rfl⟩ fun m Γ1 hP => ?_) (sr_ret (ed_var rfl))
    obtain ⟨x, y, rfl, rfl, hg⟩ := hP
    by_cases hy : y = 0
    · subst hy
      refine .inl ⟨(et_test (ed_neI (ed_var rfl) ed_int)).to (by rw [decide_eq_true (by rfl)]; rfl), ?_⟩
      rw [Nat.gcd_zero_right] at hg
      rw [hg]
      rfl
    · refine .inr ⟨(et_test (ed_neI (ed_var rfl) ed_int)).to (by rw [decide_eq_false (by omega)]; rfl), x % y, [some (.int (y : Int)), some (.int ((x % y : Nat) : Int))], Nat.mod_lt _ (by omega), ?_, y, x % y, rfl, rfl, ?_⟩
      · rw [← fmod_nat]
        exact sf_par (ed_var rfl) (ed_I (g := Int.fmod) (ed_var rfl) (ed_var rfl) (by omega))
      · rw [← hg, Nat.gcd_comm x y, Nat.gcd_rec y x, Nat.gcd_comm]⟩)
abbrev N_share : List Str := ["top", "bottom", "both"]
theorem sc_share : FnScope N_share ["top", "bottom"] (defScope (top 6)) := ⟨rfl, rfl, rfl, by decide +kernel, rfl, by decide +kernel, by decide +kernel⟩

/-- more bits than a bottom has -/
def two8999 : Nat := 2 ^ (8000 + 999)
theorem two_le {a A : Nat} (h : a < 2 ^ A) (hA : A ≤ 8999) : a < two8999 := p_le h hA
def R_share : List PyData → PyData → Prop := fun ds d => ∃ t b : Int, ds = [.int t, .int b] ∧ b ≠ 0 ∧ b.natAbs < two8999 ∧ d = shD (Rat.divInt t b)
theorem both_div {t b : Int} (h0 : b ≠ 0) (hb : b.natAbs < two8999) (x : Int) : DivZ x (both t b) :=
  ⟨both_ne h0, Nat.lt_of_lt_of_le (PySem.Flt.log2_lt_of (by decide) (show _ < 2 ^ (8000 + 999) from Nat.lt_of_le_of_lt (both_le h0) hb)) (by decide)⟩
theorem f_share (W : Wd K mg) : Fnc P w K mg base "share" 2 ["top", "bottom"] (spD K R_share) (He.ga K "share") :=
  mk_d W 3 sc_share (fun _ _ _ _ _ _ us hl => match us, hl with | [_, _], _ => rfl) (fun ds d h => by obtain ⟨t, b, rfl, _⟩ := h; exact ⟨rfl, Nat.le_of_ble_eq_true rfl⟩) (fun cdv A outer s H E hr => ⟨_, (pss_cons (ps_set (i := 2) sc_share.nd rfl (.inl rfl) (pe_fn (f_common W) hr (pa_cons (pv 0) (pa_cons (pv 1) pa_nil))))
    (pss_cons (ps_if (pt_cmpR op_lt (pv 1) pe_int (nomark _)) (pss_one (ps_set (i := 2) sc_share.nd rfl (.inl rfl) (pe_op op_sub pe_int (pv 2)))) pss_nil)
    (pss_one (ps_ret (pe_tup (pa_cons (pe_op op_fdivZ (pv 0) (pv 2)) (pa_cons (pe_op op_fdivZ (pv 1) (pv 2)) pa_nil))))))), fun ds d hR => by
    obtain ⟨t, b, rfl, h0, hb, rfl⟩ := hR
    refine sr_seq (sf_set (ed_call (ea_cons (ed_var rfl) (ea_cons (ed_var rfl) ea_nil)) ⟨t, b, rfl, rfl⟩)) ?_
    refine sr_seq (Γ' := [some (.int t), some (.int b), some (.int (both t b))]) ?_ (sr_ret ((ed_tup (ea_cons (ed_I (g := Int.fdiv) (ed_var rfl) (ed_var rfl) (both_div h0 hb t)) (ea_cons (ed_I (g := Int.fdiv) (ed_var rfl) (ed_var rfl) (both_div h0 hb b)) ea_nil)) (by show 2 ≤ 100000; decide)).to ?_))
    · by_cases hn : b < 0
      · refine sf_ifT ((et_test (ed_B0 (g := fun i j => decide (i < j)) (ed_var rfl) ed_int)).to (decide_eq_true hn)) ?_
        have e : both t b = 0 - ((t.natAbs.gcd b.natAbs : Nat) : Int) := if_pos hn
        rw [e]
        exact sf_set (ed_I0 (g := fun i j => i - j) ed_int (ed_var rfl))
      · refine sf_ifF ((et_test (ed_B0 (g := fun i j => decide (i < j)) (ed_var rfl) ed_int)).to (decide_eq_false hn)) ?_
        have e : both t b = ((t.natAbs.gcd b.natAbs : Nat) : Int) := if_neg hn
        rw [e]
        exact sf_next
    · obtain ⟨e1, e2⟩ := share_eq (t := t) h0
      unfold shD
      rw [e1, e2]⟩)
/-! a share, whether it is one -/
theorem sh_get0 (q : Rat) : [PyData.int q.num, PyData.int (q.den : Int)][0]? = some (.int q.num) := rfl
theorem sh_get1 (q : Rat) : [PyData.int q.num, PyData.int (q.den : Int)][1]? = some (.int (q.den : Int)) := rfl
section
variable {Γ : Ga} {te : TE} {q : Rat}
theorem ed_top {n : Int} (h : ED K te Γ (shD q)) (hn : n = 0) : ED K (tOp (rIxT K) te (tC (.int n))) Γ (.int q.num) := by
  subst hn
  exact ed_ixT (n := 0) h ed_int rfl rfl
theorem ed_bot {n : Int} (h : ED K te Γ (shD q)) (hn : n = 1) : ED K (tOp (rIxT K) te (tC (.int n))) Γ (.int (q.den : Int)) := by
  subst hn
  exact ed_ixT (n := 1) h ed_int rfl rfl
end
abbrev N_share_good : List Str := ["thing"]
theorem sc_share_good : FnScope N_share_good ["thing"] (defScope (top 7)) := ⟨rfl, rfl, rfl, by decide +kernel, rfl, by decide +kernel, by decide +kernel⟩

def R_share_good : List PyData → PyData → Prop := fun ds d => ∃ q : Rat, ds = [shD q] ∧ d = .bool true
theorem f_share_good (W : Wd K mg) : Fnc P w K mg base "share_good" 2 ["thing"] (spD K R_share_good) (He.ga K "share_good") :=
  mk_d W 4 sc_share_good (fun _ _ _ _ _ _ us hl => match us, hl with | [_], _ => rfl) (fun ds d h => by obtain ⟨q, rfl, _⟩ := h; exact ⟨rfl, Nat.le_of_ble_eq_true rfl⟩) (fun cdv A outer s H E hr => ⟨_, (pss_cons (ps_if (PW.pt (pw_or (pt_not (pt_val (pe_callB (clIsi K) (by rfl) W.n_isinstance (by decide +kernel) (pa_cons (pv 0) (pa_cons (pe_bltn (v := .ty "tuple") (by rfl) W.n_tuple (by decide +kernel) rfl) pa_nil))))) (pw_or (pt_cmpR op_ne (pe_callB (clLen K) (by rfl) W.n_len (by decide +kernel) (pa_cons (pv 0) pa_nil)) pe_int (nomark _)) (pw_or (pt_not (pt_val (pe_fn (f_is_whole W) hr (pa_cons (pe_ix (ixT K) (pv 0) pe_int (fun _ _ => rfl)) pa_nil)))) (pw_or1 (pt_not (pt_val (pe_fn (f_is_whole W) hr (pa_cons (pe_ix (ixT K) (pv 0) pe_int (fun _ _ => rfl)) pa_nil))))))))) (pss_one (ps_ret pe_bl)) pss_nil)
    (pss_one (ps_ret (pe_and (pe_cmpR op_gt (pe_ix (ixT K) (pv 0) pe_int (fun _ _ => rfl)) pe_int (nomark _)) (pe_one (pe_cmpR op_eq (pe_fn (f_common W) hr (pa_cons (pe_ix (ixT K) (pv 0) pe_int (fun _ _ => rfl)) (pa_cons (pe_ix (ixT K) (pv 0) pe_int (fun _ _ => rfl)) pa_nil))) pe_int (nomark _))))))), fun ds d hR => by
    obtain ⟨q, rfl, rfl⟩ := hR
    refine sr_seq (sf_ifF ?_ sf_next) (sr_ret ?_)
    · exact et_or (b := false) (et_not (et_B (ed_isi (d := shD q) (ed_var rfl) k_tt))) fun _ => et_or (b := false) ((et_test (ed_neI (ed_lenT (ed_var (d := shD q) rfl)) ed_int)).to rfl) fun _ =>
        et_or (b := false) (et_not (b := true) (et_B (ed_call (ea_cons (ed_top (q := q) (ed_var rfl) rfl) ea_nil) ⟨_, rfl, rfl⟩))) fun _ => et_not (b := true) (et_B (ed_call (ea_cons (ed_bot (q := q) (ed_var rfl) rfl) ea_nil) ⟨_, rfl, rfl⟩))
    · refine (ed_and (b := true) (c := true) ((ed_B0 (g := fun i j => decide (j < i)) (ed_bot (q := q) (ed_var rfl) rfl) ed_int).to ?_) fun _ => (ed_eqI (ed_call (ea_cons (ed_top (q := q) (ed_var rfl) rfl) (ea_cons (ed_bot (q := q) (ed_var rfl) rfl) ea_nil)) ⟨_, _, rfl, rfl⟩) ed_int).to ?_)
      · have := q.den_pos
        rw [decide_eq_true (by omega)]
      · have : q.num.natAbs.gcd ((q.den : Int)).natAbs = 1 := q.reduced
        rw [this]
        rfl⟩)
/-! the four -/
theorem den_lt {A B : Nat} {q r : Rat} (hq : Bd A q) (hr : Bd B r) (h : A + B ≤ 8990) : ((q.den : Int) * (r.den : Int)).natAbs < two8999 := by
  rw [Int.natAbs_mul]
  exact two_le (p_mul hq.2 hr.2) (by omega)
theorem den_mul_ne (q r : Rat) : (q.den : Int) * (r.den : Int) ≠ 0 := Int.mul_ne_zero (den_ne q) (den_ne r)
theorem mu_nn {A B : Nat} {q r : Rat} (hq : Bd A q) (hr : Bd B r) (h : A + B ≤ 8990) : CMulW q.num r.num := wide_mul hq.1 hr.1 (bd_pos hq) (bd_pos hr) (by omega)
theorem mu_nd {A B : Nat} {q r : Rat} (hq : Bd A q) (hr : Bd B r) (h : A + B ≤ 8990) : CMulW q.num (r.den : Int) := wide_mul (b := B) hq.1 hr.2 (bd_pos hq) (bd_pos hr) (by omega)
theorem mu_dn {A B : Nat} {q r : Rat} (hq : Bd A q) (hr : Bd B r) (h : A + B ≤ 8990) : CMulW (q.den : Int) r.num := wide_mul (a := A) hq.2 hr.1 (bd_pos hq) (bd_pos hr) (by omega)
theorem mu_dd {A B : Nat} {q r : Rat} (hq : Bd A q) (hr : Bd B r) (h : A + B ≤ 8990) : CMulW (q.den : Int) (r.den : Int) := wide_mul (a := A) (b := B) hq.2 hr.2 (bd_pos hq) (bd_pos hr) (by omega)
def R_op (f : Rat → Rat → Rat) : List PyData → PyData → Prop := fun ds d => ∃ (q r : Rat) (A B : Nat), ds = [shD q, shD r] ∧ Bd A q ∧ Bd B r ∧ A + B ≤ 8990 ∧ d = shD (f q r)
def R_by : List PyData → PyData → Prop := fun ds d => ∃ (q r : Rat) (A B : Nat), ds = [shD q, shD r] ∧ Bd A q ∧ Bd B r ∧ A + B ≤ 8990 ∧ r ≠ 0 ∧ d = shD (q / r)
abbrev N_add : List Str := ["one", "other"]
theorem sc_add : FnScope N_add ["one", "other"] (defScope (top 8)) := ⟨rfl, rfl, rfl, by decide +kernel, rfl, by decide +kernel, by decide +kernel⟩

theorem f_add (W : Wd K mg) : Fnc P w K mg base "add" 3 ["one", "other"] (spD K (R_op (· + ·))) (He.ga K "add") :=
  mk_d W 5 sc_add (fun _ _ _ _ _ _ us hl => match us, hl with | [_, _], _ => rfl) (fun ds d h => by obtain ⟨q, r, A, B, rfl, _⟩ := h; exact ⟨rfl, Nat.le_of_ble_eq_true rfl⟩) (fun cdv A outer s H E hr => ⟨_, (pss_one (ps_ret (pe_fn (f_share W) hr (pa_cons (pe_op op_add (pe_op op_mulW (pe_ix (ixT K) (pv 0) pe_int (fun _ _ => rfl)) (pe_ix (ixT K) (pv 1) pe_int (fun _ _ => rfl))) (pe_op op_mulW (pe_ix (ixT K) (pv 1) pe_int (fun _ _ => rfl)) (pe_ix (ixT K) (pv 0) pe_int (fun _ _ => rfl)))) (pa_cons (pe_op op_mulW (pe_ix (ixT K) (pv 0) pe_int (fun _ _ => rfl)) (pe_ix (ixT K) (pv 1) pe_int (fun _ _ => rfl))) pa_nil))))), fun ds d hR => by
    obtain ⟨q, r, A, B, rfl, hA, hB, hAB, rfl⟩ := hR
    exact sr_ret (ed_call (ea_cons (ed_I0 (g := fun i j => i + j) (ed_I (g := fun i j => i * j) (ed_top (q := q) (ed_var rfl) rfl) (ed_bot (q := r) (ed_var rfl) rfl) (mu_nd hA hB hAB)) (ed_I (g := fun i j => i * j) (ed_top (q := r) (ed_var rfl) rfl) (ed_bot (q := q) (ed_var rfl) rfl) (mu_nd hB hA (by omega))))
      (ea_cons (ed_I (g := fun i j => i * j) (ed_bot (q := q) (ed_var rfl) rfl) (ed_bot (q := r) (ed_var rfl) rfl) (mu_dd hA hB hAB)) ea_nil)) ⟨_, _, rfl, den_mul_ne q r, den_lt hA hB hAB, by rw [add_eq]⟩)⟩)
abbrev N_less : List Str := ["one", "other"]
theorem sc_less : FnScope N_less ["one", "other"] (defScope (top 9)) := ⟨rfl, rfl, rfl, by decide +kernel, rfl, by decide +kernel, by decide +kernel⟩

theorem f_less (W : Wd K mg) : Fnc P w K mg base "less" 3 ["one", "other"] (spD K (R_op (· - ·))) (He.ga K "less") :=
  mk_d W 6 sc_less (fun _ _ _ _ _ _ us hl => match us, hl with | [_, _], _ => rfl) (fun ds d h => by obtain ⟨q, r, A, B, rfl, _⟩ := h; exact ⟨rfl, Nat.le_of_ble_eq_true rfl⟩) (fun cdv A outer s H E hr => ⟨_, (pss_one (ps_ret (pe_fn (f_share W) hr (pa_cons (pe_op op_sub (pe_op op_mulW (pe_ix (ixT K) (pv 0) pe_int (fun _ _ => rfl)) (pe_ix (ixT K) (pv 1) pe_int (fun _ _ => rfl))) (pe_op op_mulW (pe_ix (ixT K) (pv 1) pe_int (fun _ _ => rfl)) (pe_ix (ixT K) (pv 0) pe_int (fun _ _ => rfl)))) (pa_cons (pe_op op_mulW (pe_ix (ixT K) (pv 0) pe_int (fun _ _ => rfl)) (pe_ix (ixT K) (pv 1) pe_int (fun _ _ => rfl))) pa_nil))))), fun ds d hR => by
    obtain ⟨q, r, A, B, rfl, hA, hB, hAB, rfl⟩ := hR
    exact sr_ret (ed_call (ea_cons (ed_I0 (g := fun i j => i - j) (ed_I (g := fun i j => i * j) (ed_top (q := q) (ed_var rfl) rfl) (ed_bot (q := r) (ed_var rfl) rfl) (mu_nd hA hB hAB)) (ed_I (g := fun i j => i * j) (ed_top (q := r) (ed_var rfl) rfl) (ed_bot (q := q) (ed_var rfl) rfl) (mu_nd hB hA (by omega))))
      (ea_cons (ed_I (g := fun i j => i * j) (ed_bot (q := q) (ed_var rfl) rfl) (ed_bot (q := r) (ed_var rfl) rfl) (mu_dd hA hB hAB)) ea_nil)) ⟨_, _, rfl, den_mul_ne q r, den_lt hA hB hAB, by rw [sub_eq]⟩)⟩)
abbrev N_times : List Str := ["one", "other"]
theorem sc_times : FnScope N_times ["one", "other"] (defScope (top 10)) := ⟨rfl, rfl, rfl, by decide +kernel, rfl, by decide +kernel, by decide +kernel⟩

theorem f_times (W : Wd K mg) : Fnc P w K mg base "times" 3 ["one", "other"] (spD K (R_op (· * ·))) (He.ga K "times") :=
  mk_d W 7 sc_times (fun _ _ _ _ _ _ us hl => match us, hl with | [_, _], _ => rfl) (fun ds d h => by obtain ⟨q, r, A, B, rfl, _⟩ := h; exact ⟨rfl, Nat.le_of_ble_eq_true rfl⟩) (fun cdv A outer s H E hr => ⟨_, (pss_one (ps_ret (pe_fn (f_share W) hr (pa_cons (pe_op op_mulW (pe_ix (ixT K) (pv 0) pe_int (fun _ _ => rfl)) (pe_ix (ixT K) (pv 1) pe_int (fun _ _ => rfl))) (pa_cons (pe_op op_mulW (pe_ix (ixT K) (pv 0) pe_int (fun _ _ => rfl)) (pe_ix (ixT K) (pv 1) pe_int (fun _ _ => rfl))) pa_nil))))), fun ds d hR => by
    obtain ⟨q, r, A, B, rfl, hA, hB, hAB, rfl⟩ := hR
    exact sr_ret (ed_call (ea_cons (ed_I (g := fun i j => i * j) (ed_top (q := q) (ed_var rfl) rfl) (ed_top (q := r) (ed_var rfl) rfl) (mu_nn hA hB hAB))
      (ea_cons (ed_I (g := fun i j => i * j) (ed_bot (q := q) (ed_var rfl) rfl) (ed_bot (q := r) (ed_var rfl) rfl) (mu_dd hA hB hAB)) ea_nil)) ⟨_, _, rfl, den_mul_ne q r, den_lt hA hB hAB, by rw [mul_eq]⟩)⟩)
abbrev N_by : List Str := ["one", "other"]
theorem sc_by : FnScope N_by ["one", "other"] (defScope (top 11)) := ⟨rfl, rfl, rfl, by decide +kernel, rfl, by decide +kernel, by decide +kernel⟩

theorem f_by (W : Wd K mg) : Fnc P w K mg base "by" 3 ["one", "other"] (spD K R_by) (He.ga K "by") :=
  mk_d W 8 sc_by (fun _ _ _ _ _ _ us hl => match us, hl with | [_, _], _ => rfl) (fun ds d h => by obtain ⟨q, r, A, B, rfl, _⟩ := h; exact ⟨rfl, Nat.le_of_ble_eq_true rfl⟩) (fun cdv A outer s H E hr => ⟨_, (pss_one (ps_ret (pe_fn (f_share W) hr (pa_cons (pe_op op_mulW (pe_ix (ixT K) (pv 0) pe_int (fun _ _ => rfl)) (pe_ix (ixT K) (pv 1) pe_int (fun _ _ => rfl))) (pa_cons (pe_op op_mulW (pe_ix (ixT K) (pv 0) pe_int (fun _ _ => rfl)) (pe_ix (ixT K) (pv 1) pe_int (fun _ _ => rfl))) pa_nil))))), fun ds d hR => by
    obtain ⟨q, r, A, B, rfl, hA, hB, hAB, h0, rfl⟩ := hR
    refine sr_ret (ed_call (ea_cons (ed_I (g := fun i j => i * j) (ed_top (q := q) (ed_var rfl) rfl) (ed_bot (q := r) (ed_var rfl) rfl) (mu_nd hA hB hAB))
      (ea_cons (ed_I (g := fun i j => i * j) (ed_bot (q := q) (ed_var rfl) rfl) (ed_top (q := r) (ed_var rfl) rfl) (mu_dn hA hB hAB)) ea_nil)) ⟨_, _, rfl, Int.mul_ne_zero (den_ne q) (num_ne h0), ?_, by rw [div_eq q r h0]⟩)
    rw [Int.natAbs_mul]
    exact two_le (p_mul hA.2 hB.1) (by omega)⟩)
/-! sums and rows -/
abbrev N_total : List Str := ["some", "found", "one"]
theorem sc_total : FnScope N_total ["some"] (defScope (top 12)) := ⟨rfl, rfl, rfl, by decide +kernel, rfl, by decide +kernel, by decide +kernel⟩

def R_total : List PyData → PyData → Prop := fun ds d => ∃ (n : Nat) (f : Nat → Rat), ds = [.list (rowL n f)] ∧ (∀ i, i < n → ∃ A B, Bd A (sm i f) ∧ Bd B (f i) ∧ A + B ≤ 8990) ∧ d = shD (sm n f)
theorem f_total (W : Wd K mg) : Fnc P w K mg base "total" 4 ["some"] (spD K R_total) (He.ga K "total") :=
  mk_d W 9 sc_total (fun _ _ _ _ _ _ us hl => match us, hl with | [_], _ => rfl) (fun ds d h => by obtain ⟨n, f, rfl, _⟩ := h; exact ⟨rfl, Nat.le_of_ble_eq_true rfl⟩) (fun cdv A outer s H E hr => ⟨_, (pss_cons (ps_set (i := 1) sc_total.nd rfl (.inl rfl) (pe_glob (v := .ref (He.ga K "NOUGHT")) rfl W.nought rfl))
    (pss_cons (ps_for PassesOwn.never rfl (piL K (pv 0)) (pg_name (i := 2) sc_total.nd rfl (.inl rfl))
      (pss_one (ps_set (i := 1) sc_total.nd rfl (.inl rfl) (pe_fn (f_add W) hr (pa_cons (pv 1) (pa_cons (pv 2) pa_nil))))))
    (pss_one (ps_ret (pv 1))))), fun ds d hR => by
    obtain ⟨n, f, rfl, hb, rfl⟩ := hR
    refine sr_seq (sf_set (ed_c W.d0)) (sr_seq (Γ' := [some (.list (rowL n f)), some (shD (sm n f)), if n = 0 then none else some (shD (f (n - 1)))]) ?_ (sr_ret (ed_var rfl)))
    refine sf_for (n := n) (Γs := fun i => [some (.list (rowL n f)), some (shD (sm i f)), if i = 0 then none else some (shD (f (i - 1)))]) (Γi := fun i => [some (.list (rowL n f)), some (shD (sm i f)), some (shD (f i))]) (ei_list (ds := fun j => shD (f j)) (ed_var rfl)) (fun i hi => eg_name) fun i hi => ?_
    obtain ⟨A, B, hA, hB, hAB⟩ := hb i hi
    exact sf_set (ed_call (ea_cons (ed_var rfl) (ea_cons (ed_var rfl) ea_nil)) ⟨_, _, A, B, rfl, hA, hB, hAB, rfl⟩)⟩)
abbrev N_product_sum : List Str := ["one", "other", "left", "right"]
theorem sc_product_sum : FnScope N_product_sum ["one", "other"] (defScope (top 13)) := ⟨rfl, rfl, rfl, by decide +kernel, rfl, by decide +kernel, by decide +kernel⟩

def R_product_sum : List PyData → PyData → Prop := fun ds d => ∃ (n A B : Nat) (f g : Nat → Rat), (ds = [.list (rowL n f), rowD n g] ∨ ds = [rowD n f, rowD n g]) ∧ (∀ j, j < n → Bd A (f j)) ∧ (∀ j, j < n → Bd B (g j)) ∧ (n + 1) * (A + B + 1) ≤ 8990 ∧ d = shD (dot n f g)
theorem ps_bits {n A B : Nat} {f g : Nat → Rat} (hf : ∀ j, j < n → Bd A (f j)) (hg : ∀ j, j < n → Bd B (g j)) (h : (n + 1) * (A + B + 1) ≤ 8990) : (∀ i, i < n → ∃ A' B', Bd A' (sm i fun j => f j * g j) ∧ Bd B' (f i * g i) ∧ A' + B' ≤ 8990) ∧ (∀ i, i < n → A + B ≤ 8990) ∧ n ≤ 40000 := by
  refine ⟨fun i hi => ⟨i * (A + B + 1) + 1, A + B, bd_sm (fun j hj => hf j (by omega)) (fun j hj => hg j (by omega)), (hf i hi).mul (hg i hi), ?_⟩, fun i hi => ?_, ?_⟩
  · have := Nat.mul_le_mul_right (A + B + 1) (show i + 2 ≤ n + 1 by omega)
    rw [Nat.add_mul] at this
    omega
  · have := Nat.mul_le_mul_right (A + B + 1) (show 1 ≤ n + 1 by omega)
    omega
  · have := Nat.mul_le_mul_left (n + 1) (show 1 ≤ A + B + 1 by omega)
    omega
theorem f_product_sum (W : Wd K mg) : Fnc P w K mg base "product_sum" 5 ["one", "other"] (spD K R_product_sum) (He.ga K "product_sum") :=
  mk_d W 10 sc_product_sum (fun _ _ _ _ _ _ us hl => match us, hl with | [_, _], _ => rfl) (fun ds d h => by obtain ⟨n, A, B, f, g, rfl | rfl, _⟩ := h <;> exact ⟨rfl, Nat.le_of_ble_eq_true rfl⟩) (fun cdv A outer s H E hr => ⟨_, (pss_one (ps_ret (pe_fn (f_total W) hr (pa_cons (pe_lc (own := [("left", 2), ("right", 3)]) rfl sc_product_sum.nd (pi_or (RZ.pi_zipA (by rfl) W.n_zip (pa_cons (pv 0) (pa_cons (pv 1) pa_nil))) (pi_zipM (by rfl) W.n_zip (pa_cons (pv 0) (pa_cons (pv 1) pa_nil)))) (blkOk_by (own := [("left", 2), ("right", 3)]) (N := N_product_sum) (sc := defScope (top 13)) (by decide +kernel)) (fun _ _ _ _ _ => (pgPair K rfl (pg_name (i := 2) sc_product_sum.nd rfl (.inl rfl)) (pg_name (i := 3) sc_product_sum.nd rfl (.inl rfl)))) (fun _ _ _ _ _ => pts_nil) (fun _ _ _ _ _ => (pe_fn (f_times W) hr (pa_cons (pv 2) (pa_cons (pv 3) pa_nil))))) pa_nil)))), fun ds d hR => by
    obtain ⟨n, A, B, f, g, hd, hf, hg, hb, rfl⟩ := hR
    obtain ⟨b1, b2, b3⟩ := ps_bits hf hg hb
    refine sr_ret (ed_call (ds := [.list (rowL n fun j => f j * g j)]) (ea_cons (EL.ed ?_) ea_nil) ⟨n, fun j => f j * g j, rfl, b1, rfl⟩)
    rcases hd with rfl | rfl
    · exact el_lcP (n := n) (d1 := fun j => shD (f j)) (d2 := fun j => shD (g j)) (ei_or2 (ei_zipM (ea_cons (ed_var rfl) (ea_cons (ed_var rfl) ea_nil)))) (by decide) (by decide) (fun i hi => ed_call (ea_cons (ed_var rfl) (ea_cons (ed_var rfl) ea_nil)) ⟨_, _, A, B, rfl, hf i hi, hg i hi, b2 i hi, rfl⟩) (fun i _ => noL_sh _) b3
    · exact el_lcP (n := n) (d1 := fun j => shD (f j)) (d2 := fun j => shD (g j)) (ei_or1 (ei_zipT (ea_cons (ed_var rfl) (ea_cons (ed_var rfl) ea_nil)))) (by decide) (by decide) (fun i hi => ed_call (ea_cons (ed_var rfl) (ea_cons (ed_var rfl) ea_nil)) ⟨_, _, A, B, rfl, hf i hi, hg i hi, b2 i hi, rfl⟩) (fun i _ => noL_sh _) b3⟩)
abbrev N_scaled : List Str := ["row", "factor", "one"]
theorem sc_scaled : FnScope N_scaled ["row", "factor"] (defScope (top 14)) := ⟨rfl, rfl, rfl, by decide +kernel, rfl, by decide +kernel, by decide +kernel⟩

def R_scaled : List PyData → PyData → Prop := fun ds d => ∃ (n A B : Nat) (f : Nat → Rat) (c : Rat), ds = [rowD n f, shD c] ∧ (∀ j, j < n → Bd A (f j)) ∧ Bd B c ∧ A + B ≤ 8990 ∧ n ≤ 40000 ∧ d = rowD n (fun j => f j * c)
theorem f_scaled (W : Wd K mg) : Fnc P w K mg base "scaled" 4 ["row", "factor"] (spD K R_scaled) (He.ga K "scaled") :=
  mk_d W 11 sc_scaled (fun _ _ _ _ _ _ us hl => match us, hl with | [_, _], _ => rfl) (fun ds d h => by obtain ⟨n, A, B, f, c, rfl, _⟩ := h; exact ⟨rfl, Nat.le_of_ble_eq_true rfl⟩) (fun cdv A outer s H E hr => ⟨_, (pss_one (ps_ret (pe_callTy (clTup K) (by rfl) W.n_tuple (by decide +kernel) (pa_cons (pe_lc (own := [("one", 2)]) rfl sc_scaled.nd (piT K (pv 0)) (blkOk_by (own := [("one", 2)]) (N := N_scaled) (sc := defScope (top 14)) (by decide +kernel)) (fun _ _ _ _ _ => (pg_name (i := 2) sc_scaled.nd rfl (.inl rfl))) (fun _ _ _ _ _ => pts_nil) (fun _ _ _ _ _ => (pe_fn (f_times W) hr (pa_cons (pv 2) (pa_cons (pv 1) pa_nil))))) pa_nil)))), fun ds d hR => by
    obtain ⟨n, A, B, f, c, rfl, hf, hc, hAB, hn, rfl⟩ := hR
    exact sr_ret (ed_tupL (EL.ed (el_lcN (n := n) (ds := fun j => shD (f j)) (b := fun j => shD (f j * c)) (ei_tup (ed_var rfl)) (by decide) (fun i hi => ed_call (ea_cons (ed_var rfl) (ea_cons (ed_var rfl) ea_nil)) ⟨_, _, A, B, rfl, hf i hi, hc, hAB, rfl⟩) (fun i _ => noL_sh _) hn)))⟩)
abbrev N_rows_less : List Str := ["one", "other", "left", "right"]
theorem sc_rows_less : FnScope N_rows_less ["one", "other"] (defScope (top 15)) := ⟨rfl, rfl, rfl, by decide +kernel, rfl, by decide +kernel, by decide +kernel⟩

def R_rows_less : List PyData → PyData → Prop := fun ds d => ∃ (n A B : Nat) (f g : Nat → Rat), ds = [rowD n f, rowD n g] ∧ (∀ j, j < n → Bd A (f j)) ∧ (∀ j, j < n → Bd B (g j)) ∧ A + B ≤ 8990 ∧ n ≤ 40000 ∧ d = rowD n (fun j => f j - g j)
theorem f_rows_less (W : Wd K mg) : Fnc P w K mg base "rows_less" 4 ["one", "other"] (spD K R_rows_less) (He.ga K "rows_less") :=
  mk_d W 12 sc_rows_less (fun _ _ _ _ _ _ us hl => match us, hl with | [_, _], _ => rfl) (fun ds d h => by obtain ⟨n, A, B, f, c, rfl, _⟩ := h; exact ⟨rfl, Nat.le_of_ble_eq_true rfl⟩) (fun cdv A outer s H E hr => ⟨_, (pss_one (ps_ret (pe_callTy (clTup K) (by rfl) W.n_tuple (by decide +kernel) (pa_cons (pe_lc (own := [("left", 2), ("right", 3)]) rfl sc_rows_less.nd (RZ.pi_zipA (by rfl) W.n_zip (pa_cons (pv 0) (pa_cons (pv 1) pa_nil))) (blkOk_by (own := [("left", 2), ("right", 3)]) (N := N_rows_less) (sc := defScope (top 15)) (by decide +kernel)) (fun _ _ _ _ _ => (pgPair K rfl (pg_name (i := 2) sc_rows_less.nd rfl (.inl rfl)) (pg_name (i := 3) sc_rows_less.nd rfl (.inl rfl)))) (fun _ _ _ _ _ => pts_nil) (fun _ _ _ _ _ => (pe_fn (f_less W) hr (pa_cons (pv 2) (pa_cons (pv 3) pa_nil))))) pa_nil)))), fun ds d hR => by
    obtain ⟨n, A, B, f, g, rfl, hf, hg, hAB, hn, rfl⟩ := hR
    exact sr_ret (ed_tupL (EL.ed (el_lcP (n := n) (d1 := fun j => shD (f j)) (d2 := fun j => shD (g j)) (b := fun j => shD (f j - g j)) (ei_zipT (ea_cons (ed_var rfl) (ea_cons (ed_var rfl) ea_nil))) (by decide) (by decide) (fun i hi => ed_call (ea_cons (ed_var rfl) (ea_cons (ed_var rfl) ea_nil)) ⟨_, _, A, B, rfl, hf i hi, hg i hi, hAB, rfl⟩) (fun i _ => noL_sh _) hn)))⟩)
abbrev N_whole_row : List Str := ["numbers", "number"]
theorem sc_whole_row : FnScope N_whole_row ["numbers"] (defScope (top 16)) := ⟨rfl, rfl, rfl, by decide +kernel, rfl, by decide +kernel, by decide +kernel⟩

def R_whole_row : List PyData → PyData → Prop := fun ds d => ∃ (n : Nat) (s : Nat → Int), (ds = [.list (intL n s)] ∨ ds = [.tuple (intL n s)]) ∧ n ≤ 40000 ∧ d = rowD n (fun j => (s j : Rat))
theorem f_whole_row (W : Wd K mg) : Fnc P w K mg base "whole_row" 1 ["numbers"] (spD K R_whole_row) (He.ga K "whole_row") :=
  mk_d W 13 sc_whole_row (fun _ _ _ _ _ _ us hl => match us, hl with | [_], _ => rfl) (fun ds d h => by obtain ⟨n, s, rfl | rfl, _⟩ := h <;> exact ⟨rfl, Nat.le_of_ble_eq_true rfl⟩) (fun cdv A outer s H E hr => ⟨_, (pss_one (ps_ret (pe_callTy (clTup K) (by rfl) W.n_tuple (by decide +kernel) (pa_cons (pe_lc (own := [("number", 1)]) rfl sc_whole_row.nd (pi_or (piL K (pv 0)) (piT K (pv 0))) (blkOk_by (own := [("number", 1)]) (N := N_whole_row) (sc := defScope (top 16)) (by decide +kernel)) (fun _ _ _ _ _ => (pg_name (i := 1) sc_whole_row.nd rfl (.inl rfl))) (fun _ _ _ _ _ => pts_nil) (fun _ _ _ _ _ => (pe_tup (pa_cons (pv 1) (pa_cons pe_int pa_nil))))) pa_nil)))), fun ds d hR => by
    obtain ⟨n, s, hd, hn, rfl⟩ := hR
    have elt : ∀ {Γ : Ga} {k : Nat} {i : Int}, Γ[k]? = some (some (.int i)) → ED K (tTup (tCons (tVar k) (tCons (tC (.int 1)) tNil))) Γ (shD (i : Rat)) := fun h => ed_tup (ea_cons (ed_var h) (ea_cons ed_int ea_nil)) (by show 2 ≤ 100000; decide)
    rcases hd with rfl | rfl
    · exact sr_ret (ed_tupL (EL.ed (el_lcN (n := n) (ds := fun j => .int (s j)) (b := fun j => shD (s j : Rat)) (ei_or1 (ei_list (ed_var rfl))) (by decide) (fun i hi => elt rfl) (fun i _ => noL_sh _) hn)))
    · exact sr_ret (ed_tupL (EL.ed (el_lcN (n := n) (ds := fun j => .int (s j)) (b := fun j => shD (s j : Rat)) (ei_or2 (ei_tup (ed_var rfl))) (by decide) (fun i hi => elt rfl) (fun i _ => noL_sh _) hn)))⟩)
abbrev N_unit_row : List Str := ["size", "place", "at"]
theorem sc_unit_row : FnScope N_unit_row ["size", "place"] (defScope (top 17)) := ⟨rfl, rfl, rfl, by decide +kernel, rfl, by decide +kernel, by decide +kernel⟩

def R_unit_row : List PyData → PyData → Prop := fun ds d => ∃ (n p : Nat), ds = [.int (n : Int), .int (p : Int)] ∧ n ≤ 40000 ∧ d = rowD n (fun j => if j = p then 1 else 0)
theorem f_unit_row (W : Wd K mg) : Fnc P w K mg base "unit_row" 1 ["size", "place"] (spD K R_unit_row) (He.ga K "unit_row") :=
  mk_d W 14 sc_unit_row (fun _ _ _ _ _ _ us hl => match us, hl with | [_, _], _ => rfl) (fun ds d h => by obtain ⟨n, p, rfl, _⟩ := h; exact ⟨rfl, Nat.le_of_ble_eq_true rfl⟩) (fun cdv A outer s H E hr => ⟨_, (pss_one (ps_ret (pe_callTy (clTup K) (by rfl) W.n_tuple (by decide +kernel) (pa_cons (pe_lc (own := [("at", 2)]) rfl sc_unit_row.nd (pi_range1 (by rfl) W.n_range (pa_cons (pv 0) pa_nil)) (blkOk_by (own := [("at", 2)]) (N := N_unit_row) (sc := defScope (top 17)) (by decide +kernel)) (fun _ _ _ _ _ => (pg_name (i := 2) sc_unit_row.nd rfl (.inl rfl))) (fun _ _ _ _ _ => pts_nil) (fun _ _ _ _ _ => (pe_tup (pa_cons (pe_callTy call_int1 (by rfl) W.n_int (by decide +kernel) (pa_cons (pe_cmpR op_eq (pv 2) (pv 1) (nomark _)) pa_nil)) (pa_cons pe_int pa_nil))))) pa_nil)))), fun ds d hR => by
    obtain ⟨n, p, rfl, hn, rfl⟩ := hR
    refine sr_ret (ed_tupL (EL.ed (el_lcN (n := n) (ds := fun j => .int (j : Int)) (b := fun j => shD (if j = p then 1 else 0)) (ei_rng1 (ea_cons (ed_var rfl) ea_nil) rfl (by omega)) (by decide) (fun i hi => ?_) (fun i _ => noL_sh _) hn)))
    refine (ed_tup (ea_cons (ed_intB (ed_eqI (ed_var rfl) (ed_var rfl))) (ea_cons ed_int ea_nil)) (by show 2 ≤ 100000; decide)).to ?_
    by_cases h : i = p
    · subst h
      rw [decide_eq_true rfl, if_pos rfl, if_pos rfl]
      rfl
    · rw [decide_eq_false (by omega), if_neg Bool.false_ne_true, if_neg h]
      rfl⟩)
end
end K35
/-! Slants and their tables. -/
namespace K35
open PySem PySem.Spec PyProof.Rows L2 Evl
/-- slants' datum -/
def slD (n : Nat) (s : Nat → Int) : PyData := .tuple (intL (2 * n - 1) s)
theorem intL_len {n : Nat} {s : Nat → Int} : (intL n s).length = n := rng_len
theorem intL_get {n i : Nat} {s : Nat → Int} (h : i < n) : (intL n s)[i]? = some (.int (s i)) := rng_get h
theorem intL_congr {n : Nat} {s t : Nat → Int} (h : ∀ j, j < n → s j = t j) : intL n s = intL n t := rng_congr fun i hi => by rw [h i hi]
theorem noL_ints (n : Nat) (s : Nat → Int) : noL.noLs (intL n s) = true := noL_map fun _ _ => rfl
/-- the table's datum -/
def tabL (n : Nat) (s : Nat → Int) : List PyData := (List.range n).map fun i => .list (intL n fun j => s (n - 1 + j - i))
/-- what the table makes of a row -/
def mul (s : Nat → Int) (n : Nat) (f : Nat → Rat) : Nat → Rat := fun i => dot n (T s n i) f
section
variable {K : PySem.W.Frag} {Γ : Ga} {te : TE}
theorem all_rng (n : Nat) (b : Nat → Bool) : (List.range n).map (fun j => PyData.bool (b j)) = ((List.range n).map b).map PyData.bool := by
  rw [List.map_map]
  rfl
theorem ed_allB {n : Nat} {b : Nat → Bool} (h : ED K te Γ (.list ((List.range n).map fun j => .bool (b j)))) : ED K (tCB (rAll K) (tCons te tNil)) Γ (.bool ((List.range n).all b)) := by
  rw [all_rng] at h
  refine (ed_all h).to ?_
  rw [List.all_map]
  rfl
theorem ed_allT {n : Nat} (h : ED K te Γ (.list ((List.range n).map fun _ => .bool true))) : ED K (tCB (rAll K) (tCons te tNil)) Γ (.bool true) := (ed_allB (b := fun _ => true) h).to (by
  rw [List.all_eq_true.mpr fun _ _ => rfl])
end
theorem div2 (x : Int) : DivZ x 2 := ⟨by decide, by decide +kernel⟩
section
variable {P : Program} {w : World} {K : PySem.W.Frag} {mg : Str → Option Value} {base : Heap}
abbrev N_slants_good : List Str := ["thing", "number"]
theorem sc_slants_good : FnScope N_slants_good ["thing"] (defScope (top 27)) := ⟨rfl, rfl, rfl, by decide +kernel, rfl, by decide +kernel, by decide +kernel⟩

def R_slants_good : List PyData → PyData → Prop := fun ds d => ∃ n s, Sl s n ∧ ds = [slD n s] ∧ d = .bool true
theorem f_slants_good (W : Wd K mg) : Fnc P w K mg base "slants_good" 3 ["thing"] (spD K R_slants_good) (He.ga K "slants_good") :=
  mk_d W 15 sc_slants_good (fun _ _ _ _ _ _ us hl => match us, hl with | [_], _ => rfl) (fun ds d h => by obtain ⟨n, s, _, rfl, _⟩ := h; exact ⟨rfl, Nat.le_of_ble_eq_true rfl⟩) (fun cdv A outer s0 H E hr => ⟨_, (pss_cons (ps_if (PW.pt (pw_or (pt_not (pt_val (pe_callB (clIsi K) (by rfl) W.n_isinstance (by decide +kernel) (pa_cons (pv 0) (pa_cons (pe_bltn (v := .ty "tuple") (by rfl) W.n_tuple (by decide +kernel) rfl) pa_nil))))) (pw_or (pt_cmpR op_eq (pe_op op_modN (pe_callB (clLen K) (by rfl) W.n_len (by decide +kernel) (pa_cons (pv 0) pa_nil)) pe_int) pe_int (nomark _)) (pw_or1 (pt_cmpR op_gt (pe_callB (clLen K) (by rfl) W.n_len (by decide +kernel) (pa_cons (pv 0) pa_nil)) (pe_op op_sub (pe_op op_mulW pe_int (pe_glob (v := .int 5) rfl (W.MOST_SIZE_t) ⟨_, rfl⟩)) pe_int) (nomark _)))))) (pss_one (ps_ret pe_bl)) pss_nil)
    (pss_one (ps_ret (pe_callB (clAll K rfl) (by rfl) W.n_all (by decide +kernel) (pa_cons (pe_lc (own := [("number", 1)]) rfl sc_slants_good.nd (piT K (pv 0)) (blkOk_by (own := [("number", 1)]) (N := N_slants_good) (sc := defScope (top 27)) (by decide +kernel)) (fun _ _ _ _ _ => (pg_name (i := 1) sc_slants_good.nd rfl (.inl rfl))) (fun _ _ _ _ _ => pts_nil) (fun _ _ _ _ _ => (pe_fn (f_is_upto W) hr (pa_cons (pv 1) (pa_cons (pe_op op_sub pe_int (pe_glob (v := .int 50) rfl (W.MOST_t) ⟨_, rfl⟩)) (pa_cons (pe_glob (v := .int 50) rfl (W.MOST_t) ⟨_, rfl⟩) pa_nil)))))) pa_nil))))), fun ds d hR => by
    obtain ⟨n, s, hS, rfl, rfl⟩ := hR
    have h1 := hS.1
    have h5 := hS.2.1
    have len : ∀ {Γ : Ga}, Γ[0]? = some (some (slD n s)) → ED K (tCB (rLenQ K) (tCons (tVar 0) tNil)) Γ (.int (2 * (n : Int) - 1)) := fun h => (ed_lenT (ed_var h)).to (by rw [intL_len]; congr 1; omega)
    refine sr_seq (sf_ifF (et_or (b := false) (et_not (b := true) (et_B (ed_isi (d := slD n s) (ed_var rfl) k_tt))) fun _ => et_or (b := false) ((et_test (ed_eqI (ed_I (g := Int.fmod) (len rfl) ed_int (by decide)) ed_int)).to ?_) fun _ => (et_test (ed_B0 (g := fun i j => decide (j < i)) (len rfl) (ed_I0 (g := fun i j => i - j) (ed_I (g := fun i j => i * j) ed_int (ed_c fun _ => .int 5) (by unfold CMulW; decide)) ed_int))).to ?_) sf_next) (sr_ret (ed_allT (n := 2 * n - 1) (EL.ed (el_lcN (n := 2 * n - 1) (ds := fun j => .int (s j)) (ei_tup (ed_var rfl)) (by decide) (fun i hi => ?_) (fun _ _ => rfl) (by omega)))))
    · rw [Int.fmod_eq_emod_of_nonneg _ (by decide)]
      exact decide_eq_false (by omega)
    · exact decide_eq_false (by omega)
    · have hb := hS.2.2 i hi
      refine (ed_call (ea_cons (ed_var rfl) (ea_cons (ed_I0 (g := fun i j => i - j) ed_int (ed_c fun _ => .int 50)) (ea_cons (ed_c fun _ => .int 50) ea_nil))) ⟨s i, _, _, rfl, rfl⟩).to ?_
      rw [decide_eq_true (by omega), decide_eq_true (by omega)]
      rfl⟩)
abbrev N_check_slants : List Str := ["slants"]
theorem sc_check_slants : FnScope N_check_slants ["slants"] (defScope (top 28)) := ⟨rfl, rfl, rfl, by decide +kernel, rfl, by decide +kernel, by decide +kernel⟩

def R_check_slants : List PyData → Prop := fun ds => ∃ n s, Sl s n ∧ ds = [slD n s]
theorem f_check_slants (W : Wd K mg) : Fnc P w K mg base "check_slants" 4 ["slants"] (spD K fun ds d => R_check_slants ds ∧ d = .none) (He.ga K "check_slants") :=
  mk_n W 16 sc_check_slants (fun _ _ _ _ _ _ us hl => match us, hl with | [_], _ => rfl) (fun ds h => by obtain ⟨n, s, _, rfl⟩ := h; exact ⟨rfl, Nat.le_of_ble_eq_true rfl⟩) (fun cdv A outer s0 H E hr => ⟨_, (pss_one (ps_if (pt_not (pt_val (pe_fn (f_slants_good W) hr (pa_cons (pv 0) pa_nil)))) (pss_one ps_never) pss_nil)), fun ds hR => by
    obtain ⟨n, s, hS, rfl⟩ := hR
    exact ⟨_, sf_ifF (et_not (b := true) (et_B (ed_call (ea_cons (ed_var rfl) ea_nil) ⟨n, s, hS, rfl, rfl⟩))) sf_next⟩⟩)
abbrev N_size_of : List Str := ["slants"]
theorem sc_size_of : FnScope N_size_of ["slants"] (defScope (top 29)) := ⟨rfl, rfl, rfl, by decide +kernel, rfl, by decide +kernel, by decide +kernel⟩

def R_size_of : List PyData → PyData → Prop := fun ds d => ∃ n s, 1 ≤ n ∧ ds = [slD n s] ∧ d = .int (n : Int)
theorem f_size_of (W : Wd K mg) : Fnc P w K mg base "size_of" 1 ["slants"] (spD K R_size_of) (He.ga K "size_of") :=
  mk_d W 17 sc_size_of (fun _ _ _ _ _ _ us hl => match us, hl with | [_], _ => rfl) (fun ds d h => by obtain ⟨n, s, _, rfl, _⟩ := h; exact ⟨rfl, Nat.le_of_ble_eq_true rfl⟩) (fun cdv A outer s0 H E hr => ⟨_, (pss_one (ps_ret (pe_op op_fdivZ (pe_op op_add (pe_callB (clLen K) (by rfl) W.n_len (by decide +kernel) (pa_cons (pv 0) pa_nil)) pe_int) pe_int))), fun ds d hR => by
    obtain ⟨n, s, h1, rfl, rfl⟩ := hR
    refine sr_ret ((ed_I (g := Int.fdiv) (ed_I0 (g := fun i j => i + j) (ed_lenT (ds := intL (2 * n - 1) s) (ed_var rfl)) ed_int) ed_int (div2 _)).to ?_)
    rw [intL_len, Int.fdiv_eq_ediv_of_nonneg _ (by decide)]
    congr 1
    omega⟩)
abbrev N_tabled : List Str := ["slants", "size", "row", "column"]
theorem sc_tabled : FnScope N_tabled ["slants"] (defScope (top 30)) := ⟨rfl, rfl, rfl, by decide +kernel, rfl, by decide +kernel, by decide +kernel⟩

def R_tabled : List PyData → PyData → Prop := fun ds d => ∃ n s, Sl s n ∧ ds = [slD n s] ∧ d = .list (tabL n s)
theorem f_tabled (W : Wd K mg) : Fnc P w K mg base "tabled" 2 ["slants"] (spD K R_tabled) (He.ga K "tabled") :=
  mk_d W 18 sc_tabled (fun _ _ _ _ _ _ us hl => match us, hl with | [_], _ => rfl) (fun ds d h => by obtain ⟨n, s, _, rfl, _⟩ := h; exact ⟨rfl, Nat.le_of_ble_eq_true rfl⟩) (fun cdv A outer s0 H E hr => ⟨_, (pss_cons (ps_set (i := 1) sc_tabled.nd rfl (.inr rfl) (pe_fn (f_size_of W) hr (pa_cons (pv 0) pa_nil)))
    (pss_one (ps_ret (pe_lc (own := [("row", 2)]) rfl sc_tabled.nd (pi_range1 (by rfl) W.n_range (pa_cons (pv 1) pa_nil)) (blkOk_by (own := [("row", 2)]) (N := N_tabled) (sc := defScope (top 30)) (by decide +kernel)) (fun _ _ _ _ _ => (pg_name (i := 2) sc_tabled.nd rfl (.inr rfl))) (fun _ _ _ _ _ => pts_nil) (fun _ _ _ _ _ => (pe_lc (own := [("column", 3)]) rfl sc_tabled.nd (pi_range1 (by rfl) W.n_range (pa_cons (pv 1) pa_nil)) (blkOk_by (own := [("column", 3)]) (N := N_tabled) (sc := relS (lcScope (top 30)) (defScope (top 30))) (by decide +kernel)) (fun _ _ _ _ _ => (pg_name (i := 3) sc_tabled.nd rfl (.inl rfl))) (fun _ _ _ _ _ => pts_nil) (fun _ _ _ _ _ => (pe_ix (ixT K) (pv 0) (pe_op op_sub (pe_op op_add (pe_op op_sub (pv 3) (pv 2)) (pv 1)) pe_int) (fun _ _ => rfl))))))))), fun ds d hR => by
    obtain ⟨n, s, hS, rfl, rfl⟩ := hR
    have h1 := hS.1
    have h5 := hS.2.1
    refine sr_seq (sf_set (ed_call (ea_cons (ed_var rfl) ea_nil) ⟨n, s, h1, rfl, rfl⟩)) (sr_ret (EL.ed (el_lcL (n := n) (ds := fun i => .int (i : Int)) (b := fun i => intL n fun j => s (n - 1 + j - i)) (ei_rng1 (ea_cons (ed_var rfl) ea_nil) rfl (by omega)) (by decide) (fun i hi => ?_) (fun i _ => noL_ints _ _) (by omega))))
    refine el_lcN (n := n) (ds := fun j => .int (j : Int)) (b := fun j => .int (s (n - 1 + j - i))) (ei_rng1 (ea_cons (ed_var rfl) ea_nil) rfl (by omega)) (by decide) (fun j hj => ?_) (fun _ _ => rfl) (by omega)
    exact ed_ixT (n := n - 1 + j - i) (ds := intL (2 * n - 1) s) (ed_var rfl) (ed_I0 (g := fun i j => i - j) (ed_I0 (g := fun i j => i + j) (ed_I0 (g := fun i j => i - j) (ed_var rfl) (ed_var rfl)) (ed_var rfl)) ed_int) (by omega) (intL_get (by omega))⟩)
abbrev N_turned_slants : List Str := ["slants"]
theorem sc_turned_slants : FnScope N_turned_slants ["slants"] (defScope (top 31)) := ⟨rfl, rfl, rfl, by decide +kernel, rfl, by decide +kernel, by decide +kernel⟩

def R_turned_slants : List PyData → PyData → Prop := fun ds d => ∃ n s, Sl s n ∧ ds = [slD n s] ∧ d = slD n (turn s n)
theorem rev_rng {n : Nat} {f : Nat → PyData} : ((List.range n).map f).reverse = (List.range n).map fun j => f (n - 1 - j) := by
  refine List.ext_getElem? fun i => ?_
  by_cases h : i < n
  · rw [List.getElem?_reverse (by rw [rng_len]; exact h), rng_len, rng_get (by omega), rng_get h]
  · rw [List.getElem?_eq_none (by rw [List.length_reverse, rng_len]; omega), List.getElem?_eq_none (by rw [rng_len]; omega)]
theorem f_turned_slants (W : Wd K mg) : Fnc P w K mg base "turned_slants" 5 ["slants"] (spD K R_turned_slants) (He.ga K "turned_slants") :=
  mk_d W 19 sc_turned_slants (fun _ _ _ _ _ _ us hl => match us, hl with | [_], _ => rfl) (fun ds d h => by obtain ⟨n, s, _, rfl, _⟩ := h; exact ⟨rfl, Nat.le_of_ble_eq_true rfl⟩) (fun cdv A outer s0 H E hr => ⟨_, (pss_cons (ps_expr (pe_fn (f_check_slants W) hr (pa_cons (pv 0) pa_nil)))
    (pss_one (ps_ret (peBackT K (pv 0))))), fun ds d hR => by
    obtain ⟨n, s, hS, rfl, rfl⟩ := hR
    refine sr_seq (sf_drop (ed_call (ea_cons (ed_var rfl) ea_nil) ⟨⟨n, s, hS, rfl⟩, rfl⟩)) (sr_ret ((ed_backT (ed_var (d := slD n s) rfl)).to ?_))
    unfold slD
    congr 1
    unfold intL
    rw [rev_rng]
    refine rng_congr fun i hi => ?_
    unfold turn
    rw [show 2 * n - 1 - 1 - i = 2 * n - 2 - i by omega]⟩)
/-! a part of a tuple -/
theorem cut_dp {H : Hp} {ds : List PyData} {vs : List V} {a b : Nat} (h : DpAll K H vs ds) : DpAll K H (cutV vs (some (a : Int)) (some (b : Int))) ((ds.drop (min a ds.length)).take (min b ds.length - min a ds.length)) := by
  unfold cutV
  rw [HT.sIx_nat, HT.sIx_nat, h.len]
  exact (h.drop _).take _
theorem cut_dp0 {H : Hp} {ds : List PyData} {vs : List V} {b : Nat} (h : DpAll K H vs ds) : DpAll K H (cutV vs none (some (b : Int))) (ds.take (min b ds.length)) := by
  unfold cutV
  rw [HT.sIx_nat, HT.sIx_none, h.len]
  exact (h.drop 0).take _
theorem cut_dp1 {H : Hp} {ds : List PyData} {vs : List V} {a : Nat} (h : DpAll K H vs ds) : DpAll K H (cutV vs (some (a : Int)) none) (ds.drop (min a ds.length)) := by
  unfold cutV
  rw [HT.sIx_nat, HT.sIx_none, h.len]
  have e := (h.drop (min a ds.length)).take (ds.length - min a ds.length)
  rw [List.take_of_length_le (l := ds.drop _) (by rw [List.length_drop]; omega)] at e
  exact e
theorem drop_rng {n a : Nat} {f : Nat → PyData} (h : a ≤ n) : ((List.range n).map f).drop a = (List.range (n - a)).map fun j => f (a + j) := by
  refine List.ext_getElem? fun i => ?_
  rw [List.getElem?_drop]
  by_cases hi : i < n - a
  · rw [rng_get (by omega), rng_get hi]
  · rw [List.getElem?_eq_none (by rw [rng_len]; omega), List.getElem?_eq_none (by rw [rng_len]; omega)]
theorem take_rng {n a : Nat} {f : Nat → PyData} (h : a ≤ n) : ((List.range n).map f).take a = (List.range a).map f := by
  refine List.ext_getElem? fun i => ?_
  by_cases hi : i < a
  · rw [List.getElem?_take_of_lt hi, rng_get (by omega), rng_get hi]
  · rw [List.getElem?_eq_none (by rw [List.length_take, rng_len]; omega), List.getElem?_eq_none (by rw [rng_len]; omega)]
abbrev N_cornered : List Str := ["slants", "size", "cut"]
theorem sc_cornered : FnScope N_cornered ["slants", "size"] (defScope (top 32)) := ⟨rfl, rfl, rfl, by decide +kernel, rfl, by decide +kernel, by decide +kernel⟩

def R_cornered : List PyData → PyData → Prop := fun ds d => ∃ (n k : Nat) (s : Nat → Int), 1 ≤ k ∧ k ≤ n ∧ ds = [slD n s, .int (k : Int)] ∧ d = slD k (cor s n k)
theorem f_cornered (W : Wd K mg) : Fnc P w K mg base "cornered" 2 ["slants", "size"] (spD K R_cornered) (He.ga K "cornered") :=
  mk_d W 20 sc_cornered (fun _ _ _ _ _ _ us hl => match us, hl with | [_, _], _ => rfl) (fun ds d h => by obtain ⟨n, k, s, _, _, rfl, _⟩ := h; exact ⟨rfl, Nat.le_of_ble_eq_true rfl⟩) (fun cdv A outer s0 H E hr => ⟨_, (pss_cons (ps_set (i := 2) sc_cornered.nd rfl (.inl rfl) (pe_op op_sub (pe_fn (f_size_of W) hr (pa_cons (pv 0) pa_nil)) (pv 1)))
    (pss_one (ps_ret (pe_slice (slT K) (pv 0) (po_some (pv 2)) (po_some (pe_op op_sub (pe_callB (clLen K) (by rfl) W.n_len (by decide +kernel) (pa_cons (pv 0) pa_nil)) (pv 2))))))), fun ds d hR => by
    obtain ⟨n, k, s, h1, h2, rfl, rfl⟩ := hR
    refine sr_seq (sf_set ((ed_I0 (g := fun i j => i - j) (ed_call (ea_cons (ed_var rfl) ea_nil) ⟨n, s, by omega, rfl, rfl⟩) (ed_var rfl)).to (show _ = PyData.int ((n - k : Nat) : Int) by congr 1; omega))) ?_
    have e : ((intL (2 * n - 1) s).drop (min (n - k) (intL (2 * n - 1) s).length)).take (min (n + k - 1) (intL (2 * n - 1) s).length - min (n - k) (intL (2 * n - 1) s).length) = intL (2 * k - 1) (cor s n k) := by
      rw [intL_len, show min (n - k) (2 * n - 1) = n - k by omega, show min (n + k - 1) (2 * n - 1) - (n - k) = 2 * k - 1 by omega]
      unfold intL
      rw [drop_rng (by omega), take_rng (by omega)]
      rfl
    refine sr_ret (ed_slT (ds := intL (2 * n - 1) s) (lo := some ((n - k : Nat) : Int)) (hi := some ((n + k - 1 : Nat) : Int)) (ed_var rfl) (eo_int (ed_var rfl)) (eo_int ((ed_I0 (g := fun i j => i - j) (ed_lenT (ds := intL (2 * n - 1) s) (ed_var rfl)) (ed_var rfl)).to ?_)) (fun vs H h => ?_) fun z => ?_)
    · rw [intL_len]
      congr 1
      omega
    · have q := cut_dp (a := n - k) (b := n + k - 1) h
      rw [e] at q
      exact q
    · rw [HT.sIx_nat, intL_len] at z
      have : k = n := by omega
      subst this
      rw [cor_full]⟩)
abbrev N_corner : List Str := ["slants", "size"]
theorem sc_corner : FnScope N_corner ["slants", "size"] (defScope (top 33)) := ⟨rfl, rfl, rfl, by decide +kernel, rfl, by decide +kernel, by decide +kernel⟩

def R_corner : List PyData → PyData → Prop := fun ds d => ∃ (n k : Nat) (s : Nat → Int), Sl s n ∧ 1 ≤ k ∧ k ≤ n ∧ ds = [slD n s, .int (k : Int)] ∧ d = slD k (cor s n k)
theorem f_corner (W : Wd K mg) : Fnc P w K mg base "corner" 5 ["slants", "size"] (spD K R_corner) (He.ga K "corner") :=
  mk_d W 21 sc_corner (fun _ _ _ _ _ _ us hl => match us, hl with | [_, _], _ => rfl) (fun ds d h => by obtain ⟨n, k, s, _, _, _, rfl, _⟩ := h; exact ⟨rfl, Nat.le_of_ble_eq_true rfl⟩) (fun cdv A outer s0 H E hr => ⟨_, (pss_cons (ps_expr (pe_fn (f_check_slants W) hr (pa_cons (pv 0) pa_nil)))
    (pss_cons (ps_if (pt_not (pt_val (pe_fn (f_is_upto W) hr (pa_cons (pv 1) (pa_cons pe_int (pa_cons (pe_fn (f_size_of W) hr (pa_cons (pv 0) pa_nil)) pa_nil)))))) (pss_one ps_never) pss_nil)
    (pss_one (ps_ret (pe_fn (f_cornered W) hr (pa_cons (pv 0) (pa_cons (pv 1) pa_nil))))))), fun ds d hR => by
    obtain ⟨n, k, s, hS, h1, h2, rfl, rfl⟩ := hR
    refine sr_seq (sf_drop (ed_call (ea_cons (ed_var rfl) ea_nil) ⟨⟨n, s, hS, rfl⟩, rfl⟩)) (sr_seq (sf_ifF (et_not (b := true) (et_B ((ed_call (ea_cons (ed_var rfl) (ea_cons ed_int (ea_cons (ed_call (ea_cons (ed_var rfl) ea_nil) ⟨n, s, hS.1, rfl, rfl⟩) ea_nil))) ⟨_, _, _, rfl, rfl⟩).to ?_))) sf_next) (sr_ret (ed_call (ea_cons (ed_var rfl) (ea_cons (ed_var rfl) ea_nil)) ⟨n, k, s, h1, h2, rfl, rfl⟩)))
    rw [decide_eq_true (by omega), decide_eq_true (by omega)]
    rfl⟩)
abbrev N_is_row : List Str := ["slants", "thing", "one"]
theorem sc_is_row : FnScope N_is_row ["slants", "thing"] (defScope (top 34)) := ⟨rfl, rfl, rfl, by decide +kernel, rfl, by decide +kernel, by decide +kernel⟩

def R_is_row : List PyData → PyData → Prop := fun ds d => ∃ (n : Nat) (s : Nat → Int) (f : Nat → Rat), Sl s n ∧ ds = [slD n s, rowD n f] ∧ d = .bool true
theorem f_is_row (W : Wd K mg) : Fnc P w K mg base "is_row" 3 ["slants", "thing"] (spD K R_is_row) (He.ga K "is_row") :=
  mk_d W 22 sc_is_row (fun _ _ _ _ _ _ us hl => match us, hl with | [_, _], _ => rfl) (fun ds d h => by obtain ⟨n, s, f, _, rfl, _⟩ := h; exact ⟨rfl, Nat.le_of_ble_eq_true rfl⟩) (fun cdv A outer s0 H E hr => ⟨_, (pss_one (ps_ret (pe_and (pe_callB (clIsi K) (by rfl) W.n_isinstance (by decide +kernel) (pa_cons (pv 1) (pa_cons (pe_bltn (v := .ty "tuple") (by rfl) W.n_tuple (by decide +kernel) rfl) pa_nil))) (pe_and (pe_cmpR op_eq (pe_callB (clLen K) (by rfl) W.n_len (by decide +kernel) (pa_cons (pv 1) pa_nil)) (pe_fn (f_size_of W) hr (pa_cons (pv 0) pa_nil)) (nomark _)) (pe_one (pe_callB (clAll K rfl) (by rfl) W.n_all (by decide +kernel) (pa_cons (pe_lc (own := [("one", 2)]) rfl sc_is_row.nd (piT K (pv 1)) (blkOk_by (own := [("one", 2)]) (N := N_is_row) (sc := defScope (top 34)) (by decide +kernel)) (fun _ _ _ _ _ => (pg_name (i := 2) sc_is_row.nd rfl (.inl rfl))) (fun _ _ _ _ _ => pts_nil) (fun _ _ _ _ _ => (pe_fn (f_share_good W) hr (pa_cons (pv 2) pa_nil)))) pa_nil))))))), fun ds d hR => by
    obtain ⟨n, s, f, hS, rfl, rfl⟩ := hR
    have h5 := hS.2.1
    refine sr_ret (ed_and (b := true) (c := true) (ed_isi (d := rowD n f) (ed_var rfl) k_tt) fun _ => ed_and (b := true) (c := true) ((ed_eqI (ed_lenT (ds := rowL n f) (ed_var rfl)) (ed_call (ea_cons (ed_var rfl) ea_nil) ⟨n, s, hS.1, rfl, rfl⟩)).to ?_) fun _ => ed_allT (n := n) (EL.ed (el_lcN (n := n) (ds := fun j => shD (f j)) (ei_tup (ed_var rfl)) (by decide) (fun i hi => ed_call (ea_cons (ed_var rfl) ea_nil) ⟨_, rfl, rfl⟩) (fun _ _ => rfl) (by omega))))
    rw [show (rowL n f).length = n from rng_len, decide_eq_true rfl]⟩)
abbrev N_check_row : List Str := ["slants", "row"]
theorem sc_check_row : FnScope N_check_row ["slants", "row"] (defScope (top 35)) := ⟨rfl, rfl, rfl, by decide +kernel, rfl, by decide +kernel, by decide +kernel⟩

def R_check_row : List PyData → Prop := fun ds => ∃ (n : Nat) (s : Nat → Int) (f : Nat → Rat), Sl s n ∧ ds = [slD n s, rowD n f]
theorem f_check_row (W : Wd K mg) : Fnc P w K mg base "check_row" 4 ["slants", "row"] (spD K fun ds d => R_check_row ds ∧ d = .none) (He.ga K "check_row") :=
  mk_n W 23 sc_check_row (fun _ _ _ _ _ _ us hl => match us, hl with | [_, _], _ => rfl) (fun ds h => by obtain ⟨n, s, f, _, rfl⟩ := h; exact ⟨rfl, Nat.le_of_ble_eq_true rfl⟩) (fun cdv A outer s0 H E hr => ⟨_, (pss_one (ps_if (pt_not (pt_val (pe_fn (f_is_row W) hr (pa_cons (pv 0) (pa_cons (pv 1) pa_nil))))) (pss_one ps_never) pss_nil)), fun ds hR => by
    obtain ⟨n, s, f, hS, rfl⟩ := hR
    exact ⟨_, sf_ifF (et_not (b := true) (et_B (ed_call (ea_cons (ed_var rfl) (ea_cons (ed_var rfl) ea_nil)) ⟨n, s, f, hS, rfl, rfl⟩))) sf_next⟩⟩)
abbrev N_made : List Str := ["slants", "row", "line", "number"]
theorem sc_made : FnScope N_made ["slants", "row"] (defScope (top 36)) := ⟨rfl, rfl, rfl, by decide +kernel, rfl, by decide +kernel, by decide +kernel⟩

def R_made : List PyData → PyData → Prop := fun ds d => ∃ (n B : Nat) (s : Nat → Int) (f : Nat → Rat), Sl s n ∧ ds = [slD n s, rowD n f] ∧ (∀ j, j < n → Bd B (f j)) ∧ (n + 1) * (7 + B + 1) ≤ 8990 ∧ d = rowD n (mul s n f)
theorem f_made (W : Wd K mg) : Fnc P w K mg base "made" 6 ["slants", "row"] (spD K R_made) (He.ga K "made") :=
  mk_d W 24 sc_made (fun _ _ _ _ _ _ us hl => match us, hl with | [_, _], _ => rfl) (fun ds d h => by obtain ⟨n, B, s, f, _, rfl, _⟩ := h; exact ⟨rfl, Nat.le_of_ble_eq_true rfl⟩) (fun cdv A outer s0 H E hr => ⟨_, (pss_one (ps_ret (pe_callTy (clTup K) (by rfl) W.n_tuple (by decide +kernel) (pa_cons (pe_lc (own := [("line", 2)]) rfl sc_made.nd (piL K (pe_fn (f_tabled W) hr (pa_cons (pv 0) pa_nil))) (blkOk_by (own := [("line", 2)]) (N := N_made) (sc := defScope (top 36)) (by decide +kernel)) (fun _ _ _ _ _ => (pg_name (i := 2) sc_made.nd rfl (.inl rfl))) (fun _ _ _ _ _ => pts_nil) (fun _ _ _ _ _ => (pe_fn (f_product_sum W) hr (pa_cons (pe_lc (own := [("number", 3)]) rfl sc_made.nd (piL K (pv 2)) (blkOk_by (own := [("number", 3)]) (N := N_made) (sc := relS (lcScope (top 36)) (defScope (top 36))) (by decide +kernel)) (fun _ _ _ _ _ => (pg_name (i := 3) sc_made.nd rfl (.inl rfl))) (fun _ _ _ _ _ => pts_nil) (fun _ _ _ _ _ => (pe_tup (pa_cons (pv 3) (pa_cons pe_int pa_nil))))) (pa_cons (pv 1) pa_nil))))) pa_nil)))), fun ds d hR => by
    obtain ⟨n, B, s, f, hS, rfl, hf, hb, rfl⟩ := hR
    have h1 := hS.1
    have h5 := hS.2.1
    refine sr_ret (ed_tupL (EL.ed (el_lcN (n := n) (ds := fun i => .list (intL n fun j => s (n - 1 + j - i))) (b := fun i => shD (mul s n f i)) (ei_list (ed_call (ea_cons (ed_var rfl) ea_nil) ⟨n, s, hS, rfl, rfl⟩)) (by decide) (fun i hi => ?_) (fun i _ => noL_sh _) (by omega))))
    refine ed_call (ea_cons (EL.ed (el_lcN (n := n) (ds := fun j => .int (s (n - 1 + j - i))) (b := fun j => shD (T s n i j)) (ei_list (ed_var rfl)) (by decide) (fun j hj => ed_tup (ea_cons (ed_var rfl) (ea_cons ed_int ea_nil)) (by show 2 ≤ 100000; decide)) (fun _ _ => noL_sh _) (by omega))) (ea_cons (ed_var rfl) ea_nil)) ⟨n, 7, B, T s n i, f, .inl rfl, fun j hj => T_bd hS hi hj, hf, hb, rfl⟩⟩)
abbrev N_times_row : List Str := ["slants", "row"]
theorem sc_times_row : FnScope N_times_row ["slants", "row"] (defScope (top 37)) := ⟨rfl, rfl, rfl, by decide +kernel, rfl, by decide +kernel, by decide +kernel⟩

theorem f_times_row (W : Wd K mg) : Fnc P w K mg base "times_row" 7 ["slants", "row"] (spD K R_made) (He.ga K "times_row") :=
  mk_d W 25 sc_times_row (fun _ _ _ _ _ _ us hl => match us, hl with | [_, _], _ => rfl) (fun ds d h => by obtain ⟨n, B, s, f, _, rfl, _⟩ := h; exact ⟨rfl, Nat.le_of_ble_eq_true rfl⟩) (fun cdv A outer s0 H E hr => ⟨_, (pss_cons (ps_expr (pe_fn (f_check_slants W) hr (pa_cons (pv 0) pa_nil)))
    (pss_cons (ps_expr (pe_fn (f_check_row W) hr (pa_cons (pv 0) (pa_cons (pv 1) pa_nil))))
    (pss_one (ps_ret (pe_fn (f_made W) hr (pa_cons (pv 0) (pa_cons (pv 1) pa_nil))))))), fun ds d hR => by
    obtain ⟨n, B, s, f, hS, rfl, hf, hb, rfl⟩ := hR
    exact sr_seq (sf_drop (ed_call (ea_cons (ed_var rfl) ea_nil) ⟨⟨n, s, hS, rfl⟩, rfl⟩)) (sr_seq (sf_drop (ed_call (ea_cons (ed_var rfl) (ea_cons (ed_var rfl) ea_nil)) ⟨⟨n, s, f, hS, rfl⟩, rfl⟩)) (sr_ret (ed_call (ea_cons (ed_var rfl) (ea_cons (ed_var rfl) ea_nil)) ⟨n, B, s, f, hS, rfl, hf, hb, rfl⟩)))⟩)
end
end K35
/-! Lists that a def changes; the elimination walked. -/
namespace K35
open PySem PySem.Spec PyProof.Rows L2 Evl
/-- all but l is as it was -/
def Eb (l : Addr) (H H' : Hp) : Prop := ∀ b o, b ≠ l → H b = some o → H' b = some o
def Lst (K : PySem.W.Frag) (H : Hp) (l : Addr) (ds : List PyData) : Prop := ∃ vs, H l = some (.lst vs) ∧ DpAll K H vs ds
theorem Eb.ex {l : Addr} {H H' : Hp} (e : Ex H H') : Eb l H H' := fun b o _ h => e b o h
theorem Eb.trans {l : Addr} {H H1 H2 : Hp} (a : Eb l H H1) (b : Eb l H1 H2) : Eb l H H2 := fun x o n h => b x o n (a x o n h)
theorem Eb.tx {l : Addr} {H H' : Hp} {vs : List V} (e : Eb l H H') (h : H l = some (.lst vs)) : Tx H H' := fun b o hb n => by
  by_cases q : b = l
  · subst q
    rw [h] at hb
    cases hb
    exact absurd rfl (n vs)
  · exact e b o q hb
theorem Eb.ex0 {l : Addr} {H0 H H' : Hp} (e : Eb l H H') (h : Ex H0 H) (n : H0 l = none) : Ex H0 H' := fun b o hb => e b o (ne_of_none hb n) (h b o hb)
theorem Eb.put {l : Addr} {H : Hp} {o : HO} : Eb l H (upd H l o) := fun b o n h => by
  rw [upd_ne n]
  exact h
section
variable {K : PySem.W.Frag} {H H' : Hp} {l l' : Addr} {ds : List PyData} {d : PyData} {Γ : Ga} {σ : L2.St} {v : V}
theorem Lst.dp (L : Lst K H l ds) : Dp K H (.ref l) (.list ds) := by
  obtain ⟨vs, h1, h2⟩ := L
  exact .lst (SqL.of h1) h2
theorem Lst.exx (L : Lst K H l ds) (e : Ex H H') : Lst K H' l ds := by
  obtain ⟨vs, h1, h2⟩ := L
  exact ⟨vs, e _ _ h1, dpa_ex e _ _ h2⟩
theorem Lst.off {vs : List V} (L : Lst K H l ds) (e : Eb l' H H') (h : H l' = some (.lst vs)) (ne : l ≠ l') (n : noL.noLs ds = true) : Lst K H' l ds := by
  obtain ⟨us, h1, h2⟩ := L
  exact ⟨us, e _ _ ne h1, dpa_tx (e.tx h) _ _ n h2⟩
theorem Sg.tx (g : Sg K H σ Γ) (n : ∀ (i : Nat) d, Γ[i]? = some (some d) → noL d = true) (e : Tx H H') : Sg K H' σ Γ := ⟨g.len, fun i d h => by
  obtain ⟨v, h1, h2⟩ := g.at_ i d h
  exact ⟨v, h1, dp_tx e d v (n i d h) h2⟩⟩
theorem Sg.know (g : Sg K H σ Γ) {k : Nat} (h : σ[k]? = some (some v)) (hd : Dp K H v d) : Sg K H σ (Γ.set k (some d)) := ⟨by rw [List.length_set]; exact g.len, fun i e he => by
  rw [List.getElem?_set] at he
  by_cases q : k = i
  · subst q
    rw [if_pos rfl] at he
    split at he
    · cases he
      exact ⟨v, h, hd⟩
    · cases he
  · rw [if_neg q] at he
    exact g.at_ i e he⟩
theorem sg_none {n : Nat} (h : σ.length = n) : Sg K H σ (List.replicate n none) := ⟨by rw [List.length_replicate]; exact h, fun i d hd => by
  rw [List.getElem?_replicate] at hd
  split at hd <;> cases hd⟩
variable {te ti : TE} {D : Ends} {k : Nat} {i : Int} {j : Nat}
theorem st_put (g : Sg K H σ Γ) (hk : σ[k]? = some (some (.ref l))) (L : Lst K H l ds) (he : ED K te Γ d) (hi : ED K ti Γ (.int i)) (hij : i = (j : Int)) (hj : j < ds.length) (n : noL.noLs ds = true) (n' : noL d = true)
    (q : ∀ H2, Eb l H H2 → Lst K H2 l (ds.set j d) → D.nx σ H2) : tAsg te (gSub (tVar k) ti rSetL) D σ H :=
  he σ H g _ fun v H1 e1 hv => ⟨.ref l, hk, hi σ H1 (g.ex e1) _ fun y H2 e2 hy => by
    obtain ⟨vs, h1, h2⟩ := L
    have hl : H2 l = some (.lst vs) := e2 _ _ (e1 _ _ h1)
    have tx : Tx H2 (upd H2 l (.lst (vs.set j v))) := Tx.put hl
    refine ⟨l, vs, i, j, rfl, dp_int hy, hl, ?_, q _ ((Eb.ex (e1.trans e2)).trans Eb.put) ⟨_, upd_same, (dpa_tx tx _ _ n (dpa_ex (e1.trans e2) _ _ h2)).set (dp_tx tx _ _ n' (dp_ex e2 _ _ hv)) j⟩⟩
    rw [hij]
    exact ixN_nat (by rw [h2.len]; exact hj)⟩
/-- the value in hand -/
theorem st_put1 {Q : L2.St → Hp → Prop} (g : Sg K H σ Γ) (hk : σ[k]? = some (some (.ref l))) (L : Lst K H l ds) (hv : Dp K H v d) (hi : ED K ti Γ (.int i)) (hij : i = (j : Int)) (hj : j < ds.length) (n : noL.noLs ds = true) (n' : noL d = true)
    (q : ∀ H2, Eb l H H2 → Lst K H2 l (ds.set j d) → Q σ H2) : gSub (tVar k) ti rSetL v σ H Q :=
  ⟨.ref l, hk, hi σ H g _ fun y H2 e2 hy => by
    obtain ⟨vs, h1, h2⟩ := L
    have hl : H2 l = some (.lst vs) := e2 _ _ h1
    have tx : Tx H2 (upd H2 l (.lst (vs.set j v))) := Tx.put hl
    refine ⟨l, vs, i, j, rfl, dp_int hy, hl, ?_, q _ ((Eb.ex e2).trans Eb.put) ⟨_, upd_same, (dpa_tx tx _ _ n (dpa_ex e2 _ _ h2)).set (dp_tx tx _ _ n' (dp_ex e2 _ _ hv)) j⟩⟩
    rw [hij]
    exact ixN_nat (by rw [h2.len]; exact hj)⟩
theorem st_app (g : Sg K H σ Γ) (hk : σ[k]? = some (some (.ref l))) (L : Lst K H l ds) (he : ED K te Γ d) (hz : ds.length < 100000) (n : noL.noLs ds = true) (n' : noL d = true)
    (q : ∀ H2, Eb l H H2 → Lst K H2 l (ds ++ [d]) → D.nx σ H2) : tDrop (tBM K "list" rAppend (tVar k) (tCons te tNil)) D σ H := by
  obtain ⟨vs, h1, h2⟩ := L
  refine ⟨.ref l, hk, Or.inl ⟨rfl, vs, SqL.of h1⟩, he σ H g _ fun v H1 e1 hv => ?_⟩
  have tx : Tx H1 (upd H1 l (.lst (vs ++ [v]))) := Tx.put (e1 _ _ h1)
  exact ⟨l, vs, v, rfl, rfl, e1 _ _ h1, sz_lt (by rw [h2.len]; exact hz), q _ ((Eb.ex e1).trans Eb.put) ⟨_, upd_same, (dpa_tx tx _ _ n (dpa_ex e1 _ _ h2)).snoc (dp_tx tx _ _ n' hv)⟩⟩
theorem for_rng1 {ta : TA} {g : TG} {tb : TS} {n : Nat} {m : Int} (h : EA K ta Γ [.int m]) (hm : m = (n : Int)) (hb : n ≤ 100000) (gs : Sg K H σ Γ) (P : Nat → L2.St → Hp → Prop) (h0 : ∀ H1, Ex H H1 → P 0 σ H1)
    (hs : ∀ i σ' H', i < n → P i σ' H' → g (.int (i : Int)) σ' H' fun σ2 H2 => tb { D with nx := P (i + 1), ct := P (i + 1), bk := D.nx } σ2 H2) (hd : ∀ σ' H', P n σ' H' → D.nx σ' H') : tFor (iRng1 ta) g tb D σ H :=
  h σ H gs _ fun vs H1 e1 ha => by
    obtain ⟨v, rfl, hv⟩ := dpa1 ha
    rw [dp_int hv, hm]
    refine ⟨(n : Int), rfl, by omega, by omega, ?_⟩
    rw [Int.toNat_natCast]
    refine for_range (lo := 0) P (h0 H1 e1) (fun i σ' H' hi p => ?_) hd
    rw [Int.zero_add]
    exact hs i σ' H' hi p
theorem for_new {tl : TE} {g : TG} {tb : TS} (h : EL K tl Γ ds) (gs : Sg K H σ Γ) (P : Addr → List V → Nat → L2.St → Hp → Prop) (h0 : ∀ a xs H1, H a = none → Ex H H1 → H1 a = some (.lst xs) → DpAll K H1 xs ds → P a xs 0 σ H1)
    (hl : ∀ a xs i σ' H', P a xs i σ' H' → H' a = some (.lst xs)) (hs : ∀ a xs i x σ' H', xs[i]? = some x → P a xs i σ' H' → g x σ' H' fun σ2 H2 => tb { D with nx := P a xs (i + 1), ct := P a xs (i + 1), bk := D.nx } σ2 H2)
    (hd : ∀ a xs σ' H', xs.length = ds.length → P a xs ds.length σ' H' → D.nx σ' H') : tFor (iList K tl) g tb D σ H :=
  h σ H gs _ fun a xs H1 hn e1 ha hx => ⟨a, rfl, ⟨xs, SqL.of ha⟩, for_list (P a xs) (h0 a xs H1 hn e1 ha hx) (fun i σ' H' _ p => SqL.of (hl a xs i σ' H' p)) (hs a xs) (fun σ' H' p => hd a xs σ' H' hx.len (by rw [← hx.len]; exact p))⟩
end
section
variable {K : PySem.W.Frag} {H : Hp} {l : Addr} {ds : List PyData} {d e : PyData} {Γ : Ga} {σ : L2.St} {te ti : TE} {D : Ends} {k : Nat} {i : Int} {j : Nat} {tz tt tu : TS} {c : TT} {tr : TA}
theorem q_setL (h : EL K te Γ ds) (g : Sg K H σ Γ) (q : ∀ p vs H2, H p = none → Ex H H2 → H2 p = some (.lst vs) → DpAll K H2 vs ds → tz D (σ.set k (some (.ref p))) H2) : tSeq (tAsg te (gName k)) tz D σ H := h σ H g _ q
theorem q_set (h : ED K te Γ d) (g : Sg K H σ Γ) (q : ∀ v H2, Ex H H2 → Dp K H2 v d → tz D (σ.set k (some v)) H2) : tSeq (tAsg te (gName k)) tz D σ H := h σ H g _ q
theorem q_put (g : Sg K H σ Γ) (hk : σ[k]? = some (some (.ref l))) (L : Lst K H l ds) (he : ED K te Γ d) (hi : ED K ti Γ (.int i)) (hij : i = (j : Int)) (hj : j < ds.length) (n : noL.noLs ds = true) (n' : noL d = true)
    (q : ∀ H2, Eb l H H2 → Lst K H2 l (ds.set j d) → tz D σ H2) : tSeq (tAsg te (gSub (tVar k) ti rSetL)) tz D σ H := st_put (D := { D with nx := tz D }) g hk L he hi hij hj n n' q
theorem q_app (g : Sg K H σ Γ) (hk : σ[k]? = some (some (.ref l))) (L : Lst K H l ds) (he : ED K te Γ d) (hz : ds.length < 100000) (n : noL.noLs ds = true) (n' : noL d = true)
    (q : ∀ H2, Eb l H H2 → Lst K H2 l (ds ++ [d]) → tz D σ H2) : tSeq (tDrop (tBM K "list" rAppend (tVar k) (tCons te tNil))) tz D σ H := st_app (D := { D with nx := tz D }) g hk L he hz n n' q
theorem q_pair {k1 k2 : Nat} (h : ED K te Γ (.tuple [d, e])) (g : Sg K H σ Γ) (q : ∀ v1 v2 H2, Ex H H2 → Dp K H2 v1 d → Dp K H2 v2 e → tz D ((σ.set k1 (some v1)).set k2 (some v2)) H2) : tSeq (tAsg te (gTup K 2 (gCons (gName k1) (gCons (gName k2) gNil)))) tz D σ H := h σ H g _ fun v H1 e1 hv => by
  obtain ⟨a, xs, rfl, hs, ha⟩ := dp_tup hv
  obtain ⟨u, w, rfl, h1, h2⟩ := dpa2 ha
  exact ⟨a, [u, w], rfl, hs, rfl, u, [w], rfl, w, [], rfl, rfl, q u w H1 e1 h1 h2⟩
/-- two items of a list exchanged -/
theorem q_swap {t1 t2 i1 i2 : TE} {b1 b2 : Int} {j1 j2 : Nat} (g : Sg K H σ Γ) (hk : σ[k]? = some (some (.ref l))) (L : Lst K H l ds) (h1 : ED K t1 Γ d) (h2 : ED K t2 Γ e) (hi1 : ED K i1 Γ (.int b1)) (e1 : b1 = (j1 : Int)) (hj1 : j1 < ds.length)
    (nΓ : ∀ H2, Eb l H H2 → Lst K H2 l (ds.set j1 d) → Sg K H2 σ Γ') (hi2 : ED K i2 Γ' (.int b2)) (e2 : b2 = (j2 : Int)) (hj2 : j2 < ds.length) (n : noL.noLs ds = true) (nd : noL d = true) (ne : noL e = true) (ns : noL.noLs (ds.set j1 d) = true)
    (q : ∀ H2, Eb l H H2 → Lst K H2 l ((ds.set j1 d).set j2 e) → tz D σ H2) : tSeq (tAsg (tTup (tCons t1 (tCons t2 tNil))) (gTup K 2 (gCons (gSub (tVar k) i1 rSetL) (gCons (gSub (tVar k) i2 rSetL) gNil)))) tz D σ H :=
  (ed_tup (ea_cons h1 (ea_cons h2 ea_nil)) (by show 2 ≤ 100000; decide)) σ H g (fun x H1 => gTup K 2 (gCons (gSub (tVar k) i1 rSetL) (gCons (gSub (tVar k) i2 rSetL) gNil)) x σ H1 (tz D)) fun v H1 x1 hv => by
    obtain ⟨a, xs, rfl, hs, ha⟩ := dp_tup hv
    obtain ⟨u, w, rfl, hu, hw⟩ := dpa2 ha
    refine ⟨a, [u, w], rfl, hs, rfl, u, [w], rfl, ?_⟩
    refine st_put1 (g.ex x1) hk (L.exx x1) hu hi1 e1 hj1 n nd fun H2 y2 L2 => ?_
    obtain ⟨vs, hvs, _⟩ := L.exx x1
    have tx : Tx H1 H2 := y2.tx hvs
    refine ⟨w, [], rfl, st_put1 (nΓ H2 ((Eb.ex x1).trans y2) L2) hk L2 (dp_tx tx _ _ ne hw) hi2 e2 (by rw [List.length_set]; exact hj2) ns ne fun H3 y3 L3 => ⟨rfl, q H3 (((Eb.ex x1).trans y2).trans y3) L3⟩⟩
theorem st_ifT (h : ET K c Γ true) (g : Sg K H σ Γ) (q : ∀ H2, Ex H H2 → tt D σ H2) : tIfS c tt tu D σ H := h σ H g _ fun H2 e => iteT (q H2 e)
theorem st_ifF (h : ET K c Γ false) (g : Sg K H σ Γ) (q : ∀ H2, Ex H H2 → tu D σ H2) : tIfS c tt tu D σ H := h σ H g _ fun H2 e => iteF (q H2 e)
end
/-- the rows' data, the places' -/
def rowsL (m w : Nat) (M : Mx) : List PyData := (List.range m).map fun i => rowD w (M i)
def natL (ps : List Nat) : List PyData := ps.map fun (p : Nat) => PyData.int (p : Int)
theorem rowsL_len {m w : Nat} {M : Mx} : (rowsL m w M).length = m := rng_len
theorem rowsL_get {m w i : Nat} {M : Mx} (h : i < m) : (rowsL m w M)[i]? = some (rowD w (M i)) := rng_get h
theorem rowsL_no (m w : Nat) (M : Mx) : noL.noLs (rowsL m w M) = true := noL_map fun _ _ => noL_row _ _
theorem natL_no (ps : List Nat) : noL.noLs (natL ps) = true := noLs_all fun d hd => by
  obtain ⟨i, _, rfl⟩ := List.mem_map.mp hd
  rfl
theorem natL_len {ps : List Nat} : (natL ps).length = ps.length := by
  unfold natL
  rw [List.length_map]
theorem rowsL_set {m w i : Nat} {M N : Mx} {f : Nat → Rat} (h : ∀ j, j < m → N j = if j = i then f else M j) : (rowsL m w M).set i (rowD w f) = rowsL m w N := by
  refine List.ext_getElem? fun j => ?_
  by_cases hj : j < m
  · rw [List.getElem?_set, rowsL_get hj, rowsL_get hj, h j hj]
    by_cases e : i = j
    · subst e
      rw [if_pos rfl, if_pos rfl, if_pos (by rw [rowsL_len]; exact hj)]
    · rw [if_neg e, if_neg (fun z => e z.symm)]
  · rw [List.getElem?_eq_none (by rw [List.length_set, rowsL_len]; omega), List.getElem?_eq_none (by rw [rowsL_len]; omega)]
/-! which are equal -/
theorem eqv_sh (q r : Rat) : PyData.eqv (shD q) (shD r) = decide (q = r) := by
  have e : PyData.eqv (shD q) (shD r) = ((q.num == r.num) && (((q.den : Int) == (r.den : Int)) && true)) := by
    unfold shD
    simp only [PyData.eqv, PyData.eqvAll]
  rw [e]
  by_cases h : q = r
  · subst h
    rw [decide_eq_true rfl]
    simp
  · rw [decide_eq_false h]
    by_cases h1 : q.num = r.num
    · by_cases h2 : q.den = r.den
      · exact absurd (Rat.ext h1 h2) h
      · have : ((q.den : Int) == (r.den : Int)) = false := beq_eq_false_iff_ne.mpr (by omega)
        rw [this, Bool.false_and, Bool.and_false]
    · have : (q.num == r.num) = false := beq_eq_false_iff_ne.mpr h1
      rw [this, Bool.false_and]
def Shp (k : Nat) (d : PyData) : Prop := d.canLay0 = true ∧ d.depth ≤ k
theorem shp_all {k : Nat} : ∀ {ds : List PyData}, (∀ d, d ∈ ds → Shp k d) → PyData.canLayAll0 ds = true ∧ PyData.depthAll ds ≤ k
  | [], _ => by
    constructor
    · simp only [PyData.canLayAll0]
    · simp only [PyData.depthAll]
      exact Nat.zero_le _
  | d :: ds, h => by
    obtain ⟨a, b⟩ := shp_all fun x hx => h x (List.mem_cons_of_mem _ hx)
    obtain ⟨a', b'⟩ := h d List.mem_cons_self
    constructor
    · simp only [PyData.canLayAll0]
      rw [a', a]
      rfl
    · simp only [PyData.depthAll]
      omega
theorem shp_list {k : Nat} {ds : List PyData} (h : ∀ d, d ∈ ds → Shp k d) : Shp (k + 1) (.list ds) := by
  obtain ⟨a, b⟩ := shp_all h
  constructor
  · simp only [PyData.canLay0]
    exact a
  · simp only [PyData.depth]
    omega
theorem shp_tup {k : Nat} {ds : List PyData} (h : ∀ d, d ∈ ds → Shp k d) : Shp (k + 1) (.tuple ds) := by
  obtain ⟨a, b⟩ := shp_all h
  constructor
  · simp only [PyData.canLay0]
    exact a
  · simp only [PyData.depth]
    omega
theorem shp_int {k : Nat} (i : Int) : Shp k (.int i) := by
  constructor
  · simp only [PyData.canLay0]
  · simp only [PyData.depth]
    exact Nat.zero_le _
theorem Shp.sd {k : Nat} {d : PyData} (h : Shp k d) (hk : k ≤ 64) : SeqAt.shaped d = true := by
  unfold SeqAt.shaped
  rw [h.1, Bool.true_and]
  exact decide_eq_true (Nat.le_trans h.2 hk)
theorem shp_sh (q : Rat) : Shp 1 (shD q) := shp_tup fun d hd => by
  rcases List.mem_cons.mp hd with e | hd
  · rw [e]; exact shp_int _
  · rw [List.mem_singleton.mp hd]; exact shp_int _
theorem shp_row (n : Nat) (f : Nat → Rat) : Shp 2 (rowD n f) := shp_tup fun d hd => by
  obtain ⟨i, _, rfl⟩ := List.mem_map.mp hd
  exact shp_sh _
theorem shaped_sh (q : Rat) : SeqAt.shaped (shD q) = true := (shp_sh q).sd (by decide)
theorem shaped_row (n : Nat) (f : Nat → Rat) : SeqAt.shaped (rowD n f) = true := (shp_row n f).sd (by decide)
theorem shaped_nil : SeqAt.shaped (.list []) = true := (shp_list (k := 0) fun d hd => by cases hd).sd (by decide)
theorem shaped_nats (ps : List Nat) : SeqAt.shaped (.list (natL ps)) = true := (shp_list (k := 0) fun d hd => by
  obtain ⟨i, _, rfl⟩ := List.mem_map.mp hd
  exact shp_int _).sd (by decide)
theorem eqv_rows {n : Nat} {f g : Nat → Rat} : PyData.eqv (rowD n f) (rowD n g) = decide (∀ j, j < n → f j = g j) := by
  have key : ∀ (l : List Nat), PyData.eqvAll (l.map fun j => shD (f j)) (l.map fun j => shD (g j)) = l.all fun j => decide (f j = g j) := fun l => by
    induction l with
    | nil => simp [PyData.eqvAll]
    | cons a l ih =>
      rw [List.map_cons, List.map_cons, List.all_cons]
      simp only [PyData.eqvAll]
      rw [ih, eqv_sh]
  have e : PyData.eqv (rowD n f) (rowD n g) = (List.range n).all fun j => decide (f j = g j) := by
    unfold rowD rowL
    simp only [PyData.eqv]
    exact key _
  rw [e]
  by_cases h : ∀ j, j < n → f j = g j
  · rw [decide_eq_true h, List.all_eq_true.mpr fun j hj => decide_eq_true (h j (List.mem_range.mp hj))]
  · rw [decide_eq_false h]
    refine Bool.eq_false_iff.mpr fun z => h fun j hj => ?_
    exact of_decide_eq_true (List.all_eq_true.mp z j (List.mem_range.mpr hj))
theorem eqv_nats_nil (ps : List Nat) : PyData.eqv (.list (natL ps)) (.list []) = ps.isEmpty := by
  cases ps with
  | nil => simp [natL, PyData.eqv, PyData.eqvAll]
  | cons p ps => simp [natL, PyData.eqv, PyData.eqvAll]
section
variable {P : Program} {w : World} {K : PySem.W.Frag} {mg : Str → Option Value} {base : Heap}
theorem belows_eq {m k : Nat} {M : Mx} {p : Nat} : belows m k M p = ((List.range (m - k)).filter fun i => decide (M (k + i) p ≠ 0)).map (k + ·) := by
  unfold belows
  rw [List.range'_eq_map_range, List.filter_map]
  rfl
/-- a row cleared up to the i-th -/
def clrTo (M : Mx) (h p i : Nat) : Mx := fun j => if j = h ∨ j < i then clr M h p j else M j
theorem lin_bd {m w : Nat} {M : Mx} (hm : m ≤ 5) (hb : ∀ i, i < m → RB 7 w (M i)) {c i j : Nat} (hc : c ≤ w) (hi : i < m) (hj : j < w) : Bd 256 ((lin m M c).1 i j) := (lin_rb5 hm hb hc i hi).bd hj
abbrev N_lined : List Str := ["table", "rows", "places", "place", "below", "here", "at"]
theorem sc_lined : FnScope N_lined ["table"] (defScope (top 39)) := ⟨rfl, rfl, rfl, by decide +kernel, rfl, by decide +kernel, by decide +kernel⟩

def R_lined : List PyData → PyData → Prop := fun ds d => ∃ (m w : Nat) (M : Mx), 1 ≤ m ∧ m ≤ 5 ∧ w ≤ 1000 ∧ (∀ i, i < m → RB 7 w (M i)) ∧ ds = [.list (rowsL m w M)] ∧ d = .tuple [.list (rowsL m w (lin m M w).1), .list (natL (lin m M w).2)]
theorem f_lined (W : Wd K mg) : Fnc P w K mg base "lined" 5 ["table"] (spD K R_lined) (He.ga K "lined") :=
  mk_d W 26 sc_lined (fun _ _ _ _ _ _ us hl => match us, hl with | [_], _ => rfl) (fun ds d h => by obtain ⟨m, w, M, _, _, _, _, rfl, _⟩ := h; exact ⟨rfl, Nat.le_of_ble_eq_true rfl⟩) (fun cdv A outer s0 H E hr => ⟨_, (pss_cons (ps_set (i := 1) sc_lined.nd rfl (.inr rfl) (pe_callTy (clLst K) (by rfl) W.n_list (by decide +kernel) (pa_cons (pv 0) pa_nil)))
    (pss_cons (ps_set (i := 2) sc_lined.nd rfl (.inl rfl) (pe_lst pa_nil))
    (pss_cons (ps_for PassesOwn.never rfl (pi_range1 (by rfl) W.n_range (pa_cons (pe_callB (clLen K) (by rfl) W.n_len (by decide +kernel) (pa_cons (pe_ix (ixL K) (pv 0) pe_int (fun _ _ => rfl)) pa_nil)) pa_nil)) (pg_name (i := 3) sc_lined.nd rfl (.inr rfl))
      (pss_cons (ps_setLc (i := 4) (own := [("at", 6)]) rfl sc_lined.nd rfl rfl (sw_true rfl rfl rfl (by decide +kernel)) (pi_range2 (by rfl) W.n_range (pa_cons (pe_callB (clLen K) (by rfl) W.n_len (by decide +kernel) (pa_cons (pv 2) pa_nil)) (pa_cons (pe_callB (clLen K) (by rfl) W.n_len (by decide +kernel) (pa_cons (pv 1) pa_nil)) pa_nil))) (blkOk_by (own := [("at", 6)]) (N := N_lined) (sc := defScope (top 39)) (by decide +kernel)) (fun _ _ _ _ _ => (pg_name (i := 6) sc_lined.nd rfl (.inl rfl))) (fun _ _ _ _ _ => (pts_one (pt_cmpR (opNeD K hr.units) (pe_ix (ixT K) (pe_ix (ixL K) (pv 1) (pv 6) (fun _ _ => rfl)) (pv 3) (fun _ _ => rfl)) (pe_glob (v := .ref (He.ga K "NOUGHT")) rfl W.nought rfl) (nomark _)))) (fun _ _ _ _ _ => (pv 6)))
      (pss_one (ps_if (pt_cmpR (opNeD K hr.units) (pv 4) (pe_lst pa_nil) (nomark _)) (pss_cons (ps_set (i := 5) sc_lined.nd rfl (.inl rfl) (pe_callB (clLen K) (by rfl) W.n_len (by decide +kernel) (pa_cons (pv 2) pa_nil)))
        (pss_cons (ps_asg (pe_tup (pa_cons (pe_ix (ixL K) (pv 1) (pe_ix (ixL K) (pv 4) pe_int (fun _ _ => rfl)) (fun _ _ => rfl)) (pa_cons (pe_ix (ixL K) (pv 1) (pv 5) (fun _ _ => rfl)) pa_nil))) (pgPair K rfl (pg_sub (pv 1) (pv 5) set_list) (pg_sub (pv 1) (pe_ix (ixL K) (pv 4) pe_int (fun _ _ => rfl)) set_list)))
        (pss_cons (ps_asg (pe_fn (f_scaled W) hr (pa_cons (pe_ix (ixL K) (pv 1) (pv 5) (fun _ _ => rfl)) (pa_cons (pe_fn (f_by W) hr (pa_cons (pe_glob (v := .ref (He.ga K "ONE")) rfl W.one rfl) (pa_cons (pe_ix (ixT K) (pe_ix (ixL K) (pv 1) (pv 5) (fun _ _ => rfl)) (pv 3) (fun _ _ => rfl)) pa_nil))) pa_nil))) (pg_sub (pv 1) (pv 5) set_list))
        (pss_cons (ps_for PassesOwn.never rfl (pi_range1 (by rfl) W.n_range (pa_cons (pe_callB (clLen K) (by rfl) W.n_len (by decide +kernel) (pa_cons (pv 1) pa_nil)) pa_nil)) (pg_name (i := 6) sc_lined.nd rfl (.inl rfl))
          (pss_one (ps_if (pt_cmpR op_ne (pv 6) (pv 5) (nomark _)) (pss_one (ps_asg (pe_fn (f_rows_less W) hr (pa_cons (pe_ix (ixL K) (pv 1) (pv 6) (fun _ _ => rfl)) (pa_cons (pe_fn (f_scaled W) hr (pa_cons (pe_ix (ixL K) (pv 1) (pv 5) (fun _ _ => rfl)) (pa_cons (pe_ix (ixT K) (pe_ix (ixL K) (pv 1) (pv 6) (fun _ _ => rfl)) (pv 3) (fun _ _ => rfl)) pa_nil))) pa_nil))) (pg_sub (pv 1) (pv 6) set_list))) pss_nil)))
        (pss_one (ps_expr (pe_bm PySem.F.plainAttrs_list PySem.F.slot_list_append PySem.F.type_list_append mt_append (pv 2) (pa_cons (pv 3) pa_nil)))))))) pss_nil))))
    (pss_one (ps_ret (pe_tup (pa_cons (pv 1) (pa_cons (pv 2) pa_nil)))))))), fun ds d hR => by
    obtain ⟨m, n, M, h1, h5, hw, hB, rfl, rfl⟩ := hR
    intro σ H0 D g q
    -- rows, places
    refine q_setL (el_lstL (ed_var rfl)) g fun r vs H1 hr e1 hr1 hd1 => ?_
    have g1 := (g.ex e1).set 1 (.lst (SqL.of hr1) hd1)
    refine q_setL (el_lst ea_nil (by decide)) g1 fun p ws H2 hp e2 hp1 hd2 => ?_
    have g2 := (g1.ex e2).set 2 (.lst (SqL.of hp1) hd2)
    have hrp : r ≠ p := fun z => by rw [← z, hr1] at hp; cases hp
    have hp0 : H0 p = none := fresh_back e1 hp
    have hlen : ((σ.set 1 (some (.ref r))).set 2 (some (.ref p))).length = 7 := by rw [List.length_set, List.length_set]; exact g.len
    have hs1 : ((σ.set 1 (some (.ref r))).set 2 (some (.ref p)))[1]? = some (some (V.ref r)) := by
      rw [List.getElem?_set_ne (by decide), List.getElem?_set_self (by rw [g.len]; show 1 < 7; decide)]
    have hs2 : ((σ.set 1 (some (.ref r))).set 2 (some (.ref p)))[2]? = some (some (V.ref p)) := by
      rw [List.getElem?_set_self (by rw [List.length_set, g.len]; show 2 < 7; decide)]
    -- the loop
    show tFor _ _ _ _ _ _
    refine for_rng1 (n := n) (ea_cons (ed_lenT (ds := rowL n (M 0)) (ed_ixL (n := 0) (ds := rowsL m n M) (ed_var rfl) ed_int rfl (rowsL_get (by omega)))) ea_nil) (by rw [show (rowL n (M 0)).length = n from rng_len]) (by omega) g2
      (fun c σ' H' => σ'.length = 7 ∧ σ'[1]? = some (some (.ref r)) ∧ σ'[2]? = some (some (.ref p)) ∧ Ex H0 H' ∧ Lst K H' r (rowsL m n (lin m M c).1) ∧ Lst K H' p (natL (lin m M c).2)) (fun H3 e3 => ?_) (fun c σ' H' hc hP => ?_) (fun σ' H' hP => ?_)
    · exact ⟨hlen, hs1, hs2, (e1.trans e2).trans e3, ⟨vs, e3 _ _ (e2 _ _ hr1), dpa_ex (e2.trans e3) _ _ hd1⟩, ⟨ws, e3 _ _ hp1, dpa_ex e3 _ _ hd2⟩⟩
    · obtain ⟨l7, s1, s2, ex, Lr, Lp⟩ := hP
      have E := lin_ech m n M c
      have hst : lin m M (c + 1) = stp m (lin m M c) c := rfl
      have hbd := fun i j (hi : i < m) (hj : j < n) => lin_bd h5 hB (c := c) (by omega) hi hj
      have hbd' := fun i j (hi : i < m) (hj : j < n) => lin_bd h5 hB (c := c + 1) (by omega) hi hj
      rw [hst] at hbd'
      rw [hst]
      generalize lin m M c = st at *
      obtain ⟨A0, ps⟩ := st
      have Lr : Lst K H' r (rowsL m n A0) := Lr
      have Lp : Lst K H' p (natL ps) := Lp
      have hps : ps.length ≤ m := E.len
      -- the turn's place
      show tSeq _ _ _ _ _
      have l7' : (σ'.set 3 (some (V.int (c : Int)))).length = 7 := by rw [List.length_set]; exact l7
      have s1' : (σ'.set 3 (some (V.int (c : Int))))[1]? = some (some (.ref r)) := by rw [List.getElem?_set_ne (by decide)]; exact s1
      have s2' : (σ'.set 3 (some (V.int (c : Int))))[2]? = some (some (.ref p)) := by rw [List.getElem?_set_ne (by decide)]; exact s2
      have s3' : (σ'.set 3 (some (V.int (c : Int))))[3]? = some (some (.int (c : Int))) := by rw [List.getElem?_set_self (by rw [l7]; decide)]
      generalize σ'.set 3 (some (V.int (c : Int))) = σ1 at *
      have gg := (((sg_none (K := K) (H := H') l7').know s1' Lr.dp).know s2' Lp.dp).know s3' (.int (c : Int))
      refine q_setL (ds := natL (belows m ps.length A0 c)) (EL.to (el_lcNf (n := m - ps.length) (ds := fun i => .int ((ps.length : Int) + (i : Int))) (f := fun i => decide (A0 (ps.length + i) c ≠ 0)) (b := fun i => .int ((ps.length : Int) + (i : Int)))
        (ei_rng2 (ea_cons ((ed_lenL (ds := natL ps) (ed_var rfl)).to (f := .int (ps.length : Int)) (by rw [natL_len])) (ea_cons (ed_lenL (ds := rowsL m n A0) (ed_var rfl)) ea_nil)) (by rw [rowsL_len]; omega) (by rw [rowsL_len]; omega)) (by decide) (fun i hi => ?_) (fun i hi _ => ed_var rfl) (fun _ _ => rfl) (by omega)) ?_) gg fun b bs H2 hb e2 hb1 hbd1 => ?_
      · refine (et_test (ed_neD (ed_ixT (n := c) (ds := rowL n (A0 (ps.length + i))) (ed_ixL (n := ps.length + i) (ds := rowsL m n A0) (ed_var rfl) (ed_var rfl) (by omega) (rowsL_get (by omega))) (ed_var rfl) rfl (rng_get hc)) (ed_c W.d0) (shaped_sh _) (shaped_sh _))).to ?_
        rw [eqv_sh, decide_not]
      · rw [belows_eq]
        unfold natL
        rw [List.map_map]
        rfl
      · have l2 : (σ1.set 4 (some (V.ref b))).length = 7 := by rw [List.length_set]; exact l7'
        have t1 : (σ1.set 4 (some (V.ref b)))[1]? = some (some (.ref r)) := by rw [List.getElem?_set_ne (by decide)]; exact s1'
        have t2 : (σ1.set 4 (some (V.ref b)))[2]? = some (some (.ref p)) := by rw [List.getElem?_set_ne (by decide)]; exact s2'
        have t3 : (σ1.set 4 (some (V.ref b)))[3]? = some (some (.int (c : Int))) := by rw [List.getElem?_set_ne (by decide)]; exact s3'
        have t4 : (σ1.set 4 (some (V.ref b)))[4]? = some (some (.ref b)) := by rw [List.getElem?_set_self (by rw [l7']; decide)]
        generalize σ1.set 4 (some (V.ref b)) = σ2 at *
        have Lb : Lst K H2 b (natL (belows m ps.length A0 c)) := ⟨bs, hb1, hbd1⟩
        have brn : b ≠ r := fun z => by
          obtain ⟨vs', h', _⟩ := Lr
          rw [z, h'] at hb
          cases hb
        have bpn : b ≠ p := fun z => by
          obtain ⟨vs', h', _⟩ := Lp
          rw [z, h'] at hb
          cases hb
        have g2' := (((sg_none (K := K) (H := H2) l2).know t1 (Lr.exx e2).dp).know t3 (.int (c : Int))).know t4 Lb.dp
        have te : ET K (tTest (tOp (rNeD K) (tVar 4) (tLst tNil))) ((((List.replicate 7 none).set 1 (some (PyData.list (rowsL m n A0)))).set 3 (some (PyData.int (c : Int)))).set 4 (some (.list (natL (belows m ps.length A0 c))))) (!(belows m ps.length A0 c).isEmpty) :=
          (et_test (ed_neD (ed_var rfl) (EL.ed (el_lst ea_nil (by decide))) (shaped_nats _) shaped_nil)).to (by rw [eqv_nats_nil])
        cases hbel : belows m ps.length A0 c with
        | nil =>
          rw [hbel] at te g2'
          have hs : stp m (A0, ps) c = (A0, ps) := by
            unfold stp
            simp only [hbel]
          rw [hs]
          exact st_ifF te g2' fun H3 e3 => ⟨l2, t1, t2, ex.trans (e2.trans e3), Lr.exx (e2.trans e3), Lp.exx (e2.trans e3)⟩
        | cons b0 rest =>
          rw [hbel] at te g2' Lb
          obtain ⟨hb0, hbm, hne⟩ := belows_cons hbel
          have hs : stp m (A0, ps) c = (clr (swp A0 ps.length b0) ps.length c, ps ++ [c]) := by
            unfold stp
            simp only [hbel]
          rw [hs]
          rw [hs] at hbd'
          refine st_ifT te g2' fun H3 e3 => ?_
          have hkm : ps.length < m := by omega
          have ex3 := ex.trans (e2.trans e3)
          have Lr3 := Lr.exx (e2.trans e3)
          have Lp3 := Lp.exx (e2.trans e3)
          have Lb3 := Lb.exx e3
          -- here
          refine q_set (ed_lenL (ds := natL ps) (ed_var (k := 2) rfl)) ((sg_none (K := K) (H := H3) l2).know t2 Lp3.dp) fun v H4 e4 hv => ?_
          have hv : v = .int (ps.length : Int) := by
            rw [natL_len] at hv
            exact dp_int hv
          subst hv
          have l3 : (σ2.set 5 (some (V.int (ps.length : Int)))).length = 7 := by rw [List.length_set]; exact l2
          have u1 : (σ2.set 5 (some (V.int (ps.length : Int))))[1]? = some (some (.ref r)) := by rw [List.getElem?_set_ne (by decide)]; exact t1
          have u2 : (σ2.set 5 (some (V.int (ps.length : Int))))[2]? = some (some (.ref p)) := by rw [List.getElem?_set_ne (by decide)]; exact t2
          have u3 : (σ2.set 5 (some (V.int (ps.length : Int))))[3]? = some (some (.int (c : Int))) := by rw [List.getElem?_set_ne (by decide)]; exact t3
          have u4 : (σ2.set 5 (some (V.int (ps.length : Int))))[4]? = some (some (.ref b)) := by rw [List.getElem?_set_ne (by decide)]; exact t4
          have u5 : (σ2.set 5 (some (V.int (ps.length : Int))))[5]? = some (some (.int (ps.length : Int))) := by rw [List.getElem?_set_self (by rw [l2]; decide)]
          generalize σ2.set 5 (some (V.int (ps.length : Int))) = σ3 at *
          have ex4 := ex3.trans e4
          have Lr4 := Lr3.exx e4
          have Lp4 := Lp3.exx e4
          have Lb4 := Lb3.exx e4
          have g4 := (((sg_none (K := K) (H := H4) l3).know u1 Lr4.dp).know u4 Lb4.dp).know u5 (.int (ps.length : Int))
          have ix0 : ∀ {Γ : Ga}, Γ[4]? = some (some (.list (natL (b0 :: rest)))) → ED K (tOp (rIxL K) (tVar 4) (tC (.int 0))) Γ (.int (b0 : Int)) := fun h => ed_ixL (n := 0) (ed_var h) ed_int rfl rfl
          -- the swap
          refine q_swap (l := r) (j1 := ps.length) (j2 := b0) (d := rowD n (A0 b0)) (e := rowD n (A0 ps.length)) (Γ' := ((List.replicate 7 none).set 4 (some (.list (natL (b0 :: rest)))))) g4 u1 Lr4 (ed_ixL (n := b0) (ds := rowsL m n A0) (ed_var rfl) (ix0 rfl) rfl (rowsL_get hbm)) (ed_ixL (n := ps.length) (ds := rowsL m n A0) (ed_var rfl) (ed_var rfl) rfl (rowsL_get hkm)) (ed_var rfl) rfl (by rw [rowsL_len]; exact hkm) (fun H5 y5 L5 => ?_) (ix0 rfl) rfl (by rw [rowsL_len]; exact hbm) (rowsL_no _ _ _) (noL_row _ _) (noL_row _ _) ?_ fun H5 y5 L5 => ?_
          · obtain ⟨vr, hvr, _⟩ := Lr4
            exact (sg_none (K := K) (H := H5) l3).know u4 (Lb4.off y5 hvr brn (natL_no _)).dp
          · rw [rowsL_set (M := A0) (N := fun j => if j = ps.length then A0 b0 else A0 j) fun j _ => rfl]
            exact rowsL_no _ _ _
          have eswp : ((rowsL m n A0).set ps.length (rowD n (A0 b0))).set b0 (rowD n (A0 ps.length)) = rowsL m n (swp A0 ps.length b0) := by
            rw [rowsL_set (M := A0) (N := fun j => if j = ps.length then A0 b0 else A0 j) fun j _ => rfl, rowsL_set (N := swp A0 ps.length b0) fun j _ => rfl]
          rw [eswp] at L5
          have bdS : ∀ i j, i < m → j < n → Bd 256 (swp A0 ps.length b0 i j) := fun i j hi hj => by
            unfold swp
            split
            · exact hbd _ _ hkm hj
            · split
              · exact hbd _ _ hbm hj
              · exact hbd _ _ hi hj
          have nz : swp A0 ps.length b0 ps.length c ≠ 0 := by
            unfold swp
            by_cases e : ps.length = b0
            · rw [if_pos e, e]; exact hne
            · rw [if_neg e, if_pos rfl]; exact hne
          obtain ⟨vr, hvr, _⟩ := id Lr4
          have ex5 := y5.ex0 ex4 hr
          have Lp5 := Lp4.off y5 hvr (Ne.symm hrp) (natL_no _)
          generalize swp A0 ps.length b0 = A1 at *
          generalize hk : ps.length = k at *
          -- the row scaled
          have g5 := (((sg_none (K := K) (H := H5) l3).know u1 L5.dp).know u3 (.int (c : Int))).know u5 (.int (k : Int))
          have row : ∀ {Γ : Ga} {N : Mx} {i q : Nat}, Γ[1]? = some (some (.list (rowsL m n N))) → Γ[q]? = some (some (.int (i : Int))) → i < m → ED K (tOp (rIxL K) (tVar 1) (tVar q)) Γ (rowD n (N i)) := fun h h' hi => ed_ixL (ds := rowsL m n _) (ed_var h) (ed_var h') rfl (rowsL_get hi)
          have itm : ∀ {Γ : Ga} {N : Mx} {i q : Nat}, Γ[1]? = some (some (.list (rowsL m n N))) → Γ[q]? = some (some (.int (i : Int))) → Γ[3]? = some (some (.int (c : Int))) → i < m → ED K (tOp (rIxT K) (tOp (rIxL K) (tVar 1) (tVar q)) (tVar 3)) Γ (shD (N i c)) := fun h h' h3 hi => ed_ixT (n := c) (ds := rowL n _) (row h h' hi) (ed_var h3) rfl (rng_get hc)
          refine q_put (l := r) (j := k) (d := rowD n (fun j => A1 k j * (1 / A1 k c))) g5 u1 L5 (ed_call (ea_cons (row rfl rfl hkm) (ea_cons (ed_call (ea_cons (ed_c W.d1) (ea_cons (itm rfl rfl rfl hkm) ea_nil)) ⟨_, _, 1, 256, rfl, bd_one (by decide), bdS k c hkm hc, by decide, nz, rfl⟩) ea_nil)) ⟨n, 256, 256, A1 k, 1 / A1 k c, rfl, fun j hj => bdS k j hkm hj, (bdS k c hkm hc).inv nz, by decide, by omega, rfl⟩) (ed_var rfl) rfl (by rw [rowsL_len]; exact hkm) (rowsL_no _ _ _) (noL_row _ _) fun H6 y6 L6 => ?_
          have escl : (rowsL m n A1).set k (rowD n (fun j => A1 k j * (1 / A1 k c))) = rowsL m n (clrTo A1 k c 0) := rowsL_set fun j _ => by
            unfold clrTo
            by_cases e : j = k
            · rw [if_pos (.inl e), if_pos e, e]
              funext q
              unfold clr
              rw [if_pos rfl]
            · rw [if_neg (by omega), if_neg e]
          rw [escl] at L6
          obtain ⟨vr5, hvr5, _⟩ := id L5
          have ex6 := y6.ex0 ex5 hr
          have Lp6 := Lp5.off y6 hvr5 (Ne.symm hrp) (natL_no _)
          -- the others cleared
          have g6 := (sg_none (K := K) (H := H6) l3).know u1 L6.dp
          refine for_rng1 (n := m) (D := { D with nx := _ }) (ea_cons (ed_lenL (ds := rowsL m n (clrTo A1 k c 0)) (ed_var rfl)) ea_nil) (by rw [rowsL_len]) (by omega) g6
            (fun i σ4 H4 => σ4.length = 7 ∧ σ4[1]? = some (some (.ref r)) ∧ σ4[2]? = some (some (.ref p)) ∧ σ4[3]? = some (some (.int (c : Int))) ∧ σ4[5]? = some (some (.int (k : Int))) ∧ Ex H0 H4 ∧ Lst K H4 r (rowsL m n (clrTo A1 k c i)) ∧ Lst K H4 p (natL ps)) (fun H7 e7 => ?_) (fun i σ4 H7 hi hP => ?_) (fun σ4 H7 hP => ?_)
          · exact ⟨l3, u1, u2, u3, u5, ex6.trans e7, L6.exx e7, Lp6.exx e7⟩
          · obtain ⟨m1, m2, m3, m4, m5, m6, m7, m8⟩ := hP
            show tIfS _ _ _ _ _ _
            have n1 : (σ4.set 6 (some (V.int (i : Int)))).length = 7 := by rw [List.length_set]; exact m1
            have n2 : (σ4.set 6 (some (V.int (i : Int))))[1]? = some (some (.ref r)) := by rw [List.getElem?_set_ne (by decide)]; exact m2
            have n3 : (σ4.set 6 (some (V.int (i : Int))))[2]? = some (some (.ref p)) := by rw [List.getElem?_set_ne (by decide)]; exact m3
            have n4 : (σ4.set 6 (some (V.int (i : Int))))[3]? = some (some (.int (c : Int))) := by rw [List.getElem?_set_ne (by decide)]; exact m4
            have n5 : (σ4.set 6 (some (V.int (i : Int))))[5]? = some (some (.int (k : Int))) := by rw [List.getElem?_set_ne (by decide)]; exact m5
            have n6 : (σ4.set 6 (some (V.int (i : Int))))[6]? = some (some (.int (i : Int))) := by rw [List.getElem?_set_self (by rw [m1]; decide)]
            generalize σ4.set 6 (some (V.int (i : Int))) = σ5 at *
            have g7 := ((((sg_none (K := K) (H := H7) n1).know n2 m7.dp).know n4 (.int (c : Int))).know n5 (.int (k : Int))).know n6 (.int (i : Int))
            by_cases hik : i = k
            · refine st_ifF ((et_test (ed_neI (ed_var rfl) (ed_var rfl))).to (by rw [decide_eq_true (by omega)]; rfl)) g7 fun H8 e8 => ⟨n1, n2, n3, n4, n5, m6.trans e8, ?_, m8.exx e8⟩
              have : clrTo A1 k c (i + 1) = clrTo A1 k c i := by
                funext j
                unfold clrTo
                by_cases e : j = k
                · rw [if_pos (.inl e), if_pos (.inl e)]
                · by_cases e2 : j < i
                  · rw [if_pos (.inr (by omega)), if_pos (.inr e2)]
                  · rw [if_neg (by omega), if_neg (by omega)]
              rw [this]
              exact m7.exx e8
            · refine st_ifT ((et_test (ed_neI (ed_var rfl) (ed_var rfl))).to (by rw [decide_eq_false (by omega)]; rfl)) g7 fun H8 e8 => ?_
              have m78 := m7.exx e8
              have g8 := g7.ex e8
              have ci : clrTo A1 k c i i = A1 i := by unfold clrTo; rw [if_neg (by omega)]
              have ck : clrTo A1 k c i k = clr A1 k c k := by unfold clrTo; rw [if_pos (.inl rfl)]
              have bc : ∀ j, j < n → Bd 256 (clr A1 k c k j) := fun j hj => hbd' k j hkm hj
              obtain ⟨v8, hv8, _⟩ := id m78
              refine st_put (l := r) (j := i) (d := rowD n (clr A1 k c i)) g8 n2 m78 ((ed_call (ea_cons (row rfl rfl hi) (ea_cons (ed_call (ea_cons (row rfl rfl hkm) (ea_cons (itm rfl rfl rfl hi) ea_nil)) ⟨n, 256, 256, clr A1 k c k, A1 i c, by rw [ck, ci], bc, bdS i c hi hc, by decide, by omega, rfl⟩) ea_nil)) ⟨n, 256, 512, A1 i, fun j => clr A1 k c k j * A1 i c, by rw [ci], fun j hj => bdS i j hi hj, fun j hj => (bc j hj).mul (bdS i c hi hc), by decide, by omega, rfl⟩).to ?_) (ed_var rfl) rfl (by rw [rowsL_len]; exact hi) (rowsL_no _ _ _) (noL_row _ _) fun H9 y9 L9 => ⟨n1, n2, n3, n4, n5, y9.ex0 (m6.trans e8) hr, ?_, (m8.exx e8).off y9 hv8 (Ne.symm hrp) (natL_no _)⟩
              · refine rowD_congr fun j hj => ?_
                show A1 i j - clr A1 k c k j * A1 i c = clr A1 k c i j
                unfold clr
                rw [if_pos rfl, if_neg hik]
              · rw [rowsL_set (N := clrTo A1 k c (i + 1)) fun j hj => ?_] at L9
                · exact L9
                · unfold clrTo
                  by_cases e : j = k
                  · rw [if_pos (.inl e), if_neg (by omega), if_pos (.inl e)]
                  · by_cases e1 : j = i
                    · rw [if_pos (.inr (by omega)), if_pos e1, e1]
                    · by_cases e2 : j < i
                      · rw [if_pos (.inr (by omega)), if_neg e1, if_pos (.inr e2)]
                      · rw [if_neg (by omega), if_neg e1, if_neg (by omega)]
          · obtain ⟨m1, m2, m3, m4, m5, m6, m7, m8⟩ := hP
            have g7 := (sg_none (K := K) (H := H7) m1).know m4 (.int (c : Int))
            have ecl : rowsL m n (clrTo A1 k c m) = rowsL m n (clr A1 k c) := rng_congr fun j hj => by
              unfold clrTo
              rw [if_pos (.inr hj)]
            rw [ecl] at m7
            obtain ⟨v8, hv8, _⟩ := id m8
            refine st_app (l := p) (d := .int (c : Int)) g7 m3 m8 (ed_var rfl) (by rw [natL_len]; omega) (natL_no _) rfl fun H9 y9 L9 => ⟨m1, m2, m3, y9.ex0 m6 hp0, m7.off y9 hv8 hrp (rowsL_no _ _ _), ?_⟩
            have : natL ps ++ [PyData.int (c : Int)] = natL (ps ++ [c]) := by
              unfold natL
              rw [List.map_append]
              rfl
            rw [← this]
            exact L9
    · obtain ⟨l7, s1, s2, ex, Lr, Lp⟩ := hP
      have gg := ((sg_none (K := K) (H := H') l7).know s1 Lr.dp).know s2 Lp.dp
      exact sr_ret (ed_tup (ea_cons (ed_var rfl) (ea_cons (ed_var rfl) ea_nil)) (by show 2 ≤ 100000; decide)) σ' H' D gg fun v H2 e2 hv => q v H2 (ex.trans e2) hv⟩)
end
end K35
/-! Fullness walked. -/
namespace K35
open PySem PySem.Spec PyProof.Rows L2 Evl
theorem sgn {σ : L2.St} {i k : Nat} {x : Option V} {y : Option V} (h : σ[i]? = some x) (n : k ≠ i) : (σ.set k y)[i]? = some x := by
  rw [List.getElem?_set_ne n]
  exact h
theorem sgs {σ : L2.St} {i m : Nat} {y : Option V} (hl : σ.length = m) (h : i < m) : (σ.set i y)[i]? = some y := by
  rw [List.getElem?_set_self (by rw [hl]; exact h)]
theorem sgl {σ : L2.St} {i m : Nat} {y : Option V} (hl : σ.length = m) : (σ.set i y).length = m := by
  rw [List.length_set]
  exact hl
section
variable {K : PySem.W.Frag} {Γ : Ga} {ta tb te : TE} {ds : List PyData} {σ : L2.St} {H : Hp}
/-- a number not among numbers -/
theorem inV_nat {H : Hp} : ∀ {ps : List Nat} {vs : List V} {p : Nat}, DpAll K H vs (natL ps) → inV (.int (p : Int)) vs = decide (p ∈ ps) ∧ vs.all flatV = true
  | [], _, p, h => by
    cases h
    exact ⟨rfl, rfl⟩
  | q :: ps, _, p, h => by
    have h : DpAll K H _ (PyData.int (q : Int) :: natL ps) := h
    cases h with
    | cons h1 h2 =>
      obtain ⟨a, b⟩ := inV_nat (p := p) h2
      have e := dp_int h1
      subst e
      constructor
      · show (eqV (.int (q : Int)) (.int (p : Int)) || inV (.int (p : Int)) _) = _
        rw [a]
        show (((q : Int) == (p : Int)) || decide (p ∈ ps)) = decide (p ∈ q :: ps)
        by_cases z : p = q
        · subst z
          rw [decide_eq_true List.mem_cons_self]
          simp
        · have : ((q : Int) == (p : Int)) = false := beq_eq_false_iff_ne.mpr (by omega)
          rw [this, Bool.false_or]
          refine decide_eq_decide.mpr ⟨fun m => List.mem_cons_of_mem _ m, fun m => ?_⟩
          rcases List.mem_cons.mp m with e | m
          · exact absurd e z
          · exact m
      · show (flatV (.int (q : Int)) && _) = true
        rw [b]
        rfl
theorem ed_notIn {p : Nat} {ps : List Nat} (h1 : ED K ta Γ (.int (p : Int))) (h2 : ED K tb Γ (.list (natL ps))) : ED K (tOp (rIn K true) ta tb) Γ (.bool (decide (p ∉ ps))) := ed_op h1 h2 fun x y H hx hy Q q => by
  rw [dp_int hx]
  obtain ⟨a, xs, rfl, hs, ha⟩ := dp_lst hy
  obtain ⟨e1, e2⟩ := inV_nat (p := p) ha
  refine ⟨a, xs, rfl, .inl hs, rfl, e2, q _ H (Ex.refl H) ?_⟩
  rw [if_pos rfl, e1, ← decide_not]
  exact .bl _
theorem ed_notInT {p : Nat} {ps : List Nat} (h1 : ED K ta Γ (.int (p : Int))) (h2 : ED K tb Γ (.tuple (natL ps))) : ED K (tOp (rIn K true) ta tb) Γ (.bool (decide (p ∉ ps))) := ed_op h1 h2 fun x y H hx hy Q q => by
  rw [dp_int hx]
  obtain ⟨a, xs, rfl, hs, ha⟩ := dp_tup hy
  obtain ⟨e1, e2⟩ := inV_nat (p := p) ha
  refine ⟨a, xs, rfl, .inr hs, rfl, e2, q _ H (Ex.refl H) ?_⟩
  rw [if_pos rfl, e1, ← decide_not]
  exact .bl _
/-- over the places and items of a list that a slot names and that stands still -/
theorem for_enumV {k k1 k2 : Nat} {tb : TS} {D : Ends} {v : V} {Hb : Hp} (hk : σ[k]? = some (some v)) (hv : Dp K Hb v (.list ds)) (P : Nat → L2.St → Hp → Prop) (h0 : P 0 σ H) (hex : ∀ i σ' H', P i σ' H' → Ex Hb H')
    (hm : ∀ i σ' H' H2, P i σ' H' → Ex H' H2 → P i σ' H2) (hs : ∀ i x d σ' H', ds[i]? = some d → Dp K H' x d → P i σ' H' → tb { D with nx := P (i + 1), ct := P (i + 1), bk := D.nx } ((σ'.set k1 (some (.int (i : Int)))).set k2 (some x)) H')
    (hd : ∀ σ' H', P ds.length σ' H' → D.nx σ' H') : tFor (iEnum K (tCons (tVar k) tNil)) (gTup K 2 (gCons (gName k1) (gCons (gName k2) gNil))) tb D σ H := by
  obtain ⟨a, xs, rfl, hs', hx⟩ := dp_lst hv
  refine ⟨_, hk, a, xs, rfl, ex_l (hex 0 σ H h0) hs', ?_⟩
  refine for_it (walk_enum (K := K) (xs := xs)) P h0 (fun i σ' H' _ p => ex_l (hex i σ' H' p) hs') (fun i x σ' H' H2 hi p hy => ?_) (fun σ' H' p => hd σ' H' (by rw [← hx.len]; exact p))
  obtain ⟨T, u, w, rfl, hT, rfl, h1, h2⟩ := hy
  cases h1
  obtain ⟨d, hd', hp⟩ := hx.get' h2
  have e : Ex H' (upd H' T (.tup [.int (i : Int), w])) := Ex.new hT
  refine ⟨T, [.int (i : Int), w], rfl, SqT.of upd_same, rfl, .int (i : Int), [w], rfl, w, [], rfl, rfl, ?_⟩
  exact hs i w d σ' _ hd' (dp_ex ((hex i σ' H' p).trans e) _ _ hp) (hm i σ' H' _ p e)
end
theorem rowL_set {n p : Nat} {f : Nat → Rat} {q : Rat} (h : p < n) : (rowL n f).set p (shD q) = rowL n (fun j => if j = p then q else f j) := by
  refine List.ext_getElem? fun j => ?_
  have len : (rowL n f).length = n := rng_len
  by_cases hj : j < n
  · rw [List.getElem?_set]
    unfold rowL
    rw [rng_get hj, rng_get hj]
    show _ = some (shD (if j = p then q else f j))
    by_cases e : p = j
    · subst e
      rw [if_pos rfl, if_pos rfl, if_pos (by rw [rng_len]; exact h)]
    · rw [if_neg e, if_neg (fun z => e z.symm)]
  · rw [List.getElem?_eq_none (by rw [List.length_set, len]; omega), List.getElem?_eq_none (by rw [show (rowL n _).length = n from rng_len]; omega)]
theorem rowL_no (n : Nat) (f : Nat → Rat) : noL.noLs (rowL n f) = true := noL_map fun _ _ => noL_sh _
/-- the free rows' data -/
def freeD (n : Nat) (R : Mx) (ps : List Nat) (fs : List Nat) : List PyData := fs.map fun f => rowD n (fv R ps f ps.length)
theorem freeD_no (n : Nat) (R : Mx) (ps fs : List Nat) : noL.noLs (freeD n R ps fs) = true := noLs_all fun d hd => by
  obtain ⟨i, _, rfl⟩ := List.mem_map.mp hd
  exact noL_row _ _
section
variable {P : Program} {w : World} {K : PySem.W.Frag} {mg : Str → Option Value} {base : Heap}
theorem tab_rows {n : Nat} {s : Nat → Int} {i : Nat} : (fun j => ((s (n - 1 + j - i) : Int) : Rat)) = T s n i := rfl
abbrev N_free_by : List Str := ["slants", "size", "rows", "places", "found", "free", "row", "at", "place", "line"]
theorem sc_free_by : FnScope N_free_by ["slants"] (defScope (top 40)) := ⟨rfl, rfl, rfl, by decide +kernel, rfl, by decide +kernel, by decide +kernel⟩

def freesD (n : Nat) (s : Nat → Int) : List PyData := freeD n (ech s n).1 (ech s n).2 (frees s n)
def R_free_by : List PyData → PyData → Prop := fun ds d => ∃ n s, Sl s n ∧ ds = [slD n s] ∧ d = .list (freesD n s)
theorem f_free_by (W : Wd K mg) : Fnc P w K mg base "free_by" 6 ["slants"] (spD K R_free_by) (He.ga K "free_by") :=
  mk_d W 27 sc_free_by (fun _ _ _ _ _ _ us hl => match us, hl with | [_], _ => rfl) (fun ds d h => by obtain ⟨n, s, _, rfl, _⟩ := h; exact ⟨rfl, Nat.le_of_ble_eq_true rfl⟩) (fun cdv A outer s0 H E hr => ⟨_, (pss_cons (ps_set (i := 1) sc_free_by.nd rfl (.inl rfl) (pe_fn (f_size_of W) hr (pa_cons (pv 0) pa_nil)))
    (pss_cons (ps_asg (pe_fn (f_lined W) hr (pa_cons (pe_lc (own := [("line", 9)]) rfl sc_free_by.nd (piL K (pe_fn (f_tabled W) hr (pa_cons (pv 0) pa_nil))) (blkOk_by (own := [("line", 9)]) (N := N_free_by) (sc := defScope (top 40)) (by decide +kernel)) (fun _ _ _ _ _ => (pg_name (i := 9) sc_free_by.nd rfl (.inl rfl))) (fun _ _ _ _ _ => pts_nil) (fun _ _ _ _ _ => (pe_fn (f_whole_row W) hr (pa_cons (pv 9) pa_nil)))) pa_nil)) (pgPair K rfl (pg_name (i := 2) sc_free_by.nd rfl (.inl rfl)) (pg_name (i := 3) sc_free_by.nd rfl (.inr rfl))))
    (pss_cons (ps_set (i := 4) sc_free_by.nd rfl (.inl rfl) (pe_lst pa_nil))
    (pss_cons (ps_for PassesOwn.never rfl (piL K (pe_lc (own := [("place", 8)]) rfl sc_free_by.nd (pi_range1 (by rfl) W.n_range (pa_cons (pv 1) pa_nil)) (blkOk_by (own := [("place", 8)]) (N := N_free_by) (sc := defScope (top 40)) (by decide +kernel)) (fun _ _ _ _ _ => (pg_name (i := 8) sc_free_by.nd rfl (.inl rfl))) (fun _ _ _ _ _ => (pts_one (pt_cmpR (opNotIn K) (pv 8) (pv 3) (by rfl)))) (fun _ _ _ _ _ => (pv 8)))) (pg_name (i := 5) sc_free_by.nd rfl (.inl rfl))
      (pss_cons (ps_set (i := 6) sc_free_by.nd rfl (.inl rfl) (pe_callTy (clLst K) (by rfl) W.n_list (by decide +kernel) (pa_cons (pe_fn (f_unit_row W) hr (pa_cons (pv 1) (pa_cons (pv 5) pa_nil))) pa_nil)))
      (pss_cons (ps_for PassesOwn.never rfl (pi_enum (by rfl) W.n_enumerate (pa_cons (pv 3) pa_nil)) (pgPair K rfl (pg_name (i := 7) sc_free_by.nd rfl (.inl rfl)) (pg_name (i := 8) sc_free_by.nd rfl (.inl rfl)))
        (pss_one (ps_asg (pe_fn (f_less W) hr (pa_cons (pe_glob (v := .ref (He.ga K "NOUGHT")) rfl W.nought rfl) (pa_cons (pe_ix (ixT K) (pe_ix (ixL K) (pv 2) (pv 7) (fun _ _ => rfl)) (pv 5) (fun _ _ => rfl)) pa_nil))) (pg_sub (pv 6) (pv 8) set_list))))
      (pss_one (ps_expr (pe_bm PySem.F.plainAttrs_list PySem.F.slot_list_append PySem.F.type_list_append mt_append (pv 4) (pa_cons (pe_callTy (clTup K) (by rfl) W.n_tuple (by decide +kernel) (pa_cons (pv 6) pa_nil)) pa_nil)))))))
    (pss_one (ps_ret (pv 4))))))), fun ds d hR => by
    obtain ⟨n, s, hS, rfl, rfl⟩ := hR
    have h1 := hS.1
    have h5 := hS.2.1
    have E := ech_ok s n
    have bd : ∀ i j, i < n → j < n → Bd 256 ((ech s n).1 i j) := fun i j hi hj => lin_bd h5 (T_rb hS) (Nat.le_refl n) hi hj
    unfold freesD
    show SR K _ _ (.list (freeD n (ech s n).1 (ech s n).2 (freeL n (ech s n).2)))
    refine sr_seq (sf_set (ed_call (ea_cons (ed_var rfl) ea_nil) ⟨n, s, h1, rfl, rfl⟩)) ?_
    refine sr_seq (sf_pair (d := .list (rowsL n n (ech s n).1)) (e := .list (natL (ech s n).2)) (ed_call (ea_cons (EL.ed (el_lcN (n := n) (ds := fun i => .list (intL n fun j => s (n - 1 + j - i))) (b := fun i => rowD n (T s n i))
      (ei_list (ed_call (ea_cons (ed_var rfl) ea_nil) ⟨n, s, hS, rfl, rfl⟩)) (by decide) (fun i hi => ed_call (ea_cons (ed_var rfl) ea_nil) ⟨n, _, .inl rfl, by omega, rfl⟩) (fun i _ => noL_row _ _) (by omega))) ea_nil) ⟨n, n, T s n, h1, h5, by omega, T_rb hS, rfl, rfl⟩)) ?_
    generalize (ech s n).1 = R at *
    generalize (ech s n).2 = ps at *
    intro σ H0 D g q
    obtain ⟨v1, s1, d1⟩ := g.at_ 1 _ rfl
    obtain ⟨v2, s2, d2⟩ := g.at_ 2 _ rfl
    obtain ⟨v3, s3, d3⟩ := g.at_ 3 _ rfl
    have hl : σ.length = 10 := g.len
    refine q_setL (el_lst ea_nil (by decide)) g fun fl ws H1 hfl e1 hfl1 hdf => ?_
    have l1 := sgl (i := 4) (y := some (V.ref fl)) hl
    have t1 := sgn (k := 4) (y := some (V.ref fl)) s1 (by decide)
    have t2 := sgn (k := 4) (y := some (V.ref fl)) s2 (by decide)
    have t3 := sgn (k := 4) (y := some (V.ref fl)) s3 (by decide)
    have t4 := sgs (i := 4) (y := some (V.ref fl)) hl (by decide)
    generalize σ.set 4 (some (V.ref fl)) = σ1 at *
    have b : ∀ {σ' H'} (l' : σ'.length = 10) (_ : σ'[1]? = some (some v1)) (_ : σ'[2]? = some (some v2)) (_ : σ'[3]? = some (some v3)) (_ : Ex H0 H'), Sg K H' σ' ((((List.replicate 10 none).set 1 (some (.int (n : Int)))).set 2 (some (.list (rowsL n n R)))).set 3 (some (.list (natL ps)))) :=
      fun l' a1 a2 a3 e => (((sg_none l').know a1 (dp_ex e _ _ d1)).know a2 (dp_ex e _ _ d2)).know a3 (dp_ex e _ _ d3)
    refine for_new (ds := natL (freeL n ps)) (EL.to (el_lcNf (n := n) (ds := fun i => .int (i : Int)) (f := fun i => decide (i ∉ ps)) (b := fun i => .int (i : Int)) (ei_rng1 (ea_cons (ed_var rfl) ea_nil) rfl (by omega)) (by decide) (fun i hi => et_test (ed_notIn (ed_var rfl) (ed_var rfl))) (fun i hi _ => ed_var rfl) (fun _ _ => rfl) (by omega)) rfl) (b l1 t1 t2 t3 e1)
      (fun a xs i σ' H' => σ'.length = 10 ∧ σ'[1]? = some (some v1) ∧ σ'[2]? = some (some v2) ∧ σ'[3]? = some (some v3) ∧ σ'[4]? = some (some (.ref fl)) ∧ Ex H0 H' ∧ H' a = some (.lst xs) ∧ a ≠ fl ∧ H0 a = none ∧ (∃ Hx, DpAll K Hx xs (natL (freeL n ps))) ∧ Lst K H' fl (freeD n R ps ((freeL n ps).take i))) ?_ ?_ ?_ ?_
    · intro a xs H2 ha e2 ha2 hd2
      exact ⟨l1, t1, t2, t3, t4, e1.trans e2, ha2, fun z => (by rw [z, hfl1] at ha; cases ha), fresh_back e1 ha, ⟨_, hd2⟩, ⟨ws, e2 _ _ hfl1, dpa_ex e2 _ _ hdf⟩⟩
    · rintro a xs i σ' H' ⟨_, _, _, _, _, _, h, _⟩
      exact h
    · rintro a xs i x σ' H' hx ⟨m0, m1, m2, m3, m4, m5, m6, m7, m8, ⟨Hx, m9⟩, m10⟩
      obtain ⟨d, hd1, hd2⟩ := m9.get' hx
      obtain ⟨f, hf, rfl⟩ : ∃ f, (freeL n ps)[i]? = some f ∧ d = .int (f : Int) := by
        unfold natL at hd1
        rw [List.getElem?_map] at hd1
        cases hq : (freeL n ps)[i]? with
        | none => rw [hq] at hd1; cases hd1
        | some f => rw [hq] at hd1; cases hd1; exact ⟨f, rfl, rfl⟩
      have hxf := dp_int hd2
      subst hxf
      have hfm := List.mem_of_getElem? hf
      obtain ⟨hfn, hfp⟩ := mem_freeL.mp hfm
      show tSeq _ _ _ _ _
      have n0 := sgl (i := 5) (y := some (V.int (f : Int))) m0
      have n1 := sgn (k := 5) (y := some (V.int (f : Int))) m1 (by decide)
      have n2 := sgn (k := 5) (y := some (V.int (f : Int))) m2 (by decide)
      have n3 := sgn (k := 5) (y := some (V.int (f : Int))) m3 (by decide)
      have n4 := sgn (k := 5) (y := some (V.int (f : Int))) m4 (by decide)
      have n5 := sgs (i := 5) (y := some (V.int (f : Int))) m0 (by decide)
      generalize σ'.set 5 (some (V.int (f : Int))) = σ2 at *
      refine q_setL (ds := rowL n (fv R ps f 0)) (el_lstT (ed_call (ea_cons (ed_var rfl) (ea_cons (ed_var rfl) ea_nil)) ⟨n, f, rfl, by omega, rfl⟩)) ((b n0 n1 n2 n3 m5).know n5 (.int (f : Int))) fun r rs H3 hr e3 hr3 hdr => ?_
      have l3 := sgl (i := 6) (y := some (V.ref r)) n0
      have o1 := sgn (k := 6) (y := some (V.ref r)) n1 (by decide)
      have o2 := sgn (k := 6) (y := some (V.ref r)) n2 (by decide)
      have o3 := sgn (k := 6) (y := some (V.ref r)) n3 (by decide)
      have o4 := sgn (k := 6) (y := some (V.ref r)) n4 (by decide)
      have o5 := sgn (k := 6) (y := some (V.ref r)) n5 (by decide)
      have o6 := sgs (i := 6) (y := some (V.ref r)) n0 (by decide)
      generalize σ2.set 6 (some (V.ref r)) = σ3 at *
      have hra : a ≠ r := fun z => by rw [z, hr] at m6; cases m6
      have hrf : fl ≠ r := fun z => by
        obtain ⟨us, hu, _⟩ := m10
        rw [z, hr] at hu
        cases hu
      have hr0 : H0 r = none := fresh_back m5 hr
      show tSeq _ _ _ _ _
      refine for_enumV (Hb := H0) (ds := natL ps) o3 d3 (fun j σ4 H4 => σ4.length = 10 ∧ σ4[1]? = some (some v1) ∧ σ4[2]? = some (some v2) ∧ σ4[3]? = some (some v3) ∧ σ4[4]? = some (some (.ref fl)) ∧ σ4[5]? = some (some (.int (f : Int))) ∧ σ4[6]? = some (some (.ref r)) ∧ Ex H0 H4 ∧ H4 a = some (.lst xs) ∧ Lst K H4 fl (freeD n R ps ((freeL n ps).take i)) ∧ Lst K H4 r (rowL n (fv R ps f j)))
        ⟨l3, o1, o2, o3, o4, o5, o6, m5.trans e3, e3 _ _ m6, m10.exx e3, ⟨rs, hr3, hdr⟩⟩ (fun j σ4 H4 p => p.2.2.2.2.2.2.2.1) (fun j σ4 H4 H5 p e => ?_) (fun j x d σ4 H4 hj hx p => ?_) (fun σ4 H4 p => ?_)
      · obtain ⟨p0, p1, p2, p3, p4, p5, p6, p7, p8, p9, p10⟩ := p
        exact ⟨p0, p1, p2, p3, p4, p5, p6, p7.trans e, e _ _ p8, p9.exx e, p10.exx e⟩
      · obtain ⟨p0, p1, p2, p3, p4, p5, p6, p7, p8, p9, p10⟩ := p
        have hjl : j < ps.length := by
          have := (List.getElem?_eq_some_iff.mp hj).1
          rw [natL_len] at this
          exact this
        have hpj : ps[j]? = some ps[j] := List.getElem?_eq_getElem hjl
        have hde : d = .int ((ps[j] : Nat) : Int) := by
          unfold natL at hj
          rw [List.getElem?_map, hpj] at hj
          cases hj
          rfl
        subst hde
        have := dp_int hx
        subst this
        have hpn : ps[j] < n := E.lt _ (List.getElem_mem _)
        have hjn : j < n := by have := E.len; omega
        have r0 := sgl (i := 8) (y := some (V.int ((ps[j] : Nat) : Int))) (sgl (i := 7) (y := some (V.int (j : Int))) p0)
        have r1 := sgn (k := 8) (y := some (V.int ((ps[j] : Nat) : Int))) (sgn (k := 7) (y := some (V.int (j : Int))) p1 (by decide)) (by decide)
        have r2 := sgn (k := 8) (y := some (V.int ((ps[j] : Nat) : Int))) (sgn (k := 7) (y := some (V.int (j : Int))) p2 (by decide)) (by decide)
        have r3 := sgn (k := 8) (y := some (V.int ((ps[j] : Nat) : Int))) (sgn (k := 7) (y := some (V.int (j : Int))) p3 (by decide)) (by decide)
        have r4 := sgn (k := 8) (y := some (V.int ((ps[j] : Nat) : Int))) (sgn (k := 7) (y := some (V.int (j : Int))) p4 (by decide)) (by decide)
        have r5 := sgn (k := 8) (y := some (V.int ((ps[j] : Nat) : Int))) (sgn (k := 7) (y := some (V.int (j : Int))) p5 (by decide)) (by decide)
        have r6 := sgn (k := 8) (y := some (V.int ((ps[j] : Nat) : Int))) (sgn (k := 7) (y := some (V.int (j : Int))) p6 (by decide)) (by decide)
        have r7 := sgn (k := 8) (y := some (V.int ((ps[j] : Nat) : Int))) (sgs (i := 7) (y := some (V.int (j : Int))) p0 (by decide)) (by decide)
        have r8 := sgs (i := 8) (y := some (V.int ((ps[j] : Nat) : Int))) (sgl (i := 7) (y := some (V.int (j : Int))) p0) (by decide)
        generalize (σ4.set 7 (some (V.int (j : Int)))).set 8 (some (V.int ((ps[j] : Nat) : Int))) = σ5 at *
        have g5 := (((b r0 r1 r2 r3 p7).know r5 (.int (f : Int))).know r7 (.int (j : Int))).know r8 (.int ((ps[j] : Nat) : Int))
        obtain ⟨us, hu, hu'⟩ := id p10
        refine st_put (l := r) (j := ps[j]) (d := shD (0 - R j f)) g5 r6 p10 (ed_call (ea_cons (ed_c W.d0) (ea_cons (ed_ixT (n := f) (ds := rowL n (R j)) (ed_ixL (n := j) (ds := rowsL n n R) (ed_var rfl) (ed_var rfl) rfl (rowsL_get hjn)) (ed_var rfl) rfl (rng_get hfn)) ea_nil)) ⟨_, _, 1, 256, rfl, bd_zero (by decide), bd j f hjn hfn, by decide, rfl⟩) (ed_var rfl) rfl (by rw [show (rowL n _).length = n from rng_len]; exact hpn) (rowL_no _ _) (noL_sh _) fun H6 y6 L6 => ?_
        refine ⟨r0, r1, r2, r3, r4, r5, r6, y6.ex0 p7 hr0, y6 _ _ hra p8, p9.off y6 hu hrf (freeD_no _ _ _ _), ?_⟩
        rw [rowL_set hpn] at L6
        have e : fv R ps f (j + 1) = fun k => if k = ps[j] then 0 - R j f else fv R ps f j k := by
          funext k
          show (if k = ps.getD j 0 then 0 - R j f else fv R ps f j k) = _
          rw [List.getD_eq_getElem?_getD, hpj]
          rfl
        rw [e]
        exact L6
      · obtain ⟨p0, p1, p2, p3, p4, p5, p6, p7, p8, p9, p10⟩ := p
        rw [natL_len] at p10
        have g5 := (sg_none (K := K) (H := H4) p0).know p6 p10.dp
        obtain ⟨us, hu, hu'⟩ := id p9
        have hfl0 : H0 fl = none := hfl
        refine st_app (l := fl) (d := rowD n (fv R ps f ps.length)) g5 p4 p9 (ed_tupL (ed_var rfl)) ?_ (freeD_no _ _ _ _) (noL_row _ _) fun H6 y6 L6 => ?_
        · unfold freeD
          rw [List.length_map, List.length_take]
          have := @List.length_filter_le Nat (fun p => decide (p ∉ ps)) (List.range n)
          rw [List.length_range] at this
          have : (freeL n ps).length ≤ n := this
          omega
        · refine ⟨p0, p1, p2, p3, p4, y6.ex0 p7 hfl0, y6 _ _ m7 p8, m7, m8, ⟨Hx, m9⟩, ?_⟩
          have e : freeD n R ps ((freeL n ps).take (i + 1)) = freeD n R ps ((freeL n ps).take i) ++ [rowD n (fv R ps f ps.length)] := by
            rw [List.take_add_one, hf]
            unfold freeD
            rw [List.map_append]
            rfl
          rw [e]
          exact L6
    · rintro a xs σ' H' hlen ⟨m0, m1, m2, m3, m4, m5, m6, m7, m8, m9, m10⟩
      rw [natL_len, List.take_length] at m10
      have g5 := (sg_none (K := K) (H := H') m0).know m4 m10.dp
      exact sr_ret (ed_var rfl) σ' H' D g5 fun v H2 e2 hv => q v H2 (m5.trans e2) hv⟩)
end
end K35
/-! Backs, papers walked. -/
namespace K35
open PySem PySem.Spec PyProof.Rows L2 Evl
theorem rowL_cat {n m : Nat} {f g h : Nat → Rat} (h1 : ∀ j, j < n → h j = f j) (h2 : ∀ j, j < m → h (n + j) = g j) : rowL n f ++ rowL m g = rowL (n + m) h := by
  unfold rowL
  rw [List.range_add, List.map_append, List.map_map]
  congr 1
  · exact rng_congr fun i hi => by rw [h1 i hi]
  · exact List.map_congr_left fun i hi => by
      show _ = shD (h (n + i))
      rw [h2 i (List.mem_range.mp hi)]
section
variable {P : Program} {w : World} {K : PySem.W.Frag} {mg : Str → Option Value} {base : Heap}
abbrev N_backs_by : List Str := ["slants", "size", "table", "rows", "places", "at", "line", "row"]
theorem sc_backs_by : FnScope N_backs_by ["slants"] (defScope (top 41)) := ⟨rfl, rfl, rfl, by decide +kernel, rfl, by decide +kernel, by decide +kernel⟩

def backD (n : Nat) (s : Nat → Int) : List PyData := rowsL n n (bcol s n)
def R_backs_by : List PyData → PyData → Prop := fun ds d => ∃ n s, Sl s n ∧ ds = [slD n s] ∧ d = .list (backD n s)
theorem f_backs_by (W : Wd K mg) : Fnc P w K mg base "backs_by" 6 ["slants"] (spD K R_backs_by) (He.ga K "backs_by") :=
  mk_d W 28 sc_backs_by (fun _ _ _ _ _ _ us hl => match us, hl with | [_], _ => rfl) (fun ds d h => by obtain ⟨n, s, _, rfl, _⟩ := h; exact ⟨rfl, Nat.le_of_ble_eq_true rfl⟩) (fun cdv A outer s0 H E hr => ⟨_, (pss_cons (ps_set (i := 1) sc_backs_by.nd rfl (.inr rfl) (pe_fn (f_size_of W) hr (pa_cons (pv 0) pa_nil)))
    (pss_cons (ps_setLc (i := 2) (own := [("at", 5), ("line", 6)]) rfl sc_backs_by.nd rfl rfl (sw_true rfl rfl rfl (by decide +kernel)) (pi_enum (by rfl) W.n_enumerate (pa_cons (pe_fn (f_tabled W) hr (pa_cons (pv 0) pa_nil)) pa_nil)) (blkOk_by (own := [("at", 5), ("line", 6)]) (N := N_backs_by) (sc := defScope (top 41)) (by decide +kernel)) (fun _ _ _ _ _ => (pgPair K rfl (pg_name (i := 5) sc_backs_by.nd rfl (.inl rfl)) (pg_name (i := 6) sc_backs_by.nd rfl (.inl rfl)))) (fun _ _ _ _ _ => pts_nil) (fun _ _ _ _ _ => (pe_op (opCatT K) (pe_fn (f_whole_row W) hr (pa_cons (pv 6) pa_nil)) (pe_fn (f_unit_row W) hr (pa_cons (pv 1) (pa_cons (pv 5) pa_nil))))))
    (pss_cons (ps_asg (pe_fn (f_lined W) hr (pa_cons (pv 2) pa_nil)) (pgPair K rfl (pg_name (i := 3) sc_backs_by.nd rfl (.inr rfl)) (pg_name (i := 4) sc_backs_by.nd rfl (.inl rfl))))
    (pss_one (ps_ret (pe_lc (own := [("at", 5)]) rfl sc_backs_by.nd (pi_range1 (by rfl) W.n_range (pa_cons (pv 1) pa_nil)) (blkOk_by (own := [("at", 5)]) (N := N_backs_by) (sc := defScope (top 41)) (by decide +kernel)) (fun _ _ _ _ _ => (pg_name (i := 5) sc_backs_by.nd rfl (.inr rfl))) (fun _ _ _ _ _ => pts_nil) (fun _ _ _ _ _ => (pe_callTy (clTup K) (by rfl) W.n_tuple (by decide +kernel) (pa_cons (pe_lc (own := [("row", 7)]) rfl sc_backs_by.nd (piL K (pe_slice (slL K) (pv 3) po_none (po_some (pv 1)))) (blkOk_by (own := [("row", 7)]) (N := N_backs_by) (sc := relS (lcScope (top 41)) (defScope (top 41))) (by decide +kernel)) (fun _ _ _ _ _ => (pg_name (i := 7) sc_backs_by.nd rfl (.inl rfl))) (fun _ _ _ _ _ => pts_nil) (fun _ _ _ _ _ => (pe_ix (ixT K) (pv 7) (pe_op op_add (pv 1) (pv 5)) (fun _ _ => rfl)))) pa_nil))))))))), fun ds d hR => by
    obtain ⟨n, s, hS, rfl, rfl⟩ := hR
    have h1 := hS.1
    have h5 := hS.2.1
    refine sr_seq (sf_set (ed_call (ea_cons (ed_var rfl) ea_nil) ⟨n, s, h1, rfl, rfl⟩)) ?_
    refine sr_seq (sf_set (d := .list (rowsL n (n + n) (aug s n))) (EL.ed (el_lcP (n := n) (d1 := fun i => .int (i : Int)) (d2 := fun i => .list (intL n fun j => s (n - 1 + j - i))) (b := fun i => rowD (n + n) (aug s n i)) (ei_enum (ea_cons (ed_call (ea_cons (ed_var rfl) ea_nil) ⟨n, s, hS, rfl, rfl⟩) ea_nil)) (by decide) (by decide) (fun i hi => ?_) (fun i _ => noL_row _ _) (by omega)))) ?_
    · refine (ed_catT (ds := rowL n (T s n i)) (es := rowL n (fun j => if j = i then 1 else 0)) (ed_call (ea_cons (ed_var rfl) ea_nil) ⟨n, _, .inl rfl, by omega, rfl⟩) (ed_call (ea_cons (ed_var rfl) (ea_cons (ed_var rfl) ea_nil)) ⟨n, i, rfl, by omega, rfl⟩) (by rw [show (rowL n _).length = n from rng_len, show (rowL n _).length = n from rng_len]; omega)).to (congrArg PyData.tuple (rowL_cat (fun j hj => ?_) fun j hj => ?_))
      · unfold aug
        rw [if_pos hj]
      · unfold aug
        rw [if_neg (by omega), Nat.add_sub_cancel_left]
    refine sr_seq (sf_pair (d := .list (rowsL n (n + n) (bk s n).1)) (e := .list (natL (bk s n).2)) (ed_call (ea_cons (ed_var rfl) ea_nil) ⟨n, n + n, aug s n, h1, h5, by omega, aug_rb hS, rfl, rfl⟩)) ?_
    refine sr_ret (EL.ed (el_lcN (n := n) (ds := fun i => .int (i : Int)) (b := fun a => rowD n (bcol s n a)) (ei_rng1 (ea_cons (ed_var rfl) ea_nil) rfl (by omega)) (by decide) (fun a ha => ?_) (fun i _ => noL_row _ _) (by omega)))
    refine ed_tupL (EL.ed (el_lcN (n := n) (ds := fun i => rowD (n + n) ((bk s n).1 i)) (b := fun i => shD (bcol s n a i)) (ei_list (EL.ed (el_sl (lo := none) (hi := some (n : Int)) (ed_var rfl) eo_no (eo_int (ed_var rfl)) fun vs H h => ?_))) (by decide) (fun i hi => ?_) (fun i _ => noL_sh _) (by omega)))
    · have := cut_dp0 (b := n) h
      rw [rowsL_len, Nat.min_self] at this
      unfold rowsL at this
      rw [take_rng (Nat.le_refl n)] at this
      exact this
    · exact ed_ixT (n := n + a) (ds := rowL (n + n) ((bk s n).1 i)) (ed_var rfl) (ed_I0 (g := fun i j => i + j) (ed_var rfl) (ed_var rfl)) (by omega) (rng_get (by omega))⟩)
abbrev N_free_rows : List Str := ["slants"]
theorem sc_free_rows : FnScope N_free_rows ["slants"] (defScope (top 42)) := ⟨rfl, rfl, rfl, by decide +kernel, rfl, by decide +kernel, by decide +kernel⟩

theorem f_free_rows (W : Wd K mg) : Fnc P w K mg base "free_rows" 7 ["slants"] (spD K R_free_by) (He.ga K "free_rows") :=
  mk_d W 29 sc_free_rows (fun _ _ _ _ _ _ us hl => match us, hl with | [_], _ => rfl) (fun ds d h => by obtain ⟨n, s, _, rfl, _⟩ := h; exact ⟨rfl, Nat.le_of_ble_eq_true rfl⟩) (fun cdv A outer s0 H E hr => ⟨_, (pss_cons (ps_expr (pe_fn (f_check_slants W) hr (pa_cons (pv 0) pa_nil)))
    (pss_one (ps_ret (pe_fn (f_free_by W) hr (pa_cons (pv 0) pa_nil))))), fun ds d hR => by
    obtain ⟨n, s, hS, rfl, rfl⟩ := hR
    exact sr_seq (sf_drop (ed_call (ea_cons (ed_var rfl) ea_nil) ⟨⟨n, s, hS, rfl⟩, rfl⟩)) (sr_ret (ed_call (ea_cons (ed_var rfl) ea_nil) ⟨n, s, hS, rfl, rfl⟩))⟩)
theorem freesD_len {n : Nat} {s : Nat → Int} : (freesD n s).length = (frees s n).length := by
  unfold freesD freeD
  rw [List.length_map]
abbrev N_free_many : List Str := ["slants"]
theorem sc_free_many : FnScope N_free_many ["slants"] (defScope (top 43)) := ⟨rfl, rfl, rfl, by decide +kernel, rfl, by decide +kernel, by decide +kernel⟩

def R_free_many : List PyData → PyData → Prop := fun ds d => ∃ n s, Sl s n ∧ ds = [slD n s] ∧ d = .int ((frees s n).length : Int)
theorem f_free_many (W : Wd K mg) : Fnc P w K mg base "free_many" 7 ["slants"] (spD K R_free_many) (He.ga K "free_many") :=
  mk_d W 30 sc_free_many (fun _ _ _ _ _ _ us hl => match us, hl with | [_], _ => rfl) (fun ds d h => by obtain ⟨n, s, _, rfl, _⟩ := h; exact ⟨rfl, Nat.le_of_ble_eq_true rfl⟩) (fun cdv A outer s0 H E hr => ⟨_, (pss_cons (ps_expr (pe_fn (f_check_slants W) hr (pa_cons (pv 0) pa_nil)))
    (pss_one (ps_ret (pe_callB (clLen K) (by rfl) W.n_len (by decide +kernel) (pa_cons (pe_fn (f_free_by W) hr (pa_cons (pv 0) pa_nil)) pa_nil))))), fun ds d hR => by
    obtain ⟨n, s, hS, rfl, rfl⟩ := hR
    exact sr_seq (sf_drop (ed_call (ea_cons (ed_var rfl) ea_nil) ⟨⟨n, s, hS, rfl⟩, rfl⟩)) (sr_ret ((ed_lenL (ds := freesD n s) (ed_call (ea_cons (ed_var rfl) ea_nil) ⟨n, s, hS, rfl, rfl⟩)).to (by rw [freesD_len])))⟩)
abbrev N_rank_of : List Str := ["slants"]
theorem sc_rank_of : FnScope N_rank_of ["slants"] (defScope (top 44)) := ⟨rfl, rfl, rfl, by decide +kernel, rfl, by decide +kernel, by decide +kernel⟩

def R_rank_of : List PyData → PyData → Prop := fun ds d => ∃ n s, Sl s n ∧ ds = [slD n s] ∧ d = .int ((n : Int) - ((frees s n).length : Int))
theorem f_rank_of (W : Wd K mg) : Fnc P w K mg base "rank_of" 7 ["slants"] (spD K R_rank_of) (He.ga K "rank_of") :=
  mk_d W 31 sc_rank_of (fun _ _ _ _ _ _ us hl => match us, hl with | [_], _ => rfl) (fun ds d h => by obtain ⟨n, s, _, rfl, _⟩ := h; exact ⟨rfl, Nat.le_of_ble_eq_true rfl⟩) (fun cdv A outer s0 H E hr => ⟨_, (pss_cons (ps_expr (pe_fn (f_check_slants W) hr (pa_cons (pv 0) pa_nil)))
    (pss_one (ps_ret (pe_op op_sub (pe_fn (f_size_of W) hr (pa_cons (pv 0) pa_nil)) (pe_callB (clLen K) (by rfl) W.n_len (by decide +kernel) (pa_cons (pe_fn (f_free_by W) hr (pa_cons (pv 0) pa_nil)) pa_nil)))))), fun ds d hR => by
    obtain ⟨n, s, hS, rfl, rfl⟩ := hR
    exact sr_seq (sf_drop (ed_call (ea_cons (ed_var rfl) ea_nil) ⟨⟨n, s, hS, rfl⟩, rfl⟩)) (sr_ret (ed_I0 (g := fun i j => i - j) (ed_call (ea_cons (ed_var rfl) ea_nil) ⟨n, s, hS.1, rfl, rfl⟩) ((ed_lenL (ds := freesD n s) (ed_call (ea_cons (ed_var rfl) ea_nil) ⟨n, s, hS, rfl, rfl⟩)).to (by rw [freesD_len]))))⟩)
theorem shp_frees (n : Nat) (R : Mx) (ps fs : List Nat) : Shp 3 (.list (freeD n R ps fs)) := shp_list fun d hd => by
  obtain ⟨i, _, rfl⟩ := List.mem_map.mp hd
  exact shp_row _ _
theorem eqv_frees_nil (n : Nat) (s : Nat → Int) : PyData.eqv (.list (freesD n s)) (.list []) = (frees s n).isEmpty := by
  unfold freesD freeD
  cases frees s n with
  | nil => simp [PyData.eqv, PyData.eqvAll]
  | cons p ps => simp [PyData.eqv, PyData.eqvAll]
abbrev N_full_by : List Str := ["slants"]
theorem sc_full_by : FnScope N_full_by ["slants"] (defScope (top 45)) := ⟨rfl, rfl, rfl, by decide +kernel, rfl, by decide +kernel, by decide +kernel⟩

def R_full : List PyData → PyData → Prop := fun ds d => ∃ n s, Sl s n ∧ ds = [slD n s] ∧ d = .bool (frees s n).isEmpty
theorem f_full_by (W : Wd K mg) : Fnc P w K mg base "full_by" 7 ["slants"] (spD K R_full) (He.ga K "full_by") :=
  mk_d W 32 sc_full_by (fun _ _ _ _ _ _ us hl => match us, hl with | [_], _ => rfl) (fun ds d h => by obtain ⟨n, s, _, rfl, _⟩ := h; exact ⟨rfl, Nat.le_of_ble_eq_true rfl⟩) (fun cdv A outer s0 H E hr => ⟨_, (pss_one (ps_ret (pe_cmpR (opEqD K hr.units) (pe_fn (f_free_by W) hr (pa_cons (pv 0) pa_nil)) (pe_lst pa_nil) (nomark _)))), fun ds d hR => by
    obtain ⟨n, s, hS, rfl, rfl⟩ := hR
    exact sr_ret ((ed_eqD (ed_call (ea_cons (ed_var rfl) ea_nil) ⟨n, s, hS, rfl, rfl⟩) (EL.ed (el_lst ea_nil (by decide))) ((shp_frees _ _ _ _).sd (by decide)) shaped_nil).to (congrArg PyData.bool (eqv_frees_nil n s)))⟩)
abbrev N_is_full : List Str := ["slants"]
theorem sc_is_full : FnScope N_is_full ["slants"] (defScope (top 46)) := ⟨rfl, rfl, rfl, by decide +kernel, rfl, by decide +kernel, by decide +kernel⟩

theorem f_is_full (W : Wd K mg) : Fnc P w K mg base "is_full" 8 ["slants"] (spD K R_full) (He.ga K "is_full") :=
  mk_d W 33 sc_is_full (fun _ _ _ _ _ _ us hl => match us, hl with | [_], _ => rfl) (fun ds d h => by obtain ⟨n, s, _, rfl, _⟩ := h; exact ⟨rfl, Nat.le_of_ble_eq_true rfl⟩) (fun cdv A outer s0 H E hr => ⟨_, (pss_cons (ps_expr (pe_fn (f_check_slants W) hr (pa_cons (pv 0) pa_nil)))
    (pss_one (ps_ret (pe_fn (f_full_by W) hr (pa_cons (pv 0) pa_nil))))), fun ds d hR => by
    obtain ⟨n, s, hS, rfl, rfl⟩ := hR
    exact sr_seq (sf_drop (ed_call (ea_cons (ed_var rfl) ea_nil) ⟨⟨n, s, hS, rfl⟩, rfl⟩)) (sr_ret (ed_call (ea_cons (ed_var rfl) ea_nil) ⟨n, s, hS, rfl, rfl⟩))⟩)
abbrev N_makes_unit : List Str := ["slants", "row", "place"]
theorem sc_makes_unit : FnScope N_makes_unit ["slants", "row", "place"] (defScope (top 47)) := ⟨rfl, rfl, rfl, by decide +kernel, rfl, by decide +kernel, by decide +kernel⟩

def R_makes_unit : List PyData → PyData → Prop := fun ds d => ∃ (n B p : Nat) (s : Nat → Int) (f : Nat → Rat), Sl s n ∧ ds = [slD n s, rowD n f, .int (p : Int)] ∧ (∀ j, j < n → Bd B (f j)) ∧ (n + 1) * (7 + B + 1) ≤ 8990 ∧ (∀ i, i < n → mul s n f i = if i = p then 1 else 0) ∧ d = .bool true
theorem f_makes_unit (W : Wd K mg) : Fnc P w K mg base "makes_unit" 7 ["slants", "row", "place"] (spD K R_makes_unit) (He.ga K "makes_unit") :=
  mk_d W 34 sc_makes_unit (fun _ _ _ _ _ _ us hl => match us, hl with | [_, _, _], _ => rfl) (fun ds d h => by obtain ⟨n, B, p, s, f, _, rfl, _⟩ := h; exact ⟨rfl, Nat.le_of_ble_eq_true rfl⟩) (fun cdv A outer s0 H E hr => ⟨_, (pss_one (ps_ret (pe_and (pe_fn (f_is_row W) hr (pa_cons (pv 0) (pa_cons (pv 1) pa_nil))) (pe_one (pe_cmpR (opEqD K hr.units) (pe_fn (f_made W) hr (pa_cons (pv 0) (pa_cons (pv 1) pa_nil))) (pe_fn (f_unit_row W) hr (pa_cons (pe_fn (f_size_of W) hr (pa_cons (pv 0) pa_nil)) (pa_cons (pv 2) pa_nil))) (nomark _)))))), fun ds d hR => by
    obtain ⟨n, B, p, s, f, hS, rfl, hf, hb, hm, rfl⟩ := hR
    have h5 := hS.2.1
    refine sr_ret (ed_and (b := true) (c := true) (ed_call (ea_cons (ed_var rfl) (ea_cons (ed_var rfl) ea_nil)) ⟨n, s, f, hS, rfl, rfl⟩) fun _ => (ed_eqD (ed_call (ea_cons (ed_var rfl) (ea_cons (ed_var rfl) ea_nil)) ⟨n, B, s, f, hS, rfl, hf, hb, rfl⟩) (ed_call (ea_cons (ed_call (ea_cons (ed_var rfl) ea_nil) ⟨n, s, hS.1, rfl, rfl⟩) (ea_cons (ed_var rfl) ea_nil)) ⟨n, p, rfl, by omega, rfl⟩) (shaped_row _ _) (shaped_row _ _)).to ?_)
    rw [eqv_rows, decide_eq_true hm]⟩)
abbrev N_makes_noughts : List Str := ["slants", "row", "one"]
theorem sc_makes_noughts : FnScope N_makes_noughts ["slants", "row"] (defScope (top 48)) := ⟨rfl, rfl, rfl, by decide +kernel, rfl, by decide +kernel, by decide +kernel⟩

def isNo (n : Nat) (f : Nat → Rat) : Bool := (List.range n).all fun j => decide (f j = 0)
theorem isNo_iff {n : Nat} {f : Nat → Rat} : isNo n f = decide (∀ j, j < n → f j = 0) := by
  unfold isNo
  by_cases h : ∀ j, j < n → f j = 0
  · rw [decide_eq_true h, List.all_eq_true.mpr fun j hj => decide_eq_true (h j (List.mem_range.mp hj))]
  · rw [decide_eq_false h]
    refine Bool.eq_false_iff.mpr fun z => h fun j hj => ?_
    exact of_decide_eq_true (List.all_eq_true.mp z j (List.mem_range.mpr hj))
def R_makes_noughts : List PyData → PyData → Prop := fun ds d => ∃ (n B : Nat) (s : Nat → Int) (f : Nat → Rat), Sl s n ∧ ds = [slD n s, rowD n f] ∧ (∀ j, j < n → Bd B (f j)) ∧ (n + 1) * (7 + B + 1) ≤ 8990 ∧ (∀ i, i < n → mul s n f i = 0) ∧ d = .bool (!isNo n f)
theorem f_makes_noughts (W : Wd K mg) : Fnc P w K mg base "makes_noughts" 7 ["slants", "row"] (spD K R_makes_noughts) (He.ga K "makes_noughts") :=
  mk_d W 35 sc_makes_noughts (fun _ _ _ _ _ _ us hl => match us, hl with | [_, _], _ => rfl) (fun ds d h => by obtain ⟨n, B, s, f, _, rfl, _⟩ := h; exact ⟨rfl, Nat.le_of_ble_eq_true rfl⟩) (fun cdv A outer s0 H E hr => ⟨_, (pss_cons (ps_if (PW.pt (pw_or (pt_not (pt_val (pe_fn (f_is_row W) hr (pa_cons (pv 0) (pa_cons (pv 1) pa_nil))))) (pw_or1 (pt_val (pe_callB (clAll K rfl) (by rfl) W.n_all (by decide +kernel) (pa_cons (pe_lc (own := [("one", 2)]) rfl sc_makes_noughts.nd (piT K (pv 1)) (blkOk_by (own := [("one", 2)]) (N := N_makes_noughts) (sc := defScope (top 48)) (by decide +kernel)) (fun _ _ _ _ _ => (pg_name (i := 2) sc_makes_noughts.nd rfl (.inl rfl))) (fun _ _ _ _ _ => pts_nil) (fun _ _ _ _ _ => (pe_cmpR (opEqD K hr.units) (pv 2) (pe_glob (v := .ref (He.ga K "NOUGHT")) rfl W.nought rfl) (nomark _)))) pa_nil)))))) (pss_one (ps_ret pe_bl)) pss_nil)
    (pss_one (ps_ret (pe_callB (clAll K rfl) (by rfl) W.n_all (by decide +kernel) (pa_cons (pe_lc (own := [("one", 2)]) rfl sc_makes_noughts.nd (piT K (pe_fn (f_made W) hr (pa_cons (pv 0) (pa_cons (pv 1) pa_nil)))) (blkOk_by (own := [("one", 2)]) (N := N_makes_noughts) (sc := defScope (top 48)) (by decide +kernel)) (fun _ _ _ _ _ => (pg_name (i := 2) sc_makes_noughts.nd rfl (.inl rfl))) (fun _ _ _ _ _ => pts_nil) (fun _ _ _ _ _ => (pe_cmpR (opEqD K hr.units) (pv 2) (pe_glob (v := .ref (He.ga K "NOUGHT")) rfl W.nought rfl) (nomark _)))) pa_nil))))), fun ds d hR => by
    obtain ⟨n, B, s, f, hS, rfl, hf, hb, hm, rfl⟩ := hR
    have h5 := hS.2.1
    have ise : ∀ {Γ : Ga} {q : Rat}, Γ[2]? = some (some (shD q)) → ED K (tOp (rEqD K) (tVar 2) (tC (.ref (He.ga K "NOUGHT")))) Γ (.bool (decide (q = 0))) := fun h => (ed_eqD (ed_var h) (ed_c W.d0) (shaped_sh _) (shaped_sh _)).to (by rw [eqv_sh])
    cases hn : isNo n f with
    | true =>
      exact sr_now (sr_ifT (ET.to (c := true) (et_or (b := false) (c := isNo n f) (et_not (b := true) (et_B (ed_call (ea_cons (ed_var rfl) (ea_cons (ed_var rfl) ea_nil)) ⟨n, s, f, hS, rfl, rfl⟩))) fun _ => et_B (ed_allB (n := n) (b := fun j => decide (f j = 0)) (EL.ed (el_lcN (n := n) (ds := fun j => shD (f j)) (ei_tup (ed_var rfl)) (by decide) (fun i hi => ise rfl) (fun _ _ => rfl) (by omega))))) hn) (sr_ret ed_bl))
    | false =>
      refine sr_seq (sf_ifF (ET.to (c := false) (et_or (b := false) (c := isNo n f) (et_not (b := true) (et_B (ed_call (ea_cons (ed_var rfl) (ea_cons (ed_var rfl) ea_nil)) ⟨n, s, f, hS, rfl, rfl⟩))) fun _ => et_B (ed_allB (n := n) (b := fun j => decide (f j = 0)) (EL.ed (el_lcN (n := n) (ds := fun j => shD (f j)) (ei_tup (ed_var rfl)) (by decide) (fun i hi => ise rfl) (fun _ _ => rfl) (by omega))))) hn) sf_next) (sr_ret ((ed_allB (n := n) (b := fun j => decide (mul s n f j = 0)) (EL.ed (el_lcN (n := n) (ds := fun j => shD (mul s n f j)) (ei_tup (ed_call (ea_cons (ed_var rfl) (ea_cons (ed_var rfl) ea_nil)) ⟨n, B, s, f, hS, rfl, hf, hb, rfl⟩)) (by decide) (fun i hi => ise rfl) (fun _ _ => rfl) (by omega)))).to ?_))
      congr 1
      exact List.all_eq_true.mpr fun j hj => decide_eq_true (hm j (List.mem_range.mp hj))⟩)
end
end K35
/-! Papers walked. -/
namespace K35
open PySem PySem.Spec PyProof.Rows L2 Evl
section
variable {P : Program} {w : World} {K : PySem.W.Frag} {mg : Str → Option Value} {base : Heap}
def strong (n : Nat) (f l : Nat → Rat) : PyData := .tuple [.str "full", rowD n f, rowD n l]
def whole (n : Nat) (M : Mx) : PyData := .tuple [.str "full", .list (rowsL n n M)]
def weakP (n : Nat) (f : Nat → Rat) : PyData := .tuple [.str "none", rowD n f]
/-- a row that makes 1 at p, 0 else -/
def Mk (n : Nat) (s : Nat → Int) (f : Nat → Rat) (p : Nat) : Prop := ∃ B, (∀ j, j < n → Bd B (f j)) ∧ (n + 1) * (7 + B + 1) ≤ 8990 ∧ ∀ i, i < n → mul s n f i = if i = p then 1 else 0
/-- a row that makes noughts -/
def Mz (n : Nat) (s : Nat → Int) (f : Nat → Rat) : Prop := ∃ B, (∀ j, j < n → Bd B (f j)) ∧ (n + 1) * (7 + B + 1) ≤ 8990 ∧ ∀ i, i < n → mul s n f i = 0
abbrev N_paper_good : List Str := ["slants", "thing", "size", "place", "row"]
theorem sc_paper_good : FnScope N_paper_good ["slants", "thing"] (defScope (top 49)) := ⟨rfl, rfl, rfl, by decide +kernel, rfl, by decide +kernel, by decide +kernel⟩

def R_paper_good : List PyData → PyData → Prop := fun ds d => ∃ (n : Nat) (s : Nat → Int) (t : PyData), Sl s n ∧ ds = [slD n s, t] ∧
  ((∃ f l, t = strong n f l ∧ Mk n s f 0 ∧ Mk n s l (n - 1) ∧ f 0 ≠ 0 ∧ d = .bool true) ∨ (∃ M, t = whole n M ∧ (∀ p, p < n → Mk n s (M p) p) ∧ d = .bool true) ∨ (∃ f, t = weakP n f ∧ Mz n s f ∧ d = .bool (!isNo n f)))
theorem f_paper_good (W : Wd K mg) : Fnc P w K mg base "paper_good" 8 ["slants", "thing"] (spD K R_paper_good) (He.ga K "paper_good") :=
  mk_d W 36 sc_paper_good (fun _ _ _ _ _ _ us hl => match us, hl with | [_, _], _ => rfl) (fun ds d h => by obtain ⟨n, s, t, _, rfl, _⟩ := h; exact ⟨rfl, Nat.le_of_ble_eq_true rfl⟩) (fun cdv A outer s0 H E hr => ⟨_, (pss_cons (ps_expr (pe_fn (f_check_slants W) hr (pa_cons (pv 0) pa_nil)))
    (pss_cons (ps_if (PW.pt (pw_or (pt_not (pt_val (pe_callB (clIsi K) (by rfl) W.n_isinstance (by decide +kernel) (pa_cons (pv 1) (pa_cons (pe_bltn (v := .ty "tuple") (by rfl) W.n_tuple (by decide +kernel) rfl) pa_nil))))) (pw_or (pt_cmpR (opNotIn K) (pe_callB (clLen K) (by rfl) W.n_len (by decide +kernel) (pa_cons (pv 1) pa_nil)) (pe_tup (pa_cons pe_int (pa_cons pe_int pa_nil))) (by rfl)) (pw_or1 (pt_not (pt_val (pe_callB (clIsi K) (by rfl) W.n_isinstance (by decide +kernel) (pa_cons (pe_ix (ixT K) (pv 1) pe_int (fun _ _ => rfl)) (pa_cons (pe_bltn (v := .ty "str") (by rfl) W.n_str (by decide +kernel) rfl) pa_nil))))))))) (pss_one (ps_ret pe_bl)) pss_nil)
    (pss_cons (ps_set (i := 2) sc_paper_good.nd rfl (.inl rfl) (pe_fn (f_size_of W) hr (pa_cons (pv 0) pa_nil)))
    (pss_cons (ps_if (PW.pt (pw_and (pt_cmpR op_eq (pe_ix (ixT K) (pv 1) pe_int (fun _ _ => rfl)) pe_str (nomark _)) (pw_and1 (pt_cmpR op_eq (pe_callB (clLen K) (by rfl) W.n_len (by decide +kernel) (pa_cons (pv 1) pa_nil)) pe_int (nomark _))))) (pss_cons (ps_if (PW.pt (pw_or (pt_not (pt_val (pe_fn (f_makes_unit W) hr (pa_cons (pv 0) (pa_cons (pe_ix (ixT K) (pv 1) pe_int (fun _ _ => rfl)) (pa_cons pe_int pa_nil)))))) (pw_or1 (pt_not (pt_val (pe_fn (f_makes_unit W) hr (pa_cons (pv 0) (pa_cons (pe_ix (ixT K) (pv 1) pe_int (fun _ _ => rfl)) (pa_cons (pe_op op_sub (pv 2) pe_int) pa_nil))))))))) (pss_one (ps_ret pe_bl)) pss_nil)
      (pss_one (ps_ret (pe_and (pe_fn (f_share_good W) hr (pa_cons (pe_ix (ixT K) (pe_ix (ixT K) (pv 1) pe_int (fun _ _ => rfl)) pe_int (fun _ _ => rfl)) pa_nil)) (pe_one (pe_cmpR (opNeD K hr.units) (pe_ix (ixT K) (pe_ix (ixT K) (pv 1) pe_int (fun _ _ => rfl)) pe_int (fun _ _ => rfl)) (pe_glob (v := .ref (He.ga K "NOUGHT")) rfl W.nought rfl) (nomark _))))))) pss_nil)
    (pss_cons (ps_if (pt_cmpR op_eq (pe_ix (ixT K) (pv 1) pe_int (fun _ _ => rfl)) pe_str (nomark _)) (pss_cons (ps_if (PW.pt (pw_or (pt_not (pt_val (pe_callB (clIsi K) (by rfl) W.n_isinstance (by decide +kernel) (pa_cons (pe_ix (ixT K) (pv 1) pe_int (fun _ _ => rfl)) (pa_cons (pe_bltn (v := .ty "list") (by rfl) W.n_list (by decide +kernel) rfl) pa_nil))))) (pw_or1 (pt_cmpR op_ne (pe_callB (clLen K) (by rfl) W.n_len (by decide +kernel) (pa_cons (pe_ix (ixT K) (pv 1) pe_int (fun _ _ => rfl)) pa_nil)) (pv 2) (nomark _))))) (pss_one (ps_ret pe_bl)) pss_nil)
      (pss_one (ps_ret (pe_callB (clAll K rfl) (by rfl) W.n_all (by decide +kernel) (pa_cons (pe_lc (own := [("place", 3), ("row", 4)]) rfl sc_paper_good.nd (pi_enum (by rfl) W.n_enumerate (pa_cons (pe_ix (ixT K) (pv 1) pe_int (fun _ _ => rfl)) pa_nil)) (blkOk_by (own := [("place", 3), ("row", 4)]) (N := N_paper_good) (sc := defScope (top 49)) (by decide +kernel)) (fun _ _ _ _ _ => (pgPair K rfl (pg_name (i := 3) sc_paper_good.nd rfl (.inl rfl)) (pg_name (i := 4) sc_paper_good.nd rfl (.inl rfl)))) (fun _ _ _ _ _ => pts_nil) (fun _ _ _ _ _ => (pe_fn (f_makes_unit W) hr (pa_cons (pv 0) (pa_cons (pv 4) (pa_cons (pv 3) pa_nil)))))) pa_nil))))) pss_nil)
    (pss_one (ps_ret (pe_and (pe_cmpR op_eq (pe_ix (ixT K) (pv 1) pe_int (fun _ _ => rfl)) pe_str (nomark _)) (pe_and (pe_cmpR op_eq (pe_callB (clLen K) (by rfl) W.n_len (by decide +kernel) (pa_cons (pv 1) pa_nil)) pe_int (nomark _)) (pe_one (pe_fn (f_makes_noughts W) hr (pa_cons (pv 0) (pa_cons (pe_ix (ixT K) (pv 1) pe_int (fun _ _ => rfl)) pa_nil))))))))))))), fun ds d hR => by
    obtain ⟨n, s, t, hS, rfl, hR⟩ := hR
    have h1 := hS.1
    have h5 := hS.2.1
    have mku : ∀ {Γ : Ga} {t1 t2 : TE} {f : Nat → Rat} {p : Nat} {i : Int}, Mk n s f p → Γ[0]? = some (some (slD n s)) → ED K t1 Γ (rowD n f) → ED K t2 Γ (.int i) → i = (p : Int) → ED K (tCall (spD K R_makes_unit) [] E0 (tCons (tVar 0) (tCons t1 (tCons t2 tNil)))) Γ (.bool true) := fun ⟨B, b1, b2, b3⟩ h h1 h2 e => ed_call (ea_cons (ed_var h) (ea_cons h1 (ea_cons h2 ea_nil))) ⟨n, B, _, s, _, hS, by rw [e], b1, b2, b3, rfl⟩
    rcases hR with ⟨f, l, rfl, hf, hl, h0, rfl⟩ | ⟨M, rfl, hM, rfl⟩ | ⟨f, rfl, ⟨B, b1, b2, b3⟩, rfl⟩
    · refine sr_seq (sf_drop (ed_call (ea_cons (ed_var rfl) ea_nil) ⟨⟨n, s, hS, rfl⟩, rfl⟩)) ?_
      refine sr_seq (sf_ifF (et_or (b := false) (et_not (b := true) (et_B (ed_isi (d := strong n f l) (ed_var rfl) k_tt))) fun _ => et_or (b := false) (et_test (ed_notInT (p := 3) (ps := [2, 3]) (ed_lenT (ds := [.str "full", rowD n f, rowD n l]) (ed_var rfl)) (ed_tup (ea_cons ed_int (ea_cons ed_int ea_nil)) (by show 2 ≤ 100000; decide)))) fun _ => et_not (b := true) (et_B (ed_isi (d := .str "full") (ed_ixT (n := 0) (ed_var rfl) ed_int rfl rfl) k_ss))) sf_next) ?_
      refine sr_seq (sf_set (ed_call (ea_cons (ed_var rfl) ea_nil) ⟨n, s, h1, rfl, rfl⟩)) ?_
      refine sr_now (sr_ifT (et_and (b := true) (c := true) ((et_test (ed_eqS (ed_ixT (n := 0) (ed_var rfl) ed_int rfl rfl) ed_str)).to (by decide +kernel)) fun _ => (et_test (ed_eqI (ed_lenT (ds := [.str "full", rowD n f, rowD n l]) (ed_var rfl)) ed_int)).to rfl) ?_)
      refine sr_seq (sf_ifF (et_or (b := false) (et_not (b := true) (et_B (mku hf rfl (ed_ixT (n := 1) (ed_var rfl) ed_int rfl rfl) ed_int rfl))) fun _ => et_not (b := true) (et_B (mku hl rfl (ed_ixT (n := 2) (ed_var rfl) ed_int rfl rfl) (ed_I0 (g := fun i j => i - j) (ed_var rfl) ed_int) (by omega)))) sf_next) ?_
      refine sr_ret (ed_and (b := true) (c := true) (ed_call (ea_cons (ed_ixT (n := 0) (ds := rowL n f) (ed_ixT (n := 1) (ed_var rfl) ed_int rfl rfl) ed_int rfl (rng_get h1)) ea_nil) ⟨_, rfl, rfl⟩) fun _ => (ed_neD (ed_ixT (n := 0) (ds := rowL n f) (ed_ixT (n := 1) (ed_var rfl) ed_int rfl rfl) ed_int rfl (rng_get h1)) (ed_c W.d0) (shaped_sh _) (shaped_sh _)).to ?_)
      rw [eqv_sh, decide_eq_false h0]
      rfl
    · refine sr_seq (sf_drop (ed_call (ea_cons (ed_var rfl) ea_nil) ⟨⟨n, s, hS, rfl⟩, rfl⟩)) ?_
      refine sr_seq (sf_ifF (et_or (b := false) (et_not (b := true) (et_B (ed_isi (d := whole n M) (ed_var rfl) k_tt))) fun _ => et_or (b := false) (et_test (ed_notInT (p := 2) (ps := [2, 3]) (ed_lenT (ds := [.str "full", .list (rowsL n n M)]) (ed_var rfl)) (ed_tup (ea_cons ed_int (ea_cons ed_int ea_nil)) (by show 2 ≤ 100000; decide)))) fun _ => et_not (b := true) (et_B (ed_isi (d := .str "full") (ed_ixT (n := 0) (ed_var rfl) ed_int rfl rfl) k_ss))) sf_next) ?_
      refine sr_seq (sf_set (ed_call (ea_cons (ed_var rfl) ea_nil) ⟨n, s, h1, rfl, rfl⟩)) ?_
      refine sr_seq (sf_ifF (et_and (b := true) (c := false) ((et_test (ed_eqS (ed_ixT (n := 0) (ed_var rfl) ed_int rfl rfl) ed_str)).to (by decide +kernel)) fun _ => (et_test (ed_eqI (ed_lenT (ds := [.str "full", .list (rowsL n n M)]) (ed_var rfl)) ed_int)).to rfl) sf_next) ?_
      refine sr_now (sr_ifT ((et_test (ed_eqS (ed_ixT (n := 0) (ed_var rfl) ed_int rfl rfl) ed_str)).to (by decide +kernel)) ?_)
      refine sr_seq (sf_ifF (et_or (b := false) (et_not (b := true) (et_B (ed_isi (d := .list (rowsL n n M)) (ed_ixT (n := 1) (ed_var rfl) ed_int rfl rfl) k_ll))) fun _ => (et_test (ed_neI (ed_lenL (ds := rowsL n n M) (ed_ixT (n := 1) (ed_var rfl) ed_int rfl rfl)) (ed_var rfl))).to (by rw [rowsL_len, decide_eq_true rfl]; rfl)) sf_next) ?_
      exact sr_ret (ed_allT (n := n) (EL.ed (el_lcP (n := n) (d1 := fun i => .int (i : Int)) (d2 := fun i => rowD n (M i)) (ei_enum (ea_cons (ed_ixT (n := 1) (ed_var rfl) ed_int rfl rfl) ea_nil)) (by decide) (by decide) (fun i hi => mku (hM i hi) rfl (ed_var rfl) (ed_var rfl) rfl) (fun _ _ => rfl) (by omega))))
    · refine sr_seq (sf_drop (ed_call (ea_cons (ed_var rfl) ea_nil) ⟨⟨n, s, hS, rfl⟩, rfl⟩)) ?_
      refine sr_seq (sf_ifF (et_or (b := false) (et_not (b := true) (et_B (ed_isi (d := weakP n f) (ed_var rfl) k_tt))) fun _ => et_or (b := false) (et_test (ed_notInT (p := 2) (ps := [2, 3]) (ed_lenT (ds := [.str "none", rowD n f]) (ed_var rfl)) (ed_tup (ea_cons ed_int (ea_cons ed_int ea_nil)) (by show 2 ≤ 100000; decide)))) fun _ => et_not (b := true) (et_B (ed_isi (d := .str "none") (ed_ixT (n := 0) (ed_var rfl) ed_int rfl rfl) k_ss))) sf_next) ?_
      refine sr_seq (sf_set (ed_call (ea_cons (ed_var rfl) ea_nil) ⟨n, s, h1, rfl, rfl⟩)) ?_
      refine sr_seq (sf_ifF (et_and (b := false) (c := false) ((et_test (ed_eqS (ed_ixT (n := 0) (ed_var rfl) ed_int rfl rfl) ed_str)).to (by decide +kernel)) (fun z => by cases z)) sf_next) ?_
      refine sr_seq (sf_ifF ((et_test (ed_eqS (ed_ixT (n := 0) (ed_var rfl) ed_int rfl rfl) ed_str)).to (by decide +kernel)) sf_next) ?_
      exact sr_ret (ed_and (b := true) (c := !isNo n f) ((ed_eqS (ed_ixT (n := 0) (ed_var rfl) ed_int rfl rfl) ed_str).to (congrArg PyData.bool (by decide +kernel))) fun _ => ed_and (b := true) (c := !isNo n f) ((ed_eqI (ed_lenT (ds := [.str "none", rowD n f]) (ed_var rfl)) ed_int).to rfl) fun _ => ed_call (ea_cons (ed_var rfl) (ea_cons (ed_ixT (n := 1) (ed_var rfl) ed_int rfl rfl) ea_nil)) ⟨n, B, s, f, hS, rfl, b1, b2, b3, rfl⟩)⟩)
abbrev N_paper_of : List Str := ["slants", "free"]
theorem sc_paper_of : FnScope N_paper_of ["slants"] (defScope (top 50)) := ⟨rfl, rfl, rfl, by decide +kernel, rfl, by decide +kernel, by decide +kernel⟩

def paperD (n : Nat) (s : Nat → Int) : PyData := match frees s n with
  | [] => whole n (bcol s n)
  | f :: _ => weakP n (freeR s n f)
def R_paper_of : List PyData → PyData → Prop := fun ds d => ∃ n s, Sl s n ∧ ds = [slD n s] ∧ d = paperD n s
theorem f_paper_of (W : Wd K mg) : Fnc P w K mg base "paper_of" 7 ["slants"] (spD K R_paper_of) (He.ga K "paper_of") :=
  mk_d W 37 sc_paper_of (fun _ _ _ _ _ _ us hl => match us, hl with | [_], _ => rfl) (fun ds d h => by obtain ⟨n, s, _, rfl, _⟩ := h; exact ⟨rfl, Nat.le_of_ble_eq_true rfl⟩) (fun cdv A outer s0 H E hr => ⟨_, (pss_cons (ps_expr (pe_fn (f_check_slants W) hr (pa_cons (pv 0) pa_nil)))
    (pss_cons (ps_set (i := 1) sc_paper_of.nd rfl (.inl rfl) (pe_fn (f_free_by W) hr (pa_cons (pv 0) pa_nil)))
    (pss_cons (ps_if (pt_cmpR (opNeD K hr.units) (pv 1) (pe_lst pa_nil) (nomark _)) (pss_one (ps_ret (pe_tup (pa_cons pe_str (pa_cons (pe_ix (ixL K) (pv 1) pe_int (fun _ _ => rfl)) pa_nil))))) pss_nil)
    (pss_one (ps_ret (pe_tup (pa_cons pe_str (pa_cons (pe_fn (f_backs_by W) hr (pa_cons (pv 0) pa_nil)) pa_nil)))))))), fun ds d hR => by
    obtain ⟨n, s, hS, rfl, rfl⟩ := hR
    refine sr_seq (sf_drop (ed_call (ea_cons (ed_var rfl) ea_nil) ⟨⟨n, s, hS, rfl⟩, rfl⟩)) (sr_seq (sf_set (d := .list (freesD n s)) (ed_call (ea_cons (ed_var rfl) ea_nil) ⟨n, s, hS, rfl, rfl⟩)) ?_)
    have e := eqv_frees_nil n s
    unfold paperD
    cases hf : frees s n with
    | nil =>
      rw [hf] at e
      exact sr_seq (sf_ifF ((et_test (ed_neD (ed_var rfl) (EL.ed (el_lst ea_nil (by decide))) ((shp_frees _ _ _ _).sd (by decide)) shaped_nil)).to (congrArg (fun b => !b) e)) sf_next) (sr_ret (ed_tup (ea_cons ed_str (ea_cons (ed_call (ea_cons (ed_var rfl) ea_nil) ⟨n, s, hS, rfl, rfl⟩) ea_nil)) (by show 2 ≤ 100000; decide)))
    | cons f fs =>
      rw [hf] at e
      exact sr_now (sr_ifT ((et_test (ed_neD (ed_var rfl) (EL.ed (el_lst ea_nil (by decide))) ((shp_frees _ _ _ _).sd (by decide)) shaped_nil)).to (congrArg (fun b => !b) e)) (sr_ret (ed_tup (ea_cons ed_str (ea_cons (ed_ixL (n := 0) (ed_var rfl) ed_int rfl (by unfold freesD freeD; rw [hf]; rfl)) ea_nil)) (by show 2 ≤ 100000; decide))))⟩)
end
end K35
/-! The steps walked. -/
namespace K35
open PySem PySem.Spec PyProof.Rows L2 Evl
def stepD (k : Nat) (st : Fn × Fn) : PyData := .tuple [rowD k st.1, rowD k st.2]
def optD (k : Nat) : Option (Fn × Fn) → PyData
  | none => .none
  | some st => stepD k st
theorem noL_step (k : Nat) (st : Fn × Fn) : noL (stepD k st) = true := by
  unfold stepD noL
  exact noLs_all fun d hd => by
    rcases List.mem_cons.mp hd with e | hd
    · rw [e]; exact noL_row _ _
    · rw [List.mem_singleton.mp hd]; exact noL_row _ _
def stepsD (s : Nat → Int) (n m : Nat) : List PyData := (List.range m).map fun k => optD (k + 1) (stepA s n k)
theorem stepsD_no (s : Nat → Int) (n m : Nat) : noL.noLs (stepsD s n m) = true := noL_map fun i _ => by
  cases stepA s n i with
  | none => rfl
  | some st => exact noL_step _ _
section
variable {K : PySem.W.Frag} {Γ : Ga} {te : TE} {d : PyData} {b : Bool}
def isNon : PyData → Bool
  | .none => true
  | _ => false
theorem non_of {H : Hp} {v : V} (h : Dp K H v d) : decide (v = .non) = isNon d := by
  cases h <;> rfl
theorem ed_isN (h : ED K te Γ d) (hb : isNon d = b) : ED K (tOp (fun x y H Q => y = .non ∧ Q (.bl (decide (x = .non))) H) te (tC .non)) Γ (.bool b) := ed_op (e := .none) h ed_non fun x y H hx hy Q q => by
  refine ⟨dp_non hy, q _ H (Ex.refl H) ?_⟩
  rw [non_of hx, hb]
  exact .bl _
theorem ed_notN (h : ED K te Γ d) (hb : isNon d = b) : ED K (tOp (fun x y H Q => y = .non ∧ Q (.bl (!decide (x = .non))) H) te (tC .non)) Γ (.bool (!b)) := ed_op (e := .none) h ed_non fun x y H hx hy Q q => by
  refine ⟨dp_non hy, q _ H (Ex.refl H) ?_⟩
  rw [non_of hx, hb]
  exact .bl _
theorem for_rng2 {σ : L2.St} {H : Hp} {D : Ends} {ta : TA} {g : TG} {tb : TS} {n : Nat} {lo hi : Int} (h : EA K ta Γ [.int lo, .int hi]) (hn : n = (hi - lo).toNat) (hb : -100000 ≤ lo ∧ lo ≤ 100000 ∧ -100000 ≤ hi ∧ hi ≤ 100000) (gs : Sg K H σ Γ) (P : Nat → L2.St → Hp → Prop) (h0 : ∀ H1, Ex H H1 → P 0 σ H1)
    (hs : ∀ i σ' H', i < n → P i σ' H' → g (.int (lo + (i : Int))) σ' H' fun σ2 H2 => tb { D with nx := P (i + 1), ct := P (i + 1), bk := D.nx } σ2 H2) (hd : ∀ σ' H', P n σ' H' → D.nx σ' H') : tFor (iRng2 ta) g tb D σ H :=
  h σ H gs _ fun vs H1 e1 ha => by
    obtain ⟨v, w, rfl, hv, hw⟩ := dpa2 ha
    rw [dp_int hv, dp_int hw]
    refine ⟨lo, hi, rfl, ⟨by omega, by omega, by omega, by omega⟩, ?_⟩
    rw [← hn]
    exact for_range (lo := lo) P (h0 H1 e1) hs hd
end
section
variable {P : Program} {w : World} {K : PySem.W.Frag} {mg : Str → Option Value} {base : Heap}
abbrev N_first_steps : List Str := ["slants", "number", "row"]
theorem sc_first_steps : FnScope N_first_steps ["slants"] (defScope (top 52)) := ⟨rfl, rfl, rfl, by decide +kernel, rfl, by decide +kernel, by decide +kernel⟩

def R_first_steps : List PyData → PyData → Prop := fun ds d => ∃ c, Sl c 1 ∧ ds = [slD 1 c] ∧ d = optD 1 (firstF c)
theorem f_first_steps (W : Wd K mg) : Fnc P w K mg base "first_steps" 4 ["slants"] (spD K R_first_steps) (He.ga K "first_steps") :=
  mk_d W 38 sc_first_steps (fun _ _ _ _ _ _ us hl => match us, hl with | [_], _ => rfl) (fun ds d h => by obtain ⟨c, _, rfl, _⟩ := h; exact ⟨rfl, Nat.le_of_ble_eq_true rfl⟩) (fun cdv A outer s0 H E hr => ⟨_, (pss_cons (ps_set (i := 1) sc_first_steps.nd rfl (.inl rfl) (pe_ix (ixT K) (pv 0) (pe_op op_sub (pe_fn (f_size_of W) hr (pa_cons (pv 0) pa_nil)) pe_int) (fun _ _ => rfl)))
    (pss_cons (ps_if (pt_cmpR op_eq (pv 1) pe_int (nomark _)) (pss_one (ps_ret pe_non)) pss_nil)
    (pss_cons (ps_set (i := 2) sc_first_steps.nd rfl (.inl rfl) (pe_tup (pa_cons (pe_fn (f_by W) hr (pa_cons (pe_glob (v := .ref (He.ga K "ONE")) rfl W.one rfl) (pa_cons (pe_tup (pa_cons (pv 1) (pa_cons pe_int pa_nil))) pa_nil))) pa_nil)))
    (pss_one (ps_ret (pe_tup (pa_cons (pv 2) (pa_cons (pv 2) pa_nil)))))))), fun ds d hR => by
    obtain ⟨c, hS, rfl, rfl⟩ := hR
    have hb := hS.2.2 0 (by decide)
    refine sr_seq (sf_set (d := .int (c 0)) (ed_ixT (n := 0) (ds := intL 1 c) (ed_var rfl) (ed_I0 (g := fun i j => i - j) (ed_call (ea_cons (ed_var rfl) ea_nil) ⟨1, c, by decide, rfl, rfl⟩) ed_int) (by decide) rfl)) ?_
    unfold firstF
    by_cases h : c 0 = 0
    · rw [if_pos h]
      exact sr_now (sr_ifT ((et_test (ed_eqI (ed_var rfl) ed_int)).to (decide_eq_true h)) (sr_ret ed_non))
    · rw [if_neg h]
      refine sr_seq (sf_ifF ((et_test (ed_eqI (ed_var rfl) ed_int)).to (decide_eq_false h)) sf_next) ?_
      have hc : (c 0 : Rat) ≠ 0 := cast_ne h
      refine sr_seq (sf_set (d := rowD 1 fun _ => 1 / (c 0 : Rat)) (ed_tup (ea_cons (ed_call (ea_cons (ed_c W.d1) (ea_cons (ed_tup (ds := [.int (c 0), .int 1]) (ea_cons (ed_var rfl) (ea_cons ed_int ea_nil)) (by show 2 ≤ 100000; decide)) ea_nil)) ⟨1, (c 0 : Rat), 1, 7, rfl, bd_one (by decide), bd_int (show (c 0).natAbs < 2 ^ 7 by omega) (by decide), by decide, hc, rfl⟩) ea_nil) (by show 1 ≤ 100000; decide))) ?_
      exact sr_ret (ed_tup (ea_cons (ed_var rfl) (ea_cons (ed_var rfl) ea_nil)) (by show 2 ≤ 100000; decide))⟩)
abbrev N_stepped : List Str := ["slants", "step", "first", "last", "size", "bottom", "top", "low", "high", "rest", "begun", "ended", "factor"]
theorem sc_stepped : FnScope N_stepped ["slants", "step"] (defScope (top 53)) := ⟨rfl, rfl, rfl, by decide +kernel, rfl, by decide +kernel, by decide +kernel⟩

def R_stepped : List PyData → PyData → Prop := fun ds d => ∃ (q : Nat) (c : Nat → Int) (st : Fn × Fn), 1 ≤ q ∧ Sl c (q + 1) ∧ (∀ j, j < q → Bd 400 (st.1 j) ∧ Bd 400 (st.2 j)) ∧ ds = [slD (q + 1) c, stepD q st] ∧ d = optD (q + 1) (stepF c (q + 1) st)
theorem f_stepped (W : Wd K mg) : Fnc P w K mg base "stepped" 6 ["slants", "step"] (spD K R_stepped) (He.ga K "stepped") :=
  mk_d W 39 sc_stepped (fun _ _ _ _ _ _ us hl => match us, hl with | [_, _], _ => rfl) (fun ds d h => by obtain ⟨q, c, st, _, _, _, rfl, _⟩ := h; exact ⟨rfl, Nat.le_of_ble_eq_true rfl⟩) (fun cdv A outer s0 H E hr => ⟨_, (pss_cons (ps_asg (pv 1) (pgPair K rfl (pg_name (i := 2) sc_stepped.nd rfl (.inl rfl)) (pg_name (i := 3) sc_stepped.nd rfl (.inl rfl))))
    (pss_cons (ps_set (i := 4) sc_stepped.nd rfl (.inl rfl) (pe_fn (f_size_of W) hr (pa_cons (pv 0) pa_nil)))
    (pss_cons (ps_set (i := 5) sc_stepped.nd rfl (.inl rfl) (pe_fn (f_whole_row W) hr (pa_cons (pe_slice (slT K) (pv 0) po_none (po_some (pe_op op_sub (pv 4) pe_int))) pa_nil)))
    (pss_cons (ps_set (i := 6) sc_stepped.nd rfl (.inl rfl) (pe_fn (f_whole_row W) hr (pa_cons (pe_slice (slT K) (pv 0) (po_some (pv 4)) po_none) pa_nil)))
    (pss_cons (ps_set (i := 7) sc_stepped.nd rfl (.inl rfl) (pe_fn (f_product_sum W) hr (pa_cons (pv 5) (pa_cons (pv 2) pa_nil))))
    (pss_cons (ps_set (i := 8) sc_stepped.nd rfl (.inl rfl) (pe_fn (f_product_sum W) hr (pa_cons (pv 6) (pa_cons (pv 3) pa_nil))))
    (pss_cons (ps_set (i := 9) sc_stepped.nd rfl (.inl rfl) (pe_fn (f_less W) hr (pa_cons (pe_glob (v := .ref (He.ga K "ONE")) rfl W.one rfl) (pa_cons (pe_fn (f_times W) hr (pa_cons (pv 7) (pa_cons (pv 8) pa_nil))) pa_nil))))
    (pss_cons (ps_if (pt_cmpR (opEqD K hr.units) (pv 9) (pe_glob (v := .ref (He.ga K "NOUGHT")) rfl W.nought rfl) (nomark _)) (pss_one (ps_ret pe_non)) pss_nil)
    (pss_cons (ps_set (i := 10) sc_stepped.nd rfl (.inl rfl) (pe_op (opCatT K) (pv 2) (pe_tup (pa_cons (pe_glob (v := .ref (He.ga K "NOUGHT")) rfl W.nought rfl) pa_nil))))
    (pss_cons (ps_set (i := 11) sc_stepped.nd rfl (.inl rfl) (pe_op (opCatT K) (pe_tup (pa_cons (pe_glob (v := .ref (He.ga K "NOUGHT")) rfl W.nought rfl) pa_nil)) (pv 3)))
    (pss_cons (ps_set (i := 12) sc_stepped.nd rfl (.inl rfl) (pe_fn (f_by W) hr (pa_cons (pe_glob (v := .ref (He.ga K "ONE")) rfl W.one rfl) (pa_cons (pv 9) pa_nil))))
    (pss_one (ps_ret (pe_tup (pa_cons (pe_fn (f_scaled W) hr (pa_cons (pe_fn (f_rows_less W) hr (pa_cons (pv 10) (pa_cons (pe_fn (f_scaled W) hr (pa_cons (pv 11) (pa_cons (pv 7) pa_nil))) pa_nil))) (pa_cons (pv 12) pa_nil))) (pa_cons (pe_fn (f_scaled W) hr (pa_cons (pe_fn (f_rows_less W) hr (pa_cons (pv 11) (pa_cons (pe_fn (f_scaled W) hr (pa_cons (pv 10) (pa_cons (pv 8) pa_nil))) pa_nil))) (pa_cons (pv 12) pa_nil))) pa_nil)))))))))))))))), fun ds d hR => by
    obtain ⟨q, c, st, h1, hS, hB, rfl, rfl⟩ := hR
    have h5 := hS.2.1
    have b1 : ∀ j, j < q → Bd 400 (st.1 j) := fun j hj => (hB j hj).1
    have b2 : ∀ j, j < q → Bd 400 (st.2 j) := fun j hj => (hB j hj).2
    have bc : ∀ {j}, j < 2 * q + 1 → Bd 7 (c j : Rat) := fun {j} hj => by
      have := hS.2.2 j (by omega)
      exact bd_int (show (c j).natAbs < 2 ^ 7 by omega) (by decide)
    have hz : (q + 1) * (7 + 400 + 1) ≤ 8990 := by omega
    have blow : Bd 1633 (lowV c (q + 1) st.1) := (bd_sm (A := 7) (B := 400) (n := q) (f := fun j => (c j : Rat)) (g := st.1) (fun j hj => bc (by omega)) b1).mono (by omega)
    have bhigh : Bd 1633 (highV c (q + 1) st.2) := (bd_sm (A := 7) (B := 400) (n := q) (f := fun j => (c (q + 1 + j) : Rat)) (g := st.2) (fun j hj => bc (by omega)) b2).mono (by omega)
    have bprod : Bd 3266 (lowV c (q + 1) st.1 * highV c (q + 1) st.2) := blow.mul bhigh
    have brest : Bd 3268 (restV c (q + 1) st) := (bd_one (A := 1) (by decide)).sub bprod
    have bbeg : ∀ j, j < q + 1 → Bd 400 (begun (q + 1) st.1 j) := fun j hj => by
      unfold begun
      split
      · exact b1 j (by omega)
      · exact bd_zero (by decide)
    have bend : ∀ j, j < q + 1 → Bd 400 (ended st.2 j) := fun j hj => by
      unfold ended
      split
      · exact bd_zero (by decide)
      · exact b2 _ (by omega)
    refine sr_seq (sf_pair (ed_var rfl)) ?_
    refine sr_seq (sf_set (ed_call (ea_cons (ed_var rfl) ea_nil) ⟨q + 1, c, by omega, rfl, rfl⟩)) ?_
    refine sr_seq (sf_set (d := rowD q fun j => (c j : Rat)) (ed_call (ea_cons (ed_slT (ds := intL (2 * (q + 1) - 1) c) (lo := none) (hi := some (q : Int)) (es := intL q c) (ed_var rfl) eo_no (eo_int ((ed_I0 (g := fun i j => i - j) (ed_var rfl) ed_int).to (show PyData.int _ = .int (q : Int) by congr 1; omega))) (fun vs H h => ?_) fun z => ?_) ea_nil) ⟨q, c, .inr rfl, by omega, rfl⟩)) ?_
    · have := cut_dp0 (b := q) h
      rw [intL_len, show min q (2 * (q + 1) - 1) = q by omega] at this
      unfold intL at this
      rw [take_rng (by omega)] at this
      exact this
    · rw [HT.sIx_nat, intL_len] at z
      omega
    refine sr_seq (sf_set (d := rowD q fun j => (c (q + 1 + j) : Rat)) (ed_call (ea_cons (ed_slT (ds := intL (2 * (q + 1) - 1) c) (lo := some ((q + 1 : Nat) : Int)) (hi := none) (es := intL q fun j => c (q + 1 + j)) (ed_var rfl) (eo_int (ed_var rfl)) eo_no (fun vs H h => ?_) fun z => ?_) ea_nil) ⟨q, fun j => c (q + 1 + j), .inr rfl, by omega, rfl⟩)) ?_
    · have := cut_dp1 (a := q + 1) h
      rw [intL_len, show min (q + 1) (2 * (q + 1) - 1) = q + 1 by omega] at this
      unfold intL at this
      rw [drop_rng (by omega), show 2 * (q + 1) - 1 - (q + 1) = q by omega] at this
      exact this
    · rw [HT.sIx_nat, intL_len] at z
      omega
    refine sr_seq (sf_set (d := shD (lowV c (q + 1) st.1)) (ed_call (ea_cons (ed_var rfl) (ea_cons (ed_var rfl) ea_nil)) ⟨q, 7, 400, fun j => (c j : Rat), st.1, .inr rfl, fun j hj => bc (by omega), b1, hz, rfl⟩)) ?_
    refine sr_seq (sf_set (d := shD (highV c (q + 1) st.2)) (ed_call (ea_cons (ed_var rfl) (ea_cons (ed_var rfl) ea_nil)) ⟨q, 7, 400, fun j => (c (q + 1 + j) : Rat), st.2, .inr rfl, fun j hj => bc (by omega), b2, hz, rfl⟩)) ?_
    refine sr_seq (sf_set (d := shD (restV c (q + 1) st)) (ed_call (ea_cons (ed_c W.d1) (ea_cons (ed_call (ea_cons (ed_var rfl) (ea_cons (ed_var rfl) ea_nil)) ⟨_, _, 1633, 1633, rfl, blow, bhigh, by decide, rfl⟩) ea_nil)) ⟨1, _, 1, 3266, rfl, bd_one (by decide), bprod, by decide, rfl⟩)) ?_
    have te : ∀ {Γ : Ga}, Γ[9]? = some (some (shD (restV c (q + 1) st))) → ET K (tTest (tOp (rEqD K) (tVar 9) (tC (.ref (He.ga K "NOUGHT"))))) Γ (decide (restV c (q + 1) st = 0)) := fun h => (et_test (ed_eqD (ed_var h) (ed_c W.d0) (shaped_sh _) (shaped_sh _))).to (by rw [eqv_sh])
    unfold stepF
    by_cases hr0 : restV c (q + 1) st = 0
    · rw [if_pos hr0]
      exact sr_now (sr_ifT ((te rfl).to (decide_eq_true hr0)) (sr_ret ed_non))
    · rw [if_neg hr0]
      refine sr_seq (sf_ifF ((te rfl).to (decide_eq_false hr0)) sf_next) ?_
      refine sr_seq (sf_set (d := rowD (q + 1) (begun (q + 1) st.1)) ((ed_catT (ds := rowL q st.1) (es := [shD 0]) (ed_var rfl) (ed_tup (ea_cons (ed_c W.d0) ea_nil) (by show 1 ≤ 100000; decide)) (by rw [show (rowL q _).length = q from rng_len]; show q + 1 ≤ 100000; omega)).to (congrArg PyData.tuple (rowL_cat (m := 1) (g := fun _ => 0) (fun j hj => if_pos hj) fun j hj => if_neg (by omega))))) ?_
      refine sr_seq (sf_set (d := rowD (q + 1) (ended st.2)) ((ed_catT (ds := [shD 0]) (es := rowL q st.2) (ed_tup (ea_cons (ed_c W.d0) ea_nil) (by show 1 ≤ 100000; decide)) (ed_var rfl) (by rw [show (rowL q _).length = q from rng_len]; show 1 + q ≤ 100000; omega)).to ?_)) ?_
      · rw [show q + 1 = 1 + q by omega]
        refine congrArg PyData.tuple (rowL_cat (n := 1) (f := fun _ => 0) (fun j hj => if_pos (by omega)) fun j hj => ?_)
        unfold ended
        rw [if_neg (by omega), Nat.add_sub_cancel_left]
      refine sr_seq (sf_set (d := shD (1 / restV c (q + 1) st)) (ed_call (ea_cons (ed_c W.d1) (ea_cons (ed_var rfl) ea_nil)) ⟨1, _, 1, 3268, rfl, bd_one (by decide), brest, by decide, hr0, rfl⟩)) ?_
      have binv : Bd 3268 (1 / restV c (q + 1) st) := brest.inv hr0
      have bel : ∀ j, j < q + 1 → Bd 2033 (ended st.2 j * lowV c (q + 1) st.1) := fun j hj => (bend j hj).mul blow
      have bbh : ∀ j, j < q + 1 → Bd 2033 (begun (q + 1) st.1 j * highV c (q + 1) st.2) := fun j hj => (bbeg j hj).mul bhigh
      have bbel : ∀ j, j < q + 1 → Bd 2434 (begun (q + 1) st.1 j - ended st.2 j * lowV c (q + 1) st.1) := fun j hj => (bbeg j hj).sub (bel j hj)
      have bebh : ∀ j, j < q + 1 → Bd 2434 (ended st.2 j - begun (q + 1) st.1 j * highV c (q + 1) st.2) := fun j hj => (bend j hj).sub (bbh j hj)
      unfold optD stepD nextS
      refine sr_ret (ed_tup (ds := [_, _]) (ea_cons ?_ (ea_cons ?_ ea_nil)) (by show 2 ≤ 100000; decide))
      · exact ed_call (ea_cons (ed_call (ea_cons (ed_var rfl) (ea_cons (ed_call (ea_cons (ed_var rfl) (ea_cons (ed_var rfl) ea_nil)) ⟨q + 1, 400, 1633, ended st.2, lowV c (q + 1) st.1, rfl, bend, blow, by decide, by omega, rfl⟩) ea_nil)) ⟨q + 1, 400, 2033, begun (q + 1) st.1, fun j => ended st.2 j * lowV c (q + 1) st.1, rfl, bbeg, bel, by decide, by omega, rfl⟩) (ea_cons (ed_var rfl) ea_nil))
          ⟨q + 1, 2434, 3268, fun j => begun (q + 1) st.1 j - ended st.2 j * lowV c (q + 1) st.1, 1 / restV c (q + 1) st, rfl, bbel, binv, by decide, by omega, rfl⟩
      · exact ed_call (ea_cons (ed_call (ea_cons (ed_var rfl) (ea_cons (ed_call (ea_cons (ed_var rfl) (ea_cons (ed_var rfl) ea_nil)) ⟨q + 1, 400, 1633, begun (q + 1) st.1, highV c (q + 1) st.2, rfl, bbeg, bhigh, by decide, by omega, rfl⟩) ea_nil)) ⟨q + 1, 400, 2033, ended st.2, fun j => begun (q + 1) st.1 j * highV c (q + 1) st.2, rfl, bend, bbh, by decide, by omega, rfl⟩) (ea_cons (ed_var rfl) ea_nil))
          ⟨q + 1, 2434, 3268, fun j => ended st.2 j - begun (q + 1) st.1 j * highV c (q + 1) st.2, 1 / restV c (q + 1) st, rfl, bebh, binv, by decide, by omega, rfl⟩⟩)
abbrev N_steps_by : List Str := ["slants", "found", "size", "part", "step"]
theorem sc_steps_by : FnScope N_steps_by ["slants"] (defScope (top 54)) := ⟨rfl, rfl, rfl, by decide +kernel, rfl, by decide +kernel, by decide +kernel⟩

def R_steps_by : List PyData → PyData → Prop := fun ds d => ∃ n s, Sl s n ∧ ds = [slD n s] ∧ d = .list (stepsD s n (many s n))
theorem f_steps_by (W : Wd K mg) : Fnc P w K mg base "steps_by" 7 ["slants"] (spD K R_steps_by) (He.ga K "steps_by") :=
  mk_d W 40 sc_steps_by (fun _ _ _ _ _ _ us hl => match us, hl with | [_], _ => rfl) (fun ds d h => by obtain ⟨n, s, _, rfl, _⟩ := h; exact ⟨rfl, Nat.le_of_ble_eq_true rfl⟩) (fun cdv A outer s0 H E hr => ⟨_, (pss_cons (ps_set (i := 1) sc_steps_by.nd rfl (.inl rfl) (pe_lst pa_nil))
    (pss_cons (ps_for PassesOwn.never rfl (pi_range2 (by rfl) W.n_range (pa_cons pe_int (pa_cons (pe_op op_add (pe_fn (f_size_of W) hr (pa_cons (pv 0) pa_nil)) pe_int) pa_nil))) (pg_name (i := 2) sc_steps_by.nd rfl (.inl rfl))
      (pss_cons (ps_set (i := 3) sc_steps_by.nd rfl (.inl rfl) (pe_fn (f_cornered W) hr (pa_cons (pv 0) (pa_cons (pv 2) pa_nil))))
      (pss_cons (ps_set (i := 4) sc_steps_by.nd rfl (.inl rfl) (pe_ifExp (pt_cmpR op_eq (pv 2) pe_int (nomark _)) (pe_fn (f_first_steps W) hr (pa_cons (pv 3) pa_nil)) (pe_fn (f_stepped W) hr (pa_cons (pv 3) (pa_cons (pe_ix (ixL K) (pv 1) (pe_un un_neg pe_int) (fun _ _ => rfl)) pa_nil)))))
      (pss_cons (ps_if (pt_cmpR op_isN (pv 4) pe_non (nomark _)) (pss_one (ps_ret (pv 1))) pss_nil)
      (pss_one (ps_expr (pe_bm PySem.F.plainAttrs_list PySem.F.slot_list_append PySem.F.type_list_append mt_append (pv 1) (pa_cons (pv 4) pa_nil))))))))
    (pss_one (ps_ret (pv 1))))), fun ds d hR => by
    obtain ⟨n, s, hS, rfl, rfl⟩ := hR
    have h1 := hS.1
    have h5 := hS.2.1
    intro σ H0 D g q
    obtain ⟨v0, t0, d0⟩ := g.at_ 0 _ rfl
    have hl : σ.length = 5 := g.len
    refine q_setL (el_lst ea_nil (by decide)) g fun fl ws H1 hfl e1 hfl1 hdf => ?_
    have l1 := sgl (i := 1) (y := some (V.ref fl)) hl
    have s0' := sgn (k := 1) (y := some (V.ref fl)) t0 (by decide)
    have s1 := sgs (i := 1) (y := some (V.ref fl)) hl (by decide)
    generalize σ.set 1 (some (V.ref fl)) = σ1 at *
    refine for_rng2 (n := n) (lo := 1) (hi := (n : Int) + 1) (ea_cons ed_int (ea_cons (ed_I0 (g := fun i j => i + j) (ed_call (ea_cons (ed_var (k := 0) rfl) ea_nil) ⟨n, s, h1, rfl, rfl⟩) ed_int) ea_nil)) (by omega) (by omega) ((sg_none l1).know s0' (dp_ex e1 _ _ d0))
      (fun i σ' H' => σ'.length = 5 ∧ σ'[0]? = some (some v0) ∧ σ'[1]? = some (some (.ref fl)) ∧ Ex H0 H' ∧ (∀ l, l < i → (stepA s n l).isSome = true) ∧ Lst K H' fl (stepsD s n i)) ?_ ?_ ?_
    · intro H2 e2
      exact ⟨l1, s0', s1, e1.trans e2, fun l hl => by omega, ⟨ws, e2 _ _ hfl1, dpa_ex e2 _ _ hdf⟩⟩
    · rintro i σ' H' hi ⟨m0, m1, m2, m3, m4, m5⟩
      have ei : (1 : Int) + (i : Int) = ((i + 1 : Nat) : Int) := by omega
      rw [ei]
      show tSeq _ _ _ _ _
      have n0 := sgl (i := 2) (y := some (V.int ((i + 1 : Nat) : Int))) m0
      have n1 := sgn (k := 2) (y := some (V.int ((i + 1 : Nat) : Int))) m1 (by decide)
      have n2 := sgn (k := 2) (y := some (V.int ((i + 1 : Nat) : Int))) m2 (by decide)
      have n3 := sgs (i := 2) (y := some (V.int ((i + 1 : Nat) : Int))) m0 (by decide)
      generalize σ'.set 2 (some (V.int ((i + 1 : Nat) : Int))) = σ2 at *
      refine q_set (ed_call (ea_cons (ed_var (k := 0) rfl) (ea_cons (ed_var (k := 2) rfl) ea_nil)) ⟨n, i + 1, s, by omega, by omega, rfl, rfl⟩) (((sg_none n0).know n1 (dp_ex m3 _ _ d0)).know n3 (.int _)) fun vp H3 e3 hvp => ?_
      have o0 := sgl (i := 3) (y := some vp) n0
      have o1 := sgn (k := 3) (y := some vp) n1 (by decide)
      have o2 := sgn (k := 3) (y := some vp) n2 (by decide)
      have o3 := sgn (k := 3) (y := some vp) n3 (by decide)
      have o4 := sgs (i := 3) (y := some vp) n0 (by decide)
      generalize σ2.set 3 (some vp) = σ3 at *
      have m53 := m5.exx e3
      have g3 := (((sg_none (K := K) (H := H3) o0).know o2 m53.dp).know o3 (.int ((i + 1 : Nat) : Int))).know o4 hvp
      have hSc := cor_sl hS (k := i + 1) (by omega) (by omega)
      refine q_set (d := optD (i + 1) (stepA s n i)) ?_ g3 fun vs H4 e4 hvs => ?_
      · cases i with
        | zero => exact ed_if (b := true) ((et_test (ed_eqI (ed_var rfl) ed_int)).to (by decide)) (fun _ => ed_call (ea_cons (ed_var rfl) ea_nil) ⟨cor s n 1, hSc, rfl, rfl⟩) (fun z => by cases z)
        | succ i =>
          obtain ⟨st, hst⟩ := Option.isSome_iff_exists.mp (m4 i (by omega))
          refine ed_if (b := false) ((et_test (ed_eqI (ed_var rfl) ed_int)).to (decide_eq_false (by omega))) (fun z => by cases z) fun _ => ?_
          have e : optD (i + 1 + 1) (stepA s n (i + 1)) = optD (i + 1 + 1) (stepF (cor s n (i + 1 + 1)) (i + 1 + 1) st) := by
            show optD _ ((stepA s n i).bind (stepF (cor s n (i + 2)) (i + 2))) = _
            rw [hst]
            rfl
          rw [e]
          have e2 : stepsD s n (i + 1) = stepsD s n i ++ [stepD (i + 1) st] := by
            unfold stepsD
            rw [rng_snoc, hst]
            rfl
          refine ed_call (ea_cons (ed_var rfl) (ea_cons (ed_lastL (ds := stepsD s n i) (d := stepD (i + 1) st) ((ed_var rfl).to (by rw [e2])) (ed_neg ed_int)) ea_nil)) ⟨i + 1, cor s n (i + 1 + 1), st, by omega, hSc, fun j hj => stepA_bd hS (by omega) hst j hj, rfl, rfl⟩
      · have p0 := sgl (i := 4) (y := some vs) o0
        have p1 := sgn (k := 4) (y := some vs) o1 (by decide)
        have p2 := sgn (k := 4) (y := some vs) o2 (by decide)
        have p3 := sgs (i := 4) (y := some vs) o0 (by decide)
        generalize σ3.set 4 (some vs) = σ4 at *
        have m54 := m53.exx e4
        have g4 := ((sg_none (K := K) (H := H4) p0).know p2 m54.dp).know p3 hvs
        have ex4 := (m3.trans e3).trans e4
        show tIfS _ _ _ { D with nx := _, ct := _, bk := _ } _ _
        cases hst : stepA s n i with
        | none =>
          rw [hst] at g4
          refine st_ifT (et_test (ed_isN (d := .none) (ed_var (k := 4) rfl) rfl)) g4 fun H5 e5 => ?_
          have hm : many s n = i := many_at hi m4 hst
          rw [hm] at q
          exact sr_ret (ed_var (k := 1) rfl) σ4 H5 { D with nx := _, ct := _, bk := _ } (g4.ex e5) fun v H6 e6 hv => q v H6 ((ex4.trans e5).trans e6) hv
        | some st =>
          rw [hst] at g4
          refine st_ifF (et_test (ed_isN (d := stepD (i + 1) st) (ed_var (k := 4) rfl) rfl)) g4 fun H5 e5 => ?_
          refine st_app (l := fl) (d := stepD (i + 1) st) (g4.ex e5) p2 (m54.exx e5) (ed_var (k := 4) rfl) (by rw [show (stepsD s n i).length = i from rng_len]; omega) (stepsD_no _ _ _) (noL_step _ _) fun H6 y6 L6 => ?_
          refine ⟨p0, p1, p2, y6.ex0 (ex4.trans e5) hfl, fun l hl => ?_, ?_⟩
          · by_cases z : l = i
            · rw [z, hst]; rfl
            · exact m4 l (by omega)
          · have e2 : stepsD s n (i + 1) = stepsD s n i ++ [stepD (i + 1) st] := by
              unfold stepsD
              rw [rng_snoc, hst]
              rfl
            rw [e2]
            exact L6
    · rintro σ' H' ⟨m0, m1, m2, m3, m4, m5⟩
      have hm : many s n = n := runs_all m4
      rw [hm] at q
      exact sr_ret (ed_var (k := 1) rfl) σ' H' D ((sg_none (K := K) (H := H') m0).know m2 m5.dp) fun v H6 e6 hv => q v H6 (m3.trans e6) hv⟩)
abbrev N_weak_of : List Str := ["slants", "many"]
theorem sc_weak_of : FnScope N_weak_of ["slants"] (defScope (top 55)) := ⟨rfl, rfl, rfl, by decide +kernel, rfl, by decide +kernel, by decide +kernel⟩

def weakD (s : Nat → Int) (n : Nat) : PyData := if many s n = n then .none else .int ((many s n + 1 : Nat) : Int)
def R_weak : List PyData → PyData → Prop := fun ds d => ∃ n s, Sl s n ∧ ds = [slD n s] ∧ d = weakD s n
theorem f_weak_of (W : Wd K mg) : Fnc P w K mg base "weak_of" 8 ["slants"] (spD K R_weak) (He.ga K "weak_of") :=
  mk_d W 41 sc_weak_of (fun _ _ _ _ _ _ us hl => match us, hl with | [_], _ => rfl) (fun ds d h => by obtain ⟨n, s, _, rfl, _⟩ := h; exact ⟨rfl, Nat.le_of_ble_eq_true rfl⟩) (fun cdv A outer s0 H E hr => ⟨_, (pss_cons (ps_set (i := 1) sc_weak_of.nd rfl (.inl rfl) (pe_callB (clLen K) (by rfl) W.n_len (by decide +kernel) (pa_cons (pe_fn (f_steps_by W) hr (pa_cons (pv 0) pa_nil)) pa_nil)))
    (pss_cons (ps_if (pt_cmpR op_eq (pv 1) (pe_fn (f_size_of W) hr (pa_cons (pv 0) pa_nil)) (nomark _)) (pss_one (ps_ret pe_non)) pss_nil)
    (pss_one (ps_ret (pe_op op_add (pv 1) pe_int))))), fun ds d hR => by
    obtain ⟨n, s, hS, rfl, rfl⟩ := hR
    refine sr_seq (sf_set (d := .int (many s n : Int)) ((ed_lenL (ds := stepsD s n (many s n)) (ed_call (ea_cons (ed_var rfl) ea_nil) ⟨n, s, hS, rfl, rfl⟩)).to (by rw [show (stepsD s n (many s n)).length = many s n from rng_len]))) ?_
    unfold weakD
    by_cases h : many s n = n
    · rw [if_pos h]
      exact sr_now (sr_ifT ((et_test (ed_eqI (ed_var rfl) (ed_call (ea_cons (ed_var rfl) ea_nil) ⟨n, s, hS.1, rfl, rfl⟩))).to (decide_eq_true (by omega))) (sr_ret ed_non))
    · rw [if_neg h]
      exact sr_seq (sf_ifF ((et_test (ed_eqI (ed_var rfl) (ed_call (ea_cons (ed_var rfl) ea_nil) ⟨n, s, hS.1, rfl, rfl⟩))).to (decide_eq_false (by omega))) sf_next) (sr_ret ((ed_I0 (g := fun i j => i + j) (ed_var rfl) ed_int).to (congrArg PyData.int (by omega))))⟩)
abbrev N_first_weak : List Str := ["slants"]
theorem sc_first_weak : FnScope N_first_weak ["slants"] (defScope (top 56)) := ⟨rfl, rfl, rfl, by decide +kernel, rfl, by decide +kernel, by decide +kernel⟩

theorem f_first_weak (W : Wd K mg) : Fnc P w K mg base "first_weak" 9 ["slants"] (spD K R_weak) (He.ga K "first_weak") :=
  mk_d W 42 sc_first_weak (fun _ _ _ _ _ _ us hl => match us, hl with | [_], _ => rfl) (fun ds d h => by obtain ⟨n, s, _, rfl, _⟩ := h; exact ⟨rfl, Nat.le_of_ble_eq_true rfl⟩) (fun cdv A outer s0 H E hr => ⟨_, (pss_cons (ps_expr (pe_fn (f_check_slants W) hr (pa_cons (pv 0) pa_nil)))
    (pss_one (ps_ret (pe_fn (f_weak_of W) hr (pa_cons (pv 0) pa_nil))))), fun ds d hR => by
    obtain ⟨n, s, hS, rfl, rfl⟩ := hR
    exact sr_seq (sf_drop (ed_call (ea_cons (ed_var rfl) ea_nil) ⟨⟨n, s, hS, rfl⟩, rfl⟩)) (sr_ret (ed_call (ea_cons (ed_var rfl) ea_nil) ⟨n, s, hS, rfl, rfl⟩))⟩)
abbrev N_check_strong : List Str := ["slants", "weak"]
theorem sc_check_strong : FnScope N_check_strong ["slants"] (defScope (top 57)) := ⟨rfl, rfl, rfl, by decide +kernel, rfl, by decide +kernel, by decide +kernel⟩

def R_strong : List PyData → Prop := fun ds => ∃ n s, Sl s n ∧ many s n = n ∧ ds = [slD n s]
theorem f_check_strong (W : Wd K mg) : Fnc P w K mg base "check_strong" 9 ["slants"] (spD K fun ds d => R_strong ds ∧ d = .none) (He.ga K "check_strong") :=
  mk_n W 43 sc_check_strong (fun _ _ _ _ _ _ us hl => match us, hl with | [_], _ => rfl) (fun ds h => by obtain ⟨n, s, _, _, rfl⟩ := h; exact ⟨rfl, Nat.le_of_ble_eq_true rfl⟩) (fun cdv A outer s0 H E hr => ⟨_, (pss_cons (ps_expr (pe_fn (f_check_slants W) hr (pa_cons (pv 0) pa_nil)))
    (pss_cons (ps_set (i := 1) sc_check_strong.nd rfl (.inl rfl) (pe_fn (f_weak_of W) hr (pa_cons (pv 0) pa_nil)))
    (pss_one (ps_if (pt_cmpR op_notN (pv 1) pe_non (nomark _)) (pss_one ps_never) pss_nil)))), fun ds hR => by
    obtain ⟨n, s, hS, hm, rfl⟩ := hR
    have e : weakD s n = .none := if_pos hm
    exact ⟨_, sf_seq (sf_drop (ed_call (ea_cons (ed_var rfl) ea_nil) ⟨⟨n, s, hS, rfl⟩, rfl⟩)) (sf_seq (sf_set (d := .none) (ed_call (ea_cons (ed_var rfl) ea_nil) ⟨n, s, hS, rfl, e.symm⟩)) (sf_ifF (et_test (ed_notN (b := true) (d := .none) (ed_var rfl) rfl)) sf_next))⟩⟩)
abbrev N_steps_of : List Str := ["slants"]
theorem sc_steps_of : FnScope N_steps_of ["slants"] (defScope (top 58)) := ⟨rfl, rfl, rfl, by decide +kernel, rfl, by decide +kernel, by decide +kernel⟩

def R_steps_of : List PyData → PyData → Prop := fun ds d => ∃ n s, Sl s n ∧ many s n = n ∧ ds = [slD n s] ∧ d = .list (stepsD s n n)
theorem f_steps_of (W : Wd K mg) : Fnc P w K mg base "steps_of" 10 ["slants"] (spD K R_steps_of) (He.ga K "steps_of") :=
  mk_d W 44 sc_steps_of (fun _ _ _ _ _ _ us hl => match us, hl with | [_], _ => rfl) (fun ds d h => by obtain ⟨n, s, _, _, rfl, _⟩ := h; exact ⟨rfl, Nat.le_of_ble_eq_true rfl⟩) (fun cdv A outer s0 H E hr => ⟨_, (pss_cons (ps_expr (pe_fn (f_check_strong W) hr (pa_cons (pv 0) pa_nil)))
    (pss_one (ps_ret (pe_fn (f_steps_by W) hr (pa_cons (pv 0) pa_nil))))), fun ds d hR => by
    obtain ⟨n, s, hS, hm, rfl, rfl⟩ := hR
    exact sr_seq (sf_drop (ed_call (ea_cons (ed_var rfl) ea_nil) ⟨⟨n, s, hS, hm, rfl⟩, rfl⟩)) (sr_ret (ed_call (ea_cons (ed_var rfl) ea_nil) ⟨n, s, hS, rfl, by rw [hm]⟩))⟩)
end
end K35
/-! The law's own small defs walked. -/
namespace K35
open PySem PySem.Spec PyProof.Rows L2 Evl
section
variable {P : Program} {w : World} {K : PySem.W.Frag} {mg : Str → Option Value} {base : Heap}
abbrev N__law_cell_at : List Str := ["_law_script", "_law_k"]
theorem sc__law_cell_at : FnScope N__law_cell_at ["_law_script", "_law_k"] (defScope (top 60)) := ⟨rfl, rfl, rfl, by decide +kernel, rfl, by decide +kernel, by decide +kernel⟩

def R_cell_at : List PyData → PyData → Prop := fun ds d => ∃ zs : List Int, ds = [.list (zs.map PyData.int), .int 0] ∧ d = .int (zs.getD 0 0)
theorem f_law_cell_at (W : Wd K mg) : Fnc P w K mg base "_law_cell_at" 1 ["_law_script", "_law_k"] (spD K R_cell_at) (He.ga K "_law_cell_at") :=
  mk_d W 45 sc__law_cell_at (fun _ _ _ _ _ _ us hl => match us, hl with | [_, _], _ => rfl) (fun ds d h => by obtain ⟨n, rfl, _⟩ := h; exact ⟨rfl, Nat.le_of_ble_eq_true rfl⟩) (fun cdv A outer s0 H E hr => ⟨_, (pss_cons (ps_if (pt_cmpR op_lt (pv 1) (pe_callB (clLen K) (by rfl) W.n_len (by decide +kernel) (pa_cons (pv 0) pa_nil)) (nomark _)) (pss_one (ps_ret (pe_ix (ixL K) (pv 0) (pv 1) (fun _ _ => rfl)))) pss_nil)
    (pss_one (ps_ret pe_int))), fun ds d hR => by
    obtain ⟨zs, rfl, rfl⟩ := hR
    cases zs with
    | nil => exact sr_seq (sf_ifF ((et_test (ed_B0 (g := fun i j => decide (i < j)) (ed_var rfl) (ed_lenL (ds := []) (ed_var rfl)))).to rfl) sf_next) (sr_ret ed_int)
    | cons z zs => exact sr_now (sr_ifT ((et_test (ed_B0 (g := fun i j => decide (i < j)) (ed_var rfl) (ed_lenL (ds := (z :: zs).map PyData.int) (ed_var rfl)))).to (decide_eq_true (by rw [List.length_map, List.length_cons]; omega))) (sr_ret (ed_ixL (n := 0) (ds := (z :: zs).map PyData.int) (ed_var rfl) (ed_var rfl) rfl rfl)))⟩)
abbrev N__law_next : List Str := ["_law_seed"]
theorem sc__law_next : FnScope N__law_next ["_law_seed"] (defScope (top 61)) := ⟨rfl, rfl, rfl, by decide +kernel, rfl, by decide +kernel, by decide +kernel⟩

def nextI (x : Int) : Int := ((x + 7919).fmod 2147483647 * (x + 7919).fmod 2147483647 + 48271 * (x + 7919).fmod 2147483647 + 12345).fmod 2147483629
def R_next : List PyData → PyData → Prop := fun ds d => ∃ x : Int, ds = [.int x] ∧ d = .int (nextI x)
theorem f_law_next (W : Wd K mg) : Fnc P w K mg base "_law_next" 1 ["_law_seed"] (spD K R_next) (He.ga K "_law_next") :=
  mk_d W 46 sc__law_next (fun _ _ _ _ _ _ us hl => match us, hl with | [_], _ => rfl) (fun ds d h => by obtain ⟨n, rfl, _⟩ := h; exact ⟨rfl, Nat.le_of_ble_eq_true rfl⟩) (fun cdv A outer s0 H E hr => ⟨_, (pss_cons (ps_set (i := 0) sc__law_next.nd rfl (.inl rfl) (pe_op op_modN (pe_op op_add (pv 0) pe_int) pe_int))
    (pss_one (ps_ret (pe_op op_modN (pe_op op_add (pe_op op_add (pe_op op_mulW (pv 0) (pv 0)) (pe_op op_mulW pe_int (pv 0))) pe_int) pe_int)))), fun ds d hR => by
    obtain ⟨x, rfl, rfl⟩ := hR
    have b0 : 0 ≤ (x + 7919).fmod 2147483647 := Int.fmod_nonneg_of_pos _ (by decide)
    have b1 : (x + 7919).fmod 2147483647 < 2147483647 := Int.fmod_lt_of_pos _ (by decide)
    refine sr_seq (sf_set (ed_I (g := Int.fmod) (ed_I0 (g := fun i j => i + j) (ed_var rfl) ed_int) ed_int (by decide))) ?_
    unfold nextI
    generalize (x + 7919).fmod 2147483647 = y at *
    have by1 : y.natAbs < 2 ^ 31 := by omega
    exact sr_ret (ed_I (g := Int.fmod) (ed_I0 (g := fun i j => i + j) (ed_I0 (g := fun i j => i + j) (ed_I (g := fun i j => i * j) (ed_var rfl) (ed_var rfl) (wide_mul (a := 31) (b := 31) by1 by1 (by decide) (by decide) (by decide))) (ed_I (g := fun i j => i * j) ed_int (ed_var rfl) (wide_mul (a := 16) (b := 31) (by decide) by1 (by decide) (by decide) (by decide)))) ed_int) ed_int (by decide))⟩)
abbrev N__law_pen_of : List Str := ["_law_cell", "_law_left"]
theorem sc__law_pen_of : FnScope N__law_pen_of ["_law_cell"] (defScope (top 62)) := ⟨rfl, rfl, rfl, by decide +kernel, rfl, by decide +kernel, by decide +kernel⟩

def penV (x : Int) : List PyData := [.int (if 0 - x > x then 0 - x else x), .int (if decide (10 ^ 18 ≤ (if 0 - x > x then 0 - x else x)) then 1 else 0), .int ((if 0 - x > x then 0 - x else x).fmod 1000003)]
def R_pen_of : List PyData → List PyData → Prop := fun ds es => ∃ x : Int, ds = [.int x] ∧ es = penV x
theorem f_law_pen_of (W : Wd K mg) : Fnc P w K mg base "_law_pen_of" 1 ["_law_cell"] (spL K R_pen_of) (He.ga K "_law_pen_of") :=
  mk_fn W 47 sc__law_pen_of (fun _ _ _ _ _ _ us hl => match us, hl with | [_], _ => rfl) (fun vs H Q E h => by obtain ⟨ds, es, ⟨x, rfl, _⟩, ha, _⟩ := h; rw [ha.len]; rfl) (fun cdv A outer s0 H E hr => ⟨_, (pss_cons (ps_set (i := 1) sc__law_pen_of.nd rfl (.inl rfl) (pe_callB (call_max2 rfl) (by rfl) W.n_max (by decide +kernel) (pa_cons (pv 0) (pa_cons (pe_op op_sub pe_int (pv 0)) pa_nil))))
    (pss_one (ps_ret (pe_lst (pa_cons (pv 1) (pa_cons (pe_callTy call_int1 (by rfl) W.n_int (by decide +kernel) (pa_cons (pe_cmpR op_ge (pv 1) (pe_op op_pow pe_int pe_int) (nomark _)) pa_nil)) (pa_cons (pe_op op_modN (pv 1) pe_int) pa_nil))))))), fun vs Q h => by
    obtain ⟨ds, es, ⟨x, rfl, rfl⟩, ha, q⟩ := h
    have g := sg_start (N := N__law_pen_of) ha (Nat.le_of_ble_eq_true rfl)
    refine sf_set (ed_max2 (ed_var rfl) (ed_I0 (g := fun i j => i - j) ed_int (ed_var rfl))) _ H { nx := _, rt := Q } g fun σ' H2 e2 g2 => ?_
    unfold penV at q
    generalize (if 0 - x > x then 0 - x else x) = y at *
    refine (el_lst (ea_cons (ed_var rfl) (ea_cons (ed_intB (ed_B0 (g := fun i j => decide (i ≥ j)) (ed_var rfl) (ed_I (g := fun i j => i ^ j.toNat) ed_int ed_int (by unfold CPow; decide)))) (ea_cons (ed_I (g := Int.fmod) (ed_var rfl) ed_int (by decide)) ea_nil))) (by show 3 ≤ 100000; decide)) σ' H2 g2 Q fun p vs H3 hp e3 hl hd => q p vs H3 (fresh_back e2 hp) (e2.trans e3) hl hd⟩)
end
/-! the pen: a list of three numbers, which draws change -/
def PenL (H : Hp) (l : Addr) : Prop := ∃ a b c : Int, H l = some (.lst [.int a, .int b, .int c])
theorem PenL.ex {H H' : Hp} {l : Addr} (h : PenL H l) (e : Ex H H') : PenL H' l := by
  obtain ⟨a, b, c, h⟩ := h
  exact ⟨a, b, c, e _ _ h⟩
theorem PenL.ne {H : Hp} {l p : Addr} (h : PenL H l) (hp : H p = none) : l ≠ p := fun z => by
  obtain ⟨a, b, c, h⟩ := h
  rw [z, hp] at h
  cases h
theorem PenL.tx {H H' : Hp} {l : Addr} (h : PenL H l) (e : Eb l H H') : Tx H H' := by
  obtain ⟨a, b, c, h⟩ := h
  exact e.tx h
section
variable {K : PySem.W.Frag}
theorem PenL.lst {H : Hp} {l : Addr} (h : PenL H l) : ∃ a b c : Int, Lst K H l [.int a, .int b, .int c] := by
  obtain ⟨a, b, c, h⟩ := h
  exact ⟨a, b, c, _, h, .cons (.int a) (.cons (.int b) (.cons (.int c) .nil))⟩
theorem _root_.K35.Lst.pen {H : Hp} {l : Addr} {a b c : Int} (h : Lst K H l [.int a, .int b, .int c]) : PenL H l := by
  obtain ⟨vs, h1, h2⟩ := h
  cases h2 with
  | cons x1 h2 =>
    obtain ⟨v, w, rfl, x2, x3⟩ := dpa2 h2
    rw [dp_int x1, dp_int x2, dp_int x3] at h1
    exact ⟨a, b, c, h1⟩
def spDraw : Sp := fun vs H Q _ => ∃ (l : Addr) (m : Int), vs = [.ref l, .int m] ∧ 0 < m ∧ m < 2 ^ 20 ∧ PenL H l ∧ ∀ r H', Eb l H H' → PenL H' l → 0 ≤ r → r < m → Q (.int r) H'
theorem t_draw {σ : L2.St} {H : Hp} {Γ : Ga} {l : Addr} {k : Nat} {te : TE} {m : Int} {Q : VK} {E : XK} (hk : σ[k]? = some (some (.ref l))) (L : PenL H l) (g : Sg K H σ Γ) (he : ED K te Γ (.int m)) (hm : 0 < m ∧ m < 2 ^ 20)
    (q : ∀ r H', Eb l H H' → PenL H' l → 0 ≤ r → r < m → Q (.int r) H') : tCall spDraw [] E (tCons (tVar k) (tCons te tNil)) σ H Q :=
  ⟨.ref l, hk, he σ H g _ fun v H1 e1 hv => ⟨l, m, by rw [dp_int hv]; rfl, hm.1, hm.2, L.ex e1, fun r H2 y pl h0 h1 => q r H2 ((Eb.ex e1).trans y) pl h0 h1⟩⟩
end
section
variable {P : Program} {w : World} {K : PySem.W.Frag} {mg : Str → Option Value} {base : Heap}
abbrev N__law_draw : List Str := ["_law_pen", "_law_many", "_law_found"]
theorem sc__law_draw : FnScope N__law_draw ["_law_pen", "_law_many"] (defScope (top 63)) := ⟨rfl, rfl, rfl, by decide +kernel, rfl, by decide +kernel, by decide +kernel⟩

theorem f_law_draw (W : Wd K mg) : Fnc P w K mg base "_law_draw" 2 ["_law_pen", "_law_many"] spDraw (He.ga K "_law_draw") :=
  mk_fn W 48 sc__law_draw (fun _ _ _ _ _ _ us hl => match us, hl with | [_, _], _ => rfl) (fun vs H Q E h => by obtain ⟨l, m, rfl, _⟩ := h; rfl) (fun cdv A outer s0 H0 E hr => ⟨_, (pss_cons (ps_if (pt_cmpR op_eq (pe_ix (ixL K) (pv 0) pe_int (fun _ _ => rfl)) pe_int (nomark _)) (pss_cons (ps_set (i := 2) sc__law_draw.nd rfl (.inl rfl) (pe_op op_modN (pe_ix (ixL K) (pv 0) pe_int (fun _ _ => rfl)) (pv 1)))
      (pss_cons (ps_asg (pe_op op_fdivZ (pe_ix (ixL K) (pv 0) pe_int (fun _ _ => rfl)) (pv 1)) (pg_sub (pv 0) pe_int set_list))
      (pss_one (ps_ret (pv 2))))) pss_nil)
    (pss_cons (ps_asg (pe_fn (f_law_next W) hr (pa_cons (pe_op op_add (pe_fn (f_law_next W) hr (pa_cons (pe_ix (ixL K) (pv 0) pe_int (fun _ _ => rfl)) pa_nil)) pe_int) pa_nil)) (pg_sub (pv 0) pe_int set_list))
    (pss_one (ps_ret (pe_op op_modN (pe_op op_fdivZ (pe_ix (ixL K) (pv 0) pe_int (fun _ _ => rfl)) pe_int) (pv 1)))))), fun vs Q h => by
    obtain ⟨l, m, rfl, m0, m1, L, q⟩ := h
    obtain ⟨a, b, c, L⟩ := L.lst (K := K)
    have s0 : (start N__law_draw [V.ref l, .int m])[0]? = some (some (.ref l)) := rfl
    have s1 : (start N__law_draw [V.ref l, .int m])[1]? = some (some (.int m)) := rfl
    have hl : (start N__law_draw [V.ref l, .int m]).length = 3 := rfl
    generalize start N__law_draw [V.ref l, .int m] = σ at *
    have dz : ∀ x, DivZ x m := fun x => ⟨by omega, Nat.lt_of_lt_of_le (PySem.Flt.log2_lt_of (n := m.natAbs) (k := 20) (by decide) (by omega)) (by decide)⟩
    have g := ((sg_none (K := K) (H := H0) hl).know s0 L.dp).know s1 (.int m)
    have hc : ET K (tTest (tOp rEq (tOp (rIxL K) (tVar 0) (tC (.int 1))) (tC (.int 1)))) (((List.replicate 3 none).set 0 (some (PyData.list [.int a, .int b, .int c]))).set 1 (some (.int m))) (decide (b = 1)) := et_test (ed_eqI (ed_ixL (n := 1) (ed_var rfl) ed_int rfl rfl) ed_int)
    by_cases hb : b = 1
    · rw [decide_eq_true hb] at hc
      refine st_ifT (D := { nx := _, rt := Q }) hc g fun H1 e1 => ?_
      refine q_set (ed_I (g := Int.fmod) (ed_ixL (n := 0) (ed_var rfl) ed_int rfl rfl) (ed_var (k := 1) rfl) (by omega)) (g.ex e1) fun v H2 e2 hv => ?_
      have hv := dp_int hv
      subst hv
      have l1 := sgl (i := 2) (y := some (V.int (a.fmod m))) hl
      have t0 := sgn (k := 2) (y := some (V.int (a.fmod m))) s0 (by decide)
      have t1 := sgn (k := 2) (y := some (V.int (a.fmod m))) s1 (by decide)
      have t2 := sgs (i := 2) (y := some (V.int (a.fmod m))) hl (by decide)
      generalize σ.set 2 (some (V.int (a.fmod m))) = σ1 at *
      have L2 := L.exx (e1.trans e2)
      refine q_put (l := l) (j := 0) (d := .int (a.fdiv m)) (((sg_none (K := K) (H := H2) l1).know t0 L2.dp).know t1 (.int m)) t0 L2 (ed_I (g := Int.fdiv) (ed_ixL (n := 0) (ed_var rfl) ed_int rfl rfl) (ed_var (k := 1) rfl) (dz a)) ed_int rfl (by show 0 < 3; decide) rfl rfl fun H3 y3 L3 => ?_
      exact ⟨_, t2, q _ H3 ((Eb.ex (e1.trans e2)).trans y3) (Lst.pen (K := K) (a := a.fdiv m) (b := b) (c := c) L3) (Int.fmod_nonneg_of_pos _ m0) (Int.fmod_lt_of_pos _ m0)⟩
    · rw [decide_eq_false hb] at hc
      refine st_ifF (D := { nx := _, rt := Q }) hc g fun H1 e1 => ?_
      have L1 := L.exx e1
      refine q_put (l := l) (j := 2) (d := .int (nextI (nextI c + 7))) (g.ex e1) s0 L1 (ed_call (ea_cons (ed_I0 (g := fun i j => i + j) (ed_call (ea_cons (ed_ixL (n := 2) (ed_var rfl) ed_int rfl rfl) ea_nil) ⟨c, rfl, rfl⟩) ed_int) ea_nil) ⟨_, rfl, rfl⟩) ed_int rfl (by show 2 < 3; decide) rfl rfl fun H3 y3 L3 => ?_
      have L3 : Lst K H3 l [.int a, .int b, .int (nextI (nextI c + 7))] := L3
      have g3 := ((sg_none (K := K) (H := H3) hl).know s0 L3.dp).know s1 (.int m)
      refine (ed_I (g := Int.fmod) (ed_I (g := Int.fdiv) (ed_ixL (n := 2) (ed_var rfl) ed_int rfl rfl) ed_int ⟨by decide, by decide +kernel⟩) (ed_var (k := 1) rfl) (by omega)) σ H3 g3 Q fun v H4 e4 hv => ?_
      rw [dp_int hv]
      exact q _ H4 ((Eb.ex e1).trans (y3.trans (Eb.ex e4))) ((Lst.pen L3).ex e4) (Int.fmod_nonneg_of_pos _ m0) (Int.fmod_lt_of_pos _ m0)⟩)
abbrev N__law_share : List Str := ["_law_top", "_law_bottom", "_law_one", "_law_other"]
theorem sc__law_share : FnScope N__law_share ["_law_top", "_law_bottom"] (defScope (top 64)) := ⟨rfl, rfl, rfl, by decide +kernel, rfl, by decide +kernel, by decide +kernel⟩

theorem f_law_share (W : Wd K mg) : Fnc P w K mg base "_law_share" 1 ["_law_top", "_law_bottom"] (spD K R_share) (He.ga K "_law_share") :=
  mk_d W 49 sc__law_share (fun _ _ _ _ _ _ us hl => match us, hl with | [_, _], _ => rfl) (fun ds d h => by obtain ⟨t, b, rfl, _⟩ := h; exact ⟨rfl, Nat.le_of_ble_eq_true rfl⟩) (fun cdv A outer s H E hr => ⟨_, (pss_cons (ps_par (i := 2) (j := 3) (by rfl) sc__law_share.nd rfl rfl (by decide) rfl rfl (pa_cons (pe_callB call_abs (by rfl) W.n_abs (by decide +kernel) (pa_cons (pv 0) pa_nil)) (pa_cons (pe_callB call_abs (by rfl) W.n_abs (by decide +kernel) (pa_cons (pv 1) pa_nil)) pa_nil)) (by rfl))
    (pss_cons (ps_while PassesOwn.never (pt_cmpR op_ne (pv 3) pe_int (nomark _))
      (pss_one (ps_par (i := 2) (j := 3) (by rfl) sc__law_share.nd rfl rfl (by decide) rfl rfl (pa_cons (pv 3) (pa_cons (pe_op op_modN (pv 2) (pv 3)) pa_nil)) (by rfl))))
    (pss_cons (ps_if (pt_cmpR op_lt (pv 1) pe_int (nomark _)) (pss_one (ps_set (i := 2) sc__law_share.nd rfl (.inl rfl) (pe_op op_sub pe_int (pv 2)))) pss_nil)
    (pss_one (ps_ret (pe_tup (pa_cons (pe_op op_fdivZ (pv 0) (pv 2)) (pa_cons (pe_op op_fdivZ (pv 1) (pv 2)) pa_nil)))))))), fun ds d hR => by
    obtain ⟨t, b, rfl, h0, hb, rfl⟩ := hR
    refine sr_seq (sf_par (ed_abs (ed_var rfl)) (ed_abs (ed_var rfl))) ?_
    rw [abs_eq, abs_eq]
    refine sr_seq (Γ' := [some (.int t), some (.int b), some (.int ((t.natAbs.gcd b.natAbs : Nat) : Int)), some (.int 0)]) (sf_while (fun m Γ1 => ∃ x y : Nat, Γ1 = [some (.int t), some (.int b), some (.int (x : Int)), some (.int (y : Int))] ∧ y = m ∧ x.gcd y = t.natAbs.gcd b.natAbs) b.natAbs ⟨t.natAbs, b.natAbs, rfl, rfl, rfl⟩ fun m Γ1 hP => ?_) ?_
    · obtain ⟨x, y, rfl, rfl, hg⟩ := hP
      by_cases hy : y = 0
      · subst hy
        refine .inl ⟨(et_test (ed_neI (ed_var rfl) ed_int)).to (by rw [decide_eq_true (by rfl)]; rfl), ?_⟩
        rw [Nat.gcd_zero_right] at hg
        rw [hg]
        rfl
      · refine .inr ⟨(et_test (ed_neI (ed_var rfl) ed_int)).to (by rw [decide_eq_false (by omega)]; rfl), x % y, [some (.int t), some (.int b), some (.int (y : Int)), some (.int ((x % y : Nat) : Int))], Nat.mod_lt _ (by omega), ?_, y, x % y, rfl, rfl, ?_⟩
        · rw [← fmod_nat]
          exact sf_par (ed_var rfl) (ed_I (g := Int.fmod) (ed_var rfl) (ed_var rfl) (by omega))
        · rw [← hg, Nat.gcd_comm x y, Nat.gcd_rec y x, Nat.gcd_comm]
    · refine sr_seq (Γ' := [some (.int t), some (.int b), some (.int (both t b)), some (.int 0)]) ?_ (sr_ret ((ed_tup (ea_cons (ed_I (g := Int.fdiv) (ed_var rfl) (ed_var rfl) (both_div h0 hb t)) (ea_cons (ed_I (g := Int.fdiv) (ed_var rfl) (ed_var rfl) (both_div h0 hb b)) ea_nil)) (by show 2 ≤ 100000; decide)).to ?_))
      · by_cases hn : b < 0
        · refine sf_ifT ((et_test (ed_B0 (g := fun i j => decide (i < j)) (ed_var rfl) ed_int)).to (decide_eq_true hn)) ?_
          have e : both t b = 0 - ((t.natAbs.gcd b.natAbs : Nat) : Int) := if_pos hn
          rw [e]
          exact sf_set (ed_I0 (g := fun i j => i - j) ed_int (ed_var rfl))
        · refine sf_ifF ((et_test (ed_B0 (g := fun i j => decide (i < j)) (ed_var rfl) ed_int)).to (decide_eq_false hn)) ?_
          have e : both t b = ((t.natAbs.gcd b.natAbs : Nat) : Int) := if_neg hn
          rw [e]
          exact sf_next
      · obtain ⟨e1, e2⟩ := share_eq (t := t) h0
        unfold shD
        rw [e1, e2]⟩)
abbrev N__law_add : List Str := ["_law_one", "_law_other"]
theorem sc__law_add : FnScope N__law_add ["_law_one", "_law_other"] (defScope (top 65)) := ⟨rfl, rfl, rfl, by decide +kernel, rfl, by decide +kernel, by decide +kernel⟩

theorem f_law_add (W : Wd K mg) : Fnc P w K mg base "_law_add" 2 ["_law_one", "_law_other"] (spD K (R_op (· + ·))) (He.ga K "_law_add") :=
  mk_d W 50 sc__law_add (fun _ _ _ _ _ _ us hl => match us, hl with | [_, _], _ => rfl) (fun ds d h => by obtain ⟨q, r, A, B, rfl, _⟩ := h; exact ⟨rfl, Nat.le_of_ble_eq_true rfl⟩) (fun cdv A outer s H E hr => ⟨_, (pss_one (ps_ret (pe_fn (f_law_share W) hr (pa_cons (pe_op op_add (pe_op op_mulW (pe_ix (ixT K) (pv 0) pe_int (fun _ _ => rfl)) (pe_ix (ixT K) (pv 1) pe_int (fun _ _ => rfl))) (pe_op op_mulW (pe_ix (ixT K) (pv 1) pe_int (fun _ _ => rfl)) (pe_ix (ixT K) (pv 0) pe_int (fun _ _ => rfl)))) (pa_cons (pe_op op_mulW (pe_ix (ixT K) (pv 0) pe_int (fun _ _ => rfl)) (pe_ix (ixT K) (pv 1) pe_int (fun _ _ => rfl))) pa_nil))))), fun ds d hR => by
    obtain ⟨q, r, A, B, rfl, hA, hB, hAB, rfl⟩ := hR
    exact sr_ret (ed_call (ea_cons (ed_I0 (g := fun i j => i + j) (ed_I (g := fun i j => i * j) (ed_top (q := q) (ed_var rfl) rfl) (ed_bot (q := r) (ed_var rfl) rfl) (mu_nd hA hB hAB)) (ed_I (g := fun i j => i * j) (ed_top (q := r) (ed_var rfl) rfl) (ed_bot (q := q) (ed_var rfl) rfl) (mu_nd hB hA (by omega))))
      (ea_cons (ed_I (g := fun i j => i * j) (ed_bot (q := q) (ed_var rfl) rfl) (ed_bot (q := r) (ed_var rfl) rfl) (mu_dd hA hB hAB)) ea_nil)) ⟨_, _, rfl, den_mul_ne q r, den_lt hA hB hAB, by rw [add_eq]⟩)⟩)
abbrev N__law_times : List Str := ["_law_one", "_law_other"]
theorem sc__law_times : FnScope N__law_times ["_law_one", "_law_other"] (defScope (top 66)) := ⟨rfl, rfl, rfl, by decide +kernel, rfl, by decide +kernel, by decide +kernel⟩

theorem f_law_times (W : Wd K mg) : Fnc P w K mg base "_law_times" 2 ["_law_one", "_law_other"] (spD K (R_op (· * ·))) (He.ga K "_law_times") :=
  mk_d W 51 sc__law_times (fun _ _ _ _ _ _ us hl => match us, hl with | [_, _], _ => rfl) (fun ds d h => by obtain ⟨q, r, A, B, rfl, _⟩ := h; exact ⟨rfl, Nat.le_of_ble_eq_true rfl⟩) (fun cdv A outer s H E hr => ⟨_, (pss_one (ps_ret (pe_fn (f_law_share W) hr (pa_cons (pe_op op_mulW (pe_ix (ixT K) (pv 0) pe_int (fun _ _ => rfl)) (pe_ix (ixT K) (pv 1) pe_int (fun _ _ => rfl))) (pa_cons (pe_op op_mulW (pe_ix (ixT K) (pv 0) pe_int (fun _ _ => rfl)) (pe_ix (ixT K) (pv 1) pe_int (fun _ _ => rfl))) pa_nil))))), fun ds d hR => by
    obtain ⟨q, r, A, B, rfl, hA, hB, hAB, rfl⟩ := hR
    exact sr_ret (ed_call (ea_cons (ed_I (g := fun i j => i * j) (ed_top (q := q) (ed_var rfl) rfl) (ed_top (q := r) (ed_var rfl) rfl) (mu_nn hA hB hAB))
      (ea_cons (ed_I (g := fun i j => i * j) (ed_bot (q := q) (ed_var rfl) rfl) (ed_bot (q := r) (ed_var rfl) rfl) (mu_dd hA hB hAB)) ea_nil)) ⟨_, _, rfl, den_mul_ne q r, den_lt hA hB hAB, by rw [mul_eq]⟩)⟩)
end
end K35
/-! The law's slants walked. -/
namespace K35
open PySem PySem.Spec PyProof.Rows L2 Evl
section
variable {K : PySem.W.Frag} {Γ : Ga} {ta tb te : TE} {σ : L2.St} {H : Hp} {tr : TA}
theorem t_name {k : Nat} {v : V} {Q : L2.St → Hp → Prop} (q : Q (σ.set k (some v)) H) : gName k v σ H Q := q
theorem q_asg {tz : TS} {D : Ends} {k : Nat} (q : te σ H (fun v H1 => tz D (σ.set k (some v)) H1)) : tSeq (tAsg te (gName k)) tz D σ H := q
theorem t_op {r : R2} {Q : VK} (q : ta σ H fun x H1 => tb σ H1 fun y H2 => r x y H2 Q) : tOp r ta tb σ H Q := q
/-- a list of numbers by draws -/
theorem lc_ints {k : Nat} {vs : List Nat} {l : Addr} {n : Nat} {m : Int} {B : Int → Prop} {Q : VK} (h : EA K tr Γ [.int m]) (hm : m = (n : Int)) (hn : n ≤ 1000) (g : Sg K H σ Γ) (L : PenL H l) (hk : k ∈ vs)
    (hb : ∀ (i : Nat) H' (Q' : VK), Eb l H H' → PenL H' l → (∀ z H2, B z → Eb l H' H2 → PenL H2 l → Q' (.int z) H2) → te ((L2.wipe σ vs).set k (some (.int (i : Int)))) H' Q')
    (q : ∀ p (zs : List Int) H2, H p = none → Eb l H H2 → PenL H2 l → H2 p = some (.lst (zs.map V.int)) → zs.length = n → (∀ z, z ∈ zs → B z) → Q (.ref p) H2) : tLc (iRng1 tr) (gName k) tYes te vs σ H Q :=
  h σ H g _ fun vs' H1 e1 ha => by
    obtain ⟨v, rfl, hv⟩ := dpa1 ha
    rw [dp_int hv, hm]
    refine ⟨(n : Int), rfl, by omega, by omega, fun D hD => ?_⟩
    rw [Int.toNat_natCast]
    have hDl : l ≠ D := (L.ex e1).ne hD
    refine lc_it (walk_range (lo := 0)) (Qd := fun H' => Q (.ref D) H') (fun i H' => Eb l H1 H' ∧ PenL H' l ∧ ∃ zs : List Int, H' D = some (.lst (zs.map V.int)) ∧ zs.length = i ∧ ∀ z, z ∈ zs → B z) ⟨Eb.ex (Ex.new hD), (L.ex e1).ex (Ex.new hD), [], upd_same, rfl, fun z hz => by cases hz⟩ (fun _ _ _ _ => True.intro) (fun i x H' H3 hi p hy => ?_) (fun H' p => ?_)
    · obtain ⟨y1, p1, zs, z1, z2, z3⟩ := p
      obtain ⟨rfl, rfl⟩ := hy
      show gName k (.int (0 + (i : Int))) _ _ _
      rw [Int.zero_add]
      refine ⟨wipe_set hk, ?_⟩
      refine iteT (B := Eb l H1 H3 ∧ PenL H3 l ∧ ∃ zs : List Int, H3 D = some (.lst (zs.map V.int)) ∧ zs.length = i + 1 ∧ ∀ z, z ∈ zs → B z) (hb i H3 _ ((Eb.ex e1).trans y1) p1 fun z H2 bz y2 p2 => ?_)
      have hD2 : H2 D = some (.lst (zs.map V.int)) := y2 _ _ (Ne.symm hDl) z1
      refine ⟨_, hD2, sz_lt (by rw [List.length_map]; omega), fun b o hbl hbo => ?_, ?_, zs ++ [z], ?_, by rw [List.length_append, z2]; rfl, fun w hw => ?_⟩
      · rw [upd_ne (ne_of_none hbo hD)]
        exact (y1.trans y2) b o hbl hbo
      · obtain ⟨a, b, c, h⟩ := p2
        exact ⟨a, b, c, by rw [upd_ne hDl]; exact h⟩
      · rw [upd_same, List.map_append]
        rfl
      · rcases List.mem_append.mp hw with h | h
        · exact z3 w h
        · rw [List.mem_singleton.mp h]; exact bz
    · obtain ⟨y1, p1, zs, z1, z2, z3⟩ := p
      exact q D zs H' (fresh_back e1 hD) ((Eb.ex e1).trans y1) p1 z1 z2 z3
theorem el_revL {ds : List PyData} (h : EL K te Γ ds) : EL K (tRevL K te) Γ ds.reverse := fun σ H g Q q => h σ H g _ fun p vs H1 hp e1 hl hd =>
  ⟨p, vs, rfl, SqL.of hl, fun r hr =>
    have e2 : Ex H1 (upd H1 r (.lst vs.reverse)) := Ex.new hr
    q r _ _ (fresh_back e1 hr) (e1.trans e2) upd_same (dpa_ex e2 _ _ hd.rev)⟩
theorem el_sl0 {zs : List Int} {b : Nat} (h : ED K te Γ (.list (zs.map PyData.int))) (h2 : ED K tb Γ (.int (b : Int))) : EL K (tSl (rSlL K) te tNoPart (tPart tb)) Γ ((zs.take b).map PyData.int) :=
  el_sl h eo_no (eo_int h2) fun vs H hd => by
    have := cut_dp0 (b := b) hd
    rw [List.length_map, ← List.map_take, ← List.take_eq_take_min] at this
    exact this
theorem el_sl1 {zs : List Int} {b : Nat} (h : ED K te Γ (.list (zs.map PyData.int))) (h1 : ED K ta Γ (.int ((1 : Nat) : Int))) (h2 : ED K tb Γ (.int (b : Int))) (hb : 1 ≤ b) : EL K (tSl (rSlL K) te (tPart ta) (tPart tb)) Γ (((zs.drop 1).take (b - 1)).map PyData.int) :=
  el_sl h (eo_int h1) (eo_int h2) fun vs H hd => by
    have := cut_dp (a := 1) (b := b) hd
    rw [List.length_map, ← List.map_drop, ← List.map_take] at this
    have e : (zs.drop (min 1 zs.length)).take (min b zs.length - min 1 zs.length) = (zs.drop 1).take (b - 1) := by
      cases zs with
      | nil => simp
      | cons z zs =>
        rw [List.length_cons, show min 1 (zs.length + 1) = 1 by omega]
        show zs.take _ = zs.take (b - 1)
        rw [show min b (zs.length + 1) - 1 = min (b - 1) zs.length by omega, ← List.take_eq_take_min]
    rw [e] at this
    exact this
theorem ints_L {zs : List Int} : zs.map PyData.int = intL zs.length (fun j => zs.getD j 0) := by
  refine List.ext_getElem? fun i => ?_
  by_cases h : i < zs.length
  · rw [intL_get h, List.getElem?_map, List.getElem?_eq_getElem h, List.getD_eq_getElem?_getD, List.getElem?_eq_getElem h]
    rfl
  · rw [List.getElem?_eq_none (by rw [List.length_map]; omega), List.getElem?_eq_none (by rw [intL_len]; omega)]
/-- between two steps: size, way, the numbers so far -/
def JS (l : Addr) (n : Nat) (way : Int) (H0 : Hp) (σ' : L2.St) (H' : Hp) : Prop := σ'.length = 6 ∧ σ'[1]? = some (some (.int (n : Int))) ∧ σ'[2]? = some (some (.int way)) ∧ Eb l H0 H' ∧ PenL H' l ∧
  ∃ (p : Addr) (zs : List Int), σ'[4]? = some (some (.ref p)) ∧ p ≠ l ∧ H0 p = none ∧ H' p = some (.lst (zs.map V.int)) ∧ zs.length = 2 * n - 1 ∧ ∀ z, z ∈ zs → -50 ≤ z ∧ z ≤ 50
def ΓJ (n : Nat) (zs : List Int) : Ga := ((List.replicate 6 none).set 1 (some (.int (n : Int)))).set 4 (some (.list (zs.map PyData.int)))
theorem ints_dp {H : Hp} {p : Addr} {zs : List Int} (h : H p = some (.lst (zs.map V.int))) : Lst K H p (zs.map PyData.int) := ⟨_, h, dpa_ints zs⟩
variable {l : Addr} {n : Nat} {way : Int} {H0 : Hp} {D : Ends} {tz : TS}
theorem JS.ex {H H' : Hp} (J : JS l n way H0 σ H) (e : Ex H H') : JS l n way H0 σ H' := by
  obtain ⟨a, b, c, d, f, p, zs, g, h, i, j, k⟩ := J
  exact ⟨a, b, c, d.trans (Eb.ex e), f.ex e, p, zs, g, h, i, e _ _ j, k⟩
theorem js_way (K : PySem.W.Frag) {c : Int} {tb : TS} (J : JS l n way H0 σ H) (hb : ∀ H2, JS l n way H0 σ H2 → tb { D with nx := tz D } σ H2) (hz : ∀ σ' H', JS l n way H0 σ' H' → tz D σ' H') : tSeq (tIfS (tTest (tOp rEq (tVar 2) (tC (.int c)))) tb tNext) tz D σ H := by
  obtain ⟨a, b, w, _⟩ := id J
  have g : Sg K H σ ((List.replicate 6 none).set 2 (some (.int way))) := (sg_none a).know w (.int way)
  by_cases h : way = c
  · exact st_ifT (D := { D with nx := tz D }) ((et_test (ed_eqI (ed_var rfl) ed_int)).to (decide_eq_true h)) g fun H2 e => hb H2 (J.ex e)
  · exact st_ifF (D := { D with nx := tz D }) ((et_test (ed_eqI (ed_var rfl) ed_int)).to (decide_eq_false h)) g fun H2 e => hz σ H2 (J.ex e)
theorem js_set (J : JS l n way H0 σ H) (he : ∀ zs : List Int, zs.length = 2 * n - 1 → ∃ zs' : List Int, zs'.length = 2 * n - 1 ∧ (∀ z, z ∈ zs' → z ∈ zs ∨ z = 0) ∧ EL K te (ΓJ n zs) (zs'.map PyData.int)) (hz : ∀ σ' H', JS l n way H0 σ' H' → D.nx σ' H') : tAsg te (gName 4) D σ H := by
  obtain ⟨a, b, c, d, f, p, zs, g, h, i, j, k, m⟩ := J
  obtain ⟨zs', k', m', E⟩ := he zs k
  refine E σ H (((sg_none a).know b (.int _)).know g (ints_dp j).dp) _ fun p' vs H2 hp e hl hd => ?_
  have := dpa_ints_eq hd
  subst this
  refine hz _ _ ⟨sgl a, sgn b (by decide), sgn c (by decide), d.trans (Eb.ex e), f.ex e, p', zs', sgs a (by decide), Ne.symm (f.ne hp), ?_, hl, k', fun z hz => ?_⟩
  · by_cases q : p' = l
    · exact absurd q (Ne.symm (f.ne hp))
    · cases w : H0 p' with
      | none => rfl
      | some o =>
        rw [d p' o q w] at hp
        cases hp
  · rcases m' z hz with h | h
    · exact m z h
    · omega
theorem js_both (K : PySem.W.Frag) {c : Int} {te : TE} (J : JS l n way H0 σ H) (he : ∀ zs : List Int, zs.length = 2 * n - 1 → ∃ zs' : List Int, zs'.length = 2 * n - 1 ∧ (∀ z, z ∈ zs' → z ∈ zs ∨ z = 0) ∧ EL K te (ΓJ n zs) (zs'.map PyData.int)) (hz : ∀ σ' H', JS l n way H0 σ' H' → tz D σ' H') :
    tSeq (tIfS (tTest (tOp rEq (tVar 2) (tC (.int c)))) (tAsg te (gName 4)) tNext) tz D σ H := js_way K J (fun H2 J2 => js_set (K := K) J2 he hz) hz
theorem js_put (K : PySem.W.Frag) {c : Int} {ti : TE} {j : Nat} (J : JS l n way H0 σ H) (hi : ∀ zs : List Int, ED K ti (ΓJ n zs) (.int (j : Int))) (hj : j < 2 * n - 1) (hz : ∀ σ' H', JS l n way H0 σ' H' → tz D σ' H') :
    tSeq (tIfS (tTest (tOp rEq (tVar 2) (tC (.int c)))) (tAsg (tC (.int 0)) (gSub (tVar 4) ti rSetL)) tNext) tz D σ H := js_way K J (fun H2 J2 => by
  obtain ⟨a, b, c, d, f, p, zs, g, h, i, j', k, m⟩ := J2
  refine st_put (K := K) (l := p) (j := j) (d := .int 0) (((sg_none a).know b (.int _)).know g (ints_dp j').dp) g (ints_dp j') ed_int (hi zs) rfl (by rw [List.length_map]; omega) ?_ rfl fun H3 y3 L3 => hz σ H3 ⟨a, b, c, ?_, ?_, p, zs.set j 0, g, h, i, ?_, by rw [List.length_set]; exact k, fun z hz => ?_⟩
  · exact noLs_all fun d hd => by
      obtain ⟨i, _, rfl⟩ := List.mem_map.mp hd
      rfl
  · intro x o hx ho
    exact y3 x o (ne_of_none ho i) (d x o hx ho)
  · obtain ⟨x, y, z, w⟩ := f
    exact ⟨x, y, z, y3 _ _ (Ne.symm h) w⟩
  · obtain ⟨vs, h1, h2⟩ := L3
    have e : (zs.map PyData.int).set j (.int 0) = (zs.set j 0).map PyData.int := (List.map_set ..).symm
    rw [e] at h2
    rw [dpa_ints_eq h2] at h1
    exact h1
  · rcases List.mem_or_eq_of_mem_set hz with q | q
    · exact m z q
    · omega) hz
end
section
variable {P : Program} {w : World} {K : PySem.W.Frag} {mg : Str → Option Value} {base : Heap}
abbrev N__law_slants_by : List Str := ["_law_pen", "_law_size", "_law_way", "_law_span", "_law_some", "_law_place"]
theorem sc__law_slants_by : FnScope N__law_slants_by ["_law_pen"] (defScope (top 67)) := ⟨rfl, rfl, rfl, by decide +kernel, rfl, by decide +kernel, by decide +kernel⟩

def spSlants (K : PySem.W.Frag) : Sp := fun vs H Q _ => ∃ l, vs = [.ref l] ∧ PenL H l ∧ ∀ v H' n s, Sl s n → Eb l H H' → PenL H' l → Dp K H' v (slD n s) → Q v H'
theorem f_law_slants_by (W : Wd K mg) : Fnc P w K mg base "_law_slants_by" 3 ["_law_pen"] (spSlants K) (He.ga K "_law_slants_by") :=
  mk_fn W 52 sc__law_slants_by (fun _ _ _ _ _ _ us hl => match us, hl with | [_], _ => rfl) (fun vs H Q E h => by obtain ⟨l, rfl, _⟩ := h; rfl) (fun cdv A outer s0 H0 E hr => ⟨_, (pss_cons (ps_set (i := 1) sc__law_slants_by.nd rfl (.inl rfl) (pe_op op_add pe_int (pe_fn (f_law_draw W) hr (pa_cons (pv 0) (pa_cons pe_int pa_nil)))))
    (pss_cons (ps_set (i := 2) sc__law_slants_by.nd rfl (.inl rfl) (pe_fn (f_law_draw W) hr (pa_cons (pv 0) (pa_cons pe_int pa_nil))))
    (pss_cons (ps_set (i := 3) sc__law_slants_by.nd rfl (.inr rfl) (pe_ix (ixL K) (pe_lst (pa_cons pe_int (pa_cons pe_int (pa_cons pe_int (pa_cons pe_int pa_nil))))) (pe_fn (f_law_draw W) hr (pa_cons (pv 0) (pa_cons pe_int pa_nil))) (fun _ _ => rfl)))
    (pss_cons (ps_setLc (i := 4) (own := [("_law_place", 5)]) rfl sc__law_slants_by.nd rfl rfl (sw_true rfl rfl rfl (by decide +kernel)) (pi_range1 (by rfl) W.n_range (pa_cons (pe_op op_sub (pe_op op_mulW pe_int (pv 1)) pe_int) pa_nil)) (blkOk_by (own := [("_law_place", 5)]) (N := N__law_slants_by) (sc := defScope (top 67)) (by decide +kernel)) (fun _ _ _ _ _ => (pg_name (i := 5) sc__law_slants_by.nd rfl (.inl rfl))) (fun _ _ _ _ _ => pts_nil) (fun _ _ _ _ _ => (pe_op op_sub (pe_fn (f_law_draw W) hr (pa_cons (pv 0) (pa_cons (pe_op op_add (pe_op op_mulW pe_int (pv 3)) pe_int) pa_nil))) (pv 3))))
    (pss_cons (ps_if (pt_cmpR op_eq (pv 2) pe_int (nomark _)) (pss_one (ps_set (i := 4) sc__law_slants_by.nd rfl (.inl rfl) (pe_op op_cat (pe_slice (slL K) (pv 4) po_none (po_some (pv 1))) (pe_revL (pe_slice (slL K) (pv 4) po_none (po_some (pe_op op_sub (pv 1) pe_int))))))) pss_nil)
    (pss_cons (ps_if (pt_cmpR op_eq (pv 2) pe_int (nomark _)) (pss_one (ps_set (i := 4) sc__law_slants_by.nd rfl (.inl rfl) (pe_op op_cat (pe_slice (slL K) (pv 4) (po_some pe_int) (po_some (pv 1))) (pe_slice (slL K) (pv 4) po_none (po_some (pv 1)))))) pss_nil)
    (pss_cons (ps_if (pt_cmpR op_eq (pv 2) pe_int (nomark _)) (pss_one (ps_set (i := 4) sc__law_slants_by.nd rfl (.inl rfl) (pe_op op_cat (pe_slice (slL K) (pv 4) po_none (po_some (pv 1))) (pe_op op_rep (pe_lst (pa_cons pe_int pa_nil)) (pe_op op_sub (pv 1) pe_int))))) pss_nil)
    (pss_cons (ps_if (pt_cmpR op_eq (pv 2) pe_int (nomark _)) (pss_one (ps_asg pe_int (pg_sub (pv 4) (pe_op op_sub (pv 1) pe_int) set_list))) pss_nil)
    (pss_cons (ps_if (pt_cmpR op_eq (pv 2) pe_int (nomark _)) (pss_one (ps_set (i := 4) sc__law_slants_by.nd rfl (.inl rfl) (pe_op op_rep (pe_slice (slL K) (pv 4) po_none (po_some pe_int)) (pe_op op_sub (pe_op op_mulW pe_int (pv 1)) pe_int)))) pss_nil)
    (pss_one (ps_ret (pe_callTy (clTup K) (by rfl) W.n_tuple (by decide +kernel) (pa_cons (pv 4) pa_nil))))))))))))), fun vs Q h => by
    obtain ⟨l, rfl, L0, q⟩ := h
    have s0 : (start N__law_slants_by [V.ref l])[0]? = some (some (.ref l)) := rfl
    have hl : (start N__law_slants_by [V.ref l]).length = 6 := rfl
    generalize start N__law_slants_by [V.ref l] = σ at *
    -- size
    refine q_asg (t_op ?_)
    show tCall spDraw [] _ _ σ H0 _
    refine t_draw (k := 0) (m := 5) s0 L0 (sg_none (K := K) hl) ed_int (by decide) fun r H1 y1 L1 r0 r1 => ⟨1, r, rfl, rfl, ?_⟩
    obtain ⟨n, hn⟩ : ∃ n : Nat, 1 + r = (n : Int) := ⟨(1 + r).toNat, by omega⟩
    try dsimp only
    rw [hn]
    have l1 := sgl (i := 1) (y := some (V.int (n : Int))) hl
    have t0 := sgn (k := 1) (y := some (V.int (n : Int))) s0 (by decide)
    have t1 := sgs (i := 1) (y := some (V.int (n : Int))) hl (by decide)
    generalize σ.set 1 (some (V.int (n : Int))) = σ1 at *
    -- way
    refine q_asg ?_
    refine t_draw (k := 0) (m := 7) t0 L1 (sg_none (K := K) l1) ed_int (by decide) fun way H2 y2 L2 _ _ => ?_
    try dsimp only
    have l2 := sgl (i := 2) (y := some (V.int way)) l1
    have u0 := sgn (k := 2) (y := some (V.int way)) t0 (by decide)
    have u1 := sgn (k := 2) (y := some (V.int way)) t1 (by decide)
    have u2 := sgs (i := 2) (y := some (V.int way)) l1 (by decide)
    generalize σ1.set 2 (some (V.int way)) = σ2 at *
    -- span
    refine q_asg (t_op ?_)
    refine (el_lst (ds := ([1, 2, 3, 50] : List Int).map PyData.int) (ea_cons ed_int (ea_cons ed_int (ea_cons ed_int (ea_cons ed_int ea_nil)))) (by show 4 ≤ 100000; decide)) σ2 H2 (sg_none (K := K) l2) _ fun p ps H3 hp e3 hp3 hd3 => ?_
    have := dpa_ints_eq hd3
    subst this
    refine t_draw (k := 0) (m := 4) u0 (L2.ex e3) (sg_none (K := K) l2) ed_int (by decide) fun c H4 y4 L4 c0 c1 => ?_
    obtain ⟨span, hs0, hs1, hat⟩ : ∃ span : Int, 1 ≤ span ∧ span ≤ 50 ∧ atI (([1, 2, 3, 50] : List Int).map V.int) c = some (.int span) := by
      have : c = ((0 : Nat) : Int) ∨ c = ((1 : Nat) : Int) ∨ c = ((2 : Nat) : Int) ∨ c = ((3 : Nat) : Int) := by omega
      rcases this with rfl | rfl | rfl | rfl
      · exact ⟨1, by decide, by decide, atI_nat rfl⟩
      · exact ⟨2, by decide, by decide, atI_nat rfl⟩
      · exact ⟨3, by decide, by decide, atI_nat rfl⟩
      · exact ⟨50, by decide, by decide, atI_nat rfl⟩
    have hpl : p ≠ l := Ne.symm (L2.ne hp)
    refine ⟨p, _, c, .int span, rfl, rfl, SqL.of (y4 _ _ hpl hp3), hat, ?_⟩
    try dsimp only
    have l3 := sgl (i := 3) (y := some (V.int span)) l2
    have v0 := sgn (k := 3) (y := some (V.int span)) u0 (by decide)
    have v1 := sgn (k := 3) (y := some (V.int span)) u1 (by decide)
    have v2 := sgn (k := 3) (y := some (V.int span)) u2 (by decide)
    have v3 := sgs (i := 3) (y := some (V.int span)) l2 (by decide)
    generalize σ2.set 3 (some (V.int span)) = σ3 at *
    have Y4 : Eb l H0 H4 := (y1.trans y2).trans ((Eb.ex e3).trans y4)
    -- the numbers
    refine q_asg ?_
    refine lc_ints (l := l) (n := 2 * n - 1) (m := 2 * (n : Int) - 1) (B := fun z => -50 ≤ z ∧ z ≤ 50) (ea_cons (ed_I0 (g := fun i j => i - j) (ed_I (g := fun i j => i * j) ed_int (ed_var (k := 1) rfl) (wide_mul (a := 4) (b := 4) (by decide) (by omega) (by decide) (by decide) (by decide))) ed_int) ea_nil) (by omega) (by omega) ((sg_none (K := K) l3).know v1 (.int (n : Int))) L4 (by decide) (fun i H5 Q' y5 L5 q' => ?_) (fun p zs H5 hp y5 L5 hp5 hlen hB => ?_)
    · have w0 : ((wipe σ3 [5]).set 5 (some (V.int (i : Int))))[0]? = some (some (.ref l)) := sgn (by rw [wipe_get (by decide)]; exact v0) (by decide)
      have w3 : ((wipe σ3 [5]).set 5 (some (V.int (i : Int))))[3]? = some (some (.int span)) := sgn (by rw [wipe_get (by decide)]; exact v3) (by decide)
      have wl : ((wipe σ3 [5]).set 5 (some (V.int (i : Int)))).length = 6 := sgl (by rw [wipe_length]; exact l3)
      refine t_op ?_
      show tCall spDraw [] _ _ ((wipe σ3 [5]).set 5 (some (V.int (i : Int)))) H5 _
      refine t_draw (k := 0) (m := 2 * span + 1) w0 L5 ((sg_none (K := K) wl).know w3 (.int span)) (ed_I0 (g := fun i j => i + j) (ed_I (g := fun i j => i * j) ed_int (ed_var (k := 3) rfl) (wide_mul (a := 4) (b := 10) (by decide) (by omega) (by decide) (by decide) (by decide))) ed_int) (by omega) fun z H6 y6 L6 z0 z1 => ?_
      exact ⟨_, w3, z, span, rfl, rfl, q' (z - span) H6 (by omega) y6 L6⟩
    try dsimp only
    have hp0 : H0 p = none := by
      cases w : H0 p with
      | none => rfl
      | some o =>
        rw [Y4 p o (Ne.symm (L4.ne hp)) w] at hp
        cases hp
    have J : JS l n way H0 (σ3.set 4 (some (V.ref p))) H5 := ⟨sgl l3, sgn v1 (by decide), sgn v2 (by decide), Y4.trans y5, L5, p, zs, sgs l3 (by decide), Ne.symm (L4.ne hp), hp0, hp5, hlen, hB⟩
    generalize σ3.set 4 (some (V.ref p)) = σ4 at *
    have n1 : 1 ≤ n := by omega
    have n5 : n ≤ 5 := by omega
    have sub1 : ∀ {zs : List Int}, ED K (tOp (rI0 fun i j => V.int (i - j)) (tVar 1) (tC (V.int 1))) (ΓJ n zs) (.int ((n - 1 : Nat) : Int)) := (ed_I0 (g := fun i j => i - j) (ed_var rfl) ed_int).to (congrArg PyData.int (by omega))
    clear hlen hB hp5 L5 y5 hp hat hp3
    refine js_both K J (fun zs hz => ⟨zs.take n ++ (zs.take (n - 1)).reverse, by rw [List.length_append, List.length_reverse, List.length_take, List.length_take]; omega, fun z hm => ?_, ?_⟩) fun σ5 H7 J5 => ?_
    · rcases List.mem_append.mp hm with h | h
      · exact .inl (List.mem_of_mem_take h)
      · exact .inl (List.mem_of_mem_take (List.mem_reverse.mp h))
    · rw [List.map_append, List.map_reverse]
      exact el_cat (el_sl0 (ed_var rfl) (ed_var rfl)) (el_revL (el_sl0 (ed_var rfl) sub1)) (by rw [List.length_reverse, List.length_map, List.length_map, List.length_take, List.length_take]; omega)
    refine js_both K J5 (fun zs hz => ⟨(zs.drop 1).take (n - 1) ++ zs.take n, by rw [List.length_append, List.length_take, List.length_take, List.length_drop]; omega, fun z hm => ?_, ?_⟩) fun σ6 H8 J6 => ?_
    · rcases List.mem_append.mp hm with h | h
      · exact .inl (List.mem_of_mem_drop (List.mem_of_mem_take h))
      · exact .inl (List.mem_of_mem_take h)
    · rw [List.map_append]
      exact el_cat (el_sl1 (ed_var rfl) ed_int (ed_var rfl) n1) (el_sl0 (ed_var rfl) (ed_var rfl)) (by rw [List.length_map, List.length_map, List.length_take, List.length_take, List.length_drop]; omega)
    refine js_both K J6 (fun zs hz => ⟨zs.take n ++ (List.replicate (n - 1) ([0] : List Int)).flatten, by rw [List.length_append, List.length_take, List.length_flatten, List.map_replicate, List.sum_replicate_nat]; show _ + (n - 1) * 1 = _; omega, fun z hm => ?_, ?_⟩) fun σ7 H9 J7 => ?_
    · rcases List.mem_append.mp hm with h | h
      · exact .inl (List.mem_of_mem_take h)
      · obtain ⟨q, h1, h2⟩ := List.mem_flatten.mp h
        rw [(List.mem_replicate.mp h1).2] at h2
        exact .inr (List.mem_singleton.mp h2)
    · rw [List.map_append, List.map_flatten, List.map_replicate]
      exact el_cat (el_sl0 (ed_var rfl) (ed_var rfl)) (el_repL (k := ((n - 1 : Nat) : Int)) (ds := [PyData.int 0]) (el_lst (ea_cons ed_int ea_nil) (by show 1 ≤ 100000; decide)) sub1 (by omega) (by show 1 ≤ 50; decide)) (by rw [List.length_map, List.length_take, List.length_flatten, List.map_replicate, List.sum_replicate_nat]; show _ + (n - 1) * 1 ≤ _; omega)
    refine js_put K (j := n - 1) J7 (fun zs => sub1) (by omega) fun σ8 H10 J8 => ?_
    refine js_both K J8 (fun zs hz => ⟨(List.replicate (2 * n - 1) (zs.take 1)).flatten, by rw [List.length_flatten, List.map_replicate, List.sum_replicate_nat, List.length_take, show min 1 zs.length = 1 by omega]; omega, fun z hm => ?_, ?_⟩) fun σ9 H11 J9 => ?_
    · obtain ⟨q, h1, h2⟩ := List.mem_flatten.mp hm
      rw [(List.mem_replicate.mp h1).2] at h2
      exact .inl (List.mem_of_mem_take h2)
    · rw [List.map_flatten, List.map_replicate]
      have h := el_repL (k := ((2 * n - 1 : Nat) : Int)) (el_sl0 (K := K) (zs := zs) (b := 1) (Γ := ΓJ n zs) (te := tVar 4) (tb := tC (.int 1)) (ed_var rfl) ed_int) ((ed_I0 (g := fun i j => i - j) (ed_I (g := fun i j => i * j) (ta := tC (.int 2)) (ed_int) (ed_var (k := 1) rfl) (wide_mul (a := 4) (b := 4) (by decide) (by omega) (by decide) (by decide) (by decide))) (ed_int (i := 1))).to (congrArg PyData.int (by omega))) (by omega) (by rw [List.length_map, List.length_take]; omega)
      rw [Int.toNat_natCast] at h
      exact h
    obtain ⟨a, b, c, d, f, p, zs, g, h, i, j, k, m⟩ := J9
    refine (ed_tupL (ds := zs.map PyData.int) (ed_var (k := 4) rfl)) σ9 H11 ((sg_none a).know g (ints_dp j).dp) Q fun v H12 e12 hv => ?_
    rw [ints_L, k] at hv
    refine q v H12 n (fun j => zs.getD j 0) ⟨n1, n5, fun j hj => ?_⟩ (d.trans (Eb.ex e12)) (f.ex e12) hv
    show -50 ≤ zs.getD j 0 ∧ zs.getD j 0 ≤ 50
    rw [List.getD_eq_getElem?_getD, List.getElem?_eq_getElem (by omega)]
    exact m _ (List.getElem_mem _)⟩)
end
end K35
/-! The law's free rows walked. -/
namespace K35
open PySem PySem.Spec PyProof.Rows L2 Evl
section
variable {K : PySem.W.Frag} {Γ : Ga} {ta tb te tl : TE} {σ : L2.St} {H : Hp} {ds : List PyData} {D : Ends}
theorem q_ifF {c : TT} {tt tz : TS} (h : ET K c Γ false) (g : Sg K H σ Γ) (q : ∀ H2, Ex H H2 → tz D σ H2) : tSeq (tIfS c tt tNext) tz D σ H := h σ H g _ fun H2 e => iteF (q H2 e)
theorem noL_sl (n : Nat) (s : Nat → Int) : noL (slD n s) = true := by
  unfold slD noL
  exact noL_ints _ _
theorem st_set {k : Nat} {d : PyData} (h : ED K te Γ d) (g : Sg K H σ Γ) (q : ∀ v H2, Ex H H2 → Dp K H2 v d → D.nx (σ.set k (some v)) H2) : tAsg te (gName k) D σ H := h σ H g _ q
theorem st_ret {d : PyData} (h : ED K te Γ d) (g : Sg K H σ Γ) (q : ∀ v H2, Ex H H2 → Dp K H2 v d → D.rt v H2) : tRet te D σ H := h σ H g _ q
theorem t_call2 {sp : Sp} {E : XK} {Q : VK} (q : ta σ H fun x H1 => tb σ H1 fun y H2 => sp [x, y] H2 Q E) : tCall sp [] E (tCons ta (tCons tb tNil)) σ H Q := q
theorem for_old {g : TG} {tb : TS} (h : ED K tl Γ (.list ds)) (gs : Sg K H σ Γ) (P : Addr → List V → Nat → L2.St → Hp → Prop) (h0 : ∀ a xs H1, Ex H H1 → SqL K H1 a xs → DpAll K H1 xs ds → P a xs 0 σ H1)
    (hl : ∀ a xs i σ' H', P a xs i σ' H' → SqL K H' a xs) (hs : ∀ a xs i x σ' H', xs[i]? = some x → P a xs i σ' H' → g x σ' H' fun σ2 H2 => tb { D with nx := P a xs (i + 1), ct := P a xs (i + 1), bk := D.nx } σ2 H2)
    (hd : ∀ a xs σ' H', xs.length = ds.length → P a xs ds.length σ' H' → D.nx σ' H') : tFor (iList K tl) g tb D σ H :=
  h σ H gs _ fun v H1 e1 hv => by
    obtain ⟨a, xs, rfl, ha, hx⟩ := dp_lst hv
    exact ⟨a, rfl, ⟨xs, ha⟩, for_list (P a xs) (h0 a xs H1 e1 ha hx) (fun i σ' H' _ p => hl a xs i σ' H' p) (hs a xs) (fun σ' H' p => hd a xs σ' H' hx.len (by rw [← hx.len]; exact p))⟩
/-- a list of rows is no pen -/
theorem sql_eb {l a : Addr} {xs : List V} {H' : Hp} {n : Nat} {R : Mx} {ps fs : List Nat} (L : PenL H l) (e : Eb l H H') (h : SqL K H a xs) (hx : DpAll K H xs (freeD n R ps fs)) : SqL K H' a xs := by
  obtain ⟨i, j, k, L⟩ := L
  rcases h with (h | ⟨o, h⟩) | h
  · refine .inl (.inl (e a _ (fun z => ?_) h))
    subst z
    rw [h] at L
    cases L
    cases fs with
    | nil => cases hx
    | cons f fs =>
      have hx : DpAll K H _ (rowD n (fv R ps f ps.length) :: freeD n R ps fs) := hx
      cases hx with
      | cons h1 h2 => cases h1
  · refine .inl (.inr ⟨o, e a _ (fun z => ?_) h⟩)
    subst z
    rw [h] at L
    cases L
  · exact .inr h
end
theorem rep_row (n : Nat) : (List.replicate n [shD 0]).flatten = rowL n fun _ => 0 := by
  refine List.ext_getElem? fun i => ?_
  have e : (List.replicate n [shD 0]).flatten = List.replicate n (shD 0) := by
    induction n with
    | zero => rfl
    | succ n ih => rw [List.replicate_succ, List.flatten_cons, ih, List.replicate_succ]; rfl
  rw [e]
  by_cases h : i < n
  · rw [List.getElem?_replicate, if_pos h]
    show some (shD 0) = ((List.range n).map fun _ => shD 0)[i]?
    exact (rng_get (f := fun _ => shD 0) h).symm
  · rw [List.getElem?_replicate, if_neg h, List.getElem?_eq_none (by rw [show (rowL n _).length = n from rng_len]; omega)]
theorem mul_add {s : Nat → Int} {n : Nat} {f g : Nat → Rat} {c : Rat} {i : Nat} : mul s n (fun j => f j + c * g j) i = mul s n f i + c * mul s n g i := by
  unfold mul dot
  have e : (fun j => T s n i j * (f j + c * g j)) = fun j => T s n i j * f j + (T s n i j * g j) * c := by
    funext j
    grind
  rw [e, sm_add, sm_mulr]
  grind
theorem mul_zero {s : Nat → Int} {n : Nat} {i : Nat} : mul s n (fun _ => 0) i = 0 := sm_zero fun j _ => by grind
theorem part_bd {x y : Int} (hx : -4 ≤ x ∧ x ≤ 4) (hy : 1 ≤ y ∧ y ≤ 3) : Bd 3 (Rat.divInt x y) := by
  refine bd_of (d := y) (v := x) (by omega) (by omega) (by omega) ?_
  have hy0 : (y : Rat) ≠ 0 := cast_ne (by omega)
  rw [Rat.divInt_eq_div]
  grind
section
variable {P : Program} {w : World} {K : PySem.W.Frag} {mg : Str → Option Value} {base : Heap}
abbrev N__law_free_right : List Str := ["_law_slants", "_law_pen", "_law_size", "_law_amount", "_law_noughts", "_law_row", "_law_part", "_law_one", "_law_other"]
theorem sc__law_free_right : FnScope N__law_free_right ["_law_slants", "_law_pen"] (defScope (top 69)) := ⟨rfl, rfl, rfl, by decide +kernel, rfl, by decide +kernel, by decide +kernel⟩

def spFR (K : PySem.W.Frag) : Sp := fun vs H Q _ => ∃ v l n s, vs = [v, .ref l] ∧ Sl s n ∧ Dp K H v (slD n s) ∧ PenL H l ∧ ∀ H', Eb l H H' → PenL H' l → Q (.bl true) H'
theorem f_law_free_right (W : Wd K mg) : Fnc P w K mg base "_law_free_right" 9 ["_law_slants", "_law_pen"] (spFR K) (He.ga K "_law_free_right") :=
  mk_fn W 54 sc__law_free_right (fun _ _ _ _ _ _ us hl => match us, hl with | [_, _], _ => rfl) (fun vs H Q E h => by obtain ⟨v, l, n, s, rfl, _⟩ := h; rfl) (fun cdv A outer s0 H0 E hr => ⟨_, (pss_cons (ps_set (i := 2) sc__law_free_right.nd rfl (.inl rfl) (pe_op op_fdivZ (pe_op op_add (pe_callB (clLen K) (by rfl) W.n_len (by decide +kernel) (pa_cons (pv 0) pa_nil)) pe_int) pe_int))
    (pss_cons (ps_set (i := 3) sc__law_free_right.nd rfl (.inl rfl) (pe_op (opTimesT K) (pe_tup (pa_cons (pe_tup (pa_cons pe_int (pa_cons pe_int pa_nil))) pa_nil)) (pv 2)))
    (pss_cons (ps_set (i := 4) sc__law_free_right.nd rfl (.inl rfl) (pv 3))
    (pss_cons (ps_for PassesOwn.never rfl (piL K (pe_fn (f_free_rows W) hr (pa_cons (pv 0) pa_nil))) (pg_name (i := 5) sc__law_free_right.nd rfl (.inl rfl))
      (pss_cons (ps_if (PW.pt (pw_or (pt_cmpR (opNeD K hr.units) (pe_fn (f_times_row W) hr (pa_cons (pv 0) (pa_cons (pv 5) pa_nil))) (pv 4) (nomark _)) (pw_or1 (pt_cmpR op_notBl (pe_fn (f_paper_good W) hr (pa_cons (pv 0) (pa_cons (pe_tup (pa_cons pe_str (pa_cons (pv 5) pa_nil))) pa_nil))) pe_bl (nomark _))))) (pss_one (ps_ret pe_bl)) pss_nil)
      (pss_cons (ps_set (i := 6) sc__law_free_right.nd rfl (.inr rfl) (pe_fn (f_law_share W) hr (pa_cons (pe_op op_sub (pe_fn (f_law_draw W) hr (pa_cons (pv 1) (pa_cons pe_int pa_nil))) pe_int) (pa_cons (pe_op op_add pe_int (pe_fn (f_law_draw W) hr (pa_cons (pv 1) (pa_cons pe_int pa_nil)))) pa_nil))))
      (pss_one (ps_set (i := 3) sc__law_free_right.nd rfl (.inl rfl) (pe_callTy (clTup K) (by rfl) W.n_tuple (by decide +kernel) (pa_cons (pe_lc (own := [("_law_one", 7), ("_law_other", 8)]) rfl sc__law_free_right.nd (RZ.pi_zipA (by rfl) W.n_zip (pa_cons (pv 3) (pa_cons (pv 5) pa_nil))) (blkOk_by (own := [("_law_one", 7), ("_law_other", 8)]) (N := N__law_free_right) (sc := defScope (top 69)) (by decide +kernel)) (fun _ _ _ _ _ => (pgPair K rfl (pg_name (i := 7) sc__law_free_right.nd rfl (.inl rfl)) (pg_name (i := 8) sc__law_free_right.nd rfl (.inl rfl)))) (fun _ _ _ _ _ => pts_nil) (fun _ _ _ _ _ => (pe_fn (f_law_add W) hr (pa_cons (pv 7) (pa_cons (pe_fn (f_law_times W) hr (pa_cons (pv 6) (pa_cons (pv 8) pa_nil))) pa_nil))))) pa_nil)))))))
    (pss_one (ps_ret (pe_and (pe_cmpR (opEqD K hr.units) (pe_fn (f_times_row W) hr (pa_cons (pv 0) (pa_cons (pv 3) pa_nil))) (pv 4) (nomark _)) (pe_one (pe_cmpR op_eq (pe_fn (f_paper_good W) hr (pa_cons (pv 0) (pa_cons (pe_tup (pa_cons pe_str (pa_cons (pv 3) pa_nil))) pa_nil))) (pe_cmpR (opNeD K hr.units) (pv 3) (pv 4) (nomark _)) (nomark _)))))))))), fun vs Q h => by
    obtain ⟨v0, l, n, s, rfl, hS, hv0, L0, q⟩ := h
    have h1 := hS.1
    have h5 := hS.2.1
    have s0 : (start N__law_free_right [v0, V.ref l])[0]? = some (some v0) := rfl
    have s1 : (start N__law_free_right [v0, V.ref l])[1]? = some (some (.ref l)) := rfl
    have hl : (start N__law_free_right [v0, V.ref l]).length = 9 := rfl
    generalize start N__law_free_right [v0, V.ref l] = σ at *
    -- size
    refine q_set (d := .int (n : Int)) ((ed_I (g := Int.fdiv) (ed_I0 (g := fun i j => i + j) (ed_lenT (ds := intL (2 * n - 1) s) (ed_var (k := 0) rfl)) ed_int) ed_int (div2 _)).to ?_) ((sg_none (K := K) hl).know s0 hv0) fun v2 H1 e1 hv2 => ?_
    · rw [intL_len, Int.fdiv_eq_ediv_of_nonneg _ (by decide)]
      congr 1
      omega
    have l1 := sgl (i := 2) (y := some v2) hl
    have a0 := sgn (k := 2) (y := some v2) s0 (by decide)
    have a1 := sgn (k := 2) (y := some v2) s1 (by decide)
    have a2 := sgs (i := 2) (y := some v2) hl (by decide)
    generalize σ.set 2 (some v2) = σ1 at *
    -- amount
    refine q_set (d := rowD n fun _ => 0) ((ed_timesT (ds := [shD 0]) (ed_tup (ea_cons (ed_tup (ds := [.int 0, .int 1]) (ea_cons ed_int (ea_cons ed_int ea_nil)) (by show 2 ≤ 100000; decide)) ea_nil) (by show 1 ≤ 100000; decide)) (ed_var (k := 2) rfl) (fun z => by cases z) (by omega) (by show 1 ≤ 1000; decide)).to ?_) ((sg_none (K := K) l1).know a2 hv2) fun v3 H2 e2 hv3 => ?_
    · rw [Int.toNat_natCast]
      exact congrArg PyData.tuple (rep_row n)
    have l2 := sgl (i := 3) (y := some v3) l1
    have b0 := sgn (k := 3) (y := some v3) a0 (by decide)
    have b1 := sgn (k := 3) (y := some v3) a1 (by decide)
    have b3 := sgs (i := 3) (y := some v3) l1 (by decide)
    generalize σ1.set 3 (some v3) = σ2 at *
    -- noughts
    refine q_set (d := rowD n fun _ => 0) (ed_var (k := 3) rfl) ((sg_none (K := K) l2).know b3 hv3) fun v4 H3 e3 hv4 => ?_
    have l3 := sgl (i := 4) (y := some v4) l2
    have c0 := sgn (k := 4) (y := some v4) b0 (by decide)
    have c1 := sgn (k := 4) (y := some v4) b1 (by decide)
    have c3 := sgn (k := 4) (y := some v4) b3 (by decide)
    have c4 := sgs (i := 4) (y := some v4) l2 (by decide)
    generalize σ2.set 4 (some v4) = σ3 at *
    have e03 := (e1.trans e2).trans e3
    have hv0' := dp_ex e03 _ _ hv0
    have hv3' := dp_ex e3 _ _ hv3
    have L3 := L0.ex e03
    clear hv0 hv3 hv2 a0 a1 a2 b0 b1 b3 s0 s1
    have gg : ∀ {σ' H' v am}, σ'.length = 9 → σ'[0]? = some (some v0) → σ'[3]? = some (some v) → σ'[4]? = some (some v4) → Eb l H3 H' → Dp K H' v (rowD n am) → Sg K H' σ' ((((List.replicate 9 none).set 0 (some (slD n s))).set 3 (some (rowD n am))).set 4 (some (rowD n fun _ => 0))) :=
      fun {σ' H' v am} hl h0 h3 h4 e hv => (((sg_none hl).know h0 (dp_tx (L3.tx e) _ _ (noL_sl _ _) hv0')).know h3 hv).know h4 (dp_tx (L3.tx e) _ _ (noL_row _ _) hv4)
    refine for_old (ds := freesD n s) (ed_call (ea_cons (ed_var (k := 0) rfl) ea_nil) ⟨n, s, hS, rfl, rfl⟩) (gg l3 c0 c3 c4 (Eb.ex (Ex.refl _)) hv3')
      (fun a xs i σ' H' => σ'.length = 9 ∧ σ'[0]? = some (some v0) ∧ σ'[1]? = some (some (.ref l)) ∧ σ'[4]? = some (some v4) ∧ Eb l H3 H' ∧ PenL H' l ∧ SqL K H' a xs ∧ DpAll K H' xs (freesD n s) ∧ ∃ v am, σ'[3]? = some (some v) ∧ Dp K H' v (rowD n am) ∧ (∀ j, j < n → Bd (1 + 265 * i) (am j)) ∧ ∀ j, j < n → mul s n am j = 0) ?_ ?_ ?_ ?_
    · intro a xs H4 e4 ha hx
      exact ⟨l3, c0, c1, c4, Eb.ex e4, L3.ex e4, ha, hx, v3, fun _ => 0, c3, dp_ex e4 _ _ hv3', fun j hj => bd_zero (by decide), fun j hj => mul_zero⟩
    · rintro a xs i σ' H' ⟨_, _, _, _, _, _, h, _⟩
      exact h
    · rintro a xs i x σ' H' hx ⟨p0, p1, p2, p3, p4, p5, p6, p7, v, am, p8, p9, pb, pz⟩
      obtain ⟨d, hd1, hd2⟩ := p7.get' hx
      obtain ⟨f, hf, rfl⟩ : ∃ f, (frees s n)[i]? = some f ∧ d = rowD n (freeR s n f) := by
        unfold freesD freeD at hd1
        rw [List.getElem?_map] at hd1
        cases hq : (frees s n)[i]? with
        | none => rw [hq] at hd1; cases hd1
        | some f => rw [hq] at hd1; cases hd1; exact ⟨f, rfl, rfl⟩
      have hfm := List.mem_of_getElem? hf
      have hfn := frees_lt hfm
      have hi5 : i < 5 := by
        have h1 := (List.getElem?_eq_some_iff.mp hf).1
        have := @List.length_filter_le Nat (fun p => decide (p ∉ (ech s n).2)) (List.range n)
        rw [List.length_range] at this
        have : (frees s n).length ≤ n := this
        omega
      have fb := freeR_bd hS hfm
      have fk : ∀ j, j < n → mul s n (freeR s n f) j = 0 := fun j hj => freeR_ker hfm j hj
      have f1 := freeR_one hfm
      generalize freeR s n f = fr at *
      refine t_name ?_
      have m0 := sgl (i := 5) (y := some x) p0
      have m1 := sgn (k := 5) (y := some x) p1 (by decide)
      have m2 := sgn (k := 5) (y := some x) p2 (by decide)
      have m3 := sgn (k := 5) (y := some x) p3 (by decide)
      have m8 := sgn (k := 5) (y := some x) p8 (by decide)
      have m5 := sgs (i := 5) (y := some x) p0 (by decide)
      generalize σ'.set 5 (some x) = σ4 at *
      have g4 := (gg m0 m1 m8 m3 p4 p9).know m5 hd2
      have hB : (n + 1) * (7 + 257 + 1) ≤ 8990 := by omega
      have nn : isNo n fr = false := by
        rw [isNo_iff]
        refine decide_eq_false fun z => ?_
        have := z f hfn
        rw [f1] at this
        exact absurd this (by decide)
      refine q_ifF (et_or (b := false) ((et_test (ed_neD (ed_call (ea_cons (ed_var (k := 0) rfl) (ea_cons (ed_var (k := 5) rfl) ea_nil)) ⟨n, 257, s, fr, hS, rfl, fb, hB, rfl⟩) (ed_var (k := 4) rfl) (shaped_row _ _) (shaped_row _ _))).to ?_) fun _ => (et_test (ed_notBl (b := true) (c := true) (ed_call (ea_cons (ed_var (k := 0) rfl) (ea_cons (ed_tup (ds := [.str "none", rowD n fr]) (ea_cons ed_str (ea_cons (ed_var (k := 5) rfl) ea_nil)) (by show 2 ≤ 100000; decide)) ea_nil)) ⟨n, s, _, hS, rfl, .inr (.inr ⟨fr, rfl, ⟨257, fb, hB, fk⟩, by rw [nn]; rfl⟩)⟩) ed_bl)).to (by rw [decide_eq_true rfl]; rfl)) g4 fun H4 e4 => ?_
      · rw [eqv_rows, decide_eq_true fk]
        rfl
      -- part
      refine q_asg (t_call2 (t_op ?_))
      refine t_draw (k := 1) (m := 9) m2 (p5.ex e4) (g4.ex e4) ed_int (by decide) fun r1 H5 y5 L5 r10 r11 => ⟨r1, 4, rfl, rfl, ?_⟩
      refine t_op ?_
      show tCall spDraw [] _ _ σ4 H5 _
      refine t_draw (k := 1) (m := 3) m2 L5 (sg_none (K := K) m0) ed_int (by decide) fun r2 H6 y6 L6 r20 r21 => ⟨1, r2, rfl, rfl, ?_⟩
      refine ⟨[.int (r1 - 4), .int (1 + r2)], _, ⟨_, _, rfl, by omega, two_le (show (1 + r2).natAbs < 2 ^ 4 by omega) (by decide), rfl⟩, .cons (.int _) (.cons (.int _) .nil), fun vp H7 e7 hvp => ?_⟩
      have pbd : Bd 3 (Rat.divInt (r1 - 4) (1 + r2)) := part_bd (by omega) (by omega)
      generalize Rat.divInt (r1 - 4) (1 + r2) = c at *
      have y47 : Eb l H' H7 := (Eb.ex e4).trans ((y5.trans y6).trans (Eb.ex e7))
      try dsimp only
      have n0 := sgl (i := 6) (y := some vp) m0
      have n1 := sgn (k := 6) (y := some vp) m1 (by decide)
      have n2 := sgn (k := 6) (y := some vp) m2 (by decide)
      have n3 := sgn (k := 6) (y := some vp) m3 (by decide)
      have n8 := sgn (k := 6) (y := some vp) m8 (by decide)
      have n5 := sgn (k := 6) (y := some vp) m5 (by decide)
      have n6 := sgs (i := 6) (y := some vp) m0 (by decide)
      generalize σ4.set 6 (some vp) = σ5 at *
      have t7 := p5.tx y47
      have g7 := ((gg n0 n1 n8 n3 (p4.trans y47) (dp_tx t7 _ _ (noL_row _ _) p9)).know n5 (dp_tx t7 _ _ (noL_row _ _) hd2)).know n6 hvp
      refine st_set (ed_tupL (EL.ed (el_lcP (n := n) (d1 := fun j => shD (am j)) (d2 := fun j => shD (fr j)) (b := fun j => shD (am j + c * fr j)) (ei_zipT (ea_cons (ed_var (k := 3) rfl) (ea_cons (ed_var (k := 5) rfl) ea_nil))) (by decide) (by decide) (fun j hj => ed_call (ea_cons (ed_var rfl) (ea_cons (ed_call (ea_cons (ed_var rfl) (ea_cons (ed_var rfl) ea_nil)) ⟨c, fr j, 3, 257, rfl, pbd, fb j hj, by decide, rfl⟩) ea_nil)) ⟨am j, c * fr j, 1 + 265 * i, 260, rfl, pb j hj, pbd.mul (fb j hj), by omega, rfl⟩) (fun _ _ => noL_sh _) (by omega)))) g7 fun v' H8 e8 hv' => ?_
      have y48 := y47.trans (Eb.ex e8)
      refine ⟨sgl n0, sgn n1 (by decide), sgn n2 (by decide), sgn n3 (by decide), p4.trans y48, (L6.ex e7).ex e8, ?_, ?_, v', fun j => am j + c * fr j, sgs n0 (by decide), hv', fun j hj => ?_, fun j hj => ?_⟩
      · exact sql_eb p5 y48 p6 p7
      · exact dpa_tx (p5.tx y48) _ _ (freeD_no _ _ _ _) p7
      · exact ((pb j hj).add (pbd.mul (fb j hj))).mono (by omega)
      · rw [mul_add, pz j hj, fk j hj]
        grind
    · rintro a xs σ' H' hlen ⟨p0, p1, p2, p3, p4, p5, p6, p7, v, am, p8, p9, pb, pz⟩
      have hk : (freesD n s).length ≤ 5 := by
        rw [freesD_len]
        have := @List.length_filter_le Nat (fun p => decide (p ∉ (ech s n).2)) (List.range n)
        rw [List.length_range] at this
        have : (frees s n).length ≤ n := this
        omega
      have pb' : ∀ j, j < n → Bd 1326 (am j) := fun j hj => (pb j hj).mono (by omega)
      have hB : (n + 1) * (7 + 1326 + 1) ≤ 8990 := by omega
      refine st_ret (ed_and (b := true) (c := true) ((ed_eqD (ed_call (ea_cons (ed_var (k := 0) rfl) (ea_cons (ed_var (k := 3) rfl) ea_nil)) ⟨n, 1326, s, am, hS, rfl, pb', hB, rfl⟩) (ed_var (k := 4) rfl) (shaped_row _ _) (shaped_row _ _)).to ?_) fun _ => (ed_eqB (ed_call (ea_cons (ed_var (k := 0) rfl) (ea_cons (ed_tup (ds := [.str "none", rowD n am]) (ea_cons ed_str (ea_cons (ed_var (k := 3) rfl) ea_nil)) (by show 2 ≤ 100000; decide)) ea_nil)) ⟨n, s, _, hS, rfl, .inr (.inr ⟨am, rfl, ⟨1326, pb', hB, pz⟩, rfl⟩)⟩) (ed_neD (ed_var (k := 3) rfl) (ed_var (k := 4) rfl) (shaped_row _ _) (shaped_row _ _))).to ?_) (gg p0 p1 p8 p3 p4 p9) fun v H9 e9 hv => ?_
      · rw [eqv_rows, decide_eq_true pz]
      · rw [eqv_rows, isNo_iff, beq_self_eq_true]
      · rw [dp_bl hv]
        exact q H9 ((Eb.ex e03).trans (p4.trans (Eb.ex e9))) (p5.ex e9)⟩)
end
end K35
/-! The law walked. -/
namespace K35
open PySem PySem.Spec PyProof.Rows L2 Evl
theorem shp_str {k : Nat} {x : Str} (h : PyData.strOk x = true) : Shp k (.str x) := by
  constructor
  · simp only [PyData.canLay0]
    exact h
  · simp only [PyData.depth]
    exact Nat.zero_le _
theorem Shp.mono {k j : Nat} {d : PyData} (h : Shp k d) (l : k ≤ j) : Shp j d := ⟨h.1, Nat.le_trans h.2 l⟩
theorem empty_iff {s : Nat → Int} {n : Nat} : (frees s n).isEmpty = true ↔ Full s n := by
  rw [List.isEmpty_iff]
  exact full_iff
theorem paper_ok {n : Nat} {s : Nat → Int} (hS : Sl s n) : ∃ (w : Str) (x : PyData), paperD n s = .tuple [.str w, x] ∧ decide (w = "full") = (frees s n).isEmpty ∧ R_paper_good [slD n s, paperD n s] (.bool true) ∧ SeqAt.shaped (paperD n s) = true ∧ PyData.eqv (paperD n s) (paperD n s) = true := by
  have h5 := hS.2.1
  unfold paperD
  cases hf : frees s n with
  | nil =>
    have F : Full s n := full_iff.mp hf
    have sh : Shp 4 (whole n (bcol s n)) := shp_tup fun d hd => by
      rcases List.mem_cons.mp hd with e | hd
      · rw [e]; exact shp_str (by decide +kernel)
      · rw [List.mem_singleton.mp hd]
        exact shp_list fun d hd => by
          obtain ⟨i, _, rfl⟩ := List.mem_map.mp hd
          exact shp_row _ _
    exact ⟨_, _, rfl, by decide +kernel, ⟨n, s, _, hS, rfl, .inr (.inl ⟨bcol s n, rfl, fun p hp => ⟨256, fun j hj => bcol_bd hS hp hj, by omega, fun i hi => bcol_ok F hp i hi⟩, rfl⟩)⟩, sh.sd (by decide), SeqAt.eqv_refl _ sh.1⟩
  | cons f fs =>
    have hfm : f ∈ frees s n := by rw [hf]; exact List.mem_cons_self
    have sh : Shp 4 (weakP n (freeR s n f)) := shp_tup fun d hd => by
      rcases List.mem_cons.mp hd with e | hd
      · rw [e]; exact shp_str (by decide +kernel)
      · rw [List.mem_singleton.mp hd]
        exact (shp_row _ _).mono (by decide)
    have nn : isNo n (freeR s n f) = false := by
      rw [isNo_iff]
      refine decide_eq_false fun z => ?_
      have := z f (frees_lt hfm)
      rw [freeR_one hfm] at this
      exact absurd this (by decide)
    exact ⟨_, _, rfl, (show decide (("none" : Str) = "full") = false by decide +kernel), ⟨n, s, _, hS, rfl, .inr (.inr ⟨freeR s n f, rfl, ⟨257, freeR_bd hS hfm, by omega, fun i hi => freeR_ker hfm i hi⟩, by rw [nn]; rfl⟩)⟩, sh.sd (by decide), SeqAt.eqv_refl _ sh.1⟩
section
variable {K : PySem.W.Frag} {Γ : Ga} {te : TE} {σ : L2.St} {H : Hp} {D : Ends}
theorem q_orCall {c : TT} {tt tz : TS} (h : ET K c Γ false) (g : Sg K H σ Γ) (q : ∀ H2, Ex H H2 → te σ H2 (fun v H3 => ∃ b, v = .bl b ∧ (if (!b) = true then tt { D with nx := tz D } σ H3 else tz D σ H3))) : tSeq (tIfS (tOr c (tNot (tB te))) tt tNext) tz D σ H :=
  h σ H g _ fun H2 e => iteF (q H2 e)
end
section
variable {P : Program} {w : World} {K : PySem.W.Frag} {mg : Str → Option Value} {base : Heap}
abbrev N_law : List Str := ["_law_script", "_law_cell", "_law_pen", "_law_slants", "_law_size", "_law_full", "_law_paper", "_law_weak", "_law_first", "_law_last", "_law_k"]
theorem sc_law : FnScope N_law ["_law_script"] (defScope (top 70)) := ⟨rfl, rfl, rfl, by decide +kernel, rfl, by decide +kernel, by decide +kernel⟩

def spLaw (K : PySem.W.Frag) : Sp := fun vs H Q _ => ∃ (a : Addr) (zs : List Int), vs = [.ref a] ∧ zs.length ≤ 1000 ∧ SqL K H a (zs.map V.int) ∧ ∀ H', Q (.bl true) H'
/-- a def of one argument, for every base -/
theorem mk_law {P : Program} {w : World} {K : PySem.W.Frag} {mg : Str → Option Value} (W : Wd K mg) {x p : Str} {t : Nat} {N : List Str} {k : Nat} {sp : Sp} (i : Nat) (S : FnScope N [p] (defScope (top t))) (hb : Bnd (top t) x [p]) (len : ∀ vs H Q E, sp vs H Q E → vs.length = 1)
    (body : ∀ (base : Heap) (cdv : Value) (A : Around) (outer : List Env) (s : Shared) (H : Hp) (E : XK), Room k (A.deeper (envOfC x (defScope (top t)) s.heap.objs.size (He.ga K x) cdv)) →
      ∃ tt, PSs (cxOf CX0 P w K mg base N x (defScope (top t)) (He.ga K x) cdv A outer s H E).nox (defBody (top t)) tt ∧ ∀ vs Q, sp vs H Q E → tt { nx := fun _ H' => Q .non H', rt := Q } (L2.start N vs) H)
    (hi : fn[i]? = some (dd t x) := by rfl) : ∃ fd : FuncData, (∀ (s : Shared) (v : Value), BindsTo s fd ⟨[v], []⟩ [(p, v)]) ∧ ∀ base : Heap, FnOk P w K mg base CX0 (k + 1) (He.ga K x) fd [p] sp := by
  obtain ⟨fd, F⟩ := W.says.def_ i hi
  have F : FunD K x x (defArgs (top t)) (defBody (top t)) (defScope (top t)) [] [] (He.ga K x) fd := F
  have b := FunD.bindsA (ps := [p]) F hb
  refine ⟨fd, fun s v => b s [v] rfl, fun base => F.ok S len fun cdv A outer s H vs Q E hr h => ?_⟩
  obtain ⟨tt, h1, h2⟩ := body base cdv A outer s H E hr
  exact ⟨tt, h1.nox, h2 vs Q h⟩
theorem f_law (W : Wd K mg) : ∃ fd : FuncData, (∀ (s : Shared) (v : Value), BindsTo s fd ⟨[v], []⟩ [("_law_script", v)]) ∧ ∀ base : Heap, FnOk P w K mg base CX0 11 (He.ga K "law") fd ["_law_script"] (spLaw K) :=
  mk_law W 55 sc_law (fun _ _ _ _ _ _ us hl => match us, hl with | [_], _ => rfl) (fun vs H Q E h => by obtain ⟨a, zs, rfl, _⟩ := h; rfl) (fun base cdv A outer s0 H0 E hr => ⟨_, (pss_cons (ps_for PassesOwn.never rfl (piL K (pe_op op_cat (pe_lst (pa_cons (pe_fn (f_law_cell_at W) hr (pa_cons (pv 0) (pa_cons pe_int pa_nil))) pa_nil)) (pe_slice (slL K) (pv 0) (po_some pe_int) (po_some pe_int)))) (pg_name (i := 1) sc_law.nd rfl (.inl rfl))
      (pss_cons (ps_set (i := 2) sc_law.nd rfl (.inl rfl) (pe_fn (f_law_pen_of W) hr (pa_cons (pv 1) pa_nil)))
      (pss_cons (ps_set (i := 3) sc_law.nd rfl (.inr rfl) (pe_fn (f_law_slants_by W) hr (pa_cons (pv 2) pa_nil)))
      (pss_cons (ps_set (i := 4) sc_law.nd rfl (.inl rfl) (pe_op op_fdivZ (pe_op op_add (pe_callB (clLen K) (by rfl) W.n_len (by decide +kernel) (pa_cons (pv 3) pa_nil)) pe_int) pe_int))
      (pss_cons (ps_set (i := 5) sc_law.nd rfl (.inl rfl) (pe_fn (f_is_full W) hr (pa_cons (pv 3) pa_nil)))
      (pss_cons (ps_set (i := 6) sc_law.nd rfl (.inl rfl) (pe_fn (f_paper_of W) hr (pa_cons (pv 3) pa_nil)))
      (pss_cons (ps_if (PW.pt (pw_or (pt_cmpR op_notBl (pe_fn (f_paper_good W) hr (pa_cons (pv 3) (pa_cons (pv 6) pa_nil))) pe_bl (nomark _)) (pw_or (pt_cmpR op_ne (pe_cmpR op_eq (pe_ix (ixT K) (pv 6) pe_int (fun _ _ => rfl)) pe_str (nomark _)) (pv 5) (nomark _)) (pw_or1 (pt_cmpR (opNeD K hr.units) (pe_fn (f_paper_of W) hr (pa_cons (pv 3) pa_nil)) (pv 6) (nomark _)))))) (pss_one (ps_ret pe_bl)) pss_nil)
      (pss_cons (ps_if (PW.pt (pw_or (pt_cmpR op_ne (pv 5) (pe_cmpR op_eq (pe_fn (f_free_many W) hr (pa_cons (pv 3) pa_nil)) pe_int (nomark _)) (nomark _)) (pw_or1 (pt_cmpR op_ne (pe_fn (f_rank_of W) hr (pa_cons (pv 3) pa_nil)) (pe_op op_sub (pv 4) (pe_callB (clLen K) (by rfl) W.n_len (by decide +kernel) (pa_cons (pe_fn (f_free_rows W) hr (pa_cons (pv 3) pa_nil)) pa_nil))) (nomark _))))) (pss_one (ps_ret pe_bl)) pss_nil)
      (pss_cons (ps_if (PW.pt (pw_or (pt_cmpR op_ne (pe_fn (f_free_many W) hr (pa_cons (pe_fn (f_turned_slants W) hr (pa_cons (pv 3) pa_nil)) pa_nil)) (pe_fn (f_free_many W) hr (pa_cons (pv 3) pa_nil)) (nomark _)) (pw_or1 (pt_not (pt_val (pe_fn (f_law_free_right W) hr (pa_cons (pv 3) (pa_cons (pv 2) pa_nil)))))))) (pss_one (ps_ret pe_bl)) pss_nil)
      (pss_cons (ps_set (i := 7) sc_law.nd rfl (.inl rfl) (pe_fn (f_first_weak W) hr (pa_cons (pv 3) pa_nil)))
      (pss_one (ps_if (pt_cmpR op_isN (pv 7) pe_non (nomark _)) (pss_cons (ps_asg (pe_ix (ixL K) (pe_fn (f_steps_of W) hr (pa_cons (pv 3) pa_nil)) (pe_un un_neg pe_int) (fun _ _ => rfl)) (pgPair K rfl (pg_name (i := 8) sc_law.nd rfl (.inl rfl)) (pg_name (i := 9) sc_law.nd rfl (.inl rfl))))
        (pss_one (ps_if (PW.pt (pw_or (pt_not (pt_val (pv 5))) (pw_or1 (pt_cmpR op_notBl (pe_fn (f_paper_good W) hr (pa_cons (pv 3) (pa_cons (pe_tup (pa_cons pe_str (pa_cons (pv 8) (pa_cons (pv 9) pa_nil)))) pa_nil))) pe_bl (nomark _))))) (pss_one (ps_ret pe_bl)) pss_nil))) (pss_one (ps_if (PW.pt (pw_or (pt_val (pe_fn (f_is_full W) hr (pa_cons (pe_fn (f_corner W) hr (pa_cons (pv 3) (pa_cons (pv 7) pa_nil))) pa_nil))) (pw_or1 (pt_not (pt_val (pe_callB (clAll K rfl) (by rfl) W.n_all (by decide +kernel) (pa_cons (pe_lc (own := [("_law_k", 10)]) rfl sc_law.nd (pi_range2 (by rfl) W.n_range (pa_cons pe_int (pa_cons (pv 7) pa_nil))) (blkOk_by (own := [("_law_k", 10)]) (N := N_law) (sc := defScope (top 70)) (by decide +kernel)) (fun _ _ _ _ _ => (pg_name (i := 10) sc_law.nd rfl (.inl rfl))) (fun _ _ _ _ _ => pts_nil) (fun _ _ _ _ _ => (pe_fn (f_is_full W) hr (pa_cons (pe_fn (f_corner W) hr (pa_cons (pv 3) (pa_cons (pv 10) pa_nil))) pa_nil)))) pa_nil))))))) (pss_one (ps_ret pe_bl)) pss_nil))))))))))))))
    (pss_one (ps_ret pe_bl))), fun vs Q h => by
    obtain ⟨a0, zs, rfl, hz, hsq, q⟩ := h
    have s0 : (start N_law [V.ref a0])[0]? = some (some (.ref a0)) := rfl
    have hl : (start N_law [V.ref a0]).length = 11 := rfl
    generalize start N_law [V.ref a0] = σ at *
    have hdp : Dp K H0 (.ref a0) (.list (zs.map PyData.int)) := .lst hsq (dpa_ints zs)
    obtain ⟨cs, hcs⟩ : ∃ cs : List Int, cs = [zs.getD 0 0] ++ (zs.drop 1).take (5 - 1) := ⟨_, rfl⟩
    have hEL : ∀ {Γ : Ga}, Γ[0]? = some (some (.list (zs.map PyData.int))) → EL K (tOp rCat (tLst (tCons (tCall (spD K R_cell_at) [] E0 (tCons (tVar 0) (tCons (tC (.int 0)) tNil))) tNil)) (tSl (rSlL K) (tVar 0) (tPart (tC (.int 1))) (tPart (tC (.int 5))))) Γ (cs.map PyData.int) := fun h => by
      rw [hcs, List.map_append]
      exact el_cat (el_lst (ds := [PyData.int (zs.getD 0 0)]) (ea_cons (ed_call (ea_cons (ed_var h) (ea_cons ed_int ea_nil)) ⟨zs, rfl, rfl⟩) ea_nil) (by show 1 ≤ 100000; decide)) (el_sl1 (b := 5) (ed_var h) ed_int ed_int (by decide)) (by rw [List.length_map, List.length_map, List.length_take]; show 1 + _ ≤ _; omega)
    refine for_new (ds := cs.map PyData.int) (hEL rfl) ((sg_none (K := K) hl).know s0 hdp) (fun a xs i σ' H' => σ'.length = 11 ∧ H' a = some (.lst xs) ∧ xs = cs.map V.int) ?_ ?_ ?_ ?_
    · intro a xs H1 ha e1 ha1 hx
      exact ⟨hl, ha1, dpa_ints_eq hx⟩
    · rintro a xs i σ' H' ⟨_, h, _⟩
      exact h
    · rintro a xs i x σ' H' hx ⟨p0, p1, rfl⟩
      obtain ⟨c, rfl⟩ : ∃ c : Int, x = .int c := by
        rw [List.getElem?_map] at hx
        cases hq : cs[i]? with
        | none => rw [hq] at hx; cases hx
        | some c => rw [hq] at hx; cases hx; exact ⟨c, rfl⟩
      refine t_name ?_
      have g1 : Sg K H' (σ'.set 1 (some (.int c))) ((List.replicate 11 none).set 1 (some (.int c))) := (sg_none p0).set 1 (.int c)
      have l1 := sgl (i := 1) (y := some (V.int c)) p0
      generalize σ'.set 1 (some (V.int c)) = σ1 at *
      -- pen
      refine q_setL (el_call (ea_cons (ed_var (k := 1) rfl) ea_nil) ⟨c, rfl, rfl⟩) g1 fun l vs H2 hlf e2 hl2 hd2 => ?_
      have s2 := sgs (i := 2) (y := some (V.ref l)) l1 (by decide)
      have l2 := sgl (i := 2) (y := some (V.ref l)) l1
      generalize σ1.set 2 (some (V.ref l)) = σ2 at *
      have L2' : PenL H2 l := Lst.pen (K := K) ⟨vs, hl2, hd2⟩
      have hal : a ≠ l := fun z => by rw [z, hlf] at p1; cases p1
      have p2 := e2 _ _ p1
      -- slants
      refine q_asg ?_
      refine ⟨.ref l, s2, l, rfl, L2', fun v3 H3 n s hS y3 L3 hv3 => ?_⟩
      try dsimp only
      have p3 := y3 _ _ hal p2
      have g3 : Sg K H3 (σ2.set 3 (some v3)) ((List.replicate 11 none).set 3 (some (slD n s))) := (sg_none l2).set 3 hv3
      have l3 := sgl (i := 3) (y := some v3) l2
      have t2 := sgn (k := 3) (y := some v3) s2 (by decide)
      generalize σ2.set 3 (some v3) = σ3 at *
      have h1 := hS.1
      have h5 := hS.2.1
      -- size
      refine q_set (d := .int (n : Int)) ((ed_I (g := Int.fdiv) (ed_I0 (g := fun i j => i + j) (ed_lenT (ds := intL (2 * n - 1) s) (ed_var (k := 3) rfl)) ed_int) ed_int (div2 _)).to ?_) g3 fun v4 H4 e4 hv4 => ?_
      · rw [intL_len, Int.fdiv_eq_ediv_of_nonneg _ (by decide)]
        congr 1
        omega
      have g4 := (g3.ex e4).set 4 hv4
      have l4 := sgl (i := 4) (y := some v4) l3
      have u2 := sgn (k := 4) (y := some v4) t2 (by decide)
      generalize σ3.set 4 (some v4) = σ4 at *
      -- full
      refine q_set (d := .bool (frees s n).isEmpty) (ed_call (ea_cons (ed_var (k := 3) rfl) ea_nil) ⟨n, s, hS, rfl, rfl⟩) g4 fun v5 H5 e5 hv5 => ?_
      have g5 := (g4.ex e5).set 5 hv5
      have l5 := sgl (i := 5) (y := some v5) l4
      have w2 := sgn (k := 5) (y := some v5) u2 (by decide)
      generalize σ4.set 5 (some v5) = σ5 at *
      -- paper
      refine q_set (d := paperD n s) (ed_call (ea_cons (ed_var (k := 3) rfl) ea_nil) ⟨n, s, hS, rfl, rfl⟩) g5 fun v6 H6 e6 hv6 => ?_
      have g6 := (g5.ex e6).set 6 hv6
      have l6 := sgl (i := 6) (y := some v6) l5
      have x2 := sgn (k := 6) (y := some v6) w2 (by decide)
      generalize σ5.set 6 (some v6) = σ6 at *
      obtain ⟨ww, xx, ew, hw, hpg, hsh, heq⟩ := paper_ok hS
      -- the paper's test
      refine q_ifF (et_or (b := false) ((et_test (ed_notBl (b := true) (c := true) (ed_call (ea_cons (ed_var (k := 3) rfl) (ea_cons (ed_var (k := 6) rfl) ea_nil)) hpg) ed_bl)).to (by rw [decide_eq_true rfl]; rfl)) fun _ => et_or (b := false) ((et_test (ed_neB (ed_eqS (ed_ixT (n := 0) (ds := [.str ww, xx]) ((ed_var (k := 6) rfl).to ew) ed_int rfl rfl) ed_str) (ed_var (k := 5) rfl))).to (by rw [hw, beq_self_eq_true]; rfl)) fun _ => (et_test (ed_neD (ed_call (ea_cons (ed_var (k := 3) rfl) ea_nil) ⟨n, s, hS, rfl, rfl⟩) (ed_var (k := 6) rfl) hsh hsh)).to (by rw [heq]; rfl)) g6 fun H7 e7 => ?_
      have g7 := g6.ex e7
      -- the counts
      have hlen : (frees s n).isEmpty = decide (((frees s n).length : Int) = 0) := by
        cases frees s n with
        | nil => rfl
        | cons f fs => exact (decide_eq_false (by rw [List.length_cons]; omega)).symm
      refine q_ifF (et_or (b := false) ((et_test (ed_neB (ed_var (k := 5) rfl) (ed_eqI (ed_call (ea_cons (ed_var (k := 3) rfl) ea_nil) ⟨n, s, hS, rfl, rfl⟩) ed_int))).to (by rw [← hlen, beq_self_eq_true]; rfl)) fun _ => (et_test (ed_neI (ed_call (ea_cons (ed_var (k := 3) rfl) ea_nil) ⟨n, s, hS, rfl, rfl⟩) (ed_I0 (g := fun i j => i - j) (ed_var (k := 4) rfl) (ed_lenL (ds := freesD n s) (ed_call (ea_cons (ed_var (k := 3) rfl) ea_nil) ⟨n, s, hS, rfl, rfl⟩))))).to (by rw [freesD_len, decide_eq_true rfl]; rfl)) g7 fun H8 e8 => ?_
      have g8 := g7.ex e8
      obtain ⟨v3', f3, d3⟩ := g8.at_ 3 _ rfl
      obtain ⟨v5', f5, d5⟩ := g8.at_ 5 _ rfl
      have e38 := ((((e4.trans e5).trans e6).trans e7).trans e8)
      have p8 := e38 _ _ p3
      have L8 := L3.ex e38
      -- turned, the free rows
      refine q_orCall ((et_test (ed_neI (ed_call (ea_cons (ed_call (ea_cons (ed_var (k := 3) rfl) ea_nil) ⟨n, s, hS, rfl, rfl⟩) ea_nil) ⟨n, turn s n, turn_sl hS, rfl, rfl⟩) (ed_call (ea_cons (ed_var (k := 3) rfl) ea_nil) ⟨n, s, hS, rfl, rfl⟩))).to (by rw [turn_free, decide_eq_true rfl]; rfl)) g8 fun H9 e9 => ?_
      refine ⟨v3', f3, .ref l, x2, v3', l, n, s, rfl, hS, dp_ex e9 _ _ d3, L8.ex e9, fun H10 y10 L10 => ⟨true, rfl, iteF ?_⟩⟩
      have tx10 : Tx H8 H10 := (Tx.of e9).trans ((L8.ex e9).tx y10)
      have p10 := y10 _ _ hal (e9 _ _ p8)
      have g10 : Sg K H10 σ6 (((List.replicate 11 none).set 3 (some (slD n s))).set 5 (some (.bool (frees s n).isEmpty))) := ((sg_none l6).know f3 (dp_tx tx10 _ _ (noL_sl _ _) d3)).know f5 (dp_tx tx10 _ _ rfl d5)
      clear g8 g7 g6 g5 g4 g3
      -- weak
      refine q_set (d := weakD s n) (ed_call (ea_cons (ed_var (k := 3) rfl) ea_nil) ⟨n, s, hS, rfl, rfl⟩) g10 fun v7 H11 e11 hv7 => ?_
      have g11 := (g10.ex e11).set 7 hv7
      have l7 := sgl (i := 7) (y := some v7) l6
      generalize σ6.set 7 (some v7) = σ7 at *
      have p11 := e11 _ _ p10
      by_cases hm : many s n = n
      · have ew : weakD s n = .none := if_pos hm
        rw [ew] at g11
        refine st_ifT (et_test (ed_isN (d := .none) (ed_var (k := 7) rfl) rfl)) g11 fun H12 e12 => ?_
        have g12 := g11.ex e12
        obtain ⟨k, rfl⟩ : ∃ k, n = k + 1 := ⟨n - 1, by omega⟩
        obtain ⟨st, hst⟩ := Option.isSome_iff_exists.mp (runs_some (s := s) (n := k + 1) (i := k + 1) k (by show k < many s (k + 1); omega))
        have S := step_ok (Nat.le_refl _) hst
        have bd := fun j hj => stepA_bd hS (Nat.le_refl _) hst j hj
        have F : Full s (k + 1) := by
          have := step_full (Nat.le_refl _) hst
          rw [cor_full] at this
          exact this
        have hF : (frees s (k + 1)).isEmpty = true := empty_iff.mpr F
        rw [hF] at g12
        have e2 : stepsD s (k + 1) (k + 1) = stepsD s (k + 1) k ++ [stepD (k + 1) st] := by
          unfold stepsD
          rw [rng_snoc, hst]
          rfl
        refine q_pair (k1 := 8) (k2 := 9) (d := rowD (k + 1) st.1) (e := rowD (k + 1) st.2) (ed_lastL (ds := stepsD s (k + 1) k) (d := stepD (k + 1) st) (ed_call (ea_cons (ed_var (k := 3) rfl) ea_nil) ⟨k + 1, s, hS, hm, rfl, by rw [e2]⟩) (ed_neg ed_int)) g12 fun v8 v9 H13 e13 hv8 hv9 => ?_
        have g13 := ((g12.ex e13).set 8 hv8).set 9 hv9
        refine st_ifF (et_or (b := false) (et_not (b := true) (et_B (ed_var (k := 5) rfl))) fun _ => (et_test (ed_notBl (b := true) (c := true) (ed_call (ea_cons (ed_var (k := 3) rfl) (ea_cons (ed_tup (ds := [.str "full", rowD (k + 1) st.1, rowD (k + 1) st.2]) (ea_cons ed_str (ea_cons (ed_var (k := 8) rfl) (ea_cons (ed_var (k := 9) rfl) ea_nil))) (by show 3 ≤ 100000; decide)) ea_nil)) ⟨k + 1, s, _, hS, rfl, .inl ⟨st.1, st.2, rfl, ⟨400, fun j hj => (bd j hj).1, by omega, S.f1⟩, ⟨400, fun j hj => (bd j hj).2, by omega, S.l1⟩, S.f0, rfl⟩⟩) ed_bl)).to (by rw [decide_eq_true rfl]; rfl)) g13 fun H14 e14 => ?_
        exact ⟨sgl (sgl l7), e14 _ _ (e13 _ _ (e12 _ _ p11)), rfl⟩
      · have hle : many s n ≤ n := runs_le s n n
        have ew : weakD s n = .int ((many s n + 1 : Nat) : Int) := if_neg hm
        rw [ew] at g11
        refine st_ifF (et_test (ed_isN (d := .int ((many s n + 1 : Nat) : Int)) (ed_var (k := 7) rfl) rfl)) g11 fun H12 e12 => ?_
        have g12 := g11.ex e12
        have hsome : ∀ i, i < many s n → (stepA s n i).isSome = true := fun i hi => runs_some (i := n) i hi
        have hnone : stepA s n (many s n) = none := runs_stop (i := n) (by show many s n < n; omega)
        have hnf : ¬ Full (cor s n (many s n + 1)) (many s n + 1) := step_weak (by omega) hnone hsome
        generalize many s n = m at *
        have hb : (frees (cor s n (m + 1)) (m + 1)).isEmpty = false := Bool.eq_false_iff.mpr fun z => hnf (empty_iff.mp z)
        refine st_ifF (et_or (b := false) ((et_B (ed_call (ea_cons (ed_call (ea_cons (ed_var (k := 3) rfl) (ea_cons (ed_var (k := 7) rfl) ea_nil)) ⟨n, m + 1, s, hS, by omega, by omega, rfl, rfl⟩) ea_nil) ⟨m + 1, cor s n (m + 1), cor_sl hS (by omega) (by omega), rfl, rfl⟩)).to hb) fun _ => et_not (b := true) ((et_B (ed_allB (n := m) (b := fun i => (frees (cor s n (i + 1)) (i + 1)).isEmpty) (EL.ed (el_lcN (n := m) (ds := fun i => .int (1 + (i : Int))) (ei_rng2 (ea_cons ed_int (ea_cons (ed_var (k := 7) rfl) ea_nil)) (by omega) (by omega)) (by decide) (fun i hi => ?_) (fun _ _ => rfl) (by omega))))).to ?_)) g12 fun H13 e13 => ?_
        · have ei : (1 : Int) + (i : Int) = ((i + 1 : Nat) : Int) := by omega
          exact ed_call (ea_cons (ed_call (ea_cons (ed_var (k := 3) rfl) (ea_cons (ed_var (k := 10) rfl) ea_nil)) ⟨n, i + 1, s, hS, by omega, by omega, by rw [ei], rfl⟩) ea_nil) ⟨i + 1, cor s n (i + 1), cor_sl hS (by omega) (by omega), rfl, rfl⟩
        · refine List.all_eq_true.mpr fun i hi => ?_
          have hi := List.mem_range.mp hi
          obtain ⟨st, hst⟩ := Option.isSome_iff_exists.mp (hsome i hi)
          exact empty_iff.mpr (step_full (by omega) hst)
        · exact ⟨l7, e13 _ _ (e12 _ _ p11), rfl⟩
    · rintro a xs σ' H' _ _
      exact q H'⟩)
end
end K35
/-! The head: the top run once in the kernel. -/
namespace K35
open PySem PySem.Spec PyProof.Rows L2
abbrev Rw : PySem.W.OpenRow := PySem.W.OpenLaw.row PySem.Challenge.rw_slanttables_k35_whole_papers
def obG (g : Addr → Option Obj) : He.AlD × Bool := (He.obsD fa fn (He.frG g (He.asD g 4)), exB (He.frG g (He.asD g 4)))
def hkk : PySem.W.Hook where
  α := He.AlD × Bool
  obs := fun s => obG s.heap.get?
  val := fun _ => (He.valD fn, true)
  says := fun _ h => ∃ K : PySem.W.Frag, K.In h ∧ He.SaysD fa fn K ∧ exB K = true
  of := fun _ _ e => ⟨_, He.frG_in, congrArg (fun z : He.AlD × Bool => z.1) e, congrArg (fun z : He.AlD × Bool => z.2) e⟩
  keeps := fun _ _ _ ⟨K, hK, c⟩ k => ⟨K, PySem.W.Frag.In.keeps hK k, c⟩
def ob (s : PySem.W.SharedT) : He.AlD × Bool := obG (HandSHeadRun.getT s)
theorem ob_eq (s : PySem.W.SharedT) : ob s = hkk.obs s.abs := by
  have e : HandSHeadRun.getT s = s.abs.heap.get? := funext (HandSHeadRun.getT_eq s)
  unfold ob
  rw [e]
  rfl
theorem run (w : World) : HandSHeadRun.RunEq Rw (PySem.W.view Rw.prog [70]) hkk ob 4000 loose w := by
  intro os
  kernel_rfl
end K35
/-! The head and the law joined. -/
namespace K35
open PySem PySem.Spec PyProof.Rows L2
theorem facts {P : Program} {w : World} {h : Heap} {K : PySem.W.Frag} {mg : Str → Option Value} {f : Addr} (KX : K.In h) (G : h.Ns mainGlobals mg) (hfa : mg ("law" : Str) = some (.ref f)) (c : He.SaysD K35.fa K35.fn K) (cb : exB K = true) :
    ∃ fd : FuncData, (∀ (s : Shared) (v : Value), BindsTo s fd ⟨[v], []⟩ [("_law_script", v)]) ∧ ∀ base : Heap, FnOk P w K mg base CX0 11 f fd ["_law_script"] (spLaw K) := by
  have W : Wd K mg := ⟨⟨h, KX, G⟩, c, cb⟩
  have e := hfa.symm.trans (W.glo 55 (x := "law"))
  cases e
  exact f_law W
end K35
open PySem PySem.W PySem.Calls PyProof.Rows
theorem PySem.Challenge.cw_slanttables_k35_whole_papers_holds : PySem.Challenge.rw_slanttables_k35_whole_papers.Holds := by
  w_on; o_law
  refine HandSHeadRun.head_any (r := OpenLaw.row PySem.Challenge.rw_slanttables_k35_whole_papers) (q := view (OpenLaw.row PySem.Challenge.rw_slanttables_k35_whole_papers).prog [70]) (H := K35.hkk) (ob := K35.ob) (M := 4000) (loose := K35.loose) (d := HandSHeadRun.topDef (OpenLaw.row PySem.Challenge.rw_slanttables_k35_whole_papers).prog 70) (kwd := []) K35.ob_eq
    (by kernel_rfl) (fun s => by kernel_rfl) K35.run (by kernel_rfl) (by kernel_rfl) (by kernel_rfl) (by rfl) (by first | assumption | decide +kernel) (by decide +kernel) ⟨rfl, rfl, rfl, rfl, rfl, by decide +kernel⟩ ?hw ?hc
  case hw => w_witness2
  case hc =>
    refine L2.walk_ofE (l := PySem.Challenge.rw_slanttables_k35_whole_papers) (n := 63) (k := 11) (x := "_law_script") (CX := L2.CX0) rfl (by decide) (by kernel_rfl) ⟨rfl, by decide, by decide⟩ ?F (fun _ _ _ _ z => z)
    intro w mg fa h Y G hmg0
    obtain ⟨K, KX, c, cb⟩ := Y
    have hmg : mg ("law" : PySem.Str) = some (.ref fa) := by
      have e : (HandSHeadRun.topDef (OpenLaw.row PySem.Challenge.rw_slanttables_k35_whole_papers).prog 70).name = ("law" : PySem.Str) := by kernel_rfl
      rw [← e]
      exact hmg0
    obtain ⟨fd, hb, hF⟩ := K35.facts (P := (PySem.Challenge.rw_slanttables_k35_whole_papers).prog) (w := w) KX G hmg c cb
    exact ⟨K, fd, K35.spLaw K, KX, hb, fun H a ns hl _ hS => ⟨a, ns, rfl, Nat.le_trans hl (by decide), hS, fun _ => rfl⟩, fun base _ _ => hF base⟩
