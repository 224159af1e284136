import Derived.Test.YtoegeljjfhbpeaaJH
set_option linter.unusedVariables false
namespace Go.Proofs.Ytoegeljjfhbpeaa.J
open Go.RowKit

/-! frames, one behind the other, and what Scan tells of them -/
def framesG : Nat → List (List Int) → List Int
  | _, [] => []
  | n, s :: l => frameL (n : Int) s ++ framesG (n + 1) l
def endsG : Nat → List (List Int) → List (List Int × Nat)
  | _, [] => []
  | a, s :: l => (s, a + 8 + s.length) :: endsG (a + 8 + s.length) l
def Fine (l : List (List Int)) : Prop := ∀ s ∈ l, Bytes s ∧ s.length ≤ 65536
theorem Fine.head {s : List Int} {l : List (List Int)} (h : Fine (s :: l)) : Bytes s ∧ s.length ≤ 65536 := h s (List.mem_cons_self ..)
theorem Fine.tail {s : List Int} {l : List (List Int)} (h : Fine (s :: l)) : Fine l := fun x hx => h x (List.mem_cons_of_mem _ hx)
theorem frameL_len (n : Int) (s : List Int) : (frameL n s).length = 8 + s.length := by
  unfold frameL
  rw [List.length_append, List.length_append]
  rfl
theorem frameL_head (n : Int) (s t : List Int) (hs : s.length ≤ 65536) : headNum (frameL n s ++ t) = (s.length : Int) := by
  unfold frameL headNum four byt
  simp only [List.cons_append, List.nil_append, List.getD_cons_zero, List.getD_cons_succ]
  omega
theorem frameL_drop4 (n : Int) (s t : List Int) : ((frameL n s ++ t).drop 4).take 4 = lineSum n s := by
  unfold frameL four lineSum low4
  rfl
theorem frameL_drop8 (n : Int) (s t : List Int) : (frameL n s ++ t).drop 8 = s ++ t := by
  unfold frameL four lineSum low4
  rfl
theorem frameL_drop (n : Int) (s t : List Int) : (frameL n s ++ t).drop (8 + s.length) = t := by
  rw [← List.drop_drop, frameL_drop8]
  exact List.drop_left' rfl
theorem front_frame (n : Nat) (s t : List Int) (hs : s.length ≤ 65536) : front n (frameL (n : Int) s ++ t) = some s := by
  have hh := frameL_head n s t hs
  have hl := frameL_len n s
  unfold front
  rw [if_pos (by rw [List.length_append]; omega), hh, if_pos (by rw [List.length_append]; omega), Int.toNat_natCast, frameL_drop8, List.take_left' rfl, frameL_drop4, if_pos rfl]
/-- a frame that is cut off is none -/
theorem front_cut (n : Nat) (s u v : List Int) (hs : s.length ≤ 65536) (h : frameL (n : Int) s = u ++ v) (hv : v ≠ []) : front n u = none := by
  have hl := frameL_len n s
  have hvl : 0 < v.length := List.length_pos_iff.2 hv
  rw [h, List.length_append] at hl
  unfold front
  split
  · rename_i h8
    have hh : headNum u = (s.length : Int) := by
      have h1 := frameL_head n s [] hs
      rw [List.append_nil, h] at h1
      rw [← h1]
      unfold headNum byt
      have e : ∀ j, j < 8 → (u ++ v).getD j 0 = u.getD j 0 := fun j hj => by
        rw [List.getD_eq_getElem?_getD, List.getD_eq_getElem?_getD, List.getElem?_append_left (by omega)]
      rw [e 0 (by omega), e 1 (by omega), e 2 (by omega), e 3 (by omega)]
    rw [hh, if_neg (by omega)]
  · rfl
theorem front_nil (n : Nat) : front n [] = none := rfl
theorem framesG_append : ∀ (l m : List (List Int)) (n : Nat), framesG n (l ++ m) = framesG n l ++ framesG (n + l.length) m
  | [], m, n => rfl
  | s :: l, m, n => by
    simp only [List.cons_append, framesG, List.length_cons]
    rw [framesG_append l m (n + 1), List.append_assoc, show n + 1 + l.length = n + (l.length + 1) by omega]
theorem framesG_bytes : ∀ (l : List (List Int)) (n : Nat), Fine l → Bytes (framesG n l)
  | [], n, _ => by intro x hx; simp [framesG] at hx
  | s :: l, n, h => by
    simp only [framesG]
    exact (frameL_bytes _ h.head.1).append (framesG_bytes l (n + 1) h.tail)
theorem framesG_len : ∀ (l : List (List Int)) (n m : Nat), (framesG n l).length = (framesG m l).length
  | [], _, _ => rfl
  | s :: l, n, m => by
    simp only [framesG, List.length_append, frameL_len]
    rw [framesG_len l (n + 1) (m + 1)]
theorem framesG_ge : ∀ (l : List (List Int)) (n : Nat), 8 * l.length ≤ (framesG n l).length
  | [], _ => Nat.le_refl _
  | s :: l, n => by
    simp only [framesG, List.length_append, frameL_len, List.length_cons]
    have := framesG_ge l (n + 1)
    omega
theorem scanG_frames : ∀ (l : List (List Int)) (k n a : Nat) (b t : List Int), Fine l → b.drop a = framesG n l ++ t → l.length ≤ k → scanG k n a b = endsG a l ++ scanG (k - l.length) (n + l.length) (a + (framesG n l).length) b ∧ b.drop (a + (framesG n l).length) = t
  | [], k, n, a, b, t, _, h, hk => ⟨rfl, h⟩
  | s :: l, k, n, a, b, t, hf, h, hk => by
    simp only [framesG, List.append_assoc] at h
    obtain ⟨k, rfl⟩ : ∃ j, k = j + 1 := ⟨k - 1, by rw [List.length_cons] at hk; omega⟩
    have h1 : front n (b.drop a) = some s := by rw [h]; exact front_frame n s _ hf.head.2
    have h2 : b.drop (a + 8 + s.length) = framesG (n + 1) l ++ t := by
      rw [Nat.add_assoc, ← List.drop_drop, h, frameL_drop]
    obtain ⟨e1, e2⟩ := scanG_frames l k (n + 1) (a + 8 + s.length) b t hf.tail h2 (by rw [List.length_cons] at hk; omega)
    have hlen : a + (framesG n (s :: l)).length = a + 8 + s.length + (framesG (n + 1) l).length := by
      simp only [framesG, List.length_append, frameL_len]
      omega
    refine ⟨?_, by rw [hlen]; exact e2⟩
    rw [scanG_some h1, e1, hlen, List.length_cons, show k + 1 - (l.length + 1) = k - l.length by omega, show n + 1 + l.length = n + (l.length + 1) by omega]
    rfl
/-- frames and, behind them, what is none -/
theorem scan_frames (l : List (List Int)) (t : List Int) (hf : Fine l) (ht : front l.length t = none) : scanL (framesG 0 l ++ t) = endsG 0 l := by
  have hk : l.length ≤ (framesG 0 l ++ t).length + 1 := by
    have := framesG_ge l 0
    rw [List.length_append]
    omega
  obtain ⟨h1, h2⟩ := scanG_frames l _ 0 0 (framesG 0 l ++ t) t hf rfl hk
  unfold scanL
  rw [h1, scanG_none (by rw [h2, Nat.zero_add]; exact ht), List.append_nil]
theorem endsG_fst : ∀ (l : List (List Int)) (a : Nat), (endsG a l).map (·.1) = l
  | [], _ => rfl
  | s :: l, a => by simp only [endsG, List.map_cons]; rw [endsG_fst l]
theorem endsG_last : ∀ (l : List (List Int)) (s : List Int) (n a : Nat), endOf ((s, a) :: endsG a l) = a + (framesG n l).length
  | [], _, _, a => rfl
  | s' :: l, s, n, a => by
    have h := endsG_last l s' (n + 1) (a + 8 + s'.length)
    unfold endOf at h ⊢
    simp only [endsG, List.getLast?_cons_cons]
    rw [h]
    simp only [framesG, List.length_append, frameL_len]
    omega
theorem endOf_ends (l : List (List Int)) : endOf (endsG 0 l) = (framesG 0 l).length := by
  cases l with
  | nil => rfl
  | cons s l =>
    simp only [endsG]
    rw [endsG_last l s 1]
    simp only [framesG, List.length_append, frameL_len]
/-- frames that are cut off: some of them, and what is none -/
theorem take_frames : ∀ (l : List (List Int)) (n c : Nat), Fine l → c ≤ (framesG n l).length → ∃ m u, m ≤ l.length ∧ (framesG n l).take c = framesG n (l.take m) ++ u ∧ front (n + m) u = none ∧ (framesG n (l.take m)).length ≤ c ∧ (m = l.length ∨ c < (framesG n (l.take (m + 1))).length)
  | [], n, c, _, hc => ⟨0, [], Nat.le_refl _, by simp [framesG], rfl, Nat.zero_le _, .inl rfl⟩
  | s :: l, n, c, hf, hc => by
    simp only [framesG, List.length_append] at hc ⊢
    have hl := frameL_len n s
    rcases Nat.lt_or_ge c (frameL (n : Int) s).length with h | h
    · refine ⟨0, (frameL (n : Int) s).take c, Nat.zero_le _, ?_, ?_, Nat.zero_le _, .inr ?_⟩
      · rw [List.take_append_of_le_length (Nat.le_of_lt h)]
        rfl
      · refine front_cut n s _ ((frameL (n : Int) s).drop c) hf.head.2 (List.take_append_drop c _).symm ?_
        intro e
        have := congrArg List.length e
        rw [List.length_drop] at this
        simp at this
        omega
      · simp only [Nat.zero_add, List.take_succ_cons, List.take_zero, framesG, List.append_nil]
        exact h
    · obtain ⟨m, u, h1, h2, h3, h4, h5⟩ := take_frames l (n + 1) (c - (frameL (n : Int) s).length) hf.tail (by omega)
      refine ⟨m + 1, u, by rw [List.length_cons]; omega, ?_, by rw [show n + (m + 1) = n + 1 + m by omega]; exact h3, ?_, ?_⟩
      · rw [List.take_append, List.take_of_length_le h, h2, List.take_succ_cons]
        simp only [framesG, List.append_assoc]
      · simp only [List.take_succ_cons, framesG, List.length_append]
        omega
      · rcases h5 with h5 | h5
        · exact .inl (by rw [List.length_cons, h5])
        · refine .inr ?_
          simp only [List.take_succ_cons, framesG, List.length_append] at h5 ⊢
          omega
theorem scanG_end : ∀ (k n a : Nat) (b : List Int), a ≤ b.length → ∀ x ∈ scanG k n a b, x.2 ≤ b.length
  | 0, _, _, _, _, x, hx => by simp [scanG] at hx
  | k + 1, n, a, b, h, x, hx => by
    cases hf : front n (b.drop a) with
    | none => rw [scanG_none hf] at hx; simp at hx
    | some s =>
      rw [scanG_some hf] at hx
      have hb : a + 8 + s.length ≤ b.length := by
        unfold front at hf
        split at hf
        · split at hf
          · split at hf
            · injection hf with hf
              rename_i h1 h2 h3
              subst hf
              rw [List.length_take, List.length_drop, List.length_drop]
              rw [List.length_drop] at h1 h2
              omega
            · cases hf
          · cases hf
        · cases hf
      rcases List.mem_cons.1 hx with rfl | hx
      · exact hb
      · exact scanG_end k (n + 1) _ b hb x hx
theorem endOf_le (b : List Int) : endOf (scanL b) ≤ b.length := by
  unfold endOf
  split
  · exact Nat.zero_le _
  · rename_i x hx
    exact scanG_end _ _ _ b (Nat.zero_le _) x (List.mem_of_getLast? hx)
/-- what Scan tells are the frames at the front -/
theorem front_some {n : Nat} {b s : List Int} (hb : Bytes b) (h : front n b = some s) : ∃ t, b = frameL (n : Int) s ++ t ∧ Bytes s ∧ s.length ≤ 65536 := by
  unfold front at h
  split at h
  · rename_i h8
    split at h
    · rename_i h1
      split at h
      · rename_i h2
        injection h with h
        have hd := getD_byte hb
        have hn0 : 0 ≤ headNum b := by unfold headNum; have := hd 0; have := hd 1; have := hd 2; have := hd 3; omega
        obtain ⟨L, hL⟩ : ∃ L : Nat, headNum b = L := ⟨(headNum b).toNat, by omega⟩
        have hl : s.length = L := by rw [← h, hL, List.length_take, List.length_drop]; omega
        have e := (frame_eq (n : Int) b hb 0 L (by omega) (by rw [List.drop_zero]; exact hL)).2 (by rw [Nat.zero_add, Nat.zero_add, ← Int.toNat_natCast L, ← hL, h]; rw [h] at h2; exact h2)
        rw [Nat.zero_add, List.drop_zero, show ((b.drop 8).take L) = s by rw [← h, hL]; rfl] at e
        refine ⟨b.drop (8 + L), by rw [e]; exact (List.take_append_drop _ _).symm, by rw [← h]; exact (hb.drop 8).take _, by omega⟩
      · cases h
    · cases h
  · cases h
end Go.Proofs.Ytoegeljjfhbpeaa.J
