/- What Scan tells of frames of which one byte is turned. No condition stands open. -/
import Derived.Test.YtoegeljjfhbpeaaJY
set_option linter.unusedVariables false
set_option linter.unusedSimpArgs false
namespace Go.Proofs.Ytoegeljjfhbpeaa.J
open Go.RowKit Go.Proofs.YtoegeljjfhbpeaaW.PrintWords Go.Proofs.YtoegeljjfhbpeaaW.PrintLast Go.Proofs.YtoegeljjfhbpeaaW.PrintMore

theorem xor8 (a b : Nat) (ha : a < 256) (hb : b < 256) : Go.bits .xor .u8 (a : Int) (b : Int) = ((a ^^^ b : Nat) : Int) := by
  have hx : a ^^^ b < 2 ^ 8 := Nat.xor_lt_two_pow (by omega) (by omega)
  have h1 : (BitVec.ofInt 8 (a : Int)).toNat = a := by
    rw [BitVec.ofInt_natCast, BitVec.toNat_ofNat]; exact Nat.mod_eq_of_lt (by omega)
  have h2 : (BitVec.ofInt 8 (b : Int)).toNat = b := by
    rw [BitVec.ofInt_natCast, BitVec.toNat_ofNat]; exact Nat.mod_eq_of_lt (by omega)
  show IntKind.u8.wrap ((BitVec.ofInt 8 (a : Int) ^^^ BitVec.ofInt 8 (b : Int)).toNat : Int) = _
  rw [BitVec.toNat_xor, h1, h2, IntKind.wrap_u8]
  omega
theorem xor_ne {x y : Int} (hx : 0 ≤ x ∧ x ≤ 255) (hy : 0 ≤ y ∧ y ≤ 255) (h0 : y ≠ 0) : Go.bits .xor .u8 x y ≠ x := by
  obtain ⟨a, rfl⟩ := Int.eq_ofNat_of_zero_le hx.1
  obtain ⟨b, rfl⟩ := Int.eq_ofNat_of_zero_le hy.1
  rw [xor8 a b (by omega) (by omega)]
  intro e
  have e2 : a ^^^ b = a ^^^ 0 := by rw [Nat.xor_zero]; omega
  have e3 := xor_l e2
  omega
theorem low4_inj {n m : Int} (hn : 0 ≤ n) (hm : 0 ≤ m) (h : low4 n = low4 m) : n = m := by
  unfold low4 at h
  simp only [List.cons.injEq, and_true] at h
  omega
theorem lineSum_len (n : Int) (s : List Int) : (lineSum n s).length = 4 := rfl
theorem set_drop (l : List Int) (i j : Nat) (c : Int) (h : i ≤ j) : (l.set j c).drop i = (l.drop i).set (j - i) c := by
  rw [List.drop_set, if_neg (by omega)]
theorem headNum_set (t : List Int) (j : Nat) (c : Int) (hj : 4 ≤ j) : headNum (t.set j c) = headNum t := by
  unfold headNum byt
  have e : ∀ i, i < 4 → (t.set j c).getD i 0 = t.getD i 0 := fun i hi => by
    rw [List.getD_eq_getElem?_getD, List.getD_eq_getElem?_getD, List.getElem?_set_ne (by omega)]
  rw [e 0 (by omega), e 1 (by omega), e 2 (by omega), e 3 (by omega)]
/-- a frame of which one byte behind the first four is turned is none -/
theorem front_turned (n : Nat) (s rest : List Int) (hs : s.length ≤ 65536) (hb : Bytes s) (j : Nat) (hj : j < s.length + 4) (c : Int) (hc : 0 ≤ c ∧ c ≤ 255) (hne : c ≠ (frameL (n : Int) s ++ rest).getD (4 + j) 0) : front n ((frameL (n : Int) s ++ rest).set (4 + j) c) = none := by
  have hl := frameL_len n s
  have hh := frameL_head n s rest hs
  obtain ⟨t, ht⟩ : ∃ t, frameL (n : Int) s ++ rest = t := ⟨_, rfl⟩
  have h4 : (t.drop 4).take 4 = lineSum n s := by rw [← ht]; exact frameL_drop4 n s rest
  have h8 : (t.drop 8) = s ++ rest := by rw [← ht]; exact frameL_drop8 n s rest
  have htl : t.length = 8 + s.length + rest.length := by rw [← ht, List.length_append, hl]
  rw [ht] at hh hne ⊢
  unfold front
  rw [if_pos (by rw [List.length_set]; omega), headNum_set t _ c (by omega), hh, if_pos (by rw [List.length_set]; omega), Int.toNat_natCast]
  rcases Nat.lt_or_ge j 4 with h | h
  · rw [if_neg]
    intro e
    have e8 : ((t.set (4 + j) c).drop 8).take s.length = s := by
      rw [List.drop_set, if_pos (by omega), h8, List.take_left' rfl]
    rw [e8, set_drop t 4 (4 + j) c (by omega), List.take_set, h4, show 4 + j - 4 = j by omega] at e
    have e2 := congrArg (fun l => l.getD j 0) e
    simp only [List.getD_eq_getElem?_getD] at e2
    rw [List.getElem?_set_self (by rw [lineSum_len]; omega)] at e2
    apply hne
    rw [List.getD_eq_getElem?_getD]
    have e3 : t[4 + j]? = (lineSum (n : Int) s)[j]? := by
      rw [← h4, List.getElem?_take, if_pos h, List.getElem?_drop]
    rw [e3]
    exact e2
  · rw [if_neg]
    intro e
    have e4 : ((t.set (4 + j) c).drop 4).take 4 = lineSum n s := by
      rw [set_drop t 4 (4 + j) c (by omega), List.take_set, List.set_eq_of_length_le (by rw [List.length_take]; omega), h4]
    have e8 : ((t.set (4 + j) c).drop 8).take s.length = s.set (j - 4) c := by
      rw [set_drop t 8 (4 + j) c (by omega), h8, List.take_set, List.take_left' rfl, show 4 + j - 8 = j - 4 by omega]
    rw [e4, e8] at e
    have e5 := low4_inj (sumOf_range _).1 (sumOf_range _).1 e
    rw [List.length_set] at e5
    have hi : j - 4 < s.length := by omega
    have es : s.set (j - 4) c = s.take (j - 4) ++ c :: s.drop (j - 4 + 1) := by
      rw [List.set_eq_take_append_cons_drop, if_pos hi]
    have es2 : s = s.take (j - 4) ++ s[j - 4] :: s.drop (j - 4 + 1) := by
      rw [← List.drop_eq_getElem_cons hi, List.take_append_drop]
    rw [es] at e5
    have e6 : sumOf ((four (s.length : Int) ++ four (n : Int) ++ s.take (j - 4)) ++ s[j - 4] :: s.drop (j - 4 + 1)) = sumOf ((four (s.length : Int) ++ four (n : Int) ++ s.take (j - 4)) ++ c :: s.drop (j - 4 + 1)) := by
      rw [List.append_assoc, ← es2, e5]
      simp only [List.append_assoc]
    have e7 := sumOf_turn _ _ (hb _ (List.getElem_mem hi)) hc e6
    apply hne
    rw [List.getD_eq_getElem?_getD]
    have e9 : t[4 + j]? = s[j - 4]? := by
      have : (t.drop 8)[j - 4]? = s[j - 4]? := by rw [h8, List.getElem?_append_left hi]
      rw [List.getElem?_drop, show 8 + (j - 4) = 4 + j by omega] at this
      exact this
    rw [e9, List.getElem?_eq_getElem hi]
    exact e7.symm
/-- of frames of which one byte behind the first four of the k-th is turned the first k lines are told -/
theorem scan_turned {l : List ByteArray} (hf : Fine (l.map bytesOf)) (k : Nat) (hk : k < l.length) (j : Nat) (hj : j < (l.getD k ByteArray.empty).size + 4) (c : Int) (hc : 0 ≤ c ∧ c ≤ 255) (hne : c ≠ (framesB l).getD ((framesB (l.take k)).length + (4 + j)) 0) :
    (framesB (l.take k)).length + (4 + j) < (framesB l).length ∧ told ((framesB l).set ((framesB (l.take k)).length + (4 + j)) c) = l.take k ∧ endOf (scanL ((framesB l).set ((framesB (l.take k)).length + (4 + j)) c)) = (framesB (l.take k)).length := by
  have hlk : (l.take k).length = k := by rw [List.length_take]; omega
  have hs : l.getD k ByteArray.empty = l[k] := by simp [List.getD, hk]
  rw [hs] at hj
  have hsp : framesB l = framesB (l.take k) ++ (frameL (k : Int) (bytesOf l[k]) ++ framesG (k + 1) ((l.drop (k + 1)).map bytesOf)) := by
    have h1 : l = l.take k ++ (l[k] :: l.drop (k + 1)) := by rw [← List.drop_eq_getElem_cons hk, List.take_append_drop]
    conv => lhs; rw [h1]
    unfold framesB
    rw [List.map_append, framesG_append, List.length_map, hlk, Nat.zero_add, List.map_cons]
    simp only [framesG]
  have hfk := hf (bytesOf l[k]) (List.mem_map.2 ⟨_, List.getElem_mem hk, rfl⟩)
  rw [bytesOf_length] at hfk
  have hfl := frameL_len (k : Int) (bytesOf l[k])
  rw [bytesOf_length] at hfl
  have hset : (framesB l).set ((framesB (l.take k)).length + (4 + j)) c = framesB (l.take k) ++ (frameL (k : Int) (bytesOf l[k]) ++ framesG (k + 1) ((l.drop (k + 1)).map bytesOf)).set (4 + j) c := by
    rw [hsp, List.set_append_right _ _ (by omega), show (framesB (l.take k)).length + (4 + j) - (framesB (l.take k)).length = 4 + j by omega]
  have hg : (framesB l).getD ((framesB (l.take k)).length + (4 + j)) 0 = (frameL (k : Int) (bytesOf l[k]) ++ framesG (k + 1) ((l.drop (k + 1)).map bytesOf)).getD (4 + j) 0 := by
    rw [hsp, List.getD_eq_getElem?_getD, List.getElem?_append_right (by omega), show (framesB (l.take k)).length + (4 + j) - (framesB (l.take k)).length = 4 + j by omega, ← List.getD_eq_getElem?_getD]
  have ht := front_turned k (bytesOf l[k]) (framesG (k + 1) ((l.drop (k + 1)).map bytesOf)) (by rw [bytesOf_length]; exact hfk.2) hfk.1 j (by rw [bytesOf_length]; exact hj) c hc (by rw [← hg]; exact hne)
  have h := scan_lines (l := l.take k) (fun s hs => by rw [List.map_take] at hs; exact hf s (List.mem_of_mem_take hs)) _ (by rw [hlk]; exact ht)
  rw [hset]
  refine ⟨?_, h.1, h.2⟩
  rw [hsp, List.length_append, List.length_append, hfl]
  omega
end Go.Proofs.Ytoegeljjfhbpeaa.J
