/- Cut of both tapes in one form, and what a crash leaves. No condition stands open. -/
import Derived.Test.YtoegeljjfhbpeaaJCr
set_option linter.unusedVariables false
set_option linter.unusedSimpArgs false
namespace Go.Proofs.Ytoegeljjfhbpeaa.J
open Go.RowKit Go.Proofs.YtoegeljjfhbpeaaW.PrintWords Go.Proofs.YtoegeljjfhbpeaaW.PrintLast Go.Proofs.YtoegeljjfhbpeaaW.PrintMore

def cutOf (xs : List Int) (sure : Nat) (n : Int) : Int × List Int × Nat := if n < 0 ∨ (xs.length : Int) < n then (2, xs, sure) else (0, xs.take n.toNat, min sure n.toNat)
theorem str_size (l : List Int) : (strOfNums l).size = l.length := by
  simp [strOfNums, ByteArray.size]
theorem str_app (l m : List Int) : strOfNums l ++ strOfNums m = strOfNums (l ++ m) := by
  apply ByteArray.ext
  simp [strOfNums, ByteArray.data_append]
theorem str_cut (l : List Int) (n : Nat) : (strOfNums l).extract 0 n = strOfNums (l.take n) := by
  apply ByteArray.ext
  simp [strOfNums, ByteArray.data_extract, List.map_take]
theorem cutOf_facts {xs : List Int} {sure : Nat} (n : Int) (hs : sure ≤ xs.length) (hb : Bytes xs) : (cutOf xs sure n).2.2 ≤ (cutOf xs sure n).2.1.length ∧ (cutOf xs sure n).2.1.length ≤ xs.length ∧ Bytes (cutOf xs sure n).2.1 := by
  unfold cutOf
  split
  · exact ⟨hs, Nat.le_refl _, hb⟩
  · refine ⟨?_, ?_, hb.take _⟩
    · simp only [List.length_take]
      omega
    · simp only [List.length_take]
      omega
theorem cut_all {w : World} {base g : Nat} {v : Value} {xs : List Int} {sure : Nat} (T : TapeAt w base g v xs sure) (n : Int) (hm : xs.length ≤ 140737488355328) :
    Calls Try.prog 32 #[.pointer (some ⟨g, 0, none⟩), .int .i64 n] w fun e w' => e = .returned (.int .i64 (cutOf xs sure n).1) ∧ ∃ v', TapeAt w' base g v' (cutOf xs sure n).2.1 (cutOf xs sure n).2.2 ∧ Keeps (fun k => k = g) w w' ∧ v'.ownBlock = v.ownBlock := by
  by_cases h : n < 0 ∨ (xs.length : Int) < n
  · have e0 : cutOf xs sure n = (2, xs, sure) := if_pos h
    rw [e0]
    exact (cut_bad T n h).mono fun e w' ⟨he, hw⟩ => ⟨he, v, hw ▸ T, hw ▸ Keeps.refl _ _, rfl⟩
  · have e0 : cutOf xs sure n = (0, xs.take n.toNat, min sure n.toNat) := if_neg h
    rw [e0]
    obtain ⟨m, rfl⟩ := Int.eq_ofNat_of_zero_le (show 0 ≤ n by omega)
    exact cut_any T m (by omega) hm
theorem rcut_all (xs : List Int) (sure : Nat) (n : Int) (w : World) (hm : xs.length ≤ 140737488355328) :
    Calls Try.prog 31 #[.agg #[.string (strOfNums xs), .int .i64 (sure : Int)], .int .i64 n] w fun e w' => e = .returned (.tuple #[.agg #[.string (strOfNums (cutOf xs sure n).2.1), .int .i64 ((cutOf xs sure n).2.2 : Int)], .int .i64 (cutOf xs sure n).1]) ∧ Below w.heap.size w w' := by
  refine PG.foolscapref31_Tape_Cut.calls (strOfNums xs) (sure : Int) n _ _ _ w ?_
  unfold PG.foolscapref31_Tape_Cut.f cutOf
  rw [str_size]
  by_cases h0 : n < 0
  · rw [if_pos h0, if_pos (.inl h0)]
  · rw [if_neg h0]
    by_cases h1 : n > (xs.length : Int)
    · rw [if_pos h1, if_pos (.inr h1)]
    · rw [if_neg h1, if_pos (by omega), if_pos (by omega), if_neg (by omega), str_cut]
      obtain ⟨m, rfl⟩ := Int.eq_ofNat_of_zero_le (show 0 ≤ n by omega)
      have e1 : mn (sure : Int) (m : Int) = ((min sure m : Nat) : Int) := by
        unfold mn
        split <;> omega
      simp only [Int.toNat_natCast, e1]
theorem rappend_all (xs ys : List Int) (sure : Nat) (w : World) (hm : xs.length + ys.length ≤ 140737488355328) :
    Calls Try.prog 29 #[.agg #[.string (strOfNums xs), .int .i64 (sure : Int)], .string (strOfNums ys)] w fun e w' => e = .returned (.agg #[.string (strOfNums (xs ++ ys)), .int .i64 (sure : Int)]) ∧ Below w.heap.size w w' := by
  refine PG.foolscapref31_Tape_Append.calls (strOfNums xs) (sure : Int) (strOfNums ys) _ _ w ?_
  unfold PG.foolscapref31_Tape_Append.f
  rw [str_size, str_size, if_pos (by omega), str_app]
theorem rsync_all (xs : List Int) (sure : Nat) (w : World) :
    Calls Try.prog 30 #[.agg #[.string (strOfNums xs), .int .i64 (sure : Int)]] w fun e w' => e = .returned (.agg #[.string (strOfNums xs), .int .i64 (xs.length : Int)]) ∧ Below w.heap.size w w' := by
  refine PG.foolscapref31_Tape_Sync.calls (strOfNums xs) (sure : Int) _ _ w ?_
  unfold PG.foolscapref31_Tape_Sync.f
  rw [str_size]
theorem rappend_nil (xs : List Int) (w : World) (hm : xs.length ≤ 140737488355328) :
    Calls Try.prog 29 #[.agg #[.string ⟨#[]⟩, .int .i64 0], .string (strOfNums xs)] w fun e w' => e = .returned (.agg #[.string (strOfNums xs), .int .i64 0]) ∧ Below w.heap.size w w' := by
  have h := rappend_all [] xs 0 w (by simpa using hm)
  rw [List.nil_append] at h
  exact h
theorem rsync_0 (xs : List Int) (w : World) :
    Calls Try.prog 30 #[.agg #[.string (strOfNums xs), .int .i64 0]] w fun e w' => e = .returned (.agg #[.string (strOfNums xs), .int .i64 (xs.length : Int)]) ∧ Below w.heap.size w w' := rsync_all xs 0 w
theorem rcrash_all (xs : List Int) (sure : Nat) (hb : Bytes xs) (hs : sure ≤ xs.length) (hm : xs.length ≤ 140737488355328) (keep at_ by_ : Int) (hk0 : -9223372036854775808 ≤ keep) (hk1 : keep ≤ 9223372036854775807) (hy : 0 ≤ by_ ∧ by_ ≤ 255) (w : World) :
    Calls Try.prog 35 #[.agg #[.string (strOfNums xs), .int .i64 (sure : Int)], .int .i64 keep, .int .i64 at_, .int .u8 by_] w fun e w' => e = .returned (.agg #[.string (strOfNums (crashed xs sure (keptOf xs.length sure keep) at_ by_)), .int .i64 ((sure + keptOf xs.length sure keep : Nat) : Int)]) ∧ Below w.heap.size w w' := by
  have h := rcrash_any (strOfNums xs) sure (by rw [str_size]; exact hs) (by rw [str_size]; exact hm) keep at_ by_ hk0 hk1 hy w
  rw [bytesOf_str hb] at h
  exact h
theorem crashed_length {xs : List Int} {sure : Nat} (keep at_ by_ : Int) (hs : sure ≤ xs.length) : (crashed xs sure (keptOf xs.length sure keep) at_ by_).length = sure + keptOf xs.length sure keep := by
  have h := (show sure + keptOf xs.length sure keep ≤ xs.length by unfold keptOf; omega)
  unfold crashed
  split
  · rw [List.length_set, List.length_take]
    omega
  · rw [List.length_take]
    omega
theorem box_kept {w w' : World} {base g mb : Nat} {v : Value} {xs : List Int} {sure : Nat} {cs : Array Value} (T : TapeAt w base g v xs sure) (hb : w.heap[mb]? = some (.cells cs 55 (0, 0))) {S : Nat → Prop} (k : Keeps S w w') (hS : ∀ k, S k → k = g ∨ v.ownBlock = some k) : w'.heap[mb]? = some (.cells cs 55 (0, 0)) := by
  refine (k.block mb (blk_lt hb) (fun hs => ?_)).trans hb
  rcases hS mb hs with rfl | e
  · exact blk_ne T.blk hb (by decide) rfl
  · obtain ⟨_, _, cur, hc⟩ := T.row.own mb e
    exact blk_ne hc hb (by decide) rfl
theorem tape_box {w : World} {base g mb : Nat} {v : Value} {xs : List Int} {sure : Nat} {cs : Array Value} (T : TapeAt w base g v xs sure) (hb : w.heap[mb]? = some (.cells cs 55 (0, 0))) : g ≠ mb ∧ v.ownBlock ≠ some mb :=
  ⟨blk_ne T.blk hb (by decide), fun e => by
    obtain ⟨_, _, cur, hc⟩ := T.row.own mb e
    exact blk_ne hc hb (by decide) rfl⟩
theorem TapeAt.put_box {w : World} {base g mb : Nat} {v : Value} {xs : List Int} {sure : Nat} {cs : Array Value} (T : TapeAt w base g v xs sure) (hb : w.heap[mb]? = some (.cells cs 55 (0, 0))) (i : Nat) (u : Value) : TapeAt (w.setCell ⟨mb, i, none⟩ u) base g v xs sure :=
  T.kept ((Keeps.refl (fun k => k = mb) w).setCell (p := ⟨mb, i, none⟩) rfl u) (tape_box T hb).1 (fun k e h => (tape_box T hb).2 (h ▸ e))
end Go.Proofs.Ytoegeljjfhbpeaa.J
