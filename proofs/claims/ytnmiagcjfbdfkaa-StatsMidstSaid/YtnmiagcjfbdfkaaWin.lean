/- A window of a row of whole numbers that is the call's own: what the row's laws say of it. -/
import Derived.Test.YtnmiagcjfbdfkaaQ
import Derived.Maps.OwnOps
import Derived.Maps.Views
namespace Go.Proofs.Ytnmiagcjfbdfkaa.Wn
open Go Go.RowKit Go.Proofs.YtnmiagcjfbdfkaaW.PrintWords Go.Proofs.YtnmiagcjfbdfkaaW.PrintLast Go.Proofs.YtnmiagcjfbdfkaaW.PrintMore

/-- The row in the block g has N numbers (room for cap): pre, then the window's n numbers xs, then post. -/
def Wn (e : Nat) (W : World) (base : Nat) (ok : Nat → Prop) (g cap N : Nat) (pre post : List Int) (n : Nat) (xs : List Int) : Prop :=
  xs.length = n ∧ (Kd.int .i64).R e W base ok (.slice (some ⟨g, 0, none⟩) N cap) (pre ++ xs ++ post)
variable {e base g cap N n : Nat} {W : World} {ok ok' : Nat → Prop} {pre post xs : List Int}
theorem R_mono (h : Wn e W base ok g cap N pre post n xs) (hok : ∀ k, ok k → ok' k) : Wn e W base ok' g cap N pre post n xs := ⟨h.1, Kd.R_mono h.2 hok⟩
theorem R_alloc (h : Wn e W base ok g cap N pre post n xs) (o : Obj) : Wn e (W.alloc o) base ok g cap N pre post n xs := ⟨h.1, Kd.R_alloc h.2 o⟩
theorem R_drew (h : Wn e W base ok g cap N pre post n xs) : Wn e W.drew base ok g cap N pre post n xs := ⟨h.1, Kd.R_drew h.2⟩
theorem R_drewN (h : Wn e W base ok g cap N pre post n xs) (m : Nat) : Wn e (W.drewN m) base ok g cap N pre post n xs := ⟨h.1, Kd.R_drewN h.2 m⟩
theorem R_ok (h : Wn e W base ok g cap N pre post n xs) : ok g := h.2.1 _ rfl
theorem whole (h : Wn e W base ok g cap N pre post n xs) : N = pre.length + n + post.length := by
  have h1 := (Kd.R_reads' h.2).1
  have h2 := h.1
  rw [List.length_append, List.length_append] at h1; omega
theorem add_off (g off m : Nat) : (⟨g, off, none⟩ : Addr).add m = ⟨g, off + m, none⟩ := by
  unfold Addr.add
  by_cases h : m = 0
  · rw [if_pos h, h]; rfl
  · rw [if_neg h]
theorem rd_mid (A xs B : List Int) (i : Int) (h0 : 0 ≤ i) (h1 : i < xs.length) : rd (A ++ xs ++ B) ((A.length : Int) + i) = rd xs i := by
  obtain ⟨m, rfl⟩ := Int.eq_ofNat_of_zero_le h0
  have hm : m < xs.length := by omega
  have e : ((A.length : Int) + (m : Int)).toNat = A.length + m := by omega
  unfold rd
  rw [e, Int.toNat_natCast, List.getD_eq_getElem?_getD, List.getD_eq_getElem?_getD, List.append_assoc, List.getElem?_append_right (by omega), Nat.add_sub_cancel_left, List.getElem?_append_left hm]
theorem R_celln (h : Wn e W base ok g cap N pre post n xs) (i : Int) (h0 : 0 ≤ i) (h1 : i < (n : Int)) : W.cell? ⟨g, pre.length + i.toNat, none⟩ = some (.int .i64 (rd xs i)) ∧ W.frozen? ⟨g, pre.length + i.toNat, none⟩ = false := by
  have hl := whole h
  have h2 := h.1
  have key := Kd.R_celln (enc := Value.int .i64) (h1 := fun _ => rfl) (0 : Int) h.2 ((pre.length : Int) + i) (by omega) (by omega)
  have e : ((pre.length : Int) + i).toNat = pre.length + i.toNat := by omega
  rw [e] at key
  have key1 : W.cell? ⟨g, pre.length + i.toNat, none⟩ = some (.int .i64 (rd (pre ++ xs ++ post) ((pre.length : Int) + i))) := key.1
  rw [rd_mid pre xs post i h0 (by omega)] at key1
  exact ⟨key1, key.2⟩
theorem set_mid (A xs B : List Int) (m : Nat) (x : Int) (h : m < xs.length) : (A ++ xs ++ B).set (A.length + m) x = A ++ xs.set m x ++ B := by
  rw [List.append_assoc, List.append_assoc, List.set_append_right _ _ (by omega), Nat.add_sub_cancel_left, List.set_append_left _ _ h]
theorem R_putn (h : Wn e W base ok g cap N pre post n xs) (i : Int) (h0 : 0 ≤ i) (h1 : i < (n : Int)) (x : Int) : Wn e (W.setCell ⟨g, pre.length + i.toNat, none⟩ (.int .i64 x)) base ok g cap N pre post n (xs.set i.toNat x) := by
  refine ⟨by rw [List.length_set]; exact h.1, ?_⟩
  have key := Kd.R_putn (enc := Value.int .i64) (h1 := fun _ => rfl) h.2 ((pre.length : Int) + i) x
  have e : ((pre.length : Int) + i).toNat = pre.length + i.toNat := by omega
  rw [e, set_mid pre xs post i.toNat x (by have := h.1; omega)] at key
  exact key
theorem R_reads' (h : Wn e W base ok g cap N pre post n xs) : n = xs.length ∧ True ∧ (Kd.int .i64).C W (some ⟨g, pre.length, none⟩) n xs := by
  refine ⟨h.1.symm, trivial, ?_⟩
  refine Kd.C_of_reads (enc := Value.int .i64) (d := (0 : Int)) (h1 := fun _ => rfl) ⟨h.1, ?_, fun _ => ⟨_, rfl, fun j hj => ?_⟩⟩
  · have h2 := Kd.C_max (Kd.R_reads' h.2).2.2
    have h3 := whole h
    have h4 := (Kd.R_reads' h.2).1
    omega
  · rw [add_off]
    have := (R_celln h (j : Int) (by omega) (by omega)).1
    rw [Int.toNat_natCast] at this
    rw [this]
    unfold rd; rw [Int.toNat_natCast]
theorem R_form (h : Wn e W base ok g cap N pre post n xs) (hp : 0 < n) : base ≤ g ∧ g < W.heap.size ∧ ∃ cells, W.heap[g]? = some (.cells cells e (0, 0)) := by
  have hl := (Kd.R_reads' h.2).1
  have hr := h.2
  have hn := h.1
  rw [hl] at hr
  obtain ⟨g', cap', e', hb, hg, hc⟩ := Kd.R_form hr (by rw [List.length_append, List.length_append]; omega)
  injection e' with e1
  injection e1 with e1
  injection e1 with e1
  subst e1
  exact ⟨hb, hg, hc⟩
theorem R_len {m : Nat} (h : Wn e W base ok g cap N pre post n xs) (he : m = n) : Wn e W base ok g cap N pre post m xs := by subst he; exact h
/-- The window made shorter, from either end. -/
theorem R_take (h : Wn e W base ok g cap N pre post n xs) (m : Nat) (hm : m ≤ n) : Wn e W base ok g cap N pre (xs.drop m ++ post) m (xs.take m) := by
  have h1 := h.1
  refine ⟨by rw [List.length_take]; omega, ?_⟩
  have e : pre ++ xs.take m ++ (xs.drop m ++ post) = pre ++ xs ++ post := by
    rw [List.append_assoc, ← List.append_assoc (xs.take m), List.take_append_drop, List.append_assoc]
  rw [e]; exact h.2
theorem R_cut (h : Wn e W base ok g cap N pre post n xs) (m : Nat) (hm : m ≤ n) : Wn e W base ok g cap N (pre ++ xs.take m) post (n - m) (xs.drop m) := by
  have h1 := h.1
  refine ⟨by rw [List.length_drop]; omega, ?_⟩
  have e : pre ++ xs.take m ++ xs.drop m ++ post = pre ++ xs ++ post := by
    rw [List.append_assoc pre, List.take_append_drop]
  rw [e]; exact h.2
theorem spot {w : World} {a : Addr} {v : Value} (h : w.cell? a = some v) : ∃ b off, a = ⟨b, off, none⟩ := by
  obtain ⟨b, off, s⟩ := a
  cases s with
  | none => exact ⟨b, off, rfl⟩
  | some s =>
    exfalso
    simp [World.cell?] at h
    split at h <;> exact absurd h (by simp)
theorem add (b off j : Nat) : (⟨b, off, none⟩ : Addr).add j = ⟨b, off + j, none⟩ := by
  unfold Addr.add
  split
  · next h => subst h; rfl
  · rfl
end Go.Proofs.Ytnmiagcjfbdfkaa.Wn
