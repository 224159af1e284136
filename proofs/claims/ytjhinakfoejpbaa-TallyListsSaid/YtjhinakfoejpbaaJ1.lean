/- Trees of knots as they lie in memory, and in plain Lean. No condition stands open. -/
import Derived.Test.YtjhinakfoejpbaaQ
import Derived.Test.YtjhinakfoejpbaaPGx6
import Derived.Test.YtjhinakfoejpbaaShelf
import Derived.Lib.Hide
import Derived.Deep.LoopGhost
set_option linter.unusedVariables false
set_option linter.unusedSimpArgs false
/- Trees of knots as they lie in memory, and the calls that ask a knot alone. No condition stands open. -/
namespace Go.Proofs.Ytjhinakfoejpbaa.T
open Go.RowKit Go.Proofs.YtjhinakfoejpbaaW.PrintWords Go.Proofs.YtjhinakfoejpbaaW.PrintLast Go.Proofs.YtjhinakfoejpbaaW.PrintMore

/-! blocks outside S lie as they lay -/
structure Keeps (S : Nat → Prop) (w w' : World) : Prop where
  os : w'.os = w.os
  tape : w'.tape = w.tape
  output : w'.output = w.output
  size : w.heap.size ≤ w'.heap.size
  block : ∀ k, k < w.heap.size → ¬ S k → w'.heap[k]? = w.heap[k]?
theorem Keeps.refl (S : Nat → Prop) (w : World) : Keeps S w w := ⟨rfl, rfl, rfl, Nat.le_refl _, fun _ _ _ => rfl⟩
theorem Keeps.trans {S : Nat → Prop} {a b c : World} (h : Keeps S a b) (k : Keeps S b c) : Keeps S a c :=
  ⟨k.os.trans h.os, k.tape.trans h.tape, k.output.trans h.output, Nat.le_trans h.size k.size, fun i hi hs => (k.block i (Nat.lt_of_lt_of_le hi h.size) hs).trans (h.block i hi hs)⟩
theorem Keeps.mono {S S' : Nat → Prop} {a b : World} (h : Keeps S a b) (hs : ∀ k, k < a.heap.size → S k → S' k) : Keeps S' a b := ⟨h.os, h.tape, h.output, h.size, fun i hi hn => h.block i hi (fun hk => hn (hs i hi hk))⟩
theorem Keeps.trans' {S S' : Nat → Prop} {a b c : World} (h : Keeps S a b) (k : Keeps S' b c) (hs : ∀ i, i < a.heap.size → S' i → S i) : Keeps S a c :=
  ⟨k.os.trans h.os, k.tape.trans h.tape, k.output.trans h.output, Nat.le_trans h.size k.size, fun i hi hn => (k.block i (Nat.lt_of_lt_of_le hi h.size) (fun hk => hn (hs i hi hk))).trans (h.block i hi hn)⟩
theorem Keeps.of_below {S : Nat → Prop} {a b : World} (h : Below a.heap.size a b) : Keeps S a b := ⟨h.os, h.tape, h.output, h.size, fun i hi _ => h.block i hi⟩
theorem Keeps.below {S : Nat → Prop} {a b : World} (h : Keeps S a b) {B : Nat} (hB : B ≤ a.heap.size) (hs : ∀ k, S k → B ≤ k) : Below B a b := ⟨h.os, h.tape, h.output, h.size, fun i hi => h.block i (by omega) (fun hk => by have := hs i hk; omega)⟩
theorem Keeps.of_grown {a b : World} {row : Option Nat} (h : a.grownBy b row) : Keeps (fun k => row = some k) a b := ⟨h.os, h.tape, h.output, h.size, fun i hi hn => h.block i hi (fun e => hn e.symm)⟩
theorem Keeps.setCell {S : Nat → Prop} {a b : World} (h : Keeps S a b) {p : Addr} (hp : S p.block) (u : Value) : Keeps S a (b.setCell p u) :=
  h.trans ⟨rfl, rfl, rfl, by simp [World.setCell], fun i _ hn => Below.heap_setCell _ _ _ _ (fun e => hn (e ▸ hp))⟩
theorem Keeps.drewN {S : Nat → Prop} {a b : World} (h : Keeps S a b) (n : Nat) : Keeps S a (b.drewN n) := h.trans (Keeps.of_below (pw_below_drewN (Below.refl _ _) n))
theorem Keeps.drew {S : Nat → Prop} {a b : World} (h : Keeps S a b) : Keeps S a b.drew := h.trans (Keeps.of_below ((Below.refl _ _).drew))
theorem Keeps.alloc {S : Nat → Prop} {a b : World} (h : Keeps S a b) (o : Obj) : Keeps S a (b.alloc o) := h.trans (Keeps.of_below ((Below.refl _ _).alloc (Nat.le_refl _) _))

/-! trees -/
inductive Tree where
  | nil : Tree
  | nd : Nat → Tree → Int → Nat → Tree → Tree
def ptr : Tree → Option Addr
  | .nil => none
  | .nd g _ _ _ _ => some ⟨g, 0, none⟩
def tot : Tree → Nat
  | .nil => 0
  | .nd _ l _ n r => n + tot l + tot r
def siz : Tree → Nat
  | .nil => 0
  | .nd _ l _ _ r => 1 + siz l + siz r
def blocks : Tree → List Nat
  | .nil => []
  | .nd g l _ _ r => g :: (blocks l ++ blocks r)
/-- block g is a knot -/
def KAt (w : World) (g : Nat) (x : Int) (n : Nat) (l r : Option Addr) (a m : Int) : Prop :=
  w.heap[g]? = some (.cells #[.int .i64 x, .int .i64 (n : Int), .pointer l, .pointer r, .int .i64 a, .int .i64 m] 102 (0, 0))
def At (w : World) : Tree → Prop
  | .nil => True
  | .nd g l x n r => KAt w g x n (ptr l) (ptr r) ((n + tot l + tot r : Nat) : Int) ((1 + siz l + siz r : Nat) : Int) ∧ At w l ∧ At w r
theorem KAt.kept {w w' : World} {g : Nat} {x : Int} {n : Nat} {l r : Option Addr} {a m : Int} {S : Nat → Prop} (h : KAt w g x n l r a m) (k : Keeps S w w') (hs : ¬ S g) : KAt w' g x n l r a m := (k.block g (blk_lt h) hs).trans h
theorem At.kept {w w' : World} {S : Nat → Prop} (k : Keeps S w w') : ∀ {t : Tree}, At w t → (∀ g ∈ blocks t, ¬ S g) → At w' t
  | .nil, _, _ => trivial
  | .nd g l x n r, h, hs => ⟨h.1.kept k (hs g (List.mem_cons_self ..)), At.kept k h.2.1 (fun i hi => hs i (List.mem_cons_of_mem _ (List.mem_append_left _ hi))), At.kept k h.2.2 (fun i hi => hs i (List.mem_cons_of_mem _ (List.mem_append_right _ hi)))⟩
theorem At.lt {w : World} : ∀ {t : Tree}, At w t → ∀ g ∈ blocks t, g < w.heap.size
  | .nil, _, g, hg => by cases hg
  | .nd b l x n r, h, g, hg => by
    rcases List.mem_cons.1 hg with rfl | hg
    · exact blk_lt h.1
    · rcases List.mem_append.1 hg with hg | hg
      · exact At.lt h.2.1 g hg
      · exact At.lt h.2.2 g hg
theorem At.typed {w : World} : ∀ {t : Tree}, At w t → ∀ g ∈ blocks t, ∃ cs, w.heap[g]? = some (.cells cs 102 (0, 0))
  | .nil, _, g, hg => by cases hg
  | .nd b l x n r, h, g, hg => by
    rcases List.mem_cons.1 hg with rfl | hg
    · exact ⟨_, h.1⟩
    · rcases List.mem_append.1 hg with hg | hg
      · exact At.typed h.2.1 g hg
      · exact At.typed h.2.2 g hg

theorem total_any {w : World} {t : Tree} (h : At w t) : Calls Try.prog 83 #[.pointer (ptr t)] w fun e w' => e = .returned (.int .i64 (tot t : Int)) ∧ w = w' := by
  cases t with
  | nil =>
    go_enter Try.func83, Try.ntmps83
    go_wp2
    go_ret
    exact ⟨rfl, rfl⟩
  | nd g l x n r =>
    have z : w.cell? ⟨g, 4, none⟩ = some (.int .i64 ((n + tot l + tot r : Nat) : Int)) := (blk_cell h.1 4).trans rfl
    clear h
    show Calls Try.prog 83 #[.pointer (some ⟨g, 0, none⟩)] w _
    go_enter Try.func83, Try.ntmps83
    go_wp2
    go_ret
    exact ⟨rfl, rfl⟩
theorem size_any {w : World} {t : Tree} (h : At w t) : Calls Try.prog 107 #[.pointer (ptr t)] w fun e w' => e = .returned (.int .i64 (siz t : Int)) ∧ w = w' := by
  cases t with
  | nil =>
    go_enter Try.func107, Try.ntmps107
    go_wp2
    go_ret
    exact ⟨rfl, rfl⟩
  | nd g l x n r =>
    have z : w.cell? ⟨g, 5, none⟩ = some (.int .i64 ((1 + siz l + siz r : Nat) : Int)) := (blk_cell h.1 5).trans rfl
    clear h
    show Calls Try.prog 107 #[.pointer (some ⟨g, 0, none⟩)] w _
    go_enter Try.func107, Try.ntmps107
    go_wp2
    go_ret
    exact ⟨rfl, rfl⟩
theorem heavy_any (w : World) (a b : Nat) (ha : a ≤ 1099511627776) (hb : b ≤ 1099511627776) : Calls Try.prog 108 #[.int .i64 (a : Int), .int .i64 (b : Int)] w fun e w' => e = .returned (.bool (decide (3 * (b + 1) < a + 1))) ∧ w = w' := by
  have h1 : wrap64 ((a : Int) + 1) = (a : Int) + 1 := by unfold wrap64; omega
  have h2 : wrap64 ((b : Int) + 1) = (b : Int) + 1 := by unfold wrap64; omega
  have h3 : wrap64 (3 * ((b : Int) + 1)) = 3 * ((b : Int) + 1) := by unfold wrap64; omega
  have h4 : decide (3 * ((b : Int) + 1) < (a : Int) + 1) = decide (3 * (b + 1) < a + 1) := by
    rw [decide_eq_decide]
    omega
  clear ha hb
  go_enter Try.func108, Try.ntmps108
  go_wp2
  go_ret
  exact ⟨rfl, rfl⟩
end Go.Proofs.Ytjhinakfoejpbaa.T

/- A knot reckons how much stands beneath it. No condition stands open. -/
namespace Go.Proofs.Ytjhinakfoejpbaa.T
open Go.RowKit Go.Proofs.YtjhinakfoejpbaaW.PrintWords Go.Proofs.YtjhinakfoejpbaaW.PrintLast Go.Proofs.YtjhinakfoejpbaaW.PrintMore

theorem At.put {w : World} {t : Tree} (h : At w t) {g i : Nat} (hg : g ∉ blocks t) (u : Value) : At (w.setCell ⟨g, i, none⟩ u) t :=
  At.kept ((Keeps.refl (fun k => k = g) w).setCell (p := ⟨g, i, none⟩) rfl u) h (fun k hk e => hg (e ▸ hk))
theorem At.drew {w : World} {t : Tree} (h : At w t) : At w.drew t := At.kept ((Keeps.refl (fun _ => False) w).drew) h (fun _ _ h => h)
set_option maxHeartbeats 4000000 in
set_option maxRecDepth 100000 in
theorem count_any {w : World} {g : Nat} {x : Int} {n : Nat} {l r : Tree} {a m : Int} (hk : KAt w g x n (ptr l) (ptr r) a m) (hl : At w l) (hr : At w r) (hgl : g ∉ blocks l) (hgr : g ∉ blocks r) (hb : n + tot l + tot r ≤ 1099511627776) (hs : 1 + siz l + siz r ≤ 1099511627776) :
    Calls Try.prog 86 #[.pointer (some ⟨g, 0, none⟩)] w fun e w' => e = .returned (.pointer (some ⟨g, 0, none⟩)) ∧ At w' (.nd g l x n r) ∧ Keeps (fun k => k = g) w w' := by
  have hw1 : wrap64 ((n : Int) + (tot l : Int)) = (n : Int) + (tot l : Int) := by unfold wrap64; omega
  have hw2 : wrap64 ((n : Int) + (tot l : Int) + (tot r : Int)) = (n : Int) + (tot l : Int) + (tot r : Int) := by unfold wrap64; omega
  have hw3 : wrap64 (1 + (siz l : Int)) = 1 + (siz l : Int) := by unfold wrap64; omega
  have hw4 : wrap64 (1 + (siz l : Int) + (siz r : Int)) = 1 + (siz l : Int) + (siz r : Int) := by unfold wrap64; omega
  have hc1 : Hid (((n + tot l + tot r : Nat) : Int) = (n : Int) + (tot l : Int) + (tot r : Int)) := by show _ = _; omega
  have hc2 : Hid (((1 + siz l + siz r : Nat) : Int) = 1 + (siz l : Int) + (siz r : Int)) := by show _ = _; omega
  have K0 : Hid (KAt w.drew g x n (ptr l) (ptr r) a m) := hk
  have L0 := Lib.hid hl.drew
  have R0 := Lib.hid hr.drew
  have HGL := Lib.hid hgl
  have HGR := Lib.hid hgr
  have P0 : Hid (Keeps (fun k => k = g) w w.drew) := (Keeps.refl _ w).drew
  clear hk hl hr hgl hgr hb hs
  go_enter Try.func86, Try.ntmps86
  go_upto_region 1 with fail
  refine start_ (n := 20) (S := fun w' => w'.cell? ⟨g, 1, none⟩ = some (.int .i64 (n : Int)) ∧ w'.cell? ⟨g, 2, none⟩ = some (.pointer (ptr l)) ∧ w'.cell? ⟨g, 3, none⟩ = some (.pointer (ptr r))) (ds := [19]) #[false, false, false, false, false, false, false, false, false, false, false, false, false, false, false, false, false, false, false, false] (by kernel_rfl) rfl rfl ⟨(blk_cell K0.out 1).trans rfl, (blk_cell K0.out 2).trans rfl, (blk_cell K0.out 3).trans rfl⟩ (fun hHeld => ?_)
  generalize w.drew = w1 at K0 L0 R0 P0 hHeld ⊢
  refine pure_ (i := 0) (N := some 3) (v := ?_) (a' := ?_) #[true, false, false, false, false, false, false, false, false, false, false, false, false, false, false, false, false, false, false, false] rfl rfl (by kernel_rfl) (fun _ _ _ h => h) (Or.inl ⟨by rfl, ?_⟩) ?_ ?_
  rotate_left
  · intro w'
    go_simp
    with_reducible rfl
  rotate_left
  · simp only [Act.put, List.setIfInBounds_toArray, List.set_cons_zero, List.set_cons_succ, i64_w, i32_w]
    rfl
  refine pure_ (i := 1) (N := some 4) (v := ?_) (a' := ?_) #[true, true, false, false, false, false, false, false, false, false, false, false, false, false, false, false, false, false, false, false] rfl rfl (by kernel_rfl) (fun _ _ _ h => h) (Or.inl ⟨by rfl, ?_⟩) ?_ ?_
  rotate_left
  · intro w'
    go_simp
    with_reducible rfl
  rotate_left
  · simp only [Act.put, List.setIfInBounds_toArray, List.set_cons_zero, List.set_cons_succ, i64_w, i32_w]
    rfl
  refine pure_ (i := 2) (N := some 5) (v := ?_) (a' := ?_) #[true, true, true, false, false, false, false, false, false, false, false, false, false, false, false, false, false, false, false, false] rfl rfl (by kernel_rfl) (fun _ _ _ h => h) (Or.inl ⟨by rfl, ?_⟩) ?_ ?_
  rotate_left
  · intro w'
    go_simp
    with_reducible rfl
  rotate_left
  · simp only [Act.put, List.setIfInBounds_toArray, List.set_cons_zero, List.set_cons_succ, i64_w, i32_w]
    rfl
  refine pure_ (i := 3) (N := some 6) (v := ?_) (a' := ?_) #[true, true, true, true, false, false, false, false, false, false, false, false, false, false, false, false, false, false, false, false] rfl rfl (by kernel_rfl) (fun _ _ _ h => h) (Or.inl ⟨by rfl, ?_⟩) ?_ ?_
  rotate_left
  · intro w'
    go_simp
    with_reducible rfl
  rotate_left
  · simp only [Act.put, List.setIfInBounds_toArray, List.set_cons_zero, List.set_cons_succ, i64_w, i32_w]
    rfl
  refine take_ (i := 4) (N := some 7) (v := ?_) (a' := ?_) #[true, true, true, true, true, false, false, false, false, false, false, false, false, false, false, false, false, false, false, false] rfl rfl (by kernel_rfl) (fun _ _ _ h => h) (Or.inl ⟨by rfl, ?_⟩) hHeld ?_ ?_
  rotate_left
  · rintro w' ⟨s0, s1, s2⟩
    go_simp
    with_reducible rfl
  rotate_left
  · simp only [Act.put, List.setIfInBounds_toArray, List.set_cons_zero, List.set_cons_succ, i64_w, i32_w]
    rfl
  refine pure_ (i := 5) (N := some 8) (v := ?_) (a' := ?_) #[true, true, true, true, true, true, false, false, false, false, false, false, false, false, false, false, false, false, false, false] rfl rfl (by kernel_rfl) (fun _ _ _ h => h) (Or.inl ⟨by rfl, ?_⟩) ?_ ?_
  rotate_left
  · intro w'
    go_simp
    with_reducible rfl
  rotate_left
  · simp only [Act.put, List.setIfInBounds_toArray, List.set_cons_zero, List.set_cons_succ, i64_w, i32_w]
    rfl
  refine pure_ (i := 6) (N := some 9) (v := ?_) (a' := ?_) #[true, true, true, true, true, true, true, false, false, false, false, false, false, false, false, false, false, false, false, false] rfl rfl (by kernel_rfl) (fun _ _ _ h => h) (Or.inl ⟨by rfl, ?_⟩) ?_ ?_
  rotate_left
  · intro w'
    go_simp
    with_reducible rfl
  rotate_left
  · simp only [Act.put, List.setIfInBounds_toArray, List.set_cons_zero, List.set_cons_succ, i64_w, i32_w]
    rfl
  refine pure_ (i := 7) (N := some 10) (v := ?_) (a' := ?_) #[true, true, true, true, true, true, true, true, false, false, false, false, false, false, false, false, false, false, false, false] rfl rfl (by kernel_rfl) (fun _ _ _ h => h) (Or.inl ⟨by rfl, ?_⟩) ?_ ?_
  rotate_left
  · intro w'
    go_simp
    with_reducible rfl
  rotate_left
  · simp only [Act.put, List.setIfInBounds_toArray, List.set_cons_zero, List.set_cons_succ, i64_w, i32_w]
    rfl
  refine take_ (i := 8) (N := some 11) (v := ?_) (a' := ?_) #[true, true, true, true, true, true, true, true, true, false, false, false, false, false, false, false, false, false, false, false] rfl rfl (by kernel_rfl) (fun _ _ _ h => h) (Or.inl ⟨by rfl, ?_⟩) hHeld ?_ ?_
  rotate_left
  · rintro w' ⟨s0, s1, s2⟩
    go_simp
    with_reducible rfl
  rotate_left
  · simp only [Act.put, List.setIfInBounds_toArray, List.set_cons_zero, List.set_cons_succ, i64_w, i32_w]
    rfl
  refine pure_ (i := 11) (N := some 14) (v := ?_) (a' := ?_) #[true, true, true, true, true, true, true, true, true, false, false, true, false, false, false, false, false, false, false, false] rfl rfl (by kernel_rfl) (fun _ _ _ h => h) (Or.inl ⟨by rfl, ?_⟩) ?_ ?_
  rotate_left
  · intro w'
    go_simp
    with_reducible rfl
  rotate_left
  · simp only [Act.put, List.setIfInBounds_toArray, List.set_cons_zero, List.set_cons_succ, i64_w, i32_w]
    rfl
  refine pure_ (i := 12) (N := some 15) (v := ?_) (a' := ?_) #[true, true, true, true, true, true, true, true, true, false, false, true, true, false, false, false, false, false, false, false] rfl rfl (by kernel_rfl) (fun _ _ _ h => h) (Or.inl ⟨by rfl, ?_⟩) ?_ ?_
  rotate_left
  · intro w'
    go_simp
    with_reducible rfl
  rotate_left
  · simp only [Act.put, List.setIfInBounds_toArray, List.set_cons_zero, List.set_cons_succ, i64_w, i32_w]
    rfl
  refine pure_ (i := 13) (N := some 16) (v := ?_) (a' := ?_) #[true, true, true, true, true, true, true, true, true, false, false, true, true, true, false, false, false, false, false, false] rfl rfl (by kernel_rfl) (fun _ _ _ h => h) (Or.inl ⟨by rfl, ?_⟩) ?_ ?_
  rotate_left
  · intro w'
    go_simp
    with_reducible rfl
  rotate_left
  · simp only [Act.put, List.setIfInBounds_toArray, List.set_cons_zero, List.set_cons_succ, i64_w, i32_w]
    rfl
  refine take_ (i := 14) (N := some 17) (v := ?_) (a' := ?_) #[true, true, true, true, true, true, true, true, true, false, false, true, true, true, true, false, false, false, false, false] rfl rfl (by kernel_rfl) (fun _ _ _ h => h) (Or.inl ⟨by rfl, ?_⟩) hHeld ?_ ?_
  rotate_left
  · rintro w' ⟨s0, s1, s2⟩
    go_simp
    with_reducible rfl
  rotate_left
  · simp only [Act.put, List.setIfInBounds_toArray, List.set_cons_zero, List.set_cons_succ, i64_w, i32_w]
    rfl
  refine one_ (i := 9) (N := some 12) #[true, true, true, true, true, true, true, true, true, true, false, true, true, true, true, false, false, false, false, false] rfl rfl (by kernel_rfl) (by decide) (fun K hK => ?_)
  refine goes_ Try.func83 (by kernel_rfl) rfl #[.pointer (ptr l)] (by rfl) rfl rfl (by (try simp only [List.map_toArray, List.map_cons, List.map_nil]); first | done | rfl) ?_
  refine (total_any L0.out).mono ?_
  rintro e w' ⟨rfl, rfl⟩
  refine ⟨_, rfl, ?_⟩
  refine hK.out _ _ hHeld (fun hHeld => ?_)
  clear hK K
  refine norm_ (a' := ?_) ?_ ?_
  rotate_left
  · show Act.put _ (some 12) _ = _
    simp only [Act.put, List.setIfInBounds_toArray, List.set_cons_zero, List.set_cons_succ, i64_w, i32_w]
    rfl
  refine pure_ (i := 10) (N := some 13) (v := ?_) (a' := ?_) #[true, true, true, true, true, true, true, true, true, true, true, true, true, true, true, false, false, false, false, false] rfl rfl (by kernel_rfl) (fun _ _ _ h => h) (Or.inl ⟨by rfl, ?_⟩) ?_ ?_
  rotate_left
  · intro w'
    go_simp
    with_reducible rfl
  rotate_left
  · simp only [Act.put, List.setIfInBounds_toArray, List.set_cons_zero, List.set_cons_succ, i64_w, i32_w]
    rfl
  refine one_ (i := 15) (N := some 18) #[true, true, true, true, true, true, true, true, true, true, true, true, true, true, true, true, false, false, false, false] rfl rfl (by kernel_rfl) (by decide) (fun K hK => ?_)
  refine goes_ Try.func83 (by kernel_rfl) rfl #[.pointer (ptr r)] (by rfl) rfl rfl (by (try simp only [List.map_toArray, List.map_cons, List.map_nil]); first | done | rfl) ?_
  refine (total_any R0.out).mono ?_
  rintro e w' ⟨rfl, rfl⟩
  refine ⟨_, rfl, ?_⟩
  refine hK.out _ _ hHeld (fun hHeld => ?_)
  clear hK K
  refine norm_ (a' := ?_) ?_ ?_
  rotate_left
  · show Act.put _ (some 18) _ = _
    simp only [Act.put, List.setIfInBounds_toArray, List.set_cons_zero, List.set_cons_succ, i64_w, i32_w]
    rfl
  refine pure_ (i := 16) (N := some 19) (v := ?_) (a' := ?_) #[true, true, true, true, true, true, true, true, true, true, true, true, true, true, true, true, true, false, false, false] rfl rfl (by kernel_rfl) (fun _ _ _ h => h) (Or.inl ⟨by rfl, ?_⟩) ?_ ?_
  rotate_left
  · intro w'
    go_simp
    with_reducible rfl
  rotate_left
  · simp only [Act.put, List.setIfInBounds_toArray, List.set_cons_zero, List.set_cons_succ, i64_w, i32_w]
    rfl
  refine pure_ (i := 17) (N := some 20) (v := ?_) (a' := ?_) #[true, true, true, true, true, true, true, true, true, true, true, true, true, true, true, true, true, true, false, false] rfl rfl (by kernel_rfl) (fun _ _ _ h => h) (Or.inl ⟨by rfl, ?_⟩) ?_ ?_
  rotate_left
  · intro w'
    go_simp
    with_reducible rfl
  rotate_left
  · simp only [Act.put, List.setIfInBounds_toArray, List.set_cons_zero, List.set_cons_succ, i64_w, i32_w]
    rfl
  refine pure_ (i := 18) (N := some 21) (v := ?_) (a' := ?_) #[true, true, true, true, true, true, true, true, true, true, true, true, true, true, true, true, true, true, true, false] rfl rfl (by kernel_rfl) (fun _ _ _ h => h) (Or.inl ⟨by rfl, ?_⟩) ?_ ?_
  rotate_left
  · intro w'
    go_simp
    with_reducible rfl
  rotate_left
  · simp only [Act.put, List.setIfInBounds_toArray, List.set_cons_zero, List.set_cons_succ, i64_w, i32_w]
    rfl
  have f4 : w1.frozen? ⟨g, 4, none⟩ = false := blk_frozen K0.out 4
  have c4 : w1.cell? ⟨g, 4, none⟩ = some (.int .i64 a) := (blk_cell K0.out 4).trans rfl
  refine last_ (i := 19) (N := none) #[true, true, true, true, true, true, true, true, true, true, true, true, true, true, true, true, true, true, true, true] rfl rfl (by kernel_rfl) (by decide) (fun K hK => ?_)
  refine skip_ (w1 := ?_) (by rfl) rfl ?_ ?_
  rotate_left
  · go_simp
    rfl
  refine hK.out _ _ ?_
  clear hK K
  refine done_ (by kernel_rfl) ?_
  clear f4 c4
  have K2 : Hid (KAt (w1.setCell ⟨g, 4, none⟩ (.int .i64 ((n : Int) + (tot l : Int) + (tot r : Int)))).drew g x n (ptr l) (ptr r) ((n : Int) + (tot l : Int) + (tot r : Int)) m) := blk_put K0.out 4 _ rfl
  have L2 := Lib.hid (L0.out.put (i := 4) HGL.out (.int .i64 ((n : Int) + (tot l : Int) + (tot r : Int)))).drew
  have R2 := Lib.hid (R0.out.put (i := 4) HGR.out (.int .i64 ((n : Int) + (tot l : Int) + (tot r : Int)))).drew
  have P2 := Lib.hid (P0.out.setCell (p := ⟨g, 4, none⟩) rfl (.int .i64 ((n : Int) + (tot l : Int) + (tot r : Int)))).drew
  go_upto_region 2 with fail
  refine start_ (n := 16) (S := fun w' => w'.cell? ⟨g, 1, none⟩ = some (.int .i64 (n : Int)) ∧ w'.cell? ⟨g, 2, none⟩ = some (.pointer (ptr l)) ∧ w'.cell? ⟨g, 3, none⟩ = some (.pointer (ptr r))) (ds := [15]) #[false, false, false, false, false, false, false, false, false, false, false, false, false, false, false, false] (by kernel_rfl) rfl rfl ⟨(blk_cell K2.out 1).trans rfl, (blk_cell K2.out 2).trans rfl, (blk_cell K2.out 3).trans rfl⟩ (fun hHeld => ?_)
  generalize (w1.setCell ⟨g, 4, none⟩ (.int .i64 ((n : Int) + (tot l : Int) + (tot r : Int)))).drew = w2 at K2 L2 R2 P2 hHeld ⊢
  refine pure_ (i := 0) (N := some 22) (v := ?_) (a' := ?_) #[true, false, false, false, false, false, false, false, false, false, false, false, false, false, false, false] rfl rfl (by kernel_rfl) (fun _ _ _ h => h) (Or.inl ⟨by rfl, ?_⟩) ?_ ?_
  rotate_left
  · intro w'
    go_simp
    with_reducible rfl
  rotate_left
  · simp only [Act.put, List.setIfInBounds_toArray, List.set_cons_zero, List.set_cons_succ, i64_w, i32_w]
    rfl
  refine pure_ (i := 1) (N := some 23) (v := ?_) (a' := ?_) #[true, true, false, false, false, false, false, false, false, false, false, false, false, false, false, false] rfl rfl (by kernel_rfl) (fun _ _ _ h => h) (Or.inl ⟨by rfl, ?_⟩) ?_ ?_
  rotate_left
  · intro w'
    go_simp
    with_reducible rfl
  rotate_left
  · simp only [Act.put, List.setIfInBounds_toArray, List.set_cons_zero, List.set_cons_succ, i64_w, i32_w]
    rfl
  refine pure_ (i := 2) (N := some 24) (v := ?_) (a' := ?_) #[true, true, true, false, false, false, false, false, false, false, false, false, false, false, false, false] rfl rfl (by kernel_rfl) (fun _ _ _ h => h) (Or.inl ⟨by rfl, ?_⟩) ?_ ?_
  rotate_left
  · intro w'
    go_simp
    with_reducible rfl
  rotate_left
  · simp only [Act.put, List.setIfInBounds_toArray, List.set_cons_zero, List.set_cons_succ, i64_w, i32_w]
    rfl
  refine pure_ (i := 3) (N := some 25) (v := ?_) (a' := ?_) #[true, true, true, true, false, false, false, false, false, false, false, false, false, false, false, false] rfl rfl (by kernel_rfl) (fun _ _ _ h => h) (Or.inl ⟨by rfl, ?_⟩) ?_ ?_
  rotate_left
  · intro w'
    go_simp
    with_reducible rfl
  rotate_left
  · simp only [Act.put, List.setIfInBounds_toArray, List.set_cons_zero, List.set_cons_succ, i64_w, i32_w]
    rfl
  refine take_ (i := 4) (N := some 26) (v := ?_) (a' := ?_) #[true, true, true, true, true, false, false, false, false, false, false, false, false, false, false, false] rfl rfl (by kernel_rfl) (fun _ _ _ h => h) (Or.inl ⟨by rfl, ?_⟩) hHeld ?_ ?_
  rotate_left
  · rintro w' ⟨s0, s1, s2⟩
    go_simp
    with_reducible rfl
  rotate_left
  · simp only [Act.put, List.setIfInBounds_toArray, List.set_cons_zero, List.set_cons_succ, i64_w, i32_w]
    rfl
  refine pure_ (i := 7) (N := some 29) (v := ?_) (a' := ?_) #[true, true, true, true, true, false, false, true, false, false, false, false, false, false, false, false] rfl rfl (by kernel_rfl) (fun _ _ _ h => h) (Or.inl ⟨by rfl, ?_⟩) ?_ ?_
  rotate_left
  · intro w'
    go_simp
    with_reducible rfl
  rotate_left
  · simp only [Act.put, List.setIfInBounds_toArray, List.set_cons_zero, List.set_cons_succ, i64_w, i32_w]
    rfl
  refine pure_ (i := 8) (N := some 30) (v := ?_) (a' := ?_) #[true, true, true, true, true, false, false, true, true, false, false, false, false, false, false, false] rfl rfl (by kernel_rfl) (fun _ _ _ h => h) (Or.inl ⟨by rfl, ?_⟩) ?_ ?_
  rotate_left
  · intro w'
    go_simp
    with_reducible rfl
  rotate_left
  · simp only [Act.put, List.setIfInBounds_toArray, List.set_cons_zero, List.set_cons_succ, i64_w, i32_w]
    rfl
  refine pure_ (i := 9) (N := some 31) (v := ?_) (a' := ?_) #[true, true, true, true, true, false, false, true, true, true, false, false, false, false, false, false] rfl rfl (by kernel_rfl) (fun _ _ _ h => h) (Or.inl ⟨by rfl, ?_⟩) ?_ ?_
  rotate_left
  · intro w'
    go_simp
    with_reducible rfl
  rotate_left
  · simp only [Act.put, List.setIfInBounds_toArray, List.set_cons_zero, List.set_cons_succ, i64_w, i32_w]
    rfl
  refine take_ (i := 10) (N := some 32) (v := ?_) (a' := ?_) #[true, true, true, true, true, false, false, true, true, true, true, false, false, false, false, false] rfl rfl (by kernel_rfl) (fun _ _ _ h => h) (Or.inl ⟨by rfl, ?_⟩) hHeld ?_ ?_
  rotate_left
  · rintro w' ⟨s0, s1, s2⟩
    go_simp
    with_reducible rfl
  rotate_left
  · simp only [Act.put, List.setIfInBounds_toArray, List.set_cons_zero, List.set_cons_succ, i64_w, i32_w]
    rfl
  refine one_ (i := 5) (N := some 27) #[true, true, true, true, true, true, false, true, true, true, true, false, false, false, false, false] rfl rfl (by kernel_rfl) (by decide) (fun K hK => ?_)
  refine goes_ Try.func107 (by kernel_rfl) rfl #[.pointer (ptr l)] (by rfl) rfl rfl (by (try simp only [List.map_toArray, List.map_cons, List.map_nil]); first | done | rfl) ?_
  refine (size_any L2.out).mono ?_
  rintro e w' ⟨rfl, rfl⟩
  refine ⟨_, rfl, ?_⟩
  refine hK.out _ _ hHeld (fun hHeld => ?_)
  clear hK K
  refine norm_ (a' := ?_) ?_ ?_
  rotate_left
  · show Act.put _ (some 27) _ = _
    simp only [Act.put, List.setIfInBounds_toArray, List.set_cons_zero, List.set_cons_succ, i64_w, i32_w]
    rfl
  refine pure_ (i := 6) (N := some 28) (v := ?_) (a' := ?_) #[true, true, true, true, true, true, true, true, true, true, true, false, false, false, false, false] rfl rfl (by kernel_rfl) (fun _ _ _ h => h) (Or.inl ⟨by rfl, ?_⟩) ?_ ?_
  rotate_left
  · intro w'
    go_simp
    with_reducible rfl
  rotate_left
  · simp only [Act.put, List.setIfInBounds_toArray, List.set_cons_zero, List.set_cons_succ, i64_w, i32_w]
    rfl
  refine one_ (i := 11) (N := some 33) #[true, true, true, true, true, true, true, true, true, true, true, true, false, false, false, false] rfl rfl (by kernel_rfl) (by decide) (fun K hK => ?_)
  refine goes_ Try.func107 (by kernel_rfl) rfl #[.pointer (ptr r)] (by rfl) rfl rfl (by (try simp only [List.map_toArray, List.map_cons, List.map_nil]); first | done | rfl) ?_
  refine (size_any R2.out).mono ?_
  rintro e w' ⟨rfl, rfl⟩
  refine ⟨_, rfl, ?_⟩
  refine hK.out _ _ hHeld (fun hHeld => ?_)
  clear hK K
  refine norm_ (a' := ?_) ?_ ?_
  rotate_left
  · show Act.put _ (some 33) _ = _
    simp only [Act.put, List.setIfInBounds_toArray, List.set_cons_zero, List.set_cons_succ, i64_w, i32_w]
    rfl
  refine pure_ (i := 12) (N := some 34) (v := ?_) (a' := ?_) #[true, true, true, true, true, true, true, true, true, true, true, true, true, false, false, false] rfl rfl (by kernel_rfl) (fun _ _ _ h => h) (Or.inl ⟨by rfl, ?_⟩) ?_ ?_
  rotate_left
  · intro w'
    go_simp
    with_reducible rfl
  rotate_left
  · simp only [Act.put, List.setIfInBounds_toArray, List.set_cons_zero, List.set_cons_succ, i64_w, i32_w]
    rfl
  refine pure_ (i := 13) (N := some 35) (v := ?_) (a' := ?_) #[true, true, true, true, true, true, true, true, true, true, true, true, true, true, false, false] rfl rfl (by kernel_rfl) (fun _ _ _ h => h) (Or.inl ⟨by rfl, ?_⟩) ?_ ?_
  rotate_left
  · intro w'
    go_simp
    with_reducible rfl
  rotate_left
  · simp only [Act.put, List.setIfInBounds_toArray, List.set_cons_zero, List.set_cons_succ, i64_w, i32_w]
    rfl
  refine pure_ (i := 14) (N := some 36) (v := ?_) (a' := ?_) #[true, true, true, true, true, true, true, true, true, true, true, true, true, true, true, false] rfl rfl (by kernel_rfl) (fun _ _ _ h => h) (Or.inl ⟨by rfl, ?_⟩) ?_ ?_
  rotate_left
  · intro w'
    go_simp
    with_reducible rfl
  rotate_left
  · simp only [Act.put, List.setIfInBounds_toArray, List.set_cons_zero, List.set_cons_succ, i64_w, i32_w]
    rfl
  have f5 : w2.frozen? ⟨g, 5, none⟩ = false := blk_frozen K2.out 5
  have c5 : w2.cell? ⟨g, 5, none⟩ = some (.int .i64 m) := (blk_cell K2.out 5).trans rfl
  refine last_ (i := 15) (N := none) #[true, true, true, true, true, true, true, true, true, true, true, true, true, true, true, true] rfl rfl (by kernel_rfl) (by decide) (fun K hK => ?_)
  refine skip_ (w1 := ?_) (by rfl) rfl ?_ ?_
  rotate_left
  · go_simp
    rfl
  refine hK.out _ _ ?_
  clear hK K
  refine done_ (by kernel_rfl) ?_
  go_wp2
  go_ret
  refine ⟨rfl, ⟨?_, L2.out.put HGL.out _, R2.out.put HGR.out _⟩, P2.out.setCell (p := ⟨g, 5, none⟩) rfl _⟩
  rw [hc1.out, hc2.out]
  exact blk_put K2.out 5 _ rfl
end Go.Proofs.Ytjhinakfoejpbaa.T

/- A knot is turned to either side. No condition stands open. -/
namespace Go.Proofs.Ytjhinakfoejpbaa.T
open Go.RowKit Go.Proofs.YtjhinakfoejpbaaW.PrintWords Go.Proofs.YtjhinakfoejpbaaW.PrintLast Go.Proofs.YtjhinakfoejpbaaW.PrintMore

theorem KAt.put_far {w : World} {g b i : Nat} {x : Int} {n : Nat} {l r : Option Addr} {a m : Int} (h : KAt w g x n l r a m) (hne : g ≠ b) (u : Value) : KAt (w.setCell ⟨b, i, none⟩ u) g x n l r a m := (Below.heap_setCell w ⟨b, i, none⟩ u g hne).trans h
theorem KAt.put2 {w : World} {g : Nat} {x : Int} {n : Nat} {l r : Option Addr} {a m : Int} (h : KAt w g x n l r a m) (p : Option Addr) : KAt (w.setCell ⟨g, 2, none⟩ (.pointer p)) g x n p r a m := blk_put h 2 _ rfl
theorem KAt.put3 {w : World} {g : Nat} {x : Int} {n : Nat} {l r : Option Addr} {a m : Int} (h : KAt w g x n l r a m) (p : Option Addr) : KAt (w.setCell ⟨g, 3, none⟩ (.pointer p)) g x n l p a m := blk_put h 3 _ rfl
theorem KAt.c0 {w : World} {g : Nat} {x : Int} {n : Nat} {l r : Option Addr} {a m : Int} (h : KAt w g x n l r a m) : w.cell? ⟨g, 0, none⟩ = some (.int .i64 x) := (blk_cell h 0).trans rfl
theorem KAt.c1 {w : World} {g : Nat} {x : Int} {n : Nat} {l r : Option Addr} {a m : Int} (h : KAt w g x n l r a m) : w.cell? ⟨g, 1, none⟩ = some (.int .i64 (n : Int)) := (blk_cell h 1).trans rfl
theorem KAt.c2 {w : World} {g : Nat} {x : Int} {n : Nat} {l r : Option Addr} {a m : Int} (h : KAt w g x n l r a m) : w.cell? ⟨g, 2, none⟩ = some (.pointer l) := (blk_cell h 2).trans rfl
theorem KAt.c3 {w : World} {g : Nat} {x : Int} {n : Nat} {l r : Option Addr} {a m : Int} (h : KAt w g x n l r a m) : w.cell? ⟨g, 3, none⟩ = some (.pointer r) := (blk_cell h 3).trans rfl
theorem KAt.fz {w : World} {g : Nat} {x : Int} {n : Nat} {l r : Option Addr} {a m : Int} (h : KAt w g x n l r a m) (i : Nat) : w.frozen? ⟨g, i, none⟩ = false := blk_frozen h i

set_option maxHeartbeats 4000000 in
theorem turnL_any {w : World} {k u : Nat} {x ux : Int} {n un : Nat} {l ul ur : Tree} {a m ua um : Int} (hk : KAt w k x n (ptr l) (some ⟨u, 0, none⟩) a m) (hu : KAt w u ux un (ptr ul) (ptr ur) ua um) (hl : At w l) (hul : At w ul) (hur : At w ur)
    (hku : k ≠ u) (h1 : k ∉ blocks l) (h2 : k ∉ blocks ul) (h3 : k ∉ blocks ur) (h4 : u ∉ blocks l) (h5 : u ∉ blocks ul) (h6 : u ∉ blocks ur) (hb : n + tot l + un + tot ul + tot ur ≤ 1099511627776) (hs : 2 + siz l + siz ul + siz ur ≤ 1099511627776) :
    Calls Try.prog 109 #[.pointer (some ⟨k, 0, none⟩), .bool true] w fun e w' => e = .returned (.pointer (some ⟨u, 0, none⟩)) ∧ At w' (.nd u (.nd k l x n ul) ux un ur) ∧ Keeps (fun b => b = k ∨ b = u) w w' := by
  have huk : u ≠ k := fun e => hku e.symm
  obtain ⟨w1, hw1⟩ : ∃ w1, (w.setCell ⟨k, 3, none⟩ (.pointer (ptr ul))).setCell ⟨u, 2, none⟩ (.pointer (some ⟨k, 0, none⟩)) = w1 := ⟨_, rfl⟩
  have K1 : Hid (KAt w1 k x n (ptr l) (ptr ul) a m) := by rw [← hw1]; exact (hk.put3 _).put_far hku _
  have U1 : Hid (KAt w1 u ux un (some ⟨k, 0, none⟩) (ptr ur) ua um) := by rw [← hw1]; exact (hu.put_far huk _).put2 _
  have L1 : Hid (At w1 l) := by rw [← hw1]; exact (hl.put h1 _).put h4 _
  have UL1 : Hid (At w1 ul) := by rw [← hw1]; exact (hul.put h2 _).put h5 _
  have UR1 : Hid (At w1 ur) := by rw [← hw1]; exact (hur.put h3 _).put h6 _
  have P1 : Hid (Keeps (fun b => b = k ∨ b = u) w w1) := by rw [← hw1]; exact ((Keeps.refl _ w).setCell (p := ⟨k, 3, none⟩) (.inl rfl) _).setCell (p := ⟨u, 2, none⟩) (.inr rfl) _
  have c3 := hk.c3
  have cu2 := hu.c2
  have f3 := hk.fz 3
  have fu2 : (w.setCell ⟨k, 3, none⟩ (.pointer (ptr ul))).frozen? ⟨u, 2, none⟩ = false := (hu.put_far (i := 3) huk (.pointer (ptr ul))).fz 2
  have cu2' : (w.setCell ⟨k, 3, none⟩ (.pointer (ptr ul))).cell? ⟨u, 2, none⟩ = some (.pointer (ptr ul)) := (hu.put_far (i := 3) huk (.pointer (ptr ul))).c2
  have H1 := Lib.hid h1
  have H2 := Lib.hid h2
  have H3 := Lib.hid h3
  have H4 := Lib.hid h4
  have H5 := Lib.hid h5
  have H6 := Lib.hid h6
  have HB := Lib.hid hb
  have HS := Lib.hid hs
  have HKU := Lib.hid hku
  clear hk hu hl hul hur hb hs h1 h2 h3 h4 h5 h6 hku huk
  go_enter Try.func109, Try.ntmps109
  go_wp2_with (first | (go_at_call 86; refine (count_any K1.out L1.out UL1.out H1.out H2.out (by have := HB.out; omega) (by have := HS.out; omega)).mono ?_; rintro e w2 ⟨rfl, a2, k2⟩; have A2 := Lib.hid a2; have P2 := Lib.hid (P1.out.trans (k2.mono (fun _ _ h => .inl h))); have U2 : Hid (KAt w2 u ux un (ptr (.nd k l x n ul)) (ptr ur) ua um) := U1.out.kept k2 (fun e => HKU.out e.symm); have UR2 : Hid (At w2 ur) := UR1.out.kept k2 (fun b hb e => H3.out (e ▸ hb)); clear a2 k2 K1 L1 UL1) | (go_at_call 86; refine (count_any U2.out A2.out UR2.out (by intro h; rcases List.mem_cons.1 h with h | h; exact HKU.out h.symm; rcases List.mem_append.1 h with h | h; exact H4.out h; exact H5.out h) H6.out (by have := HB.out; simp only [tot]; omega) (by have := HS.out; simp only [siz]; omega)).mono ?_; rintro e w3 ⟨rfl, a3, k3⟩; have A3 := Lib.hid a3; have P3 := Lib.hid (P2.out.trans (k3.mono (fun _ _ h => .inr h))); clear a3 k3 A2 UR2))
  go_ret
  exact ⟨rfl, A3.out, P3.out⟩
set_option maxHeartbeats 4000000 in
theorem turnR_any {w : World} {k u : Nat} {x ux : Int} {n un : Nat} {r ul ur : Tree} {a m ua um : Int} (hk : KAt w k x n (some ⟨u, 0, none⟩) (ptr r) a m) (hu : KAt w u ux un (ptr ul) (ptr ur) ua um) (hl : At w r) (hul : At w ul) (hur : At w ur)
    (hku : k ≠ u) (h1 : k ∉ blocks r) (h2 : k ∉ blocks ul) (h3 : k ∉ blocks ur) (h4 : u ∉ blocks r) (h5 : u ∉ blocks ul) (h6 : u ∉ blocks ur) (hb : n + tot r + un + tot ul + tot ur ≤ 1099511627776) (hs : 2 + siz r + siz ul + siz ur ≤ 1099511627776) :
    Calls Try.prog 109 #[.pointer (some ⟨k, 0, none⟩), .bool false] w fun e w' => e = .returned (.pointer (some ⟨u, 0, none⟩)) ∧ At w' (.nd u ul ux un (.nd k ur x n r)) ∧ Keeps (fun b => b = k ∨ b = u) w w' := by
  have huk : u ≠ k := fun e => hku e.symm
  obtain ⟨w1, hw1⟩ : ∃ w1, (w.setCell ⟨k, 2, none⟩ (.pointer (ptr ur))).setCell ⟨u, 3, none⟩ (.pointer (some ⟨k, 0, none⟩)) = w1 := ⟨_, rfl⟩
  have K1 : Hid (KAt w1 k x n (ptr ur) (ptr r) a m) := by rw [← hw1]; exact (hk.put2 _).put_far hku _
  have U1 : Hid (KAt w1 u ux un (ptr ul) (some ⟨k, 0, none⟩) ua um) := by rw [← hw1]; exact (hu.put_far huk _).put3 _
  have L1 : Hid (At w1 r) := by rw [← hw1]; exact (hl.put h1 _).put h4 _
  have UL1 : Hid (At w1 ul) := by rw [← hw1]; exact (hul.put h2 _).put h5 _
  have UR1 : Hid (At w1 ur) := by rw [← hw1]; exact (hur.put h3 _).put h6 _
  have P1 : Hid (Keeps (fun b => b = k ∨ b = u) w w1) := by rw [← hw1]; exact ((Keeps.refl _ w).setCell (p := ⟨k, 2, none⟩) (.inl rfl) _).setCell (p := ⟨u, 3, none⟩) (.inr rfl) _
  have c2 := hk.c2
  have cu3 := hu.c3
  have f2 := hk.fz 2
  have fu3 : (w.setCell ⟨k, 2, none⟩ (.pointer (ptr ur))).frozen? ⟨u, 3, none⟩ = false := (hu.put_far (i := 2) huk (.pointer (ptr ur))).fz 3
  have cu3' : (w.setCell ⟨k, 2, none⟩ (.pointer (ptr ur))).cell? ⟨u, 3, none⟩ = some (.pointer (ptr ur)) := (hu.put_far (i := 2) huk (.pointer (ptr ur))).c3
  have H1 := Lib.hid h1
  have H2 := Lib.hid h2
  have H3 := Lib.hid h3
  have H4 := Lib.hid h4
  have H5 := Lib.hid h5
  have H6 := Lib.hid h6
  have HB := Lib.hid hb
  have HS := Lib.hid hs
  have HKU := Lib.hid hku
  clear hk hu hl hul hur hb hs h1 h2 h3 h4 h5 h6 hku huk
  go_enter Try.func109, Try.ntmps109
  go_wp2_with (first | (go_at_call 86; refine (count_any K1.out UR1.out L1.out H3.out H1.out (by have := HB.out; omega) (by have := HS.out; omega)).mono ?_; rintro e w2 ⟨rfl, a2, k2⟩; have A2 := Lib.hid a2; have P2 := Lib.hid (P1.out.trans (k2.mono (fun _ _ h => .inl h))); have U2 : Hid (KAt w2 u ux un (ptr ul) (ptr (.nd k ur x n r)) ua um) := U1.out.kept k2 (fun e => HKU.out e.symm); have UL2 : Hid (At w2 ul) := UL1.out.kept k2 (fun b hb e => H2.out (e ▸ hb)); clear a2 k2 K1 L1 UR1) | (go_at_call 86; refine (count_any U2.out UL2.out A2.out H5.out (by intro h; rcases List.mem_cons.1 h with h | h; exact HKU.out h.symm; rcases List.mem_append.1 h with h | h; exact H6.out h; exact H4.out h) (by have := HB.out; simp only [tot]; omega) (by have := HS.out; simp only [siz]; omega)).mono ?_; rintro e w3 ⟨rfl, a3, k3⟩; have A3 := Lib.hid a3; have P3 := Lib.hid (P2.out.trans (k3.mono (fun _ _ h => .inr h))); clear a3 k3 A2 UL2))
  go_ret
  exact ⟨rfl, A3.out, P3.out⟩
end Go.Proofs.Ytjhinakfoejpbaa.T

/- A knot's sides are made about as great: rotations of trees, and the call that carries them out. No condition stands open. -/
namespace Go.Proofs.Ytjhinakfoejpbaa.T
open Go.RowKit Go.Proofs.YtjhinakfoejpbaaW.PrintWords Go.Proofs.YtjhinakfoejpbaaW.PrintLast Go.Proofs.YtjhinakfoejpbaaW.PrintMore

def rotL (k : Nat) (l : Tree) (x : Int) (n : Nat) : Tree → Tree
  | .nd u ul ux un ur => .nd u (.nd k l x n ul) ux un ur
  | .nil => .nd k l x n .nil
def rotR (k : Nat) (l : Tree) (x : Int) (n : Nat) (r : Tree) : Tree :=
  match l with
  | .nd u ul ux un ur => .nd u ul ux un (.nd k ur x n r)
  | .nil => .nd k .nil x n r
def fixR : Tree → Tree
  | .nd u ul ux un ur => if 2 * (siz ur + 1) ≤ siz ul + 1 then rotR u ul ux un ur else .nd u ul ux un ur
  | .nil => .nil
def fixL : Tree → Tree
  | .nd u ul ux un ur => if 2 * (siz ul + 1) ≤ siz ur + 1 then rotL u ul ux un ur else .nd u ul ux un ur
  | .nil => .nil
theorem fixR_nd (u : Nat) (ul : Tree) (ux : Int) (un : Nat) (ur : Tree) : fixR (.nd u ul ux un ur) = if 2 * (siz ur + 1) ≤ siz ul + 1 then rotR u ul ux un ur else .nd u ul ux un ur := rfl
theorem fixL_nd (u : Nat) (ul : Tree) (ux : Int) (un : Nat) (ur : Tree) : fixL (.nd u ul ux un ur) = if 2 * (siz ul + 1) ≤ siz ur + 1 then rotL u ul ux un ur else .nd u ul ux un ur := rfl
def bal (k : Nat) (l : Tree) (x : Int) (n : Nat) (r : Tree) : Tree :=
  if 3 * (siz l + 1) < siz r + 1 then rotL k l x n (fixR r) else if 3 * (siz r + 1) < siz l + 1 then rotR k (fixL l) x n r else .nd k l x n r
/-- what stands apart -/
structure Parted (k : Nat) (l r : Tree) : Prop where
  kl : k ∉ blocks l
  kr : k ∉ blocks r
  ndl : (blocks l).Nodup
  ndr : (blocks r).Nodup
  lr : ∀ b ∈ blocks l, b ∉ blocks r
theorem parted_iff {k : Nat} {l r : Tree} {x : Int} {n : Nat} : (blocks (.nd k l x n r)).Nodup ↔ Parted k l r := by
  constructor
  · intro h
    rw [blocks, List.nodup_cons, List.nodup_append] at h
    obtain ⟨h1, h2, h3, h4⟩ := h
    exact ⟨fun e => h1 (List.mem_append_left _ e), fun e => h1 (List.mem_append_right _ e), h2, h3, fun b hb e => h4 b hb b e rfl⟩
  · intro h
    rw [blocks, List.nodup_cons, List.nodup_append]
    exact ⟨fun e => (List.mem_append.1 e).elim h.kl h.kr, h.ndl, h.ndr, fun a ha b hb e => h.lr a ha (e ▸ hb)⟩
theorem wr1 {s : Nat} (h : s ≤ 1099511627776) : wrap64 ((s : Int) + 1) = (s : Int) + 1 := by unfold wrap64; omega
theorem wr2 {s : Nat} (h : s ≤ 1099511627776) : wrap64 (2 * ((s : Int) + 1)) = 2 * ((s : Int) + 1) := by unfold wrap64; omega
theorem dec2 {a b : Nat} (h : 2 * (b + 1) ≤ a + 1) : decide (2 * ((b : Int) + 1) ≤ (a : Int) + 1) = true := decide_eq_true (by omega)
theorem dec2n {a b : Nat} (h : ¬ 2 * (b + 1) ≤ a + 1) : decide (2 * ((b : Int) + 1) ≤ (a : Int) + 1) = false := decide_eq_false (by omega)
theorem At.mk {w : World} {g : Nat} {l r : Tree} {x : Int} {n : Nat} (h : KAt w g x n (ptr l) (ptr r) ((n + tot l + tot r : Nat) : Int) ((1 + siz l + siz r : Nat) : Int)) (hl : At w l) (hr : At w r) : At w (.nd g l x n r) := ⟨h, hl, hr⟩
theorem drewK {w : World} {g : Nat} {x : Int} {n : Nat} {l r : Option Addr} {a m : Int} (h : KAt w g x n l r a m) : KAt w.drew g x n l r a m := h
set_option maxHeartbeats 8000000 in
set_option maxRecDepth 100000 in
theorem balR1_any {w : World} {k u : Nat} {x ux : Int} {n un : Nat} {o ul ur : Tree} {a m : Int} (hk : KAt w k x n (ptr o) (some ⟨u, 0, none⟩) a m) (hu : KAt w u ux un (ptr ul) (ptr ur) ((un + tot ul + tot ur : Nat) : Int) ((1 + siz ul + siz ur : Nat) : Int)) (ho : At w o) (hul : At w ul) (hur : At w ur)
    (hp : Parted k o (.nd u ul ux un ur)) (hb : n + tot o + tot (.nd u ul ux un ur) ≤ 1099511627776) (hs : 1 + siz o + siz (.nd u ul ux un ur) ≤ 1099511627776) (hheavy : 3 * (siz o + 1) < siz (.nd u ul ux un ur) + 1) (hin : ¬ 2 * (siz ur + 1) ≤ siz ul + 1) :
    Calls Try.prog 87 #[.pointer (some ⟨k, 0, none⟩)] w fun e w' => e = .returned (.pointer (some ⟨u, 0, none⟩)) ∧ At w' (.nd u (.nd k o x n ul) ux un ur) ∧ Keeps (fun b => b = k ∨ b ∈ blocks o ∨ b ∈ blocks (.nd u ul ux un ur)) w w' := by
  obtain ⟨sb, hsb⟩ : ∃ sb, siz (.nd u ul ux un ur) = sb := ⟨_, rfl⟩
  obtain ⟨so, hso⟩ : ∃ so, siz o = so := ⟨_, rfl⟩
  obtain ⟨s1, hs1⟩ : ∃ s1, siz ul = s1 := ⟨_, rfl⟩
  obtain ⟨s2, hs2⟩ : ∃ s2, siz ur = s2 := ⟨_, rfl⟩
  rw [hsb, hso] at hheavy
  rw [hs1, hs2] at hin
  have HS : Hid (1 + so + sb ≤ 1099511627776) := by show _ ≤ _; rw [← hso, ← hsb]; omega
  have HS1 : Hid (s1 ≤ 1099511627776 ∧ s2 ≤ 1099511627776) := by
    show _ ∧ _
    simp only [siz] at hs hs1 hs2
    omega
  have d1 : decide (3 * (so + 1) < sb + 1) = true := decide_eq_true hheavy
  have e1 := wr1 HS1.out.1
  have e2 := wr1 HS1.out.2
  have e3 := wr2 HS1.out.2
  have e4 : decide (2 * ((s2 : Int) + 1) ≤ (s1 : Int) + 1) = false := dec2n hin
  have HP := Lib.hid hp
  have HSB := Lib.hid hsb
  have HSO := Lib.hid hso
  have HS1E := Lib.hid hs1
  have HS2E := Lib.hid hs2
  have HB := Lib.hid hb
  have HSS := Lib.hid hs
  have K0 : Hid (KAt w.drew k x n (ptr o) (some ⟨u, 0, none⟩) a m) := hk
  have U0 : Hid (KAt w.drew u ux un (ptr ul) (ptr ur) ((un + tot ul + tot ur : Nat) : Int) ((1 + siz ul + siz ur : Nat) : Int)) := hu
  have O0 := Lib.hid ho.drew
  have UL0 := Lib.hid hul.drew
  have UR0 := Lib.hid hur.drew
  have P0 : Hid (Keeps (fun b => b = k ∨ b ∈ blocks o ∨ b ∈ blocks (.nd u ul ux un ur)) w w.drew) := (Keeps.refl _ w).drew
  clear hk hu ho hp hb hs hheavy hin hsb hso hs1 hs2 hul hur
  go_enter Try.func87, Try.ntmps87
  go_upto_region 1 with fail
  refine start_ (n := 12) (S := fun w' => w'.cell? ⟨k, 2, none⟩ = some (.pointer (ptr o)) ∧ w'.cell? ⟨k, 3, none⟩ = some (.pointer (some ⟨u, 0, none⟩))) (ds := []) #[false, false, false, false, false, false, false, false, false, false, false, false] (by kernel_rfl) rfl rfl ⟨K0.out.c2, K0.out.c3⟩ (fun hHeld => ?_)
  generalize w.drew = w1 at K0 U0 O0 UL0 UR0 P0 hHeld ⊢
  refine pure_ (i := 0) (N := some 6) (v := ?_) (a' := ?_) #[true, false, false, false, false, false, false, false, false, false, false, false] rfl rfl (by kernel_rfl) (fun _ _ _ h => h) (Or.inl ⟨by rfl, ?_⟩) ?_ ?_
  rotate_left
  · intro w'
    go_simp
    with_reducible rfl
  rotate_left
  · simp only [Act.put, List.setIfInBounds_toArray, List.set_cons_zero, List.set_cons_succ, i64_w, i32_w]
    rfl
  refine pure_ (i := 1) (N := some 7) (v := ?_) (a' := ?_) #[true, true, false, false, false, false, false, false, false, false, false, false] rfl rfl (by kernel_rfl) (fun _ _ _ h => h) (Or.inl ⟨by rfl, ?_⟩) ?_ ?_
  rotate_left
  · intro w'
    go_simp
    with_reducible rfl
  rotate_left
  · simp only [Act.put, List.setIfInBounds_toArray, List.set_cons_zero, List.set_cons_succ, i64_w, i32_w]
    rfl
  refine pure_ (i := 2) (N := some 8) (v := ?_) (a' := ?_) #[true, true, true, false, false, false, false, false, false, false, false, false] rfl rfl (by kernel_rfl) (fun _ _ _ h => h) (Or.inl ⟨by rfl, ?_⟩) ?_ ?_
  rotate_left
  · intro w'
    go_simp
    with_reducible rfl
  rotate_left
  · simp only [Act.put, List.setIfInBounds_toArray, List.set_cons_zero, List.set_cons_succ, i64_w, i32_w]
    rfl
  refine take_ (i := 3) (N := some 9) (v := ?_) (a' := ?_) #[true, true, true, true, false, false, false, false, false, false, false, false] rfl rfl (by kernel_rfl) (fun _ _ _ h => h) (Or.inl ⟨by rfl, ?_⟩) hHeld ?_ ?_
  rotate_left
  · rintro w' ⟨s0, s1⟩
    go_simp
    with_reducible rfl
  rotate_left
  · simp only [Act.put, List.setIfInBounds_toArray, List.set_cons_zero, List.set_cons_succ, i64_w, i32_w]
    rfl
  refine pure_ (i := 5) (N := some 11) (v := ?_) (a' := ?_) #[true, true, true, true, false, true, false, false, false, false, false, false] rfl rfl (by kernel_rfl) (fun _ _ _ h => h) (Or.inl ⟨by rfl, ?_⟩) ?_ ?_
  rotate_left
  · intro w'
    go_simp
    with_reducible rfl
  rotate_left
  · simp only [Act.put, List.setIfInBounds_toArray, List.set_cons_zero, List.set_cons_succ, i64_w, i32_w]
    rfl
  refine pure_ (i := 6) (N := some 12) (v := ?_) (a' := ?_) #[true, true, true, true, false, true, true, false, false, false, false, false] rfl rfl (by kernel_rfl) (fun _ _ _ h => h) (Or.inl ⟨by rfl, ?_⟩) ?_ ?_
  rotate_left
  · intro w'
    go_simp
    with_reducible rfl
  rotate_left
  · simp only [Act.put, List.setIfInBounds_toArray, List.set_cons_zero, List.set_cons_succ, i64_w, i32_w]
    rfl
  refine pure_ (i := 7) (N := some 13) (v := ?_) (a' := ?_) #[true, true, true, true, false, true, true, true, false, false, false, false] rfl rfl (by kernel_rfl) (fun _ _ _ h => h) (Or.inl ⟨by rfl, ?_⟩) ?_ ?_
  rotate_left
  · intro w'
    go_simp
    with_reducible rfl
  rotate_left
  · simp only [Act.put, List.setIfInBounds_toArray, List.set_cons_zero, List.set_cons_succ, i64_w, i32_w]
    rfl
  refine take_ (i := 8) (N := some 14) (v := ?_) (a' := ?_) #[true, true, true, true, false, true, true, true, true, false, false, false] rfl rfl (by kernel_rfl) (fun _ _ _ h => h) (Or.inl ⟨by rfl, ?_⟩) hHeld ?_ ?_
  rotate_left
  · rintro w' ⟨s0, s1⟩
    go_simp
    with_reducible rfl
  rotate_left
  · simp only [Act.put, List.setIfInBounds_toArray, List.set_cons_zero, List.set_cons_succ, i64_w, i32_w]
    rfl
  refine one_ (i := 4) (N := some 10) #[true, true, true, true, true, true, true, true, true, false, false, false] rfl rfl (by kernel_rfl) (by decide) (fun K hK => ?_)
  refine goes_ Try.func107 (by kernel_rfl) rfl #[.pointer (some ⟨u, 0, none⟩)] (by rfl) rfl rfl (by (try simp only [List.map_toArray, List.map_cons, List.map_nil]); first | done | rfl) ?_
  have h107 := (size_any (t := (.nd u ul ux un ur)) (At.mk (l := ul) (r := ur) U0.out UL0.out UR0.out))
  rw [HSB.out] at h107
  refine h107.mono ?_
  clear h107
  rintro e w' ⟨rfl, rfl⟩
  refine ⟨_, rfl, ?_⟩
  refine hK.out _ _ hHeld (fun hHeld => ?_)
  clear hK K
  refine norm_ (a' := ?_) ?_ ?_
  rotate_left
  · show Act.put _ (some 10) _ = _
    simp only [Act.put, List.setIfInBounds_toArray, List.set_cons_zero, List.set_cons_succ, i64_w, i32_w]
    rfl
  refine one_ (i := 9) (N := some 15) #[true, true, true, true, true, true, true, true, true, true, false, false] rfl rfl (by kernel_rfl) (by decide) (fun K hK => ?_)
  refine goes_ Try.func107 (by kernel_rfl) rfl #[.pointer (ptr o)] (by rfl) rfl rfl (by (try simp only [List.map_toArray, List.map_cons, List.map_nil]); first | done | rfl) ?_
  have h107 := (size_any O0.out)
  rw [HSO.out] at h107
  refine h107.mono ?_
  clear h107
  rintro e w' ⟨rfl, rfl⟩
  refine ⟨_, rfl, ?_⟩
  refine hK.out _ _ hHeld (fun hHeld => ?_)
  clear hK K
  refine norm_ (a' := ?_) ?_ ?_
  rotate_left
  · show Act.put _ (some 15) _ = _
    simp only [Act.put, List.setIfInBounds_toArray, List.set_cons_zero, List.set_cons_succ, i64_w, i32_w]
    rfl
  refine one_ (i := 10) (N := some 16) #[true, true, true, true, true, true, true, true, true, true, true, false] rfl rfl (by kernel_rfl) (by decide) (fun K hK => ?_)
  refine goes_ Try.func108 (by kernel_rfl) rfl #[.int .i64 (sb : Int), .int .i64 (so : Int)] (by rfl) rfl rfl (by (try simp only [List.map_toArray, List.map_cons, List.map_nil]); first | done | rfl) ?_
  have h108 := heavy_any w1 sb so (by have := HS.out; omega) (by have := HS.out; omega)
  rw [d1] at h108
  refine h108.mono ?_
  clear h108
  rintro e w' ⟨rfl, rfl⟩
  refine ⟨_, rfl, ?_⟩
  refine hK.out _ _ hHeld (fun hHeld => ?_)
  clear hK K
  refine norm_ (a' := ?_) ?_ ?_
  rotate_left
  · show Act.put _ (some 16) _ = _
    simp only [Act.put, List.setIfInBounds_toArray, List.set_cons_zero, List.set_cons_succ, i64_w, i32_w]
    rfl
  refine pure_ (i := 11) (N := some 5) (v := ?_) (a' := ?_) #[true, true, true, true, true, true, true, true, true, true, true, true] rfl rfl (by kernel_rfl) (fun _ _ _ h => h) (Or.inl ⟨by rfl, ?_⟩) ?_ ?_
  rotate_left
  · intro w'
    go_simp
    with_reducible rfl
  rotate_left
  · simp only [Act.put, List.setIfInBounds_toArray, List.set_cons_zero, List.set_cons_succ, i64_w, i32_w]
    rfl
  refine done_ (by kernel_rfl) ?_
  have ck2 := K0.out.c2
  have ck3 := K0.out.c3
  go_upto_region 3 with fail
  clear ck2 ck3
  replace K0 := Lib.hid (drewK K0.out)
  replace U0 := Lib.hid (drewK U0.out)
  replace O0 := Lib.hid O0.out.drew
  replace UL0 := Lib.hid UL0.out.drew
  replace UR0 := Lib.hid UR0.out.drew
  replace P0 : Hid (Keeps (fun b => b = k ∨ b ∈ blocks o ∨ b ∈ blocks (.nd u ul ux un ur)) w w1.drew) := P0.out.drew
  refine start_ (n := 14) (S := fun w' => w'.cell? ⟨u, 2, none⟩ = some (.pointer (ptr ul)) ∧ w'.cell? ⟨u, 3, none⟩ = some (.pointer (ptr ur))) (ds := []) #[false, false, false, false, false, false, false, false, false, false, false, false, false, false] (by kernel_rfl) rfl rfl ⟨U0.out.c2, U0.out.c3⟩ (fun hHeld => ?_)
  generalize w1.drew = w2 at K0 U0 O0 UL0 UR0 P0 hHeld ⊢
  refine pure_ (i := 0) (N := some 21) (v := ?_) (a' := ?_) #[true, false, false, false, false, false, false, false, false, false, false, false, false, false] rfl rfl (by kernel_rfl) (fun _ _ _ h => h) (Or.inl ⟨by rfl, ?_⟩) ?_ ?_
  rotate_left
  · intro w'
    go_simp
    with_reducible rfl
  rotate_left
  · simp only [Act.put, List.setIfInBounds_toArray, List.set_cons_zero, List.set_cons_succ, i64_w, i32_w]
    rfl
  refine pure_ (i := 1) (N := some 22) (v := ?_) (a' := ?_) #[true, true, false, false, false, false, false, false, false, false, false, false, false, false] rfl rfl (by kernel_rfl) (fun _ _ _ h => h) (Or.inl ⟨by rfl, ?_⟩) ?_ ?_
  rotate_left
  · intro w'
    go_simp
    with_reducible rfl
  rotate_left
  · simp only [Act.put, List.setIfInBounds_toArray, List.set_cons_zero, List.set_cons_succ, i64_w, i32_w]
    rfl
  refine pure_ (i := 2) (N := some 23) (v := ?_) (a' := ?_) #[true, true, true, false, false, false, false, false, false, false, false, false, false, false] rfl rfl (by kernel_rfl) (fun _ _ _ h => h) (Or.inl ⟨by rfl, ?_⟩) ?_ ?_
  rotate_left
  · intro w'
    go_simp
    with_reducible rfl
  rotate_left
  · simp only [Act.put, List.setIfInBounds_toArray, List.set_cons_zero, List.set_cons_succ, i64_w, i32_w]
    rfl
  refine take_ (i := 3) (N := some 24) (v := ?_) (a' := ?_) #[true, true, true, true, false, false, false, false, false, false, false, false, false, false] rfl rfl (by kernel_rfl) (fun _ _ _ h => h) (Or.inl ⟨by rfl, ?_⟩) hHeld ?_ ?_
  rotate_left
  · rintro w' ⟨s0, s1⟩
    go_simp
    with_reducible rfl
  rotate_left
  · simp only [Act.put, List.setIfInBounds_toArray, List.set_cons_zero, List.set_cons_succ, i64_w, i32_w]
    rfl
  refine pure_ (i := 6) (N := some 27) (v := ?_) (a' := ?_) #[true, true, true, true, false, false, true, false, false, false, false, false, false, false] rfl rfl (by kernel_rfl) (fun _ _ _ h => h) (Or.inl ⟨by rfl, ?_⟩) ?_ ?_
  rotate_left
  · intro w'
    go_simp
    with_reducible rfl
  rotate_left
  · simp only [Act.put, List.setIfInBounds_toArray, List.set_cons_zero, List.set_cons_succ, i64_w, i32_w]
    rfl
  refine pure_ (i := 7) (N := some 28) (v := ?_) (a' := ?_) #[true, true, true, true, false, false, true, true, false, false, false, false, false, false] rfl rfl (by kernel_rfl) (fun _ _ _ h => h) (Or.inl ⟨by rfl, ?_⟩) ?_ ?_
  rotate_left
  · intro w'
    go_simp
    with_reducible rfl
  rotate_left
  · simp only [Act.put, List.setIfInBounds_toArray, List.set_cons_zero, List.set_cons_succ, i64_w, i32_w]
    rfl
  refine pure_ (i := 8) (N := some 29) (v := ?_) (a' := ?_) #[true, true, true, true, false, false, true, true, true, false, false, false, false, false] rfl rfl (by kernel_rfl) (fun _ _ _ h => h) (Or.inl ⟨by rfl, ?_⟩) ?_ ?_
  rotate_left
  · intro w'
    go_simp
    with_reducible rfl
  rotate_left
  · simp only [Act.put, List.setIfInBounds_toArray, List.set_cons_zero, List.set_cons_succ, i64_w, i32_w]
    rfl
  refine take_ (i := 9) (N := some 30) (v := ?_) (a' := ?_) #[true, true, true, true, false, false, true, true, true, true, false, false, false, false] rfl rfl (by kernel_rfl) (fun _ _ _ h => h) (Or.inl ⟨by rfl, ?_⟩) hHeld ?_ ?_
  rotate_left
  · rintro w' ⟨s0, s1⟩
    go_simp
    with_reducible rfl
  rotate_left
  · simp only [Act.put, List.setIfInBounds_toArray, List.set_cons_zero, List.set_cons_succ, i64_w, i32_w]
    rfl
  refine one_ (i := 4) (N := some 25) #[true, true, true, true, true, false, true, true, true, true, false, false, false, false] rfl rfl (by kernel_rfl) (by decide) (fun K hK => ?_)
  refine goes_ Try.func107 (by kernel_rfl) rfl #[.pointer (ptr ul)] (by rfl) rfl rfl (by (try simp only [List.map_toArray, List.map_cons, List.map_nil]); first | done | rfl) ?_
  have h107 := (size_any (t := ul) UL0.out)
  rw [HS1E.out] at h107
  refine h107.mono ?_
  clear h107
  rintro e w' ⟨rfl, rfl⟩
  refine ⟨_, rfl, ?_⟩
  refine hK.out _ _ hHeld (fun hHeld => ?_)
  clear hK K
  refine norm_ (a' := ?_) ?_ ?_
  rotate_left
  · show Act.put _ (some 25) _ = _
    simp only [Act.put, List.setIfInBounds_toArray, List.set_cons_zero, List.set_cons_succ, i64_w, i32_w]
    rfl
  refine pure_ (i := 5) (N := some 26) (v := ?_) (a' := ?_) #[true, true, true, true, true, true, true, true, true, true, false, false, false, false] rfl rfl (by kernel_rfl) (fun _ _ _ h => h) (Or.inl ⟨by rfl, ?_⟩) ?_ ?_
  rotate_left
  · intro w'
    go_simp
    with_reducible rfl
  rotate_left
  · simp only [Act.put, List.setIfInBounds_toArray, List.set_cons_zero, List.set_cons_succ, i64_w, i32_w]
    rfl
  refine one_ (i := 10) (N := some 31) #[true, true, true, true, true, true, true, true, true, true, true, false, false, false] rfl rfl (by kernel_rfl) (by decide) (fun K hK => ?_)
  refine goes_ Try.func107 (by kernel_rfl) rfl #[.pointer (ptr ur)] (by rfl) rfl rfl (by (try simp only [List.map_toArray, List.map_cons, List.map_nil]); first | done | rfl) ?_
  have h107 := (size_any (t := ur) UR0.out)
  rw [HS2E.out] at h107
  refine h107.mono ?_
  clear h107
  rintro e w' ⟨rfl, rfl⟩
  refine ⟨_, rfl, ?_⟩
  refine hK.out _ _ hHeld (fun hHeld => ?_)
  clear hK K
  refine norm_ (a' := ?_) ?_ ?_
  rotate_left
  · show Act.put _ (some 31) _ = _
    simp only [Act.put, List.setIfInBounds_toArray, List.set_cons_zero, List.set_cons_succ, i64_w, i32_w]
    rfl
  refine pure_ (i := 11) (N := some 32) (v := ?_) (a' := ?_) #[true, true, true, true, true, true, true, true, true, true, true, true, false, false] rfl rfl (by kernel_rfl) (fun _ _ _ h => h) (Or.inl ⟨by rfl, ?_⟩) ?_ ?_
  rotate_left
  · intro w'
    go_simp
    with_reducible rfl
  rotate_left
  · simp only [Act.put, List.setIfInBounds_toArray, List.set_cons_zero, List.set_cons_succ, i64_w, i32_w]
    rfl
  refine pure_ (i := 12) (N := some 33) (v := ?_) (a' := ?_) #[true, true, true, true, true, true, true, true, true, true, true, true, true, false] rfl rfl (by kernel_rfl) (fun _ _ _ h => h) (Or.inl ⟨by rfl, ?_⟩) ?_ ?_
  rotate_left
  · intro w'
    go_simp
    with_reducible rfl
  rotate_left
  · simp only [Act.put, List.setIfInBounds_toArray, List.set_cons_zero, List.set_cons_succ, i64_w, i32_w]
    rfl
  refine pure_ (i := 13) (N := some 34) (v := ?_) (a' := ?_) #[true, true, true, true, true, true, true, true, true, true, true, true, true, true] rfl rfl (by kernel_rfl) (fun _ _ _ h => h) (Or.inl ⟨by rfl, ?_⟩) ?_ ?_
  rotate_left
  · intro w'
    go_simp
    with_reducible rfl
  rotate_left
  · simp only [Act.put, List.setIfInBounds_toArray, List.set_cons_zero, List.set_cons_succ, i64_w, i32_w]
    rfl
  refine done_ (by kernel_rfl) ?_
  have f3 := K0.out.fz 3
  have ck2 := K0.out.c2
  have ck3 := K0.out.c3
  obtain ⟨q1, q2, q3, q4, q5⟩ := HP.out
  have Q3 := parted_iff.1 q4
  simp only [blocks, List.mem_cons, List.mem_append, not_or] at q1 q2 q5
  obtain ⟨p1, p2, p3, p4, p5⟩ := Q3
  have Hq1 := Lib.hid q1
  have Hq2 := Lib.hid q2
  have Hq5 := Lib.hid q5
  have Hp1 := Lib.hid p1
  have Hp2 := Lib.hid p2
  have Hp5 := Lib.hid p5
  clear q1 q2 q3 q4 q5 p1 p2 p3 p4 p5
  go_wp2_with (go_at_call 109; refine (turnL_any K0.out U0.out O0.out UL0.out UR0.out Hq2.out.1 Hq1.out Hq2.out.2.1 Hq2.out.2.2 (fun h => (Hq5.out u h).1 rfl) Hp1.out Hp2.out (by have h := HB.out; simp only [tot] at h; omega) (by have h := HSS.out; simp only [siz] at h; omega)).mono ?_; rintro e w9 ⟨rfl, a9, k9⟩; have A9 := Lib.hid a9; have P9 := Lib.hid (P0.out.trans (k9.mono (fun b _ h => h.elim .inl (fun h => .inr (.inr (h ▸ List.mem_cons_self ..)))))); clear a9 k9)
  go_ret
  exact ⟨rfl, A9.out, P9.out⟩
set_option maxHeartbeats 8000000 in
set_option maxRecDepth 100000 in
theorem balR2_any {w : World} {k u v : Nat} {x ux vx : Int} {n un vn : Nat} {o vl vr ur : Tree} {a m : Int} (hk : KAt w k x n (ptr o) (some ⟨u, 0, none⟩) a m) (hu : KAt w u ux un (some ⟨v, 0, none⟩) (ptr ur) ((un + tot (.nd v vl vx vn vr) + tot ur : Nat) : Int) ((1 + siz (.nd v vl vx vn vr) + siz ur : Nat) : Int)) (ho : At w o) (hv : KAt w v vx vn (ptr vl) (ptr vr) ((vn + tot vl + tot vr : Nat) : Int) ((1 + siz vl + siz vr : Nat) : Int)) (hvl : At w vl) (hvr : At w vr) (hur : At w ur)
    (hp : Parted k o (.nd u (.nd v vl vx vn vr) ux un ur)) (hb : n + tot o + tot (.nd u (.nd v vl vx vn vr) ux un ur) ≤ 1099511627776) (hs : 1 + siz o + siz (.nd u (.nd v vl vx vn vr) ux un ur) ≤ 1099511627776) (hheavy : 3 * (siz o + 1) < siz (.nd u (.nd v vl vx vn vr) ux un ur) + 1) (hin : 2 * (siz ur + 1) ≤ siz (.nd v vl vx vn vr) + 1) :
    Calls Try.prog 87 #[.pointer (some ⟨k, 0, none⟩)] w fun e w' => e = .returned (.pointer (some ⟨v, 0, none⟩)) ∧ At w' (.nd v (.nd k o x n vl) vx vn (.nd u vr ux un ur)) ∧ Keeps (fun b => b = k ∨ b ∈ blocks o ∨ b ∈ blocks (.nd u (.nd v vl vx vn vr) ux un ur)) w w' := by
  obtain ⟨sb, hsb⟩ : ∃ sb, siz (.nd u (.nd v vl vx vn vr) ux un ur) = sb := ⟨_, rfl⟩
  obtain ⟨so, hso⟩ : ∃ so, siz o = so := ⟨_, rfl⟩
  obtain ⟨s1, hs1⟩ : ∃ s1, siz (.nd v vl vx vn vr) = s1 := ⟨_, rfl⟩
  obtain ⟨s2, hs2⟩ : ∃ s2, siz ur = s2 := ⟨_, rfl⟩
  rw [hsb, hso] at hheavy
  rw [hs1, hs2] at hin
  have HS : Hid (1 + so + sb ≤ 1099511627776) := by show _ ≤ _; rw [← hso, ← hsb]; omega
  have HS1 : Hid (s1 ≤ 1099511627776 ∧ s2 ≤ 1099511627776) := by
    show _ ∧ _
    simp only [siz] at hs hs1 hs2
    omega
  have d1 : decide (3 * (so + 1) < sb + 1) = true := decide_eq_true hheavy
  have e1 := wr1 HS1.out.1
  have e2 := wr1 HS1.out.2
  have e3 := wr2 HS1.out.2
  have e4 : decide (2 * ((s2 : Int) + 1) ≤ (s1 : Int) + 1) = true := dec2 hin
  have HP := Lib.hid hp
  have HSB := Lib.hid hsb
  have HSO := Lib.hid hso
  have HS1E := Lib.hid hs1
  have HS2E := Lib.hid hs2
  have HB := Lib.hid hb
  have HSS := Lib.hid hs
  have K0 : Hid (KAt w.drew k x n (ptr o) (some ⟨u, 0, none⟩) a m) := hk
  have U0 : Hid (KAt w.drew u ux un (some ⟨v, 0, none⟩) (ptr ur) ((un + tot (.nd v vl vx vn vr) + tot ur : Nat) : Int) ((1 + siz (.nd v vl vx vn vr) + siz ur : Nat) : Int)) := hu
  have O0 := Lib.hid ho.drew
  have V0 : Hid (KAt w.drew v vx vn (ptr vl) (ptr vr) ((vn + tot vl + tot vr : Nat) : Int) ((1 + siz vl + siz vr : Nat) : Int)) := hv
  have VL0 := Lib.hid hvl.drew
  have VR0 := Lib.hid hvr.drew
  have UR0 := Lib.hid hur.drew
  have P0 : Hid (Keeps (fun b => b = k ∨ b ∈ blocks o ∨ b ∈ blocks (.nd u (.nd v vl vx vn vr) ux un ur)) w w.drew) := (Keeps.refl _ w).drew
  clear hk hu ho hp hb hs hheavy hin hsb hso hs1 hs2 hv hvl hvr hur
  go_enter Try.func87, Try.ntmps87
  go_upto_region 1 with fail
  refine start_ (n := 12) (S := fun w' => w'.cell? ⟨k, 2, none⟩ = some (.pointer (ptr o)) ∧ w'.cell? ⟨k, 3, none⟩ = some (.pointer (some ⟨u, 0, none⟩))) (ds := []) #[false, false, false, false, false, false, false, false, false, false, false, false] (by kernel_rfl) rfl rfl ⟨K0.out.c2, K0.out.c3⟩ (fun hHeld => ?_)
  generalize w.drew = w1 at K0 U0 O0 V0 VL0 VR0 UR0 P0 hHeld ⊢
  refine pure_ (i := 0) (N := some 6) (v := ?_) (a' := ?_) #[true, false, false, false, false, false, false, false, false, false, false, false] rfl rfl (by kernel_rfl) (fun _ _ _ h => h) (Or.inl ⟨by rfl, ?_⟩) ?_ ?_
  rotate_left
  · intro w'
    go_simp
    with_reducible rfl
  rotate_left
  · simp only [Act.put, List.setIfInBounds_toArray, List.set_cons_zero, List.set_cons_succ, i64_w, i32_w]
    rfl
  refine pure_ (i := 1) (N := some 7) (v := ?_) (a' := ?_) #[true, true, false, false, false, false, false, false, false, false, false, false] rfl rfl (by kernel_rfl) (fun _ _ _ h => h) (Or.inl ⟨by rfl, ?_⟩) ?_ ?_
  rotate_left
  · intro w'
    go_simp
    with_reducible rfl
  rotate_left
  · simp only [Act.put, List.setIfInBounds_toArray, List.set_cons_zero, List.set_cons_succ, i64_w, i32_w]
    rfl
  refine pure_ (i := 2) (N := some 8) (v := ?_) (a' := ?_) #[true, true, true, false, false, false, false, false, false, false, false, false] rfl rfl (by kernel_rfl) (fun _ _ _ h => h) (Or.inl ⟨by rfl, ?_⟩) ?_ ?_
  rotate_left
  · intro w'
    go_simp
    with_reducible rfl
  rotate_left
  · simp only [Act.put, List.setIfInBounds_toArray, List.set_cons_zero, List.set_cons_succ, i64_w, i32_w]
    rfl
  refine take_ (i := 3) (N := some 9) (v := ?_) (a' := ?_) #[true, true, true, true, false, false, false, false, false, false, false, false] rfl rfl (by kernel_rfl) (fun _ _ _ h => h) (Or.inl ⟨by rfl, ?_⟩) hHeld ?_ ?_
  rotate_left
  · rintro w' ⟨s0, s1⟩
    go_simp
    with_reducible rfl
  rotate_left
  · simp only [Act.put, List.setIfInBounds_toArray, List.set_cons_zero, List.set_cons_succ, i64_w, i32_w]
    rfl
  refine pure_ (i := 5) (N := some 11) (v := ?_) (a' := ?_) #[true, true, true, true, false, true, false, false, false, false, false, false] rfl rfl (by kernel_rfl) (fun _ _ _ h => h) (Or.inl ⟨by rfl, ?_⟩) ?_ ?_
  rotate_left
  · intro w'
    go_simp
    with_reducible rfl
  rotate_left
  · simp only [Act.put, List.setIfInBounds_toArray, List.set_cons_zero, List.set_cons_succ, i64_w, i32_w]
    rfl
  refine pure_ (i := 6) (N := some 12) (v := ?_) (a' := ?_) #[true, true, true, true, false, true, true, false, false, false, false, false] rfl rfl (by kernel_rfl) (fun _ _ _ h => h) (Or.inl ⟨by rfl, ?_⟩) ?_ ?_
  rotate_left
  · intro w'
    go_simp
    with_reducible rfl
  rotate_left
  · simp only [Act.put, List.setIfInBounds_toArray, List.set_cons_zero, List.set_cons_succ, i64_w, i32_w]
    rfl
  refine pure_ (i := 7) (N := some 13) (v := ?_) (a' := ?_) #[true, true, true, true, false, true, true, true, false, false, false, false] rfl rfl (by kernel_rfl) (fun _ _ _ h => h) (Or.inl ⟨by rfl, ?_⟩) ?_ ?_
  rotate_left
  · intro w'
    go_simp
    with_reducible rfl
  rotate_left
  · simp only [Act.put, List.setIfInBounds_toArray, List.set_cons_zero, List.set_cons_succ, i64_w, i32_w]
    rfl
  refine take_ (i := 8) (N := some 14) (v := ?_) (a' := ?_) #[true, true, true, true, false, true, true, true, true, false, false, false] rfl rfl (by kernel_rfl) (fun _ _ _ h => h) (Or.inl ⟨by rfl, ?_⟩) hHeld ?_ ?_
  rotate_left
  · rintro w' ⟨s0, s1⟩
    go_simp
    with_reducible rfl
  rotate_left
  · simp only [Act.put, List.setIfInBounds_toArray, List.set_cons_zero, List.set_cons_succ, i64_w, i32_w]
    rfl
  refine one_ (i := 4) (N := some 10) #[true, true, true, true, true, true, true, true, true, false, false, false] rfl rfl (by kernel_rfl) (by decide) (fun K hK => ?_)
  refine goes_ Try.func107 (by kernel_rfl) rfl #[.pointer (some ⟨u, 0, none⟩)] (by rfl) rfl rfl (by (try simp only [List.map_toArray, List.map_cons, List.map_nil]); first | done | rfl) ?_
  have h107 := (size_any (t := (.nd u (.nd v vl vx vn vr) ux un ur)) (At.mk (l := (.nd v vl vx vn vr)) (r := ur) U0.out (At.mk V0.out VL0.out VR0.out) UR0.out))
  rw [HSB.out] at h107
  refine h107.mono ?_
  clear h107
  rintro e w' ⟨rfl, rfl⟩
  refine ⟨_, rfl, ?_⟩
  refine hK.out _ _ hHeld (fun hHeld => ?_)
  clear hK K
  refine norm_ (a' := ?_) ?_ ?_
  rotate_left
  · show Act.put _ (some 10) _ = _
    simp only [Act.put, List.setIfInBounds_toArray, List.set_cons_zero, List.set_cons_succ, i64_w, i32_w]
    rfl
  refine one_ (i := 9) (N := some 15) #[true, true, true, true, true, true, true, true, true, true, false, false] rfl rfl (by kernel_rfl) (by decide) (fun K hK => ?_)
  refine goes_ Try.func107 (by kernel_rfl) rfl #[.pointer (ptr o)] (by rfl) rfl rfl (by (try simp only [List.map_toArray, List.map_cons, List.map_nil]); first | done | rfl) ?_
  have h107 := (size_any O0.out)
  rw [HSO.out] at h107
  refine h107.mono ?_
  clear h107
  rintro e w' ⟨rfl, rfl⟩
  refine ⟨_, rfl, ?_⟩
  refine hK.out _ _ hHeld (fun hHeld => ?_)
  clear hK K
  refine norm_ (a' := ?_) ?_ ?_
  rotate_left
  · show Act.put _ (some 15) _ = _
    simp only [Act.put, List.setIfInBounds_toArray, List.set_cons_zero, List.set_cons_succ, i64_w, i32_w]
    rfl
  refine one_ (i := 10) (N := some 16) #[true, true, true, true, true, true, true, true, true, true, true, false] rfl rfl (by kernel_rfl) (by decide) (fun K hK => ?_)
  refine goes_ Try.func108 (by kernel_rfl) rfl #[.int .i64 (sb : Int), .int .i64 (so : Int)] (by rfl) rfl rfl (by (try simp only [List.map_toArray, List.map_cons, List.map_nil]); first | done | rfl) ?_
  have h108 := heavy_any w1 sb so (by have := HS.out; omega) (by have := HS.out; omega)
  rw [d1] at h108
  refine h108.mono ?_
  clear h108
  rintro e w' ⟨rfl, rfl⟩
  refine ⟨_, rfl, ?_⟩
  refine hK.out _ _ hHeld (fun hHeld => ?_)
  clear hK K
  refine norm_ (a' := ?_) ?_ ?_
  rotate_left
  · show Act.put _ (some 16) _ = _
    simp only [Act.put, List.setIfInBounds_toArray, List.set_cons_zero, List.set_cons_succ, i64_w, i32_w]
    rfl
  refine pure_ (i := 11) (N := some 5) (v := ?_) (a' := ?_) #[true, true, true, true, true, true, true, true, true, true, true, true] rfl rfl (by kernel_rfl) (fun _ _ _ h => h) (Or.inl ⟨by rfl, ?_⟩) ?_ ?_
  rotate_left
  · intro w'
    go_simp
    with_reducible rfl
  rotate_left
  · simp only [Act.put, List.setIfInBounds_toArray, List.set_cons_zero, List.set_cons_succ, i64_w, i32_w]
    rfl
  refine done_ (by kernel_rfl) ?_
  have ck2 := K0.out.c2
  have ck3 := K0.out.c3
  go_upto_region 3 with fail
  clear ck2 ck3
  replace K0 := Lib.hid (drewK K0.out)
  replace U0 := Lib.hid (drewK U0.out)
  replace O0 := Lib.hid O0.out.drew
  replace V0 := Lib.hid (drewK V0.out)
  replace VL0 := Lib.hid VL0.out.drew
  replace VR0 := Lib.hid VR0.out.drew
  replace UR0 := Lib.hid UR0.out.drew
  replace P0 : Hid (Keeps (fun b => b = k ∨ b ∈ blocks o ∨ b ∈ blocks (.nd u (.nd v vl vx vn vr) ux un ur)) w w1.drew) := P0.out.drew
  refine start_ (n := 14) (S := fun w' => w'.cell? ⟨u, 2, none⟩ = some (.pointer (some ⟨v, 0, none⟩)) ∧ w'.cell? ⟨u, 3, none⟩ = some (.pointer (ptr ur))) (ds := []) #[false, false, false, false, false, false, false, false, false, false, false, false, false, false] (by kernel_rfl) rfl rfl ⟨U0.out.c2, U0.out.c3⟩ (fun hHeld => ?_)
  generalize w1.drew = w2 at K0 U0 O0 V0 VL0 VR0 UR0 P0 hHeld ⊢
  refine pure_ (i := 0) (N := some 21) (v := ?_) (a' := ?_) #[true, false, false, false, false, false, false, false, false, false, false, false, false, false] rfl rfl (by kernel_rfl) (fun _ _ _ h => h) (Or.inl ⟨by rfl, ?_⟩) ?_ ?_
  rotate_left
  · intro w'
    go_simp
    with_reducible rfl
  rotate_left
  · simp only [Act.put, List.setIfInBounds_toArray, List.set_cons_zero, List.set_cons_succ, i64_w, i32_w]
    rfl
  refine pure_ (i := 1) (N := some 22) (v := ?_) (a' := ?_) #[true, true, false, false, false, false, false, false, false, false, false, false, false, false] rfl rfl (by kernel_rfl) (fun _ _ _ h => h) (Or.inl ⟨by rfl, ?_⟩) ?_ ?_
  rotate_left
  · intro w'
    go_simp
    with_reducible rfl
  rotate_left
  · simp only [Act.put, List.setIfInBounds_toArray, List.set_cons_zero, List.set_cons_succ, i64_w, i32_w]
    rfl
  refine pure_ (i := 2) (N := some 23) (v := ?_) (a' := ?_) #[true, true, true, false, false, false, false, false, false, false, false, false, false, false] rfl rfl (by kernel_rfl) (fun _ _ _ h => h) (Or.inl ⟨by rfl, ?_⟩) ?_ ?_
  rotate_left
  · intro w'
    go_simp
    with_reducible rfl
  rotate_left
  · simp only [Act.put, List.setIfInBounds_toArray, List.set_cons_zero, List.set_cons_succ, i64_w, i32_w]
    rfl
  refine take_ (i := 3) (N := some 24) (v := ?_) (a' := ?_) #[true, true, true, true, false, false, false, false, false, false, false, false, false, false] rfl rfl (by kernel_rfl) (fun _ _ _ h => h) (Or.inl ⟨by rfl, ?_⟩) hHeld ?_ ?_
  rotate_left
  · rintro w' ⟨s0, s1⟩
    go_simp
    with_reducible rfl
  rotate_left
  · simp only [Act.put, List.setIfInBounds_toArray, List.set_cons_zero, List.set_cons_succ, i64_w, i32_w]
    rfl
  refine pure_ (i := 6) (N := some 27) (v := ?_) (a' := ?_) #[true, true, true, true, false, false, true, false, false, false, false, false, false, false] rfl rfl (by kernel_rfl) (fun _ _ _ h => h) (Or.inl ⟨by rfl, ?_⟩) ?_ ?_
  rotate_left
  · intro w'
    go_simp
    with_reducible rfl
  rotate_left
  · simp only [Act.put, List.setIfInBounds_toArray, List.set_cons_zero, List.set_cons_succ, i64_w, i32_w]
    rfl
  refine pure_ (i := 7) (N := some 28) (v := ?_) (a' := ?_) #[true, true, true, true, false, false, true, true, false, false, false, false, false, false] rfl rfl (by kernel_rfl) (fun _ _ _ h => h) (Or.inl ⟨by rfl, ?_⟩) ?_ ?_
  rotate_left
  · intro w'
    go_simp
    with_reducible rfl
  rotate_left
  · simp only [Act.put, List.setIfInBounds_toArray, List.set_cons_zero, List.set_cons_succ, i64_w, i32_w]
    rfl
  refine pure_ (i := 8) (N := some 29) (v := ?_) (a' := ?_) #[true, true, true, true, false, false, true, true, true, false, false, false, false, false] rfl rfl (by kernel_rfl) (fun _ _ _ h => h) (Or.inl ⟨by rfl, ?_⟩) ?_ ?_
  rotate_left
  · intro w'
    go_simp
    with_reducible rfl
  rotate_left
  · simp only [Act.put, List.setIfInBounds_toArray, List.set_cons_zero, List.set_cons_succ, i64_w, i32_w]
    rfl
  refine take_ (i := 9) (N := some 30) (v := ?_) (a' := ?_) #[true, true, true, true, false, false, true, true, true, true, false, false, false, false] rfl rfl (by kernel_rfl) (fun _ _ _ h => h) (Or.inl ⟨by rfl, ?_⟩) hHeld ?_ ?_
  rotate_left
  · rintro w' ⟨s0, s1⟩
    go_simp
    with_reducible rfl
  rotate_left
  · simp only [Act.put, List.setIfInBounds_toArray, List.set_cons_zero, List.set_cons_succ, i64_w, i32_w]
    rfl
  refine one_ (i := 4) (N := some 25) #[true, true, true, true, true, false, true, true, true, true, false, false, false, false] rfl rfl (by kernel_rfl) (by decide) (fun K hK => ?_)
  refine goes_ Try.func107 (by kernel_rfl) rfl #[.pointer (some ⟨v, 0, none⟩)] (by rfl) rfl rfl (by (try simp only [List.map_toArray, List.map_cons, List.map_nil]); first | done | rfl) ?_
  have h107 := (size_any (t := (.nd v vl vx vn vr)) (At.mk V0.out VL0.out VR0.out))
  rw [HS1E.out] at h107
  refine h107.mono ?_
  clear h107
  rintro e w' ⟨rfl, rfl⟩
  refine ⟨_, rfl, ?_⟩
  refine hK.out _ _ hHeld (fun hHeld => ?_)
  clear hK K
  refine norm_ (a' := ?_) ?_ ?_
  rotate_left
  · show Act.put _ (some 25) _ = _
    simp only [Act.put, List.setIfInBounds_toArray, List.set_cons_zero, List.set_cons_succ, i64_w, i32_w]
    rfl
  refine pure_ (i := 5) (N := some 26) (v := ?_) (a' := ?_) #[true, true, true, true, true, true, true, true, true, true, false, false, false, false] rfl rfl (by kernel_rfl) (fun _ _ _ h => h) (Or.inl ⟨by rfl, ?_⟩) ?_ ?_
  rotate_left
  · intro w'
    go_simp
    with_reducible rfl
  rotate_left
  · simp only [Act.put, List.setIfInBounds_toArray, List.set_cons_zero, List.set_cons_succ, i64_w, i32_w]
    rfl
  refine one_ (i := 10) (N := some 31) #[true, true, true, true, true, true, true, true, true, true, true, false, false, false] rfl rfl (by kernel_rfl) (by decide) (fun K hK => ?_)
  refine goes_ Try.func107 (by kernel_rfl) rfl #[.pointer (ptr ur)] (by rfl) rfl rfl (by (try simp only [List.map_toArray, List.map_cons, List.map_nil]); first | done | rfl) ?_
  have h107 := (size_any (t := ur) UR0.out)
  rw [HS2E.out] at h107
  refine h107.mono ?_
  clear h107
  rintro e w' ⟨rfl, rfl⟩
  refine ⟨_, rfl, ?_⟩
  refine hK.out _ _ hHeld (fun hHeld => ?_)
  clear hK K
  refine norm_ (a' := ?_) ?_ ?_
  rotate_left
  · show Act.put _ (some 31) _ = _
    simp only [Act.put, List.setIfInBounds_toArray, List.set_cons_zero, List.set_cons_succ, i64_w, i32_w]
    rfl
  refine pure_ (i := 11) (N := some 32) (v := ?_) (a' := ?_) #[true, true, true, true, true, true, true, true, true, true, true, true, false, false] rfl rfl (by kernel_rfl) (fun _ _ _ h => h) (Or.inl ⟨by rfl, ?_⟩) ?_ ?_
  rotate_left
  · intro w'
    go_simp
    with_reducible rfl
  rotate_left
  · simp only [Act.put, List.setIfInBounds_toArray, List.set_cons_zero, List.set_cons_succ, i64_w, i32_w]
    rfl
  refine pure_ (i := 12) (N := some 33) (v := ?_) (a' := ?_) #[true, true, true, true, true, true, true, true, true, true, true, true, true, false] rfl rfl (by kernel_rfl) (fun _ _ _ h => h) (Or.inl ⟨by rfl, ?_⟩) ?_ ?_
  rotate_left
  · intro w'
    go_simp
    with_reducible rfl
  rotate_left
  · simp only [Act.put, List.setIfInBounds_toArray, List.set_cons_zero, List.set_cons_succ, i64_w, i32_w]
    rfl
  refine pure_ (i := 13) (N := some 34) (v := ?_) (a' := ?_) #[true, true, true, true, true, true, true, true, true, true, true, true, true, true] rfl rfl (by kernel_rfl) (fun _ _ _ h => h) (Or.inl ⟨by rfl, ?_⟩) ?_ ?_
  rotate_left
  · intro w'
    go_simp
    with_reducible rfl
  rotate_left
  · simp only [Act.put, List.setIfInBounds_toArray, List.set_cons_zero, List.set_cons_succ, i64_w, i32_w]
    rfl
  refine done_ (by kernel_rfl) ?_
  have f3 := K0.out.fz 3
  have ck2 := K0.out.c2
  have ck3 := K0.out.c3
  obtain ⟨q1, q2, q3, q4, q5⟩ := HP.out
  have Q3 := parted_iff.1 q4
  simp only [blocks, List.mem_cons, List.mem_append, not_or] at q1 q2 q5
  obtain ⟨p1, p2, p3, p4, p5⟩ := Q3
  have Q4 := parted_iff.1 p3
  obtain ⟨y1, y2, y3, y4, y5⟩ := Q4
  simp only [blocks, List.mem_cons, List.mem_append, not_or] at p1 p2 p5
  have Hq1 := Lib.hid q1
  have Hq2 := Lib.hid q2
  have Hq5 := Lib.hid q5
  have Hp1 := Lib.hid p1
  have Hp2 := Lib.hid p2
  have Hp5 := Lib.hid p5
  have Hy1 := Lib.hid y1
  have Hy2 := Lib.hid y2
  have Hy5 := Lib.hid y5
  clear q1 q2 q3 q4 q5 p1 p2 p3 p4 p5 y1 y2 y3 y4 y5
  go_wp2_with (first | (go_at_call 109; refine (turnR_any U0.out V0.out UR0.out VL0.out VR0.out Hp1.out.1 Hp2.out Hp1.out.2.1 Hp1.out.2.2 (fun h => Hp5.out v (.inl rfl) h) Hy1.out Hy2.out (by have h := HB.out; simp only [tot] at h; omega) (by have h := HSS.out; simp only [siz] at h; omega)).mono ?_; rintro e w7 ⟨rfl, a7, k7⟩; have A7 := Lib.hid a7; have K7 := Lib.hid (K0.out.kept k7 (fun h => h.elim Hq2.out.1 Hq2.out.2.1.1)); have O7 := Lib.hid (At.kept k7 O0.out (fun b hb h => h.elim (fun e => (Hq5.out b hb).1 e) (fun e => (Hq5.out b hb).2.1.1 e))); have P7 := Lib.hid (P0.out.trans (k7.mono (fun b _ h => .inr (.inr (h.elim (fun h => h ▸ List.mem_cons_self ..) (fun h => h ▸ List.mem_cons_of_mem _ (List.mem_append_left _ (List.mem_cons_self ..)))))))); have f7 := K7.out.fz 3; have c7 := K7.out.c3; clear a7 k7 K0 U0 V0 O0 f3 ck2 ck3) | (go_at_call 109; have K8 := Lib.hid (KAt.put3 K7.out (some ⟨v, 0, none⟩)); have A8 := Lib.hid (At.put (i := 3) A7.out (g := k) (by simp only [blocks, List.mem_cons, List.mem_append, not_or]; exact ⟨Hq2.out.2.1.1, Hq2.out.2.1.2.1, Hq2.out.1, Hq2.out.2.1.2.2, Hq2.out.2.2⟩) (.pointer (some ⟨v, 0, none⟩))); have O8 := Lib.hid (O7.out.put (i := 3) Hq1.out (.pointer (some ⟨v, 0, none⟩))); have P8 := Lib.hid (P7.out.setCell (p := ⟨k, 3, none⟩) (.inl rfl) (.pointer (some ⟨v, 0, none⟩))); clear c7 f7; refine (turnL_any K8.out A8.out.1 O8.out A8.out.2.1 A8.out.2.2 Hq2.out.2.1.1 Hq1.out Hq2.out.2.1.2.1 (by simp only [blocks, List.mem_cons, List.mem_append, not_or]; exact ⟨Hq2.out.1, Hq2.out.2.1.2.2, Hq2.out.2.2⟩) (fun h => (Hq5.out v h).2.1.1 rfl) Hy1.out (by simp only [blocks, List.mem_cons, List.mem_append, not_or]; exact ⟨fun e => Hp1.out.1 e.symm, Hy2.out, fun h => Hp5.out v (.inl rfl) h⟩) (by have h := HB.out; simp only [tot] at h ⊢; omega) (by have h := HSS.out; simp only [siz] at h ⊢; omega)).mono ?_; rintro e w9 ⟨rfl, a9, k9⟩; have A9 := Lib.hid a9; have P9 := Lib.hid (P8.out.trans (k9.mono (fun b _ h => h.elim .inl (fun h => .inr (.inr (h ▸ List.mem_cons_of_mem _ (List.mem_append_left _ (List.mem_cons_self ..)))))))); clear a9 k9))
  go_ret
  exact ⟨rfl, A9.out, P9.out⟩
set_option maxHeartbeats 8000000 in
set_option maxRecDepth 100000 in
theorem balL1_any {w : World} {k u : Nat} {x ux : Int} {n un : Nat} {o ul ur : Tree} {a m : Int} (hk : KAt w k x n (some ⟨u, 0, none⟩) (ptr o) a m) (hu : KAt w u ux un (ptr ul) (ptr ur) ((un + tot ul + tot ur : Nat) : Int) ((1 + siz ul + siz ur : Nat) : Int)) (ho : At w o) (hul : At w ul) (hur : At w ur)
    (hp : Parted k (.nd u ul ux un ur) o) (hb : n + tot (.nd u ul ux un ur) + tot o ≤ 1099511627776) (hs : 1 + siz (.nd u ul ux un ur) + siz o ≤ 1099511627776) (hheavy : 3 * (siz o + 1) < siz (.nd u ul ux un ur) + 1) (hin : ¬ 2 * (siz ul + 1) ≤ siz ur + 1) :
    Calls Try.prog 87 #[.pointer (some ⟨k, 0, none⟩)] w fun e w' => e = .returned (.pointer (some ⟨u, 0, none⟩)) ∧ At w' (.nd u ul ux un (.nd k ur x n o)) ∧ Keeps (fun b => b = k ∨ b ∈ blocks (.nd u ul ux un ur) ∨ b ∈ blocks o) w w' := by
  obtain ⟨sb, hsb⟩ : ∃ sb, siz (.nd u ul ux un ur) = sb := ⟨_, rfl⟩
  obtain ⟨so, hso⟩ : ∃ so, siz o = so := ⟨_, rfl⟩
  obtain ⟨s1, hs1⟩ : ∃ s1, siz ur = s1 := ⟨_, rfl⟩
  obtain ⟨s2, hs2⟩ : ∃ s2, siz ul = s2 := ⟨_, rfl⟩
  rw [hsb, hso] at hheavy
  rw [hs1, hs2] at hin
  have HS : Hid (1 + so + sb ≤ 1099511627776) := by show _ ≤ _; rw [← hso, ← hsb]; omega
  have HS1 : Hid (s1 ≤ 1099511627776 ∧ s2 ≤ 1099511627776) := by
    show _ ∧ _
    simp only [siz] at hs hs1 hs2
    omega
  have d0 : decide (3 * (sb + 1) < so + 1) = false := decide_eq_false (by omega)
  have d1 : decide (3 * (so + 1) < sb + 1) = true := decide_eq_true hheavy
  have e1 := wr1 HS1.out.1
  have e2 := wr1 HS1.out.2
  have e3 := wr2 HS1.out.2
  have e4 : decide (2 * ((s2 : Int) + 1) ≤ (s1 : Int) + 1) = false := dec2n hin
  have HP := Lib.hid hp
  have HSB := Lib.hid hsb
  have HSO := Lib.hid hso
  have HS1E := Lib.hid hs1
  have HS2E := Lib.hid hs2
  have HB := Lib.hid hb
  have HSS := Lib.hid hs
  have K0 : Hid (KAt w.drew k x n (some ⟨u, 0, none⟩) (ptr o) a m) := hk
  have U0 : Hid (KAt w.drew u ux un (ptr ul) (ptr ur) ((un + tot ul + tot ur : Nat) : Int) ((1 + siz ul + siz ur : Nat) : Int)) := hu
  have O0 := Lib.hid ho.drew
  have UL0 := Lib.hid hul.drew
  have UR0 := Lib.hid hur.drew
  have P0 : Hid (Keeps (fun b => b = k ∨ b ∈ blocks (.nd u ul ux un ur) ∨ b ∈ blocks o) w w.drew) := (Keeps.refl _ w).drew
  clear hk hu ho hp hb hs hheavy hin hsb hso hs1 hs2 hul hur
  go_enter Try.func87, Try.ntmps87
  go_upto_region 1 with fail
  refine start_ (n := 12) (S := fun w' => w'.cell? ⟨k, 2, none⟩ = some (.pointer (some ⟨u, 0, none⟩)) ∧ w'.cell? ⟨k, 3, none⟩ = some (.pointer (ptr o))) (ds := []) #[false, false, false, false, false, false, false, false, false, false, false, false] (by kernel_rfl) rfl rfl ⟨K0.out.c2, K0.out.c3⟩ (fun hHeld => ?_)
  generalize w.drew = w1 at K0 U0 O0 UL0 UR0 P0 hHeld ⊢
  refine pure_ (i := 0) (N := some 6) (v := ?_) (a' := ?_) #[true, false, false, false, false, false, false, false, false, false, false, false] rfl rfl (by kernel_rfl) (fun _ _ _ h => h) (Or.inl ⟨by rfl, ?_⟩) ?_ ?_
  rotate_left
  · intro w'
    go_simp
    with_reducible rfl
  rotate_left
  · simp only [Act.put, List.setIfInBounds_toArray, List.set_cons_zero, List.set_cons_succ, i64_w, i32_w]
    rfl
  refine pure_ (i := 1) (N := some 7) (v := ?_) (a' := ?_) #[true, true, false, false, false, false, false, false, false, false, false, false] rfl rfl (by kernel_rfl) (fun _ _ _ h => h) (Or.inl ⟨by rfl, ?_⟩) ?_ ?_
  rotate_left
  · intro w'
    go_simp
    with_reducible rfl
  rotate_left
  · simp only [Act.put, List.setIfInBounds_toArray, List.set_cons_zero, List.set_cons_succ, i64_w, i32_w]
    rfl
  refine pure_ (i := 2) (N := some 8) (v := ?_) (a' := ?_) #[true, true, true, false, false, false, false, false, false, false, false, false] rfl rfl (by kernel_rfl) (fun _ _ _ h => h) (Or.inl ⟨by rfl, ?_⟩) ?_ ?_
  rotate_left
  · intro w'
    go_simp
    with_reducible rfl
  rotate_left
  · simp only [Act.put, List.setIfInBounds_toArray, List.set_cons_zero, List.set_cons_succ, i64_w, i32_w]
    rfl
  refine take_ (i := 3) (N := some 9) (v := ?_) (a' := ?_) #[true, true, true, true, false, false, false, false, false, false, false, false] rfl rfl (by kernel_rfl) (fun _ _ _ h => h) (Or.inl ⟨by rfl, ?_⟩) hHeld ?_ ?_
  rotate_left
  · rintro w' ⟨s0, s1⟩
    go_simp
    with_reducible rfl
  rotate_left
  · simp only [Act.put, List.setIfInBounds_toArray, List.set_cons_zero, List.set_cons_succ, i64_w, i32_w]
    rfl
  refine pure_ (i := 5) (N := some 11) (v := ?_) (a' := ?_) #[true, true, true, true, false, true, false, false, false, false, false, false] rfl rfl (by kernel_rfl) (fun _ _ _ h => h) (Or.inl ⟨by rfl, ?_⟩) ?_ ?_
  rotate_left
  · intro w'
    go_simp
    with_reducible rfl
  rotate_left
  · simp only [Act.put, List.setIfInBounds_toArray, List.set_cons_zero, List.set_cons_succ, i64_w, i32_w]
    rfl
  refine pure_ (i := 6) (N := some 12) (v := ?_) (a' := ?_) #[true, true, true, true, false, true, true, false, false, false, false, false] rfl rfl (by kernel_rfl) (fun _ _ _ h => h) (Or.inl ⟨by rfl, ?_⟩) ?_ ?_
  rotate_left
  · intro w'
    go_simp
    with_reducible rfl
  rotate_left
  · simp only [Act.put, List.setIfInBounds_toArray, List.set_cons_zero, List.set_cons_succ, i64_w, i32_w]
    rfl
  refine pure_ (i := 7) (N := some 13) (v := ?_) (a' := ?_) #[true, true, true, true, false, true, true, true, false, false, false, false] rfl rfl (by kernel_rfl) (fun _ _ _ h => h) (Or.inl ⟨by rfl, ?_⟩) ?_ ?_
  rotate_left
  · intro w'
    go_simp
    with_reducible rfl
  rotate_left
  · simp only [Act.put, List.setIfInBounds_toArray, List.set_cons_zero, List.set_cons_succ, i64_w, i32_w]
    rfl
  refine take_ (i := 8) (N := some 14) (v := ?_) (a' := ?_) #[true, true, true, true, false, true, true, true, true, false, false, false] rfl rfl (by kernel_rfl) (fun _ _ _ h => h) (Or.inl ⟨by rfl, ?_⟩) hHeld ?_ ?_
  rotate_left
  · rintro w' ⟨s0, s1⟩
    go_simp
    with_reducible rfl
  rotate_left
  · simp only [Act.put, List.setIfInBounds_toArray, List.set_cons_zero, List.set_cons_succ, i64_w, i32_w]
    rfl
  refine one_ (i := 4) (N := some 10) #[true, true, true, true, true, true, true, true, true, false, false, false] rfl rfl (by kernel_rfl) (by decide) (fun K hK => ?_)
  refine goes_ Try.func107 (by kernel_rfl) rfl #[.pointer (ptr o)] (by rfl) rfl rfl (by (try simp only [List.map_toArray, List.map_cons, List.map_nil]); first | done | rfl) ?_
  have h107 := (size_any O0.out)
  rw [HSO.out] at h107
  refine h107.mono ?_
  clear h107
  rintro e w' ⟨rfl, rfl⟩
  refine ⟨_, rfl, ?_⟩
  refine hK.out _ _ hHeld (fun hHeld => ?_)
  clear hK K
  refine norm_ (a' := ?_) ?_ ?_
  rotate_left
  · show Act.put _ (some 10) _ = _
    simp only [Act.put, List.setIfInBounds_toArray, List.set_cons_zero, List.set_cons_succ, i64_w, i32_w]
    rfl
  refine one_ (i := 9) (N := some 15) #[true, true, true, true, true, true, true, true, true, true, false, false] rfl rfl (by kernel_rfl) (by decide) (fun K hK => ?_)
  refine goes_ Try.func107 (by kernel_rfl) rfl #[.pointer (some ⟨u, 0, none⟩)] (by rfl) rfl rfl (by (try simp only [List.map_toArray, List.map_cons, List.map_nil]); first | done | rfl) ?_
  have h107 := (size_any (t := (.nd u ul ux un ur)) (At.mk (l := ul) (r := ur) U0.out UL0.out UR0.out))
  rw [HSB.out] at h107
  refine h107.mono ?_
  clear h107
  rintro e w' ⟨rfl, rfl⟩
  refine ⟨_, rfl, ?_⟩
  refine hK.out _ _ hHeld (fun hHeld => ?_)
  clear hK K
  refine norm_ (a' := ?_) ?_ ?_
  rotate_left
  · show Act.put _ (some 15) _ = _
    simp only [Act.put, List.setIfInBounds_toArray, List.set_cons_zero, List.set_cons_succ, i64_w, i32_w]
    rfl
  refine one_ (i := 10) (N := some 16) #[true, true, true, true, true, true, true, true, true, true, true, false] rfl rfl (by kernel_rfl) (by decide) (fun K hK => ?_)
  refine goes_ Try.func108 (by kernel_rfl) rfl #[.int .i64 (so : Int), .int .i64 (sb : Int)] (by rfl) rfl rfl (by (try simp only [List.map_toArray, List.map_cons, List.map_nil]); first | done | rfl) ?_
  have h108 := heavy_any w1 so sb (by have := HS.out; omega) (by have := HS.out; omega)
  rw [d0] at h108
  refine h108.mono ?_
  clear h108
  rintro e w' ⟨rfl, rfl⟩
  refine ⟨_, rfl, ?_⟩
  refine hK.out _ _ hHeld (fun hHeld => ?_)
  clear hK K
  refine norm_ (a' := ?_) ?_ ?_
  rotate_left
  · show Act.put _ (some 16) _ = _
    simp only [Act.put, List.setIfInBounds_toArray, List.set_cons_zero, List.set_cons_succ, i64_w, i32_w]
    rfl
  refine pure_ (i := 11) (N := some 5) (v := ?_) (a' := ?_) #[true, true, true, true, true, true, true, true, true, true, true, true] rfl rfl (by kernel_rfl) (fun _ _ _ h => h) (Or.inl ⟨by rfl, ?_⟩) ?_ ?_
  rotate_left
  · intro w'
    go_simp
    with_reducible rfl
  rotate_left
  · simp only [Act.put, List.setIfInBounds_toArray, List.set_cons_zero, List.set_cons_succ, i64_w, i32_w]
    rfl
  refine done_ (by kernel_rfl) ?_
  go_upto_region 6 with fail
  replace K0 := Lib.hid (drewK K0.out)
  replace U0 := Lib.hid (drewK U0.out)
  replace O0 := Lib.hid O0.out.drew
  replace UL0 := Lib.hid UL0.out.drew
  replace UR0 := Lib.hid UR0.out.drew
  replace P0 : Hid (Keeps (fun b => b = k ∨ b ∈ blocks (.nd u ul ux un ur) ∨ b ∈ blocks o) w w1.drew) := P0.out.drew
  refine start_ (n := 12) (S := fun w' => w'.cell? ⟨k, 2, none⟩ = some (.pointer (some ⟨u, 0, none⟩)) ∧ w'.cell? ⟨k, 3, none⟩ = some (.pointer (ptr o))) (ds := []) #[false, false, false, false, false, false, false, false, false, false, false, false] (by kernel_rfl) rfl rfl ⟨K0.out.c2, K0.out.c3⟩ (fun hHeld => ?_)
  generalize w1.drew = w2 at K0 U0 O0 UL0 UR0 P0 hHeld ⊢
  refine pure_ (i := 0) (N := some 43) (v := ?_) (a' := ?_) #[true, false, false, false, false, false, false, false, false, false, false, false] rfl rfl (by kernel_rfl) (fun _ _ _ h => h) (Or.inl ⟨by rfl, ?_⟩) ?_ ?_
  rotate_left
  · intro w'
    go_simp
    with_reducible rfl
  rotate_left
  · simp only [Act.put, List.setIfInBounds_toArray, List.set_cons_zero, List.set_cons_succ, i64_w, i32_w]
    rfl
  refine pure_ (i := 1) (N := some 44) (v := ?_) (a' := ?_) #[true, true, false, false, false, false, false, false, false, false, false, false] rfl rfl (by kernel_rfl) (fun _ _ _ h => h) (Or.inl ⟨by rfl, ?_⟩) ?_ ?_
  rotate_left
  · intro w'
    go_simp
    with_reducible rfl
  rotate_left
  · simp only [Act.put, List.setIfInBounds_toArray, List.set_cons_zero, List.set_cons_succ, i64_w, i32_w]
    rfl
  refine pure_ (i := 2) (N := some 45) (v := ?_) (a' := ?_) #[true, true, true, false, false, false, false, false, false, false, false, false] rfl rfl (by kernel_rfl) (fun _ _ _ h => h) (Or.inl ⟨by rfl, ?_⟩) ?_ ?_
  rotate_left
  · intro w'
    go_simp
    with_reducible rfl
  rotate_left
  · simp only [Act.put, List.setIfInBounds_toArray, List.set_cons_zero, List.set_cons_succ, i64_w, i32_w]
    rfl
  refine take_ (i := 3) (N := some 46) (v := ?_) (a' := ?_) #[true, true, true, true, false, false, false, false, false, false, false, false] rfl rfl (by kernel_rfl) (fun _ _ _ h => h) (Or.inl ⟨by rfl, ?_⟩) hHeld ?_ ?_
  rotate_left
  · rintro w' ⟨s0, s1⟩
    go_simp
    with_reducible rfl
  rotate_left
  · simp only [Act.put, List.setIfInBounds_toArray, List.set_cons_zero, List.set_cons_succ, i64_w, i32_w]
    rfl
  refine pure_ (i := 5) (N := some 48) (v := ?_) (a' := ?_) #[true, true, true, true, false, true, false, false, false, false, false, false] rfl rfl (by kernel_rfl) (fun _ _ _ h => h) (Or.inl ⟨by rfl, ?_⟩) ?_ ?_
  rotate_left
  · intro w'
    go_simp
    with_reducible rfl
  rotate_left
  · simp only [Act.put, List.setIfInBounds_toArray, List.set_cons_zero, List.set_cons_succ, i64_w, i32_w]
    rfl
  refine pure_ (i := 6) (N := some 49) (v := ?_) (a' := ?_) #[true, true, true, true, false, true, true, false, false, false, false, false] rfl rfl (by kernel_rfl) (fun _ _ _ h => h) (Or.inl ⟨by rfl, ?_⟩) ?_ ?_
  rotate_left
  · intro w'
    go_simp
    with_reducible rfl
  rotate_left
  · simp only [Act.put, List.setIfInBounds_toArray, List.set_cons_zero, List.set_cons_succ, i64_w, i32_w]
    rfl
  refine pure_ (i := 7) (N := some 50) (v := ?_) (a' := ?_) #[true, true, true, true, false, true, true, true, false, false, false, false] rfl rfl (by kernel_rfl) (fun _ _ _ h => h) (Or.inl ⟨by rfl, ?_⟩) ?_ ?_
  rotate_left
  · intro w'
    go_simp
    with_reducible rfl
  rotate_left
  · simp only [Act.put, List.setIfInBounds_toArray, List.set_cons_zero, List.set_cons_succ, i64_w, i32_w]
    rfl
  refine take_ (i := 8) (N := some 51) (v := ?_) (a' := ?_) #[true, true, true, true, false, true, true, true, true, false, false, false] rfl rfl (by kernel_rfl) (fun _ _ _ h => h) (Or.inl ⟨by rfl, ?_⟩) hHeld ?_ ?_
  rotate_left
  · rintro w' ⟨s0, s1⟩
    go_simp
    with_reducible rfl
  rotate_left
  · simp only [Act.put, List.setIfInBounds_toArray, List.set_cons_zero, List.set_cons_succ, i64_w, i32_w]
    rfl
  refine one_ (i := 4) (N := some 47) #[true, true, true, true, true, true, true, true, true, false, false, false] rfl rfl (by kernel_rfl) (by decide) (fun K hK => ?_)
  refine goes_ Try.func107 (by kernel_rfl) rfl #[.pointer (some ⟨u, 0, none⟩)] (by rfl) rfl rfl (by (try simp only [List.map_toArray, List.map_cons, List.map_nil]); first | done | rfl) ?_
  have h107 := (size_any (t := (.nd u ul ux un ur)) (At.mk (l := ul) (r := ur) U0.out UL0.out UR0.out))
  rw [HSB.out] at h107
  refine h107.mono ?_
  clear h107
  rintro e w' ⟨rfl, rfl⟩
  refine ⟨_, rfl, ?_⟩
  refine hK.out _ _ hHeld (fun hHeld => ?_)
  clear hK K
  refine norm_ (a' := ?_) ?_ ?_
  rotate_left
  · show Act.put _ (some 47) _ = _
    simp only [Act.put, List.setIfInBounds_toArray, List.set_cons_zero, List.set_cons_succ, i64_w, i32_w]
    rfl
  refine one_ (i := 9) (N := some 52) #[true, true, true, true, true, true, true, true, true, true, false, false] rfl rfl (by kernel_rfl) (by decide) (fun K hK => ?_)
  refine goes_ Try.func107 (by kernel_rfl) rfl #[.pointer (ptr o)] (by rfl) rfl rfl (by (try simp only [List.map_toArray, List.map_cons, List.map_nil]); first | done | rfl) ?_
  have h107 := (size_any O0.out)
  rw [HSO.out] at h107
  refine h107.mono ?_
  clear h107
  rintro e w' ⟨rfl, rfl⟩
  refine ⟨_, rfl, ?_⟩
  refine hK.out _ _ hHeld (fun hHeld => ?_)
  clear hK K
  refine norm_ (a' := ?_) ?_ ?_
  rotate_left
  · show Act.put _ (some 52) _ = _
    simp only [Act.put, List.setIfInBounds_toArray, List.set_cons_zero, List.set_cons_succ, i64_w, i32_w]
    rfl
  refine one_ (i := 10) (N := some 53) #[true, true, true, true, true, true, true, true, true, true, true, false] rfl rfl (by kernel_rfl) (by decide) (fun K hK => ?_)
  refine goes_ Try.func108 (by kernel_rfl) rfl #[.int .i64 (sb : Int), .int .i64 (so : Int)] (by rfl) rfl rfl (by (try simp only [List.map_toArray, List.map_cons, List.map_nil]); first | done | rfl) ?_
  have h108 := heavy_any w2 sb so (by have := HS.out; omega) (by have := HS.out; omega)
  rw [d1] at h108
  refine h108.mono ?_
  clear h108
  rintro e w' ⟨rfl, rfl⟩
  refine ⟨_, rfl, ?_⟩
  refine hK.out _ _ hHeld (fun hHeld => ?_)
  clear hK K
  refine norm_ (a' := ?_) ?_ ?_
  rotate_left
  · show Act.put _ (some 53) _ = _
    simp only [Act.put, List.setIfInBounds_toArray, List.set_cons_zero, List.set_cons_succ, i64_w, i32_w]
    rfl
  refine pure_ (i := 11) (N := some 42) (v := ?_) (a' := ?_) #[true, true, true, true, true, true, true, true, true, true, true, true] rfl rfl (by kernel_rfl) (fun _ _ _ h => h) (Or.inl ⟨by rfl, ?_⟩) ?_ ?_
  rotate_left
  · intro w'
    go_simp
    with_reducible rfl
  rotate_left
  · simp only [Act.put, List.setIfInBounds_toArray, List.set_cons_zero, List.set_cons_succ, i64_w, i32_w]
    rfl
  refine done_ (by kernel_rfl) ?_
  have ck2 := K0.out.c2
  have ck3 := K0.out.c3
  go_upto_region 8 with fail
  clear ck2 ck3
  replace K0 := Lib.hid (drewK K0.out)
  replace U0 := Lib.hid (drewK U0.out)
  replace O0 := Lib.hid O0.out.drew
  replace UL0 := Lib.hid UL0.out.drew
  replace UR0 := Lib.hid UR0.out.drew
  replace P0 : Hid (Keeps (fun b => b = k ∨ b ∈ blocks (.nd u ul ux un ur) ∨ b ∈ blocks o) w w2.drew) := P0.out.drew
  refine start_ (n := 14) (S := fun w' => w'.cell? ⟨u, 2, none⟩ = some (.pointer (ptr ul)) ∧ w'.cell? ⟨u, 3, none⟩ = some (.pointer (ptr ur))) (ds := []) #[false, false, false, false, false, false, false, false, false, false, false, false, false, false] (by kernel_rfl) rfl rfl ⟨U0.out.c2, U0.out.c3⟩ (fun hHeld => ?_)
  generalize w2.drew = w3 at K0 U0 O0 UL0 UR0 P0 hHeld ⊢
  refine pure_ (i := 0) (N := some 58) (v := ?_) (a' := ?_) #[true, false, false, false, false, false, false, false, false, false, false, false, false, false] rfl rfl (by kernel_rfl) (fun _ _ _ h => h) (Or.inl ⟨by rfl, ?_⟩) ?_ ?_
  rotate_left
  · intro w'
    go_simp
    with_reducible rfl
  rotate_left
  · simp only [Act.put, List.setIfInBounds_toArray, List.set_cons_zero, List.set_cons_succ, i64_w, i32_w]
    rfl
  refine pure_ (i := 1) (N := some 59) (v := ?_) (a' := ?_) #[true, true, false, false, false, false, false, false, false, false, false, false, false, false] rfl rfl (by kernel_rfl) (fun _ _ _ h => h) (Or.inl ⟨by rfl, ?_⟩) ?_ ?_
  rotate_left
  · intro w'
    go_simp
    with_reducible rfl
  rotate_left
  · simp only [Act.put, List.setIfInBounds_toArray, List.set_cons_zero, List.set_cons_succ, i64_w, i32_w]
    rfl
  refine pure_ (i := 2) (N := some 60) (v := ?_) (a' := ?_) #[true, true, true, false, false, false, false, false, false, false, false, false, false, false] rfl rfl (by kernel_rfl) (fun _ _ _ h => h) (Or.inl ⟨by rfl, ?_⟩) ?_ ?_
  rotate_left
  · intro w'
    go_simp
    with_reducible rfl
  rotate_left
  · simp only [Act.put, List.setIfInBounds_toArray, List.set_cons_zero, List.set_cons_succ, i64_w, i32_w]
    rfl
  refine take_ (i := 3) (N := some 61) (v := ?_) (a' := ?_) #[true, true, true, true, false, false, false, false, false, false, false, false, false, false] rfl rfl (by kernel_rfl) (fun _ _ _ h => h) (Or.inl ⟨by rfl, ?_⟩) hHeld ?_ ?_
  rotate_left
  · rintro w' ⟨s0, s1⟩
    go_simp
    with_reducible rfl
  rotate_left
  · simp only [Act.put, List.setIfInBounds_toArray, List.set_cons_zero, List.set_cons_succ, i64_w, i32_w]
    rfl
  refine pure_ (i := 6) (N := some 64) (v := ?_) (a' := ?_) #[true, true, true, true, false, false, true, false, false, false, false, false, false, false] rfl rfl (by kernel_rfl) (fun _ _ _ h => h) (Or.inl ⟨by rfl, ?_⟩) ?_ ?_
  rotate_left
  · intro w'
    go_simp
    with_reducible rfl
  rotate_left
  · simp only [Act.put, List.setIfInBounds_toArray, List.set_cons_zero, List.set_cons_succ, i64_w, i32_w]
    rfl
  refine pure_ (i := 7) (N := some 65) (v := ?_) (a' := ?_) #[true, true, true, true, false, false, true, true, false, false, false, false, false, false] rfl rfl (by kernel_rfl) (fun _ _ _ h => h) (Or.inl ⟨by rfl, ?_⟩) ?_ ?_
  rotate_left
  · intro w'
    go_simp
    with_reducible rfl
  rotate_left
  · simp only [Act.put, List.setIfInBounds_toArray, List.set_cons_zero, List.set_cons_succ, i64_w, i32_w]
    rfl
  refine pure_ (i := 8) (N := some 66) (v := ?_) (a' := ?_) #[true, true, true, true, false, false, true, true, true, false, false, false, false, false] rfl rfl (by kernel_rfl) (fun _ _ _ h => h) (Or.inl ⟨by rfl, ?_⟩) ?_ ?_
  rotate_left
  · intro w'
    go_simp
    with_reducible rfl
  rotate_left
  · simp only [Act.put, List.setIfInBounds_toArray, List.set_cons_zero, List.set_cons_succ, i64_w, i32_w]
    rfl
  refine take_ (i := 9) (N := some 67) (v := ?_) (a' := ?_) #[true, true, true, true, false, false, true, true, true, true, false, false, false, false] rfl rfl (by kernel_rfl) (fun _ _ _ h => h) (Or.inl ⟨by rfl, ?_⟩) hHeld ?_ ?_
  rotate_left
  · rintro w' ⟨s0, s1⟩
    go_simp
    with_reducible rfl
  rotate_left
  · simp only [Act.put, List.setIfInBounds_toArray, List.set_cons_zero, List.set_cons_succ, i64_w, i32_w]
    rfl
  refine one_ (i := 4) (N := some 62) #[true, true, true, true, true, false, true, true, true, true, false, false, false, false] rfl rfl (by kernel_rfl) (by decide) (fun K hK => ?_)
  refine goes_ Try.func107 (by kernel_rfl) rfl #[.pointer (ptr ur)] (by rfl) rfl rfl (by (try simp only [List.map_toArray, List.map_cons, List.map_nil]); first | done | rfl) ?_
  have h107 := (size_any (t := ur) UR0.out)
  rw [HS1E.out] at h107
  refine h107.mono ?_
  clear h107
  rintro e w' ⟨rfl, rfl⟩
  refine ⟨_, rfl, ?_⟩
  refine hK.out _ _ hHeld (fun hHeld => ?_)
  clear hK K
  refine norm_ (a' := ?_) ?_ ?_
  rotate_left
  · show Act.put _ (some 62) _ = _
    simp only [Act.put, List.setIfInBounds_toArray, List.set_cons_zero, List.set_cons_succ, i64_w, i32_w]
    rfl
  refine pure_ (i := 5) (N := some 63) (v := ?_) (a' := ?_) #[true, true, true, true, true, true, true, true, true, true, false, false, false, false] rfl rfl (by kernel_rfl) (fun _ _ _ h => h) (Or.inl ⟨by rfl, ?_⟩) ?_ ?_
  rotate_left
  · intro w'
    go_simp
    with_reducible rfl
  rotate_left
  · simp only [Act.put, List.setIfInBounds_toArray, List.set_cons_zero, List.set_cons_succ, i64_w, i32_w]
    rfl
  refine one_ (i := 10) (N := some 68) #[true, true, true, true, true, true, true, true, true, true, true, false, false, false] rfl rfl (by kernel_rfl) (by decide) (fun K hK => ?_)
  refine goes_ Try.func107 (by kernel_rfl) rfl #[.pointer (ptr ul)] (by rfl) rfl rfl (by (try simp only [List.map_toArray, List.map_cons, List.map_nil]); first | done | rfl) ?_
  have h107 := (size_any (t := ul) UL0.out)
  rw [HS2E.out] at h107
  refine h107.mono ?_
  clear h107
  rintro e w' ⟨rfl, rfl⟩
  refine ⟨_, rfl, ?_⟩
  refine hK.out _ _ hHeld (fun hHeld => ?_)
  clear hK K
  refine norm_ (a' := ?_) ?_ ?_
  rotate_left
  · show Act.put _ (some 68) _ = _
    simp only [Act.put, List.setIfInBounds_toArray, List.set_cons_zero, List.set_cons_succ, i64_w, i32_w]
    rfl
  refine pure_ (i := 11) (N := some 69) (v := ?_) (a' := ?_) #[true, true, true, true, true, true, true, true, true, true, true, true, false, false] rfl rfl (by kernel_rfl) (fun _ _ _ h => h) (Or.inl ⟨by rfl, ?_⟩) ?_ ?_
  rotate_left
  · intro w'
    go_simp
    with_reducible rfl
  rotate_left
  · simp only [Act.put, List.setIfInBounds_toArray, List.set_cons_zero, List.set_cons_succ, i64_w, i32_w]
    rfl
  refine pure_ (i := 12) (N := some 70) (v := ?_) (a' := ?_) #[true, true, true, true, true, true, true, true, true, true, true, true, true, false] rfl rfl (by kernel_rfl) (fun _ _ _ h => h) (Or.inl ⟨by rfl, ?_⟩) ?_ ?_
  rotate_left
  · intro w'
    go_simp
    with_reducible rfl
  rotate_left
  · simp only [Act.put, List.setIfInBounds_toArray, List.set_cons_zero, List.set_cons_succ, i64_w, i32_w]
    rfl
  refine pure_ (i := 13) (N := some 71) (v := ?_) (a' := ?_) #[true, true, true, true, true, true, true, true, true, true, true, true, true, true] rfl rfl (by kernel_rfl) (fun _ _ _ h => h) (Or.inl ⟨by rfl, ?_⟩) ?_ ?_
  rotate_left
  · intro w'
    go_simp
    with_reducible rfl
  rotate_left
  · simp only [Act.put, List.setIfInBounds_toArray, List.set_cons_zero, List.set_cons_succ, i64_w, i32_w]
    rfl
  refine done_ (by kernel_rfl) ?_
  have f2 := K0.out.fz 2
  have ck2 := K0.out.c2
  have ck3 := K0.out.c3
  obtain ⟨q1, q2, q3, q4, q5⟩ := HP.out
  have Q3 := parted_iff.1 q3
  simp only [blocks, List.mem_cons, List.mem_append, not_or] at q1 q2 q5
  obtain ⟨p1, p2, p3, p4, p5⟩ := Q3
  have Hq1 := Lib.hid q1
  have Hq2 := Lib.hid q2
  have Hq5 := Lib.hid q5
  have Hp1 := Lib.hid p1
  have Hp2 := Lib.hid p2
  have Hp5 := Lib.hid p5
  clear q1 q2 q3 q4 q5 p1 p2 p3 p4 p5
  go_wp2_with (go_at_call 109; refine (turnR_any K0.out U0.out O0.out UL0.out UR0.out Hq1.out.1 Hq2.out Hq1.out.2.1 Hq1.out.2.2 (fun h => Hq5.out u (.inl rfl) h) Hp1.out Hp2.out (by have h := HB.out; simp only [tot] at h; omega) (by have h := HSS.out; simp only [siz] at h; omega)).mono ?_; rintro e w9 ⟨rfl, a9, k9⟩; have A9 := Lib.hid a9; have P9 := Lib.hid (P0.out.trans (k9.mono (fun b _ h => h.elim .inl (fun h => .inr (.inl (h ▸ List.mem_cons_self ..)))))); clear a9 k9)
  go_ret
  exact ⟨rfl, A9.out, P9.out⟩
set_option maxHeartbeats 8000000 in
set_option maxRecDepth 100000 in
theorem balL2_any {w : World} {k u v : Nat} {x ux vx : Int} {n un vn : Nat} {o vl vr ul : Tree} {a m : Int} (hk : KAt w k x n (some ⟨u, 0, none⟩) (ptr o) a m) (hu : KAt w u ux un (ptr ul) (some ⟨v, 0, none⟩) ((un + tot ul + tot (.nd v vl vx vn vr) : Nat) : Int) ((1 + siz ul + siz (.nd v vl vx vn vr) : Nat) : Int)) (ho : At w o) (hv : KAt w v vx vn (ptr vl) (ptr vr) ((vn + tot vl + tot vr : Nat) : Int) ((1 + siz vl + siz vr : Nat) : Int)) (hvl : At w vl) (hvr : At w vr) (hul : At w ul)
    (hp : Parted k (.nd u ul ux un (.nd v vl vx vn vr)) o) (hb : n + tot (.nd u ul ux un (.nd v vl vx vn vr)) + tot o ≤ 1099511627776) (hs : 1 + siz (.nd u ul ux un (.nd v vl vx vn vr)) + siz o ≤ 1099511627776) (hheavy : 3 * (siz o + 1) < siz (.nd u ul ux un (.nd v vl vx vn vr)) + 1) (hin : 2 * (siz ul + 1) ≤ siz (.nd v vl vx vn vr) + 1) :
    Calls Try.prog 87 #[.pointer (some ⟨k, 0, none⟩)] w fun e w' => e = .returned (.pointer (some ⟨v, 0, none⟩)) ∧ At w' (.nd v (.nd u ul ux un vl) vx vn (.nd k vr x n o)) ∧ Keeps (fun b => b = k ∨ b ∈ blocks (.nd u ul ux un (.nd v vl vx vn vr)) ∨ b ∈ blocks o) w w' := by
  obtain ⟨sb, hsb⟩ : ∃ sb, siz (.nd u ul ux un (.nd v vl vx vn vr)) = sb := ⟨_, rfl⟩
  obtain ⟨so, hso⟩ : ∃ so, siz o = so := ⟨_, rfl⟩
  obtain ⟨s1, hs1⟩ : ∃ s1, siz (.nd v vl vx vn vr) = s1 := ⟨_, rfl⟩
  obtain ⟨s2, hs2⟩ : ∃ s2, siz ul = s2 := ⟨_, rfl⟩
  rw [hsb, hso] at hheavy
  rw [hs1, hs2] at hin
  have HS : Hid (1 + so + sb ≤ 1099511627776) := by show _ ≤ _; rw [← hso, ← hsb]; omega
  have HS1 : Hid (s1 ≤ 1099511627776 ∧ s2 ≤ 1099511627776) := by
    show _ ∧ _
    simp only [siz] at hs hs1 hs2
    omega
  have d0 : decide (3 * (sb + 1) < so + 1) = false := decide_eq_false (by omega)
  have d1 : decide (3 * (so + 1) < sb + 1) = true := decide_eq_true hheavy
  have e1 := wr1 HS1.out.1
  have e2 := wr1 HS1.out.2
  have e3 := wr2 HS1.out.2
  have e4 : decide (2 * ((s2 : Int) + 1) ≤ (s1 : Int) + 1) = true := dec2 hin
  have HP := Lib.hid hp
  have HSB := Lib.hid hsb
  have HSO := Lib.hid hso
  have HS1E := Lib.hid hs1
  have HS2E := Lib.hid hs2
  have HB := Lib.hid hb
  have HSS := Lib.hid hs
  have K0 : Hid (KAt w.drew k x n (some ⟨u, 0, none⟩) (ptr o) a m) := hk
  have U0 : Hid (KAt w.drew u ux un (ptr ul) (some ⟨v, 0, none⟩) ((un + tot ul + tot (.nd v vl vx vn vr) : Nat) : Int) ((1 + siz ul + siz (.nd v vl vx vn vr) : Nat) : Int)) := hu
  have O0 := Lib.hid ho.drew
  have V0 : Hid (KAt w.drew v vx vn (ptr vl) (ptr vr) ((vn + tot vl + tot vr : Nat) : Int) ((1 + siz vl + siz vr : Nat) : Int)) := hv
  have VL0 := Lib.hid hvl.drew
  have VR0 := Lib.hid hvr.drew
  have UL0 := Lib.hid hul.drew
  have P0 : Hid (Keeps (fun b => b = k ∨ b ∈ blocks (.nd u ul ux un (.nd v vl vx vn vr)) ∨ b ∈ blocks o) w w.drew) := (Keeps.refl _ w).drew
  clear hk hu ho hp hb hs hheavy hin hsb hso hs1 hs2 hv hvl hvr hul
  go_enter Try.func87, Try.ntmps87
  go_upto_region 1 with fail
  refine start_ (n := 12) (S := fun w' => w'.cell? ⟨k, 2, none⟩ = some (.pointer (some ⟨u, 0, none⟩)) ∧ w'.cell? ⟨k, 3, none⟩ = some (.pointer (ptr o))) (ds := []) #[false, false, false, false, false, false, false, false, false, false, false, false] (by kernel_rfl) rfl rfl ⟨K0.out.c2, K0.out.c3⟩ (fun hHeld => ?_)
  generalize w.drew = w1 at K0 U0 O0 V0 VL0 VR0 UL0 P0 hHeld ⊢
  refine pure_ (i := 0) (N := some 6) (v := ?_) (a' := ?_) #[true, false, false, false, false, false, false, false, false, false, false, false] rfl rfl (by kernel_rfl) (fun _ _ _ h => h) (Or.inl ⟨by rfl, ?_⟩) ?_ ?_
  rotate_left
  · intro w'
    go_simp
    with_reducible rfl
  rotate_left
  · simp only [Act.put, List.setIfInBounds_toArray, List.set_cons_zero, List.set_cons_succ, i64_w, i32_w]
    rfl
  refine pure_ (i := 1) (N := some 7) (v := ?_) (a' := ?_) #[true, true, false, false, false, false, false, false, false, false, false, false] rfl rfl (by kernel_rfl) (fun _ _ _ h => h) (Or.inl ⟨by rfl, ?_⟩) ?_ ?_
  rotate_left
  · intro w'
    go_simp
    with_reducible rfl
  rotate_left
  · simp only [Act.put, List.setIfInBounds_toArray, List.set_cons_zero, List.set_cons_succ, i64_w, i32_w]
    rfl
  refine pure_ (i := 2) (N := some 8) (v := ?_) (a' := ?_) #[true, true, true, false, false, false, false, false, false, false, false, false] rfl rfl (by kernel_rfl) (fun _ _ _ h => h) (Or.inl ⟨by rfl, ?_⟩) ?_ ?_
  rotate_left
  · intro w'
    go_simp
    with_reducible rfl
  rotate_left
  · simp only [Act.put, List.setIfInBounds_toArray, List.set_cons_zero, List.set_cons_succ, i64_w, i32_w]
    rfl
  refine take_ (i := 3) (N := some 9) (v := ?_) (a' := ?_) #[true, true, true, true, false, false, false, false, false, false, false, false] rfl rfl (by kernel_rfl) (fun _ _ _ h => h) (Or.inl ⟨by rfl, ?_⟩) hHeld ?_ ?_
  rotate_left
  · rintro w' ⟨s0, s1⟩
    go_simp
    with_reducible rfl
  rotate_left
  · simp only [Act.put, List.setIfInBounds_toArray, List.set_cons_zero, List.set_cons_succ, i64_w, i32_w]
    rfl
  refine pure_ (i := 5) (N := some 11) (v := ?_) (a' := ?_) #[true, true, true, true, false, true, false, false, false, false, false, false] rfl rfl (by kernel_rfl) (fun _ _ _ h => h) (Or.inl ⟨by rfl, ?_⟩) ?_ ?_
  rotate_left
  · intro w'
    go_simp
    with_reducible rfl
  rotate_left
  · simp only [Act.put, List.setIfInBounds_toArray, List.set_cons_zero, List.set_cons_succ, i64_w, i32_w]
    rfl
  refine pure_ (i := 6) (N := some 12) (v := ?_) (a' := ?_) #[true, true, true, true, false, true, true, false, false, false, false, false] rfl rfl (by kernel_rfl) (fun _ _ _ h => h) (Or.inl ⟨by rfl, ?_⟩) ?_ ?_
  rotate_left
  · intro w'
    go_simp
    with_reducible rfl
  rotate_left
  · simp only [Act.put, List.setIfInBounds_toArray, List.set_cons_zero, List.set_cons_succ, i64_w, i32_w]
    rfl
  refine pure_ (i := 7) (N := some 13) (v := ?_) (a' := ?_) #[true, true, true, true, false, true, true, true, false, false, false, false] rfl rfl (by kernel_rfl) (fun _ _ _ h => h) (Or.inl ⟨by rfl, ?_⟩) ?_ ?_
  rotate_left
  · intro w'
    go_simp
    with_reducible rfl
  rotate_left
  · simp only [Act.put, List.setIfInBounds_toArray, List.set_cons_zero, List.set_cons_succ, i64_w, i32_w]
    rfl
  refine take_ (i := 8) (N := some 14) (v := ?_) (a' := ?_) #[true, true, true, true, false, true, true, true, true, false, false, false] rfl rfl (by kernel_rfl) (fun _ _ _ h => h) (Or.inl ⟨by rfl, ?_⟩) hHeld ?_ ?_
  rotate_left
  · rintro w' ⟨s0, s1⟩
    go_simp
    with_reducible rfl
  rotate_left
  · simp only [Act.put, List.setIfInBounds_toArray, List.set_cons_zero, List.set_cons_succ, i64_w, i32_w]
    rfl
  refine one_ (i := 4) (N := some 10) #[true, true, true, true, true, true, true, true, true, false, false, false] rfl rfl (by kernel_rfl) (by decide) (fun K hK => ?_)
  refine goes_ Try.func107 (by kernel_rfl) rfl #[.pointer (ptr o)] (by rfl) rfl rfl (by (try simp only [List.map_toArray, List.map_cons, List.map_nil]); first | done | rfl) ?_
  have h107 := (size_any O0.out)
  rw [HSO.out] at h107
  refine h107.mono ?_
  clear h107
  rintro e w' ⟨rfl, rfl⟩
  refine ⟨_, rfl, ?_⟩
  refine hK.out _ _ hHeld (fun hHeld => ?_)
  clear hK K
  refine norm_ (a' := ?_) ?_ ?_
  rotate_left
  · show Act.put _ (some 10) _ = _
    simp only [Act.put, List.setIfInBounds_toArray, List.set_cons_zero, List.set_cons_succ, i64_w, i32_w]
    rfl
  refine one_ (i := 9) (N := some 15) #[true, true, true, true, true, true, true, true, true, true, false, false] rfl rfl (by kernel_rfl) (by decide) (fun K hK => ?_)
  refine goes_ Try.func107 (by kernel_rfl) rfl #[.pointer (some ⟨u, 0, none⟩)] (by rfl) rfl rfl (by (try simp only [List.map_toArray, List.map_cons, List.map_nil]); first | done | rfl) ?_
  have h107 := (size_any (t := (.nd u ul ux un (.nd v vl vx vn vr))) (At.mk (l := ul) (r := (.nd v vl vx vn vr)) U0.out UL0.out (At.mk V0.out VL0.out VR0.out)))
  rw [HSB.out] at h107
  refine h107.mono ?_
  clear h107
  rintro e w' ⟨rfl, rfl⟩
  refine ⟨_, rfl, ?_⟩
  refine hK.out _ _ hHeld (fun hHeld => ?_)
  clear hK K
  refine norm_ (a' := ?_) ?_ ?_
  rotate_left
  · show Act.put _ (some 15) _ = _
    simp only [Act.put, List.setIfInBounds_toArray, List.set_cons_zero, List.set_cons_succ, i64_w, i32_w]
    rfl
  refine one_ (i := 10) (N := some 16) #[true, true, true, true, true, true, true, true, true, true, true, false] rfl rfl (by kernel_rfl) (by decide) (fun K hK => ?_)
  refine goes_ Try.func108 (by kernel_rfl) rfl #[.int .i64 (so : Int), .int .i64 (sb : Int)] (by rfl) rfl rfl (by (try simp only [List.map_toArray, List.map_cons, List.map_nil]); first | done | rfl) ?_
  have h108 := heavy_any w1 so sb (by have := HS.out; omega) (by have := HS.out; omega)
  rw [d0] at h108
  refine h108.mono ?_
  clear h108
  rintro e w' ⟨rfl, rfl⟩
  refine ⟨_, rfl, ?_⟩
  refine hK.out _ _ hHeld (fun hHeld => ?_)
  clear hK K
  refine norm_ (a' := ?_) ?_ ?_
  rotate_left
  · show Act.put _ (some 16) _ = _
    simp only [Act.put, List.setIfInBounds_toArray, List.set_cons_zero, List.set_cons_succ, i64_w, i32_w]
    rfl
  refine pure_ (i := 11) (N := some 5) (v := ?_) (a' := ?_) #[true, true, true, true, true, true, true, true, true, true, true, true] rfl rfl (by kernel_rfl) (fun _ _ _ h => h) (Or.inl ⟨by rfl, ?_⟩) ?_ ?_
  rotate_left
  · intro w'
    go_simp
    with_reducible rfl
  rotate_left
  · simp only [Act.put, List.setIfInBounds_toArray, List.set_cons_zero, List.set_cons_succ, i64_w, i32_w]
    rfl
  refine done_ (by kernel_rfl) ?_
  go_upto_region 6 with fail
  replace K0 := Lib.hid (drewK K0.out)
  replace U0 := Lib.hid (drewK U0.out)
  replace O0 := Lib.hid O0.out.drew
  replace V0 := Lib.hid (drewK V0.out)
  replace VL0 := Lib.hid VL0.out.drew
  replace VR0 := Lib.hid VR0.out.drew
  replace UL0 := Lib.hid UL0.out.drew
  replace P0 : Hid (Keeps (fun b => b = k ∨ b ∈ blocks (.nd u ul ux un (.nd v vl vx vn vr)) ∨ b ∈ blocks o) w w1.drew) := P0.out.drew
  refine start_ (n := 12) (S := fun w' => w'.cell? ⟨k, 2, none⟩ = some (.pointer (some ⟨u, 0, none⟩)) ∧ w'.cell? ⟨k, 3, none⟩ = some (.pointer (ptr o))) (ds := []) #[false, false, false, false, false, false, false, false, false, false, false, false] (by kernel_rfl) rfl rfl ⟨K0.out.c2, K0.out.c3⟩ (fun hHeld => ?_)
  generalize w1.drew = w2 at K0 U0 O0 V0 VL0 VR0 UL0 P0 hHeld ⊢
  refine pure_ (i := 0) (N := some 43) (v := ?_) (a' := ?_) #[true, false, false, false, false, false, false, false, false, false, false, false] rfl rfl (by kernel_rfl) (fun _ _ _ h => h) (Or.inl ⟨by rfl, ?_⟩) ?_ ?_
  rotate_left
  · intro w'
    go_simp
    with_reducible rfl
  rotate_left
  · simp only [Act.put, List.setIfInBounds_toArray, List.set_cons_zero, List.set_cons_succ, i64_w, i32_w]
    rfl
  refine pure_ (i := 1) (N := some 44) (v := ?_) (a' := ?_) #[true, true, false, false, false, false, false, false, false, false, false, false] rfl rfl (by kernel_rfl) (fun _ _ _ h => h) (Or.inl ⟨by rfl, ?_⟩) ?_ ?_
  rotate_left
  · intro w'
    go_simp
    with_reducible rfl
  rotate_left
  · simp only [Act.put, List.setIfInBounds_toArray, List.set_cons_zero, List.set_cons_succ, i64_w, i32_w]
    rfl
  refine pure_ (i := 2) (N := some 45) (v := ?_) (a' := ?_) #[true, true, true, false, false, false, false, false, false, false, false, false] rfl rfl (by kernel_rfl) (fun _ _ _ h => h) (Or.inl ⟨by rfl, ?_⟩) ?_ ?_
  rotate_left
  · intro w'
    go_simp
    with_reducible rfl
  rotate_left
  · simp only [Act.put, List.setIfInBounds_toArray, List.set_cons_zero, List.set_cons_succ, i64_w, i32_w]
    rfl
  refine take_ (i := 3) (N := some 46) (v := ?_) (a' := ?_) #[true, true, true, true, false, false, false, false, false, false, false, false] rfl rfl (by kernel_rfl) (fun _ _ _ h => h) (Or.inl ⟨by rfl, ?_⟩) hHeld ?_ ?_
  rotate_left
  · rintro w' ⟨s0, s1⟩
    go_simp
    with_reducible rfl
  rotate_left
  · simp only [Act.put, List.setIfInBounds_toArray, List.set_cons_zero, List.set_cons_succ, i64_w, i32_w]
    rfl
  refine pure_ (i := 5) (N := some 48) (v := ?_) (a' := ?_) #[true, true, true, true, false, true, false, false, false, false, false, false] rfl rfl (by kernel_rfl) (fun _ _ _ h => h) (Or.inl ⟨by rfl, ?_⟩) ?_ ?_
  rotate_left
  · intro w'
    go_simp
    with_reducible rfl
  rotate_left
  · simp only [Act.put, List.setIfInBounds_toArray, List.set_cons_zero, List.set_cons_succ, i64_w, i32_w]
    rfl
  refine pure_ (i := 6) (N := some 49) (v := ?_) (a' := ?_) #[true, true, true, true, false, true, true, false, false, false, false, false] rfl rfl (by kernel_rfl) (fun _ _ _ h => h) (Or.inl ⟨by rfl, ?_⟩) ?_ ?_
  rotate_left
  · intro w'
    go_simp
    with_reducible rfl
  rotate_left
  · simp only [Act.put, List.setIfInBounds_toArray, List.set_cons_zero, List.set_cons_succ, i64_w, i32_w]
    rfl
  refine pure_ (i := 7) (N := some 50) (v := ?_) (a' := ?_) #[true, true, true, true, false, true, true, true, false, false, false, false] rfl rfl (by kernel_rfl) (fun _ _ _ h => h) (Or.inl ⟨by rfl, ?_⟩) ?_ ?_
  rotate_left
  · intro w'
    go_simp
    with_reducible rfl
  rotate_left
  · simp only [Act.put, List.setIfInBounds_toArray, List.set_cons_zero, List.set_cons_succ, i64_w, i32_w]
    rfl
  refine take_ (i := 8) (N := some 51) (v := ?_) (a' := ?_) #[true, true, true, true, false, true, true, true, true, false, false, false] rfl rfl (by kernel_rfl) (fun _ _ _ h => h) (Or.inl ⟨by rfl, ?_⟩) hHeld ?_ ?_
  rotate_left
  · rintro w' ⟨s0, s1⟩
    go_simp
    with_reducible rfl
  rotate_left
  · simp only [Act.put, List.setIfInBounds_toArray, List.set_cons_zero, List.set_cons_succ, i64_w, i32_w]
    rfl
  refine one_ (i := 4) (N := some 47) #[true, true, true, true, true, true, true, true, true, false, false, false] rfl rfl (by kernel_rfl) (by decide) (fun K hK => ?_)
  refine goes_ Try.func107 (by kernel_rfl) rfl #[.pointer (some ⟨u, 0, none⟩)] (by rfl) rfl rfl (by (try simp only [List.map_toArray, List.map_cons, List.map_nil]); first | done | rfl) ?_
  have h107 := (size_any (t := (.nd u ul ux un (.nd v vl vx vn vr))) (At.mk (l := ul) (r := (.nd v vl vx vn vr)) U0.out UL0.out (At.mk V0.out VL0.out VR0.out)))
  rw [HSB.out] at h107
  refine h107.mono ?_
  clear h107
  rintro e w' ⟨rfl, rfl⟩
  refine ⟨_, rfl, ?_⟩
  refine hK.out _ _ hHeld (fun hHeld => ?_)
  clear hK K
  refine norm_ (a' := ?_) ?_ ?_
  rotate_left
  · show Act.put _ (some 47) _ = _
    simp only [Act.put, List.setIfInBounds_toArray, List.set_cons_zero, List.set_cons_succ, i64_w, i32_w]
    rfl
  refine one_ (i := 9) (N := some 52) #[true, true, true, true, true, true, true, true, true, true, false, false] rfl rfl (by kernel_rfl) (by decide) (fun K hK => ?_)
  refine goes_ Try.func107 (by kernel_rfl) rfl #[.pointer (ptr o)] (by rfl) rfl rfl (by (try simp only [List.map_toArray, List.map_cons, List.map_nil]); first | done | rfl) ?_
  have h107 := (size_any O0.out)
  rw [HSO.out] at h107
  refine h107.mono ?_
  clear h107
  rintro e w' ⟨rfl, rfl⟩
  refine ⟨_, rfl, ?_⟩
  refine hK.out _ _ hHeld (fun hHeld => ?_)
  clear hK K
  refine norm_ (a' := ?_) ?_ ?_
  rotate_left
  · show Act.put _ (some 52) _ = _
    simp only [Act.put, List.setIfInBounds_toArray, List.set_cons_zero, List.set_cons_succ, i64_w, i32_w]
    rfl
  refine one_ (i := 10) (N := some 53) #[true, true, true, true, true, true, true, true, true, true, true, false] rfl rfl (by kernel_rfl) (by decide) (fun K hK => ?_)
  refine goes_ Try.func108 (by kernel_rfl) rfl #[.int .i64 (sb : Int), .int .i64 (so : Int)] (by rfl) rfl rfl (by (try simp only [List.map_toArray, List.map_cons, List.map_nil]); first | done | rfl) ?_
  have h108 := heavy_any w2 sb so (by have := HS.out; omega) (by have := HS.out; omega)
  rw [d1] at h108
  refine h108.mono ?_
  clear h108
  rintro e w' ⟨rfl, rfl⟩
  refine ⟨_, rfl, ?_⟩
  refine hK.out _ _ hHeld (fun hHeld => ?_)
  clear hK K
  refine norm_ (a' := ?_) ?_ ?_
  rotate_left
  · show Act.put _ (some 53) _ = _
    simp only [Act.put, List.setIfInBounds_toArray, List.set_cons_zero, List.set_cons_succ, i64_w, i32_w]
    rfl
  refine pure_ (i := 11) (N := some 42) (v := ?_) (a' := ?_) #[true, true, true, true, true, true, true, true, true, true, true, true] rfl rfl (by kernel_rfl) (fun _ _ _ h => h) (Or.inl ⟨by rfl, ?_⟩) ?_ ?_
  rotate_left
  · intro w'
    go_simp
    with_reducible rfl
  rotate_left
  · simp only [Act.put, List.setIfInBounds_toArray, List.set_cons_zero, List.set_cons_succ, i64_w, i32_w]
    rfl
  refine done_ (by kernel_rfl) ?_
  have ck2 := K0.out.c2
  have ck3 := K0.out.c3
  go_upto_region 8 with fail
  clear ck2 ck3
  replace K0 := Lib.hid (drewK K0.out)
  replace U0 := Lib.hid (drewK U0.out)
  replace O0 := Lib.hid O0.out.drew
  replace V0 := Lib.hid (drewK V0.out)
  replace VL0 := Lib.hid VL0.out.drew
  replace VR0 := Lib.hid VR0.out.drew
  replace UL0 := Lib.hid UL0.out.drew
  replace P0 : Hid (Keeps (fun b => b = k ∨ b ∈ blocks (.nd u ul ux un (.nd v vl vx vn vr)) ∨ b ∈ blocks o) w w2.drew) := P0.out.drew
  refine start_ (n := 14) (S := fun w' => w'.cell? ⟨u, 2, none⟩ = some (.pointer (ptr ul)) ∧ w'.cell? ⟨u, 3, none⟩ = some (.pointer (some ⟨v, 0, none⟩))) (ds := []) #[false, false, false, false, false, false, false, false, false, false, false, false, false, false] (by kernel_rfl) rfl rfl ⟨U0.out.c2, U0.out.c3⟩ (fun hHeld => ?_)
  generalize w2.drew = w3 at K0 U0 O0 V0 VL0 VR0 UL0 P0 hHeld ⊢
  refine pure_ (i := 0) (N := some 58) (v := ?_) (a' := ?_) #[true, false, false, false, false, false, false, false, false, false, false, false, false, false] rfl rfl (by kernel_rfl) (fun _ _ _ h => h) (Or.inl ⟨by rfl, ?_⟩) ?_ ?_
  rotate_left
  · intro w'
    go_simp
    with_reducible rfl
  rotate_left
  · simp only [Act.put, List.setIfInBounds_toArray, List.set_cons_zero, List.set_cons_succ, i64_w, i32_w]
    rfl
  refine pure_ (i := 1) (N := some 59) (v := ?_) (a' := ?_) #[true, true, false, false, false, false, false, false, false, false, false, false, false, false] rfl rfl (by kernel_rfl) (fun _ _ _ h => h) (Or.inl ⟨by rfl, ?_⟩) ?_ ?_
  rotate_left
  · intro w'
    go_simp
    with_reducible rfl
  rotate_left
  · simp only [Act.put, List.setIfInBounds_toArray, List.set_cons_zero, List.set_cons_succ, i64_w, i32_w]
    rfl
  refine pure_ (i := 2) (N := some 60) (v := ?_) (a' := ?_) #[true, true, true, false, false, false, false, false, false, false, false, false, false, false] rfl rfl (by kernel_rfl) (fun _ _ _ h => h) (Or.inl ⟨by rfl, ?_⟩) ?_ ?_
  rotate_left
  · intro w'
    go_simp
    with_reducible rfl
  rotate_left
  · simp only [Act.put, List.setIfInBounds_toArray, List.set_cons_zero, List.set_cons_succ, i64_w, i32_w]
    rfl
  refine take_ (i := 3) (N := some 61) (v := ?_) (a' := ?_) #[true, true, true, true, false, false, false, false, false, false, false, false, false, false] rfl rfl (by kernel_rfl) (fun _ _ _ h => h) (Or.inl ⟨by rfl, ?_⟩) hHeld ?_ ?_
  rotate_left
  · rintro w' ⟨s0, s1⟩
    go_simp
    with_reducible rfl
  rotate_left
  · simp only [Act.put, List.setIfInBounds_toArray, List.set_cons_zero, List.set_cons_succ, i64_w, i32_w]
    rfl
  refine pure_ (i := 6) (N := some 64) (v := ?_) (a' := ?_) #[true, true, true, true, false, false, true, false, false, false, false, false, false, false] rfl rfl (by kernel_rfl) (fun _ _ _ h => h) (Or.inl ⟨by rfl, ?_⟩) ?_ ?_
  rotate_left
  · intro w'
    go_simp
    with_reducible rfl
  rotate_left
  · simp only [Act.put, List.setIfInBounds_toArray, List.set_cons_zero, List.set_cons_succ, i64_w, i32_w]
    rfl
  refine pure_ (i := 7) (N := some 65) (v := ?_) (a' := ?_) #[true, true, true, true, false, false, true, true, false, false, false, false, false, false] rfl rfl (by kernel_rfl) (fun _ _ _ h => h) (Or.inl ⟨by rfl, ?_⟩) ?_ ?_
  rotate_left
  · intro w'
    go_simp
    with_reducible rfl
  rotate_left
  · simp only [Act.put, List.setIfInBounds_toArray, List.set_cons_zero, List.set_cons_succ, i64_w, i32_w]
    rfl
  refine pure_ (i := 8) (N := some 66) (v := ?_) (a' := ?_) #[true, true, true, true, false, false, true, true, true, false, false, false, false, false] rfl rfl (by kernel_rfl) (fun _ _ _ h => h) (Or.inl ⟨by rfl, ?_⟩) ?_ ?_
  rotate_left
  · intro w'
    go_simp
    with_reducible rfl
  rotate_left
  · simp only [Act.put, List.setIfInBounds_toArray, List.set_cons_zero, List.set_cons_succ, i64_w, i32_w]
    rfl
  refine take_ (i := 9) (N := some 67) (v := ?_) (a' := ?_) #[true, true, true, true, false, false, true, true, true, true, false, false, false, false] rfl rfl (by kernel_rfl) (fun _ _ _ h => h) (Or.inl ⟨by rfl, ?_⟩) hHeld ?_ ?_
  rotate_left
  · rintro w' ⟨s0, s1⟩
    go_simp
    with_reducible rfl
  rotate_left
  · simp only [Act.put, List.setIfInBounds_toArray, List.set_cons_zero, List.set_cons_succ, i64_w, i32_w]
    rfl
  refine one_ (i := 4) (N := some 62) #[true, true, true, true, true, false, true, true, true, true, false, false, false, false] rfl rfl (by kernel_rfl) (by decide) (fun K hK => ?_)
  refine goes_ Try.func107 (by kernel_rfl) rfl #[.pointer (some ⟨v, 0, none⟩)] (by rfl) rfl rfl (by (try simp only [List.map_toArray, List.map_cons, List.map_nil]); first | done | rfl) ?_
  have h107 := (size_any (t := (.nd v vl vx vn vr)) (At.mk V0.out VL0.out VR0.out))
  rw [HS1E.out] at h107
  refine h107.mono ?_
  clear h107
  rintro e w' ⟨rfl, rfl⟩
  refine ⟨_, rfl, ?_⟩
  refine hK.out _ _ hHeld (fun hHeld => ?_)
  clear hK K
  refine norm_ (a' := ?_) ?_ ?_
  rotate_left
  · show Act.put _ (some 62) _ = _
    simp only [Act.put, List.setIfInBounds_toArray, List.set_cons_zero, List.set_cons_succ, i64_w, i32_w]
    rfl
  refine pure_ (i := 5) (N := some 63) (v := ?_) (a' := ?_) #[true, true, true, true, true, true, true, true, true, true, false, false, false, false] rfl rfl (by kernel_rfl) (fun _ _ _ h => h) (Or.inl ⟨by rfl, ?_⟩) ?_ ?_
  rotate_left
  · intro w'
    go_simp
    with_reducible rfl
  rotate_left
  · simp only [Act.put, List.setIfInBounds_toArray, List.set_cons_zero, List.set_cons_succ, i64_w, i32_w]
    rfl
  refine one_ (i := 10) (N := some 68) #[true, true, true, true, true, true, true, true, true, true, true, false, false, false] rfl rfl (by kernel_rfl) (by decide) (fun K hK => ?_)
  refine goes_ Try.func107 (by kernel_rfl) rfl #[.pointer (ptr ul)] (by rfl) rfl rfl (by (try simp only [List.map_toArray, List.map_cons, List.map_nil]); first | done | rfl) ?_
  have h107 := (size_any (t := ul) UL0.out)
  rw [HS2E.out] at h107
  refine h107.mono ?_
  clear h107
  rintro e w' ⟨rfl, rfl⟩
  refine ⟨_, rfl, ?_⟩
  refine hK.out _ _ hHeld (fun hHeld => ?_)
  clear hK K
  refine norm_ (a' := ?_) ?_ ?_
  rotate_left
  · show Act.put _ (some 68) _ = _
    simp only [Act.put, List.setIfInBounds_toArray, List.set_cons_zero, List.set_cons_succ, i64_w, i32_w]
    rfl
  refine pure_ (i := 11) (N := some 69) (v := ?_) (a' := ?_) #[true, true, true, true, true, true, true, true, true, true, true, true, false, false] rfl rfl (by kernel_rfl) (fun _ _ _ h => h) (Or.inl ⟨by rfl, ?_⟩) ?_ ?_
  rotate_left
  · intro w'
    go_simp
    with_reducible rfl
  rotate_left
  · simp only [Act.put, List.setIfInBounds_toArray, List.set_cons_zero, List.set_cons_succ, i64_w, i32_w]
    rfl
  refine pure_ (i := 12) (N := some 70) (v := ?_) (a' := ?_) #[true, true, true, true, true, true, true, true, true, true, true, true, true, false] rfl rfl (by kernel_rfl) (fun _ _ _ h => h) (Or.inl ⟨by rfl, ?_⟩) ?_ ?_
  rotate_left
  · intro w'
    go_simp
    with_reducible rfl
  rotate_left
  · simp only [Act.put, List.setIfInBounds_toArray, List.set_cons_zero, List.set_cons_succ, i64_w, i32_w]
    rfl
  refine pure_ (i := 13) (N := some 71) (v := ?_) (a' := ?_) #[true, true, true, true, true, true, true, true, true, true, true, true, true, true] rfl rfl (by kernel_rfl) (fun _ _ _ h => h) (Or.inl ⟨by rfl, ?_⟩) ?_ ?_
  rotate_left
  · intro w'
    go_simp
    with_reducible rfl
  rotate_left
  · simp only [Act.put, List.setIfInBounds_toArray, List.set_cons_zero, List.set_cons_succ, i64_w, i32_w]
    rfl
  refine done_ (by kernel_rfl) ?_
  have f2 := K0.out.fz 2
  have ck2 := K0.out.c2
  have ck3 := K0.out.c3
  obtain ⟨q1, q2, q3, q4, q5⟩ := HP.out
  have Q3 := parted_iff.1 q3
  simp only [blocks, List.mem_cons, List.mem_append, not_or] at q1 q2 q5
  obtain ⟨p1, p2, p3, p4, p5⟩ := Q3
  have Q4 := parted_iff.1 p4
  obtain ⟨y1, y2, y3, y4, y5⟩ := Q4
  simp only [blocks, List.mem_cons, List.mem_append, not_or] at p1 p2 p5
  have Hq1 := Lib.hid q1
  have Hq2 := Lib.hid q2
  have Hq5 := Lib.hid q5
  have Hp1 := Lib.hid p1
  have Hp2 := Lib.hid p2
  have Hp5 := Lib.hid p5
  have Hy1 := Lib.hid y1
  have Hy2 := Lib.hid y2
  have Hy5 := Lib.hid y5
  clear q1 q2 q3 q4 q5 p1 p2 p3 p4 p5 y1 y2 y3 y4 y5
  go_wp2_with (first | (go_at_call 109; refine (turnL_any U0.out V0.out UL0.out VL0.out VR0.out Hp2.out.1 Hp1.out Hp2.out.2.1 Hp2.out.2.2 (fun h => (Hp5.out v h).1 rfl) Hy1.out Hy2.out (by have h := HB.out; simp only [tot] at h; omega) (by have h := HSS.out; simp only [siz] at h; omega)).mono ?_; rintro e w7 ⟨rfl, a7, k7⟩; have A7 := Lib.hid a7; have K7 := Lib.hid (K0.out.kept k7 (fun h => h.elim Hq1.out.1 Hq1.out.2.2.1)); have O7 := Lib.hid (At.kept k7 O0.out (fun b hb h => h.elim (fun e => Hq5.out b (.inl e) hb) (fun e => Hq5.out b (.inr (.inr (.inl e))) hb))); have P7 := Lib.hid (P0.out.trans (k7.mono (fun b _ h => .inr (.inl (h.elim (fun h => h ▸ List.mem_cons_self ..) (fun h => h ▸ List.mem_cons_of_mem _ (List.mem_append_right _ (List.mem_cons_self ..)))))))); have f7 := K7.out.fz 2; have c7 := K7.out.c2; clear a7 k7 K0 U0 V0 O0 f2 ck2 ck3) | (go_at_call 109; have K8 := Lib.hid (KAt.put2 K7.out (some ⟨v, 0, none⟩)); have A8 := Lib.hid (At.put (i := 2) A7.out (g := k) (by simp only [blocks, List.mem_cons, List.mem_append, not_or]; exact ⟨Hq1.out.2.2.1, ⟨Hq1.out.1, Hq1.out.2.1, Hq1.out.2.2.2.1⟩, Hq1.out.2.2.2.2⟩) (.pointer (some ⟨v, 0, none⟩))); have O8 := Lib.hid (O7.out.put (i := 2) Hq2.out (.pointer (some ⟨v, 0, none⟩))); have P8 := Lib.hid (P7.out.setCell (p := ⟨k, 2, none⟩) (.inl rfl) (.pointer (some ⟨v, 0, none⟩))); clear c7 f7; refine (turnR_any K8.out A8.out.1 O8.out A8.out.2.1 A8.out.2.2 Hq1.out.2.2.1 Hq2.out (by simp only [blocks, List.mem_cons, List.mem_append, not_or]; exact ⟨Hq1.out.1, Hq1.out.2.1, Hq1.out.2.2.2.1⟩) Hq1.out.2.2.2.2 (fun h => Hq5.out v (.inr (.inr (.inl rfl))) h) (by simp only [blocks, List.mem_cons, List.mem_append, not_or]; exact ⟨fun e => Hp2.out.1 e.symm, fun h => (Hp5.out v h).1 rfl, Hy1.out⟩) Hy2.out (by have h := HB.out; simp only [tot] at h ⊢; omega) (by have h := HSS.out; simp only [siz] at h ⊢; omega)).mono ?_; rintro e w9 ⟨rfl, a9, k9⟩; have A9 := Lib.hid a9; have P9 := Lib.hid (P8.out.trans (k9.mono (fun b _ h => h.elim .inl (fun h => .inr (.inl (h ▸ List.mem_cons_of_mem _ (List.mem_append_right _ (List.mem_cons_self ..)))))))); clear a9 k9))
  go_ret
  exact ⟨rfl, A9.out, P9.out⟩
set_option maxHeartbeats 8000000 in
set_option maxRecDepth 100000 in
theorem balE_any {w : World} {k : Nat} {x : Int} {n : Nat} {l r : Tree} {a m : Int} (hk : KAt w k x n (ptr l) (ptr r) a m) (hl : At w l) (hr : At w r) (hp : Parted k l r) (hb : n + tot l + tot r ≤ 1099511627776) (hs : 1 + siz l + siz r ≤ 1099511627776) (h1 : ¬ 3 * (siz l + 1) < siz r + 1) (h2 : ¬ 3 * (siz r + 1) < siz l + 1) :
    Calls Try.prog 87 #[.pointer (some ⟨k, 0, none⟩)] w fun e w' => e = .returned (.pointer (some ⟨k, 0, none⟩)) ∧ At w' (.nd k l x n r) ∧ Keeps (fun b => b = k ∨ b ∈ blocks l ∨ b ∈ blocks r) w w' := by
  obtain ⟨sl, hsl⟩ : ∃ sl, siz l = sl := ⟨_, rfl⟩
  obtain ⟨sr, hsr⟩ : ∃ sr, siz r = sr := ⟨_, rfl⟩
  have HB := Lib.hid hb
  have HSS := Lib.hid hs
  rw [hsl, hsr] at h1 h2 hs
  have HS := Lib.hid hs
  have d0 : decide (3 * (sl + 1) < sr + 1) = false := decide_eq_false h1
  have d1 : decide (3 * (sr + 1) < sl + 1) = false := decide_eq_false h2
  have HP := Lib.hid hp
  have HSL := Lib.hid hsl
  have HSR := Lib.hid hsr
  have K0 : Hid (KAt w.drew k x n (ptr l) (ptr r) a m) := hk
  have L0 := Lib.hid hl.drew
  have R0 := Lib.hid hr.drew
  have P0 : Hid (Keeps (fun b => b = k ∨ b ∈ blocks l ∨ b ∈ blocks r) w w.drew) := (Keeps.refl _ w).drew
  clear hk hl hr hp hb hs h1 h2 hsl hsr
  go_enter Try.func87, Try.ntmps87
  go_upto_region 1 with fail
  refine start_ (n := 12) (S := fun w' => w'.cell? ⟨k, 2, none⟩ = some (.pointer (ptr l)) ∧ w'.cell? ⟨k, 3, none⟩ = some (.pointer (ptr r))) (ds := []) #[false, false, false, false, false, false, false, false, false, false, false, false] (by kernel_rfl) rfl rfl ⟨K0.out.c2, K0.out.c3⟩ (fun hHeld => ?_)
  generalize w.drew = w1 at K0 L0 R0 P0 hHeld ⊢
  refine pure_ (i := 0) (N := some 6) (v := ?_) (a' := ?_) #[true, false, false, false, false, false, false, false, false, false, false, false] rfl rfl (by kernel_rfl) (fun _ _ _ h => h) (Or.inl ⟨by rfl, ?_⟩) ?_ ?_
  rotate_left
  · intro w'
    go_simp
    with_reducible rfl
  rotate_left
  · simp only [Act.put, List.setIfInBounds_toArray, List.set_cons_zero, List.set_cons_succ, i64_w, i32_w]
    rfl
  refine pure_ (i := 1) (N := some 7) (v := ?_) (a' := ?_) #[true, true, false, false, false, false, false, false, false, false, false, false] rfl rfl (by kernel_rfl) (fun _ _ _ h => h) (Or.inl ⟨by rfl, ?_⟩) ?_ ?_
  rotate_left
  · intro w'
    go_simp
    with_reducible rfl
  rotate_left
  · simp only [Act.put, List.setIfInBounds_toArray, List.set_cons_zero, List.set_cons_succ, i64_w, i32_w]
    rfl
  refine pure_ (i := 2) (N := some 8) (v := ?_) (a' := ?_) #[true, true, true, false, false, false, false, false, false, false, false, false] rfl rfl (by kernel_rfl) (fun _ _ _ h => h) (Or.inl ⟨by rfl, ?_⟩) ?_ ?_
  rotate_left
  · intro w'
    go_simp
    with_reducible rfl
  rotate_left
  · simp only [Act.put, List.setIfInBounds_toArray, List.set_cons_zero, List.set_cons_succ, i64_w, i32_w]
    rfl
  refine take_ (i := 3) (N := some 9) (v := ?_) (a' := ?_) #[true, true, true, true, false, false, false, false, false, false, false, false] rfl rfl (by kernel_rfl) (fun _ _ _ h => h) (Or.inl ⟨by rfl, ?_⟩) hHeld ?_ ?_
  rotate_left
  · rintro w' ⟨s0, s1⟩
    go_simp
    with_reducible rfl
  rotate_left
  · simp only [Act.put, List.setIfInBounds_toArray, List.set_cons_zero, List.set_cons_succ, i64_w, i32_w]
    rfl
  refine pure_ (i := 5) (N := some 11) (v := ?_) (a' := ?_) #[true, true, true, true, false, true, false, false, false, false, false, false] rfl rfl (by kernel_rfl) (fun _ _ _ h => h) (Or.inl ⟨by rfl, ?_⟩) ?_ ?_
  rotate_left
  · intro w'
    go_simp
    with_reducible rfl
  rotate_left
  · simp only [Act.put, List.setIfInBounds_toArray, List.set_cons_zero, List.set_cons_succ, i64_w, i32_w]
    rfl
  refine pure_ (i := 6) (N := some 12) (v := ?_) (a' := ?_) #[true, true, true, true, false, true, true, false, false, false, false, false] rfl rfl (by kernel_rfl) (fun _ _ _ h => h) (Or.inl ⟨by rfl, ?_⟩) ?_ ?_
  rotate_left
  · intro w'
    go_simp
    with_reducible rfl
  rotate_left
  · simp only [Act.put, List.setIfInBounds_toArray, List.set_cons_zero, List.set_cons_succ, i64_w, i32_w]
    rfl
  refine pure_ (i := 7) (N := some 13) (v := ?_) (a' := ?_) #[true, true, true, true, false, true, true, true, false, false, false, false] rfl rfl (by kernel_rfl) (fun _ _ _ h => h) (Or.inl ⟨by rfl, ?_⟩) ?_ ?_
  rotate_left
  · intro w'
    go_simp
    with_reducible rfl
  rotate_left
  · simp only [Act.put, List.setIfInBounds_toArray, List.set_cons_zero, List.set_cons_succ, i64_w, i32_w]
    rfl
  refine take_ (i := 8) (N := some 14) (v := ?_) (a' := ?_) #[true, true, true, true, false, true, true, true, true, false, false, false] rfl rfl (by kernel_rfl) (fun _ _ _ h => h) (Or.inl ⟨by rfl, ?_⟩) hHeld ?_ ?_
  rotate_left
  · rintro w' ⟨s0, s1⟩
    go_simp
    with_reducible rfl
  rotate_left
  · simp only [Act.put, List.setIfInBounds_toArray, List.set_cons_zero, List.set_cons_succ, i64_w, i32_w]
    rfl
  refine one_ (i := 4) (N := some 10) #[true, true, true, true, true, true, true, true, true, false, false, false] rfl rfl (by kernel_rfl) (by decide) (fun K hK => ?_)
  refine goes_ Try.func107 (by kernel_rfl) rfl #[.pointer (ptr r)] (by rfl) rfl rfl (by (try simp only [List.map_toArray, List.map_cons, List.map_nil]); first | done | rfl) ?_
  have h107 := (size_any R0.out)
  rw [HSR.out] at h107
  refine h107.mono ?_
  clear h107
  rintro e w' ⟨rfl, rfl⟩
  refine ⟨_, rfl, ?_⟩
  refine hK.out _ _ hHeld (fun hHeld => ?_)
  clear hK K
  refine norm_ (a' := ?_) ?_ ?_
  rotate_left
  · show Act.put _ (some 10) _ = _
    simp only [Act.put, List.setIfInBounds_toArray, List.set_cons_zero, List.set_cons_succ, i64_w, i32_w]
    rfl
  refine one_ (i := 9) (N := some 15) #[true, true, true, true, true, true, true, true, true, true, false, false] rfl rfl (by kernel_rfl) (by decide) (fun K hK => ?_)
  refine goes_ Try.func107 (by kernel_rfl) rfl #[.pointer (ptr l)] (by rfl) rfl rfl (by (try simp only [List.map_toArray, List.map_cons, List.map_nil]); first | done | rfl) ?_
  have h107 := (size_any L0.out)
  rw [HSL.out] at h107
  refine h107.mono ?_
  clear h107
  rintro e w' ⟨rfl, rfl⟩
  refine ⟨_, rfl, ?_⟩
  refine hK.out _ _ hHeld (fun hHeld => ?_)
  clear hK K
  refine norm_ (a' := ?_) ?_ ?_
  rotate_left
  · show Act.put _ (some 15) _ = _
    simp only [Act.put, List.setIfInBounds_toArray, List.set_cons_zero, List.set_cons_succ, i64_w, i32_w]
    rfl
  refine one_ (i := 10) (N := some 16) #[true, true, true, true, true, true, true, true, true, true, true, false] rfl rfl (by kernel_rfl) (by decide) (fun K hK => ?_)
  refine goes_ Try.func108 (by kernel_rfl) rfl #[.int .i64 (sr : Int), .int .i64 (sl : Int)] (by rfl) rfl rfl (by (try simp only [List.map_toArray, List.map_cons, List.map_nil]); first | done | rfl) ?_
  have h108 := heavy_any w1 sr sl (by have := HS.out; omega) (by have := HS.out; omega)
  rw [d0] at h108
  refine h108.mono ?_
  clear h108
  rintro e w' ⟨rfl, rfl⟩
  refine ⟨_, rfl, ?_⟩
  refine hK.out _ _ hHeld (fun hHeld => ?_)
  clear hK K
  refine norm_ (a' := ?_) ?_ ?_
  rotate_left
  · show Act.put _ (some 16) _ = _
    simp only [Act.put, List.setIfInBounds_toArray, List.set_cons_zero, List.set_cons_succ, i64_w, i32_w]
    rfl
  refine pure_ (i := 11) (N := some 5) (v := ?_) (a' := ?_) #[true, true, true, true, true, true, true, true, true, true, true, true] rfl rfl (by kernel_rfl) (fun _ _ _ h => h) (Or.inl ⟨by rfl, ?_⟩) ?_ ?_
  rotate_left
  · intro w'
    go_simp
    with_reducible rfl
  rotate_left
  · simp only [Act.put, List.setIfInBounds_toArray, List.set_cons_zero, List.set_cons_succ, i64_w, i32_w]
    rfl
  refine done_ (by kernel_rfl) ?_
  go_upto_region 6 with fail
  replace K0 := Lib.hid (drewK K0.out)
  replace L0 := Lib.hid L0.out.drew
  replace R0 := Lib.hid R0.out.drew
  replace P0 : Hid (Keeps (fun b => b = k ∨ b ∈ blocks l ∨ b ∈ blocks r) w w1.drew) := P0.out.drew
  refine start_ (n := 12) (S := fun w' => w'.cell? ⟨k, 2, none⟩ = some (.pointer (ptr l)) ∧ w'.cell? ⟨k, 3, none⟩ = some (.pointer (ptr r))) (ds := []) #[false, false, false, false, false, false, false, false, false, false, false, false] (by kernel_rfl) rfl rfl ⟨K0.out.c2, K0.out.c3⟩ (fun hHeld => ?_)
  generalize w1.drew = w2 at K0 L0 R0 P0 hHeld ⊢
  refine pure_ (i := 0) (N := some 43) (v := ?_) (a' := ?_) #[true, false, false, false, false, false, false, false, false, false, false, false] rfl rfl (by kernel_rfl) (fun _ _ _ h => h) (Or.inl ⟨by rfl, ?_⟩) ?_ ?_
  rotate_left
  · intro w'
    go_simp
    with_reducible rfl
  rotate_left
  · simp only [Act.put, List.setIfInBounds_toArray, List.set_cons_zero, List.set_cons_succ, i64_w, i32_w]
    rfl
  refine pure_ (i := 1) (N := some 44) (v := ?_) (a' := ?_) #[true, true, false, false, false, false, false, false, false, false, false, false] rfl rfl (by kernel_rfl) (fun _ _ _ h => h) (Or.inl ⟨by rfl, ?_⟩) ?_ ?_
  rotate_left
  · intro w'
    go_simp
    with_reducible rfl
  rotate_left
  · simp only [Act.put, List.setIfInBounds_toArray, List.set_cons_zero, List.set_cons_succ, i64_w, i32_w]
    rfl
  refine pure_ (i := 2) (N := some 45) (v := ?_) (a' := ?_) #[true, true, true, false, false, false, false, false, false, false, false, false] rfl rfl (by kernel_rfl) (fun _ _ _ h => h) (Or.inl ⟨by rfl, ?_⟩) ?_ ?_
  rotate_left
  · intro w'
    go_simp
    with_reducible rfl
  rotate_left
  · simp only [Act.put, List.setIfInBounds_toArray, List.set_cons_zero, List.set_cons_succ, i64_w, i32_w]
    rfl
  refine take_ (i := 3) (N := some 46) (v := ?_) (a' := ?_) #[true, true, true, true, false, false, false, false, false, false, false, false] rfl rfl (by kernel_rfl) (fun _ _ _ h => h) (Or.inl ⟨by rfl, ?_⟩) hHeld ?_ ?_
  rotate_left
  · rintro w' ⟨s0, s1⟩
    go_simp
    with_reducible rfl
  rotate_left
  · simp only [Act.put, List.setIfInBounds_toArray, List.set_cons_zero, List.set_cons_succ, i64_w, i32_w]
    rfl
  refine pure_ (i := 5) (N := some 48) (v := ?_) (a' := ?_) #[true, true, true, true, false, true, false, false, false, false, false, false] rfl rfl (by kernel_rfl) (fun _ _ _ h => h) (Or.inl ⟨by rfl, ?_⟩) ?_ ?_
  rotate_left
  · intro w'
    go_simp
    with_reducible rfl
  rotate_left
  · simp only [Act.put, List.setIfInBounds_toArray, List.set_cons_zero, List.set_cons_succ, i64_w, i32_w]
    rfl
  refine pure_ (i := 6) (N := some 49) (v := ?_) (a' := ?_) #[true, true, true, true, false, true, true, false, false, false, false, false] rfl rfl (by kernel_rfl) (fun _ _ _ h => h) (Or.inl ⟨by rfl, ?_⟩) ?_ ?_
  rotate_left
  · intro w'
    go_simp
    with_reducible rfl
  rotate_left
  · simp only [Act.put, List.setIfInBounds_toArray, List.set_cons_zero, List.set_cons_succ, i64_w, i32_w]
    rfl
  refine pure_ (i := 7) (N := some 50) (v := ?_) (a' := ?_) #[true, true, true, true, false, true, true, true, false, false, false, false] rfl rfl (by kernel_rfl) (fun _ _ _ h => h) (Or.inl ⟨by rfl, ?_⟩) ?_ ?_
  rotate_left
  · intro w'
    go_simp
    with_reducible rfl
  rotate_left
  · simp only [Act.put, List.setIfInBounds_toArray, List.set_cons_zero, List.set_cons_succ, i64_w, i32_w]
    rfl
  refine take_ (i := 8) (N := some 51) (v := ?_) (a' := ?_) #[true, true, true, true, false, true, true, true, true, false, false, false] rfl rfl (by kernel_rfl) (fun _ _ _ h => h) (Or.inl ⟨by rfl, ?_⟩) hHeld ?_ ?_
  rotate_left
  · rintro w' ⟨s0, s1⟩
    go_simp
    with_reducible rfl
  rotate_left
  · simp only [Act.put, List.setIfInBounds_toArray, List.set_cons_zero, List.set_cons_succ, i64_w, i32_w]
    rfl
  refine one_ (i := 4) (N := some 47) #[true, true, true, true, true, true, true, true, true, false, false, false] rfl rfl (by kernel_rfl) (by decide) (fun K hK => ?_)
  refine goes_ Try.func107 (by kernel_rfl) rfl #[.pointer (ptr l)] (by rfl) rfl rfl (by (try simp only [List.map_toArray, List.map_cons, List.map_nil]); first | done | rfl) ?_
  have h107 := (size_any L0.out)
  rw [HSL.out] at h107
  refine h107.mono ?_
  clear h107
  rintro e w' ⟨rfl, rfl⟩
  refine ⟨_, rfl, ?_⟩
  refine hK.out _ _ hHeld (fun hHeld => ?_)
  clear hK K
  refine norm_ (a' := ?_) ?_ ?_
  rotate_left
  · show Act.put _ (some 47) _ = _
    simp only [Act.put, List.setIfInBounds_toArray, List.set_cons_zero, List.set_cons_succ, i64_w, i32_w]
    rfl
  refine one_ (i := 9) (N := some 52) #[true, true, true, true, true, true, true, true, true, true, false, false] rfl rfl (by kernel_rfl) (by decide) (fun K hK => ?_)
  refine goes_ Try.func107 (by kernel_rfl) rfl #[.pointer (ptr r)] (by rfl) rfl rfl (by (try simp only [List.map_toArray, List.map_cons, List.map_nil]); first | done | rfl) ?_
  have h107 := (size_any R0.out)
  rw [HSR.out] at h107
  refine h107.mono ?_
  clear h107
  rintro e w' ⟨rfl, rfl⟩
  refine ⟨_, rfl, ?_⟩
  refine hK.out _ _ hHeld (fun hHeld => ?_)
  clear hK K
  refine norm_ (a' := ?_) ?_ ?_
  rotate_left
  · show Act.put _ (some 52) _ = _
    simp only [Act.put, List.setIfInBounds_toArray, List.set_cons_zero, List.set_cons_succ, i64_w, i32_w]
    rfl
  refine one_ (i := 10) (N := some 53) #[true, true, true, true, true, true, true, true, true, true, true, false] rfl rfl (by kernel_rfl) (by decide) (fun K hK => ?_)
  refine goes_ Try.func108 (by kernel_rfl) rfl #[.int .i64 (sl : Int), .int .i64 (sr : Int)] (by rfl) rfl rfl (by (try simp only [List.map_toArray, List.map_cons, List.map_nil]); first | done | rfl) ?_
  have h108 := heavy_any w2 sl sr (by have := HS.out; omega) (by have := HS.out; omega)
  rw [d1] at h108
  refine h108.mono ?_
  clear h108
  rintro e w' ⟨rfl, rfl⟩
  refine ⟨_, rfl, ?_⟩
  refine hK.out _ _ hHeld (fun hHeld => ?_)
  clear hK K
  refine norm_ (a' := ?_) ?_ ?_
  rotate_left
  · show Act.put _ (some 53) _ = _
    simp only [Act.put, List.setIfInBounds_toArray, List.set_cons_zero, List.set_cons_succ, i64_w, i32_w]
    rfl
  refine pure_ (i := 11) (N := some 42) (v := ?_) (a' := ?_) #[true, true, true, true, true, true, true, true, true, true, true, true] rfl rfl (by kernel_rfl) (fun _ _ _ h => h) (Or.inl ⟨by rfl, ?_⟩) ?_ ?_
  rotate_left
  · intro w'
    go_simp
    with_reducible rfl
  rotate_left
  · simp only [Act.put, List.setIfInBounds_toArray, List.set_cons_zero, List.set_cons_succ, i64_w, i32_w]
    rfl
  refine done_ (by kernel_rfl) ?_
  go_wp2_with (go_at_call 86; refine (count_any K0.out L0.out R0.out HP.out.kl HP.out.kr HB.out HSS.out).mono ?_; rintro e w9 ⟨rfl, a9, k9⟩; have A9 := Lib.hid a9; have P9 := Lib.hid (P0.out.trans (k9.mono (fun _ _ h => .inl h))); clear a9 k9)
  go_ret
  exact ⟨rfl, A9.out, P9.out⟩
theorem bal_any {w : World} {k : Nat} {x : Int} {n : Nat} {l r : Tree} {a m : Int} (hk : KAt w k x n (ptr l) (ptr r) a m) (hl : At w l) (hr : At w r) (hp : Parted k l r) (hb : n + tot l + tot r ≤ 1099511627776) (hs : 1 + siz l + siz r ≤ 1099511627776) :
    Calls Try.prog 87 #[.pointer (some ⟨k, 0, none⟩)] w fun e w' => e = .returned (.pointer (ptr (bal k l x n r))) ∧ At w' (bal k l x n r) ∧ Keeps (fun b => b = k ∨ b ∈ blocks l ∨ b ∈ blocks r) w w' := by
  unfold bal
  split
  · rename_i h1
    cases r with
    | nil => simp only [siz] at h1; omega
    | nd u ul ux un ur =>
      obtain ⟨hu, hul, hur⟩ := hr
      rw [fixR_nd]
      split
      · rename_i h2
        cases ul with
        | nil => simp only [siz] at h2; omega
        | nd v vl vx vn vr => exact balR2_any hk hu hl hul.1 hul.2.1 hul.2.2 hur hp hb hs h1 h2
      · rename_i h2
        exact balR1_any hk hu hl hul hur hp hb hs h1 h2
  · rename_i h1
    split
    · rename_i h2
      cases l with
      | nil => simp only [siz] at h2; omega
      | nd u ul ux un ur =>
        obtain ⟨hu, hul, hur⟩ := hl
        rw [fixL_nd]
        split
        · rename_i h3
          cases ur with
          | nil => simp only [siz] at h3; omega
          | nd v vl vx vn vr => exact balL2_any hk hu hr hur.1 hur.2.1 hur.2.2 hul hp hb hs h2 h3
        · rename_i h3
          exact balL1_any hk hu hr hul hur hp hb hs h2 h3
    · rename_i h2
      exact balE_any hk hl hr hp hb hs h1 h2
end Go.Proofs.Ytjhinakfoejpbaa.T

/- Trees in plain Lean: what stands in a tree that was turned, filled, emptied. No program in sight. -/
namespace Go.Proofs.Ytjhinakfoejpbaa.T

theorem bl_nil : blocks .nil = [] := rfl
theorem bl_nd (k : Nat) (l : Tree) (x : Int) (n : Nat) (r : Tree) : blocks (.nd k l x n r) = k :: (blocks l ++ blocks r) := rfl
theorem rotL_perm (k : Nat) (l : Tree) (x : Int) (n : Nat) (r : Tree) : (blocks (rotL k l x n r)).Perm (blocks (.nd k l x n r)) := by
  cases r with
  | nil => exact List.Perm.refl _
  | nd u ul ux un ur =>
    rw [List.perm_iff_count]
    intro a
    simp only [rotL, blocks, List.count_cons, List.count_append, List.cons_append]
    ac_rfl
theorem rotR_perm (k : Nat) (l : Tree) (x : Int) (n : Nat) (r : Tree) : (blocks (rotR k l x n r)).Perm (blocks (.nd k l x n r)) := by
  cases l with
  | nil => exact List.Perm.refl _
  | nd u ul ux un ur =>
    rw [List.perm_iff_count]
    intro a
    simp only [rotR, blocks, List.count_cons, List.count_append, List.cons_append]
    ac_rfl
theorem fixR_perm (t : Tree) : (blocks (fixR t)).Perm (blocks t) := by
  cases t with
  | nil => exact List.Perm.refl _
  | nd u ul ux un ur =>
    rw [fixR_nd]
    split
    · exact rotR_perm ..
    · exact List.Perm.refl _
theorem fixL_perm (t : Tree) : (blocks (fixL t)).Perm (blocks t) := by
  cases t with
  | nil => exact List.Perm.refl _
  | nd u ul ux un ur =>
    rw [fixL_nd]
    split
    · exact rotL_perm ..
    · exact List.Perm.refl _
theorem bal_perm (k : Nat) (l : Tree) (x : Int) (n : Nat) (r : Tree) : (blocks (bal k l x n r)).Perm (blocks (.nd k l x n r)) := by
  unfold bal
  split
  · exact (rotL_perm ..).trans (List.Perm.cons _ (List.Perm.append_left _ (fixR_perm r)))
  · split
    · exact (rotR_perm ..).trans (List.Perm.cons _ (List.Perm.append_right _ (fixL_perm l)))
    · exact List.Perm.refl _
theorem tot_rotL (k : Nat) (l : Tree) (x : Int) (n : Nat) (r : Tree) : tot (rotL k l x n r) = n + tot l + tot r := by
  cases r <;> simp only [rotL, tot] <;> omega
theorem tot_rotR (k : Nat) (l : Tree) (x : Int) (n : Nat) (r : Tree) : tot (rotR k l x n r) = n + tot l + tot r := by
  cases l <;> simp only [rotR, tot] <;> omega
theorem siz_rotL (k : Nat) (l : Tree) (x : Int) (n : Nat) (r : Tree) : siz (rotL k l x n r) = 1 + siz l + siz r := by
  cases r <;> simp only [rotL, siz] <;> omega
theorem siz_rotR (k : Nat) (l : Tree) (x : Int) (n : Nat) (r : Tree) : siz (rotR k l x n r) = 1 + siz l + siz r := by
  cases l <;> simp only [rotR, siz] <;> omega
theorem tot_fixR (t : Tree) : tot (fixR t) = tot t := by
  cases t with
  | nil => rfl
  | nd u ul ux un ur =>
    rw [fixR_nd]
    split
    · exact tot_rotR ..
    · rfl
theorem tot_fixL (t : Tree) : tot (fixL t) = tot t := by
  cases t with
  | nil => rfl
  | nd u ul ux un ur =>
    rw [fixL_nd]
    split
    · exact tot_rotL ..
    · rfl
theorem siz_fixR (t : Tree) : siz (fixR t) = siz t := by
  cases t with
  | nil => rfl
  | nd u ul ux un ur =>
    rw [fixR_nd]
    split
    · exact siz_rotR ..
    · rfl
theorem siz_fixL (t : Tree) : siz (fixL t) = siz t := by
  cases t with
  | nil => rfl
  | nd u ul ux un ur =>
    rw [fixL_nd]
    split
    · exact siz_rotL ..
    · rfl
theorem tot_bal (k : Nat) (l : Tree) (x : Int) (n : Nat) (r : Tree) : tot (bal k l x n r) = n + tot l + tot r := by
  unfold bal
  split
  · rw [tot_rotL, tot_fixR]
  · split
    · rw [tot_rotR, tot_fixL]
    · rfl
theorem siz_bal (k : Nat) (l : Tree) (x : Int) (n : Nat) (r : Tree) : siz (bal k l x n r) = 1 + siz l + siz r := by
  unfold bal
  split
  · rw [siz_rotL, siz_fixR]
  · split
    · rw [siz_rotR, siz_fixL]
    · rfl
/-- a thing once more -/
def ins (g : Nat) : Tree → Int → Tree
  | .nil, x => .nd g .nil x 1 .nil
  | .nd k l y n r, x => if x < y then bal k (ins g l x) y n r else if y < x then bal k l y n (ins g r x) else bal k l y (n + 1) r
/-- without the first knot, and that -/
def cutT : Tree → Tree × (Nat × Int × Nat)
  | .nil => (.nil, (0, 0, 0))
  | .nd k .nil x n r => (r, (k, x, n))
  | .nd k (.nd a b c d e) x n r => (bal k (cutT (.nd a b c d e)).1 x n r, (cutT (.nd a b c d e)).2)
/-- what is left of a knot's sides without it -/
def gone : Tree → Tree → Tree
  | .nil, r => r
  | .nd a b c d e, .nil => .nd a b c d e
  | .nd a b c d e, .nd a' b' c' d' e' => bal (cutT (.nd a' b' c' d' e')).2.1 (.nd a b c d e) (cutT (.nd a' b' c' d' e')).2.2.1 (cutT (.nd a' b' c' d' e')).2.2.2 (cutT (.nd a' b' c' d' e')).1
def del : Tree → Int → Tree
  | .nil, _ => .nil
  | .nd k l y n r, x => if x < y then bal k (del l x) y n r else if y < x then bal k l y n (del r x) else if 1 < n then bal k l y (n - 1) r else gone l r
def has : Tree → Int → Prop
  | .nil, _ => False
  | .nd _ l y _ r, x => if x < y then has l x else if y < x then has r x else True
theorem mem_bal {b k : Nat} {l : Tree} {x : Int} {n : Nat} {r : Tree} : b ∈ blocks (bal k l x n r) ↔ b = k ∨ b ∈ blocks l ∨ b ∈ blocks r := by
  rw [(bal_perm k l x n r).mem_iff, bl_nd, List.mem_cons, List.mem_append]
theorem nodup_bal {k : Nat} {l : Tree} {x : Int} {n : Nat} {r : Tree} : (blocks (bal k l x n r)).Nodup ↔ Parted k l r := (bal_perm k l x n r).nodup_iff.trans parted_iff
theorem mem_ins {g b : Nat} : ∀ {t : Tree} {x : Int}, b ∈ blocks (ins g t x) → b = g ∨ b ∈ blocks t
  | .nil, x, h => by
    simp only [ins, blocks, List.mem_cons] at h
    rcases h with h | h
    · exact .inl h
    · cases h
  | .nd k l y n r, x, h => by
    unfold ins at h
    rw [bl_nd, List.mem_cons, List.mem_append]
    split at h
    · rcases mem_bal.1 h with h | h | h
      · exact .inr (.inl h)
      · rcases mem_ins h with h | h
        · exact .inl h
        · exact .inr (.inr (.inl h))
      · exact .inr (.inr (.inr h))
    · split at h
      · rcases mem_bal.1 h with h | h | h
        · exact .inr (.inl h)
        · exact .inr (.inr (.inl h))
        · rcases mem_ins h with h | h
          · exact .inl h
          · exact .inr (.inr (.inr h))
      · rcases mem_bal.1 h with h | h | h
        · exact .inr (.inl h)
        · exact .inr (.inr (.inl h))
        · exact .inr (.inr (.inr h))
theorem nodup_ins {g : Nat} : ∀ {t : Tree} {x : Int}, (blocks t).Nodup → g ∉ blocks t → (blocks (ins g t x)).Nodup
  | .nil, x, h, hg => by simp [ins, blocks]
  | .nd k l y n r, x, h, hg => by
    have hp := parted_iff.1 h
    rw [bl_nd, List.mem_cons, List.mem_append, not_or, not_or] at hg
    unfold ins
    split
    · refine nodup_bal.2 ⟨fun e => ?_, hp.kr, nodup_ins hp.ndl hg.2.1, hp.ndr, fun b hb e => ?_⟩
      · rcases mem_ins e with e | e
        · exact hg.1 e.symm
        · exact hp.kl e
      · rcases mem_ins hb with hb | hb
        · exact hg.2.2 (hb ▸ e)
        · exact hp.lr b hb e
    · split
      · refine nodup_bal.2 ⟨hp.kl, fun e => ?_, hp.ndl, nodup_ins hp.ndr hg.2.2, fun b hb e => ?_⟩
        · rcases mem_ins e with e | e
          · exact hg.1 e.symm
          · exact hp.kr e
        · rcases mem_ins e with e | e
          · exact hg.2.1 (e ▸ hb)
          · exact hp.lr b hb e
      · exact nodup_bal.2 hp
theorem tot_ins (g : Nat) : ∀ (t : Tree) (x : Int), tot (ins g t x) = tot t + 1
  | .nil, x => rfl
  | .nd k l y n r, x => by
    unfold ins
    split
    · rw [tot_bal, tot_ins g l x, tot]; omega
    · split
      · rw [tot_bal, tot_ins g r x, tot]; omega
      · rw [tot_bal, tot]; omega
theorem siz_ins (g : Nat) : ∀ (t : Tree) (x : Int), siz t ≤ siz (ins g t x) ∧ siz (ins g t x) ≤ siz t + 1
  | .nil, x => ⟨Nat.zero_le _, Nat.le_refl _⟩
  | .nd k l y n r, x => by
    unfold ins
    split
    · have := siz_ins g l x
      rw [siz_bal, siz]; omega
    · split
      · have := siz_ins g r x
        rw [siz_bal, siz]; omega
      · rw [siz_bal, siz]; omega
theorem cut_perm : ∀ (t : Tree), t ≠ .nil → ((cutT t).2.1 :: blocks (cutT t).1).Perm (blocks t)
  | .nil, h => absurd rfl h
  | .nd k .nil x n r, _ => List.Perm.refl _
  | .nd k (.nd a b c d e) x n r, _ => by
    have ih := cut_perm (.nd a b c d e) (by simp)
    show ((cutT (.nd a b c d e)).2.1 :: blocks (bal k (cutT (.nd a b c d e)).1 x n r)).Perm _
    refine (List.Perm.cons _ (bal_perm ..)).trans ?_
    rw [bl_nd, bl_nd]
    refine (List.Perm.swap _ _ _).trans (List.Perm.cons _ ?_)
    exact (List.Perm.append_right _ ih)
theorem tot_cut : ∀ (t : Tree), t ≠ .nil → (cutT t).2.2.2 + tot (cutT t).1 = tot t
  | .nil, h => absurd rfl h
  | .nd k .nil x n r, _ => by simp only [cutT, tot]; omega
  | .nd k (.nd a b c d e) x n r, _ => by
    have ih := tot_cut (.nd a b c d e) (by simp)
    show (cutT (.nd a b c d e)).2.2.2 + tot (bal k (cutT (.nd a b c d e)).1 x n r) = n + tot (.nd a b c d e) + tot r
    rw [tot_bal]
    omega
theorem siz_cut : ∀ (t : Tree), t ≠ .nil → siz (cutT t).1 + 1 = siz t
  | .nil, h => absurd rfl h
  | .nd k .nil x n r, _ => by simp only [cutT, siz]; omega
  | .nd k (.nd a b c d e) x n r, _ => by
    have ih := siz_cut (.nd a b c d e) (by simp)
    show siz (bal k (cutT (.nd a b c d e)).1 x n r) + 1 = 1 + siz (.nd a b c d e) + siz r
    rw [siz_bal]
    omega
end Go.Proofs.Ytjhinakfoejpbaa.T

/- A thing is put into a tree. No condition stands open. -/
namespace Go.Proofs.Ytjhinakfoejpbaa.T
open Go.RowKit Go.Proofs.YtjhinakfoejpbaaW.PrintWords Go.Proofs.YtjhinakfoejpbaaW.PrintLast Go.Proofs.YtjhinakfoejpbaaW.PrintMore

theorem kt (w : World) (g : Nat) (x : Int) (n : Nat) (l r : Tree) (h : At w (.nd g l x n r)) : KAt w g x n (ptr l) (ptr r) ((n + tot l + tot r : Nat) : Int) ((1 + siz l + siz r : Nat) : Int) := h.1
set_option maxHeartbeats 8000000 in
set_option maxRecDepth 100000 in
theorem with_nil (w : World) (x : Int) : Calls Try.prog 51 #[.pointer none, .int .i64 x] w fun e w' => e = .returned (.pointer (some ⟨w.heap.size, 0, none⟩)) ∧ At w' (.nd w.heap.size .nil x 1 .nil) ∧ Keeps (fun _ => False) w w' := by
  have K1 : Hid (KAt (w.alloc (.cells #[.int .i64 x, .int .i64 1, .pointer none, .pointer none, .int .i64 0, .int .i64 0] 102)) w.heap.size x 1 (ptr .nil) (ptr .nil) 0 0) := heap_alloc_new w _
  have P1 : Hid (Keeps (fun _ => False) w (w.alloc (.cells #[.int .i64 x, .int .i64 1, .pointer none, .pointer none, .int .i64 0, .int .i64 0] 102))) := (Keeps.refl _ w).alloc _
  go_enter Try.func51, Try.ntmps51
  go_wp2_with (go_at_call 86; refine (count_any (l := .nil) (r := .nil) K1.out trivial trivial (by simp [blocks]) (by simp [blocks]) (by decide) (by decide)).mono ?_; rintro e w2 ⟨rfl, a2, k2⟩; have A2 := Lib.hid a2; have P2 : Hid (Keeps (fun _ => False) w w2) := P1.out.trans' (S' := fun k => k = w.heap.size) k2 (fun i hi e => absurd hi (by omega)); clear a2 k2)
  go_ret
  exact ⟨rfl, A2.out, P2.out⟩
set_option maxHeartbeats 8000000 in
set_option maxRecDepth 100000 in
theorem with_any : ∀ (t : Tree) {w : World} (x : Int), At w t → (blocks t).Nodup → tot t + 1 ≤ 1099511627776 → siz t + 1 ≤ 1099511627776 →
    Calls Try.prog 51 #[.pointer (ptr t), .int .i64 x] w fun e w' => ∃ g, w.heap.size ≤ g ∧ e = .returned (.pointer (ptr (ins g t x))) ∧ At w' (ins g t x) ∧ Keeps (fun b => b ∈ blocks t) w w'
  | .nil, w, x, h, hn, hb, hs => (with_nil w x).mono fun e w' ⟨he, ha, hk⟩ => ⟨w.heap.size, Nat.le_refl _, he, ha, hk.mono (fun _ _ h => h.elim)⟩
  | .nd k l y n r, w, x, h, hn, hb, hs => by
    have hp := parted_iff.1 hn
    have K0 := Lib.hid h.1
    have L0 := Lib.hid h.2.1
    have R0 := Lib.hid h.2.2
    have HP := Lib.hid hp
    have HB : Hid (n + tot l + tot r + 1 ≤ 1099511627776) := hb
    have HS : Hid (1 + siz l + siz r + 1 ≤ 1099511627776) := hs
    have HKW : Hid (k < w.heap.size) := blk_lt h.1
    have HLW : Hid (∀ b ∈ blocks l, b < w.heap.size) := h.2.1.lt
    have HRW : Hid (∀ b ∈ blocks r, b < w.heap.size) := h.2.2.lt
    have ck0 := h.1.c0
    have ck1 := h.1.c1
    have ck2 := h.1.c2
    have ck3 := h.1.c3
    clear h hn hb hs hp
    show Calls Try.prog 51 #[.pointer (some ⟨k, 0, none⟩), .int .i64 x] w _
    by_cases hlt : x < y
    · have ih := Lib.hid (with_any l x L0.out HP.out.ndl (by have := HB.out; omega) (by have := HS.out; omega))
      have d1 : decide (x < y) = true := decide_eq_true hlt
      have hi : Hid (∀ g, ins g (.nd k l y n r) x = bal k (ins g l x) y n r) := fun g => if_pos hlt
      clear hlt
      go_enter Try.func51, Try.ntmps51
      go_wp2_with (first | (go_at_call 51; refine ih.out.mono ?_; rintro e w2 ⟨g, hg, rfl, a2, k2⟩; have GW := Lib.hid hg; have A2 := Lib.hid a2; have K2 := Lib.hid (K0.out.kept k2 HP.out.kl); have R2 := Lib.hid (At.kept k2 R0.out (fun b hb e => HP.out.lr b e hb)); have P2 : Hid (Keeps (fun b => b ∈ blocks (.nd k l y n r)) w w2) := k2.mono (fun b _ h => List.mem_cons_of_mem _ (List.mem_append_left _ h)); have f2 := K2.out.fz 2; have c2 := K2.out.c2; clear hg a2 k2 K0 L0 R0) | (go_at_call 87; have hne : k ∉ blocks (ins g l x) := (fun h => (mem_ins h).elim (fun e => by have := HKW.out; have := GW.out; omega) HP.out.kl); refine (bal_any (K2.out.put2 (ptr (ins g l x))) (A2.out.put (i := 2) hne _) (R2.out.put (i := 2) HP.out.kr _) ⟨hne, HP.out.kr, nodup_ins HP.out.ndl (fun h => by have := HLW.out g h; have := GW.out; omega), HP.out.ndr, fun b hb e => (mem_ins hb).elim (fun e2 => by have := HRW.out b e; have := GW.out; omega) (fun hb => HP.out.lr b hb e)⟩ (by rw [tot_ins]; have := HB.out; omega) (by have := (siz_ins g l x).2; have := HS.out; omega)).mono ?_; clear hne; rintro e w3 ⟨rfl, a3, k3⟩; have A3 := Lib.hid a3; have P3 := Lib.hid ((P2.out.setCell (p := ⟨k, 2, none⟩) (List.mem_cons_self ..) (.pointer (ptr (ins g l x)))).trans' k3 (fun b hb h => h.elim (fun e => e ▸ List.mem_cons_self ..) (fun h => h.elim (fun h => (mem_ins h).elim (fun e => by have := GW.out; omega) (fun h => List.mem_cons_of_mem _ (List.mem_append_left _ h))) (fun h => List.mem_cons_of_mem _ (List.mem_append_right _ h))))); clear a3 k3))
      go_ret
      exact ⟨g, GW.out, by rw [hi.out]; rfl, by rw [hi.out]; exact A3.out, P3.out⟩
    · have d1 : decide (x < y) = false := decide_eq_false hlt
      by_cases hgt : y < x
      · have ih := Lib.hid (with_any r x R0.out HP.out.ndr (by have := HB.out; omega) (by have := HS.out; omega))
        have d2 : decide (y < x) = true := decide_eq_true hgt
        have hi : Hid (∀ g, ins g (.nd k l y n r) x = bal k l y n (ins g r x)) := fun g => (if_neg hlt).trans (if_pos hgt)
        clear hlt hgt
        go_enter Try.func51, Try.ntmps51
        go_wp2_with (first | (go_at_call 51; refine ih.out.mono ?_; rintro e w2 ⟨g, hg, rfl, a2, k2⟩; have GW := Lib.hid hg; have A2 := Lib.hid a2; have K2 := Lib.hid (K0.out.kept k2 HP.out.kr); have L2 := Lib.hid (At.kept k2 L0.out (fun b hb e => HP.out.lr b hb e)); have P2 : Hid (Keeps (fun b => b ∈ blocks (.nd k l y n r)) w w2) := k2.mono (fun b _ h => List.mem_cons_of_mem _ (List.mem_append_right _ h)); have f3 := K2.out.fz 3; have c3 := K2.out.c3; clear hg a2 k2 K0 L0 R0) | (go_at_call 87; have hne : k ∉ blocks (ins g r x) := (fun h => (mem_ins h).elim (fun e => by have := HKW.out; have := GW.out; omega) HP.out.kr); refine (bal_any (K2.out.put3 (ptr (ins g r x))) (L2.out.put (i := 3) HP.out.kl _) (A2.out.put (i := 3) hne _) ⟨HP.out.kl, hne, HP.out.ndl, nodup_ins HP.out.ndr (fun h => by have := HRW.out g h; have := GW.out; omega), fun b hb e => (mem_ins e).elim (fun e2 => by have := HLW.out b hb; have := GW.out; omega) (fun e => HP.out.lr b hb e)⟩ (by rw [tot_ins]; have := HB.out; omega) (by have := (siz_ins g r x).2; have := HS.out; omega)).mono ?_; clear hne; rintro e w3 ⟨rfl, a3, k3⟩; have A3 := Lib.hid a3; have P3 := Lib.hid ((P2.out.setCell (p := ⟨k, 3, none⟩) (List.mem_cons_self ..) (.pointer (ptr (ins g r x)))).trans' k3 (fun b hb h => h.elim (fun e => e ▸ List.mem_cons_self ..) (fun h => h.elim (fun h => List.mem_cons_of_mem _ (List.mem_append_left _ h)) (fun h => (mem_ins h).elim (fun e => by have := GW.out; omega) (fun h => List.mem_cons_of_mem _ (List.mem_append_right _ h)))))); clear a3 k3))
        go_ret
        exact ⟨g, GW.out, by rw [hi.out]; rfl, by rw [hi.out]; exact A3.out, P3.out⟩
      · have d2 : decide (y < x) = false := decide_eq_false hgt
        have hi : Hid (∀ g, ins g (.nd k l y n r) x = bal k l y (n + 1) r) := fun g => (if_neg hlt).trans (if_neg hgt)
        have f1 := K0.out.fz 1
        have wn : wrap64 ((n : Int) + 1) = (n : Int) + 1 := wr1 (by have := HB.out; omega)
        have hc : Hid ((n : Int) + 1 = ((n + 1 : Nat) : Int)) := (Int.natCast_succ n).symm
        clear hlt hgt
        go_enter Try.func51, Try.ntmps51
        go_wp2_with (go_at_call 87; rw [hc.out]; refine (bal_any (n := n + 1) (blk_put K0.out 1 _ rfl) (L0.out.put (i := 1) HP.out.kl _) (R0.out.put (i := 1) HP.out.kr _) HP.out (by have := HB.out; omega) (by have := HS.out; omega)).mono ?_; rintro e w3 ⟨rfl, a3, k3⟩; have A3 := Lib.hid a3; have P3 := Lib.hid (((Keeps.refl (fun b => b ∈ blocks (.nd k l y n r)) w).setCell (p := ⟨k, 1, none⟩) (List.mem_cons_self ..) (.int .i64 ((n + 1 : Nat) : Int))).trans' k3 (fun b hb h => h.elim (fun e => e ▸ List.mem_cons_self ..) (fun h => h.elim (fun h => List.mem_cons_of_mem _ (List.mem_append_left _ h)) (fun h => List.mem_cons_of_mem _ (List.mem_append_right _ h))))); clear a3 k3)
        go_ret
        exact ⟨w.heap.size, Nat.le_refl _, by rw [hi.out]; rfl, by rw [hi.out]; exact A3.out, P3.out⟩
end Go.Proofs.Ytjhinakfoejpbaa.T

/- A thing is taken out of a tree. No condition stands open. -/
namespace Go.Proofs.Ytjhinakfoejpbaa.T
open Go.RowKit Go.Proofs.YtjhinakfoejpbaaW.PrintWords Go.Proofs.YtjhinakfoejpbaaW.PrintLast Go.Proofs.YtjhinakfoejpbaaW.PrintMore

theorem nd_ne (k : Nat) (l : Tree) (x : Int) (n : Nat) (r : Tree) : Tree.nd k l x n r ≠ .nil := by simp
structure CutOk (t : Tree) : Prop where
  first : (cutT t).2.1 ∈ blocks t
  apart : (cutT t).2.1 ∉ blocks (cutT t).1
  nodup : (blocks (cutT t).1).Nodup
  sub : ∀ b ∈ blocks (cutT t).1, b ∈ blocks t
  tot : (cutT t).2.2.2 + tot (cutT t).1 = tot t
  siz : siz (cutT t).1 + 1 = siz t
theorem cut_ok {t : Tree} (h : t ≠ .nil) (hn : (blocks t).Nodup) : CutOk t := by
  have hp := cut_perm t h
  have h2 := hp.nodup_iff.2 hn
  rw [List.nodup_cons] at h2
  exact ⟨hp.mem_iff.1 (List.mem_cons_self ..), h2.1, h2.2, fun b hb => hp.mem_iff.1 (List.mem_cons_of_mem _ hb), tot_cut t h, siz_cut t h⟩
theorem mem_del {b : Nat} : ∀ {t : Tree} {x : Int}, (blocks t).Nodup → b ∈ blocks (del t x) → b ∈ blocks t
  | .nil, x, _, h => h
  | .nd k l y n r, x, hn, h => by
    have hp := parted_iff.1 hn
    unfold del at h
    rw [bl_nd, List.mem_cons, List.mem_append]
    split at h
    · rcases mem_bal.1 h with h | h | h
      · exact .inl h
      · exact .inr (.inl (mem_del hp.ndl h))
      · exact .inr (.inr h)
    · split at h
      · rcases mem_bal.1 h with h | h | h
        · exact .inl h
        · exact .inr (.inl h)
        · exact .inr (.inr (mem_del hp.ndr h))
      · split at h
        · exact (mem_bal.1 h)
        · unfold gone at h
          split at h
          · exact .inr (.inr h)
          · exact .inr (.inl h)
          · have hc := cut_ok (nd_ne _ _ _ _ _) hp.ndr
            rcases mem_bal.1 h with h | h | h
            · exact .inr (.inr (h ▸ hc.first))
            · exact .inr (.inl h)
            · exact .inr (.inr (hc.sub _ h))
theorem nodup_del : ∀ {t : Tree} {x : Int}, (blocks t).Nodup → (blocks (del t x)).Nodup
  | .nil, x, h => h
  | .nd k l y n r, x, hn => by
    have hp := parted_iff.1 hn
    unfold del
    split
    · exact nodup_bal.2 ⟨fun e => hp.kl (mem_del hp.ndl e), hp.kr, nodup_del hp.ndl, hp.ndr, fun b hb e => hp.lr b (mem_del hp.ndl hb) e⟩
    · split
      · exact nodup_bal.2 ⟨hp.kl, fun e => hp.kr (mem_del hp.ndr e), hp.ndl, nodup_del hp.ndr, fun b hb e => hp.lr b hb (mem_del hp.ndr e)⟩
      · split
        · exact nodup_bal.2 hp
        · unfold gone
          split
          · exact hp.ndr
          · exact hp.ndl
          · have hc := cut_ok (nd_ne _ _ _ _ _) hp.ndr
            exact nodup_bal.2 ⟨fun e => hp.lr _ e hc.first, hc.apart, hp.ndl, hc.nodup, fun b hb e => hp.lr b hb (hc.sub b e)⟩
theorem del_le : ∀ (t : Tree) (x : Int), (blocks t).Nodup → tot (del t x) ≤ tot t ∧ siz (del t x) ≤ siz t
  | .nil, x, _ => ⟨Nat.le_refl _, Nat.le_refl _⟩
  | .nd k l y n r, x, hn => by
    have hp := parted_iff.1 hn
    unfold del
    split
    · have := del_le l x hp.ndl
      rw [tot_bal, siz_bal, tot, siz]; omega
    · split
      · have := del_le r x hp.ndr
        rw [tot_bal, siz_bal, tot, siz]; omega
      · split
        · rw [tot_bal, siz_bal, tot, siz]; omega
        · unfold gone
          split
          · simp only [tot, siz]; omega
          · simp only [tot, siz]; omega
          · have hc := cut_ok (nd_ne _ _ _ _ _) hp.ndr
            have h1 := hc.tot
            have h2 := hc.siz
            rw [tot_bal, siz_bal]
            generalize cutT (Tree.nd _ _ _ _ _) = c at h1 h2 ⊢
            simp only [tot, siz] at h1 h2 ⊢
            omega
set_option maxHeartbeats 8000000 in
set_option maxRecDepth 100000 in
theorem cut_any : ∀ (t : Tree) {w : World}, t ≠ .nil → At w t → (blocks t).Nodup → tot t ≤ 1099511627776 → siz t ≤ 1099511627776 →
    Calls Try.prog 88 #[.pointer (ptr t)] w fun e w' => e = .returned (.tuple #[.pointer (ptr (cutT t).1), .pointer (some ⟨(cutT t).2.1, 0, none⟩)]) ∧ At w' (cutT t).1 ∧ (∃ l r a m, KAt w' (cutT t).2.1 (cutT t).2.2.1 (cutT t).2.2.2 l r a m) ∧ Keeps (fun b => b ∈ blocks t) w w'
  | .nil, w, h, _, _, _, _ => absurd rfl h
  | .nd k .nil x n r, w, _, h, hn, hb, hs => by
    have ck2 := h.1.c2
    have ck3 := h.1.c3
    have K0 := Lib.hid h.1
    have R0 := Lib.hid h.2.2
    clear h hn hb hs
    have ck2 : w.cell? ⟨k, 2, none⟩ = some (.pointer none) := ck2
    show Calls Try.prog 88 #[.pointer (some ⟨k, 0, none⟩)] w _
    go_enter Try.func88, Try.ntmps88
    go_wp2
    go_ret2
    exact ⟨rfl, R0.out, ⟨_, _, _, _, K0.out⟩, Keeps.refl _ _⟩
  | .nd k (.nd a b c d q) x n r, w, _, h, hn, hb, hs => by
    have hp := parted_iff.1 hn
    have HP := Lib.hid hp
    have HB : Hid (n + tot (.nd a b c d q) + tot r ≤ 1099511627776) := hb
    have HS : Hid (1 + siz (.nd a b c d q) + siz r ≤ 1099511627776) := hs
    have ih := Lib.hid (cut_any (.nd a b c d q) (nd_ne _ _ _ _ _) h.2.1 hp.ndl (by have := HB.out; omega) (by have := HS.out; omega))
    have HC := Lib.hid (cut_ok (nd_ne a b c d q) hp.ndl)
    have ck2 := h.1.c2
    have ck2 : w.cell? ⟨k, 2, none⟩ = some (.pointer (some ⟨a, 0, none⟩)) := ck2
    have K0 := Lib.hid h.1
    have R0 := Lib.hid h.2.2
    obtain ⟨T, hT⟩ : ∃ T, cutT (.nd a b c d q) = T := ⟨_, rfl⟩
    have hT2 : cutT (.nd k (.nd a b c d q) x n r) = (bal k T.1 x n r, T.2) := by rw [← hT]; rfl
    have HT2 := Lib.hid hT2
    clear hT2
    obtain ⟨c1, c2, c3, c4, c5, c6⟩ := HC.out
    rw [hT] at c1 c2 c3 c4 c5 c6 ih
    have C1 := Lib.hid c1
    have C2 := Lib.hid c2
    have C3 := Lib.hid c3
    have C4 := Lib.hid c4
    have C5 := Lib.hid c5
    have C6 := Lib.hid c6
    obtain ⟨rest, fg, fx, fn⟩ := T
    have hkf : Hid (k ≠ fg) := fun e => HP.out.kl (e ▸ C1.out)
    have hkr : Hid (k ∉ blocks rest) := fun e => HP.out.kl (C4.out k e)
    have IH : Hid (Calls Try.prog 88 #[.pointer (some ⟨a, 0, none⟩)] w fun e w' => e = .returned (.tuple #[.pointer (ptr rest), .pointer (some ⟨fg, 0, none⟩)]) ∧ At w' rest ∧ (∃ l r a m, KAt w' fg fx fn l r a m) ∧ Keeps (fun b' => b' ∈ blocks (.nd a b c d q)) w w') := ih.out
    clear h hn hb hs hp c1 c2 c3 c4 c5 c6 hT ih HC
    show Calls Try.prog 88 #[.pointer (some ⟨k, 0, none⟩)] w _
    go_enter Try.func88, Try.ntmps88
    go_wp2_with (first | (go_at_call 88; refine IH.out.mono ?_; rintro e w2 ⟨rfl, a2, ⟨l2, r2, aa2, m2, f2⟩, k2⟩; have A2 := Lib.hid a2; have F2 := Lib.hid f2; have K2 := Lib.hid (K0.out.kept k2 HP.out.kl); have R2 := Lib.hid (At.kept k2 R0.out (fun b' hb e => HP.out.lr b' e hb)); have P2 : Hid (Keeps (fun b' => b' ∈ blocks (.nd k (.nd a b c d q) x n r)) w w2) := k2.mono (fun b' _ h => List.mem_cons_of_mem _ (List.mem_append_left _ h)); have fz2 := K2.out.fz 2; have cz2 := K2.out.c2; clear a2 f2 k2 K0 R0) | (go_at_call 87; refine (bal_any (K2.out.put2 (ptr rest)) (A2.out.put (i := 2) hkr.out _) (R2.out.put (i := 2) HP.out.kr _) ⟨hkr.out, HP.out.kr, C3.out, HP.out.ndr, fun b' hb e => HP.out.lr b' (C4.out b' hb) e⟩ (by have := HB.out; have := C5.out; omega) (by have := HS.out; have := C6.out; omega)).mono ?_; rintro e w3 ⟨rfl, a3, k3⟩; have A3 := Lib.hid a3; have F3 := Lib.hid ((F2.out.put_far (i := 2) (fun e => hkf.out e.symm) (.pointer (ptr rest))).kept k3 (fun h => h.elim (fun e => hkf.out e.symm) (fun h => h.elim C2.out (fun h => HP.out.lr fg C1.out h)))); have P3 := Lib.hid ((P2.out.setCell (p := ⟨k, 2, none⟩) (List.mem_cons_self ..) (.pointer (ptr rest))).trans' k3 (fun b' hb h => h.elim (fun e => e ▸ List.mem_cons_self ..) (fun h => h.elim (fun h => List.mem_cons_of_mem _ (List.mem_append_left _ (C4.out b' h))) (fun h => List.mem_cons_of_mem _ (List.mem_append_right _ h))))); clear a3 k3))
    go_ret2
    rw [HT2.out]
    exact ⟨rfl, A3.out, ⟨_, _, _, _, F3.out⟩, P3.out⟩
end Go.Proofs.Ytjhinakfoejpbaa.T

/- A thing that is there is taken out of a tree. No condition stands open. -/
namespace Go.Proofs.Ytjhinakfoejpbaa.T
open Go.RowKit Go.Proofs.YtjhinakfoejpbaaW.PrintWords Go.Proofs.YtjhinakfoejpbaaW.PrintLast Go.Proofs.YtjhinakfoejpbaaW.PrintMore

theorem keeps_bal {w w2 w3 : World} {k : Nat} {l r l' r' : Tree} {x : Int} {n : Nat} {k' : Nat} (P : Keeps (fun b => b ∈ blocks (.nd k l x n r)) w w2) (k3 : Keeps (fun b => b = k' ∨ b ∈ blocks l' ∨ b ∈ blocks r') w2 w3)
    (h0 : k' ∈ blocks (.nd k l x n r)) (h1 : ∀ b ∈ blocks l', b ∈ blocks (.nd k l x n r)) (h2 : ∀ b ∈ blocks r', b ∈ blocks (.nd k l x n r)) : Keeps (fun b => b ∈ blocks (.nd k l x n r)) w w3 :=
  P.trans (k3.mono (fun b _ h => h.elim (fun e => e ▸ h0) (fun h => h.elim (h1 b) (h2 b))))
theorem in_l {k : Nat} {l r : Tree} {x : Int} {n b : Nat} (h : b ∈ blocks l) : b ∈ blocks (.nd k l x n r) := List.mem_cons_of_mem _ (List.mem_append_left _ h)
theorem in_r {k : Nat} {l r : Tree} {x : Int} {n b : Nat} (h : b ∈ blocks r) : b ∈ blocks (.nd k l x n r) := List.mem_cons_of_mem _ (List.mem_append_right _ h)
theorem in_k {k : Nat} {l r : Tree} {x : Int} {n : Nat} : k ∈ blocks (.nd k l x n r) := List.mem_cons_self ..
set_option maxHeartbeats 8000000 in
set_option maxRecDepth 100000 in
theorem without_any : ∀ (t : Tree) {w : World} (x : Int), has t x → At w t → (blocks t).Nodup → tot t ≤ 1099511627776 → siz t ≤ 1099511627776 →
    Calls Try.prog 53 #[.pointer (ptr t), .int .i64 x] w fun e w' => e = .returned (.pointer (ptr (del t x))) ∧ At w' (del t x) ∧ Keeps (fun b => b ∈ blocks t) w w'
  | .nil, w, x, hh, h, hn, hb, hs => hh.elim
  | .nd k l y n r, w, x, hh, h, hn, hb, hs => by
    have hp := parted_iff.1 hn
    have K0 := Lib.hid h.1
    have L0 := Lib.hid h.2.1
    have R0 := Lib.hid h.2.2
    have HP := Lib.hid hp
    have HB : Hid (n + tot l + tot r ≤ 1099511627776) := hb
    have HS : Hid (1 + siz l + siz r ≤ 1099511627776) := hs
    have ck0 := h.1.c0
    have ck1 := h.1.c1
    have ck2 := h.1.c2
    have ck3 := h.1.c3
    have P0 : Hid (Keeps (fun b => b ∈ blocks (.nd k l y n r)) w w) := Keeps.refl _ _
    have DL := Lib.hid (del_le l x hp.ndl)
    have DR := Lib.hid (del_le r x hp.ndr)
    unfold has at hh
    clear h hn hb hs
    show Calls Try.prog 53 #[.pointer (some ⟨k, 0, none⟩), .int .i64 x] w _
    by_cases hlt : x < y
    · rw [if_pos hlt] at hh
      have ih := Lib.hid (without_any l x hh L0.out hp.ndl (by have := HB.out; omega) (by have := HS.out; omega))
      have d1 : decide (x < y) = true := decide_eq_true hlt
      have hi : Hid (del (.nd k l y n r) x = bal k (del l x) y n r) := if_pos hlt
      have hpp : Hid (Parted k (del l x) r) := ⟨fun e => hp.kl (mem_del hp.ndl e), hp.kr, nodup_del hp.ndl, hp.ndr, fun b hb e => hp.lr b (mem_del hp.ndl hb) e⟩
      clear hlt hh hp
      go_enter Try.func53, Try.ntmps53
      go_wp2_with (first | (go_at_call 53; refine ih.out.mono ?_; rintro e w2 ⟨rfl, a2, k2⟩; have A2 := Lib.hid a2; have K2 := Lib.hid (K0.out.kept k2 HP.out.kl); have R2 := Lib.hid (At.kept k2 R0.out (fun b hb e => HP.out.lr b e hb)); have P2 := Lib.hid (P0.out.trans (k2.mono (fun b _ h => in_l h))); have f2 := K2.out.fz 2; have c2 := K2.out.c2; clear a2 k2 K0 L0 R0) | (go_at_call 87; refine (bal_any (K2.out.put2 (ptr (del l x))) (A2.out.put (i := 2) hpp.out.kl _) (R2.out.put (i := 2) HP.out.kr _) hpp.out (by have := HB.out; have := DL.out.1; omega) (by have := HS.out; have := DL.out.2; omega)).mono ?_; rintro e w3 ⟨rfl, a3, k3⟩; have A3 := Lib.hid a3; have P3 := Lib.hid (keeps_bal (P2.out.setCell (p := ⟨k, 2, none⟩) in_k (.pointer (ptr (del l x)))) k3 in_k (fun b hb => in_l (mem_del HP.out.ndl hb)) (fun b hb => in_r hb)); clear a3 k3))
      go_ret
      exact ⟨by rw [hi.out]; rfl, by rw [hi.out]; exact A3.out, P3.out⟩
    · have d1 : decide (x < y) = false := decide_eq_false hlt
      rw [if_neg hlt] at hh
      by_cases hgt : y < x
      · rw [if_pos hgt] at hh
        have ih := Lib.hid (without_any r x hh R0.out hp.ndr (by have := HB.out; omega) (by have := HS.out; omega))
        have d2 : decide (y < x) = true := decide_eq_true hgt
        have hi : Hid (del (.nd k l y n r) x = bal k l y n (del r x)) := (if_neg hlt).trans (if_pos hgt)
        have hpp : Hid (Parted k l (del r x)) := ⟨hp.kl, fun e => hp.kr (mem_del hp.ndr e), hp.ndl, nodup_del hp.ndr, fun b hb e => hp.lr b hb (mem_del hp.ndr e)⟩
        clear hlt hgt hh hp
        go_enter Try.func53, Try.ntmps53
        go_wp2_with (first | (go_at_call 53; refine ih.out.mono ?_; rintro e w2 ⟨rfl, a2, k2⟩; have A2 := Lib.hid a2; have K2 := Lib.hid (K0.out.kept k2 HP.out.kr); have L2 := Lib.hid (At.kept k2 L0.out (fun b hb e => HP.out.lr b hb e)); have P2 := Lib.hid (P0.out.trans (k2.mono (fun b _ h => in_r h))); have f3 := K2.out.fz 3; have c3 := K2.out.c3; clear a2 k2 K0 L0 R0) | (go_at_call 87; refine (bal_any (K2.out.put3 (ptr (del r x))) (L2.out.put (i := 3) HP.out.kl _) (A2.out.put (i := 3) hpp.out.kr _) hpp.out (by have := HB.out; have := DR.out.1; omega) (by have := HS.out; have := DR.out.2; omega)).mono ?_; rintro e w3 ⟨rfl, a3, k3⟩; have A3 := Lib.hid a3; have P3 := Lib.hid (keeps_bal (P2.out.setCell (p := ⟨k, 3, none⟩) in_k (.pointer (ptr (del r x)))) k3 in_k (fun b hb => in_l hb) (fun b hb => in_r (mem_del HP.out.ndr hb))); clear a3 k3))
        go_ret
        exact ⟨by rw [hi.out]; rfl, by rw [hi.out]; exact A3.out, P3.out⟩
      · have d2 : decide (y < x) = false := decide_eq_false hgt
        by_cases hn1 : 1 < n
        · have d3 : decide ((1 : Int) < (n : Int)) = true := decide_eq_true (by omega)
          have hi : Hid (del (.nd k l y n r) x = bal k l y (n - 1) r) := (if_neg hlt).trans ((if_neg hgt).trans (if_pos hn1))
          have f1 := K0.out.fz 1
          have wn : wrap64 ((n : Int) - 1) = (n : Int) - 1 := by have := HB.out; unfold wrap64; omega
          have hc : Hid ((n : Int) - 1 = ((n - 1 : Nat) : Int)) := by show _ = _; omega
          clear hlt hgt hh hp hn1
          go_enter Try.func53, Try.ntmps53
          go_wp2_with (go_at_call 87; rw [hc.out]; refine (bal_any (n := n - 1) (blk_put K0.out 1 _ rfl) (L0.out.put (i := 1) HP.out.kl _) (R0.out.put (i := 1) HP.out.kr _) HP.out (by have := HB.out; omega) (by have := HS.out; omega)).mono ?_; rintro e w3 ⟨rfl, a3, k3⟩; have A3 := Lib.hid a3; have P3 := Lib.hid (keeps_bal (P0.out.setCell (p := ⟨k, 1, none⟩) in_k (.int .i64 ((n - 1 : Nat) : Int))) k3 in_k (fun b hb => in_l hb) (fun b hb => in_r hb)); clear a3 k3)
          go_ret
          exact ⟨by rw [hi.out]; rfl, by rw [hi.out]; exact A3.out, P3.out⟩
        · have d3 : decide ((1 : Int) < (n : Int)) = false := decide_eq_false (by omega)
          have hd : del (.nd k l y n r) x = gone l r := (if_neg hlt).trans ((if_neg hgt).trans (if_neg hn1))
          clear hlt hgt hh hn1
          cases l with
          | nil =>
            have hi : Hid (del (.nd k .nil y n r) x = r) := hd
            have ck2 : w.cell? ⟨k, 2, none⟩ = some (.pointer none) := ck2
            clear hp hd
            go_enter Try.func53, Try.ntmps53
            go_wp2
            go_ret
            exact ⟨by rw [hi.out]; rfl, by rw [hi.out]; exact R0.out, P0.out⟩
          | nd a b c d q =>
            have ck2 : w.cell? ⟨k, 2, none⟩ = some (.pointer (some ⟨a, 0, none⟩)) := ck2
            cases r with
            | nil =>
              have hi : Hid (del (.nd k (.nd a b c d q) y n .nil) x = .nd a b c d q) := hd
              have ck3 : w.cell? ⟨k, 3, none⟩ = some (.pointer none) := ck3
              clear hp hd
              go_enter Try.func53, Try.ntmps53
              go_wp2
              go_ret
              exact ⟨by rw [hi.out]; rfl, by rw [hi.out]; exact L0.out, P0.out⟩
            | nd a' b' c' d' q' =>
              have ck3 : w.cell? ⟨k, 3, none⟩ = some (.pointer (some ⟨a', 0, none⟩)) := ck3
              have ih := cut_any (.nd a' b' c' d' q') (nd_ne _ _ _ _ _) R0.out hp.ndr (by have := HB.out; omega) (by have := HS.out; omega)
              have hco := cut_ok (nd_ne a' b' c' d' q') hp.ndr
              obtain ⟨c1, c2, c3, c4, c5, c6⟩ := hco
              have hi : del (.nd k (.nd a b c d q) y n (.nd a' b' c' d' q')) x = bal (cutT (.nd a' b' c' d' q')).2.1 (.nd a b c d q) (cutT (.nd a' b' c' d' q')).2.2.1 (cutT (.nd a' b' c' d' q')).2.2.2 (cutT (.nd a' b' c' d' q')).1 := hd
              generalize cutT (.nd a' b' c' d' q') = T at ih c1 c2 c3 c4 c5 c6 hi
              obtain ⟨rest, fg, fx, fn⟩ := T
              have HI := Lib.hid hi
              have C1 := Lib.hid c1
              have C5 := Lib.hid c5
              have C6 := Lib.hid c6
              have hpp : Hid (Parted fg (.nd a b c d q) rest) := ⟨fun e => hp.lr _ e c1, c2, hp.ndl, c3, fun b hb e => hp.lr b hb (c4 b e)⟩
              have C4 := Lib.hid c4
              have IH : Hid (Calls Try.prog 88 #[.pointer (some ⟨a', 0, none⟩)] w fun e w' => e = .returned (.tuple #[.pointer (ptr rest), .pointer (some ⟨fg, 0, none⟩)]) ∧ At w' rest ∧ (∃ l r a m, KAt w' fg fx fn l r a m) ∧ Keeps (fun b => b ∈ blocks (.nd a' b' c' d' q')) w w') := ih
              clear hp hd ih c1 c2 c3 c4 c5 c6 hi
              go_enter Try.func53, Try.ntmps53
              go_wp2_with (first | (go_at_call 88; refine IH.out.mono ?_; rintro e w2 ⟨rfl, a2, ⟨l2, r2, aa2, m2, f2⟩, k2⟩; have A2 := Lib.hid a2; have F2 := Lib.hid f2; have K2 := Lib.hid (K0.out.kept k2 HP.out.kr); have L2 := Lib.hid (At.kept k2 L0.out (fun b hb e => HP.out.lr b hb e)); have P2 := Lib.hid (P0.out.trans (k2.mono (fun b _ h => in_r h))); have fz2 := F2.out.fz 2; have cz2 := F2.out.c2; have kz2 : w2.cell? ⟨k, 2, none⟩ = some (.pointer (some ⟨a, 0, none⟩)) := K2.out.c2; have fz3 := (F2.out.put2 (some ⟨a, 0, none⟩)).fz 3; have cz3 := (F2.out.put2 (some ⟨a, 0, none⟩)).c3; clear a2 f2 k2 K0 L0 R0) | (go_at_call 87; refine (bal_any ((F2.out.put2 (some ⟨a, 0, none⟩)).put3 (ptr rest)) ((L2.out.put (i := 2) hpp.out.kl _).put (i := 3) hpp.out.kl _) ((A2.out.put (i := 2) hpp.out.kr _).put (i := 3) hpp.out.kr _) hpp.out (by have := HB.out; have := C5.out; omega) (by have := HS.out; have := C6.out; omega)).mono ?_; rintro e w3 ⟨rfl, a3, k3⟩; have A3 := Lib.hid a3; have P3 := Lib.hid (keeps_bal ((P2.out.setCell (p := ⟨fg, 2, none⟩) (in_r C1.out) (.pointer (some ⟨a, 0, none⟩))).setCell (p := ⟨fg, 3, none⟩) (in_r C1.out) (.pointer (ptr rest))) k3 (in_r C1.out) (fun b hb => in_l hb) (fun b hb => in_r (C4.out b hb))); clear a3 k3))
              go_ret
              exact ⟨by rw [HI.out]; rfl, by rw [HI.out]; exact A3.out, P3.out⟩
end Go.Proofs.Ytjhinakfoejpbaa.T

/- What is asked of a tree: how often a thing is there, and the thing at a place. No condition stands open. -/
namespace Go.Proofs.Ytjhinakfoejpbaa.T
open Go.RowKit Go.Proofs.YtjhinakfoejpbaaW.PrintWords Go.Proofs.YtjhinakfoejpbaaW.PrintLast Go.Proofs.YtjhinakfoejpbaaW.PrintMore

/-- block bg is a bag with a tree -/
def BagAt (w : World) (bg : Nat) (t : Tree) : Prop := w.heap[bg]? = some (.cells #[.pointer (ptr t)] 80 (0, 0))
def oftenT : Tree → Int → Nat
  | .nil, _ => 0
  | .nd _ l y n r, x => if x < y then oftenT l x else if y < x then oftenT r x else n
def atT : Tree → Nat → Int
  | .nil, _ => 0
  | .nd _ l y m r, n => if n < tot l then atT l n else if n < tot l + m then y else atT r (n - (tot l + m))
def belowT : Tree → Int → Nat
  | .nil, _ => 0
  | .nd _ l y n r, x => if x ≤ y then belowT l x else tot l + n + belowT r x
def highT : Tree → Nat
  | .nil => 0
  | .nd _ l _ _ r => 1 + max (highT l) (highT r)
theorem ptr_nd (k : Nat) (l : Tree) (y : Int) (n : Nat) (r : Tree) : ptr (.nd k l y n r) = some ⟨k, 0, none⟩ := rfl
set_option maxHeartbeats 4000000 in
set_option maxRecDepth 100000 in
theorem often_any {w : World} {bg : Nat} {t : Tree} (hb : BagAt w bg t) (h : At w t) (x : Int) : Calls Try.prog 56 #[.pointer (some ⟨bg, 0, none⟩), .int .i64 x] w fun e w' => e = .returned (.int .i64 (oftenT t x : Int)) ∧ w = w' := by
  have b0 : w.cell? ⟨bg, 0, none⟩ = some (.pointer (ptr t)) := (blk_cell hb 0).trans rfl
  have H := Lib.hid h
  clear hb h
  go_enter Try.func56, Try.ntmps56
  go_wp2
  go_loopg [5] (siz t) (fun kq v wr => ∃ t', v = .pointer (ptr t') ∧ Hid (At w t') ∧ Hid (oftenT t x = oftenT t' x) ∧ Hid (siz t' ≤ kq) ∧ w = wr)
  case atStart => exact ⟨t, rfl, H, (rfl : oftenT t x = _), Nat.le_refl (siz t), rfl⟩
  case round =>
    clear b0 H
    obtain ⟨t', rfl, hA, hO, hs, rfl⟩ := hrel
    cases t' with
    | nil =>
      show Code.wp _ _ _ _ _
      have e0 : ptr .nil = none := rfl
      go_wp2
      go_ret
      exact ⟨by rw [hO.out]; rfl, rfl⟩
    | nd k l y n r =>
      have e0 := ptr_nd k l y n r
      have ck0 := hA.out.1.c0
      have ck1 := hA.out.1.c1
      have ck2 := hA.out.1.c2
      have ck3 := hA.out.1.c3
      by_cases hlt : x < y
      · have d1 : decide (x < y) = true := decide_eq_true hlt
        have hO2 : Hid (oftenT t x = oftenT l x) := hO.out.trans (if_pos hlt)
        clear hlt
        go_wp2
        go_roundg (siz l)
        case measure => have h := hs.out; simp only [siz] at h; omega
        case rel => exact ⟨l, rfl, hA.out.2.1, hO2, Nat.le_refl (siz l), rfl⟩
      · have d1 : decide (x < y) = false := decide_eq_false hlt
        by_cases hgt : y < x
        · have d2 : decide (y < x) = true := decide_eq_true hgt
          have hO2 : Hid (oftenT t x = oftenT r x) := hO.out.trans ((if_neg hlt).trans (if_pos hgt))
          clear hlt hgt
          go_wp2
          go_roundg (siz r)
          case measure => have h := hs.out; simp only [siz] at h; omega
          case rel => exact ⟨r, rfl, hA.out.2.2, hO2, Nat.le_refl (siz r), rfl⟩
        · have d2 : decide (y < x) = false := decide_eq_false hgt
          have hO2 : Hid (oftenT t x = n) := hO.out.trans ((if_neg hlt).trans (if_neg hgt))
          clear hlt hgt
          go_wp2
          go_ret
          exact ⟨by rw [hO2.out]; rfl, rfl⟩
end Go.Proofs.Ytjhinakfoejpbaa.T

/- The thing at a place of a tree. No condition stands open. -/
namespace Go.Proofs.Ytjhinakfoejpbaa.T
open Go.RowKit Go.Proofs.YtjhinakfoejpbaaW.PrintWords Go.Proofs.YtjhinakfoejpbaaW.PrintLast Go.Proofs.YtjhinakfoejpbaaW.PrintMore

theorem dlt {a b : Nat} (h : a < b) : decide ((a : Int) < (b : Int)) = true := decide_eq_true (by omega)
theorem dge {a b : Nat} (h : ¬ a < b) : decide ((a : Int) < (b : Int)) = false := decide_eq_false (by omega)
theorem dlt2 {a b c : Nat} (h : a < b + c) : decide ((a : Int) < (b : Int) + (c : Int)) = true := decide_eq_true (by omega)
theorem dge2 {a b c : Nat} (h : ¬ a < b + c) : decide ((a : Int) < (b : Int) + (c : Int)) = false := decide_eq_false (by omega)
theorem wadd {a b : Nat} (h : a + b ≤ 1099511627776) : wrap64 ((a : Int) + (b : Int)) = (a : Int) + (b : Int) := by unfold wrap64; omega
theorem wsub {a b c : Nat} (h : ¬ a < b + c) (ha : a ≤ 1099511627776) : wrap64 ((a : Int) - ((b : Int) + (c : Int))) = ((a - (b + c) : Nat) : Int) := by unfold wrap64; omega
set_option maxHeartbeats 4000000 in
set_option maxRecDepth 100000 in
theorem at_any {w : World} {bg : Nat} {t : Tree} (hb : BagAt w bg t) (h : At w t) (n : Nat) (hn : n < tot t) (hm : tot t ≤ 1099511627776) : Calls Try.prog 46 #[.pointer (some ⟨bg, 0, none⟩), .int .i64 (n : Int)] w fun e w' => e = .returned (.int .i64 (atT t n)) ∧ w = w' := by
  have b0 : w.cell? ⟨bg, 0, none⟩ = some (.pointer (ptr t)) := (blk_cell hb 0).trans rfl
  have H := Lib.hid h
  have HN := Lib.hid hn
  have HM := Lib.hid hm
  clear hb h hn hm
  go_enter Try.func46, Try.ntmps46
  go_wp2
  go_loopg [1, 5] (siz t) (fun kq vn v wr => ∃ t' n', vn = .int .i64 ((n' : Nat) : Int) ∧ v = .pointer (ptr t') ∧ Hid (At w t') ∧ Hid (atT t n = atT t' n') ∧ Hid (n' < tot t') ∧ Hid (tot t' ≤ 1099511627776) ∧ Hid (siz t' ≤ kq) ∧ w = wr)
  case atStart => exact ⟨t, n, rfl, rfl, H, (rfl : atT t n = _), HN, HM, Nat.le_refl (siz t), rfl⟩
  case round =>
    clear b0 H HN HM
    obtain ⟨t', n', rfl, rfl, hA, hO, hN, hM, hs, rfl⟩ := hrel
    cases t' with
    | nil => exact absurd hN.out (Nat.not_lt_zero _)
    | nd k l y m r =>
      have e0 := ptr_nd k l y m r
      have ck0 := hA.out.1.c0
      have ck1 := hA.out.1.c1
      have ck2 := hA.out.1.c2
      have ck3 := hA.out.1.c3
      have hL : Hid (tot l + m ≤ 1099511627776) := by have h := hM.out; simp only [tot] at h; show _ ≤ _; omega
      have wa := wadd hL.out
      by_cases h1 : n' < tot l
      · have d1 := dlt h1
        have hO2 : Hid (atT t n = atT l n') := hO.out.trans (if_pos h1)
        have hN2 := Lib.hid h1
        go_wp2_with (go_at_call 83; refine (total_any hA.out.2.1).mono ?_; rintro e w' ⟨rfl, rfl⟩)
        go_roundg (siz l)
        case measure => have h := hs.out; simp only [siz] at h; omega
        case rel => exact ⟨l, n', rfl, rfl, hA.out.2.1, hO2, hN2, Nat.le_trans (Nat.le_add_right _ _) hL.out, Nat.le_refl (siz l), rfl⟩
      · have d1 := dge h1
        by_cases h2 : n' < tot l + m
        · have d2 := dlt2 h2
          have hO2 : Hid (atT t n = y) := hO.out.trans ((if_neg h1).trans (if_pos h2))
          go_wp2_with (go_at_call 83; refine (total_any hA.out.2.1).mono ?_; rintro e w' ⟨rfl, rfl⟩)
          go_ret
          exact ⟨by rw [hO2.out]; rfl, rfl⟩
        · have d2 := dge2 h2
          have hO2 : Hid (atT t n = atT r (n' - (tot l + m))) := hO.out.trans ((if_neg h1).trans (if_neg h2))
          have hN2 : Hid (n' - (tot l + m) < tot r) := by have h := hN.out; simp only [tot] at h; show _ < _; omega
          have hM2 : Hid (tot r ≤ 1099511627776) := by have h := hM.out; simp only [tot] at h; show _ ≤ _; omega
          have ws := wsub h2 (by have h := hN.out; have h2 := hM.out; omega)
          go_wp2_with (go_at_call 83; refine (total_any hA.out.2.1).mono ?_; rintro e w' ⟨rfl, rfl⟩)
          go_roundg (siz r)
          case measure => have h := hs.out; simp only [siz] at h; omega
          case rel => exact ⟨r, n' - (tot l + m), by first | rfl | rw [ws], rfl, hA.out.2.2, hO2, hN2, hM2, Nat.le_refl (siz r), rfl⟩
end Go.Proofs.Ytjhinakfoejpbaa.T

/- How much of a tree is below a thing, and how high a tree is. No condition stands open. -/
namespace Go.Proofs.Ytjhinakfoejpbaa.T
open Go.RowKit Go.Proofs.YtjhinakfoejpbaaW.PrintWords Go.Proofs.YtjhinakfoejpbaaW.PrintLast Go.Proofs.YtjhinakfoejpbaaW.PrintMore

theorem wadd3 {a b c : Nat} (h : c + (a + b) ≤ 1099511627776) : wrap64 ((c : Int) + ((a : Int) + (b : Int))) = (c : Int) + ((a : Int) + (b : Int)) := by unfold wrap64; omega
theorem At.below {w w' : World} {t : Tree} (h : At w t) (hb : Below w.heap.size w w') : At w' t := At.kept (Keeps.of_below (S := fun _ => False) hb) h (fun _ _ h => h)
theorem KAt.below {w w' : World} {g : Nat} {x : Int} {n : Nat} {l r : Option Addr} {a m : Int} (h : KAt w g x n l r a m) (hb : Below w.heap.size w w') : KAt w' g x n l r a m := h.kept (Keeps.of_below (S := fun _ => False) hb) (fun h => h)
set_option maxHeartbeats 4000000 in
set_option maxRecDepth 100000 in
theorem below_any {w : World} {bg : Nat} {t : Tree} (hb : BagAt w bg t) (h : At w t) (x : Int) (hm : tot t ≤ 1099511627776) : Calls Try.prog 55 #[.pointer (some ⟨bg, 0, none⟩), .int .i64 x] w fun e w' => e = .returned (.int .i64 (belowT t x : Int)) ∧ Below w.heap.size w w' := by
  have b0 : w.cell? ⟨bg, 0, none⟩ = some (.pointer (ptr t)) := (blk_cell hb 0).trans rfl
  have H := Lib.hid h
  have HM : Hid (0 + tot t ≤ 1099511627776) := by show _ ≤ _; omega
  clear hb h hm
  go_enter Try.func55, Try.ntmps55
  go_wp2
  go_loopg [5, 6] (siz t) (fun kq vn v wr => ∃ t' c, vn = .int .i64 ((c : Nat) : Int) ∧ v = .pointer (ptr t') ∧ Hid (At wr t') ∧ Hid (belowT t x = c + belowT t' x) ∧ Hid (c + tot t' ≤ 1099511627776) ∧ Hid (siz t' ≤ kq) ∧ Hid (Below w.heap.size w wr))
  case atStart => exact ⟨t, 0, rfl, rfl, H, (Nat.zero_add _).symm, HM, Nat.le_refl (siz t), Below.refl _ _⟩
  case round =>
    clear b0 H HM
    obtain ⟨t', c, rfl, rfl, hA, hO, hM, hs, hB⟩ := hrel
    cases t' with
    | nil =>
      have e0 : ptr .nil = none := rfl
      go_wp2
      go_ret
      exact ⟨by rw [hO.out]; rfl, hB.out⟩
    | nd k l y n r =>
      have e0 := ptr_nd k l y n r
      have ck0 := hA.out.1.c0
      have ck2 := hA.out.1.c2
      have ck3 := hA.out.1.c3
      by_cases hle : x ≤ y
      · have d1 : decide (x ≤ y) = true := decide_eq_true hle
        have hO2 : Hid (belowT t x = c + belowT l x) := hO.out.trans (congrArg (c + ·) (if_pos hle))
        clear hle
        go_wp2
        go_roundg (siz l)
        case measure => have h := hs.out; simp only [siz] at h; omega
        case rel => exact ⟨l, c, rfl, rfl, hA.out.2.1, hO2, by have h := hM.out; simp only [tot] at h; show _ ≤ _; omega, Nat.le_refl (siz l), hB⟩
      · have d1 : decide (x ≤ y) = false := decide_eq_false hle
        have hO2 : Hid (belowT t x = (c + (tot l + n)) + belowT r x) := by rw [hO.out]; show c + belowT (.nd k l y n r) x = _; rw [show belowT (.nd k l y n r) x = tot l + n + belowT r x from if_neg hle]; show _ = _; omega
        clear hle
        have hc : c + (tot l + n) ≤ 1099511627776 := by have h := hM.out; simp only [tot] at h; omega
        have wa1 := wadd (a := tot l) (b := n) (by omega)
        have wa2 := wadd3 hc
        have HC := Lib.hid hc
        clear hc
        go_upto_region 6 with fail
        have K0 : Hid (KAt wr.drew k y n (ptr l) (ptr r) ((n + tot l + tot r : Nat) : Int) ((1 + siz l + siz r : Nat) : Int)) := hA.out.1
        have L0 := Lib.hid hA.out.2.1.drew
        have R0 := Lib.hid hA.out.2.2.drew
        have B0 : Hid (Below w.heap.size w wr.drew) := hB.out.drew
        clear ck0 ck2 ck3
        refine start_ (n := 13) (S := fun w' => w'.cell? ⟨k, 1, none⟩ = some (.int .i64 (n : Int)) ∧ w'.cell? ⟨k, 2, none⟩ = some (.pointer (ptr l))) (ds := []) #[false, false, false, false, false, false, false, false, false, false, false, false, false] (by kernel_rfl) rfl rfl ⟨K0.out.c1, K0.out.c2⟩ (fun hHeld => ?_)
        generalize wr.drew = w1 at K0 L0 R0 B0 hHeld ⊢
        refine pure_ (i := 0) (N := some 23) (v := ?_) (a' := ?_) #[true, false, false, false, false, false, false, false, false, false, false, false, false] rfl rfl (by kernel_rfl) (fun _ _ _ h => h) (Or.inl ⟨by rfl, ?_⟩) ?_ ?_
        rotate_left
        · intro w'
          go_simp
          with_reducible rfl
        rotate_left
        · simp only [Act.put, List.setIfInBounds_toArray, List.set_cons_zero, List.set_cons_succ, i64_w, i32_w]
          rfl
        refine pure_ (i := 1) (N := some 24) (v := ?_) (a' := ?_) #[true, true, false, false, false, false, false, false, false, false, false, false, false] rfl rfl (by kernel_rfl) (fun _ _ _ h => h) (Or.inl ⟨by rfl, ?_⟩) ?_ ?_
        rotate_left
        · intro w'
          go_simp
          with_reducible rfl
        rotate_left
        · simp only [Act.put, List.setIfInBounds_toArray, List.set_cons_zero, List.set_cons_succ, i64_w, i32_w]
          rfl
        refine pure_ (i := 2) (N := some 25) (v := ?_) (a' := ?_) #[true, true, true, false, false, false, false, false, false, false, false, false, false] rfl rfl (by kernel_rfl) (fun _ _ _ h => h) (Or.inl ⟨by rfl, ?_⟩) ?_ ?_
        rotate_left
        · intro w'
          go_simp
          with_reducible rfl
        rotate_left
        · simp only [Act.put, List.setIfInBounds_toArray, List.set_cons_zero, List.set_cons_succ, i64_w, i32_w]
          rfl
        refine pure_ (i := 3) (N := some 26) (v := ?_) (a' := ?_) #[true, true, true, true, false, false, false, false, false, false, false, false, false] rfl rfl (by kernel_rfl) (fun _ _ _ h => h) (Or.inl ⟨by rfl, ?_⟩) ?_ ?_
        rotate_left
        · intro w'
          go_simp
          with_reducible rfl
        rotate_left
        · simp only [Act.put, List.setIfInBounds_toArray, List.set_cons_zero, List.set_cons_succ, i64_w, i32_w]
          rfl
        refine take_ (i := 4) (N := some 27) (v := ?_) (a' := ?_) #[true, true, true, true, true, false, false, false, false, false, false, false, false] rfl rfl (by kernel_rfl) (fun _ _ _ h => h) (Or.inl ⟨by rfl, ?_⟩) hHeld ?_ ?_
        rotate_left
        · rintro w' ⟨s0, s1⟩
          go_simp
          with_reducible rfl
        rotate_left
        · simp only [Act.put, List.setIfInBounds_toArray, List.set_cons_zero, List.set_cons_succ, i64_w, i32_w]
          rfl
        refine pure_ (i := 6) (N := some 29) (v := ?_) (a' := ?_) #[true, true, true, true, true, false, true, false, false, false, false, false, false] rfl rfl (by kernel_rfl) (fun _ _ _ h => h) (Or.inl ⟨by rfl, ?_⟩) ?_ ?_
        rotate_left
        · intro w'
          go_simp
          with_reducible rfl
        rotate_left
        · simp only [Act.put, List.setIfInBounds_toArray, List.set_cons_zero, List.set_cons_succ, i64_w, i32_w]
          rfl
        refine pure_ (i := 7) (N := some 30) (v := ?_) (a' := ?_) #[true, true, true, true, true, false, true, true, false, false, false, false, false] rfl rfl (by kernel_rfl) (fun _ _ _ h => h) (Or.inl ⟨by rfl, ?_⟩) ?_ ?_
        rotate_left
        · intro w'
          go_simp
          with_reducible rfl
        rotate_left
        · simp only [Act.put, List.setIfInBounds_toArray, List.set_cons_zero, List.set_cons_succ, i64_w, i32_w]
          rfl
        refine pure_ (i := 8) (N := some 31) (v := ?_) (a' := ?_) #[true, true, true, true, true, false, true, true, true, false, false, false, false] rfl rfl (by kernel_rfl) (fun _ _ _ h => h) (Or.inl ⟨by rfl, ?_⟩) ?_ ?_
        rotate_left
        · intro w'
          go_simp
          with_reducible rfl
        rotate_left
        · simp only [Act.put, List.setIfInBounds_toArray, List.set_cons_zero, List.set_cons_succ, i64_w, i32_w]
          rfl
        refine take_ (i := 9) (N := some 32) (v := ?_) (a' := ?_) #[true, true, true, true, true, false, true, true, true, true, false, false, false] rfl rfl (by kernel_rfl) (fun _ _ _ h => h) (Or.inl ⟨by rfl, ?_⟩) hHeld ?_ ?_
        rotate_left
        · rintro w' ⟨s0, s1⟩
          go_simp
          with_reducible rfl
        rotate_left
        · simp only [Act.put, List.setIfInBounds_toArray, List.set_cons_zero, List.set_cons_succ, i64_w, i32_w]
          rfl
        refine one_ (i := 5) (N := some 28) #[true, true, true, true, true, true, true, true, true, true, false, false, false] rfl rfl (by kernel_rfl) (by decide) (fun K hK => ?_)
        refine goes_ Try.func83 (by kernel_rfl) rfl #[.pointer (ptr l)] (by rfl) rfl rfl (by (try simp only [List.map_toArray, List.map_cons, List.map_nil]); first | done | rfl) ?_
        refine (total_any L0.out).mono ?_
        rintro e w' ⟨rfl, rfl⟩
        refine ⟨_, rfl, ?_⟩
        refine hK.out _ _ hHeld (fun hHeld => ?_)
        clear hK K
        refine norm_ (a' := ?_) ?_ ?_
        rotate_left
        · show Act.put _ (some 28) _ = _
          simp only [Act.put, List.setIfInBounds_toArray, List.set_cons_zero, List.set_cons_succ, i64_w, i32_w]
          rfl
        refine pure_ (i := 10) (N := some 33) (v := ?_) (a' := ?_) #[true, true, true, true, true, true, true, true, true, true, true, false, false] rfl rfl (by kernel_rfl) (fun _ _ _ h => h) (Or.inl ⟨by rfl, ?_⟩) ?_ ?_
        rotate_left
        · intro w'
          go_simp
          with_reducible rfl
        rotate_left
        · simp only [Act.put, List.setIfInBounds_toArray, List.set_cons_zero, List.set_cons_succ, i64_w, i32_w]
          rfl
        refine pure_ (i := 11) (N := some 34) (v := ?_) (a' := ?_) #[true, true, true, true, true, true, true, true, true, true, true, true, false] rfl rfl (by kernel_rfl) (fun _ _ _ h => h) (Or.inl ⟨by rfl, ?_⟩) ?_ ?_
        rotate_left
        · intro w'
          go_simp
          with_reducible rfl
        rotate_left
        · simp only [Act.put, List.setIfInBounds_toArray, List.set_cons_zero, List.set_cons_succ, i64_w, i32_w]
          rfl
        refine pure_ (i := 12) (N := some 5) (v := ?_) (a' := ?_) #[true, true, true, true, true, true, true, true, true, true, true, true, true] rfl rfl (by kernel_rfl) (fun _ _ _ h => h) (Or.inl ⟨by rfl, ?_⟩) ?_ ?_
        rotate_left
        · intro w'
          go_simp
          with_reducible rfl
        rotate_left
        · simp only [Act.put, List.setIfInBounds_toArray, List.set_cons_zero, List.set_cons_succ, i64_w, i32_w]
          rfl
        refine done_ (by kernel_rfl) ?_
        have ck3 := K0.out.c3
        go_wp2
        go_roundg (siz r)
        case measure => have h := hs.out; simp only [siz] at h; omega
        case rel => exact ⟨r, c + (tot l + n), by first | rfl | (rw [wa1, wa2]; rfl), rfl, R0, hO2, by have h := hM.out; simp only [tot] at h; show _ ≤ _; omega, Nat.le_refl (siz r), B0⟩
theorem high_le : ∀ t : Tree, highT t ≤ siz t
  | .nil => Nat.le_refl _
  | .nd k l y n r => by
    have h1 := high_le l
    have h2 := high_le r
    simp only [highT, siz]
    omega
theorem wmax {a b : Nat} (ha : a ≤ 1099511627776) (hb : b ≤ 1099511627776) : wrap64 (1 + max (a : Int) (b : Int)) = ((1 + max a b : Nat) : Int) := by unfold wrap64; omega
set_option maxHeartbeats 4000000 in
set_option maxRecDepth 100000 in
theorem height_any : ∀ (t : Tree) {w : World}, At w t → siz t ≤ 1099511627776 → Calls Try.prog 57 #[.pointer (ptr t)] w fun e w' => e = .returned (.int .i64 (highT t : Int)) ∧ Below w.heap.size w w'
  | .nil, w, h, hs => by
    show Calls Try.prog 57 #[.pointer none] w _
    go_enter Try.func57, Try.ntmps57
    go_wp2
    go_ret
    exact ⟨rfl, Below.refl _ _⟩
  | .nd k l y n r, w, h, hs => by
    have hs2 : 1 + siz l + siz r ≤ 1099511627776 := hs
    have K0 : Hid (KAt w.drew k y n (ptr l) (ptr r) ((n + tot l + tot r : Nat) : Int) ((1 + siz l + siz r : Nat) : Int)) := h.1
    have L0 := Lib.hid h.2.1.drew
    have R0 := Lib.hid h.2.2.drew
    have B0 : Hid (Below w.heap.size w w.drew) := (Below.refl _ w).drew
    have SL : Hid (siz l ≤ 1099511627776) := by show _ ≤ _; omega
    have SR : Hid (siz r ≤ 1099511627776) := by show _ ≤ _; omega
    have wm := wmax (Nat.le_trans (high_le l) SL.out) (Nat.le_trans (high_le r) SR.out)
    clear h hs hs2
    show Calls Try.prog 57 #[.pointer (some ⟨k, 0, none⟩)] w _
    go_enter Try.func57, Try.ntmps57
    go_upto_region 3 with fail
    refine start_ (n := 13) (S := fun w' => w'.cell? ⟨k, 2, none⟩ = some (.pointer (ptr l)) ∧ w'.cell? ⟨k, 3, none⟩ = some (.pointer (ptr r))) (ds := []) #[false, false, false, false, false, false, false, false, false, false, false, false, false] (by kernel_rfl) rfl rfl ⟨K0.out.c2, K0.out.c3⟩ (fun hHeld => ?_)
    generalize w.drew = w1 at K0 L0 R0 B0 hHeld ⊢
    refine pure_ (i := 0) (N := some 5) (v := ?_) (a' := ?_) #[true, false, false, false, false, false, false, false, false, false, false, false, false] rfl rfl (by kernel_rfl) (fun _ _ _ h => h) (Or.inl ⟨by rfl, ?_⟩) ?_ ?_
    rotate_left
    · intro w'
      go_simp
      with_reducible rfl
    rotate_left
    · simp only [Act.put, List.setIfInBounds_toArray, List.set_cons_zero, List.set_cons_succ, i64_w, i32_w]
      rfl
    refine pure_ (i := 1) (N := some 6) (v := ?_) (a' := ?_) #[true, true, false, false, false, false, false, false, false, false, false, false, false] rfl rfl (by kernel_rfl) (fun _ _ _ h => h) (Or.inl ⟨by rfl, ?_⟩) ?_ ?_
    rotate_left
    · intro w'
      go_simp
      with_reducible rfl
    rotate_left
    · simp only [Act.put, List.setIfInBounds_toArray, List.set_cons_zero, List.set_cons_succ, i64_w, i32_w]
      rfl
    refine pure_ (i := 2) (N := some 7) (v := ?_) (a' := ?_) #[true, true, true, false, false, false, false, false, false, false, false, false, false] rfl rfl (by kernel_rfl) (fun _ _ _ h => h) (Or.inl ⟨by rfl, ?_⟩) ?_ ?_
    rotate_left
    · intro w'
      go_simp
      with_reducible rfl
    rotate_left
    · simp only [Act.put, List.setIfInBounds_toArray, List.set_cons_zero, List.set_cons_succ, i64_w, i32_w]
      rfl
    refine take_ (i := 3) (N := some 8) (v := ?_) (a' := ?_) #[true, true, true, true, false, false, false, false, false, false, false, false, false] rfl rfl (by kernel_rfl) (fun _ _ _ h => h) (Or.inl ⟨by rfl, ?_⟩) hHeld ?_ ?_
    rotate_left
    · rintro w' ⟨s0, s1⟩
      go_simp
      with_reducible rfl
    rotate_left
    · simp only [Act.put, List.setIfInBounds_toArray, List.set_cons_zero, List.set_cons_succ, i64_w, i32_w]
      rfl
    refine pure_ (i := 5) (N := some 10) (v := ?_) (a' := ?_) #[true, true, true, true, false, true, false, false, false, false, false, false, false] rfl rfl (by kernel_rfl) (fun _ _ _ h => h) (Or.inl ⟨by rfl, ?_⟩) ?_ ?_
    rotate_left
    · intro w'
      go_simp
      with_reducible rfl
    rotate_left
    · simp only [Act.put, List.setIfInBounds_toArray, List.set_cons_zero, List.set_cons_succ, i64_w, i32_w]
      rfl
    refine pure_ (i := 6) (N := some 11) (v := ?_) (a' := ?_) #[true, true, true, true, false, true, true, false, false, false, false, false, false] rfl rfl (by kernel_rfl) (fun _ _ _ h => h) (Or.inl ⟨by rfl, ?_⟩) ?_ ?_
    rotate_left
    · intro w'
      go_simp
      with_reducible rfl
    rotate_left
    · simp only [Act.put, List.setIfInBounds_toArray, List.set_cons_zero, List.set_cons_succ, i64_w, i32_w]
      rfl
    refine pure_ (i := 7) (N := some 12) (v := ?_) (a' := ?_) #[true, true, true, true, false, true, true, true, false, false, false, false, false] rfl rfl (by kernel_rfl) (fun _ _ _ h => h) (Or.inl ⟨by rfl, ?_⟩) ?_ ?_
    rotate_left
    · intro w'
      go_simp
      with_reducible rfl
    rotate_left
    · simp only [Act.put, List.setIfInBounds_toArray, List.set_cons_zero, List.set_cons_succ, i64_w, i32_w]
      rfl
    refine take_ (i := 8) (N := some 13) (v := ?_) (a' := ?_) #[true, true, true, true, false, true, true, true, true, false, false, false, false] rfl rfl (by kernel_rfl) (fun _ _ _ h => h) (Or.inl ⟨by rfl, ?_⟩) hHeld ?_ ?_
    rotate_left
    · rintro w' ⟨s0, s1⟩
      go_simp
      with_reducible rfl
    rotate_left
    · simp only [Act.put, List.setIfInBounds_toArray, List.set_cons_zero, List.set_cons_succ, i64_w, i32_w]
      rfl
    refine one_ (i := 4) (N := some 9) #[true, true, true, true, true, true, true, true, true, false, false, false, false] rfl rfl (by kernel_rfl) (by decide) (fun K hK => ?_)
    refine goes_ Try.func57 (by kernel_rfl) rfl #[.pointer (ptr l)] (by rfl) rfl rfl (by (try simp only [List.map_toArray, List.map_cons, List.map_nil]); first | done | rfl) ?_
    refine (height_any l L0.out SL.out).mono ?_
    rintro e w2 ⟨rfl, hb⟩
    have K2 := Lib.hid (K0.out.below hb)
    have R2 := Lib.hid (R0.out.below hb)
    have B2 := Lib.hid (B0.out.trans (hb.mono B0.out.size))
    clear hb K0 R0
    refine ⟨_, rfl, ?_⟩
    refine hK.out _ _ ⟨K2.out.c2, K2.out.c3⟩ (fun hHeld => ?_)
    clear hK K
    refine norm_ (a' := ?_) ?_ ?_
    rotate_left
    · show Act.put _ (some 9) _ = _
      simp only [Act.put, List.setIfInBounds_toArray, List.set_cons_zero, List.set_cons_succ, i64_w, i32_w]
      rfl
    refine one_ (i := 9) (N := some 14) #[true, true, true, true, true, true, true, true, true, true, false, false, false] rfl rfl (by kernel_rfl) (by decide) (fun K hK => ?_)
    refine goes_ Try.func57 (by kernel_rfl) rfl #[.pointer (ptr r)] (by rfl) rfl rfl (by (try simp only [List.map_toArray, List.map_cons, List.map_nil]); first | done | rfl) ?_
    refine (height_any r R2.out SR.out).mono ?_
    rintro e w3 ⟨rfl, hb⟩
    have K3 := Lib.hid (K2.out.below hb)
    have B3 := Lib.hid (B2.out.trans (hb.mono B2.out.size))
    clear hb K2 R2
    refine ⟨_, rfl, ?_⟩
    refine hK.out _ _ ⟨K3.out.c2, K3.out.c3⟩ (fun hHeld => ?_)
    clear hK K
    refine norm_ (a' := ?_) ?_ ?_
    rotate_left
    · show Act.put _ (some 14) _ = _
      simp only [Act.put, List.setIfInBounds_toArray, List.set_cons_zero, List.set_cons_succ, i64_w, i32_w]
      rfl
    refine pure_ (i := 10) (N := some 15) (v := ?_) (a' := ?_) #[true, true, true, true, true, true, true, true, true, true, true, false, false] rfl rfl (by kernel_rfl) (fun _ _ _ h => h) (Or.inl ⟨by rfl, ?_⟩) ?_ ?_
    rotate_left
    · intro w'
      go_simp
      with_reducible rfl
    rotate_left
    · simp only [Act.put, List.setIfInBounds_toArray, List.set_cons_zero, List.set_cons_succ, i64_w, i32_w]
      rfl
    refine pure_ (i := 11) (N := some 16) (v := ?_) (a' := ?_) #[true, true, true, true, true, true, true, true, true, true, true, true, false] rfl rfl (by kernel_rfl) (fun _ _ _ h => h) (Or.inl ⟨by rfl, ?_⟩) ?_ ?_
    rotate_left
    · intro w'
      go_simp
      with_reducible rfl
    rotate_left
    · simp only [Act.put, List.setIfInBounds_toArray, List.set_cons_zero, List.set_cons_succ, i64_w, i32_w]
      rfl
    refine pure_ (i := 12) (N := some 2) (v := ?_) (a' := ?_) #[true, true, true, true, true, true, true, true, true, true, true, true, true] rfl rfl (by kernel_rfl) (fun _ _ _ h => h) (Or.inl ⟨by rfl, ?_⟩) ?_ ?_
    rotate_left
    · intro w'
      go_simp
      with_reducible rfl
    rotate_left
    · simp only [Act.put, List.setIfInBounds_toArray, List.set_cons_zero, List.set_cons_succ, i64_w, i32_w]
      rfl
    refine done_ (by kernel_rfl) ?_
    go_wp2
    go_ret
    exact ⟨by first | rfl | (rw [wm]; rfl), B3.out⟩
end Go.Proofs.Ytjhinakfoejpbaa.T

/- Trees stay about as great on either side, so that few knots stand one above the other. No program in sight. -/
namespace Go.Proofs.Ytjhinakfoejpbaa.T

def Bal : Tree → Prop
  | .nil => True
  | .nd _ l _ _ r => Bal l ∧ Bal r ∧ siz r + 1 ≤ 3 * (siz l + 1) ∧ siz l + 1 ≤ 3 * (siz r + 1)
theorem rotL_ok {k : Nat} {l : Tree} {x : Int} {n : Nat} {r : Tree} (hl : Bal l) (hr : Bal r) (h1 : 3 * (siz l + 1) < siz r + 1) (h2 : siz r + 1 ≤ 3 * (siz l + 1 + 1)) : Bal (rotL k l x n (fixR r)) := by
  cases r with
  | nil => simp only [siz] at h1; omega
  | nd u ul ux un ur =>
    obtain ⟨bul, bur, b1, b2⟩ := hr
    rw [fixR_nd]
    split
    · rename_i h3
      cases ul with
      | nil => simp only [siz] at h3; omega
      | nd v vl vx vn vr =>
        obtain ⟨bvl, bvr, c1, c2⟩ := bul
        simp only [siz] at h1 h2 b1 b2 h3
        refine ⟨⟨hl, bvl, ?_, ?_⟩, ⟨bvr, bur, ?_, ?_⟩, ?_, ?_⟩ <;> (try simp only [siz]) <;> omega
    · rename_i h3
      simp only [siz] at h1 h2 b1 b2 h3
      refine ⟨⟨hl, bul, ?_, ?_⟩, bur, ?_, ?_⟩ <;> (try simp only [siz]) <;> omega
theorem rotR_ok {k : Nat} {l : Tree} {x : Int} {n : Nat} {r : Tree} (hl : Bal l) (hr : Bal r) (h1 : 3 * (siz r + 1) < siz l + 1) (h2 : siz l + 1 ≤ 3 * (siz r + 1 + 1)) : Bal (rotR k (fixL l) x n r) := by
  cases l with
  | nil => simp only [siz] at h1; omega
  | nd u ul ux un ur =>
    obtain ⟨bul, bur, b1, b2⟩ := hl
    rw [fixL_nd]
    split
    · rename_i h3
      cases ur with
      | nil => simp only [siz] at h3; omega
      | nd v vl vx vn vr =>
        obtain ⟨bvl, bvr, c1, c2⟩ := bur
        simp only [siz] at h1 h2 b1 b2 h3
        refine ⟨⟨bul, bvl, ?_, ?_⟩, ⟨bvr, hr, ?_, ?_⟩, ?_, ?_⟩ <;> (try simp only [siz]) <;> omega
    · rename_i h3
      simp only [siz] at h1 h2 b1 b2 h3
      refine ⟨bul, ⟨bur, hr, ?_, ?_⟩, ?_, ?_⟩ <;> (try simp only [siz]) <;> omega
theorem bal_ok {k : Nat} {l : Tree} {x : Int} {n : Nat} {r : Tree} (hl : Bal l) (hr : Bal r) (h1 : siz r + 1 ≤ 3 * (siz l + 1 + 1)) (h2 : siz l + 1 ≤ 3 * (siz r + 1 + 1)) : Bal (bal k l x n r) := by
  unfold bal
  split
  · exact rotL_ok hl hr (by omega) h1
  · split
    · exact rotR_ok hl hr (by omega) h2
    · exact ⟨hl, hr, by omega, by omega⟩
theorem ins_ok (g : Nat) : ∀ (t : Tree) (x : Int), Bal t → Bal (ins g t x)
  | .nil, x, _ => ⟨trivial, trivial, by simp [siz], by simp [siz]⟩
  | .nd k l y n r, x, h => by
    obtain ⟨bl, br, h1, h2⟩ := h
    unfold ins
    split
    · have := siz_ins g l x
      exact bal_ok (ins_ok g l x bl) br (by omega) (by omega)
    · split
      · have := siz_ins g r x
        exact bal_ok bl (ins_ok g r x br) (by omega) (by omega)
      · exact bal_ok bl br (by omega) (by omega)
theorem cutT_ok : ∀ (t : Tree), t ≠ .nil → Bal t → Bal (cutT t).1
  | .nil, h, _ => absurd rfl h
  | .nd k .nil x n r, _, h => h.2.1
  | .nd k (.nd a b c d e) x n r, _, h => by
    obtain ⟨bl, br, h1, h2⟩ := h
    have ih := cutT_ok (.nd a b c d e) (by simp) bl
    have hs := siz_cut (.nd a b c d e) (by simp)
    show Bal (bal k (cutT (.nd a b c d e)).1 x n r)
    exact bal_ok ih br (by omega) (by omega)
theorem siz_gone : ∀ (l r : Tree), siz (gone l r) = siz l + siz r
  | .nil, r => by simp [gone, siz]
  | .nd a b c d e, .nil => rfl
  | .nd a b c d e, .nd a' b' c' d' e' => by
    show siz (bal (cutT (.nd a' b' c' d' e')).2.1 (.nd a b c d e) (cutT (.nd a' b' c' d' e')).2.2.1 (cutT (.nd a' b' c' d' e')).2.2.2 (cutT (.nd a' b' c' d' e')).1) = _
    have hs := siz_cut (.nd a' b' c' d' e') (by simp)
    rw [siz_bal]
    omega
theorem siz_del : ∀ (t : Tree) (x : Int), siz (del t x) ≤ siz t ∧ siz t ≤ siz (del t x) + 1
  | .nil, x => ⟨Nat.le_refl _, Nat.le_succ _⟩
  | .nd k l y n r, x => by
    unfold del
    split
    · have := siz_del l x
      rw [siz_bal, siz]; omega
    · split
      · have := siz_del r x
        rw [siz_bal, siz]; omega
      · split
        · rw [siz_bal, siz]; omega
        · rw [siz_gone, siz]; omega
theorem del_ok : ∀ (t : Tree) (x : Int), Bal t → Bal (del t x)
  | .nil, x, _ => trivial
  | .nd k l y n r, x, h => by
    obtain ⟨bl, br, h1, h2⟩ := h
    unfold del
    split
    · have := siz_del l x
      exact bal_ok (del_ok l x bl) br (by omega) (by omega)
    · split
      · have := siz_del r x
        exact bal_ok bl (del_ok r x br) (by omega) (by omega)
      · split
        · exact bal_ok bl br (by omega) (by omega)
        · cases l with
          | nil => exact br
          | nd a b c d e =>
            cases r with
            | nil => exact bl
            | nd a' b' c' d' e' =>
              have hs := siz_cut (.nd a' b' c' d' e') (by simp)
              exact bal_ok bl (cutT_ok (.nd a' b' c' d' e') (by simp) br) (by omega) (by omega)
theorem high_pow : ∀ (t : Tree), Bal t → 4 ^ highT t ≤ 3 ^ highT t * (siz t + 1)
  | .nil, _ => Nat.le_refl _
  | .nd k l y n r, h => by
    obtain ⟨bl, br, h1, h2⟩ := h
    have i1 := high_pow l bl
    have i2 := high_pow r br
    have step : ∀ (h s o : Nat), 4 ^ h ≤ 3 ^ h * (s + 1) → s + 1 ≤ 3 * (o + 1) → 4 ^ (1 + h) ≤ 3 ^ (1 + h) * (1 + s + o + 1) := by
      intro h s o e1 e2
      rw [Nat.add_comm 1 h, Nat.pow_succ, Nat.pow_succ]
      have e3 : 3 ^ h * (s + 1) * 4 ≤ 3 ^ h * 3 * (1 + s + o + 1) := by
        rw [Nat.mul_assoc, Nat.mul_assoc]
        exact Nat.mul_le_mul_left _ (by omega)
      exact Nat.le_trans (Nat.mul_le_mul_right 4 e1) e3
    simp only [highT, siz]
    rcases Nat.le_total (highT l) (highT r) with e | e
    · rw [Nat.max_eq_right e]
      have := step (highT r) (siz r) (siz l) i2 h1
      have e2 : 1 + siz r + siz l + 1 = 1 + siz l + siz r + 1 := by omega
      rwa [e2] at this
    · rw [Nat.max_eq_left e]
      exact step (highT l) (siz l) (siz r) i1 h2
/-- if the knots are fewer than 2^b, at most 3b + 2 of them stand one above the other -/
theorem high_bits {t : Tree} (h : Bal t) (b : Nat) (hb : siz t + 1 ≤ 2 ^ b) : highT t ≤ 3 * b + 2 := by
  rcases Nat.lt_or_ge (3 * b + 2) (highT t) with h1 | h1
  · exfalso
    have hp := Nat.le_trans (high_pow t h) (Nat.mul_le_mul_left _ hb)
    -- 4^H ≤ 3^H * 2^b with H ≥ 3b + 3
    have key : ∀ d, 3 ^ (3 * b + 3 + d) * 2 ^ b < 4 ^ (3 * b + 3 + d) := by
      intro d
      induction d with
      | zero =>
        have base : ∀ c : Nat, 3 ^ (3 * c + 3) * 2 ^ c < 4 ^ (3 * c + 3) := by
          intro c
          induction c with
          | zero => decide
          | succ c ih =>
            have e1 : 3 ^ (3 * (c + 1) + 3) * 2 ^ (c + 1) = 3 ^ (3 * c + 3) * 2 ^ c * 54 := by
              rw [show 3 * (c + 1) + 3 = 3 * c + 3 + 3 by omega, Nat.pow_add 3 (3 * c + 3) 3, Nat.pow_succ 2 c]
              rw [show (3 : Nat) ^ 3 = 27 from rfl]
              generalize 3 ^ (3 * c + 3) = p
              generalize 2 ^ c = q
              calc p * 27 * (q * 2) = p * q * (27 * 2) := by ac_rfl
                _ = p * q * 54 := rfl
            have e2 : 4 ^ (3 * (c + 1) + 3) = 4 ^ (3 * c + 3) * 64 := by
              rw [show 3 * (c + 1) + 3 = 3 * c + 3 + 3 by omega, Nat.pow_add 4 (3 * c + 3) 3]
            rw [e1, e2]
            omega
        exact base b
      | succ d ih =>
        rw [show 3 * b + 3 + (d + 1) = 3 * b + 3 + d + 1 by omega, Nat.pow_succ, Nat.pow_succ]
        have e1 : 3 ^ (3 * b + 3 + d) * 3 * 2 ^ b = 3 ^ (3 * b + 3 + d) * 2 ^ b * 3 := by ac_rfl
        rw [e1]
        omega
    obtain ⟨d, hd⟩ : ∃ d, highT t = 3 * b + 3 + d := ⟨highT t - (3 * b + 3), by omega⟩
    have := key d
    rw [hd] at hp
    omega
  · exact h1
end Go.Proofs.Ytjhinakfoejpbaa.T

/- The things of a tree in their row: what is put in, taken out, asked. No program in sight. -/
namespace Go.Proofs.Ytjhinakfoejpbaa.T

def keys : Tree → List Int
  | .nil => []
  | .nd _ l y _ r => keys l ++ y :: keys r
def row : Tree → List Int
  | .nil => []
  | .nd _ l y n r => row l ++ (List.replicate n y ++ row r)
def Pos : Tree → Prop
  | .nil => True
  | .nd _ l _ n r => Pos l ∧ Pos r ∧ 1 ≤ n
def Srt (t : Tree) : Prop := (keys t).Pairwise (· < ·)
theorem srt_nd {k : Nat} {l : Tree} {y : Int} {n : Nat} {r : Tree} : Srt (.nd k l y n r) ↔ Srt l ∧ Srt r ∧ (∀ a ∈ keys l, a < y) ∧ (∀ b ∈ keys r, y < b) := by
  unfold Srt
  rw [keys, List.pairwise_append, List.pairwise_cons]
  constructor
  · rintro ⟨h1, ⟨h2, h3⟩, h4⟩
    exact ⟨h1, h3, fun a ha => h4 a ha y (List.mem_cons_self ..), h2⟩
  · rintro ⟨h1, h2, h3, h4⟩
    refine ⟨h1, ⟨h4, h2⟩, fun a ha b hb => ?_⟩
    rcases List.mem_cons.1 hb with rfl | hb
    · exact h3 a ha
    · have := h3 a ha
      have := h4 b hb
      omega
theorem keys_rotL (k : Nat) (l : Tree) (x : Int) (n : Nat) (r : Tree) : keys (rotL k l x n r) = keys l ++ x :: keys r := by
  cases r <;> simp [rotL, keys]
theorem keys_rotR (k : Nat) (l : Tree) (x : Int) (n : Nat) (r : Tree) : keys (rotR k l x n r) = keys l ++ x :: keys r := by
  cases l <;> simp [rotR, keys]
theorem keys_fixR (t : Tree) : keys (fixR t) = keys t := by
  cases t with
  | nil => rfl
  | nd u ul ux un ur =>
    rw [fixR_nd]
    split
    · rw [keys_rotR]; rfl
    · rfl
theorem keys_fixL (t : Tree) : keys (fixL t) = keys t := by
  cases t with
  | nil => rfl
  | nd u ul ux un ur =>
    rw [fixL_nd]
    split
    · rw [keys_rotL]; rfl
    · rfl
theorem keys_bal (k : Nat) (l : Tree) (x : Int) (n : Nat) (r : Tree) : keys (bal k l x n r) = keys l ++ x :: keys r := by
  unfold bal
  split
  · rw [keys_rotL, keys_fixR]
  · split
    · rw [keys_rotR, keys_fixL]
    · rfl
theorem row_rotL (k : Nat) (l : Tree) (x : Int) (n : Nat) (r : Tree) : row (rotL k l x n r) = row l ++ (List.replicate n x ++ row r) := by
  cases r <;> simp [rotL, row]
theorem row_rotR (k : Nat) (l : Tree) (x : Int) (n : Nat) (r : Tree) : row (rotR k l x n r) = row l ++ (List.replicate n x ++ row r) := by
  cases l <;> simp [rotR, row]
theorem row_fixR (t : Tree) : row (fixR t) = row t := by
  cases t with
  | nil => rfl
  | nd u ul ux un ur =>
    rw [fixR_nd]
    split
    · rw [row_rotR]; rfl
    · rfl
theorem row_fixL (t : Tree) : row (fixL t) = row t := by
  cases t with
  | nil => rfl
  | nd u ul ux un ur =>
    rw [fixL_nd]
    split
    · rw [row_rotL]; rfl
    · rfl
theorem row_bal (k : Nat) (l : Tree) (x : Int) (n : Nat) (r : Tree) : row (bal k l x n r) = row l ++ (List.replicate n x ++ row r) := by
  unfold bal
  split
  · rw [row_rotL, row_fixR]
  · split
    · rw [row_rotR, row_fixL]
    · rfl
theorem pos_rotL {k : Nat} {l : Tree} {x : Int} {n : Nat} {r : Tree} (hl : Pos l) (hr : Pos r) (hn : 1 ≤ n) : Pos (rotL k l x n r) := by
  cases r with
  | nil => exact ⟨hl, trivial, hn⟩
  | nd u ul ux un ur => exact ⟨⟨hl, hr.1, hn⟩, hr.2.1, hr.2.2⟩
theorem pos_rotR {k : Nat} {l : Tree} {x : Int} {n : Nat} {r : Tree} (hl : Pos l) (hr : Pos r) (hn : 1 ≤ n) : Pos (rotR k l x n r) := by
  cases l with
  | nil => exact ⟨trivial, hr, hn⟩
  | nd u ul ux un ur => exact ⟨hl.1, ⟨hl.2.1, hr, hn⟩, hl.2.2⟩
theorem pos_fixR {t : Tree} (h : Pos t) : Pos (fixR t) := by
  cases t with
  | nil => trivial
  | nd u ul ux un ur =>
    rw [fixR_nd]
    split
    · exact pos_rotR h.1 h.2.1 h.2.2
    · exact h
theorem pos_fixL {t : Tree} (h : Pos t) : Pos (fixL t) := by
  cases t with
  | nil => trivial
  | nd u ul ux un ur =>
    rw [fixL_nd]
    split
    · exact pos_rotL h.1 h.2.1 h.2.2
    · exact h
theorem pos_bal {k : Nat} {l : Tree} {x : Int} {n : Nat} {r : Tree} (hl : Pos l) (hr : Pos r) (hn : 1 ≤ n) : Pos (bal k l x n r) := by
  unfold bal
  split
  · exact pos_rotL hl (pos_fixR hr) hn
  · split
    · exact pos_rotR (pos_fixL hl) hr hn
    · exact ⟨hl, hr, hn⟩
theorem srt_bal {k : Nat} {l : Tree} {y : Int} {n : Nat} {r : Tree} : Srt (bal k l y n r) ↔ Srt l ∧ Srt r ∧ (∀ a ∈ keys l, a < y) ∧ (∀ b ∈ keys r, y < b) := by
  unfold Srt
  rw [keys_bal]
  exact srt_nd (k := k) (n := n)
theorem mem_keys_ins {g : Nat} : ∀ {t : Tree} {x z : Int}, z ∈ keys (ins g t x) ↔ z = x ∨ z ∈ keys t
  | .nil, x, z => by simp [ins, keys]
  | .nd k l y n r, x, z => by
    unfold ins
    split
    · simp only [keys_bal, keys, List.mem_append, List.mem_cons, mem_keys_ins, or_assoc]
    · split
      · simp only [keys_bal, keys, List.mem_append, List.mem_cons, mem_keys_ins]
        constructor <;> (rintro (h | h | h | h) <;> simp [h])
      · have : x = y := by omega
        simp only [keys_bal, keys, List.mem_append, List.mem_cons, this]
        constructor
        · rintro (h | h | h) <;> simp [h]
        · rintro (h | h | h | h) <;> simp [h]
theorem srt_ins {g : Nat} : ∀ {t : Tree} {x : Int}, Srt t → Srt (ins g t x)
  | .nil, x, _ => by simp [Srt, ins, keys]
  | .nd k l y n r, x, h => by
    obtain ⟨h1, h2, h3, h4⟩ := srt_nd.1 h
    unfold ins
    split
    · rename_i e
      refine srt_bal.2 ⟨srt_ins h1, h2, fun a ha => ?_, h4⟩
      rcases mem_keys_ins.1 ha with rfl | ha
      · exact e
      · exact h3 a ha
    · split
      · rename_i e
        refine srt_bal.2 ⟨h1, srt_ins h2, h3, fun a ha => ?_⟩
        rcases mem_keys_ins.1 ha with rfl | ha
        · exact e
        · exact h4 a ha
      · exact srt_bal.2 ⟨h1, h2, h3, h4⟩
theorem pos_ins {g : Nat} : ∀ {t : Tree} {x : Int}, Pos t → Pos (ins g t x)
  | .nil, x, _ => ⟨trivial, trivial, Nat.le_refl _⟩
  | .nd k l y n r, x, h => by
    unfold ins
    split
    · exact pos_bal (pos_ins h.1) h.2.1 h.2.2
    · split
      · exact pos_bal h.1 (pos_ins h.2.1) h.2.2
      · exact pos_bal h.1 h.2.1 (by omega)
theorem row_ins {g : Nat} : ∀ {t : Tree} {x : Int}, (row (ins g t x)).Perm (x :: row t)
  | .nil, x => List.Perm.refl _
  | .nd k l y n r, x => by
    unfold ins
    split
    · rw [row_bal]
      exact (List.Perm.append_right _ row_ins)
    · split
      · rw [row_bal]
        refine (List.Perm.append_left _ (List.Perm.append_left _ row_ins)).trans ?_
        show (row l ++ (List.replicate n y ++ (x :: row r))).Perm (x :: (row l ++ (List.replicate n y ++ row r)))
        rw [← List.append_assoc, ← List.append_assoc]
        exact List.perm_middle
      · have : x = y := by omega
        subst this
        rw [row_bal, List.replicate_succ]
        exact List.perm_middle
theorem row_length : ∀ t : Tree, (row t).length = tot t
  | .nil => rfl
  | .nd k l y n r => by
    rw [row, List.length_append, List.length_append, List.length_replicate, row_length l, row_length r, tot]
    omega
theorem mem_row : ∀ {t : Tree} {x : Int}, x ∈ row t → x ∈ keys t
  | .nil, x, h => h
  | .nd k l y n r, x, h => by
    rw [row, List.mem_append, List.mem_append] at h
    rw [keys, List.mem_append, List.mem_cons]
    rcases h with h | h | h
    · exact .inl (mem_row h)
    · exact .inr (.inl (List.eq_of_mem_replicate h))
    · exact .inr (.inr (mem_row h))
theorem row_sorted : ∀ {t : Tree}, Srt t → (row t).Pairwise (· ≤ ·)
  | .nil, _ => List.Pairwise.nil
  | .nd k l y n r, h => by
    obtain ⟨h1, h2, h3, h4⟩ := srt_nd.1 h
    rw [row, List.pairwise_append, List.pairwise_append]
    refine ⟨row_sorted h1, ⟨?_, row_sorted h2, ?_⟩, ?_⟩
    · rw [List.pairwise_replicate]
      exact .inr (Int.le_refl _)
    · intro a ha b hb
      obtain rfl := List.eq_of_mem_replicate ha
      exact Int.le_of_lt (h4 b (mem_row hb))
    · intro a ha b hb
      have e := h3 a (mem_row ha)
      rcases List.mem_append.1 hb with hb | hb
      · obtain rfl := List.eq_of_mem_replicate hb
        exact Int.le_of_lt e
      · have := h4 b (mem_row hb)
        omega
theorem at_row : ∀ (t : Tree) (n : Nat), n < tot t → (row t)[n]? = some (atT t n)
  | .nil, n, h => absurd h (Nat.not_lt_zero _)
  | .nd k l y m r, n, h => by
    rw [row, atT]
    simp only [tot] at h
    by_cases h1 : n < tot l
    · rw [if_pos h1, List.getElem?_append_left (by rw [row_length]; exact h1)]
      exact at_row l n h1
    · rw [if_neg h1, List.getElem?_append_right (by rw [row_length]; omega), row_length]
      by_cases h2 : n < tot l + m
      · rw [if_pos h2, List.getElem?_append_left (by rw [List.length_replicate]; omega), List.getElem?_replicate, if_pos (by omega)]
      · rw [if_neg h2, List.getElem?_append_right (by rw [List.length_replicate]; omega), List.length_replicate]
        rw [show n - tot l - m = n - (tot l + m) by omega]
        exact at_row r _ (by omega)
theorem count_zero_of {l : List Int} {x : Int} (h : ∀ a ∈ l, a ≠ x) : l.count x = 0 := List.count_eq_zero.2 (fun e => h x e rfl)
theorem often_row : ∀ {t : Tree} (x : Int), Srt t → oftenT t x = (row t).count x
  | .nil, x, _ => rfl
  | .nd k l y n r, x, h => by
    obtain ⟨h1, h2, h3, h4⟩ := srt_nd.1 h
    rw [oftenT, row, List.count_append, List.count_append, List.count_replicate]
    by_cases e1 : x < y
    · rw [if_pos e1, often_row x h1, count_zero_of (l := row r) (fun a ha => by have := h4 a (mem_row ha); omega), if_neg (by simp; omega)]
      omega
    · rw [if_neg e1]
      by_cases e2 : y < x
      · rw [if_pos e2, often_row x h2, count_zero_of (l := row l) (fun a ha => by have := h3 a (mem_row ha); omega), if_neg (by simp; omega)]
        omega
      · rw [if_neg e2, count_zero_of (l := row l) (fun a ha => by have := h3 a (mem_row ha); omega), count_zero_of (l := row r) (fun a ha => by have := h4 a (mem_row ha); omega), if_pos (by simp; omega)]
        omega
theorem below_row : ∀ {t : Tree} (x : Int), Srt t → belowT t x = (row t).countP (fun a => decide (a < x))
  | .nil, x, _ => rfl
  | .nd k l y n r, x, h => by
    obtain ⟨h1, h2, h3, h4⟩ := srt_nd.1 h
    rw [belowT, row, List.countP_append, List.countP_append]
    by_cases e1 : x ≤ y
    · rw [if_pos e1, below_row x h1]
      have z1 : (List.replicate n y).countP (fun a => decide (a < x)) = 0 := List.countP_eq_zero.2 (fun a ha => by obtain rfl := List.eq_of_mem_replicate ha; simpa using e1)
      have z2 : (row r).countP (fun a => decide (a < x)) = 0 := List.countP_eq_zero.2 (fun a ha => by have := h4 a (mem_row ha); simp; omega)
      omega
    · rw [if_neg e1, below_row x h2]
      have z1 : (List.replicate n y).countP (fun a => decide (a < x)) = n := by
        rw [List.countP_eq_length.2 (fun a ha => by obtain rfl := List.eq_of_mem_replicate ha; simp; omega), List.length_replicate]
      have z2 : (row l).countP (fun a => decide (a < x)) = tot l := by
        rw [List.countP_eq_length.2 (fun a ha => by have := h3 a (mem_row ha); simp; omega), row_length]
      omega
end Go.Proofs.Ytjhinakfoejpbaa.T

/- What is left of a tree's row when a thing is taken out. No program in sight. -/
namespace Go.Proofs.Ytjhinakfoejpbaa.T

theorem has_of_often : ∀ {t : Tree} {x : Int}, oftenT t x ≠ 0 → has t x
  | .nil, x, h => absurd rfl h
  | .nd k l y n r, x, h => by
    unfold oftenT at h
    unfold has
    split
    · rename_i e
      rw [if_pos e] at h
      exact has_of_often h
    · rename_i e
      rw [if_neg e] at h
      split
      · rename_i e2
        rw [if_pos e2] at h
        exact has_of_often h
      · trivial
theorem keys_cut : ∀ (t : Tree), t ≠ .nil → keys t = (cutT t).2.2.1 :: keys (cutT t).1
  | .nil, h => absurd rfl h
  | .nd k .nil x n r, _ => rfl
  | .nd k (.nd a b c d e) x n r, _ => by
    have ih := keys_cut (.nd a b c d e) (by simp)
    show keys (.nd a b c d e) ++ x :: keys r = (cutT (.nd a b c d e)).2.2.1 :: keys (bal k (cutT (.nd a b c d e)).1 x n r)
    rw [keys_bal, ih]
    rfl
theorem row_cut : ∀ (t : Tree), t ≠ .nil → row t = List.replicate (cutT t).2.2.2 (cutT t).2.2.1 ++ row (cutT t).1
  | .nil, h => absurd rfl h
  | .nd k .nil x n r, _ => rfl
  | .nd k (.nd a b c d e) x n r, _ => by
    have ih := row_cut (.nd a b c d e) (by simp)
    show row (.nd a b c d e) ++ (List.replicate n x ++ row r) = List.replicate (cutT (.nd a b c d e)).2.2.2 (cutT (.nd a b c d e)).2.2.1 ++ row (bal k (cutT (.nd a b c d e)).1 x n r)
    rw [row_bal, ih, List.append_assoc]
theorem pos_cut : ∀ (t : Tree), t ≠ .nil → Pos t → Pos (cutT t).1 ∧ 1 ≤ (cutT t).2.2.2
  | .nil, h, _ => absurd rfl h
  | .nd k .nil x n r, _, h => ⟨h.2.1, h.2.2⟩
  | .nd k (.nd a b c d e) x n r, _, h => by
    have ih := pos_cut (.nd a b c d e) (by simp) h.1
    exact ⟨pos_bal ih.1 h.2.1 h.2.2, ih.2⟩
theorem keys_gone : ∀ (l r : Tree), keys (gone l r) = keys l ++ keys r
  | .nil, r => by simp [gone, keys]
  | .nd a b c d e, .nil => by simp [gone, keys]
  | .nd a b c d e, .nd a' b' c' d' e' => by
    show keys (bal (cutT (.nd a' b' c' d' e')).2.1 (.nd a b c d e) (cutT (.nd a' b' c' d' e')).2.2.1 (cutT (.nd a' b' c' d' e')).2.2.2 (cutT (.nd a' b' c' d' e')).1) = _
    rw [keys_bal, ← keys_cut _ (by simp)]
theorem row_gone : ∀ (l r : Tree), row (gone l r) = row l ++ row r
  | .nil, r => by simp [gone, row]
  | .nd a b c d e, .nil => by simp [gone, row]
  | .nd a b c d e, .nd a' b' c' d' e' => by
    show row (bal (cutT (.nd a' b' c' d' e')).2.1 (.nd a b c d e) (cutT (.nd a' b' c' d' e')).2.2.1 (cutT (.nd a' b' c' d' e')).2.2.2 (cutT (.nd a' b' c' d' e')).1) = _
    rw [row_bal, ← row_cut _ (by simp)]
theorem pos_gone : ∀ {l r : Tree}, Pos l → Pos r → Pos (gone l r)
  | .nil, r, _, h => by cases r <;> exact h
  | .nd a b c d e, .nil, h, _ => h
  | .nd a b c d e, .nd a' b' c' d' e', hl, hr => by
    have h := pos_cut (.nd a' b' c' d' e') (by simp) hr
    exact pos_bal hl h.1 h.2
theorem mem_keys_del : ∀ {t : Tree} {x z : Int}, z ∈ keys (del t x) → z ∈ keys t
  | .nil, x, z, h => h
  | .nd k l y n r, x, z, h => by
    unfold del at h
    rw [keys, List.mem_append, List.mem_cons]
    split at h
    · rw [keys_bal, List.mem_append, List.mem_cons] at h
      exact h.elim (fun h => .inl (mem_keys_del h)) .inr
    · split at h
      · rw [keys_bal, List.mem_append, List.mem_cons] at h
        exact h.elim .inl (fun h => .inr (h.elim .inl (fun h => .inr (mem_keys_del h))))
      · split at h
        · rw [keys_bal, List.mem_append, List.mem_cons] at h
          exact h
        · rw [keys_gone, List.mem_append] at h
          exact h.elim .inl (fun h => .inr (.inr h))
theorem srt_del : ∀ {t : Tree} {x : Int}, Srt t → Srt (del t x)
  | .nil, x, h => h
  | .nd k l y n r, x, h => by
    obtain ⟨h1, h2, h3, h4⟩ := srt_nd.1 h
    unfold del
    split
    · exact srt_bal.2 ⟨srt_del h1, h2, fun a ha => h3 a (mem_keys_del ha), h4⟩
    · split
      · exact srt_bal.2 ⟨h1, srt_del h2, h3, fun a ha => h4 a (mem_keys_del ha)⟩
      · split
        · exact srt_bal.2 ⟨h1, h2, h3, h4⟩
        · unfold Srt
          rw [keys_gone, List.pairwise_append]
          exact ⟨h1, h2, fun a ha b hb => by have := h3 a ha; have := h4 b hb; omega⟩
theorem pos_del : ∀ {t : Tree} {x : Int}, Pos t → Pos (del t x)
  | .nil, x, h => h
  | .nd k l y n r, x, h => by
    unfold del
    split
    · exact pos_bal (pos_del h.1) h.2.1 h.2.2
    · split
      · exact pos_bal h.1 (pos_del h.2.1) h.2.2
      · split
        · exact pos_bal h.1 h.2.1 (by omega)
        · exact pos_gone h.1 h.2.1
theorem row_del : ∀ {t : Tree} {x : Int}, has t x → Pos t → (x :: row (del t x)).Perm (row t)
  | .nil, x, h, _ => h.elim
  | .nd k l y n r, x, h, hp => by
    obtain ⟨p1, p2, p3⟩ := hp
    unfold has at h
    unfold del
    split
    · rename_i e
      rw [if_pos e] at h
      rw [row_bal]
      exact List.Perm.append_right _ (row_del h p1)
    · rename_i e
      rw [if_neg e] at h
      split
      · rename_i e2
        rw [if_pos e2] at h
        rw [row_bal, row, ← List.append_assoc, ← List.append_assoc]
        exact List.perm_middle.symm.trans (List.Perm.append_left _ (row_del h p2))
      · have exy : x = y := by omega
        subst exy
        split
        · rename_i e3
          rw [row_bal, row]
          obtain ⟨m, rfl⟩ : ∃ m, n = m + 1 := ⟨n - 1, by omega⟩
          rw [Nat.add_sub_cancel, List.replicate_succ]
          exact List.perm_middle.symm
        · have : n = 1 := by omega
          subst this
          rw [row_gone, row]
          exact List.perm_middle.symm
end Go.Proofs.Ytjhinakfoejpbaa.T
