import Derived.Test.YtoegeljjfhbpeaaJF
import Derived.Maps.AppendAt
set_option linter.unusedVariables false
set_option linter.unusedSimpArgs false
namespace Go.Proofs.Ytoegeljjfhbpeaa.J
open Go.RowKit Go.Proofs.YtoegeljjfhbpeaaW.PrintWords Go.Proofs.YtoegeljjfhbpeaaW.PrintLast Go.Proofs.YtoegeljjfhbpeaaW.PrintMore Go.Shelf
attribute [local go_sem] Oper.semAt_some

theorem spot {w : World} {a : Addr} {v : Value} (h : w.cell? a = some v) : ∃ b off, a = ⟨b, off, none⟩ := by
  obtain ⟨b, off, s⟩ := a
  cases s with
  | none => exact ⟨b, off, rfl⟩
  | some s =>
    exfalso
    simp [World.cell?] at h
    split at h <;> exact absurd h (by simp)
def scanL (b : List Int) : List (List Int × Nat) := scanG (b.length + 1) 0 0 b
def endOf (l : List (List Int × Nat)) : Nat := match l.getLast? with | none => 0 | some x => x.2
def lineV (x : List Int × Nat) : Value := .string (strOfNums x.1)
def frEnc (x : List Int × Nat) : Array Value := #[.string (strOfNums x.1), .int .i64 (x.2 : Int)]

theorem endOf_snoc (l : List (List Int × Nat)) (x : List Int × Nat) : endOf (l ++ [x]) = x.2 := by unfold endOf; simp
theorem frames_in (m : Nat) (A : Option Addr) (len cap : Nat) (w : World) :
    CallsIn Fence.wide m Try.prog 40 #[.slice A len cap] w fun e w' => e = .returned (.func (.func 47) #[] #[.pointer (some ⟨w.heap.size, 0, none⟩)]) ∧ w' = w.alloc (.cells #[.slice A len cap] 22) := by
  refine callsIn_of_wp Try.func40 rfl trivial ?_ rfl
  simp only [Try.ntmps40, List.size_toArray, List.length_cons, List.length_nil, Nat.reduceAdd, Nat.reduceSub, Array.replicate_succ, Array.replicate_zero, List.push_toArray, List.append_toArray, List.nil_append, List.cons_append]
  gi_wp2
  go_ret
  exact ⟨rfl, rfl⟩
set_option maxRecDepth 100000 in
theorem frames1_short (m : Nat) (l Bs len cap : Nat) (A : Option Addr) (h8 : len < 8) (J : List (List Int × Nat) → World → Prop) (W : World) (hBs : W.cell? ⟨Bs, 0, none⟩ = some (.slice A len cap)) (h0 : J [] W) :
    CallsIn Fence.wide m Try.prog 47 #[.func (.yield l) #[] #[], .pointer (some ⟨Bs, 0, none⟩)] W fun e W' => (∃ v, e = .returned v) ∧ J [] W' := by
  refine callsIn_of_wp Try.func47 rfl trivial ?_ rfl
  simp only [Try.ntmps47, List.size_toArray, List.length_cons, List.length_nil, Nat.reduceAdd, Nat.reduceSub, Array.replicate_succ, Array.replicate_zero, List.push_toArray, List.append_toArray, List.nil_append, List.cons_append]
  gi_wp2
  gi_loopw [3, 4] (fun at_ n wr => n = .int .i64 0 ∧ at_ = .int .i64 0 ∧ wr = W) (fun at_ _ _ => 0)
  case atStart => exact ⟨rfl, rfl, rfl⟩
  case round =>
    obtain ⟨rfl, rfl, rfl⟩ := hrel
    gi_wp2
    go_end0
    exact ⟨⟨_, rfl⟩, h0⟩
theorem frames_stops (m : Nat) (hm : 2 ≤ m) (Bs n₀ len cap : Nat) (A : Option Addr) (b : List Int) (w : World) (hb0 : ∀ x ∈ b, 0 ≤ x ∧ x ≤ 255) (hR : ReadsInt w .u8 A len b) (hlc : len ≤ cap) (hreach : len ≤ 140737488351232) (hn₀ : n₀ ≤ w.heap.size) (hBs : Bs < w.heap.size)
    (hA : ∀ a, A = some a → 0 < len → a.block < n₀) (hc : w.cell? ⟨Bs, 0, none⟩ = some (.slice A len cap)) :
    SeqStopsK Fence.wide m Try.prog 47 #[.pointer (some ⟨Bs, 0, none⟩)] frEnc (KB n₀ Bs) (fun ys => ys = scanL b) (fun pre => pre <+: scanL b) (scanL b).length w := fun l J Jx W hW hJ _ hY h0 => by
  have hc' := (hW.cell (p := ⟨Bs, 0, none⟩) hBs).trans hc
  have hlen := hR.1
  rcases Nat.lt_or_ge len 8 with h8 | h8
  · have hs : scanL b = [] := scanG_none (front_short 0 b 0 (by omega))
    rw [hs]
    exact (frames1_short m l Bs len cap A h8 J W hc' h0).mono fun e W' ⟨he, hj⟩ => ⟨he, .inl ⟨_, rfl, hj⟩⟩
  · obtain ⟨ad, rfl, hcell⟩ := hR.2.2 (by omega)
    have hblk := hA ad rfl (by omega)
    have hc0 := hcell 0 (by omega)
    obtain ⟨bb, off, e⟩ := spot hc0
    obtain ⟨bb', off', s'⟩ := ad
    have : s' = none := by
      cases s' with
      | none => rfl
      | some s => simp [Addr.add] at e
    subst this
    subst hlen
    refine frames1_in m hm l Bs n₀ bb' off' b.length cap b hb0 rfl h8 hreach hlc hblk J Jx (fun s W1 W2 hs hb => hJ s W1 W2 none hs ⟨hb.os, hb.tape, hb.output, hb.size, fun k hk _ => hb.block k hk⟩ (fun r e => by cases e)) hY W (Nat.le_trans hn₀ hW.size) (Nat.lt_of_lt_of_le hBs hW.size) hc' (fun j hj => ?_) h0
    rw [← add_at]
    exact (hW.cell (World.block_lt_of_cell? w _ (hcell j hj))).trans (hcell j hj)

theorem info9 : (Try.prog.info? 9).map (fun i => (i.zero, i.size, i.bytes)) = some (some (.string ByteArray.empty), 1, 16) := by kernel_rfl
theorem scanG_len : ∀ (k n a : Nat) (b : List Int), a ≤ b.length → 8 * (scanG k n a b).length + a ≤ b.length
  | 0, _, a, b, h => by simpa [scanG] using h
  | k + 1, n, a, b, h => by
    cases hf : front n (b.drop a) with
    | none => rw [scanG_none hf]; simpa using h
    | some s =>
      rw [scanG_some hf]
      have hb : a + 8 + s.length ≤ b.length := by
        unfold front at hf
        split at hf
        · split at hf
          · split at hf
            · injection hf with hf
              rename_i h1 h2 h3
              subst hf
              rw [List.length_take, List.length_drop, List.length_drop]
              rw [List.length_drop] at h1 h2
              omega
            · cases hf
          · cases hf
        · cases hf
      have := scanG_len k (n + 1) (a + 8 + s.length) b hb
      rw [List.length_cons]
      omega
theorem scanL_len (b : List Int) : 8 * (scanL b).length ≤ b.length := by
  have := scanG_len (b.length + 1) 0 0 b (Nat.zero_le _)
  unfold scanL
  omega
set_option maxRecDepth 100000 in
set_option maxHeartbeats 2000000 in
theorem scan_any (A : Option Addr) (len cap : Nat) (b : List Int) (w : World) (hb0 : ∀ x ∈ b, 0 ≤ x ∧ x ≤ 255) (hR : ReadsInt w .u8 A len b) (hlc : len ≤ cap) (hreach : len ≤ 70368744177664) :
    Calls Try.prog 15 #[.slice A len cap] w fun e w' => ∃ v, e = .returned (.tuple #[v, .int .i64 (endOf (scanL b) : Int)]) ∧ w'.ownsRow w.heap.size 9 1 v (scanL b).length ((scanL b).map lineV) ∧ Below w.heap.size w w' := by
  obtain ⟨i0, hi, hz0, hz1, hz2⟩ := info_parts info9
  have HR := Lib.hid hR
  have H0 := Lib.hid hb0
  clear hR hb0
  refine (callsIn_wide (n := 6)).1 ?_
  refine callsIn_of_wp_marks Try.func15 rfl trivial ?_ rfl
  simp only [Try.ntmps15, List.size_toArray, List.length_cons, List.length_nil, Nat.reduceAdd, Nat.reduceSub, Array.replicate_succ, Array.replicate_zero, List.push_toArray, List.append_toArray, List.nil_append, List.cons_append]
  gi_wp2_with (refine ⟨trivial, ?_⟩; refine (frames_in _ _ _ _ _).mono ?_; rintro e w' ⟨rfl, rfl⟩)
  have bO := Boxed.new w 32 (.slice none 0 0)
  have bE := Boxed.new (w.alloc (.cells #[.slice none 0 0] 32)) 3 (.int .i64 0)
  have bN := Boxed.new ((w.alloc (.cells #[.slice none 0 0] 32)).alloc (.cells #[.int .i64 0] 3)) 22 (.slice A len cap)
  rw [World.size_alloc] at bE
  rw [World.size_alloc, World.size_alloc] at bN
  have hB0 : Below w.heap.size w (((w.alloc (.cells #[.slice none 0 0] 32)).alloc (.cells #[.int .i64 0] 3)).alloc (.cells #[.slice A len cap] 22)) := (((Below.refl _ w).alloc (Nat.le_refl _) _).alloc (by simp) _).alloc (by simp; omega) _
  have hAb : ∀ a, A = some a → 0 < len → a.block < w.heap.size := by
    rintro a rfl hp
    obtain ⟨ad, e, hc⟩ := HR.out.2.2 hp
    injection e with e
    subst e
    have h := World.block_lt_of_cell? w _ (hc 0 hp)
    simpa [Addr.add] using h
  have hcnt : ∀ pre : List (List Int × Nat), pre.length < (scanL b).length → (pre.length + 1) * 16 ≤ 140737488355328 := fun pre h => by
    have := scanL_len b
    have := HR.out.1
    omega
  refine wpIn_rangeFunc_ownG rfl (by omega) (gf := 47) (lb := #[.pointer (some ⟨w.heap.size + 1 + 1, 0, none⟩)]) rfl trivial (enters_of Try.func47 (by kernel_rfl) rfl)
    (frames_stops (6 - 1) (by omega) (w.heap.size + 1 + 1) w.heap.size len cap A b _ H0.out (HR.out.below hB0) hlc (by omega) (by simp; omega) (by simp) hAb bN.cell)
    KB.trans (fun W l o o' hl hW hc hk => ?_) (Below.refl _ _) (fun _ => rfl)
    (fun pre W => (∃ v, Boxed W w.heap.size 32 v ∧ W.ownsRow w.heap.size 9 1 v pre.length (pre.map lineV) ∧ True) ∧ Boxed W (w.heap.size + 1) 3 (.int .i64 (endOf pre : Int)) ∧ Boxed W (w.heap.size + 1 + 1) 22 (.slice A len cap) ∧ Below w.heap.size w W)
    (fun _ _ _ => False)
    (OwnFrom.and (Own.from (holdsRow_own w.heap.size w.heap.size 32 9 1 (fun pre : List (List Int × Nat) => pre.length) (fun pre => pre.map lineV) (fun pre v => True)) _) (OwnFrom.and (Own.from (boxed_own (w.heap.size + 1) 3 (fun pre : List (List Int × Nat) => .int .i64 (endOf pre : Int))) _) (OwnFrom.and (Own.from (boxed_own (w.heap.size + 1 + 1) 22 (fun pre : List (List Int × Nat) => .slice A len cap)) _) (ownFrom_below (Nat.le_refl _) (by simp; omega)))))
    (fun _ _ _ _ _ hs _ _ => hs)
    ⟨⟨_, (bO.alloc _).alloc _, World.ownsRow_nil _ _ _ _, trivial⟩, bE.alloc _, bN, hB0⟩
    (fun x => { tmps := #[.slice A len cap, undef, .slice none 0 0, .int .i64 0, .pointer (some ⟨w.heap.size, 0, none⟩), .pointer (some ⟨w.heap.size + 1, 0, none⟩), .string (strOfNums x.1), .int .i64 (x.2 : Int), .slice A len cap, .func (.func 47) #[] #[.pointer (some ⟨w.heap.size + 1 + 1, 0, none⟩)], .string (strOfNums x.1), .int .i64 (x.2 : Int), undef, undef, undef, undef, undef, undef, undef], defers := [] }) ?assign ?body ?done ?stop
  · have hne : w.heap.size + 1 + 1 ≠ l := by simp at hl; omega
    exact ⟨belowK_b (w := w) (Nat.le_refl _) W l o o' (by simp at hl; omega) hW hc hk, World.putObj_heap_other hne⟩
  case assign =>
    intro l x W K hK
    unfold frEnc
    gi_wp2
    exact hK
  case body =>
    rintro l pre x W ⟨⟨v, hv, hrow, _⟩, he, hbx, hB⟩ hlt
    have hc := hv.cell
    have hcn := hcnt pre hlt
    have hpl : pre.length + 1 ≤ maxLen := by unfold maxLen; omega
    have hlx := Lib.hid hlt
    clear hlt
    gi_wp2_with (gi_at_builtin; refine wpListIn_append_own _ rfl _ _ 32 rfl w.heap.size 9 i0 (.string ByteArray.empty) 1 16 Try.underlying32 hi hz0 hz1 hz2 rfl (by decide) _ _ _ rfl (hrow.alloc _) ⟨W.heap.size, 0, none⟩ 1 1 [.string (strOfNums x.1)] rfl rfl (cell_one_new _ _ _) (by simp [Value.oneCell']) (by omega) (by omega) (by have := hB.size; simp; omega) ?_; intro v' w1 hown' hgrow _; obtain ⟨g', cap', rfl⟩ := ownsRow_succ hown'; obtain ⟨hv1, hv2, hr2, hk2, hb2⟩ := hv.appended (by decide) hrow hB.size (Nat.le_refl _) hown' hgrow; have hc1 := hv1.cell; have hf1 := hv1.frozen; have he1 := (he.alloc (.cells #[.string (strOfNums x.1)] 9)).kept hgrow (he.not_row (by decide) hrow); have hbx1 := (hbx.alloc (.cells #[.string (strOfNums x.1)] 9)).kept hgrow (hbx.not_row (by decide) hrow); have hce := he1.cell; have hfe := he1.frozen)
    have he2 := he1.other (B' := w.heap.size) (by omega) (.slice (some ⟨g', 0, none⟩) (pre.length + 1) cap')
    have hbx2 := hbx1.other (B' := w.heap.size) (by omega) (.slice (some ⟨g', 0, none⟩) (pre.length + 1) cap')
    refine ⟨(hk2.trans (KeepsOthers.setCell _ _ _)).from _, ⟨hb2.setCell (p := ⟨w.heap.size + 1, 0, none⟩) (by show w.heap.size ≤ w.heap.size + 1; omega) _, ?_⟩, ⟨⟨_, hv2.other (by omega) _, ?_, trivial⟩, ?_, hbx2.other (by omega) _, ?_⟩⟩
    · exact ((hbx2.other (B' := w.heap.size + 1) (by omega) (.int .i64 (x.2 : Int))).trans hbx.symm)
    · rw [List.length_append, List.map_append]
      exact ownsRow_setCell_other (by simpa [lineV] using hr2) (fun e => (he2.not_row (by decide) hr2) e.symm) _
    · rw [endOf_snoc]
      exact he2.set _
    · exact hB.trans (hb2.setCell (p := ⟨w.heap.size + 1, 0, none⟩) (by show w.heap.size ≤ w.heap.size + 1; omega) _)
  case done =>
    rintro D ys W hD rfl ⟨⟨v, hv, hrow, _⟩, he, hbx, hB⟩ hK
    have hc := hv.cell
    have hce := he.cell
    gi_wp2
    gi_quiet (fail)
    rename_i nq
    gi_wp2
    refine ⟨by simp, .inl ⟨_, _, rfl, run_takeDeferred hK, ?_⟩⟩
    refine ⟨_, results_tmp2 rfl _ _ _, v, rfl, ownsRow_putObj hrow _ hK rfl, (pw_below_drewN hB nq).trans (belowK_b (w := w) (Nat.le_refl _) (W.drewN nq) D _ _ (by simp at hD; omega) hK rfl rfl)⟩
  case stop =>
    rintro D c pre W _ _ h _
    exact h.elim
end Go.Proofs.Ytoegeljjfhbpeaa.J
