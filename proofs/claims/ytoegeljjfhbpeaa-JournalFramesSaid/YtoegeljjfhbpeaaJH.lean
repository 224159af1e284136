import Derived.Test.YtoegeljjfhbpeaaJE
import Derived.Test.YtoegeljjfhbpeaaJG
set_option linter.unusedVariables false
set_option linter.unusedSimpArgs false
namespace Go.Proofs.Ytoegeljjfhbpeaa.J
open Go.RowKit Go.Proofs.YtoegeljjfhbpeaaW.PrintWords Go.Proofs.YtoegeljjfhbpeaaW.PrintLast Go.Proofs.YtoegeljjfhbpeaaW.PrintMore

def Bytes (l : List Int) : Prop := ∀ x ∈ l, 0 ≤ x ∧ x ≤ 255
theorem Bytes.append {l m : List Int} (h : Bytes l) (k : Bytes m) : Bytes (l ++ m) := fun x hx => (List.mem_append.1 hx).elim (h x) (k x)
theorem Bytes.drop {l : List Int} (h : Bytes l) (n : Nat) : Bytes (l.drop n) := fun x hx => h x (List.mem_of_mem_drop hx)
theorem Bytes.take {l : List Int} (h : Bytes l) (n : Nat) : Bytes (l.take n) := fun x hx => h x (List.mem_of_mem_take hx)
theorem four_bytes (n : Int) : Bytes (four n) := by
  intro x hx
  simp only [four, List.mem_cons, List.not_mem_nil, or_false] at hx
  rcases hx with rfl | rfl | rfl | rfl <;> omega
theorem low4_bytes (n : Int) (h0 : 0 ≤ n) (h1 : n ≤ 4294967295) : Bytes (low4 n) := by
  intro x hx
  simp only [low4, List.mem_cons, List.not_mem_nil, or_false] at hx
  rcases hx with rfl | rfl | rfl | rfl <;> omega
theorem lineSum_bytes (n : Int) (s : List Int) : Bytes (lineSum n s) := low4_bytes _ (sumOf_range _).1 (sumOf_range _).2
theorem frameL_bytes (n : Int) {s : List Int} (h : Bytes s) : Bytes (frameL n s) := ((four_bytes _).append (lineSum_bytes _ _)).append h
theorem bytesOf_bytes (s : ByteArray) : Bytes (bytesOf s) := by
  intro x hx
  obtain ⟨b, _, rfl⟩ := List.mem_map.1 hx
  have := b.toNat_lt
  omega
theorem bytesOf_str {l : List Int} (h : Bytes l) : bytesOf (strOfNums l) = l := by
  unfold bytesOf
  rw [strOfNums_data, List.map_map]
  conv => rhs; rw [← List.map_id l]
  apply List.map_congr_left
  intro x hx
  have := h x hx
  simp [UInt8.toNat_ofNat]
  omega
theorem strOfNums_inj {l m : List Int} (h : Bytes l) (k : Bytes m) (e : strOfNums l = strOfNums m) : l = m := by rw [← bytesOf_str h, ← bytesOf_str k, e]
theorem str_bytesOf (s : ByteArray) : strOfNums (bytesOf s) = s := by
  unfold strOfNums bytesOf
  rw [List.map_map]
  have e : ((fun n : Int => UInt8.ofNat n.toNat) ∘ fun b : UInt8 => (b.toNat : Int)) = id := by
    funext b
    simp
  rw [e, List.map_id]

theorem own_sl {w : World} {base : Nat} {v : Value} {n : Nat} {xs : List Value} (h : w.ownsRow base 9 1 v n xs) : ∃ A c, v = .slice A n c ∧ n ≤ c := by
  obtain ⟨A, c, rfl⟩ := own_slice h
  exact ⟨A, c, rfl, own_le h⟩
theorem num_wrap {x y z u : Int} (hx : 0 ≤ x ∧ x ≤ 255) (hy : 0 ≤ y ∧ y ≤ 255) (hz : 0 ≤ z ∧ z ≤ 255) (hu : 0 ≤ u ∧ u ≤ 255) :
    wrap64 (wrap64 (wrap64 (wrap64 (wrap64 x * 16777216) + wrap64 (wrap64 y * 65536)) + wrap64 (wrap64 z * 256)) + wrap64 u) = x * 16777216 + y * 65536 + z * 256 + u := by
  have e : ∀ n : Int, 0 ≤ n → n ≤ 9223372036854775807 → wrap64 n = n := fun n h0 h1 => by unfold wrap64; omega
  rw [e x (by omega) (by omega), e y (by omega) (by omega), e z (by omega) (by omega), e u (by omega) (by omega), e (x * 16777216) (by omega) (by omega), e (y * 65536) (by omega) (by omega), e (z * 256) (by omega) (by omega), e (x * 16777216 + y * 65536) (by omega) (by omega), e (x * 16777216 + y * 65536 + z * 256) (by omega) (by omega), e (x * 16777216 + y * 65536 + z * 256 + u) (by omega) (by omega)]
theorem mid_g (A : Option Addr) (len cap : Nat) (b : List Int) (hlen : b.length = len) (hlc : len ≤ cap) (xi yi : Int) (x y : Nat) (hx : xi = x) (hy : yi = y) (hxy : x ≤ y) (hyl : y ≤ len) :
    ∃ As, (∀ W : World, (Instr.slice 22 (.slice A len cap) (some (.int .i64 xi)) (some (.int .i64 yi)) none).run Try.prog W = .ok (.slice As (y - x) (cap - x)) W) ∧
      ∀ w, ReadsInt w .u8 A len b → ReadsInt w .u8 As (y - x) ((b.drop x).take (y - x)) := by
  obtain ⟨i0, hi, hz0, hz1, hz2⟩ := info_parts info5
  subst hlen hx hy
  obtain ⟨As, h1, h2, _⟩ := print_mid_int (P := Try.prog) (k := .u8) 22 5 Try.underlying22 hi hz1 A cap b (x : Int) (y : Int) (by omega) (by omega) (by omega) hlc
  have e1 : ((x : Int)).toNat = x := by omega
  have e2 : ((y : Int)).toNat = y := by omega
  have e3 : ((b.take y).drop x).length = y - x := by rw [List.length_drop, List.length_take]; omega
  have e4 : (b.take y).drop x = (b.drop x).take (y - x) := by rw [List.drop_take]
  rw [e1, e2, e3] at h1 h2
  rw [e4] at h2
  exact ⟨As, h1, h2⟩
theorem take8 (b : List Int) (a L : Nat) (h : a + 8 + L ≤ b.length) : (b.drop a).take (8 + L) = (b.drop a).take 4 ++ (b.drop (a + 4)).take 4 ++ (b.drop (a + 8)).take L := by
  rw [show 8 + L = 4 + (4 + L) by omega, List.take_add, List.drop_drop, List.take_add, List.drop_drop, List.append_assoc]
theorem four_head (b : List Int) (hb : Bytes b) (a L : Nat) (h : a + 4 ≤ b.length) (hL : headNum (b.drop a) = (L : Int)) : four (L : Int) = (b.drop a).take 4 := by
  rw [headNum_drop] at hL
  rw [take4 b a h]
  have g0 := getD_byte hb a
  have g1 := getD_byte hb (a + 1)
  have g2 := getD_byte hb (a + 2)
  have g3 := getD_byte hb (a + 3)
  unfold four
  rw [← hL]
  congr 1
  · omega
  · congr 1
    · omega
    · congr 1
      · omega
      · congr 1
        omega
theorem frame_eq (n : Int) (b : List Int) (hb : Bytes b) (a L : Nat) (h : a + 8 + L ≤ b.length) (hL : headNum (b.drop a) = (L : Int)) :
    frameL n ((b.drop (a + 8)).take L) = (b.drop a).take (8 + L) ↔ (b.drop (a + 4)).take 4 = lineSum n ((b.drop (a + 8)).take L) := by
  have hl : ((b.drop (a + 8)).take L).length = L := by rw [List.length_take, List.length_drop]; omega
  rw [take8 b a L h]
  unfold frameL
  rw [hl, four_head b hb a L (by omega) hL]
  constructor
  · intro e
    have e1 := List.append_cancel_right e
    exact (List.append_cancel_left e1).symm
  · intro e
    rw [e]
theorem str_eq {l m : List Int} (h : l = m) : ((strOfNums l).toList == (strOfNums m).toList) = true ∧ ((strOfNums l).toList != (strOfNums m).toList) = false := by
  subst h
  exact ⟨beq_self_eq_true _, bne_self_eq_false _⟩
theorem toList_inj {x y : ByteArray} (h : x.toList = y.toList) : x = y := by
  rw [ByteArray.toList_eq, ByteArray.toList_eq] at h
  obtain ⟨⟨x⟩⟩ := x
  obtain ⟨⟨y⟩⟩ := y
  simp at h
  rw [h]
theorem str_ne {l m : List Int} (hl : Bytes l) (hm : Bytes m) (h : ¬ l = m) : ((strOfNums l).toList == (strOfNums m).toList) = false ∧ ((strOfNums l).toList != (strOfNums m).toList) = true := by
  have hn : ¬ (strOfNums l).toList = (strOfNums m).toList := fun e => h (strOfNums_inj hl hm (toList_inj e))
  exact ⟨beq_eq_false_iff_ne.2 hn, bne_iff_ne.2 hn⟩
theorem rscan_short (A : Option Addr) (len cap : Nat) (w : World) (h8 : len < 8) :
    Calls Try.prog 16 #[.slice A len cap] w fun e w' => e = .returned (.tuple #[.slice none 0 0, .int .i64 0]) ∧ Below w.heap.size w w' := by
  go_enter Try.func16, Try.ntmps16
  go_wp2
  go_loop [4, 5] (fun v at_ => v = .slice none 0 0 ∧ at_ = .int .i64 0) (fun _ _ => 0)
  case atStart => exact ⟨rfl, rfl⟩
  case round =>
    obtain ⟨rfl, rfl⟩ := hrel
    go_wp2
    go_ret2
    exact ⟨rfl, Below.refl _ _⟩
set_option maxRecDepth 100000 in
set_option maxHeartbeats 4000000 in
theorem rscan8 (bb off len cap : Nat) (b : List Int) (w : World) (hb0 : Bytes b) (hlen : b.length = len) (h8l : 8 ≤ len) (hlc : len ≤ cap) (hreach : len ≤ 17179869176) (hbb : bb < w.heap.size)
    (hc : ∀ j, j < len → w.cell? ⟨bb, off + j, none⟩ = some (.int .u8 (byt b j))) :
    Calls Try.prog 16 #[.slice (some ⟨bb, off, none⟩) len cap] w fun e w' => ∃ v, e = .returned (.tuple #[v, .int .i64 (endOf (scanL b) : Int)]) ∧ w'.ownsRow w.heap.size 9 1 v (scanL b).length ((scanL b).map lineV) ∧ Below w.heap.size w w' := by
  have HC := Lib.hid hc
  have H0 := Lib.hid hb0
  have HL := Lib.hid hlen
  clear hc hb0 hlen
  go_enter Try.func16, Try.ntmps16
  go_wp2
  go_loopw [4, 5] (fun v at_ wr => ∃ (pre rest : List (List Int × Nat)) (k a : Nat), at_ = .int .i64 (a : Int) ∧ wr.ownsRow w.heap.size 9 1 v pre.length (pre.map lineV) ∧ a ≤ len ∧ 8 * pre.length ≤ a ∧ scanL b = pre ++ rest ∧ rest = scanG k pre.length a b ∧ len < k + a ∧ endOf pre = a ∧ Below w.heap.size w wr) (fun _ at_ _ => len - (intOf at_).toNat)
  case atStart => exact ⟨[], _, len + 1, 0, rfl, World.ownsRow_nil _ _ _ _, by omega, by simp, rfl, by rw [← HL.out]; rfl, by omega, rfl, Below.refl _ _⟩
  case round =>
    obtain ⟨pre, rest, k, a, rfl, hown, ha, hp8, hS, hrest, hk, hend, hbel⟩ := hrel
    obtain ⟨Ao, co, rfl, hco⟩ := own_sl hown
    have HOn := Lib.hid hown
    have HB := Lib.hid hbel
    have HS := Lib.hid hS
    have HRs := Lib.hid hrest
    have HE := Lib.hid hend
    clear hown hbel hS hrest hend
    by_cases h8 : a + 8 ≤ len
    · have c0 : wr.cell? ⟨bb, off + a, none⟩ = some (.int .u8 (byt b a)) := (HB.out.cell (p := ⟨bb, off + a, none⟩) hbb).trans (HC.out a (by omega))
      have c1 : wr.cell? ⟨bb, off + (a + 1), none⟩ = some (.int .u8 (byt b (a + 1))) := (HB.out.cell (p := ⟨bb, off + (a + 1), none⟩) hbb).trans (HC.out (a + 1) (by omega))
      have c2 : wr.cell? ⟨bb, off + (a + 2), none⟩ = some (.int .u8 (byt b (a + 2))) := (HB.out.cell (p := ⟨bb, off + (a + 2), none⟩) hbb).trans (HC.out (a + 2) (by omega))
      have c3 : wr.cell? ⟨bb, off + (a + 3), none⟩ = some (.int .u8 (byt b (a + 3))) := (HB.out.cell (p := ⟨bb, off + (a + 3), none⟩) hbb).trans (HC.out (a + 3) (by omega))
      have hr0 : ∀ j, 0 ≤ byt b j ∧ byt b j ≤ 255 := fun j => getD_byte H0.out j
      have HRg := Lib.hid hr0
      clear hr0
      go_wp2
      have n1 : ((a : Int) + 1).toNat = a + 1 := by omega
      have n2 : ((a : Int) + 2).toNat = a + 2 := by omega
      have n3 : ((a : Int) + 3).toNat = a + 3 := by omega
      have p0 : (0 : Int) ≤ (a : Int) := by omega
      have p1 : (0 : Int) ≤ (a : Int) + 1 := by omega
      have p2 : (0 : Int) ≤ (a : Int) + 2 := by omega
      have p3 : (0 : Int) ≤ (a : Int) + 3 := by omega
      have l0 : (a : Int) < (len : Int) := by omega
      have l1 : (a : Int) + 1 < (len : Int) := by omega
      have l2 : (a : Int) + 2 < (len : Int) := by omega
      have l3 : (a : Int) + 3 < (len : Int) := by omega
      have w1 : IntKind.i64.wrap ((a : Int) + 1) = (a : Int) + 1 := IntWalk.i64_in _ (by omega)
      have w2 : IntKind.i64.wrap ((a : Int) + 2) = (a : Int) + 2 := IntWalk.i64_in _ (by omega)
      have w3 : IntKind.i64.wrap ((a : Int) + 3) = (a : Int) + 3 := IntWalk.i64_in _ (by omega)
      go_quiet (fail)
      clear w1 w2 w3 n1 n2 n3 p0 p1 p2 p3 l0 l1 l2 l3 c0 c1 c2 c3
      obtain ⟨L, hL⟩ : ∃ L : Nat, byt b a * 16777216 + byt b (a + 1) * 65536 + byt b (a + 2) * 256 + byt b (a + 3) = (L : Int) := by
        have g0 := HRg.out a
        have g1 := HRg.out (a + 1)
        have g2 := HRg.out (a + 2)
        have g3 := HRg.out (a + 3)
        exact ⟨(byt b a * 16777216 + byt b (a + 1) * 65536 + byt b (a + 2) * 256 + byt b (a + 3)).toNat, by omega⟩
      have hw6 := num_wrap (HRg.out a) (HRg.out (a + 1)) (HRg.out (a + 2)) (HRg.out (a + 3))
      rw [hL] at hw6
      rw [hw6]
      have HLn := Lib.hid hL
      clear hL hw6
      obtain ⟨wq, hwq⟩ : ∃ wq, wr.drewN nq = wq := ⟨_, rfl⟩
      have HBq : Hid (Below w.heap.size w wq) := by rw [← hwq]; exact pw_below_drewN HB.out nq
      have HOq : Hid (wq.ownsRow w.heap.size 9 1 (.slice Ao pre.length co) pre.length (pre.map lineV)) := by rw [← hwq]; exact pw_own_below HOn.out (pw_below_drewN (Below.refl _ _) nq)
      rw [hwq]
      clear hwq HOn HB
      have hhn : Hid (headNum (b.drop a) = (L : Int)) := (headNum_drop b a).trans HLn.out
      by_cases hv : L ≤ 65536 ∧ L + a + 8 ≤ len
      · obtain ⟨hv1, hv2⟩ := hv
        have hd1 : decide (65536 < (L : Int)) = false := by simp; omega
        have hd2 : decide ((len : Int) - (a : Int) - 8 < (L : Int)) = false := by simp; omega
        obtain ⟨As, hmid, hmidr⟩ := mid_s (some ⟨bb, off, none⟩) len cap b HL.out hlc a L (by omega)
        have HMR := Lib.hid hmidr
        clear hmidr
        obtain ⟨Af, hmidf, hmidfr⟩ := mid_g (some ⟨bb, off, none⟩) len cap b HL.out hlc (a : Int) ((a : Int) + 8 + (L : Int)) a (a + 8 + L) rfl (by omega) (by omega) (by omega)
        have HMF := Lib.hid hmidfr
        clear hmidfr
        rw [show a + 8 + L - a = 8 + L by omega] at hmidf HMF
        have Rb : ∀ W, Below w.heap.size w W → ReadsInt W .u8 (some ⟨bb, off, none⟩) len b := fun W hW => ⟨HL.out, by omega, fun _ => ⟨_, rfl, fun j hj => by rw [add_at]; exact (hW.cell (p := ⟨bb, off + j, none⟩) hbb).trans (HC.out j hj)⟩⟩
        have HRb := Lib.hid Rb
        clear Rb
        have hcv : (convert 22 9 (.slice As L (cap - (a + 8)))).run Try.prog wq = .ok (.string (strOfNums ((b.drop (a + 8)).take L))) wq := conv_str _ _ _ _ _ (HMR.out wq (HRb.out wq HBq.out))
        have hsl : Hid (((b.drop (a + 8)).take L).length = L) := (HMR.out wq (HRb.out wq HBq.out)).1
        have hby : Hid (Bytes ((b.drop (a + 8)).take L)) := (H0.out.drop _).take _
        go_wp2_with (go_at_call 11; refine (rframe_any (pre.length : Int) (strOfNums ((b.drop (a + 8)).take L)) _ (by omega) (by omega) (by rw [strOfNums_size, hsl.out]; exact hv1)).mono ?_; rintro e w1 ⟨vf, rfl, hof, hb1⟩; have hB1 := Lib.hid (HBq.out.trans (hb1.mono HBq.out.size)); have hO1 := Lib.hid (pw_own_below HOq.out hb1); rw [bytesOf_str hby.out] at hof; obtain ⟨A1, c1, rfl, hc1, hr1⟩ := own_rd hof; have R1 := Lib.hid hr1; have hcf : ∀ q : Nat, (convert 22 9 (.slice A1 (frameL (pre.length : Int) ((b.drop (a + 8)).take L)).length c1)).run Try.prog (w1.drewN q) = .ok (.string (strOfNums (frameL (pre.length : Int) ((b.drop (a + 8)).take L)))) (w1.drewN q) := fun q => conv_str _ _ _ _ _ (R1.out.below (pw_below_drewN (Below.refl _ _) q)); have hcg : ∀ q : Nat, (convert 22 9 (.slice Af (8 + L) (cap - a))).run Try.prog (w1.drewN q) = .ok (.string (strOfNums ((b.drop a).take (8 + L)))) (w1.drewN q) := fun q => conv_str _ _ _ _ _ (HMF.out (w1.drewN q) (HRb.out (w1.drewN q) (pw_below_drewN hB1.out q))); clear hb1 hof hr1)
        have hfe := frame_eq (pre.length : Int) b H0.out a L (by rw [HL.out]; omega) hhn.out
        have HFE := Lib.hid hfe
        clear hfe hmid hcv
        have hw8 : IntKind.i64.wrap ((a : Int) + 8) = (a : Int) + 8 := IntWalk.i64_in _ (by omega)
        have hwL : IntKind.i64.wrap ((a : Int) + 8 + (L : Int)) = (a : Int) + 8 + (L : Int) := IntWalk.i64_in _ (by omega)
        by_cases hq : frameL (pre.length : Int) ((b.drop (a + 8)).take L) = (b.drop a).take (8 + L)
        · obtain ⟨hq1, hq2⟩ := str_eq hq
          have HQ := Lib.hid hq
          clear hq
          go_quiet (fail)
          clear hw8 hwL hcf hcg hq1 hq2 hmidf
          obtain ⟨wz, hwz⟩ : ∃ wz, w1.drewN nq = wz := ⟨_, rfl⟩
          have HBz : Hid (Below w.heap.size w wz) := by rw [← hwz]; exact pw_below_drewN hB1.out nq
          have HOz : Hid (wz.ownsRow w.heap.size 9 1 (.slice Ao pre.length co) (pre.map lineV).length (pre.map lineV)) := by rw [← hwz, List.length_map]; exact pw_own_below hO1.out (pw_below_drewN (Below.refl _ _) nq)
          rw [hwz]
          clear hwz hB1 hO1 R1
          have hfy : Hid (front pre.length (b.drop a) = some ((b.drop (a + 8)).take L)) := front_yes _ b a L (by rw [HL.out]; exact h8) hhn.out hv1 (by rw [HL.out]; exact hv2) (HFE.out.1 HQ.out)
          obtain ⟨k', rfl⟩ : ∃ k', k = k' + 1 := ⟨k - 1, by omega⟩
          have hr1 : Hid (rest = ((b.drop (a + 8)).take L, a + 8 + L) :: scanG k' (pre.length + 1) (a + 8 + L) b) := by
            show _ = _
            rw [HRs.out, scanG_some hfy.out, hsl.out]
          have hcnt : (pre.length + 1) * 16 ≤ 140737488355328 := by omega
          have hzz := HBz.out.size
          go_wp2_with (at_builtin; refine print_append (w0 := w) w.heap.size rfl (.tmp 82) (.tmp 84) 32 9 (.string ByteArray.empty) 16 rfl Try.underlying32 info9 rfl (by omega) _ (pre.map lineV) (.string (strOfNums ((b.drop (a + 8)).take L))) rfl rfl rfl HOz.out HBz.out hzz (by rw [List.length_map]; exact hcnt) ?_; rintro v5 w5 hown5 hb5 hg5 hat5; have O5 := Lib.hid hown5; have B5 := Lib.hid hb5; clear hown5 hb5 hg5 hat5)
          go_roundw
          case rel => exact ⟨pre ++ [((b.drop (a + 8)).take L, a + 8 + L)], scanG k' (pre.length + 1) (a + 8 + L) b, k', a + 8 + L, congrArg (Value.int .i64) (by omega), by have h := O5.out; rw [List.length_append, List.length_map] at h; rw [List.length_append, List.map_append]; exact h, by omega, by rw [List.length_append, List.length_singleton]; omega, by rw [HS.out, hr1.out, List.append_assoc]; rfl, by rw [List.length_append, List.length_singleton], by omega, endOf_snoc _ _, B5.out⟩
          case measure => simp [intOf]; omega
        · obtain ⟨hq1, hq2⟩ := str_ne (frameL_bytes _ hby.out) ((H0.out.drop _).take _) hq
          have HQ := Lib.hid hq
          clear hq
          go_quiet (fail)
          clear hw8 hwL
          go_wp2
          go_ret2
          have hs0 : scanL b = pre := by rw [HS.out, HRs.out, scanG_none (front_ne _ b a L (by rw [HL.out]; exact h8) hhn.out hv1 (by rw [HL.out]; exact hv2) (fun e => HQ.out (HFE.out.2 e))), List.append_nil]
          refine ⟨.slice Ao pre.length co, ?_, ?_, pw_below_drewN hB1.out nq⟩
          · rw [hs0, HE.out]
            rfl
          · rw [hs0]
            exact pw_own_below hO1.out (pw_below_drewN (Below.refl _ _) nq)
      · have hs0 : Hid (scanL b = pre) := by show _ = _; rw [HS.out, HRs.out, scanG_none (front_no _ b a L (by rw [HL.out]; exact h8) hhn.out (by rw [HL.out]; exact hv)), List.append_nil]
        by_cases hv1 : L ≤ 65536
        · have hv2 : ¬ (L + a + 8 ≤ len) := fun h => hv ⟨hv1, h⟩
          have hd1 : decide (65536 < (L : Int)) = false := by simp; omega
          have hd2 : decide ((len : Int) - (a : Int) - 8 < (L : Int)) = true := by simp; omega
          clear hv
          go_wp2
          go_ret2
          refine ⟨.slice Ao pre.length co, ?_, ?_, HBq.out⟩
          · rw [hs0.out, HE.out]
            rfl
          · rw [hs0.out]
            exact HOq.out
        · have hd1 : decide (65536 < (L : Int)) = true := by simp; omega
          clear hv
          go_wp2
          go_ret2
          refine ⟨.slice Ao pre.length co, ?_, ?_, HBq.out⟩
          · rw [hs0.out, HE.out]
            rfl
          · rw [hs0.out]
            exact HOq.out
    · go_wp2
      go_ret2
      have hs0 : scanL b = pre := by rw [HS.out, HRs.out, scanG_none (front_short _ b a (by rw [HL.out]; omega)), List.append_nil]
      refine ⟨.slice Ao pre.length co, ?_, ?_, HB.out⟩
      · rw [hs0, HE.out]
        rfl
      · rw [hs0]
        exact HOn.out

/-- an address of a row that is read, laid open -/
theorem reads_at {w : World} {A : Option Addr} {len : Nat} {b : List Int} (hR : ReadsInt w .u8 A len b) (hp : 0 < len) : ∃ bb off, A = some ⟨bb, off, none⟩ ∧ bb < w.heap.size ∧ ∀ j, j < len → w.cell? ⟨bb, off + j, none⟩ = some (.int .u8 (byt b j)) := by
  obtain ⟨ad, rfl, hcell⟩ := hR.2.2 hp
  have hc0 := hcell 0 hp
  obtain ⟨bb, off, e⟩ := spot hc0
  obtain ⟨bb', off', s'⟩ := ad
  have : s' = none := by
    cases s' with
    | none => rfl
    | some s => simp [Addr.add] at e
  subst this
  refine ⟨bb', off', rfl, ?_, fun j hj => ?_⟩
  · have h := World.block_lt_of_cell? w _ hc0
    simpa [Addr.add] using h
  · rw [← add_at]
    exact hcell j hj
theorem rscan_any (A : Option Addr) (len cap : Nat) (b : List Int) (w : World) (hb0 : Bytes b) (hR : ReadsInt w .u8 A len b) (hlc : len ≤ cap) (hreach : len ≤ 17179869176) :
    Calls Try.prog 16 #[.slice A len cap] w fun e w' => ∃ v, e = .returned (.tuple #[v, .int .i64 (endOf (scanL b) : Int)]) ∧ w'.ownsRow w.heap.size 9 1 v (scanL b).length ((scanL b).map lineV) ∧ Below w.heap.size w w' := by
  rcases Nat.lt_or_ge len 8 with h8 | h8
  · have hs : scanL b = [] := scanG_none (front_short 0 b 0 (by have := hR.1; omega))
    rw [hs]
    exact (rscan_short A len cap w h8).mono fun e w' ⟨he, hb⟩ => ⟨_, he, World.ownsRow_nil _ _ _ _, hb⟩
  · obtain ⟨bb, off, rfl, hbb, hc⟩ := reads_at hR (by omega)
    exact rscan8 bb off len cap b w hb0 hR.1 h8 hlc hreach hbb hc
end Go.Proofs.Ytoegeljjfhbpeaa.J
