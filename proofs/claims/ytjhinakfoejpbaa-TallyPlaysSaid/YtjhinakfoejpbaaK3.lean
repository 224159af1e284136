/- The document's tally, a value more or less. No condition stands open. -/
import Derived.Test.YtjhinakfoejpbaaK2
import Derived.Test.YtjhinakfoejpbaaZS
set_option linter.unusedVariables false
set_option linter.unusedSimpArgs false
/- A row of values in the words' form. No condition stands open. -/
namespace Go.Proofs.Ytjhinakfoejpbaa.T
open Go.RowKit Go.Proofs.Ytjhinakfoejpbaa Go.Proofs.Ytjhinakfoejpbaa.WPure Go.Proofs.YtjhinakfoejpbaaW.PrintWords Go.Proofs.YtjhinakfoejpbaaW.PrintLast Go.Proofs.YtjhinakfoejpbaaW.PrintMore
def enc5 (x : Val) : List Value := [.int .i64 x.1, .int .i64 x.2.1, .string x.2.2.1, .bool x.2.2.2.1, .int .i64 x.2.2.2.2]
/-- the kind of a value: five cells -/
def k25 : Kd Val where
  sz := 5
  E := []
  K := fun _ x cs => cs = enc5 x
  M := fun _ _ _ x cs => cs = enc5 x
  K_len := fun h => by rw [h]; rfl
  K_one := fun h u hu => by
    rw [h] at hu
    unfold enc5 at hu
    simp only [List.mem_cons, List.not_mem_nil, or_false] at hu
    rcases hu with rfl | rfl | rfl | rfl | rfl <;> rfl
  K_below := fun _ h => h
  K_of_M := fun h => h
  M_mono := fun _ h => h
  M_bound := fun h => h
  M_move := fun _ h => h
  M_lower := fun _ h => h
theorem VRow.rows {w : World} {A : Option Addr} {n : Nat} {l : List Val} (h : VRow w A n l) : ReadsRow (fun x cs => cs = enc5 x) 5 w A n l := by
  refine ⟨h.1, h.2.1, fun hn => ?_⟩
  obtain ⟨ad, e, hc⟩ := h.2.2 hn
  refine ⟨ad, e, fun j x hj => ⟨enc5 x, rfl, rfl, fun i u hi => ?_⟩⟩
  obtain ⟨c0, c1, c2, c3, c4⟩ := hc j x hj
  match i, hi with
  | 0, hi => obtain rfl := Option.some.inj hi; exact c0
  | 1, hi => obtain rfl := Option.some.inj hi; exact c1
  | 2, hi => obtain rfl := Option.some.inj hi; exact c2
  | 3, hi => obtain rfl := Option.some.inj hi; exact c3
  | 4, hi => obtain rfl := Option.some.inj hi; exact c4
  | (i + 5), hi => exact absurd hi (by simp [enc5])
theorem rows_VRow {w : World} {A : Option Addr} {n : Nat} {l : List Val} (h : ReadsRow (fun x cs => cs = enc5 x) 5 w A n l) : VRow w A n l := by
  refine ⟨h.1, h.2.1, fun hn => ?_⟩
  obtain ⟨ad, e, hc⟩ := h.2.2 hn
  refine ⟨ad, e, fun j x hj => ?_⟩
  obtain ⟨c, _, rfl, hcell⟩ := hc j x hj
  exact ⟨hcell 0 _ rfl, hcell 1 _ rfl, hcell 2 _ rfl, hcell 3 _ rfl, hcell 4 _ rfl⟩
theorem info25' : (Try.prog.info? 25).map (fun i => (i.zero, i.size, i.bytes)) = some (some (.agg #[.int .i64 0, .int .i64 0, .string ⟨#[]⟩, .bool false, .int .i64 0]), 5, 48) := by kernel_rfl
end Go.Proofs.Ytjhinakfoejpbaa.T

/- The document's Add and Drop that turn nothing. No condition stands open. -/
namespace Go.Proofs.Ytjhinakfoejpbaa.T
open Go.RowKit Go.Proofs.Ytjhinakfoejpbaa Go.Proofs.Ytjhinakfoejpbaa.WPure Go.Proofs.YtjhinakfoejpbaaW.PrintWords Go.Proofs.YtjhinakfoejpbaaW.PrintLast Go.Proofs.YtjhinakfoejpbaaW.PrintMore
theorem results_row_tmp {P : Program} {fn : Func} {p u : Tmp} {ty : TypeId} (h : fn.results = #[.cell p ty, .tmp u]) (tmps : Array Value) (w : World) (g : Nat) (t : TypeId) (cs : Array Value) (fr : Nat × Nat) (d : TypeDesc)
    (hp : tmps.getD p undef = .pointer (some ⟨g, 0, none⟩)) (hg : w.heap[g]? = some (.cells cs t fr))
    (hu : P.underlying ty = some d) (hd : (match d with | .struct _ | .array _ _ => true | _ => false) = true) (hi : (P.info? ty).map (·.size) = some cs.size) :
    (results fn tmps).run P w = .ok (.tuple #[.agg cs, tmps.getD u undef]) w := by
  rw [results_cell_tmp h, hp]
  simp [asAddr, run_loadVar_row w g t ty cs fr d hg hu hd hi, Result.andThen]
/-- the document's tally -/
abbrev dt (A : Option Addr) (n cap : Nat) : Value := .agg #[.slice A n cap]
abbrev w3 (w : World) (A : Option Addr) (n cap : Nat) (k x : Int) (s : ByteArray) (b : Bool) (c : Int) : World := ((w.alloc (.cells #[.slice A n cap] 64)).alloc (.cells #[.int .i64 k, .int .i64 x, .string s, .bool b, .int .i64 c] 25)).alloc (.cells #[.slice none 0 0] 64)
theorem w3_below (w : World) (A : Option Addr) (n cap : Nat) (k x : Int) (s : ByteArray) (b : Bool) (c : Int) : Below w.heap.size w (w3 w A n cap k x s b c) := (box2 w _ _).alloc (by simp; omega) _
theorem w3_0 (w : World) (A : Option Addr) (n cap : Nat) (k x : Int) (s : ByteArray) (b : Bool) (c : Int) : (w3 w A n cap k x s b c).heap[w.heap.size]? = some (.cells #[.slice A n cap] 64 (0, 0)) := blk_alloc (blk_alloc (heap_alloc_new w _) _) _
theorem w3_1 (w : World) (A : Option Addr) (n cap : Nat) (k x : Int) (s : ByteArray) (b : Bool) (c : Int) : BoxAt (w3 w A n cap k x s b c) (w.heap.size + 1) k x s b c := by
  have e := heap_alloc_new (w.alloc (.cells #[.slice A n cap] 64)) (.cells #[.int .i64 k, .int .i64 x, .string s, .bool b, .int .i64 c] 25)
  rw [World.size_alloc] at e
  exact blk_alloc e _
theorem w3_2 (w : World) (A : Option Addr) (n cap : Nat) (k x : Int) (s : ByteArray) (b : Bool) (c : Int) : (w3 w A n cap k x s b c).heap[w.heap.size + 2]? = some (.cells #[.slice none 0 0] 64 (0, 0)) := by
  have e := heap_alloc_new ((w.alloc (.cells #[.slice A n cap] 64)).alloc (.cells #[.int .i64 k, .int .i64 x, .string s, .bool b, .int .i64 c] 25)) (.cells #[.slice none 0 0] 64)
  rwa [World.size_alloc, World.size_alloc] at e
set_option maxHeartbeats 4000000 in
set_option maxRecDepth 100000 in
theorem docAdd_bad {w : World} {A : Option Addr} {n cap : Nat} {l : List Val} (h : VRow w A n l) (hl : n ≤ 4096) (k x : Int) (s : ByteArray) (b : Bool) (c : Int) (hx : okV (k, x, s, b, c) = false) : Calls Try.prog 38 #[dt A n cap, .agg #[.int .i64 k, .int .i64 x, .string s, .bool b, .int .i64 c]] w fun e w' => e = .returned (.tuple #[dt A n cap, .int .i64 2]) ∧ Below w.heap.size w w' := by
  have HB := Lib.hid (w3_below w A n cap k x s b c)
  have X0 := Lib.hid (w3_0 w A n cap k x s b c)
  have X1 := Lib.hid (w3_1 w A n cap k x s b c)
  have X2 := Lib.hid (w3_2 w A n cap k x s b c)
  have hu55 := Try.underlying55
  have hu64 := Try.underlying64
  have hu25 := Try.underlying25
  have HR : Hid (∀ W, Calls Try.prog 67 #[.agg #[.int .i64 k, .int .i64 x, .string s, .bool b, .int .i64 c]] W fun e w' => e = .returned (.bool false) ∧ Below W.heap.size W w') := fun W => by have e := docRight (k, x, s, b, c) W; rwa [hx] at e
  clear h hl hx
  go_enter Try.func38, Try.ntmps38
  go_wp2_with (go_at_call 67; refine (HR.out _).mono ?_; rintro e w2 ⟨rfl, hb⟩; have Y0 := Lib.hid ((hb.block _ (blk_lt X0.out)).trans X0.out); have Y2 := Lib.hid ((hb.block _ (blk_lt X2.out)).trans X2.out); have z0 := blk_cell Y0.out 0; have z2 := blk_cell Y2.out 0; have f2 := blk_frozen Y2.out 0; have HB2 := Lib.hid (HB.out.trans (hb.mono HB.out.size)); clear hb)
  refine bodyPost_ret (results_row_tmp rfl _ _ (w.heap.size + 2) 64 #[.slice A n cap] (0, 0) _ rfl (blk_put Y2.out 0 (.slice A n cap) rfl) hu64 rfl (by kernel_rfl)) rfl ?_
  exact ⟨rfl, HB2.out.setCell (Nat.le_trans (Nat.le_succ _) (Nat.le_succ _)) _⟩
end Go.Proofs.Ytjhinakfoejpbaa.T

/- The document's Add of what is right. No condition stands open. -/
namespace Go.Proofs.Ytjhinakfoejpbaa.T
open Go.RowKit Go.Proofs.Ytjhinakfoejpbaa Go.Proofs.Ytjhinakfoejpbaa.WPure Go.Proofs.YtjhinakfoejpbaaW.PrintWords Go.Proofs.YtjhinakfoejpbaaW.PrintLast Go.Proofs.YtjhinakfoejpbaaW.PrintMore
/-- an empty slice -/
theorem lit0 (W : World) (base : Nat) (hb : base ≤ W.heap.size) : k25.R 25 (W.alloc (.cells #[] 25)) base (fun _ => True) (.slice (some ⟨W.heap.size, 0, none⟩) 0 0) [] :=
  ⟨fun _ _ => trivial, OwnRow.lit W base (ps := []) (inner := []) ⟨rfl, fun j p h => by simp at h⟩ hb (by decide)⟩
/-- where a row of one's own lies, behind a store elsewhere -/
theorem row_lies {w : World} {base c0 : Nat} {A : Option Addr} {m c : Nat} {xs : List Val} (h : k25.R 25 w base (fun _ => True) (.slice A m c) xs) (hb : c0 ≤ base) (p : Addr) (u : Value) : ∀ ad, A = some ad → c0 ≤ ad.block ∧ ad.block < (w.setCell p u).heap.size := by
  rintro ad rfl
  obtain ⟨inner, ho⟩ := Kd.R_own h
  have h1 := own_base ho ad.block rfl
  have h2 := own_lt ho ad.block rfl
  have h3 : (w.setCell p u).heap.size = w.heap.size := by simp [World.setCell]
  omega
set_option maxHeartbeats 8000000 in
set_option maxRecDepth 100000 in
theorem docAdd_ok {w : World} {A : Option Addr} {n cap : Nat} {l : List Val} (h : VRow w A n l) (hl : n < 4096) (k x : Int) (s : ByteArray) (b : Bool) (c : Int) (hx : okV (k, x, s, b, c) = true) : Calls Try.prog 38 #[dt A n cap, .agg #[.int .i64 k, .int .i64 x, .string s, .bool b, .int .i64 c]] w fun e w' => ∃ A' cap', e = .returned (.tuple #[dt A' (n + 1) cap', .int .i64 0]) ∧ VRow w' A' (n + 1) (l ++ [held (k, x, s, b, c)]) ∧ n + 1 ≤ cap' ∧ (∀ ad, A' = some ad → w.heap.size ≤ ad.block ∧ ad.block < w'.heap.size) ∧ Below w.heap.size w w' := by
  have HB := Lib.hid (w3_below w A n cap k x s b c)
  have X0 := Lib.hid (w3_0 w A n cap k x s b c)
  have X1 := Lib.hid (w3_1 w A n cap k x s b c)
  have X2 := Lib.hid (w3_2 w A n cap k x s b c)
  have HL := Lib.hid hl
  have HV := Lib.hid (h.below HB.out)
  have HS : Hid (s.size ≤ 255) := small_S hx
  have hu55 := Try.underlying55
  have hu64 := Try.underlying64
  have hu25 := Try.underlying25
  have d1 : ¬ 4096 ≤ n := by omega
  have HR : Hid (∀ W, Calls Try.prog 67 #[.agg #[.int .i64 k, .int .i64 x, .string s, .bool b, .int .i64 c]] W fun e w' => e = .returned (.bool true) ∧ Below W.heap.size W w') := fun W => by have e := docRight (k, x, s, b, c) W; rwa [hx] at e
  rw [show held (k, x, s, b, c) = (k, x, foldS s, b, c) from rfl]
  obtain ⟨f, hf⟩ : ∃ f, foldS s = f := ⟨_, rfl⟩
  have HF : Hid (∀ W, Calls Try.prog 68 #[.agg #[.int .i64 k, .int .i64 x, .string s, .bool b, .int .i64 c]] W fun e w' => e = .returned (.agg #[.int .i64 k, .int .i64 x, .string f, .bool b, .int .i64 c]) ∧ Below W.heap.size W w') := fun W => by have e := docHeld k x s b c HS.out W; rwa [hf] at e
  rw [hf]
  clear h hl hx hf
  have Z0 : Hid ((w3 w A n cap k x s b c).cell? ⟨w.heap.size, 0, none⟩ = some (.slice A n cap)) := blk_cell X0.out 0
  have Y0 : Hid ((w3 w A n cap k x s b c).cell? ⟨w.heap.size + 1, 0, none⟩ = some (.int .i64 k)) := blk_cell X1.out 0
  have Y1 : Hid ((w3 w A n cap k x s b c).cell? ⟨w.heap.size + 1, 1, none⟩ = some (.int .i64 x)) := blk_cell X1.out 1
  have Y2 : Hid ((w3 w A n cap k x s b c).cell? ⟨w.heap.size + 1, 2, none⟩ = some (.string s)) := blk_cell X1.out 2
  have Y3 : Hid ((w3 w A n cap k x s b c).cell? ⟨w.heap.size + 1, 3, none⟩ = some (.bool b)) := blk_cell X1.out 3
  have Y4 : Hid ((w3 w A n cap k x s b c).cell? ⟨w.heap.size + 1, 4, none⟩ = some (.int .i64 c)) := blk_cell X1.out 4
  go_enter Try.func38, Try.ntmps38
  go_upto_region 5 with (go_at_call 67; refine (HR.out _).mono ?_; rintro e w2 ⟨rfl, hb⟩; have hbd := hb.drew; have HB3 : Hid (Below (w3 w A n cap k x s b c).heap.size (w3 w A n cap k x s b c) w2.drew) := hbd; have q0 := pw_cell_below hb Z0.out; have y0 := pw_cell_below hbd Y0.out; have y1 := pw_cell_below hbd Y1.out; have y2 := pw_cell_below hbd Y2.out; have y3 := pw_cell_below hbd Y3.out; have y4 := pw_cell_below hbd Y4.out; clear hb)
  have z0 := pw_cell_below HB3.out Z0.out
  clear q0 X0 X1
  generalize hw0 : w3 w A n cap k x s b c = W0 at HB X2 HV Z0 Y0 Y1 Y2 Y3 Y4 HB3
  clear hw0
  refine start_ (n := 11) (S := fun W => W.cell? ⟨w.heap.size, 0, none⟩ = some (.slice A n cap) ∧ W.cell? ⟨w.heap.size + 1, 0, none⟩ = some (.int .i64 k) ∧ W.cell? ⟨w.heap.size + 1, 1, none⟩ = some (.int .i64 x) ∧ W.cell? ⟨w.heap.size + 1, 2, none⟩ = some (.string s) ∧ W.cell? ⟨w.heap.size + 1, 3, none⟩ = some (.bool b) ∧ W.cell? ⟨w.heap.size + 1, 4, none⟩ = some (.int .i64 c)) (ds := [9]) (ba 11 0) (by kernel_rfl) rfl rfl ⟨z0, y0, y1, y2, y3, y4⟩ (fun hHeld => ?_)
  generalize w2.drew = w3 at z0 y0 y1 y2 y3 y4 HB3 hHeld ⊢
  refine pS (i := 1) (N := some 16) (ba 11 2) rfl rfl ?_
  refine tS hHeld (i := 2) (N := some 17) (ba 11 6) rfl rfl ?_
  refine tS hHeld (i := 4) (N := some 19) (ba 11 22) rfl rfl ?_
  refine one_ (i := 0) (N := some 15) (ba 11 23) rfl rfl (by kernel_rfl) (by decide) (fun K hK => ?_)
  refine value_ (v := .slice (some ⟨w3.heap.size, 0, none⟩) 0 0) (w1 := w3.alloc (.cells #[] 25)) (by rfl) rfl (by go_simp; try rfl) ?_
  have hba : Below w3.heap.size w3 (w3.alloc (.cells #[] 25)) := (Below.refl _ w3).alloc (Nat.le_refl _) _
  have HO : Hid (k25.R 25 (w3.alloc (.cells #[] 25)) W0.heap.size (fun _ => True) (.slice (some ⟨w3.heap.size, 0, none⟩) 0 0) []) := lit0 w3 W0.heap.size HB3.out.size
  replace z0 := pw_cell_below hba z0
  replace y0 := pw_cell_below hba y0
  replace y1 := pw_cell_below hba y1
  replace y2 := pw_cell_below hba y2
  replace y3 := pw_cell_below hba y3
  replace y4 := pw_cell_below hba y4
  have HB4 : Hid (Below W0.heap.size W0 (w3.alloc (.cells #[] 25))) := HB3.out.trans (hba.mono HB3.out.size)
  clear hba
  refine hK.out _ _ ⟨z0, y0, y1, y2, y3, y4⟩ (fun hHeld => nS (N := 15) ?_)
  clear hK K
  generalize w3.alloc (.cells #[] 25) = w4 at z0 y0 y1 y2 y3 y4 HB4 HO hHeld ⊢
  refine one_ (i := 3) (N := some 18) (ba 11 31) rfl rfl (by kernel_rfl) (by decide) (fun K hK => ?_)
  refine Kd.R_append_rows_step k25 (w0 := W0) (Rr := fun x cs => cs = enc5 x) W0.heap.size (by rfl) (.tmp 15) (.tmp 17) 55 25 (.agg #[.int .i64 0, .int .i64 0, .string ⟨#[]⟩, .bool false, .int .i64 0]) 48 rfl hu55 info25' rfl (by decide) (by decide) (.slice (some ⟨w3.heap.size, 0, none⟩) 0 0) [] l A n cap (fun _ => True) (fun _ => False) rfl rfl HO.out (HV.out.below HB4.out).rows (fun _ _ h => h) (fun _ h => h.elim) (fun _ _ => trivial) HB4.out HB4.out.size (by have := HL.out; rw [List.length_nil]; omega) ?_
  intro v1 w5 ho hb hg hat
  rw [List.nil_append] at ho
  have HO1 := Lib.hid ho
  have HB5 := Lib.hid hb
  obtain ⟨A1, c1, e1⟩ := Kd.R_slice ho
  subst e1
  clear ho hb hg hat HO
  replace z0 := (pw_cell_below HB5.out Z0.out)
  replace y0 := pw_cell_below HB5.out Y0.out
  replace y1 := pw_cell_below HB5.out Y1.out
  replace y2 := pw_cell_below HB5.out Y2.out
  replace y3 := pw_cell_below HB5.out Y3.out
  replace y4 := pw_cell_below HB5.out Y4.out
  refine hK.out _ _ ⟨z0, y0, y1, y2, y3, y4⟩ (fun hHeld => nS (N := 18) ?_)
  clear hK K
  refine one_ (i := 5) (N := some 20) (ba 11 63) rfl rfl (by kernel_rfl) (by decide) (fun K hK => ?_)
  refine goes_ Try.func68 (by kernel_rfl) rfl #[.agg #[.int .i64 k, .int .i64 x, .string s, .bool b, .int .i64 c]] (by rfl) rfl rfl (by (try simp only [List.map_toArray, List.map_cons, List.map_nil]); first | done | rfl) ?_
  refine (HF.out w5).mono ?_
  rintro e w6 ⟨rfl, hb⟩
  replace z0 := pw_cell_below hb z0
  replace y0 := pw_cell_below hb y0
  replace y1 := pw_cell_below hb y1
  replace y2 := pw_cell_below hb y2
  replace y3 := pw_cell_below hb y3
  replace y4 := pw_cell_below hb y4
  have HO2 := Lib.hid (Kd.R_below HO1.out hb)
  have HB6 := Lib.hid (HB5.out.trans (hb.mono HB5.out.size))
  clear hb HO1 HB5
  refine ⟨_, rfl, ?_⟩
  refine hK.out _ _ ⟨z0, y0, y1, y2, y3, y4⟩ (fun hHeld => nS (N := 20) ?_)
  clear hK K
  refine one_ (i := 6) (N := some 21) (ba 11 127) rfl rfl (by kernel_rfl) (by decide) (fun K hK => ?_)
  refine value_ (v := .slice (some ⟨w6.heap.size, 0, none⟩) 1 1) (w1 := w6.alloc (.cells (enc5 (k, x, f, b, c)).toArray 25)) (by rfl) rfl (by go_simp; try rfl) ?_
  have hba : Below w6.heap.size w6 (w6.alloc (.cells (enc5 (k, x, f, b, c)).toArray 25)) := (Below.refl _ w6).alloc (Nat.le_refl _) _
  replace z0 := pw_cell_below hba z0
  replace y0 := pw_cell_below hba y0
  replace y1 := pw_cell_below hba y1
  replace y2 := pw_cell_below hba y2
  replace y3 := pw_cell_below hba y3
  replace y4 := pw_cell_below hba y4
  clear hba
  refine hK.out _ _ ⟨z0, y0, y1, y2, y3, y4⟩ (fun hHeld => nS (N := 21) ?_)
  clear hK K
  refine one_ (i := 7) (N := some 22) (ba 11 255) rfl rfl (by kernel_rfl) (by decide) (fun K hK => ?_)
  refine Kd.R_append_step k25 (w0 := W0) W0.heap.size (by rfl) (.tmp 18) (.tmp 21) 55 25 (.agg #[.int .i64 0, .int .i64 0, .string ⟨#[]⟩, .bool false, .int .i64 0]) 48 rfl hu55 info25' rfl (by decide) (by decide) (.slice A1 l.length c1) l (k, x, f, b, c) (enc5 (k, x, f, b, c)) (fun _ => True) (fun _ => False) rfl rfl rfl (fun _ h => h.elim) (fun _ _ => trivial) HO2.out HB6.out HB6.out.size (by have := HL.out; have := HV.out.1; omega) ?_
  intro v2 w7 ho hb hg hat
  have HO3 := Lib.hid ho
  have HB7 := Lib.hid hb
  obtain ⟨A2, c2, e2⟩ := Kd.R_slice ho
  subst e2
  clear ho hb hg hat HO2 HB6
  replace z0 := (pw_cell_below HB7.out Z0.out)
  replace y0 := pw_cell_below HB7.out Y0.out
  replace y1 := pw_cell_below HB7.out Y1.out
  replace y2 := pw_cell_below HB7.out Y2.out
  replace y3 := pw_cell_below HB7.out Y3.out
  replace y4 := pw_cell_below HB7.out Y4.out
  refine hK.out _ _ ⟨z0, y0, y1, y2, y3, y4⟩ (fun hHeld => nS (N := 22) ?_)
  clear hK K
  have z2 := blk_cell (Lib.hid ((HB7.out.block _ (blk_lt X2.out)).trans X2.out)).out 0
  have f2 := blk_frozen (Lib.hid ((HB7.out.block _ (blk_lt X2.out)).trans X2.out)).out 0
  refine pS (i := 8) (N := some 23) (ba 11 511) rfl rfl ?_
  refine last_ (i := 9) (N := none) (ba 11 1023) rfl rfl (by kernel_rfl) (by decide) (fun K hK => ?_)
  refine skip_ (w1 := ?_) (by rfl) rfl ?_ ?_
  rotate_left
  · go_simp
    rfl
  refine hK.out _ _ ?_
  clear hK K
  refine pS (i := 10) (N := some 5) (ba 11 2047) rfl rfl ?_
  refine done_ (by kernel_rfl) ?_
  go_wp2
  have HX : Hid (w7.heap[w.heap.size + 2]? = some (.cells #[.slice none 0 0] 64 (0, 0))) := (HB7.out.block _ (blk_lt X2.out)).trans X2.out
  have hn := HV.out.1
  subst hn
  have hlen : (l ++ [((k, x, f, b, c) : Val)]).length = l.length + 1 := by rw [List.length_append]; rfl
  obtain ⟨A3, c3, e3, hc3, hC⟩ := Kd.R_reads (Kd.R_set HO3.out HX.out (fun q hq => by rw [List.mem_singleton.1 hq]; decide) 0 (.slice A2 (l ++ [(k, x, f, b, c)]).length c2))
  simp only [Value.slice.injEq, true_and] at e3
  obtain ⟨rfl, rfl⟩ := e3
  have hv := rows_VRow hC
  rw [hlen] at hv
  refine bodyPost_ret (results_row_tmp rfl _ _ (w.heap.size + 2) 64 #[.slice A2 (l.length + 1) c2] (0, 0) _ rfl (blk_put HX.out 0 (.slice A2 (l.length + 1) c2) rfl) hu64 rfl (by kernel_rfl)) rfl ?_
  exact ⟨A2, c2, rfl, hv, by rw [hlen] at hc3; exact hc3, row_lies HO3.out HB.out.size _ _, (HB.out.trans (HB7.out.mono HB.out.size)).setCell (Nat.le_trans (Nat.le_succ _) (Nat.le_succ _)) _⟩
end Go.Proofs.Ytjhinakfoejpbaa.T

/- The document's list behind a call; what the document and a tally tell of one list. No condition stands open. -/
namespace Go.Proofs.Ytjhinakfoejpbaa.T
open Go.RowKit Go.Proofs.Ytjhinakfoejpbaa Go.Proofs.Ytjhinakfoejpbaa.WPure Go.Proofs.YtjhinakfoejpbaaW.PrintWords Go.Proofs.YtjhinakfoejpbaaW.PrintLast Go.Proofs.YtjhinakfoejpbaaW.PrintMore
/-- the document's list behind Add -/
def docL (l : List Val) (x : Val) : List Val := if okV x = true then l ++ [held x] else l
theorem addL_doc {l : List Val} (x : Val) (hf : l.length < 4096) : (addL l x).Perm (docL l x) := by
  unfold addL docL
  by_cases hx : okV x = true
  · rw [if_pos ⟨hx, hf⟩, if_pos hx]
    exact (List.perm_append_comm (l₁ := [held x]) (l₂ := l))
  · rw [if_neg (fun z => hx z.1), if_neg hx]
theorem addE_doc {l : List Val} (x : Val) (hf : l.length < 4096) : addE l x = if okV x = true then 0 else 2 := by
  unfold addE
  rw [if_pos hf]
theorem docL_len (l : List Val) (x : Val) : (docL l x).length ≤ l.length + 1 := by
  unfold docL
  split
  · rw [List.length_append, List.length_singleton]; exact Nat.le_refl _
  · exact Nat.le_succ _
theorem takeOut_len (x : Val) : ∀ l : List Val, (takeOut x l).length ≤ l.length
  | [] => Nat.le_refl _
  | y :: l => by
    unfold takeOut
    split
    · exact Nat.le_succ _
    · exact Nat.succ_le_succ (takeOut_len x l)
theorem dropL_len (l : List Val) (x : Val) : (dropL l x).length ≤ l.length := by
  unfold dropL
  split
  · exact takeOut_len _ l
  · exact Nat.le_refl _
theorem takeOut_at {x : Val} : ∀ {l : List Val} {i : Nat}, l[i]? = some x → (∀ y ∈ l.take i, y ≠ x) → takeOut x l = l.take i ++ l.drop (i + 1)
  | [], i, h, _ => by simp at h
  | y :: l, 0, h, _ => by
    have e : y = x := by simpa using h
    unfold takeOut
    rw [if_pos e]
    simp
  | y :: l, i + 1, h, hn => by
    have e : y ≠ x := hn y (by simp)
    unfold takeOut
    rw [if_neg e, takeOut_at (i := i) (by simpa using h) (fun z hz => hn z (by rw [List.take_succ_cons]; exact List.mem_cons_of_mem _ hz))]
    rfl
theorem cnt_at {l : List Val} {i : Nat} {x : Val} (h : l[i]? = some x) : cnt l x ≠ 0 := by
  have h1 : 0 < cnt l x := List.countP_pos_iff.mpr ⟨x, List.mem_of_getElem? h, by simp⟩
  omega
theorem cnt_no {l : List Val} {x : Val} (h : ∀ y ∈ l, y ≠ x) : cnt l x = 0 := List.countP_eq_zero.2 (fun y hy => by simpa using h y hy)
theorem ne_succ {l : List Val} {i : Nat} {x y : Val} (h : l[i]? = some y) (hn : ∀ z ∈ l.take i, z ≠ x) (hy : y ≠ x) : ∀ z ∈ l.take (i + 1), z ≠ x := by
  intro z hz
  rw [List.take_add_one, h, List.mem_append] at hz
  rcases hz with hz | hz
  · exact hn z hz
  · have e : z = y := by simpa using hz
    exact e ▸ hy
theorem drop_found {l : List Val} {i : Nat} {X x : Val} (hx : okV x = true) (hX : held x = X) (h : l[i]? = some X) (hn : ∀ z ∈ l.take i, z ≠ X) : dropE l x = 0 ∧ dropL l x = l.take i ++ l.drop (i + 1) := by
  subst hX
  have h0 := cnt_at h
  refine ⟨?_, ?_⟩
  · unfold dropE
    rw [if_pos hx, if_neg h0]
  · unfold dropL
    rw [if_pos ⟨hx, h0⟩, takeOut_at h hn]
theorem drop_lost {l : List Val} {X x : Val} (hx : okV x = true) (hX : held x = X) (hn : ∀ z ∈ l, z ≠ X) : dropE l x = 8 ∧ dropL l x = l := by
  subst hX
  have h0 := cnt_no hn
  refine ⟨?_, ?_⟩
  · unfold dropE
    rw [if_pos hx, if_pos h0]
  · unfold dropL
    rw [if_neg (fun z => z.2 h0)]
theorem drop_wrong {l : List Val} {x : Val} (hx : okV x = false) : dropE l x = 2 ∧ dropL l x = l := by
  refine ⟨?_, ?_⟩
  · unfold dropE
    rw [if_neg (by rw [hx]; decide)]
  · unfold dropL
    rw [if_neg (fun z => by rw [hx] at z; exact absurd z.1 (by decide))]
/-! what is told -/
section
variable {l : List Val} (hok : ∀ x ∈ l, okV x = true) (hl : l.length ≤ 4096)
include hok hl
theorem sumT : toldD l (SN.sumN (numsL l)) = toldR l (sumR l) := by rw [told_eq hok, sumE (nums_good hok hl)]
theorem meanT : toldD l (SN.avgN (numsL l)) = toldR l (meanR l) := by rw [told_eq hok, meanE (nums_good hok hl)]
theorem leastT : toldD l (SN.leN (numsL l)) = toldR l (endR l 0) := by rw [told_eq hok, leastE (nums_good hok hl)]
theorem greatT : toldD l (SN.grN (numsL l)) = toldR l (endR l ((numsL l).length - 1)) := by rw [told_eq hok, greatE (nums_good hok hl)]
theorem midT : toldD l (SN.medN (numsL l)) = toldR l (midR l) := by rw [told_eq hok, midE (nums_good hok hl)]
theorem smallT (k : Int) : toldD l (SN.smallN (numsL l) k) = toldR l (smallR l k) := by rw [told_eq hok, smallE (nums_good hok hl)]
end
section
variable {w : World} {A : Option Addr} {n cap : Nat} {l : List Val} (h : VRow w A n l) (hl : n ≤ 4096)
include h hl
theorem docSumEq {r : Int × Int} (e : toldD l (SN.sumN (numsL l)) = r) : Calls Try.prog 69 #[.agg #[.slice A n cap]] w fun e w' => e = .returned (.tuple #[.int .i64 r.1, .int .i64 r.2]) ∧ Below w.heap.size w w' := e ▸ docSum h hl
theorem docMeanEq {r : Int × Int} (e : toldD l (SN.avgN (numsL l)) = r) : Calls Try.prog 70 #[.agg #[.slice A n cap]] w fun e w' => e = .returned (.tuple #[.int .i64 r.1, .int .i64 r.2]) ∧ Below w.heap.size w w' := e ▸ docMean h hl
theorem docLeastEq {r : Int × Int} (e : toldD l (SN.leN (numsL l)) = r) : Calls Try.prog 71 #[.agg #[.slice A n cap]] w fun e w' => e = .returned (.tuple #[.int .i64 r.1, .int .i64 r.2]) ∧ Below w.heap.size w w' := e ▸ docLeast h hl
theorem docGreatestEq {r : Int × Int} (e : toldD l (SN.grN (numsL l)) = r) : Calls Try.prog 72 #[.agg #[.slice A n cap]] w fun e w' => e = .returned (.tuple #[.int .i64 r.1, .int .i64 r.2]) ∧ Below w.heap.size w w' := e ▸ docGreatest h hl
theorem docMedianEq {r : Int × Int} (e : toldD l (SN.medN (numsL l)) = r) : Calls Try.prog 73 #[.agg #[.slice A n cap]] w fun e w' => e = .returned (.tuple #[.int .i64 r.1, .int .i64 r.2]) ∧ Below w.heap.size w w' := e ▸ docMedian h hl
theorem docSmallEq (k : Int) {r : Int × Int} (e : toldD l (SN.smallN (numsL l) k) = r) : Calls Try.prog 74 #[.agg #[.slice A n cap], .int .i64 k] w fun e w' => e = .returned (.tuple #[.int .i64 r.1, .int .i64 r.2]) ∧ Below w.heap.size w w' := e ▸ docSmall h hl k
theorem docCountEq (k : Int) {m : Nat} (e : kindR l k = m) : Calls Try.prog 75 #[.agg #[.slice A n cap], .int .i64 k] w fun e w' => e = .returned (.int .i64 (m : Int)) ∧ Below w.heap.size w w' := e ▸ docCount h hl k
theorem docFaultEq {m : Nat} (hok : ∀ x ∈ l, okV x = true) (e : faultR l = m) : Calls Try.prog 76 #[.agg #[.slice A n cap]] w fun e w' => e = .returned (.int .i64 (m : Int)) ∧ Below w.heap.size w w' := by
  have d := docFault (cap := cap) h hl
  rwa [flt_eq hok, e] at d
theorem docBelowEq (a : Int) {m : Nat} (e : belowR l a = m) : Calls Try.prog 77 #[.agg #[.slice A n cap], .int .i64 a] w fun e w' => e = .returned (.int .i64 (m : Int)) ∧ Below w.heap.size w w' := e ▸ docBelow h hl a
theorem docOftenEq (x : Val) {m : Nat} (e : oftenR l x = m) : Calls Try.prog 78 #[.agg #[.slice A n cap], vv x] w fun e w' => e = .returned (.int .i64 (m : Int)) ∧ Below w.heap.size w w' := by
  obtain ⟨k, y, s, b, c⟩ := x
  subst e
  unfold oftenR
  by_cases hx : okV (k, y, s, b, c) = true
  · rw [if_pos hx]
    exact docOften_yes h hl k y s b c hx
  · rw [if_neg hx]
    exact docOften_no h hl k y s b c ((Bool.not_eq_true _).mp hx)
end
end Go.Proofs.Ytjhinakfoejpbaa.T

/- The document's Drop. No condition stands open. -/
namespace Go.Proofs.Ytjhinakfoejpbaa.T
open Go.RowKit Go.Proofs.Ytjhinakfoejpbaa Go.Proofs.Ytjhinakfoejpbaa.WPure Go.Proofs.YtjhinakfoejpbaaW.PrintWords Go.Proofs.YtjhinakfoejpbaaW.PrintLast Go.Proofs.YtjhinakfoejpbaaW.PrintMore
attribute [local go_sem high] PG.eqA25
set_option maxHeartbeats 4000000 in
set_option maxRecDepth 100000 in
theorem docDrop_bad {w : World} {A : Option Addr} {n cap : Nat} (k x : Int) (s : ByteArray) (b : Bool) (c : Int) (hx : okV (k, x, s, b, c) = false) : Calls Try.prog 37 #[dt A n cap, .agg #[.int .i64 k, .int .i64 x, .string s, .bool b, .int .i64 c]] w fun e w' => e = .returned (.tuple #[dt A n cap, .int .i64 2]) ∧ Below w.heap.size w w' := by
  have HB := Lib.hid (w3_below w A n cap k x s b c)
  have X0 := Lib.hid (w3_0 w A n cap k x s b c)
  have X1 := Lib.hid (w3_1 w A n cap k x s b c)
  have X2 := Lib.hid (w3_2 w A n cap k x s b c)
  have hu55 := Try.underlying55
  have hu64 := Try.underlying64
  have hu25 := Try.underlying25
  have HR : Hid (∀ W, Calls Try.prog 67 #[.agg #[.int .i64 k, .int .i64 x, .string s, .bool b, .int .i64 c]] W fun e w' => e = .returned (.bool false) ∧ Below W.heap.size W w') := fun W => by have e := docRight (k, x, s, b, c) W; rwa [hx] at e
  clear hx
  go_enter Try.func37, Try.ntmps37
  go_wp2_with (go_at_call 67; refine (HR.out _).mono ?_; rintro e w2 ⟨rfl, hb⟩; have Y0 := Lib.hid ((hb.block _ (blk_lt X0.out)).trans X0.out); have Y2 := Lib.hid ((hb.block _ (blk_lt X2.out)).trans X2.out); have z0 := blk_cell Y0.out 0; have z2 := blk_cell Y2.out 0; have f2 := blk_frozen Y2.out 0; have HB2 := Lib.hid (HB.out.trans (hb.mono HB.out.size)); clear hb)
  refine bodyPost_ret (results_row_tmp rfl _ _ (w.heap.size + 2) 64 #[.slice A n cap] (0, 0) _ rfl (blk_put Y2.out 0 (.slice A n cap) rfl) hu64 rfl (by kernel_rfl)) rfl ?_
  exact ⟨rfl, HB2.out.setCell (Nat.le_trans (Nat.le_succ _) (Nat.le_succ _)) _⟩
set_option maxHeartbeats 8000000 in
set_option maxRecDepth 100000 in
theorem docDrop_ok {w : World} {A : Option Addr} {n cap : Nat} {l : List Val} (h : VRow w A n l) (hl : n ≤ 4096) (hcap : n ≤ cap) (k x : Int) (s : ByteArray) (b : Bool) (c : Int) (hx : okV (k, x, s, b, c) = true) : Calls Try.prog 37 #[dt A n cap, .agg #[.int .i64 k, .int .i64 x, .string s, .bool b, .int .i64 c]] w fun e w' => ∃ A' n' cap', e = .returned (.tuple #[dt A' n' cap', .int .i64 (dropE l (k, x, s, b, c))]) ∧ VRow w' A' n' (dropL l (k, x, s, b, c)) ∧ n' ≤ cap' ∧ (A' = A ∨ ∀ ad, A' = some ad → w.heap.size ≤ ad.block ∧ ad.block < w'.heap.size) ∧ Below w.heap.size w w' := by
  have HB := Lib.hid (w3_below w A n cap k x s b c)
  have X0 := Lib.hid (w3_0 w A n cap k x s b c)
  have X1 := Lib.hid (w3_1 w A n cap k x s b c)
  have X2 := Lib.hid (w3_2 w A n cap k x s b c)
  have HL := Lib.hid hl
  have HP := Lib.hid hcap
  have HV := Lib.hid (h.below HB.out)
  have H0 := Lib.hid h
  have HS : Hid (s.size ≤ 255) := small_S hx
  have hu55 := Try.underlying55
  have hu64 := Try.underlying64
  have hu25 := Try.underlying25
  have HR : Hid (∀ W, Calls Try.prog 67 #[.agg #[.int .i64 k, .int .i64 x, .string s, .bool b, .int .i64 c]] W fun e w' => e = .returned (.bool true) ∧ Below W.heap.size W w') := fun W => by have e := docRight (k, x, s, b, c) W; rwa [hx] at e
  obtain ⟨f, hf⟩ : ∃ f, foldS s = f := ⟨_, rfl⟩
  have HF : Hid (∀ W, Calls Try.prog 68 #[.agg #[.int .i64 k, .int .i64 x, .string s, .bool b, .int .i64 c]] W fun e w' => e = .returned (.agg #[.int .i64 k, .int .i64 x, .string f, .bool b, .int .i64 c]) ∧ Below W.heap.size W w') := fun W => by have e := docHeld k x s b c HS.out W; rwa [hf] at e
  have HH : Hid (held (k, x, s, b, c) = (k, x, f, b, c)) := congrArg (fun z => ((k, x, z, b, c) : Val)) hf
  have HOK := Lib.hid hx
  obtain ⟨dE, hdE⟩ : ∃ d, dropE l (k, x, s, b, c) = d := ⟨_, rfl⟩
  obtain ⟨dL, hdL⟩ : ∃ d, dropL l (k, x, s, b, c) = d := ⟨_, rfl⟩
  have HDE := Lib.hid hdE
  have HDL := Lib.hid hdL
  rw [hdE, hdL]
  clear h hl hx hf hcap hdE hdL
  have Z0 : Hid ((w3 w A n cap k x s b c).cell? ⟨w.heap.size, 0, none⟩ = some (.slice A n cap)) := blk_cell X0.out 0
  have Y0 : Hid ((w3 w A n cap k x s b c).cell? ⟨w.heap.size + 1, 0, none⟩ = some (.int .i64 k)) := blk_cell X1.out 0
  have Y1 : Hid ((w3 w A n cap k x s b c).cell? ⟨w.heap.size + 1, 1, none⟩ = some (.int .i64 x)) := blk_cell X1.out 1
  have Y2 : Hid ((w3 w A n cap k x s b c).cell? ⟨w.heap.size + 1, 2, none⟩ = some (.string s)) := blk_cell X1.out 2
  have Y3 : Hid ((w3 w A n cap k x s b c).cell? ⟨w.heap.size + 1, 3, none⟩ = some (.bool b)) := blk_cell X1.out 3
  have Y4 : Hid ((w3 w A n cap k x s b c).cell? ⟨w.heap.size + 1, 4, none⟩ = some (.int .i64 c)) := blk_cell X1.out 4
  go_enter Try.func37, Try.ntmps37
  go_wp2_with (go_at_call 67; refine (HR.out _).mono ?_; rintro e w2 ⟨rfl, hb⟩; have HB2 : Hid (Below (w3 w A n cap k x s b c).heap.size (w3 w A n cap k x s b c) w2) := hb; have z1 := pw_cell_below hb Z0.out; clear hb)
  try clear z1
  clear X0 X1
  generalize hw0 : w3 w A n cap k x s b c = W0 at HB X2 HV Z0 Y0 Y1 Y2 Y3 Y4 HB2
  clear hw0
  go_loopg [6] n (fun kq v6 wr => ∃ i : Nat, v6 = .int .i64 (i : Int) ∧ Hid (i + kq = n) ∧ Hid (∀ z ∈ l.take i, z ≠ (k, x, f, b, c)) ∧ Hid (Below W0.heap.size W0 wr))
  case atStart => exact ⟨0, rfl, (Nat.zero_add n : 0 + n = n), (fun z h => absurd h List.not_mem_nil : ∀ z ∈ l.take 0, z ≠ (k, x, f, b, c)), HB2⟩
  case round =>
    clear HB2
    obtain ⟨i, rfl, hi, HN, HB2⟩ := hrel
    by_cases hlt : i < n
    · obtain ⟨ad, y, rfl, hy, c0, c1, c2_, c3, c4⟩ := (HV.out.below HB2.out.drew).at hlt
      obtain ⟨k2, x2, s2, b2, c2⟩ := y
      have HB3 := Lib.hid HB2.out.drew
      have z0 := Z0.out
      have z1 := pw_cell_below HB3.out z0
      have y0 := pw_cell_below HB3.out Y0.out
      have y1 := pw_cell_below HB3.out Y1.out
      have y2 := pw_cell_below HB3.out Y2.out
      have y3 := pw_cell_below HB3.out Y3.out
      have y4 := pw_cell_below HB3.out Y4.out
      have q0 := pw_cell_below HB2.out z0
      have n0 : ((i : Int)).toNat = i := Int.toNat_natCast i
      have p0 : (0 : Int) ≤ (i : Int) := Int.natCast_nonneg i
      have l0 : (i : Int) < (n : Int) := by omega
      have d0 : decide ((i : Int) < (n : Int)) = true := decide_eq_true l0
      have d1 : i < n := hlt
      have wi : wrap64 ((i : Int) + 1) = (i : Int) + 1 := by have := HL.out; unfold wrap64; omega
      have HY := Lib.hid hy
      have HI := Lib.hid hlt
      clear hy hlt
      go_upto_region 6 with fail
      clear q0
      refine start_ (n := 8) (S := fun W => W.cell? ⟨w.heap.size, 0, none⟩ = some (.slice (some ad) n cap) ∧ W.cell? ⟨w.heap.size + 1, 0, none⟩ = some (.int .i64 k) ∧ W.cell? ⟨w.heap.size + 1, 1, none⟩ = some (.int .i64 x) ∧ W.cell? ⟨w.heap.size + 1, 2, none⟩ = some (.string s) ∧ W.cell? ⟨w.heap.size + 1, 3, none⟩ = some (.bool b) ∧ W.cell? ⟨w.heap.size + 1, 4, none⟩ = some (.int .i64 c) ∧ W.cell? (ad.add (i * 5)) = some (.int .i64 k2) ∧ W.cell? ⟨(ad.add (i * 5)).block, (ad.add (i * 5)).off + 1, none⟩ = some (.int .i64 x2) ∧ W.cell? ⟨(ad.add (i * 5)).block, (ad.add (i * 5)).off + 2, none⟩ = some (.string s2) ∧ W.cell? ⟨(ad.add (i * 5)).block, (ad.add (i * 5)).off + 3, none⟩ = some (.bool b2) ∧ W.cell? ⟨(ad.add (i * 5)).block, (ad.add (i * 5)).off + 4, none⟩ = some (.int .i64 c2)) (ds := []) (ba 8 0) (by kernel_rfl) rfl rfl ⟨z1, y0, y1, y2, y3, y4, c0, c1, c2_, c3, c4⟩ (fun hHeld => ?_)
      generalize wr.drew = w3_ at z1 y0 y1 y2 y3 y4 c0 c1 c2_ c3 c4 HB3 hHeld ⊢
      refine pS (i := 0) (N := some 18) (ba 8 1) rfl rfl ?_
      refine tS hHeld (i := 1) (N := some 19) (ba 8 3) rfl rfl ?_
      refine pS (i := 2) (N := some 20) (ba 8 7) rfl rfl ?_
      refine pS (i := 3) (N := some 21) (ba 8 15) rfl rfl ?_
      refine tS hHeld (i := 4) (N := some 22) (ba 8 31) rfl rfl ?_
      refine tS hHeld (i := 5) (N := some 23) (ba 8 63) rfl rfl ?_
      refine one_ (i := 6) (N := some 24) (ba 8 127) rfl rfl (by kernel_rfl) (by decide) (fun K hK => ?_)
      refine goes_ Try.func68 (by kernel_rfl) rfl #[.agg #[.int .i64 k, .int .i64 x, .string s, .bool b, .int .i64 c]] (by rfl) rfl rfl (by (try simp only [List.map_toArray, List.map_cons, List.map_nil]); first | done | rfl) ?_
      refine (HF.out w3_).mono ?_
      rintro e w4 ⟨rfl, hb⟩
      replace z1 := pw_cell_below hb z1
      replace y0 := pw_cell_below hb y0
      replace y1 := pw_cell_below hb y1
      replace y2 := pw_cell_below hb y2
      replace y3 := pw_cell_below hb y3
      replace y4 := pw_cell_below hb y4
      replace c0 := pw_cell_below hb c0
      replace c1 := pw_cell_below hb c1
      replace c2_ := pw_cell_below hb c2_
      replace c3 := pw_cell_below hb c3
      replace c4 := pw_cell_below hb c4
      have HB4 := Lib.hid (HB3.out.trans (hb.mono HB3.out.size))
      clear hb
      refine ⟨_, rfl, ?_⟩
      refine hK.out _ _ ⟨z1, y0, y1, y2, y3, y4, c0, c1, c2_, c3, c4⟩ (fun hHeld => nS (N := 24) ?_)
      clear hK K
      refine pS (i := 7) (N := some 25) (ba 8 255) rfl rfl ?_
      refine done_ (by kernel_rfl) ?_
      obtain ⟨q, hq⟩ : ∃ q, (k2 == k && (x2 == x && (s2.toList == f.toList && (b2 == b && c2 == c)))) = q := ⟨_, rfl⟩
      rw [hq]
      rw [beq_held] at hq
      cases q
      · have HN2 : Hid (∀ z ∈ l.take (i + 1), z ≠ (k, x, f, b, c)) := ne_succ HY.out HN.out (of_decide_eq_false hq)
        clear hq
        go_wp2
        go_roundg (gk - 1)
        case measure => have := hi.out; have := HI.out; omega
        case rel => exact ⟨i + 1, by first | rfl | exact congrArg _ wi, (by have := hi.out; have := HI.out; omega : i + 1 + (gk - 1) = n), HN2, HB4⟩
      · have HY2 : Hid (l[i]? = some (k, x, f, b, c)) := HY.out.trans (congrArg some (of_decide_eq_true hq))
        have HFD := Lib.hid (drop_found HOK.out HH.out HY2.out HN.out)
        obtain ⟨rr, hrr⟩ : ∃ rr, l.take i ++ l.drop (i + 1) = rr := ⟨_, rfl⟩
        obtain ⟨l1, hl1⟩ : ∃ l1, l.take i = l1 := ⟨_, rfl⟩
        obtain ⟨l2, hl2⟩ : ∃ l2, l.drop (i + 1) = l2 := ⟨_, rfl⟩
        have HLN : Hid (l1.length = i ∧ i < n) := ⟨by rw [← hl1, List.length_take]; have := HI.out; have := HV.out.1; omega, HI.out⟩
        obtain ⟨A3, hA3⟩ : ∃ A3 : Option Addr, (if cap = i + 1 then some ad else (some ad).map (·.add ((i + 1) * 5))) = A3 := ⟨_, rfl⟩
        obtain ⟨i9, hi9, _, hz1, _⟩ := info_parts info25'
        have kcut1 : ∀ W : World, (Instr.slice 55 (.slice (some ad) n cap) none (some (.int .i64 (i : Int))) none).run Try.prog W = .ok (.slice (some ad) i cap) W := fun W => by
          have h := cut_to (P := Try.prog) 55 25 .i64 Try.underlying55 hi9 (some ad) n cap (i : Int) (by omega) (by omega) HP.out W
          rwa [Int.toNat_natCast] at h
        have kcut2 : ∀ W : World, (Instr.slice 55 (.slice (some ad) n cap) (some (.int .i64 ((i : Int) + 1))) none none).run Try.prog W = .ok (.slice A3 (n - (i + 1)) (cap - (i + 1))) W := fun W => by
          have h := cut_from (P := Try.prog) 55 25 .i64 Try.underlying55 hi9 5 hz1 (some ad) n cap ((i : Int) + 1) (by omega) (by omega) W
          rw [show ((i : Int) + 1).toNat = i + 1 by omega] at h
          rw [← hA3]
          exact h
        have HL1 : Hid (∀ W, Below W0.heap.size W0 W → ReadsRow (fun x cs => cs = enc5 x) k25.sz W (some ad) i l1) := fun W hW => by
          have h := (HV.out.below hW).rows
          have hn := HV.out.1
          rw [← hn] at h
          have h2 := Kd.C_take (k := k25) (m := i) h (by have := HI.out; omega)
          rw [hl1, HLN.out.1] at h2
          exact h2
        have HL2 : Hid (∀ W, Below W0.heap.size W0 W → ReadsRow (fun x cs => cs = enc5 x) k25.sz W A3 (n - (i + 1)) l2) := fun W hW => by
          have h := (HV.out.below hW).rows
          have hn := HV.out.1
          rw [← hn] at h
          have h2 := Kd.C_drop (k := k25) (m := i + 1) (c := cap) h (by have := HI.out; omega) (by have := HP.out; omega)
          rw [List.length_drop, hl2, hn] at h2
          rw [← hA3]
          exact h2
        rw [hrr] at HFD
        rw [hl1, hl2] at hrr
        have HR12 := Lib.hid hrr
        have HB5 := Lib.hid HB4.out.drew
        replace z1 := pw_cell_below HB5.out z0
        replace y0 := pw_cell_below HB5.out Y0.out
        clear hq hrr hl1 hl2 hA3 hi9 hz1 y1 y2 y3 y4 c0 c1 c2_ c3 c4 HY HY2
        go_upto_region 7 with fail
        refine start_ (n := 15) (S := fun W => W.cell? ⟨w.heap.size, 0, none⟩ = some (.slice (some ad) n cap) ∧ W.cell? ⟨w.heap.size + 1, 0, none⟩ = some (.int .i64 k)) (ds := [13]) (ba 15 0) (by kernel_rfl) rfl rfl ⟨z1, y0⟩ (fun hHeld => ?_)
        generalize w4.drew = w5 at z1 y0 HB5 hHeld ⊢
        refine pS (i := 1) (N := some 27) (ba 15 2) rfl rfl ?_
        refine tS hHeld (i := 2) (N := some 28) (ba 15 6) rfl rfl ?_
        refine pS (i := 3) (N := some 29) (ba 15 14) rfl rfl ?_
        refine pS (i := 4) (N := some 30) (ba 15 30) rfl rfl ?_
        refine pS (i := 6) (N := some 32) (ba 15 94) rfl rfl ?_
        refine tS hHeld (i := 7) (N := some 33) (ba 15 222) rfl rfl ?_
        refine pS (i := 8) (N := some 34) (ba 15 478) rfl rfl ?_
        refine pS (i := 9) (N := some 35) (ba 15 990) rfl rfl ?_
        refine pS (i := 10) (N := some 36) (ba 15 2014) rfl rfl ?_
        refine one_ (i := 0) (N := some 26) (ba 15 2015) rfl rfl (by kernel_rfl) (by decide) (fun K hK => ?_)
        refine value_ (v := .slice (some ⟨w5.heap.size, 0, none⟩) 0 0) (w1 := w5.alloc (.cells #[] 25)) (by rfl) rfl (by go_simp; try rfl) ?_
        have hba : Below w5.heap.size w5 (w5.alloc (.cells #[] 25)) := (Below.refl _ w5).alloc (Nat.le_refl _) _
        have HO : Hid (k25.R 25 (w5.alloc (.cells #[] 25)) W0.heap.size (fun _ => True) (.slice (some ⟨w5.heap.size, 0, none⟩) 0 0) []) := lit0 w5 W0.heap.size HB5.out.size
        replace z1 := pw_cell_below hba z1
        replace y0 := pw_cell_below hba y0
        have HB6 : Hid (Below W0.heap.size W0 (w5.alloc (.cells #[] 25))) := HB5.out.trans (hba.mono HB5.out.size)
        clear hba
        refine hK.out _ _ ⟨z1, y0⟩ (fun hHeld => nS (N := 26) ?_)
        clear hK K
        generalize w5.alloc (.cells #[] 25) = w6 at z1 y0 HB6 HO hHeld ⊢
        refine one_ (i := 5) (N := some 31) (ba 15 2047) rfl rfl (by kernel_rfl) (by decide) (fun K hK => ?_)
        refine Kd.R_append_rows_step k25 (w0 := W0) (Rr := fun x cs => cs = enc5 x) W0.heap.size (by rfl) (.tmp 26) (.tmp 30) 55 25 (.agg #[.int .i64 0, .int .i64 0, .string ⟨#[]⟩, .bool false, .int .i64 0]) 48 rfl hu55 info25' rfl (by decide) (by decide) (.slice (some ⟨w5.heap.size, 0, none⟩) 0 0) [] l1 (some ad) i cap (fun _ => True) (fun _ => False) rfl rfl HO.out (HL1.out w6 HB6.out) (fun _ _ h => h) (fun _ h => h.elim) (fun _ _ => trivial) HB6.out HB6.out.size (by have := HL.out; rw [List.length_nil]; omega) ?_
        intro v1 w7 ho hb hg hat
        rw [List.nil_append] at ho
        have HO1 := Lib.hid ho
        have HB7 := Lib.hid hb
        obtain ⟨A1, c1_, e1⟩ := Kd.R_slice ho
        subst e1
        clear ho hb hg hat HO HB6
        replace z1 := pw_cell_below HB7.out z0
        replace y0 := pw_cell_below HB7.out Y0.out
        refine hK.out _ _ ⟨z1, y0⟩ (fun hHeld => nS (N := 31) ?_)
        clear hK K
        refine one_ (i := 11) (N := some 37) (ba 15 4095) rfl rfl (by kernel_rfl) (by decide) (fun K hK => ?_)
        refine Kd.R_append_rows_step k25 (w0 := W0) (Rr := fun x cs => cs = enc5 x) W0.heap.size (by rfl) (.tmp 31) (.tmp 36) 55 25 (.agg #[.int .i64 0, .int .i64 0, .string ⟨#[]⟩, .bool false, .int .i64 0]) 48 rfl hu55 info25' rfl (by decide) (by decide) (.slice A1 l1.length c1_) l1 l2 A3 (n - (i + 1)) (cap - (i + 1)) (fun _ => True) (fun _ => False) rfl rfl HO1.out (HL2.out w7 HB7.out) (fun _ _ h => h) (fun _ h => h.elim) (fun _ _ => trivial) HB7.out HB7.out.size (by have := HL.out; have := HLN.out; omega) ?_
        intro v2 w8 ho hb hg hat
        rw [HR12.out] at ho
        have HO3 := Lib.hid ho
        have HB8 := Lib.hid hb
        obtain ⟨A2, c2n, e2⟩ := Kd.R_slice ho
        subst e2
        clear ho hb hg hat HO1 HB7
        replace z1 := pw_cell_below HB8.out z0
        replace y0 := pw_cell_below HB8.out Y0.out
        refine hK.out _ _ ⟨z1, y0⟩ (fun hHeld => nS (N := 37) ?_)
        clear hK K
        have z2 : w8.cell? ⟨w.heap.size + 2, 0, none⟩ = some (.slice none 0 0) := blk_cell ((HB8.out.block _ (blk_lt X2.out)).trans X2.out) 0
        have f2 : w8.frozen? ⟨w.heap.size + 2, 0, none⟩ = false := blk_frozen ((HB8.out.block _ (blk_lt X2.out)).trans X2.out) 0
        refine pS (i := 12) (N := some 38) (ba 15 8191) rfl rfl ?_
        refine last_ (i := 13) (N := none) (ba 15 16383) rfl rfl (by kernel_rfl) (by decide) (fun K hK => ?_)
        refine skip_ (w1 := ?_) (by rfl) rfl ?_ ?_
        rotate_left
        · go_simp
          rfl
        refine hK.out _ _ ?_
        clear hK K
        refine pS (i := 14) (N := some 5) (ba 15 32767) rfl rfl ?_
        refine done_ (by kernel_rfl) ?_
        go_wp2
        have HX : Hid (w8.heap[w.heap.size + 2]? = some (.cells #[.slice none 0 0] 64 (0, 0))) := (HB8.out.block _ (blk_lt X2.out)).trans X2.out
        obtain ⟨A4, c4_, e4, hc4, hC⟩ := Kd.R_reads (Kd.R_set HO3.out HX.out (fun q hq => by rw [List.mem_singleton.1 hq]; decide) 0 (.slice A2 rr.length c2n))
        simp only [Value.slice.injEq, true_and] at e4
        obtain ⟨rfl, rfl⟩ := e4
        have hv := rows_VRow hC
        refine bodyPost_ret (results_row_tmp rfl _ _ (w.heap.size + 2) 64 #[.slice A2 rr.length c2n] (0, 0) _ rfl (blk_put HX.out 0 (.slice A2 rr.length c2n) rfl) hu64 rfl (by kernel_rfl)) rfl ?_
        have e1 := HFD.out.1
        have e2 := HFD.out.2
        rw [HDE.out] at e1
        rw [HDL.out] at e2
        subst e1 e2
        exact ⟨A2, _, c2n, rfl, hv, hc4, .inr (row_lies HO3.out HB.out.size _ _), (HB.out.trans (HB8.out.mono HB.out.size)).setCell (Nat.le_trans (Nat.le_succ _) (Nat.le_succ _)) _⟩
    · have e : i = n := by have := hi.out; omega
      have d0 : decide ((i : Int) < (n : Int)) = false := decide_eq_false (by omega)
      have d1 : ¬ i < n := hlt
      have HFD := Lib.hid (drop_lost (l := l) HOK.out HH.out (by have h := HN.out; rwa [e, ← HV.out.1, List.take_length] at h))
      have HX : Hid (wr.heap[w.heap.size + 2]? = some (.cells #[.slice none 0 0] 64 (0, 0))) := (HB2.out.block _ (blk_lt X2.out)).trans X2.out
      have q0 := pw_cell_below HB2.out Z0.out
      have z2 : wr.cell? ⟨w.heap.size + 2, 0, none⟩ = some (.slice none 0 0) := blk_cell HX.out 0
      have f2 : wr.frozen? ⟨w.heap.size + 2, 0, none⟩ = false := blk_frozen HX.out 0
      clear hi hlt e HN
      go_wp2
      have e1 := HFD.out.1
      have e2 := HFD.out.2
      rw [HDE.out] at e1
      rw [HDL.out] at e2
      subst e1 e2
      refine bodyPost_ret (results_row_tmp rfl _ _ (w.heap.size + 2) 64 #[.slice A n cap] (0, 0) _ rfl (blk_put HX.out 0 (.slice A n cap) rfl) hu64 rfl (by kernel_rfl)) rfl ?_
      exact ⟨A, n, cap, rfl, H0.out.below ((HB.out.trans (HB2.out.mono HB.out.size)).setCell (Nat.le_trans (Nat.le_succ _) (Nat.le_succ _)) _), HP.out, .inl rfl, (HB.out.trans (HB2.out.mono HB.out.size)).setCell (Nat.le_trans (Nat.le_succ _) (Nat.le_succ _)) _⟩
end Go.Proofs.Ytjhinakfoejpbaa.T

/- The document's Add and Drop of any value. No condition stands open. -/
namespace Go.Proofs.Ytjhinakfoejpbaa.T
open Go.RowKit Go.Proofs.Ytjhinakfoejpbaa Go.Proofs.Ytjhinakfoejpbaa.WPure Go.Proofs.YtjhinakfoejpbaaW.PrintWords Go.Proofs.YtjhinakfoejpbaaW.PrintLast Go.Proofs.YtjhinakfoejpbaaW.PrintMore
section
variable {w : World} {A : Option Addr} {n cap : Nat} {l : List Val} (h : VRow w A n l) (hc : n ≤ cap) (x : Val)
include h hc
theorem docAdd (hl : n < 4096) : Calls Try.prog 38 #[dt A n cap, vv x] w fun e w' => ∃ A' n' cap', e = .returned (.tuple #[dt A' n' cap', .int .i64 (addE l x)]) ∧ VRow w' A' n' (docL l x) ∧ n' ≤ cap' ∧ (A' = A ∨ ∀ ad, A' = some ad → w.heap.size ≤ ad.block ∧ ad.block < w'.heap.size) ∧ Below w.heap.size w w' := by
  obtain ⟨k, y, s, b, c⟩ := x
  rw [addE_doc _ (by rw [h.1]; exact hl)]
  unfold docL
  by_cases hx : okV (k, y, s, b, c) = true
  · rw [if_pos hx, if_pos hx]
    exact (docAdd_ok h hl k y s b c hx).mono fun e w' ⟨A', cap', h1, h2, h3, h4, h5⟩ => ⟨A', _, cap', h1, h2, h3, .inr h4, h5⟩
  · rw [if_neg hx, if_neg hx]
    exact (docAdd_bad h (by omega) k y s b c ((Bool.not_eq_true _).mp hx)).mono fun e w' ⟨h1, h2⟩ => ⟨A, n, cap, h1, h.below h2, hc, .inl rfl, h2⟩
theorem docDrop (hl : n ≤ 4096) : Calls Try.prog 37 #[dt A n cap, vv x] w fun e w' => ∃ A' n' cap', e = .returned (.tuple #[dt A' n' cap', .int .i64 (dropE l x)]) ∧ VRow w' A' n' (dropL l x) ∧ n' ≤ cap' ∧ (A' = A ∨ ∀ ad, A' = some ad → w.heap.size ≤ ad.block ∧ ad.block < w'.heap.size) ∧ Below w.heap.size w w' := by
  obtain ⟨k, y, s, b, c⟩ := x
  by_cases hx : okV (k, y, s, b, c) = true
  · exact docDrop_ok h hl hc k y s b c hx
  · have hx2 := (Bool.not_eq_true _).mp hx
    rw [(drop_wrong hx2).1, (drop_wrong hx2).2]
    exact (docDrop_bad k y s b c hx2).mono fun e w' ⟨h1, h2⟩ => ⟨A, n, cap, h1, h.below h2, hc, .inl rfl, h2⟩
end
end Go.Proofs.Ytjhinakfoejpbaa.T
