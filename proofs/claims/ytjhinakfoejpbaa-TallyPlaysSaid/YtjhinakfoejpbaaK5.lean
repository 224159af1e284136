/- TallyPlays: whatever is handed in, the call returns true, and nothing that lay there is turned. No condition stands open. -/
import Derived.Test.YtjhinakfoejpbaaJ7
import Derived.Test.YtjhinakfoejpbaaZS
import Derived.Test.YtjhinakfoejpbaaK3
import Derived.Test.YtjhinakfoejpbaaK4
set_option linter.unusedVariables false
set_option linter.unusedSimpArgs false
/- Rows of acts that are handed in, opened. No condition stands open. -/
namespace Go.Proofs.Ytjhinakfoejpbaa.T
open Go.ChangeShapes Go.WideShapes Go.ChangeAt Go.RowKit Go.Joins Go.Deep
/-- a row of acts: six cells each -/
def ARow (w : World) (A : Option Addr) (n : Nat) (l : List (Bool × Val)) : Prop :=
  l.length = n ∧ n ≤ 9223372036854775807 ∧ (0 < n → ∃ ad, A = some ad ∧ ∀ j x, l[j]? = some x → w.cell? (ad.add (j * 6)) = some (.bool x.1) ∧ w.cell? (ad.add (j * 6 + 1)) = some (.int .i64 x.2.1) ∧ w.cell? (ad.add (j * 6 + 2)) = some (.int .i64 x.2.2.1) ∧ w.cell? (ad.add (j * 6 + 3)) = some (.string x.2.2.2.1) ∧ w.cell? (ad.add (j * 6 + 4)) = some (.bool x.2.2.2.2.1) ∧ w.cell? (ad.add (j * 6 + 5)) = some (.int .i64 x.2.2.2.2.2))
theorem ARow.below {w w' : World} {A : Option Addr} {n : Nat} {l : List (Bool × Val)} (h : ARow w A n l) (hb : Below w.heap.size w w') : ARow w' A n l :=
  ⟨h.1, h.2.1, fun hn => by
    obtain ⟨ad, e, hc⟩ := h.2.2 hn
    refine ⟨ad, e, fun j x hj => ?_⟩
    obtain ⟨h0, h1, h2, h3, h4, h5⟩ := hc j x hj
    exact ⟨Go.Proofs.YtjhinakfoejpbaaW.PrintWords.pw_cell_below hb h0, Go.Proofs.YtjhinakfoejpbaaW.PrintWords.pw_cell_below hb h1, Go.Proofs.YtjhinakfoejpbaaW.PrintWords.pw_cell_below hb h2, Go.Proofs.YtjhinakfoejpbaaW.PrintWords.pw_cell_below hb h3, Go.Proofs.YtjhinakfoejpbaaW.PrintWords.pw_cell_below hb h4, Go.Proofs.YtjhinakfoejpbaaW.PrintWords.pw_cell_below hb h5⟩⟩
theorem ARow.at {w : World} {A : Option Addr} {n : Nat} {l : List (Bool × Val)} (h : ARow w A n l) {i : Nat} (hi : i < n) : ∃ ad d x, A = some ad ∧ l[i]? = some (d, x) ∧ w.cell? (ad.add (i * 6)) = some (.bool d) ∧ w.cell? ⟨(ad.add (i * 6)).block, (ad.add (i * 6)).off + 1, none⟩ = some (.int .i64 x.1) ∧ w.cell? ⟨(ad.add (i * 6)).block, (ad.add (i * 6)).off + 2, none⟩ = some (.int .i64 x.2.1) ∧ w.cell? ⟨(ad.add (i * 6)).block, (ad.add (i * 6)).off + 3, none⟩ = some (.string x.2.2.1) ∧ w.cell? ⟨(ad.add (i * 6)).block, (ad.add (i * 6)).off + 4, none⟩ = some (.bool x.2.2.2.1) ∧ w.cell? ⟨(ad.add (i * 6)).block, (ad.add (i * 6)).off + 5, none⟩ = some (.int .i64 x.2.2.2.2) := by
  obtain ⟨ad, e, hc⟩ := h.2.2 (by omega)
  have hi2 : i < l.length := by rw [h.1]; exact hi
  obtain ⟨c0, c1, c2, c3, c4, c5⟩ := hc i _ (List.getElem?_eq_getElem hi2)
  rw [Go.Proofs.YtjhinakfoejpbaaW.PrintWords.add_field _ _ _ (by decide)] at c1 c2 c3 c4 c5
  exact ⟨ad, _, _, e, List.getElem?_eq_getElem hi2, c0, c1, c2, c3, c4, c5⟩
section
variable {H : Type} {enc : TypeId × Value → H} {w : World} {base : Nat} {spare : Nat → Bool} {held : Bool}
theorem list6 {α : Type} {l : List α} (h : l.length = 6) : ∃ a b c d e f, l = [a, b, c, d, e, f] := by
  match l, h with
  | [a, b, c, d, e, f], _ => exact ⟨a, b, c, d, e, f, rfl⟩
theorem trod_struct2 {P : Program} {t : TypeId} {f0 f1 : Field} {fuel : Nat} {cs : List Value} {x : DataW H × List MemPlace} (ht : P.underlying t = some (.struct #[f0, f1])) (h : DataW.trod enc P w base spare held fuel t cs = some x) :
    ∃ y0 y1 n, DataW.trod enc P w base spare held n f0.type ((cs.drop f0.offset).take (P.cellsOf f0.type)) = some y0 ∧ DataW.trod enc P w base spare held n f1.type ((cs.drop f1.offset).take (P.cellsOf f1.type)) = some y1 := by
  obtain ⟨xs, n, _, rfl, hl, hlen, hf⟩ := DataW.trod_struct ht h
  match xs, hlen with
  | [y0, y1], _ => exact ⟨y0, y1, n, by simpa using hf 0 f0 rfl, by simpa using hf 1 f1 rfl⟩
theorem cells66 : Try.prog.cellsOf 66 = 6 := by kernel_rfl
theorem trod_act {fuel : Nat} {d c0 c1 c2 c3 c4 : Value} {x : DataW H × List MemPlace} (h : DataW.trod enc Try.prog w base spare held fuel 66 [d, c0, c1, c2, c3, c4] = some x) :
    ∃ (q : Bool) (k n : Int) (s : ByteArray) (b : Bool) (c : Int), d = .bool q ∧ c0 = .int .i64 k ∧ c1 = .int .i64 n ∧ c2 = .string s ∧ c3 = .bool b ∧ c4 = .int .i64 c := by
  obtain ⟨y0, y1, n, h0, h1⟩ := trod_struct2 Try.underlying66 h
  obtain ⟨q, q0, _⟩ := DataW.trod_bool Try.underlying4 h0
  simp only [cells4, cells25] at q0 h1
  have e1 : DataW.trod enc Try.prog w base spare held n 25 [c0, c1, c2, c3, c4] = some y1 := by simpa using h1
  obtain ⟨k, n1, s, b, c, rfl, rfl, rfl, rfl, rfl⟩ := trod_val e1
  exact ⟨q, k, n1, s, b, c, by simpa using q0, rfl, rfl, rfl, rfl, rfl⟩
theorem open_acts {a : Option Addr} {len cap : Nat} {d : DataW H} {p : List MemPlace} (h : DataW.Trod enc Try.prog w base spare held 62 (.slice a len cap) d p) : ∃ l, ARow w a len l := by
  obtain ⟨hm, hx⟩ := slice_len Try.underlying62 h
  rcases Nat.eq_zero_or_pos len with h0 | h0
  · subst h0
    exact ⟨[], rfl, hm, fun z => absurd z (by omega)⟩
  · obtain ⟨ad, rfl, hx2⟩ := hx h0
    obtain ⟨l, hl, hp⟩ := each_list (α := Bool × Val) (p := fun j x => w.cell? (ad.add (j * 6)) = some (.bool x.1) ∧ w.cell? (ad.add (j * 6 + 1)) = some (.int .i64 x.2.1) ∧ w.cell? (ad.add (j * 6 + 2)) = some (.int .i64 x.2.2.1) ∧ w.cell? (ad.add (j * 6 + 3)) = some (.string x.2.2.2.1) ∧ w.cell? (ad.add (j * 6 + 4)) = some (.bool x.2.2.2.2.1) ∧ w.cell? (ad.add (j * 6 + 5)) = some (.int .i64 x.2.2.2.2.2)) len (fun i hi => by
      obtain ⟨cs, n, x, h1, h2⟩ := hx2 i hi
      rw [cells66] at h1
      obtain ⟨_, hlen, hcell⟩ := World.cells?_some h1
      obtain ⟨c0, c1, c2, c3, c4, c5, rfl⟩ := list6 hlen
      obtain ⟨q, k, n, s, b, c, rfl, rfl, rfl, rfl, rfl, rfl⟩ := trod_act h2
      have e0 := hcell 0 (by omega)
      have e1 := hcell 1 (by omega)
      have e2 := hcell 2 (by omega)
      have e3 := hcell 3 (by omega)
      have e4 := hcell 4 (by omega)
      have e5 := hcell 5 (by omega)
      rw [Go.Proofs.YtjhinakfoejpbaaW.PrintWords.add_add] at e0 e1 e2 e3 e4 e5
      exact ⟨(q, k, n, s, b, c), e0, e1, e2, e3, e4, e5⟩)
    exact ⟨l, hl, hm, fun _ => ⟨ad, rfl, hp⟩⟩
end
end Go.Proofs.Ytjhinakfoejpbaa.T

/- A tally and the document's list beside it, in memory. No condition stands open. -/
namespace Go.Proofs.Ytjhinakfoejpbaa.T
open Go.RowKit Go.Proofs.Ytjhinakfoejpbaa Go.Proofs.Ytjhinakfoejpbaa.WPure Go.Proofs.YtjhinakfoejpbaaW.PrintWords Go.Proofs.YtjhinakfoejpbaaW.PrintLast Go.Proofs.YtjhinakfoejpbaaW.PrintMore
theorem cell_same {w w' : World} {p : Addr} (h : w'.heap[p.block]? = w.heap[p.block]?) : w'.cell? p = w.cell? p := by
  unfold World.cell?
  rw [h]
theorem add_block (a : Addr) (j : Nat) : (a.add j).block = a.block := by
  unfold Addr.add
  split <;> rfl
/-- a row whose block lies as it lay -/
theorem VRow.moved {w w' : World} {A : Option Addr} {n : Nat} {l : List Val} (h : VRow w A n l) (hb : ∀ ad, A = some ad → w'.heap[ad.block]? = w.heap[ad.block]?) : VRow w' A n l := by
  refine ⟨h.1, h.2.1, fun hn => ?_⟩
  obtain ⟨ad, e, hc⟩ := h.2.2 hn
  have hm : ∀ j, w'.cell? (ad.add j) = w.cell? (ad.add j) := fun j => cell_same (by rw [add_block]; exact hb ad e)
  refine ⟨ad, e, fun j x hj => ?_⟩
  obtain ⟨c0, c1, c2, c3, c4⟩ := hc j x hj
  exact ⟨(hm _).trans c0, (hm _).trans c1, (hm _).trans c2, (hm _).trans c3, (hm _).trans c4⟩
/-- a tally, and in block M the document's one -/
structure Play (w0 w : World) (M g i : Nat) (A : Option Addr) (n cap : Nat) (l : List Val) : Prop where
  tal : ∃ S : Nat → Prop, Tal w S g i l ∧ (∀ b, S b → w0.heap.size ≤ b ∧ b ≠ M) ∧ ∀ ad, A = some ad → ¬ S ad.block
  box : w.heap[M]? = some (.cells #[.slice A n cap] 64 (0, 0))
  row : VRow w A n l
  cap : n ≤ cap
  few : n ≤ i
  far : ∀ ad, A = some ad → ad.block < w.heap.size ∧ ad.block ≠ M
  low : w0.heap.size ≤ M
  bel : Below w0.heap.size w0 w
theorem Play.below {w0 w w' : World} {M g i : Nat} {A : Option Addr} {n cap : Nat} {l : List Val} (h : Play w0 w M g i A n cap l) (hb : Below w.heap.size w w') : Play w0 w' M g i A n cap l := by
  obtain ⟨⟨S, ht, h1, h2⟩, h3, h4, h5, h6, h7, h8, h9⟩ := h
  exact ⟨⟨S, ht.below hb, h1, h2⟩, (hb.block _ (blk_lt h3)).trans h3, h4.below hb, h5, h6, fun ad e => ⟨Nat.lt_of_lt_of_le (h7 ad e).1 hb.size, (h7 ad e).2⟩, h8, h9.trans (hb.mono h9.size)⟩
/-- the same, the document's list being one step ahead -/
structure Mid (w0 w : World) (M g i : Nat) (A : Option Addr) (n cap : Nat) (l l2 : List Val) : Prop where
  tal : ∃ S : Nat → Prop, Tal w S g i l ∧ (∀ b, S b → w0.heap.size ≤ b ∧ b ≠ M) ∧ (∀ ad, A = some ad → ¬ S ad.block) ∧ ∀ b, w.heap.size ≤ b → S b
  box : w.heap[M]? = some (.cells #[.slice A n cap] 64 (0, 0))
  row : VRow w A n l2
  cap : n ≤ cap
  few : n ≤ i + 1
  far : ∀ ad, A = some ad → ad.block < w.heap.size ∧ ad.block ≠ M
  low : w0.heap.size ≤ M
  bel : Below w0.heap.size w0 w
theorem Play.mid {w0 w w1 : World} {M g i : Nat} {A A2 : Option Addr} {n cap n2 cap2 : Nat} {l l2 : List Val} (h : Play w0 w M g i A n cap l) (hb : Below w.heap.size w w1) (hr : VRow w1 A2 n2 l2) (hc : n2 ≤ cap2) (hn : n2 ≤ i + 1) (hf : A2 = A ∨ ∀ ad, A2 = some ad → w.heap.size ≤ ad.block) (hlt : ∀ ad, A2 = some ad → ad.block < w1.heap.size) :
    Mid w0 (w1.setCell ⟨M, 0, none⟩ (.slice A2 n2 cap2)) M g i A2 n2 cap2 l l2 := by
  obtain ⟨⟨S, ht, h1, h2⟩, h3, h4, h5, h6, h7, h8, h9⟩ := h
  have hM : M < w.heap.size := blk_lt h3
  have hsz : (w1.setCell ⟨M, 0, none⟩ (.slice A2 n2 cap2)).heap.size = w1.heap.size := by simp [World.setCell]
  have hsize := hb.size
  have hfar : ∀ ad, A2 = some ad → ad.block ≠ M := by
    intro ad e
    rcases hf with rfl | hf
    · exact (h7 ad e).2
    · have := hf ad e
      omega
  have hK : Keeps (fun b => b = M) w (w1.setCell ⟨M, 0, none⟩ (.slice A2 n2 cap2)) := Keeps.setCell (S := fun b => b = M) (Keeps.of_below hb) (p := ⟨M, 0, none⟩) rfl _
  have ht2 : Tal (w1.setCell ⟨M, 0, none⟩ (.slice A2 n2 cap2)) (fun b => S b ∧ b < w.heap.size) g i l := (ht.narrow (fun b hb hl => ⟨hb, hl⟩)).kept hK (fun b hb _ => (h1 b hb.1).2)
  refine ⟨⟨fun b => (S b ∧ b < w.heap.size) ∨ w1.heap.size ≤ b, ht2.narrow (fun b hb _ => .inl hb), fun b hb => ?_, fun ad e => ?_, fun b hb => .inr (by rw [hsz] at hb; exact hb)⟩, ?_, ?_, hc, hn, fun ad e => ⟨by rw [hsz]; exact hlt ad e, hfar ad e⟩, h8, ?_⟩
  · have hlow := Nat.le_trans h9.size hsize
    rcases hb with hb | hb
    · exact h1 b hb.1
    · exact ⟨by omega, by omega⟩
  · rintro (hs | hs)
    · rcases hf with rfl | hf
      · exact h2 ad e hs.1
      · have := hf ad e
        omega
    · have := hlt ad e
      omega
  · exact blk_put ((hb.block _ hM).trans h3) 0 _ rfl
  · exact hr.moved (fun ad e => Below.heap_setCell w1 _ _ _ (hfar ad e))
  · exact (h9.trans (hb.mono h9.size)).setCell h8 _
section
variable {w0 w : World} {M g i : Nat} {A : Option Addr} {n cap : Nat} {l l2 : List Val} {x : Val}
theorem Mid.play (h : Mid w0 w M g i A n cap l l2) {w' : World} {S : Nat → Prop} (hS : (∀ b, S b → w0.heap.size ≤ b ∧ b ≠ M) ∧ ∀ ad, A = some ad → ¬ S ad.block) {L : List Val} (ht : Tal w' S g (i + 1) L) (hk : Keeps S w w') (hp : L.Perm l2) : Play w0 w' M g (i + 1) A n cap l2 := by
  obtain ⟨_, h3, h4, h5, h6, h7, h8, h9⟩ := h
  have hM : M < w.heap.size := blk_lt h3
  refine ⟨⟨S, ht.perm hp, hS.1, hS.2⟩, (hk.block M hM (fun z => (hS.1 M z).2 rfl)).trans h3, h4.moved (fun ad e => hk.block _ (h7 ad e).1 (hS.2 ad e)), h5, h6, fun ad e => ⟨Nat.lt_of_lt_of_le (h7 ad e).1 hk.size, (h7 ad e).2⟩, h8, h9.trans (hk.below h9.size (fun k q => (hS.1 k q).1))⟩
theorem Mid.add (h : Mid w0 w M g i A n cap l (docL l x)) (hi : i < 1099511627776) (hl : l.length < 4096) : Calls Try.prog 14 #[.pointer (some ⟨g, 0, none⟩), vv x] w fun e w' => e = .returned (.int .i64 (addE l x)) ∧ Play w0 w' M g (i + 1) A n cap (docL l x) := by
  obtain ⟨S, ht, h1, h2, hS⟩ := h.tal
  exact (ht.add x hi hS).mono fun e w' ⟨he, ht', hk⟩ => ⟨he, h.play ⟨h1, h2⟩ ht' hk (addL_doc x hl)⟩
theorem Mid.drop (h : Mid w0 w M g i A n cap l (dropL l x)) (hi : i < 1099511627776) : Calls Try.prog 15 #[.pointer (some ⟨g, 0, none⟩), vv x] w fun e w' => e = .returned (.int .i64 (dropE l x)) ∧ Play w0 w' M g (i + 1) A n cap (dropL l x) := by
  obtain ⟨S, ht, h1, h2, hS⟩ := h.tal
  exact (ht.drop x hi hS).mono fun e w' ⟨he, ht', hk⟩ => ⟨he, h.play ⟨h1, h2⟩ ht' hk (List.Perm.refl _)⟩
end
end Go.Proofs.Ytjhinakfoejpbaa.T

/- TallyPlays: whatever is handed in, the call returns true, and nothing that lay there is turned. No condition stands open beyond what it reads. -/
namespace Go.Proofs.Ytjhinakfoejpbaa.T
open Go.RowKit Go.Proofs.Ytjhinakfoejpbaa Go.Proofs.Ytjhinakfoejpbaa.WPure Go.Proofs.YtjhinakfoejpbaaW.PrintWords Go.Proofs.YtjhinakfoejpbaaW.PrintLast Go.Proofs.YtjhinakfoejpbaaW.PrintMore
theorem same_play {w0 w : World} {M g i : Nat} {A : Option Addr} {n cap : Nat} {l : List Val} (h : Play w0 w M g i A n cap l) (k a : Int) (v : Val) : Calls Try.prog 39 #[.pointer (some ⟨g, 0, none⟩), dt A n cap, .int .i64 k, .int .i64 a, vv v] w fun e w' => e = .returned (.bool true) ∧ Below w.heap.size w w' := by
  obtain ⟨S, ht, _⟩ := h.tal
  exact same_any ht h.row k a v
theorem play_start {W1 w2 : World} {g : Nat} (ht : Tal w2 (fun b => W1.heap.size ≤ b) g 0 []) (hb : Below W1.heap.size W1 w2) : Play W1 (w2.alloc (.cells #[.slice none 0 0] 64)) w2.heap.size g 0 none 0 0 [] :=
  have ha : Below w2.heap.size w2 (w2.alloc (.cells #[.slice none 0 0] 64)) := (Below.refl _ w2).alloc (Nat.le_refl _) _
  ⟨⟨fun b => W1.heap.size ≤ b ∧ b < w2.heap.size, (ht.narrow (fun b h1 h2 => ⟨h1, h2⟩)).below ha, fun b h => ⟨h.1, Nat.ne_of_lt h.2⟩, fun ad e => nomatch e⟩, heap_alloc_new w2 _, ⟨rfl, by decide, fun h => absurd h (by decide)⟩, Nat.le_refl _, Nat.le_refl _, (fun ad e => nomatch e), hb.size, hb.trans (ha.mono hb.size)⟩
set_option maxHeartbeats 16000000 in
set_option maxRecDepth 100000 in
theorem plays_main (A : Option Addr) (n cap : Nat) (l : List (Bool × Val)) (k a : Int) (v : Val) (w : World) (h : ARow w A n l) (hn : n ≤ 60) : Calls Try.prog 8 #[.slice A n cap, .int .i64 k, .int .i64 a, vv v] w fun e w' => e = .returned (.bool true) ∧ Below w.heap.size w w' := by
  have hu62 := Try.underlying62
  have hu64 := Try.underlying64
  have hu25 := Try.underlying25
  have hu66 := Try.underlying66
  have HN := Lib.hid hn
  have HA := Lib.hid h
  have d0 : ¬ 60 < n := by omega
  have HW : Hid (Below w.heap.size w (w.alloc (.cells #[.int .i64 v.1, .int .i64 v.2.1, .string v.2.2.1, .bool v.2.2.2.1, .int .i64 v.2.2.2.2] 25))) := (Below.refl _ w).alloc (Nat.le_refl _) _
  have X7 : Hid (BoxAt (w.alloc (.cells #[.int .i64 v.1, .int .i64 v.2.1, .string v.2.2.1, .bool v.2.2.2.1, .int .i64 v.2.2.2.2] 25)) w.heap.size v.1 v.2.1 v.2.2.1 v.2.2.2.1 v.2.2.2.2) := heap_alloc_new w _
  clear hn h
  go_enter Try.func8, Try.ntmps8
  go_upto_region 4 with (go_at_call 23; refine (Tal.new _).mono ?_; rintro e w2 ⟨rfl, ht, hb⟩; have HS := Lib.hid (play_start ht hb); clear ht hb)
  rw [World.size_alloc] at HS
  generalize w.alloc (.cells #[.int .i64 v.1, .int .i64 v.2.1, .string v.2.2.1, .bool v.2.2.2.1, .int .i64 v.2.2.2.2] 25) = W1 at HW X7 HS
  obtain ⟨g, hg⟩ : ∃ g, w.heap.size + 1 + 2 = g := ⟨_, rfl⟩
  rw [hg] at HS ⊢
  obtain ⟨M, hM⟩ : ∃ M, w2.heap.size = M := ⟨_, rfl⟩
  rw [hM] at HS ⊢
  generalize w2.alloc (.cells #[.slice none 0 0] 64) = w3 at HS ⊢
  clear hg hM
  go_wp2
  go_loopg [11] n (fun kq v11 wr => ∃ (i : Nat) (A1 : Option Addr) (n1 cap1 : Nat) (L : List Val), v11 = .int .i64 (i : Int) ∧ Hid (i + kq = n) ∧ Hid (Play W1 wr M g i A1 n1 cap1 L))
  case atStart => exact ⟨0, none, 0, 0, [], rfl, (Nat.zero_add n : 0 + n = n), HS⟩
  case round =>
    clear HS
    obtain ⟨i, A1, n1, cap1, L, rfl, hi, HP⟩ := hrel
    have HB : Hid (Below w.heap.size w wr) := HW.out.trans (HP.out.bel.mono HW.out.size)
    by_cases hlt : i < n
    · obtain ⟨ad, d, x, rfl, hx, g0, g1, g2, g3, g4, g5⟩ := HA.out.at hlt
      have G1 := Lib.hid g1
      have G2 := Lib.hid g2
      have G3 := Lib.hid g3
      have G4 := Lib.hid g4
      have G5 := Lib.hid g5
      have c0 := pw_cell_below HB.out g0
      have n0 : ((i : Int)).toNat = i := Int.toNat_natCast i
      have p0 : (0 : Int) ≤ (i : Int) := Int.natCast_nonneg i
      have l0 : (i : Int) < (n : Int) := by omega
      have l1 : i < n := hlt
      have wi : wrap64 ((i : Int) + 1) = (i : Int) + 1 := by have := HN.out; unfold wrap64; omega
      have HI := Lib.hid hlt
      have HI60 : Hid (i < 60) := by have := HN.out; show _ < _; omega
      have HLL : Hid (L.length < 4096) := by have h1 := HP.out.row.1; have h2 := HP.out.few; have h3 := HN.out; show _ < _; omega
      clear hx hlt g0 g1 g2 g3 g4 g5
      cases d
      · have HLS : Hid (n1 < 4096) := by have h2 := HP.out.few; have h3 := HI60.out; show _ < _; omega
        go_upto_region 13 with fail
        clear c0
        replace HP := Lib.hid (HP.out.below (Below.refl wr.heap.size wr).drew)
        replace HB := Lib.hid HB.out.drew
        have z10 : wr.drew.cell? ⟨M, 0, none⟩ = some (.slice A1 n1 cap1) := blk_cell HP.out.box 0
        have c1 := pw_cell_below HB.out G1.out
        have c2 := pw_cell_below HB.out G2.out
        have c3 := pw_cell_below HB.out G3.out
        have c4 := pw_cell_below HB.out G4.out
        have c5 := pw_cell_below HB.out G5.out
        refine start_ (n := 13) (S := fun W => W.cell? ⟨M, 0, none⟩ = some (.slice A1 n1 cap1) ∧ W.cell? ⟨(ad.add (i * 6)).block, (ad.add (i * 6)).off + 1, none⟩ = some (.int .i64 x.1) ∧ W.cell? ⟨(ad.add (i * 6)).block, (ad.add (i * 6)).off + 2, none⟩ = some (.int .i64 x.2.1) ∧ W.cell? ⟨(ad.add (i * 6)).block, (ad.add (i * 6)).off + 3, none⟩ = some (.string x.2.2.1) ∧ W.cell? ⟨(ad.add (i * 6)).block, (ad.add (i * 6)).off + 4, none⟩ = some (.bool x.2.2.2.1) ∧ W.cell? ⟨(ad.add (i * 6)).block, (ad.add (i * 6)).off + 5, none⟩ = some (.int .i64 x.2.2.2.2)) (ds := [11]) (ba 13 0) (by kernel_rfl) rfl rfl ⟨z10, c1, c2, c3, c4, c5⟩ (fun hHeld => ?_)
        generalize wr.drew = w3 at z10 c1 c2 c3 c4 c5 HP HB hHeld ⊢
        refine tS hHeld (i := 0) (N := some 64) (ba 13 1) rfl rfl ?_
        refine pS (i := 1) (N := some 65) (ba 13 3) rfl rfl ?_
        refine pS (i := 2) (N := some 66) (ba 13 7) rfl rfl ?_
        refine pS (i := 3) (N := some 67) (ba 13 15) rfl rfl ?_
        refine pS (i := 4) (N := some 68) (ba 13 31) rfl rfl ?_
        refine tS hHeld (i := 5) (N := some 69) (ba 13 63) rfl rfl ?_
        refine join_ (σ := Option Addr × Nat × Nat × Nat) 2 (ba 13 2047) (fun s => [(70, .tuple #[dt s.1 s.2.1 s.2.2.1, .int .i64 (addE L x)]), (63, .tuple #[dt s.1 s.2.1 s.2.2.1, .int .i64 (addE L x)]), (71, dt s.1 s.2.1 s.2.2.1), (72, .int .i64 (addE L x)), (15, .pointer (some ⟨s.2.2.2, 0, none⟩))]) (fun s w' => Hid (w'.heap[s.2.2.2]? = some (.cells #[.slice none 0 0] 64 (0, 0))) ∧ Hid (w3.heap.size ≤ s.2.2.2) ∧ Hid (VRow w' s.1 s.2.1 (docL L x)) ∧ Hid (s.2.1 ≤ s.2.2.1) ∧ Hid (s.1 = A1 ∨ ∀ ad, s.1 = some ad → w3.heap.size ≤ ad.block) ∧ Hid (∀ ad, s.1 = some ad → ad.block < w'.heap.size ∧ ad.block ≠ s.2.2.2) ∧ Hid (Below w3.heap.size w3 w')) ?_ ?_
        rotate_left
        · intro hj
          refine two_ (i := 6) (j := 10) (Ni := some 70) (Nj := some 15) (ba 13 127) (ba 13 1087) rfl rfl rfl rfl (by kernel_rfl) (by decide) (by decide) (fun K hK => ?_) (fun K hK => ?_)
          · skip
            refine goes_ Try.func38 (by kernel_rfl) rfl #[dt A1 n1 cap1, vv x] (by rfl) rfl rfl (by (try simp only [List.map_toArray, List.map_cons, List.map_nil]); first | done | rfl) ?_
            refine (docAdd (HP.out.row) HP.out.cap x (HLS.out)).mono ?_
            rintro e w4 ⟨A2, n2, cap2, rfl, hv, hc2, hf2, hb⟩
            replace z10 := pw_cell_below hb z10
            replace c1 := pw_cell_below hb c1
            replace c2 := pw_cell_below hb c2
            replace c3 := pw_cell_below hb c3
            replace c4 := pw_cell_below hb c4
            replace c5 := pw_cell_below hb c5
            refine ⟨_, rfl, ?_⟩
            refine hK.out _ _ ⟨z10, c1, c2, c3, c4, c5⟩ (fun hHeld => nS (N := 70) ?_)
            clear hK K
            refine pS (i := 7) (N := some 63) (ba 13 255) rfl rfl ?_
            refine pS (i := 8) (N := some 71) (ba 13 511) rfl rfl ?_
            refine pS (i := 9) (N := some 72) (ba 13 1023) rfl rfl ?_
            refine one_ (i := 10) (N := some 15) (ba 13 2047) rfl rfl (by kernel_rfl) (by decide) (fun K hK => ?_)
            refine value_ (v := .pointer (some ⟨w4.heap.size, 0, none⟩)) (w1 := w4.alloc (.cells #[.slice none 0 0] 64)) (by rfl) rfl (by go_simp; try rfl) ?_
            have hba : Below w4.heap.size w4 (w4.alloc (.cells #[.slice none 0 0] 64)) := (Below.refl _ w4).alloc (Nat.le_refl _) _
            have hq := heap_alloc_new w4 (.cells #[.slice none 0 0] 64)
            replace z10 := pw_cell_below hba z10
            replace c1 := pw_cell_below hba c1
            replace c2 := pw_cell_below hba c2
            replace c3 := pw_cell_below hba c3
            replace c4 := pw_cell_below hba c4
            replace c5 := pw_cell_below hba c5
            refine hK.out _ _ ⟨z10, c1, c2, c3, c4, c5⟩ (fun hHeld => nS (N := 15) ?_)
            clear hK K
            have hq2 : ∀ ad, A2 = some ad → ad.block < w4.heap.size := fun ad e => by
              rcases hf2 with q | q
              · exact Nat.lt_of_lt_of_le (HP.out.far ad (q ▸ e)).1 hb.size
              · exact (q ad e).2
            refine norm_ ?_ (hj (A2, n2, cap2, w4.heap.size) _ ⟨hq, hb.size, hv.below hba, hc2, hf2.imp id (fun q ad e => (q ad e).1), fun ad e => ⟨Nat.lt_of_lt_of_le (hq2 ad e) hba.size, Nat.ne_of_lt (hq2 ad e)⟩, hb.trans (hba.mono hb.size)⟩)
            rfl
          · skip
            refine value_ (v := .pointer (some ⟨w3.heap.size, 0, none⟩)) (w1 := w3.alloc (.cells #[.slice none 0 0] 64)) (by rfl) rfl (by go_simp; try rfl) ?_
            have hba : Below w3.heap.size w3 (w3.alloc (.cells #[.slice none 0 0] 64)) := (Below.refl _ w3).alloc (Nat.le_refl _) _
            have hq := heap_alloc_new w3 (.cells #[.slice none 0 0] 64)
            replace z10 := pw_cell_below hba z10
            replace c1 := pw_cell_below hba c1
            replace c2 := pw_cell_below hba c2
            replace c3 := pw_cell_below hba c3
            replace c4 := pw_cell_below hba c4
            replace c5 := pw_cell_below hba c5
            refine hK.out _ _ ⟨z10, c1, c2, c3, c4, c5⟩ (fun hHeld => nS (N := 15) ?_)
            clear hK K
            have HPa := Lib.hid (HP.out.below hba)
            refine one_ (i := 6) (N := some 70) (ba 13 1151) rfl rfl (by kernel_rfl) (by decide) (fun K hK => ?_)
            refine goes_ Try.func38 (by kernel_rfl) rfl #[dt A1 n1 cap1, vv x] (by rfl) rfl rfl (by (try simp only [List.map_toArray, List.map_cons, List.map_nil]); first | done | rfl) ?_
            refine (docAdd (HPa.out.row) HP.out.cap x (HLS.out)).mono ?_
            rintro e w4 ⟨A2, n2, cap2, rfl, hv, hc2, hf2, hb⟩
            replace z10 := pw_cell_below hb z10
            replace c1 := pw_cell_below hb c1
            replace c2 := pw_cell_below hb c2
            replace c3 := pw_cell_below hb c3
            replace c4 := pw_cell_below hb c4
            replace c5 := pw_cell_below hb c5
            refine ⟨_, rfl, ?_⟩
            refine hK.out _ _ ⟨z10, c1, c2, c3, c4, c5⟩ (fun hHeld => nS (N := 70) ?_)
            clear hK K
            refine pS (i := 7) (N := some 63) (ba 13 1279) rfl rfl ?_
            refine pS (i := 8) (N := some 71) (ba 13 1535) rfl rfl ?_
            refine pS (i := 9) (N := some 72) (ba 13 2047) rfl rfl ?_
            have hsz : (w3.alloc (.cells #[.slice none 0 0] 64)).heap.size = w3.heap.size + 1 := World.size_alloc _ _
            have hq2 : ∀ ad, A2 = some ad → ad.block < w4.heap.size ∧ ad.block ≠ w3.heap.size := fun ad e => by
              have hs2 := hb.size
              rcases hf2 with q | q
              · have := (HP.out.far ad (q ▸ e)).1
                omega
              · have := q ad e
                omega
            refine norm_ ?_ (hj (A2, n2, cap2, w3.heap.size) _ ⟨(hb.block _ (blk_lt hq)).trans hq, Nat.le_refl _, hv, hc2, hf2.imp id (fun q ad e => by have := (q ad e).1; omega), hq2, hba.trans (hb.mono hba.size)⟩)
            rfl
        rintro ⟨A2, n2, cap2, Q⟩ w4 ⟨hq, hqs, hv, hc2, hf2, hq2, hb⟩
        have zq : w4.cell? ⟨Q, 0, none⟩ = some (.slice none 0 0) := blk_cell hq.out 0
        have fq : w4.frozen? ⟨Q, 0, none⟩ = false := blk_frozen hq.out 0
        refine norm_ (a' := ?_) ?_ ?_
        rotate_left
        · simp only [putAll, Act.put, List.setIfInBounds_toArray, List.set_cons_zero, List.set_cons_succ]
          rfl
        refine last_ (i := 11) (N := none) (ba 13 4095) rfl rfl (by kernel_rfl) (by decide) (fun K hK => ?_)
        refine skip_ (w1 := ?_) (by rfl) rfl ?_ ?_
        rotate_left
        · go_simp
          rfl
        refine hK.out _ _ ?_
        clear hK K
        refine pS (i := 12) (N := some 16) (ba 13 8191) rfl rfl ?_
        refine done_ (by kernel_rfl) ?_
        have HB5 : Hid (Below w3.heap.size w3 (w4.setCell ⟨Q, 0, none⟩ (.slice A2 n2 cap2))) := hb.out.setCell hqs.out _
        have HV5 : Hid (VRow (w4.setCell ⟨Q, 0, none⟩ (.slice A2 n2 cap2)) A2 n2 (docL L x)) := hv.out.moved (fun ad e => Below.heap_setCell w4 _ _ _ (hq2.out ad e).2)
        have HL5 : Hid (∀ ad, A2 = some ad → ad.block < (w4.setCell ⟨Q, 0, none⟩ (.slice A2 n2 cap2)).heap.size) := fun ad e => by
          have h1 := (hq2.out ad e).1
          have h3 : (w4.setCell ⟨Q, 0, none⟩ (.slice A2 n2 cap2)).heap.size = w4.heap.size := by simp [World.setCell]
          omega
        have HQ5 : Hid ((w4.setCell ⟨Q, 0, none⟩ (.slice A2 n2 cap2)).heap[Q]? = some (.cells #[.slice A2 n2 cap2] 64 (0, 0))) := blk_put hq.out 0 _ rfl
        have hc5 := hc2
        have hf5 := hf2
        clear hv hq2 hq hb hc2 hf2 z10 zq fq c1 c2 c3 c4 c5
        generalize w4.setCell ⟨Q, 0, none⟩ (.slice A2 n2 cap2) = w5 at HB5 HV5 HL5 HQ5 ⊢
        have HM5 : Hid (w5.heap[M]? = some (.cells #[.slice A1 n1 cap1] 64 (0, 0))) := (HB5.out.block _ (blk_lt HP.out.box)).trans HP.out.box
        have z13 : w5.cell? ⟨Q, 0, none⟩ = some (.slice A2 n2 cap2) := blk_cell HQ5.out 0
        have zM : w5.cell? ⟨M, 0, none⟩ = some (.slice A1 n1 cap1) := blk_cell HM5.out 0
        have fM : w5.frozen? ⟨M, 0, none⟩ = false := blk_frozen HM5.out 0
        have HLN : Hid (n2 ≤ i + 1) := by
          have h1 := HV5.out.1
          have h2 := HP.out.row.1
          have h3 := HP.out.few
          have h4 := docL_len L x
          show _ ≤ _
          omega
        have HMID := Lib.hid (HP.out.mid HB5.out HV5.out hc5.out HLN.out hf5.out HL5.out)
        clear HB5 HV5 HL5 HQ5 HM5 HLN hc5 hf5 hqs HP
        go_upto_region 15 with fail
        clear z13 zM fM
        generalize w5.setCell ⟨M, 0, none⟩ (.slice A2 n2 cap2) = w6 at HMID ⊢
        have HB6 : Hid (Below w.heap.size w w6) := HW.out.trans (HMID.out.bel.mono HW.out.size)
        have c1 := pw_cell_below HB6.out G1.out
        have c2 := pw_cell_below HB6.out G2.out
        have c3 := pw_cell_below HB6.out G3.out
        have c4 := pw_cell_below HB6.out G4.out
        have c5 := pw_cell_below HB6.out G5.out
        have pE : (addE L x != addE L x) = false := bne_self_eq_false' _
        by_cases hm : i % 5 = 0
        · have m0 : (i : Int).tmod 5 = 0 := by rw [Int.tmod_eq_emod_of_nonneg (by omega)]; omega
          clear hm
          go_wp2_with (first | (go_at_call 14; refine (HMID.out.add (Nat.lt_trans HI60.out (by decide)) HLL.out).mono ?_; rintro e w7 ⟨rfl, hp⟩; have HP7 := Lib.hid hp; have z10 : w7.cell? ⟨M, 0, none⟩ = some (.slice A2 n2 cap2) := blk_cell HP7.out.box 0; have Y7 : Hid (BoxAt w7 w.heap.size v.1 v.2.1 v.2.2.1 v.2.2.2.1 v.2.2.2.2) := (HP7.out.bel.block _ (blk_lt X7.out)).trans X7.out; have y0 := blk_cell Y7.out 0; have y1 := blk_cell Y7.out 1; have y2 := blk_cell Y7.out 2; have y3 := blk_cell Y7.out 3; have y4 := blk_cell Y7.out 4; clear hp HMID c1 c2 c3 c4 c5 HB6) | (go_at_call 39; refine (same_play HP7.out k a v).mono ?_; rintro e w8 ⟨rfl, hb⟩; have HP8 := Lib.hid (HP7.out.below hb); clear hb HP7))
          go_roundg (gk - 1)
          case measure => have := hi.out; have := HI.out; omega
          case rel => exact ⟨i + 1, A2, n2, cap2, _, by first | rfl | exact congrArg _ wi, (by have := hi.out; have := HI.out; omega : i + 1 + (gk - 1) = n), HP8⟩
        · have m0 : ((i : Int).tmod 5 == 0) = false := by rw [Int.tmod_eq_emod_of_nonneg (by omega)]; exact beq_eq_false_iff_ne.2 (by omega)
          have m1 : ¬ (i : Int).tmod 5 = 0 := by rw [Int.tmod_eq_emod_of_nonneg (by omega)]; omega
          have m2 : decide ((i : Int).tmod 5 = 0) = false := decide_eq_false m1
          clear hm
          go_wp2_with (go_at_call 14; refine (HMID.out.add (Nat.lt_trans HI60.out (by decide)) HLL.out).mono ?_; rintro e w7 ⟨rfl, hp⟩; have HP8 := Lib.hid hp; clear hp HMID c1 c2 c3 c4 c5 HB6)
          go_roundg (gk - 1)
          case measure => have := hi.out; have := HI.out; omega
          case rel => exact ⟨i + 1, A2, n2, cap2, _, by first | rfl | exact congrArg _ wi, (by have := hi.out; have := HI.out; omega : i + 1 + (gk - 1) = n), HP8⟩
      · have HLS : Hid (n1 ≤ 4096) := by have h2 := HP.out.few; have h3 := HI60.out; show _ ≤ _; omega
        go_upto_region 9 with fail
        clear c0
        replace HP := Lib.hid (HP.out.below (Below.refl wr.heap.size wr).drew)
        replace HB := Lib.hid HB.out.drew
        have z10 : wr.drew.cell? ⟨M, 0, none⟩ = some (.slice A1 n1 cap1) := blk_cell HP.out.box 0
        have c1 := pw_cell_below HB.out G1.out
        have c2 := pw_cell_below HB.out G2.out
        have c3 := pw_cell_below HB.out G3.out
        have c4 := pw_cell_below HB.out G4.out
        have c5 := pw_cell_below HB.out G5.out
        refine start_ (n := 13) (S := fun W => W.cell? ⟨M, 0, none⟩ = some (.slice A1 n1 cap1) ∧ W.cell? ⟨(ad.add (i * 6)).block, (ad.add (i * 6)).off + 1, none⟩ = some (.int .i64 x.1) ∧ W.cell? ⟨(ad.add (i * 6)).block, (ad.add (i * 6)).off + 2, none⟩ = some (.int .i64 x.2.1) ∧ W.cell? ⟨(ad.add (i * 6)).block, (ad.add (i * 6)).off + 3, none⟩ = some (.string x.2.2.1) ∧ W.cell? ⟨(ad.add (i * 6)).block, (ad.add (i * 6)).off + 4, none⟩ = some (.bool x.2.2.2.1) ∧ W.cell? ⟨(ad.add (i * 6)).block, (ad.add (i * 6)).off + 5, none⟩ = some (.int .i64 x.2.2.2.2)) (ds := [11]) (ba 13 0) (by kernel_rfl) rfl rfl ⟨z10, c1, c2, c3, c4, c5⟩ (fun hHeld => ?_)
        generalize wr.drew = w3 at z10 c1 c2 c3 c4 c5 HP HB hHeld ⊢
        refine tS hHeld (i := 0) (N := some 43) (ba 13 1) rfl rfl ?_
        refine pS (i := 1) (N := some 44) (ba 13 3) rfl rfl ?_
        refine pS (i := 2) (N := some 45) (ba 13 7) rfl rfl ?_
        refine pS (i := 3) (N := some 46) (ba 13 15) rfl rfl ?_
        refine pS (i := 4) (N := some 47) (ba 13 31) rfl rfl ?_
        refine tS hHeld (i := 5) (N := some 48) (ba 13 63) rfl rfl ?_
        refine join_ (σ := Option Addr × Nat × Nat × Nat) 2 (ba 13 2047) (fun s => [(49, .tuple #[dt s.1 s.2.1 s.2.2.1, .int .i64 (dropE L x)]), (42, .tuple #[dt s.1 s.2.1 s.2.2.1, .int .i64 (dropE L x)]), (50, dt s.1 s.2.1 s.2.2.1), (51, .int .i64 (dropE L x)), (13, .pointer (some ⟨s.2.2.2, 0, none⟩))]) (fun s w' => Hid (w'.heap[s.2.2.2]? = some (.cells #[.slice none 0 0] 64 (0, 0))) ∧ Hid (w3.heap.size ≤ s.2.2.2) ∧ Hid (VRow w' s.1 s.2.1 (dropL L x)) ∧ Hid (s.2.1 ≤ s.2.2.1) ∧ Hid (s.1 = A1 ∨ ∀ ad, s.1 = some ad → w3.heap.size ≤ ad.block) ∧ Hid (∀ ad, s.1 = some ad → ad.block < w'.heap.size ∧ ad.block ≠ s.2.2.2) ∧ Hid (Below w3.heap.size w3 w')) ?_ ?_
        rotate_left
        · intro hj
          refine two_ (i := 6) (j := 10) (Ni := some 49) (Nj := some 13) (ba 13 127) (ba 13 1087) rfl rfl rfl rfl (by kernel_rfl) (by decide) (by decide) (fun K hK => ?_) (fun K hK => ?_)
          · skip
            refine goes_ Try.func37 (by kernel_rfl) rfl #[dt A1 n1 cap1, vv x] (by rfl) rfl rfl (by (try simp only [List.map_toArray, List.map_cons, List.map_nil]); first | done | rfl) ?_
            refine (docDrop (HP.out.row) HP.out.cap x (HLS.out)).mono ?_
            rintro e w4 ⟨A2, n2, cap2, rfl, hv, hc2, hf2, hb⟩
            replace z10 := pw_cell_below hb z10
            replace c1 := pw_cell_below hb c1
            replace c2 := pw_cell_below hb c2
            replace c3 := pw_cell_below hb c3
            replace c4 := pw_cell_below hb c4
            replace c5 := pw_cell_below hb c5
            refine ⟨_, rfl, ?_⟩
            refine hK.out _ _ ⟨z10, c1, c2, c3, c4, c5⟩ (fun hHeld => nS (N := 49) ?_)
            clear hK K
            refine pS (i := 7) (N := some 42) (ba 13 255) rfl rfl ?_
            refine pS (i := 8) (N := some 50) (ba 13 511) rfl rfl ?_
            refine pS (i := 9) (N := some 51) (ba 13 1023) rfl rfl ?_
            refine one_ (i := 10) (N := some 13) (ba 13 2047) rfl rfl (by kernel_rfl) (by decide) (fun K hK => ?_)
            refine value_ (v := .pointer (some ⟨w4.heap.size, 0, none⟩)) (w1 := w4.alloc (.cells #[.slice none 0 0] 64)) (by rfl) rfl (by go_simp; try rfl) ?_
            have hba : Below w4.heap.size w4 (w4.alloc (.cells #[.slice none 0 0] 64)) := (Below.refl _ w4).alloc (Nat.le_refl _) _
            have hq := heap_alloc_new w4 (.cells #[.slice none 0 0] 64)
            replace z10 := pw_cell_below hba z10
            replace c1 := pw_cell_below hba c1
            replace c2 := pw_cell_below hba c2
            replace c3 := pw_cell_below hba c3
            replace c4 := pw_cell_below hba c4
            replace c5 := pw_cell_below hba c5
            refine hK.out _ _ ⟨z10, c1, c2, c3, c4, c5⟩ (fun hHeld => nS (N := 13) ?_)
            clear hK K
            have hq2 : ∀ ad, A2 = some ad → ad.block < w4.heap.size := fun ad e => by
              rcases hf2 with q | q
              · exact Nat.lt_of_lt_of_le (HP.out.far ad (q ▸ e)).1 hb.size
              · exact (q ad e).2
            refine norm_ ?_ (hj (A2, n2, cap2, w4.heap.size) _ ⟨hq, hb.size, hv.below hba, hc2, hf2.imp id (fun q ad e => (q ad e).1), fun ad e => ⟨Nat.lt_of_lt_of_le (hq2 ad e) hba.size, Nat.ne_of_lt (hq2 ad e)⟩, hb.trans (hba.mono hb.size)⟩)
            rfl
          · skip
            refine value_ (v := .pointer (some ⟨w3.heap.size, 0, none⟩)) (w1 := w3.alloc (.cells #[.slice none 0 0] 64)) (by rfl) rfl (by go_simp; try rfl) ?_
            have hba : Below w3.heap.size w3 (w3.alloc (.cells #[.slice none 0 0] 64)) := (Below.refl _ w3).alloc (Nat.le_refl _) _
            have hq := heap_alloc_new w3 (.cells #[.slice none 0 0] 64)
            replace z10 := pw_cell_below hba z10
            replace c1 := pw_cell_below hba c1
            replace c2 := pw_cell_below hba c2
            replace c3 := pw_cell_below hba c3
            replace c4 := pw_cell_below hba c4
            replace c5 := pw_cell_below hba c5
            refine hK.out _ _ ⟨z10, c1, c2, c3, c4, c5⟩ (fun hHeld => nS (N := 13) ?_)
            clear hK K
            have HPa := Lib.hid (HP.out.below hba)
            refine one_ (i := 6) (N := some 49) (ba 13 1151) rfl rfl (by kernel_rfl) (by decide) (fun K hK => ?_)
            refine goes_ Try.func37 (by kernel_rfl) rfl #[dt A1 n1 cap1, vv x] (by rfl) rfl rfl (by (try simp only [List.map_toArray, List.map_cons, List.map_nil]); first | done | rfl) ?_
            refine (docDrop (HPa.out.row) HP.out.cap x (HLS.out)).mono ?_
            rintro e w4 ⟨A2, n2, cap2, rfl, hv, hc2, hf2, hb⟩
            replace z10 := pw_cell_below hb z10
            replace c1 := pw_cell_below hb c1
            replace c2 := pw_cell_below hb c2
            replace c3 := pw_cell_below hb c3
            replace c4 := pw_cell_below hb c4
            replace c5 := pw_cell_below hb c5
            refine ⟨_, rfl, ?_⟩
            refine hK.out _ _ ⟨z10, c1, c2, c3, c4, c5⟩ (fun hHeld => nS (N := 49) ?_)
            clear hK K
            refine pS (i := 7) (N := some 42) (ba 13 1279) rfl rfl ?_
            refine pS (i := 8) (N := some 50) (ba 13 1535) rfl rfl ?_
            refine pS (i := 9) (N := some 51) (ba 13 2047) rfl rfl ?_
            have hsz : (w3.alloc (.cells #[.slice none 0 0] 64)).heap.size = w3.heap.size + 1 := World.size_alloc _ _
            have hq2 : ∀ ad, A2 = some ad → ad.block < w4.heap.size ∧ ad.block ≠ w3.heap.size := fun ad e => by
              have hs2 := hb.size
              rcases hf2 with q | q
              · have := (HP.out.far ad (q ▸ e)).1
                omega
              · have := q ad e
                omega
            refine norm_ ?_ (hj (A2, n2, cap2, w3.heap.size) _ ⟨(hb.block _ (blk_lt hq)).trans hq, Nat.le_refl _, hv, hc2, hf2.imp id (fun q ad e => by have := (q ad e).1; omega), hq2, hba.trans (hb.mono hba.size)⟩)
            rfl
        rintro ⟨A2, n2, cap2, Q⟩ w4 ⟨hq, hqs, hv, hc2, hf2, hq2, hb⟩
        have zq : w4.cell? ⟨Q, 0, none⟩ = some (.slice none 0 0) := blk_cell hq.out 0
        have fq : w4.frozen? ⟨Q, 0, none⟩ = false := blk_frozen hq.out 0
        refine norm_ (a' := ?_) ?_ ?_
        rotate_left
        · simp only [putAll, Act.put, List.setIfInBounds_toArray, List.set_cons_zero, List.set_cons_succ]
          rfl
        refine last_ (i := 11) (N := none) (ba 13 4095) rfl rfl (by kernel_rfl) (by decide) (fun K hK => ?_)
        refine skip_ (w1 := ?_) (by rfl) rfl ?_ ?_
        rotate_left
        · go_simp
          rfl
        refine hK.out _ _ ?_
        clear hK K
        refine pS (i := 12) (N := some 14) (ba 13 8191) rfl rfl ?_
        refine done_ (by kernel_rfl) ?_
        have HB5 : Hid (Below w3.heap.size w3 (w4.setCell ⟨Q, 0, none⟩ (.slice A2 n2 cap2))) := hb.out.setCell hqs.out _
        have HV5 : Hid (VRow (w4.setCell ⟨Q, 0, none⟩ (.slice A2 n2 cap2)) A2 n2 (dropL L x)) := hv.out.moved (fun ad e => Below.heap_setCell w4 _ _ _ (hq2.out ad e).2)
        have HL5 : Hid (∀ ad, A2 = some ad → ad.block < (w4.setCell ⟨Q, 0, none⟩ (.slice A2 n2 cap2)).heap.size) := fun ad e => by
          have h1 := (hq2.out ad e).1
          have h3 : (w4.setCell ⟨Q, 0, none⟩ (.slice A2 n2 cap2)).heap.size = w4.heap.size := by simp [World.setCell]
          omega
        have HQ5 : Hid ((w4.setCell ⟨Q, 0, none⟩ (.slice A2 n2 cap2)).heap[Q]? = some (.cells #[.slice A2 n2 cap2] 64 (0, 0))) := blk_put hq.out 0 _ rfl
        have hc5 := hc2
        have hf5 := hf2
        clear hv hq2 hq hb hc2 hf2 z10 zq fq c1 c2 c3 c4 c5
        generalize w4.setCell ⟨Q, 0, none⟩ (.slice A2 n2 cap2) = w5 at HB5 HV5 HL5 HQ5 ⊢
        have HM5 : Hid (w5.heap[M]? = some (.cells #[.slice A1 n1 cap1] 64 (0, 0))) := (HB5.out.block _ (blk_lt HP.out.box)).trans HP.out.box
        have z13 : w5.cell? ⟨Q, 0, none⟩ = some (.slice A2 n2 cap2) := blk_cell HQ5.out 0
        have zM : w5.cell? ⟨M, 0, none⟩ = some (.slice A1 n1 cap1) := blk_cell HM5.out 0
        have fM : w5.frozen? ⟨M, 0, none⟩ = false := blk_frozen HM5.out 0
        have HLN : Hid (n2 ≤ i + 1) := by
          have h1 := HV5.out.1
          have h2 := HP.out.row.1
          have h3 := HP.out.few
          have h4 := dropL_len L x
          show _ ≤ _
          omega
        have HMID := Lib.hid (HP.out.mid HB5.out HV5.out hc5.out HLN.out hf5.out HL5.out)
        clear HB5 HV5 HL5 HQ5 HM5 HLN hc5 hf5 hqs HP
        go_upto_region 11 with fail
        clear z13 zM fM
        generalize w5.setCell ⟨M, 0, none⟩ (.slice A2 n2 cap2) = w6 at HMID ⊢
        have HB6 : Hid (Below w.heap.size w w6) := HW.out.trans (HMID.out.bel.mono HW.out.size)
        have c1 := pw_cell_below HB6.out G1.out
        have c2 := pw_cell_below HB6.out G2.out
        have c3 := pw_cell_below HB6.out G3.out
        have c4 := pw_cell_below HB6.out G4.out
        have c5 := pw_cell_below HB6.out G5.out
        have pE : (dropE L x != dropE L x) = false := bne_self_eq_false' _
        by_cases hm : i % 5 = 0
        · have m0 : (i : Int).tmod 5 = 0 := by rw [Int.tmod_eq_emod_of_nonneg (by omega)]; omega
          clear hm
          go_wp2_with (first | (go_at_call 15; refine (HMID.out.drop (Nat.lt_trans HI60.out (by decide))).mono ?_; rintro e w7 ⟨rfl, hp⟩; have HP7 := Lib.hid hp; have z10 : w7.cell? ⟨M, 0, none⟩ = some (.slice A2 n2 cap2) := blk_cell HP7.out.box 0; have Y7 : Hid (BoxAt w7 w.heap.size v.1 v.2.1 v.2.2.1 v.2.2.2.1 v.2.2.2.2) := (HP7.out.bel.block _ (blk_lt X7.out)).trans X7.out; have y0 := blk_cell Y7.out 0; have y1 := blk_cell Y7.out 1; have y2 := blk_cell Y7.out 2; have y3 := blk_cell Y7.out 3; have y4 := blk_cell Y7.out 4; clear hp HMID c1 c2 c3 c4 c5 HB6) | (go_at_call 39; refine (same_play HP7.out k a v).mono ?_; rintro e w8 ⟨rfl, hb⟩; have HP8 := Lib.hid (HP7.out.below hb); clear hb HP7))
          go_roundg (gk - 1)
          case measure => have := hi.out; have := HI.out; omega
          case rel => exact ⟨i + 1, A2, n2, cap2, _, by first | rfl | exact congrArg _ wi, (by have := hi.out; have := HI.out; omega : i + 1 + (gk - 1) = n), HP8⟩
        · have m0 : ((i : Int).tmod 5 == 0) = false := by rw [Int.tmod_eq_emod_of_nonneg (by omega)]; exact beq_eq_false_iff_ne.2 (by omega)
          have m1 : ¬ (i : Int).tmod 5 = 0 := by rw [Int.tmod_eq_emod_of_nonneg (by omega)]; omega
          have m2 : decide ((i : Int).tmod 5 = 0) = false := decide_eq_false m1
          clear hm
          go_wp2_with (go_at_call 15; refine (HMID.out.drop (Nat.lt_trans HI60.out (by decide))).mono ?_; rintro e w7 ⟨rfl, hp⟩; have HP8 := Lib.hid hp; clear hp HMID c1 c2 c3 c4 c5 HB6)
          go_roundg (gk - 1)
          case measure => have := hi.out; have := HI.out; omega
          case rel => exact ⟨i + 1, A2, n2, cap2, _, by first | rfl | exact congrArg _ wi, (by have := hi.out; have := HI.out; omega : i + 1 + (gk - 1) = n), HP8⟩
    · have e : i = n := by have := hi.out; omega
      have l1 : ¬ i < n := hlt
      have l0 : ¬ (i : Int) < (n : Int) := by omega
      have z10 : wr.cell? ⟨M, 0, none⟩ = some (.slice A1 n1 cap1) := blk_cell HP.out.box 0
      have Y7 : Hid (BoxAt wr w.heap.size v.1 v.2.1 v.2.2.1 v.2.2.2.1 v.2.2.2.2) := (HP.out.bel.block _ (blk_lt X7.out)).trans X7.out
      have y0 := blk_cell Y7.out 0
      have y1 := blk_cell Y7.out 1
      have y2 := blk_cell Y7.out 2
      have y3 := blk_cell Y7.out 3
      have y4 := blk_cell Y7.out 4
      clear hi hlt e
      go_wp2_with (first | (go_at_call 39; refine (same_play HP.out k a v).mono ?_; rintro e w8 ⟨rfl, hb⟩; have HB8 := Lib.hid (HB.out.trans (hb.mono HB.out.size)); clear hb) | (go_at_call 22; refine (lives_any _).mono ?_; rintro e w9 ⟨rfl, hb⟩; have HB9 := Lib.hid (HB8.out.trans (hb.mono HB8.out.size)); clear hb))
      go_ret
      exact ⟨rfl, HB9.out⟩
set_option maxHeartbeats 4000000 in
set_option maxRecDepth 100000 in
theorem plays_out (A : Option Addr) (n cap : Nat) (k a : Int) (v : Val) (w : World) (hn : 60 < n) : Calls Try.prog 8 #[.slice A n cap, .int .i64 k, .int .i64 a, vv v] w fun e w' => e = .returned (.bool true) ∧ Below w.heap.size w w' := by
  have hu64 := Try.underlying64
  have HW : Hid (Below w.heap.size w (w.alloc (.cells #[.int .i64 v.1, .int .i64 v.2.1, .string v.2.2.1, .bool v.2.2.2.1, .int .i64 v.2.2.2.2] 25))) := (Below.refl _ w).alloc (Nat.le_refl _) _
  go_enter Try.func8, Try.ntmps8
  go_upto_region 3 with (go_at_call 23; refine (Tal.new _).mono ?_; rintro e w2 ⟨rfl, ht, hb⟩; have HB : Hid (Below w.heap.size w (w2.alloc (.cells #[.slice none 0 0] 64))) := (HW.out.trans (hb.mono HW.out.size)).alloc (Nat.le_trans HW.out.size hb.size) _; clear ht hb)
  go_wp2_with (go_at_call 22; refine (lives_any _).mono ?_; rintro e w9 ⟨rfl, hb⟩; have HB9 := Lib.hid (HB.out.trans (hb.mono HB.out.size)); clear hb)
  go_ret
  exact ⟨rfl, HB9.out⟩
theorem plays_law (A : Option Addr) (n cap : Nat) (l : List (Bool × Val)) (k a : Int) (v : Val) (w : World) (h : ARow w A n l) : Calls Try.prog 8 #[.slice A n cap, .int .i64 k, .int .i64 a, vv v] w fun e w' => e = .returned (.bool true) ∧ Below w.heap.size w w' := by
  by_cases e : 60 < n
  · exact plays_out A n cap k a v w e
  · exact plays_main A n cap l k a v w h (by omega)
end Go.Proofs.Ytjhinakfoejpbaa.T
