/- What is lost in a crash, in plain Lean, and append onto a row of strings. No condition stands open. -/
import Derived.Test.YtoegeljjfhbpeaaJY
import Derived.Maps.AppendAt
set_option linter.unusedVariables false
set_option linter.unusedSimpArgs false
namespace Go.Proofs.Ytoegeljjfhbpeaa.J
open Go.RowKit Go.Proofs.YtoegeljjfhbpeaaW.PrintWords Go.Proofs.YtoegeljjfhbpeaaW.PrintLast Go.Proofs.YtoegeljjfhbpeaaW.PrintMore

theorem framesB_snoc (l : List ByteArray) (s : ByteArray) : framesB (l ++ [s]) = framesB l ++ frameL (l.length : Int) (bytesOf s) := by
  unfold framesB
  rw [List.map_append, framesG_append, List.length_map, Nat.zero_add]
  simp [framesG]
theorem framesB_take (l : List ByteArray) (i : Nat) (h : i < l.length) : framesB (l.take (i + 1)) = framesB (l.take i) ++ frameL (i : Int) (bytesOf l[i]) := by
  have e : l.take (i + 1) = l.take i ++ [l[i]] := by rw [List.take_add_one, List.getElem?_eq_getElem h]; rfl
  rw [e, framesB_snoc, List.length_take, Nat.min_eq_left (Nat.le_of_lt h)]
theorem framesB_mono (l : List ByteArray) : ∀ (d i : Nat), (framesB (l.take i)).length ≤ (framesB (l.take (i + d))).length
  | 0, i => Nat.le_refl _
  | d + 1, i => by
    refine Nat.le_trans (framesB_mono l d i) ?_
    rcases Nat.lt_or_ge (i + d) l.length with h | h
    · rw [show i + (d + 1) = i + d + 1 by omega, framesB_take l (i + d) h, List.length_append]
      omega
    · rw [List.take_of_length_le h, List.take_of_length_le (by omega)]
      exact Nat.le_refl _
theorem framesB_le (l : List ByteArray) {i j : Nat} (h : i ≤ j) : (framesB (l.take i)).length ≤ (framesB (l.take j)).length := by
  obtain ⟨d, rfl⟩ : ∃ d, j = i + d := ⟨j - i, by omega⟩
  exact framesB_mono l d i
theorem crashed_none (xs : List Int) (s k : Nat) (b : Int) : crashed xs s k (-1) b = xs.take (s + k) := if_neg (by omega)
theorem keptOf_le (len s : Nat) (k : Int) (h : s ≤ len) : s + keptOf len s k ≤ len := by
  unfold keptOf
  omega
theorem keptOf_zero (len : Nat) : keptOf len len 0 = 0 := by
  unfold keptOf
  omega
/-- append onto a row of strings that is owned, of a row that is read -/
theorem appendS_run {W : World} {base : Nat} {v : Value} {xs ys : List ByteArray} (HO : W.ownsRow base 9 1 v xs.length (xs.map Value.string)) (A : Option Addr) (m c : Nat) (HR : ReadsS W A m ys) (hbase : base ≤ W.heap.size) (hl : (xs.length + m) * 16 ≤ 140737488355328) (ty : TypeId) :
    ∃ A1 c1 w1, (Builtin.append_ #[32, 32] ty #[v, .slice A m c]).run Try.prog W = .ok (.slice A1 (xs.length + m) c1) w1 ∧ w1.ownsRow base 9 1 (.slice A1 (xs.length + m) c1) (xs.length + m) ((xs ++ ys).map Value.string) ∧ W.grownBy w1 v.ownBlock := by
  obtain ⟨i0, hi, hz0, hz1, hz2⟩ := info_parts info9
  have hm : ys.length = m := HR.1
  have main : ∃ v1 w1, (Builtin.append_ #[32, 32] ty #[v, .slice A m c]).run Try.prog W = .ok v1 w1 ∧ w1.ownsRow base 9 1 v1 (xs.length + m) ((xs ++ ys).map Value.string) ∧ W.grownBy w1 v.ownBlock := by
    rcases A with _ | ad
    · have h0 : m = 0 := by
        rcases Nat.eq_zero_or_pos m with h0 | h0
        · exact h0
        · obtain ⟨ad, h, _⟩ := HR.2.2 h0
          cases h
      subst h0
      obtain rfl : ys = [] := List.eq_nil_of_length_eq_zero hm
      refine ⟨v, W, ?_, by rw [List.append_nil]; exact HO, World.grownBy.refl W _⟩
      rcases HO.2 with ⟨rfl, hn⟩ | ⟨g, cap, cur, rfl, _, _, hnc, _⟩
      · simp [Builtin.append_, run_underlying Try.underlying32, sizeOf, typeInfo, hi, Builtin.lenOf, Builtin.firstCells]
      · simp [Builtin.append_, run_underlying Try.underlying32, sizeOf, typeInfo, hi, Builtin.lenOf, Builtin.firstCells, hnc, storeCells]
    · have hcells : ∀ j u, (ys.map Value.string)[j]? = some u → W.cell? (ad.add j) = some u := by
        intro j u hu
        have hj : j < ys.length := by
          have := (List.getElem?_eq_some_iff.1 hu).1
          rwa [List.length_map] at this
        obtain ⟨ad', e, hc⟩ := HR.2.2 (by omega)
        injection e with e
        subst e
        rw [hc j (by omega), ← hu]
        simp [List.getD, hj]
      obtain ⟨v1, w1, hrun, h2, hg, _, _⟩ := run_append_own_at (P := Try.prog) W base 32 ty 9 i0 (.string ByteArray.empty) 1 16 Try.underlying32 hi hz0 hz1 hz2 rfl (by decide) v xs.length (xs.map Value.string) HO ad m c (ys.map Value.string) (by rw [List.length_map, hm, Nat.mul_one]) hcells (fun u hu => by obtain ⟨_, _, rfl⟩ := List.mem_map.1 hu; rfl) (by simp only [maxLen]; omega) hl hbase
      exact ⟨v1, w1, hrun, by rw [List.map_append]; exact h2, hg⟩
  obtain ⟨v1, w1, hrun, h2, hg⟩ := main
  obtain ⟨A1, c1, rfl, _⟩ := own_sl h2
  exact ⟨A1, c1, w1, hrun, h2, hg⟩
/-- append(v, lines...) in a walk -/
theorem print_appendS {w0 W : World} {ops : Array Oper} {rest : List Oper} {o : Oper} {a : Act} {Q : Exit → Act → World → Prop} (base : Nat) (hgd : o.guard = none) (s x : Operand)
    (ho : o.op = .call { callee := .builtin .append, args := #[s, x], argTypes := #[32, 32] }) (v : Value) (xs ys : List ByteArray) (A : Option Addr) (m c : Nat) (hs : a.eval s = v) (hx : a.eval x = .slice A m c)
    (HO : W.ownsRow base 9 1 v xs.length (xs.map Value.string)) (HR : ReadsS W A m ys) (HB : Below base w0 W) (hbase : base ≤ W.heap.size) (hl : (xs.length + m) * 16 ≤ 140737488355328)
    (h : ∀ A1 c1 w1, w1.ownsRow base 9 1 (.slice A1 (xs.length + m) c1) (xs.length + m) ((xs ++ ys).map Value.string) → Below base w0 w1 → wpList Try.prog ops Q rest (a.put o.dst (.slice A1 (xs.length + m) c1)) w1) :
    wpList Try.prog ops Q (o :: rest) a W := by
  obtain ⟨A1, c1, w1, hrun, hown, hg⟩ := appendS_run HO A m c HR hbase hl o.type
  exact Lib.wpList_append_run W hgd s x 32 32 ho _ _ hs hx _ _ hrun (h A1 c1 w1 hown (HB.grown hg hbase (own_base HO)))
/-- what a crash leaves of frames, if those of the first n lines are safe -/
theorem safe_plain {l : List ByteArray} (hf : Fine (l.map bytesOf)) (n c : Nat) (hn : n ≤ l.length) (hc : c ≤ (framesB l).length) (hs : (framesB (l.take n)).length ≤ c) :
    ∃ lm G, lm = l.take lm.length ∧ n ≤ lm.length ∧ lm.length ≤ l.length ∧ framesB lm = G ∧ told ((framesB l).take c) = lm ∧ endOf (scanL ((framesB l).take c)) = G.length ∧ ((framesB l).take c).take G.length = G := by
  obtain ⟨m, h1, h2, h3, h4, h5, h6⟩ := scan_cut hf c hc
  have hlen : (l.take m).length = m := by rw [List.length_take]; omega
  refine ⟨l.take m, framesB (l.take m), by rw [hlen], ?_, by rw [hlen]; exact h1, rfl, h2, h3, ?_⟩
  · rw [hlen]
    rcases h5 with h5 | h5
    · omega
    · rcases Nat.lt_or_ge m n with h | h
      · have := framesB_le l (show m + 1 ≤ n by omega)
        omega
      · exact h
  · rw [List.take_take, Nat.min_eq_left h4]
    exact h6
theorem more_plain {lm : List ByteArray} {more : ByteArray} {G : List Int} (hf : Fine (lm.map bytesOf)) (hm : more.size ≤ 65536) (hG : framesB lm = G) :
    told (G ++ frameL (lm.length : Int) (bytesOf more)) = lm ++ [more] ∧ endOf (scanL (G ++ frameL (lm.length : Int) (bytesOf more))) = (G ++ frameL (lm.length : Int) (bytesOf more)).length := by
  have h2 : Fine ((lm ++ [more]).map bytesOf) := by
    intro s hs
    rw [List.map_append] at hs
    rcases List.mem_append.1 hs with hs | hs
    · exact hf s hs
    · obtain rfl : s = bytesOf more := by simpa using hs
      exact ⟨bytesOf_bytes more, by rw [bytesOf_length]; exact hm⟩
  have h := scan_lines h2 [] rfl
  rw [List.append_nil, framesB_snoc, hG] at h
  exact h
theorem Both.kept_below {w w' : World} {base g lg : Nat} {v lv : Value} {xs : List Int} {sure : Nat} {ls : List ByteArray} {safe : Nat} (T : Both w base g lg v lv xs sure ls safe) (h : Below w.heap.size w w') : Both w' base g lg v lv xs sure ls safe :=
  ⟨T.tape.kept (Keeps.of_below (S := fun _ => False) h) (fun h => h) (fun _ _ h => h), T.log.kept (Keeps.of_below (S := fun _ => False) h) (fun h => h) (fun _ _ h => h)⟩
/-- append([]string{}, lines...) in a walk -/
theorem print_appendS0 {w0 W : World} {ops : Array Oper} {rest : List Oper} {o : Oper} {a : Act} {Q : Exit → Act → World → Prop} (base : Nat) (hgd : o.guard = none) (s x : Operand)
    (ho : o.op = .call { callee := .builtin .append, args := #[s, x], argTypes := #[32, 32] }) (v : Value) (ys : List ByteArray) (A : Option Addr) (m c : Nat) (hs : a.eval s = v) (hx : a.eval x = .slice A m c)
    (HO : W.ownsRow base 9 1 v 0 []) (HR : ReadsS W A m ys) (HB : Below base w0 W) (hbase : base ≤ W.heap.size) (hl : m * 16 ≤ 140737488355328)
    (h : ∀ A1 c1 w1, w1.ownsRow base 9 1 (.slice A1 m c1) m (ys.map Value.string) → Below base w0 w1 → wpList Try.prog ops Q rest (a.put o.dst (.slice A1 m c1)) w1) :
    wpList Try.prog ops Q (o :: rest) a W :=
  print_appendS base hgd s x ho v [] ys A m c hs hx HO HR HB hbase (by simpa using hl) (fun A1 c1 w1 h1 h2 => by
    simp only [List.length_nil, Nat.zero_add, List.nil_append] at h1 ⊢
    exact h A1 c1 w1 h1 h2)
/-- a row of lines that is newer than what is turned -/
theorem own_past {w w' : World} {B : Nat} {v : Value} {n : Nat} {xs : List Value} {S : Nat → Prop} (h : w.ownsRow B 9 1 v n xs) (k : Keeps S w w') (hS : ∀ i, S i → i < B) : w'.ownsRow B 9 1 v n xs :=
  own_kept h (fun i e => k.block i (own_block h i e).2.1 (fun hs => by have := hS i hs; have := (own_block h i e).1; omega))
theorem Both.touched {w : World} {base g lg : Nat} {v lv : Value} {xs : List Int} {sure : Nat} {ls : List ByteArray} {safe : Nat} (T : Both w base g lg v lv xs sure ls safe) (k : Nat) (h : k = g ∨ k = lg ∨ v.ownBlock = some k ∨ lv.ownBlock = some k) : k < w.heap.size := by
  rcases h with rfl | rfl | e | e
  · exact T.tape.lt
  · exact T.log.lt
  · exact (T.tape.row.own k e).2.1
  · exact (own_block T.log.row k e).2.1
theorem safe_facts {l : List ByteArray} (hs : shortL l = true) (n su : Nat) (keep : Int) (more : ByteArray) (hmo : more.size ≤ 1000) (hn : n ≤ l.length) (hsu : su ≤ (framesB l).length) (hsn : (framesB (l.take n)).length ≤ su) :
    ∃ (c m : Nat) (lm : List ByteArray) (G H : List Int), su + keptOf (framesB l).length su keep = c ∧ lm.length = m ∧ l.take m = lm ∧ n ≤ m ∧ m ≤ l.length ∧ G.length ≤ 40320 ∧ told ((framesB l).take c) = lm ∧ endOf (scanL ((framesB l).take c)) = G.length ∧ ((framesB l).take c).take G.length = G ∧
      G ++ frameL (m : Int) (bytesOf more) = H ∧ H.length ≤ 50000 ∧ told H = lm ++ [more] ∧ endOf (scanL H) = H.length := by
  have hc := keptOf_le (framesB l).length su keep hsu
  obtain ⟨lm, G, h1, h2, h3, h4, h5, h6, h7⟩ := safe_plain (fine_of_short hs) n (su + keptOf (framesB l).length su keep) hn hc (by omega)
  have hlm : shortL lm = true := by rw [h1]; exact short_take hs _
  have hG : G.length ≤ 40320 := by rw [← h4]; exact short_max hlm 0
  obtain ⟨h8, h9⟩ := more_plain (more := more) (fine_of_short hlm) (by omega) h4
  refine ⟨_, _, lm, G, _, rfl, rfl, h1.symm, h2, h3, hG, h5, h6, h7, rfl, ?_, h8, h9⟩
  rw [List.length_append, frameL_len, bytesOf_length]
  omega
end Go.Proofs.Ytoegeljjfhbpeaa.J
