/- Contracts of the statements' own words short and frames, and what Scan tells of frames that are cut off. No condition stands open. -/
import Derived.Test.YtoegeljjfhbpeaaJX
import Derived.Test.YtoegeljjfhbpeaaJ4
set_option linter.unusedVariables false
set_option linter.unusedSimpArgs false
namespace Go.Proofs.Ytoegeljjfhbpeaa.J
open Go.RowKit Go.Proofs.YtoegeljjfhbpeaaW.PrintWords Go.Proofs.YtoegeljjfhbpeaaW.PrintLast Go.Proofs.YtoegeljjfhbpeaaW.PrintMore

theorem short_any (A : Option Addr) (n c : Nat) (l : List ByteArray) (w : World) (hR : ReadsS w A n l) (hc : n ≤ c) : Calls Try.prog 18 #[.slice A n c] w fun e w' => e = .returned (.bool (shortL l)) ∧ Below w.heap.size w w' := by
  have e1 := hR.1
  subst e1
  exact (PG.foolscaplaw31_short.calls _ A c l _ w (Kd.C_of_reads (d := ByteArray.empty) hR) hc (short_eq l)).mono fun e w' ⟨he, hd⟩ => ⟨he, hd.below⟩
/-- what frames tells of lines -/
def framesB (l : List ByteArray) : List Int := framesG 0 (l.map bytesOf)
theorem frames_any (A : Option Addr) (n c : Nat) (l : List ByteArray) (w : World) (hR : ReadsS w A n l) (hc : n ≤ c) (hs : shortL l = true) :
    Calls Try.prog 19 #[.slice A n c] w fun e w' => ∃ v, e = .returned v ∧ w'.ownsRow w.heap.size 5 1 v (framesB l).length (nums .u8 (framesB l)) ∧ Below w.heap.size w w' := by
  have e1 := hR.1
  subst e1
  exact (PH.foolscaplaw31_frames.calls _ A c l _ w (Kd.C_of_reads (d := ByteArray.empty) hR) hc (frames_eq l hs)).mono fun e w' ⟨v, he, ho, hb⟩ => ⟨v, he, Kd.own_of_R ho, hb⟩
theorem short_take {l : List ByteArray} (h : shortL l = true) (m : Nat) : shortL (l.take m) = true := by
  obtain ⟨h1, h2⟩ := (short_iff l).1 h
  exact (short_iff _).2 ⟨by rw [List.length_take]; omega, fun s hs => h2 s (List.mem_of_mem_take hs)⟩
theorem fine_of_short {l : List ByteArray} (h : shortL l = true) : Fine (l.map bytesOf) := fun s hs => by
  obtain ⟨x, hx, rfl⟩ := List.mem_map.1 hs
  have := ((short_iff l).1 h).2 x hx
  exact ⟨bytesOf_bytes x, by rw [bytesOf_length]; omega⟩
theorem map_str (l : List ByteArray) : (l.map bytesOf).map strOfNums = l := by
  rw [List.map_map]
  conv => rhs; rw [← List.map_id l]
  exact List.map_congr_left (fun x _ => str_bytesOf x)
theorem told_ends (l : List ByteArray) : (endsG 0 (l.map bytesOf)).map (fun x => strOfNums x.1) = l := by
  have h := congrArg (List.map strOfNums) (endsG_fst (l.map bytesOf) 0)
  rw [List.map_map, map_str] at h
  exact h
/-- frames and, behind them, what is none -/
theorem scan_lines {l : List ByteArray} (hf : Fine (l.map bytesOf)) (t : List Int) (ht : front l.length t = none) : told (framesB l ++ t) = l ∧ endOf (scanL (framesB l ++ t)) = (framesB l).length := by
  have h := scan_frames (l.map bytesOf) t hf (by rw [List.length_map]; exact ht)
  unfold told framesB
  rw [h]
  exact ⟨told_ends l, endOf_ends _⟩
theorem framesB_bytes {l : List ByteArray} (hf : Fine (l.map bytesOf)) : Bytes (framesB l) := framesG_bytes _ _ hf
/-- frames that are cut off are told as the first of them -/
theorem scan_cut {l : List ByteArray} (hf : Fine (l.map bytesOf)) (c : Nat) (hc : c ≤ (framesB l).length) : ∃ m, m ≤ l.length ∧ told ((framesB l).take c) = l.take m ∧ endOf (scanL ((framesB l).take c)) = (framesB (l.take m)).length ∧ (framesB (l.take m)).length ≤ c ∧ (m = l.length ∨ c < (framesB (l.take (m + 1))).length) ∧ (framesB l).take (framesB (l.take m)).length = framesB (l.take m) := by
  obtain ⟨m, u, h1, h2, h3, h4, h5⟩ := take_frames (l.map bytesOf) 0 c hf hc
  rw [List.length_map] at h1 h5
  rw [← List.map_take] at h2 h4
  have hl : (l.take m).length = m := by rw [List.length_take]; omega
  have hs := scan_lines (l := l.take m) (fun s hs => by rw [List.map_take] at hs; exact hf s (List.mem_of_mem_take hs)) u (by rw [hl]; rw [Nat.zero_add] at h3; exact h3)
  have h2' : (framesB l).take c = framesB (l.take m) ++ u := h2
  refine ⟨m, h1, by rw [h2']; exact hs.1, by rw [h2']; exact hs.2, h4, ?_, ?_⟩
  · rcases h5 with h5 | h5
    · exact .inl h5
    · rw [← List.map_take] at h5
      exact .inr h5
  · have h6 := congrArg (List.take (framesB (l.take m)).length) h2'
    rw [List.take_take, List.take_left' rfl, Nat.min_eq_left (show (framesB (l.take m)).length ≤ c from h4)] at h6
    exact h6
end Go.Proofs.Ytoegeljjfhbpeaa.J
