/- SeasonKnown returns true, for every input (it has none): the given card, under the row's condition: the listed package-level variables read as the program's text lays them. -/
import Derived.Test.YtcnpbcgkhhebaaaGreatDoorKn4
import Derived.Test.YtcnpbcgkhhebaaaGreatDoorTie
import Derived.Test.YtcnpbcgkhhebaaaGreatDoorCards
import Derived.ProofKit
import Derived.HandedShaped
import Derived.Shelf.Vars
import Derived.Lib.LaidTab
import Derived.Stop.LaidErr
import Derived.Lay
import Derived.SevenTiedAt
import Derived.Stop.Joined
import Derived.LaidMore
/- SeasonKnown: the examples hold. -/
namespace Go.Proofs.YtcnpbcgkhhebaaaGreatDoor
open Go.RowKit
theorem board0_ex (T : ByteArray) (hT : T = textB exTs) (w : World) (hL : LaidW w) : Calls Tryz.prog 26 #[.string T, .int .i64 0] w fun e w' => (∃ A1 c1 A2 c2, e = .returned (.tuple #[.agg #[.slice A1 0 c1, .slice A2 0 c2], .int .i64 0]) ∧ Rd eO 3 w' A1 c1 [] ∧ Rd eL 5 w' A2 c2 []) ∧ Below w.heap.size w w' := by
  subst hT
  obtain ⟨h1, h2, h3, h4⟩ := board_form ex_parseT (k := 0) (by decide)
  obtain ⟨inn, hi⟩ := st_eta (playS (exT.take 0)) [] [] _ h2 h3 rfl
  have h := board_any (textB exTs) 0 w hL exT_size
  rw [show (0 : Int) = ((0 : Nat) : Int) from rfl, h1, hi] at h
  refine h.mono ?_
  rintro e w' ⟨v, rfl, ⟨A1, c1, A2, c2, rfl, o1, o2⟩, hb⟩
  exact ⟨⟨A1, c1, A2, c2, rfl, o1.rs encO, o2.rs encL⟩, hb⟩
theorem wornb_ex (w : World) (v : Value) (base : Nat) (hv : SeaO base w v [⟨5, ⟨#[98, 99, 100]⟩, 0⟩, ⟨7, ⟨#[97, 98, 101]⟩, 10⟩] [⟨1, ⟨#[97, 101]⟩, 120, 7, false⟩, ⟨2, ⟨#[98]⟩, 45, 0, false⟩, ⟨3, ⟨#[]⟩, 9, 0, false⟩, ⟨4, ⟨#[98, 101]⟩, 300, 7, false⟩]) : Calls Tryz.prog 36 #[v, .string ⟨#[98]⟩] w fun e w' => (∃ A c, e = .returned (.tuple #[.slice A 2 c, .int .i64 0]) ∧ Rd eI 1 w' A c [5, 7]) ∧ Below w.heap.size w w' := by
  obtain ⟨A1, c1, A2, c2, rfl, o1, o2⟩ := hv
  have h := wornE_any A1 c1 _ A2 c2 _ ⟨#[98]⟩ w (o1.rs encO) (o2.rs encL)
  rw [show wornE [⟨5, ⟨#[98, 99, 100]⟩, 0⟩, ⟨7, ⟨#[97, 98, 101]⟩, 10⟩] [⟨1, ⟨#[97, 101]⟩, 120, 7, false⟩, ⟨2, ⟨#[98]⟩, 45, 0, false⟩, ⟨3, ⟨#[]⟩, 9, 0, false⟩, ⟨4, ⟨#[98, 101]⟩, 300, 7, false⟩] ⟨#[98]⟩ = ([5, 7], 0) from by decide +kernel] at h
  refine h.mono ?_
  rintro e w' ⟨⟨A, c, rfl, o1⟩, hb⟩
  exact ⟨⟨A, c, rfl, o1.rs encI⟩, hb⟩
theorem wornx_ex (w : World) (v : Value) (base : Nat) (hv : SeaO base w v [⟨5, ⟨#[98, 99, 100]⟩, 0⟩, ⟨7, ⟨#[97, 98, 101]⟩, 10⟩] [⟨1, ⟨#[97, 101]⟩, 120, 7, false⟩, ⟨2, ⟨#[98]⟩, 45, 0, false⟩, ⟨3, ⟨#[]⟩, 9, 0, false⟩, ⟨4, ⟨#[98, 101]⟩, 300, 7, false⟩]) : Calls Tryz.prog 36 #[v, .string ⟨#[120]⟩] w fun e w' => (∃ A c, e = .returned (.tuple #[.slice A 0 c, .int .i64 0]) ∧ Rd eI 1 w' A c []) ∧ Below w.heap.size w w' := by
  obtain ⟨A1, c1, A2, c2, rfl, o1, o2⟩ := hv
  have h := wornE_any A1 c1 _ A2 c2 _ ⟨#[120]⟩ w (o1.rs encO) (o2.rs encL)
  rw [show wornE [⟨5, ⟨#[98, 99, 100]⟩, 0⟩, ⟨7, ⟨#[97, 98, 101]⟩, 10⟩] [⟨1, ⟨#[97, 101]⟩, 120, 7, false⟩, ⟨2, ⟨#[98]⟩, 45, 0, false⟩, ⟨3, ⟨#[]⟩, 9, 0, false⟩, ⟨4, ⟨#[98, 101]⟩, 300, 7, false⟩] ⟨#[120]⟩ = ([], 0) from by decide +kernel] at h
  refine h.mono ?_
  rintro e w' ⟨⟨A, c, rfl, o1⟩, hb⟩
  exact ⟨⟨A, c, rfl, o1.rs encI⟩, hb⟩
theorem wornn_ex (w : World) (v : Value) (base : Nat) (hv : SeaO base w v [⟨5, ⟨#[98, 99, 100]⟩, 0⟩, ⟨7, ⟨#[97, 98, 101]⟩, 10⟩] [⟨1, ⟨#[97, 101]⟩, 120, 7, false⟩, ⟨2, ⟨#[98]⟩, 45, 0, false⟩, ⟨3, ⟨#[]⟩, 9, 0, false⟩, ⟨4, ⟨#[98, 101]⟩, 300, 7, false⟩]) : Calls Tryz.prog 36 #[v, .string ⟨#[]⟩] w fun e w' => (∃ A c, e = .returned (.tuple #[.slice A 2 c, .int .i64 0]) ∧ Rd eI 1 w' A c [5, 7]) ∧ Below w.heap.size w w' := by
  obtain ⟨A1, c1, A2, c2, rfl, o1, o2⟩ := hv
  have h := wornE_any A1 c1 _ A2 c2 _ ⟨#[]⟩ w (o1.rs encO) (o2.rs encL)
  rw [show wornE [⟨5, ⟨#[98, 99, 100]⟩, 0⟩, ⟨7, ⟨#[97, 98, 101]⟩, 10⟩] [⟨1, ⟨#[97, 101]⟩, 120, 7, false⟩, ⟨2, ⟨#[98]⟩, 45, 0, false⟩, ⟨3, ⟨#[]⟩, 9, 0, false⟩, ⟨4, ⟨#[98, 101]⟩, 300, 7, false⟩] ⟨#[]⟩ = ([5, 7], 0) from by decide +kernel] at h
  refine h.mono ?_
  rintro e w' ⟨⟨A, c, rfl, o1⟩, hb⟩
  exact ⟨⟨A, c, rfl, o1.rs encI⟩, hb⟩
theorem owed5_ex (w : World) (v : Value) (base : Nat) (hv : SeaO base w v [⟨5, ⟨#[98, 99, 100]⟩, 0⟩, ⟨7, ⟨#[97, 98, 101]⟩, 10⟩] [⟨1, ⟨#[97, 101]⟩, 120, 7, false⟩, ⟨2, ⟨#[98]⟩, 45, 0, false⟩, ⟨3, ⟨#[]⟩, 9, 0, false⟩, ⟨4, ⟨#[98, 101]⟩, 300, 7, false⟩]) : Calls Tryz.prog 38 #[v, .int .i64 5] w fun e w' => e = .returned (.tuple #[.int .i64 0, .int .i64 0]) ∧ Below w.heap.size w w' := by
  obtain ⟨A1, c1, A2, c2, rfl, o1, o2⟩ := hv
  have h := owed_any A1 c1 _ A2 c2 _ 5 w (o1.rs encO) (o2.rs encL)
  rw [show owedS [⟨5, ⟨#[98, 99, 100]⟩, 0⟩, ⟨7, ⟨#[97, 98, 101]⟩, 10⟩] [⟨1, ⟨#[97, 101]⟩, 120, 7, false⟩, ⟨2, ⟨#[98]⟩, 45, 0, false⟩, ⟨3, ⟨#[]⟩, 9, 0, false⟩, ⟨4, ⟨#[98, 101]⟩, 300, 7, false⟩] 5 = (0, 0) from by decide +kernel] at h
  refine h.mono ?_
  rintro e w' ⟨rfl, hb⟩
  exact ⟨rfl, hb⟩
theorem owed9_ex (w : World) (v : Value) (base : Nat) (hv : SeaO base w v [⟨5, ⟨#[98, 99, 100]⟩, 0⟩, ⟨7, ⟨#[97, 98, 101]⟩, 10⟩] [⟨1, ⟨#[97, 101]⟩, 120, 7, false⟩, ⟨2, ⟨#[98]⟩, 45, 0, false⟩, ⟨3, ⟨#[]⟩, 9, 0, false⟩, ⟨4, ⟨#[98, 101]⟩, 300, 7, false⟩]) : Calls Tryz.prog 38 #[v, .int .i64 9] w fun e w' => e = .returned (.tuple #[.int .i64 0, .int .i64 5]) ∧ Below w.heap.size w w' := by
  obtain ⟨A1, c1, A2, c2, rfl, o1, o2⟩ := hv
  have h := owed_any A1 c1 _ A2 c2 _ 9 w (o1.rs encO) (o2.rs encL)
  rw [show owedS [⟨5, ⟨#[98, 99, 100]⟩, 0⟩, ⟨7, ⟨#[97, 98, 101]⟩, 10⟩] [⟨1, ⟨#[97, 101]⟩, 120, 7, false⟩, ⟨2, ⟨#[98]⟩, 45, 0, false⟩, ⟨3, ⟨#[]⟩, 9, 0, false⟩, ⟨4, ⟨#[98, 101]⟩, 300, 7, false⟩] 9 = (0, 5) from by decide +kernel] at h
  refine h.mono ?_
  rintro e w' ⟨rfl, hb⟩
  exact ⟨rfl, hb⟩

set_option maxRecDepth 100000 in
set_option maxHeartbeats 40000000 in
theorem known_any (w : World) (hL : LaidW w) : Calls Tryz.prog 16 #[] w fun e w' => e = .returned (.bool true) ∧ Below w.heap.size w w' := by
  have HL := Lib.hid hL
  have BB := Lib.hid (Below.refl w.heap.size w)
  obtain ⟨T, hT⟩ : ∃ T, T = textB exTs := ⟨_, rfl⟩
  have TX := Lib.hid (fun W => text53_any W)
  rw [← hT] at TX
  have HT := Lib.hid hT
  clear hL hT
  go_enter Tryz.func16, Tryz.ntmps16
  go_wp2_with fail
  have hE : Below w.heap.size w w := (Below.refl w.heap.size w)
  refine (TX.out _).mono ?_
  rintro e w1 ⟨rfl, hb⟩
  have hB := below2 hE hb
  replace HL := Lib.hid (HL.out.below hB)
  replace BB := Lib.hid (below2 BB.out hB)
  clear hE hb hB
  go_wp2_with fail
  have hE : Below w1.heap.size w1 w1 := (Below.refl w1.heap.size w1)
  refine (run_ex T HT.out _ (HL.out.below hE)).mono ?_
  rintro e w2 ⟨⟨A1, c1, A2, c2, A3, c3, rfl, ho1, ho2, ho3⟩, hb⟩
  have hB := below2 hE hb
  replace HL := Lib.hid (HL.out.below hB)
  replace BB := Lib.hid (below2 BB.out hB)
  have RE := Lib.hid ho3
  clear hE hb hB ho3
  clear ho1 ho2
  go_wp2_with fail
  have hE : Below w2.heap.size w2 (w2.alloc (.cells #[.slice A1 2 c1, .slice A2 4 c2] 26)) := (below_a1 w2 (.cells #[.slice A1 2 c1, .slice A2 4 c2] 26))
  refine (TX.out _).mono ?_
  rintro e w3 ⟨rfl, hb⟩
  have hB := below2 hE hb
  replace HL := Lib.hid (HL.out.below hB)
  replace BB := Lib.hid (below2 BB.out hB)
  replace RE := Lib.hid (RE.out.below hB)
  clear hE hb hB
  go_wp2_with fail
  have hE : Below w3.heap.size w3 w3 := (Below.refl w3.heap.size w3)
  refine (board6_ex T HT.out _ (HL.out.below hE)).mono ?_
  rintro e w4 ⟨⟨A5, c5, A6, c6, rfl, ho1, ho2⟩, hb⟩
  have hB := below2 hE hb
  replace HL := Lib.hid (HL.out.below hB)
  replace BB := Lib.hid (below2 BB.out hB)
  replace RE := Lib.hid (RE.out.below hB)
  have SO := Lib.hid ho1
  have SL := Lib.hid ho2
  clear hE hb hB ho1 ho2
  go_wp2_with fail
  have hE : Below w4.heap.size w4 (w4.alloc (.cells #[.slice A5 2 c5, .slice A6 3 c6] 26)) := (below_a1 w4 (.cells #[.slice A5 2 c5, .slice A6 3 c6] 26))
  refine (TX.out _).mono ?_
  rintro e w5 ⟨rfl, hb⟩
  have hB := below2 hE hb
  replace HL := Lib.hid (HL.out.below hB)
  replace BB := Lib.hid (below2 BB.out hB)
  replace RE := Lib.hid (RE.out.below hB)
  replace SO := Lib.hid (SO.out.below hB)
  replace SL := Lib.hid (SL.out.below hB)
  have by0 := Lib.hid (show w5.cell? ⟨w4.heap.size, 0, none⟩ = some (.slice A5 2 c5) from cB hb (by go_simp))
  have by1 := Lib.hid (show w5.cell? ⟨w4.heap.size, 1, none⟩ = some (.slice A6 3 c6) from cB hb (by go_simp))
  clear hE hb hB
  go_wp2_with fail
  have hE : Below w5.heap.size w5 w5 := (Below.refl w5.heap.size w5)
  refine (board0_ex T HT.out _ (HL.out.below hE)).mono ?_
  rintro e w6 ⟨⟨A7, c7, A8, c8, rfl, ho1, ho2⟩, hb⟩
  have hB := below2 hE hb
  replace HL := Lib.hid (HL.out.below hB)
  replace BB := Lib.hid (below2 BB.out hB)
  replace RE := Lib.hid (RE.out.below hB)
  replace SO := Lib.hid (SO.out.below hB)
  replace SL := Lib.hid (SL.out.below hB)
  replace by0 := Lib.hid (cB hB by0.out)
  replace by1 := Lib.hid (cB hB by1.out)
  have ZO := Lib.hid ho1
  have ZL := Lib.hid ho2
  clear hE hb hB ho1 ho2
  go_wp2_with fail
  have hE : Below w6.heap.size w6 (w6.alloc (.cells #[.slice A7 0 c7, .slice A8 0 c8] 26)) := (below_a1 w6 (.cells #[.slice A7 0 c7, .slice A8 0 c8] 26))
  refine (end54_any _).mono ?_
  rintro e w7 ⟨⟨v1, rfl, hv⟩, hb⟩
  have hB := below2 hE hb
  replace HL := Lib.hid (HL.out.below hB)
  replace BB := Lib.hid (below2 BB.out hB)
  replace RE := Lib.hid (RE.out.below hB)
  replace SO := Lib.hid (SO.out.below hB)
  replace SL := Lib.hid (SL.out.below hB)
  replace by0 := Lib.hid (cB hB by0.out)
  replace by1 := Lib.hid (cB hB by1.out)
  replace ZO := Lib.hid (ZO.out.below hB)
  replace ZL := Lib.hid (ZL.out.below hB)
  have bz0 := Lib.hid (show w7.cell? ⟨w6.heap.size, 0, none⟩ = some (.slice A7 0 c7) from cB hb (by go_simp))
  have bz1 := Lib.hid (show w7.cell? ⟨w6.heap.size, 1, none⟩ = some (.slice A8 0 c8) from cB hb (by go_simp))
  have SV := Lib.hid hv
  clear hE hb hB hv
  go_wp2_with fail
  have hE : Below w7.heap.size w7 w7 := (Below.refl w7.heap.size w7)
  refine (wornb_ex _ v1 _ SV.out).mono ?_
  rintro e w8 ⟨⟨A10, c10, rfl, ho1⟩, hb⟩
  have hB := below2 hE hb
  replace HL := Lib.hid (HL.out.below hB)
  replace BB := Lib.hid (below2 BB.out hB)
  replace RE := Lib.hid (RE.out.below hB)
  replace SO := Lib.hid (SO.out.below hB)
  replace SL := Lib.hid (SL.out.below hB)
  replace by0 := Lib.hid (cB hB by0.out)
  replace by1 := Lib.hid (cB hB by1.out)
  replace ZO := Lib.hid (ZO.out.below hB)
  replace ZL := Lib.hid (ZL.out.below hB)
  replace bz0 := Lib.hid (cB hB bz0.out)
  replace bz1 := Lib.hid (cB hB bz1.out)
  have RW0 := Lib.hid ho1
  clear hE hb hB ho1
  clear SV
  go_wp2_with fail
  have hE : Below w8.heap.size w8 w8 := (Below.refl w8.heap.size w8)
  refine (end54_any _).mono ?_
  rintro e w9 ⟨⟨v2, rfl, hv⟩, hb⟩
  have hB := below2 hE hb
  replace HL := Lib.hid (HL.out.below hB)
  replace BB := Lib.hid (below2 BB.out hB)
  replace RE := Lib.hid (RE.out.below hB)
  replace SO := Lib.hid (SO.out.below hB)
  replace SL := Lib.hid (SL.out.below hB)
  replace by0 := Lib.hid (cB hB by0.out)
  replace by1 := Lib.hid (cB hB by1.out)
  replace ZO := Lib.hid (ZO.out.below hB)
  replace ZL := Lib.hid (ZL.out.below hB)
  replace bz0 := Lib.hid (cB hB bz0.out)
  replace bz1 := Lib.hid (cB hB bz1.out)
  replace RW0 := Lib.hid (RW0.out.below hB)
  have SV := Lib.hid hv
  clear hE hb hB hv
  go_wp2_with fail
  have hE : Below w9.heap.size w9 w9 := (Below.refl w9.heap.size w9)
  refine (wornx_ex _ v2 _ SV.out).mono ?_
  rintro e w10 ⟨⟨A11, c11, rfl, ho1⟩, hb⟩
  have hB := below2 hE hb
  replace HL := Lib.hid (HL.out.below hB)
  replace BB := Lib.hid (below2 BB.out hB)
  replace RE := Lib.hid (RE.out.below hB)
  replace SO := Lib.hid (SO.out.below hB)
  replace SL := Lib.hid (SL.out.below hB)
  replace by0 := Lib.hid (cB hB by0.out)
  replace by1 := Lib.hid (cB hB by1.out)
  replace ZO := Lib.hid (ZO.out.below hB)
  replace ZL := Lib.hid (ZL.out.below hB)
  replace bz0 := Lib.hid (cB hB bz0.out)
  replace bz1 := Lib.hid (cB hB bz1.out)
  replace RW0 := Lib.hid (RW0.out.below hB)
  have RW1 := Lib.hid ho1
  clear hE hb hB ho1
  clear SV
  go_wp2_with fail
  have hE : Below w10.heap.size w10 w10 := (Below.refl w10.heap.size w10)
  refine (end54_any _).mono ?_
  rintro e w11 ⟨⟨v3, rfl, hv⟩, hb⟩
  have hB := below2 hE hb
  replace HL := Lib.hid (HL.out.below hB)
  replace BB := Lib.hid (below2 BB.out hB)
  replace RE := Lib.hid (RE.out.below hB)
  replace SO := Lib.hid (SO.out.below hB)
  replace SL := Lib.hid (SL.out.below hB)
  replace by0 := Lib.hid (cB hB by0.out)
  replace by1 := Lib.hid (cB hB by1.out)
  replace ZO := Lib.hid (ZO.out.below hB)
  replace ZL := Lib.hid (ZL.out.below hB)
  replace bz0 := Lib.hid (cB hB bz0.out)
  replace bz1 := Lib.hid (cB hB bz1.out)
  replace RW0 := Lib.hid (RW0.out.below hB)
  replace RW1 := Lib.hid (RW1.out.below hB)
  have SV := Lib.hid hv
  clear hE hb hB hv
  go_wp2_with fail
  have hE : Below w11.heap.size w11 w11 := (Below.refl w11.heap.size w11)
  refine (wornn_ex _ v3 _ SV.out).mono ?_
  rintro e w12 ⟨⟨A12, c12, rfl, ho1⟩, hb⟩
  have hB := below2 hE hb
  replace HL := Lib.hid (HL.out.below hB)
  replace BB := Lib.hid (below2 BB.out hB)
  replace RE := Lib.hid (RE.out.below hB)
  replace SO := Lib.hid (SO.out.below hB)
  replace SL := Lib.hid (SL.out.below hB)
  replace by0 := Lib.hid (cB hB by0.out)
  replace by1 := Lib.hid (cB hB by1.out)
  replace ZO := Lib.hid (ZO.out.below hB)
  replace ZL := Lib.hid (ZL.out.below hB)
  replace bz0 := Lib.hid (cB hB bz0.out)
  replace bz1 := Lib.hid (cB hB bz1.out)
  replace RW0 := Lib.hid (RW0.out.below hB)
  replace RW1 := Lib.hid (RW1.out.below hB)
  have RW2 := Lib.hid ho1
  clear hE hb hB ho1
  clear SV
  go_wp2_with fail
  have hE : Below w12.heap.size w12 w12 := (Below.refl w12.heap.size w12)
  refine (end54_any _).mono ?_
  rintro e w13 ⟨⟨v4, rfl, hv⟩, hb⟩
  have hB := below2 hE hb
  replace HL := Lib.hid (HL.out.below hB)
  replace BB := Lib.hid (below2 BB.out hB)
  replace RE := Lib.hid (RE.out.below hB)
  replace SO := Lib.hid (SO.out.below hB)
  replace SL := Lib.hid (SL.out.below hB)
  replace by0 := Lib.hid (cB hB by0.out)
  replace by1 := Lib.hid (cB hB by1.out)
  replace ZO := Lib.hid (ZO.out.below hB)
  replace ZL := Lib.hid (ZL.out.below hB)
  replace bz0 := Lib.hid (cB hB bz0.out)
  replace bz1 := Lib.hid (cB hB bz1.out)
  replace RW0 := Lib.hid (RW0.out.below hB)
  replace RW1 := Lib.hid (RW1.out.below hB)
  replace RW2 := Lib.hid (RW2.out.below hB)
  have SV := Lib.hid hv
  clear hE hb hB hv
  go_wp2_with fail
  have hE : Below w13.heap.size w13 w13 := (Below.refl w13.heap.size w13)
  refine (owed5_ex _ v4 _ SV.out).mono ?_
  rintro e w14 ⟨rfl, hb⟩
  have hB := below2 hE hb
  replace HL := Lib.hid (HL.out.below hB)
  replace BB := Lib.hid (below2 BB.out hB)
  replace RE := Lib.hid (RE.out.below hB)
  replace SO := Lib.hid (SO.out.below hB)
  replace SL := Lib.hid (SL.out.below hB)
  replace by0 := Lib.hid (cB hB by0.out)
  replace by1 := Lib.hid (cB hB by1.out)
  replace ZO := Lib.hid (ZO.out.below hB)
  replace ZL := Lib.hid (ZL.out.below hB)
  replace bz0 := Lib.hid (cB hB bz0.out)
  replace bz1 := Lib.hid (cB hB bz1.out)
  replace RW0 := Lib.hid (RW0.out.below hB)
  replace RW1 := Lib.hid (RW1.out.below hB)
  replace RW2 := Lib.hid (RW2.out.below hB)
  clear hE hb hB
  clear SV
  go_wp2_with fail
  have hE : Below w14.heap.size w14 w14 := (Below.refl w14.heap.size w14)
  refine (end54_any _).mono ?_
  rintro e w15 ⟨⟨v5, rfl, hv⟩, hb⟩
  have hB := below2 hE hb
  replace HL := Lib.hid (HL.out.below hB)
  replace BB := Lib.hid (below2 BB.out hB)
  replace RE := Lib.hid (RE.out.below hB)
  replace SO := Lib.hid (SO.out.below hB)
  replace SL := Lib.hid (SL.out.below hB)
  replace by0 := Lib.hid (cB hB by0.out)
  replace by1 := Lib.hid (cB hB by1.out)
  replace ZO := Lib.hid (ZO.out.below hB)
  replace ZL := Lib.hid (ZL.out.below hB)
  replace bz0 := Lib.hid (cB hB bz0.out)
  replace bz1 := Lib.hid (cB hB bz1.out)
  replace RW0 := Lib.hid (RW0.out.below hB)
  replace RW1 := Lib.hid (RW1.out.below hB)
  replace RW2 := Lib.hid (RW2.out.below hB)
  have SV := Lib.hid hv
  clear hE hb hB hv
  go_wp2_with fail
  have hE : Below w15.heap.size w15 w15 := (Below.refl w15.heap.size w15)
  refine (owed9_ex _ v5 _ SV.out).mono ?_
  rintro e w16 ⟨rfl, hb⟩
  have hB := below2 hE hb
  replace HL := Lib.hid (HL.out.below hB)
  replace BB := Lib.hid (below2 BB.out hB)
  replace RE := Lib.hid (RE.out.below hB)
  replace SO := Lib.hid (SO.out.below hB)
  replace SL := Lib.hid (SL.out.below hB)
  replace by0 := Lib.hid (cB hB by0.out)
  replace by1 := Lib.hid (cB hB by1.out)
  replace ZO := Lib.hid (ZO.out.below hB)
  replace ZL := Lib.hid (ZL.out.below hB)
  replace bz0 := Lib.hid (cB hB bz0.out)
  replace bz1 := Lib.hid (cB hB bz1.out)
  replace RW0 := Lib.hid (RW0.out.below hB)
  replace RW1 := Lib.hid (RW1.out.below hB)
  replace RW2 := Lib.hid (RW2.out.below hB)
  clear hE hb hB
  clear SV
  have hc3 := RE.out.1
  simp only [List.length_cons, List.length_nil] at hc3
  go_wp2
  go_loopg [18] 14 (fun gg s18 wr => ∃ k : Nat, k ≤ 14 ∧ 14 - k ≤ gg ∧ s18 = .int .i64 k ∧ Hid (w16 = wr))
  case atStart => exact ⟨0, by omega, by omega, rfl, rfl⟩
  case round =>
    obtain ⟨k, hk, hg, rfl, BW⟩ := hrel
    obtain rfl := BW.out
    by_cases hlt : k < 14
    · have hli : (k : Int) < 14 := by omega
      by_cases h6 : k = 6
      · subst h6
        go_wp2
        go_roundg 7
        case measure => omega
        case rel => exact ⟨7, by omega, by omega, by go_num, rfl⟩
      have hn6 : ((k : Int) != 6) = true := by simp only [bne_iff_ne, ne_eq]; omega
      have hn6b : (k != 6) = true := by simp only [bne_iff_ne, ne_eq]; omega
      by_cases h8 : k = 8
      · subst h8
        go_wp2
        go_roundg 5
        case measure => omega
        case rel => exact ⟨9, by omega, by omega, by go_num, rfl⟩
      have hn8 : ((k : Int) != 8) = true := by simp only [bne_iff_ne, ne_eq]; omega
      have hn8b : (k != 8) = true := by simp only [bne_iff_ne, ne_eq]; omega
      by_cases h9 : k = 9
      · subst h9
        go_wp2
        go_roundg 4
        case measure => omega
        case rel => exact ⟨10, by omega, by omega, by go_num, rfl⟩
      have hn9 : ((k : Int) != 9) = true := by simp only [bne_iff_ne, ne_eq]; omega
      have hn9b : (k != 9) = true := by simp only [bne_iff_ne, ne_eq]; omega
      obtain ⟨be, oe, q, hq, rfl, -, e0⟩ := RE.out.atI (i := k) (by simpa using hlt)
      have hq0 : q = 0 := by rw [hq]; exact (show ∀ i : Nat, (h : i < [0, 0, 0, 0, 0, 0, 6, 0, 13, 11, 0, 0, 0, 0].length) → i ≠ 6 → i ≠ 8 → i ≠ 9 → ([0, 0, 0, 0, 0, 0, 6, 0, 13, 11, 0, 0, 0, 0] : List Int)[i] = 0 by decide) k (by simpa using hlt) h6 h8 h9
      subst hq0
      clear hq
      have HH := Lib.hid (And.intro h6 (And.intro h8 h9))
      clear h6 h8 h9
      go_wp2
      go_roundg (14 - (k + 1))
      case measure => omega
      case rel => exact ⟨k + 1, by omega, by omega, by go_num, rfl⟩
    · have hli : ¬ (k : Int) < 14 := by omega
      go_wp2_with fail
      have hE : Below w16.heap.size w16 w16 := (Below.refl w16.heap.size w16)
      refine (owner55_any 5 0 ⟨#[98, 99, 100]⟩ _).mono ?_
      rintro e w17 ⟨rfl, hb⟩
      have hB := below2 hE hb
      replace HL := Lib.hid (HL.out.below hB)
      replace BB := Lib.hid (below2 BB.out hB)
      replace RE := Lib.hid (RE.out.below hB)
      replace SO := Lib.hid (SO.out.below hB)
      replace SL := Lib.hid (SL.out.below hB)
      replace by0 := Lib.hid (cB hB by0.out)
      replace by1 := Lib.hid (cB hB by1.out)
      replace ZO := Lib.hid (ZO.out.below hB)
      replace ZL := Lib.hid (ZL.out.below hB)
      replace bz0 := Lib.hid (cB hB bz0.out)
      replace bz1 := Lib.hid (cB hB bz1.out)
      replace RW0 := Lib.hid (RW0.out.below hB)
      replace RW1 := Lib.hid (RW1.out.below hB)
      replace RW2 := Lib.hid (RW2.out.below hB)
      clear hE hb hB
      simp only [eO]
      go_wp2_with fail
      have hE : Below w17.heap.size w17 w17 := (Below.refl w17.heap.size w17)
      refine (owner55_any 7 0 ⟨#[97, 98, 101]⟩ _).mono ?_
      rintro e w18 ⟨rfl, hb⟩
      have hB := below2 hE hb
      replace HL := Lib.hid (HL.out.below hB)
      replace BB := Lib.hid (below2 BB.out hB)
      replace RE := Lib.hid (RE.out.below hB)
      replace SO := Lib.hid (SO.out.below hB)
      replace SL := Lib.hid (SL.out.below hB)
      replace by0 := Lib.hid (cB hB by0.out)
      replace by1 := Lib.hid (cB hB by1.out)
      replace ZO := Lib.hid (ZO.out.below hB)
      replace ZL := Lib.hid (ZL.out.below hB)
      replace bz0 := Lib.hid (cB hB bz0.out)
      replace bz1 := Lib.hid (cB hB bz1.out)
      replace RW0 := Lib.hid (RW0.out.below hB)
      replace RW1 := Lib.hid (RW1.out.below hB)
      replace RW2 := Lib.hid (RW2.out.below hB)
      clear hE hb hB
      simp only [eO]
      go_wp2_with fail
      have hE : Below w18.heap.size w18 (w18.alloc (.cells #[.int .i64 5, .string ⟨#[98, 99, 100]⟩, .int .i64 0, .int .i64 7, .string ⟨#[97, 98, 101]⟩, .int .i64 0] 73)) := (below_a1 w18 (.cells #[.int .i64 5, .string ⟨#[98, 99, 100]⟩, .int .i64 0, .int .i64 7, .string ⟨#[97, 98, 101]⟩, .int .i64 0] 73))
      refine (log56_any 1 120 7 ⟨#[97, 101]⟩ false _).mono ?_
      rintro e w19 ⟨rfl, hb⟩
      have hB := below2 hE hb
      replace HL := Lib.hid (HL.out.below hB)
      replace BB := Lib.hid (below2 BB.out hB)
      replace RE := Lib.hid (RE.out.below hB)
      replace SO := Lib.hid (SO.out.below hB)
      replace SL := Lib.hid (SL.out.below hB)
      replace by0 := Lib.hid (cB hB by0.out)
      replace by1 := Lib.hid (cB hB by1.out)
      replace ZO := Lib.hid (ZO.out.below hB)
      replace ZL := Lib.hid (ZL.out.below hB)
      replace bz0 := Lib.hid (cB hB bz0.out)
      replace bz1 := Lib.hid (cB hB bz1.out)
      replace RW0 := Lib.hid (RW0.out.below hB)
      replace RW1 := Lib.hid (RW1.out.below hB)
      replace RW2 := Lib.hid (RW2.out.below hB)
      have NO := Lib.hid ((((Own.lit encO w18 73 [⟨5, ⟨#[98, 99, 100]⟩, 0⟩, ⟨7, ⟨#[97, 98, 101]⟩, 0⟩] #[.int .i64 5, .string ⟨#[98, 99, 100]⟩, .int .i64 0, .int .i64 7, .string ⟨#[97, 98, 101]⟩, .int .i64 0] rfl (by decide)).rs encO)).below hb)
      clear hE hb hB
      simp only [eL]
      go_wp2_with fail
      have hE : Below w19.heap.size w19 w19 := (Below.refl w19.heap.size w19)
      refine (log56_any 2 45 5 ⟨#[98]⟩ false _).mono ?_
      rintro e w20 ⟨rfl, hb⟩
      have hB := below2 hE hb
      replace HL := Lib.hid (HL.out.below hB)
      replace BB := Lib.hid (below2 BB.out hB)
      replace RE := Lib.hid (RE.out.below hB)
      replace SO := Lib.hid (SO.out.below hB)
      replace SL := Lib.hid (SL.out.below hB)
      replace by0 := Lib.hid (cB hB by0.out)
      replace by1 := Lib.hid (cB hB by1.out)
      replace ZO := Lib.hid (ZO.out.below hB)
      replace ZL := Lib.hid (ZL.out.below hB)
      replace bz0 := Lib.hid (cB hB bz0.out)
      replace bz1 := Lib.hid (cB hB bz1.out)
      replace RW0 := Lib.hid (RW0.out.below hB)
      replace RW1 := Lib.hid (RW1.out.below hB)
      replace RW2 := Lib.hid (RW2.out.below hB)
      replace NO := Lib.hid (NO.out.below hB)
      clear hE hb hB
      simp only [eL]
      go_wp2_with fail
      have hE : Below w20.heap.size w20 w20 := (Below.refl w20.heap.size w20)
      refine (log56_any 3 9 0 ⟨#[]⟩ false _).mono ?_
      rintro e w21 ⟨rfl, hb⟩
      have hB := below2 hE hb
      replace HL := Lib.hid (HL.out.below hB)
      replace BB := Lib.hid (below2 BB.out hB)
      replace RE := Lib.hid (RE.out.below hB)
      replace SO := Lib.hid (SO.out.below hB)
      replace SL := Lib.hid (SL.out.below hB)
      replace by0 := Lib.hid (cB hB by0.out)
      replace by1 := Lib.hid (cB hB by1.out)
      replace ZO := Lib.hid (ZO.out.below hB)
      replace ZL := Lib.hid (ZL.out.below hB)
      replace bz0 := Lib.hid (cB hB bz0.out)
      replace bz1 := Lib.hid (cB hB bz1.out)
      replace RW0 := Lib.hid (RW0.out.below hB)
      replace RW1 := Lib.hid (RW1.out.below hB)
      replace RW2 := Lib.hid (RW2.out.below hB)
      replace NO := Lib.hid (NO.out.below hB)
      clear hE hb hB
      simp only [eL]
      have b1 := by0.out
      have b2 := by1.out
      have b3 := bz0.out
      have b4 := bz1.out
      have l1 : w4.heap.size < w21.heap.size := World.block_lt_of_cell? _ _ b1
      have l2 : w6.heap.size < w21.heap.size := World.block_lt_of_cell? _ _ b3
      go_wp2_with fail
      have hE : Below w21.heap.size w21 ((w21.alloc (.cells #[.int .i64 1, .string ⟨#[97, 101]⟩, .int .i64 120, .int .i64 7, .bool false, .int .i64 2, .string ⟨#[98]⟩, .int .i64 45, .int .i64 5, .bool false, .int .i64 3, .string ⟨#[]⟩, .int .i64 9, .int .i64 0, .bool false] 69)).alloc (.cells #[.slice (some ⟨w18.heap.size, 0, none⟩) 2 2, .slice (some ⟨w21.heap.size, 0, none⟩) 3 3] 26)) := (belowA (below_a1 w21 (.cells #[.int .i64 1, .string ⟨#[97, 101]⟩, .int .i64 120, .int .i64 7, .bool false, .int .i64 2, .string ⟨#[98]⟩, .int .i64 45, .int .i64 5, .bool false, .int .i64 3, .string ⟨#[]⟩, .int .i64 9, .int .i64 0, .bool false] 69)) (.cells #[.slice (some ⟨w18.heap.size, 0, none⟩) 2 2, .slice (some ⟨w21.heap.size, 0, none⟩) 3 3] 26))
      refine (same_any _ _ _ _ _ _ _ _ [⟨5, ⟨#[98, 99, 100]⟩, 0⟩, ⟨7, ⟨#[97, 98, 101]⟩, 0⟩] [⟨1, ⟨#[97, 101]⟩, 120, 7, false⟩, ⟨2, ⟨#[98]⟩, 45, 5, false⟩, ⟨3, ⟨#[]⟩, 9, 0, false⟩] _ (SO.out.below hE) (SL.out.below hE) (NO.out.below hE) (((Own.lit encL w21 69 [⟨1, ⟨#[97, 101]⟩, 120, 7, false⟩, ⟨2, ⟨#[98]⟩, 45, 5, false⟩, ⟨3, ⟨#[]⟩, 9, 0, false⟩] #[.int .i64 1, .string ⟨#[97, 101]⟩, .int .i64 120, .int .i64 7, .bool false, .int .i64 2, .string ⟨#[98]⟩, .int .i64 45, .int .i64 5, .bool false, .int .i64 3, .string ⟨#[]⟩, .int .i64 9, .int .i64 0, .bool false] rfl (by decide)).rs encL).below (below_a1 _ _))).mono ?_
      rintro e w22 ⟨rfl, hb⟩
      have hB := below2 hE hb
      replace HL := Lib.hid (HL.out.below hB)
      replace BB := Lib.hid (below2 BB.out hB)
      replace RE := Lib.hid (RE.out.below hB)
      replace SO := Lib.hid (SO.out.below hB)
      replace SL := Lib.hid (SL.out.below hB)
      replace by0 := Lib.hid (cB hB by0.out)
      replace by1 := Lib.hid (cB hB by1.out)
      replace ZO := Lib.hid (ZO.out.below hB)
      replace ZL := Lib.hid (ZL.out.below hB)
      replace bz0 := Lib.hid (cB hB bz0.out)
      replace bz1 := Lib.hid (cB hB bz1.out)
      replace RW0 := Lib.hid (RW0.out.below hB)
      replace RW1 := Lib.hid (RW1.out.below hB)
      replace RW2 := Lib.hid (RW2.out.below hB)
      replace NO := Lib.hid (NO.out.below hB)
      clear hE hb hB
      clear b1 b2 b3 b4 l1 l2
      have b1 := by0.out
      have b2 := by1.out
      have b3 := bz0.out
      have b4 := bz1.out
      have l1 : w4.heap.size < w22.heap.size := World.block_lt_of_cell? _ _ b1
      have l2 : w6.heap.size < w22.heap.size := World.block_lt_of_cell? _ _ b3
      go_wp2_with fail
      have hE : Below w22.heap.size w22 w22 := (Below.refl w22.heap.size w22)
      refine (same_any _ _ _ _ _ _ _ _ [] [] _ (ZO.out.below hE) (ZL.out.below hE) (Rd.nil_ _ 0 (by decide)) (Rd.nil_ _ 0 (by decide))).mono ?_
      rintro e w23 ⟨rfl, hb⟩
      have hB := below2 hE hb
      replace HL := Lib.hid (HL.out.below hB)
      replace BB := Lib.hid (below2 BB.out hB)
      replace RE := Lib.hid (RE.out.below hB)
      replace SO := Lib.hid (SO.out.below hB)
      replace SL := Lib.hid (SL.out.below hB)
      replace by0 := Lib.hid (cB hB by0.out)
      replace by1 := Lib.hid (cB hB by1.out)
      replace ZO := Lib.hid (ZO.out.below hB)
      replace ZL := Lib.hid (ZL.out.below hB)
      replace bz0 := Lib.hid (cB hB bz0.out)
      replace bz1 := Lib.hid (cB hB bz1.out)
      replace RW0 := Lib.hid (RW0.out.below hB)
      replace RW1 := Lib.hid (RW1.out.below hB)
      replace RW2 := Lib.hid (RW2.out.below hB)
      replace NO := Lib.hid (NO.out.below hB)
      clear hE hb hB
      clear b1 b2 b3 b4 l1 l2
      have hk0 := RW0.out.1
      have hk1 := RW1.out.1
      have hk2 := RW2.out.1
      clear hk0 hk1 hk2
      go_wp2_with fail
      have hE : Below w23.heap.size w23 (w23.alloc (.cells #[.int .i64 5, .int .i64 7] 2)) := (below_a1 w23 (.cells #[.int .i64 5, .int .i64 7] 2))
      refine (longs_any _ _ _ _ [5, 7] _ (RW0.out.below hE) ((Own.lit encI _ 2 [5, 7] #[.int .i64 5, .int .i64 7] rfl (by decide)).rs encI)).mono ?_
      rintro e w24 ⟨rfl, hb⟩
      have hB := below2 hE hb
      replace HL := Lib.hid (HL.out.below hB)
      replace BB := Lib.hid (below2 BB.out hB)
      replace RE := Lib.hid (RE.out.below hB)
      replace SO := Lib.hid (SO.out.below hB)
      replace SL := Lib.hid (SL.out.below hB)
      replace by0 := Lib.hid (cB hB by0.out)
      replace by1 := Lib.hid (cB hB by1.out)
      replace ZO := Lib.hid (ZO.out.below hB)
      replace ZL := Lib.hid (ZL.out.below hB)
      replace bz0 := Lib.hid (cB hB bz0.out)
      replace bz1 := Lib.hid (cB hB bz1.out)
      replace RW0 := Lib.hid (RW0.out.below hB)
      replace RW1 := Lib.hid (RW1.out.below hB)
      replace RW2 := Lib.hid (RW2.out.below hB)
      replace NO := Lib.hid (NO.out.below hB)
      clear hE hb hB
      go_wp2_with fail
      have hE : Below w24.heap.size w24 (w24.alloc (.cells #[.int .i64 5, .int .i64 7] 2)) := (below_a1 w24 (.cells #[.int .i64 5, .int .i64 7] 2))
      refine (longs_any _ _ _ _ [5, 7] _ (RW2.out.below hE) ((Own.lit encI _ 2 [5, 7] #[.int .i64 5, .int .i64 7] rfl (by decide)).rs encI)).mono ?_
      rintro e w25 ⟨rfl, hb⟩
      have hB := below2 hE hb
      replace HL := Lib.hid (HL.out.below hB)
      replace BB := Lib.hid (below2 BB.out hB)
      replace RE := Lib.hid (RE.out.below hB)
      replace SO := Lib.hid (SO.out.below hB)
      replace SL := Lib.hid (SL.out.below hB)
      replace by0 := Lib.hid (cB hB by0.out)
      replace by1 := Lib.hid (cB hB by1.out)
      replace ZO := Lib.hid (ZO.out.below hB)
      replace ZL := Lib.hid (ZL.out.below hB)
      replace bz0 := Lib.hid (cB hB bz0.out)
      replace bz1 := Lib.hid (cB hB bz1.out)
      replace RW0 := Lib.hid (RW0.out.below hB)
      replace RW1 := Lib.hid (RW1.out.below hB)
      replace RW2 := Lib.hid (RW2.out.below hB)
      replace NO := Lib.hid (NO.out.below hB)
      clear hE hb hB
      go_wp2_with fail
      have hE : Below w25.heap.size w25 w25 := (Below.refl w25.heap.size w25)
      refine (works_any _ (HL.out.below hE)).mono ?_
      rintro e w26 ⟨rfl, hb⟩
      have hB := below2 hE hb
      replace HL := Lib.hid (HL.out.below hB)
      replace BB := Lib.hid (below2 BB.out hB)
      replace RE := Lib.hid (RE.out.below hB)
      replace SO := Lib.hid (SO.out.below hB)
      replace SL := Lib.hid (SL.out.below hB)
      replace by0 := Lib.hid (cB hB by0.out)
      replace by1 := Lib.hid (cB hB by1.out)
      replace ZO := Lib.hid (ZO.out.below hB)
      replace ZL := Lib.hid (ZL.out.below hB)
      replace bz0 := Lib.hid (cB hB bz0.out)
      replace bz1 := Lib.hid (cB hB bz1.out)
      replace RW0 := Lib.hid (RW0.out.below hB)
      replace RW1 := Lib.hid (RW1.out.below hB)
      replace RW2 := Lib.hid (RW2.out.below hB)
      replace NO := Lib.hid (NO.out.below hB)
      clear hE hb hB
      go_wp2
      go_ret
      exact ⟨rfl, BB.out⟩
end Go.Proofs.YtcnpbcgkhhebaaaGreatDoor
/- From a row's condition to what the walks ask of the world. -/
namespace Go.Proofs.YtcnpbcgkhhebaaaGreatDoor
open Go.RowKit

theorem ownKn : ownKnob Tryz.prog.godebug = none := by kernel_rfl
def laidAllL : List (String × DataW Unit) := [("math/bits.deBruijn32tab", Rows.laid_math_bits_deBruijn32tab), ("math/bits.deBruijn64tab", Rows.laid_math_bits_deBruijn64tab), ("internal/strconv.uint64pow10", Rows.laid_internal_strconv_uint64pow10), ("unicode/utf8.acceptRanges", Rows.laid_unicode_utf8_acceptRanges), ("strconv.ErrRange", Rows.laid_strconv_ErrRange), ("strconv.ErrSyntax", Rows.laid_strconv_ErrSyntax), ("unicode/utf8.first", Rows.laid_unicode_utf8_first)]
theorem pow_data : (Rows.laid_internal_strconv_uint64pow10 : DataW Unit) = Lib.tabData .u64 Lib.pow10Tab := by kernel_rfl
theorem glob0_type : (Tryz.prog.globals[0]?).map (·.type) = some 200 := by kernel_rfl
theorem laidW_of {W : World} (hsh : W.ShapedOpen Tryz.prog) (hL : laidMetH Tryz.prog laidAllL W) : LaidW W := by
  rw [MakeChecks.laidMetH_plain _ _ _ (by kernel_rfl)] at hL
  have h2 := hL.tail.tail
  rw [show ("internal/strconv.uint64pow10", (Rows.laid_internal_strconv_uint64pow10 : DataW Unit)) = ("internal/strconv.uint64pow10", Lib.tabData .u64 Lib.pow10Tab) from by rw [pow_data]] at h2
  refine ⟨Lib.tabIs_of_head glob0 glob0_type (n := 20) (e := 180) (by kernel_rfl) (by kernel_rfl) (by kernel_rfl) (by kernel_rfl) h2, ?_⟩
  exact cell_of_shapedOpen_int (g := 1) (t := 3) (zero := #[.int .i64 0]) hsh (of_decide_eq_true (by kernel_rfl)) (by kernel_rfl) rfl (by kernel_rfl) (by kernel_rfl) Tryz.underlying3

section
variable {H : Type} {enc : TypeId × Value → H}
/-- The wrap that hands both on: the world's shape, and the row's condition. -/
theorem handed_both {a : Assume} {C : Checked} {os : Os} {f : FuncId} {fn : Func} {s : ChangeSpec} {conds : List PathCond} {apart fresh handsOn again : Bool} {X : World → Array Value → Prop}
    (hX : ∀ (w w' : World) (args : Array Value), w.heap = w'.heap → X w args → X w' args)
    (own : ownKnob C.prog.godebug = none) (started : os.Started) (noInit : C.prog.inits.idxOf? f = none) (hfn : C.prog.funcs[f]? = some fn)
    (witness : ∃ (w : World) (tape : Tape) (i : Input), w.os = os ∧ (w.forCall tape i).Shaped C.prog ∧ i.vars = [] ∧ Input.okWide C.prog (w.forCall tape i) .any w.heap.size f i ∧
      ((s.pre enc C.prog fn conds apart (w.forCall tape i).memory i.args ∧ X (w.forCall tape i).memory i.args) ∧ sizedMet enc C.prog fn (OpenSpec.ofChange s) apart (w.forCall tape i).memory i.args) ∧ a.holds C.prog (lone (Frame.enter C.prog f i.args .normal) [] (w.forCall tape i)))
    (contract : ∀ (W : World) (base : Nat) (args : Array Value) (ds gs : List (DataW H)) (before : List MemPlace),
      (∀ (j : Nat) t v, fn.params[j]? = some t → args[j]? = some v → Value.okWide C.prog W .any base t v) →
      DataW.Whole enc C.prog fn.params.toList s.vars apart W args.toList ds gs before →
      conds.all (PathCond.test C.prog ⟨fn.params.toList, ds, s.plain.varTypes C.prog, gs⟩) = true →
      (DataW.weightsEach C.prog (fn.params.toList ++ s.plain.varTypes C.prog) (ds ++ gs)).all (· ≤ reachBytes) = true → W.ShapedOpen C.prog → X W args →
      a.holds C.prog (lone (Frame.enter C.prog f args .normal) [] W) →
      Calls C.prog f args W fun e W' => ∃ v, e = .returned v ∧ s.post enc C.prog fn apart fresh handsOn again W args v W') :
    ReturnsInHanded a C os f .any (fun w args => (s.pre enc C.prog fn conds apart w args ∧ X w args) ∧ sizedMet enc C.prog fn (OpenSpec.ofChange s) apart w args) (s.post enc C.prog fn apart fresh handsOn again) := by
  refine returnsInHanded_of_calls own started noInit witness ?_
  intro w tape i _ hsh _ hok hpre hholds
  obtain ⟨_, _, _, fn', hfn', _, _, _, _, hval⟩ := hok
  have e : fn' = fn := Option.some.inj (hfn'.symm.trans hfn)
  subst e
  obtain ⟨⟨⟨ds, gs, before, hw, hc⟩, hx⟩, hz⟩ := hpre
  have hw' := DataW.Whole.of_heap (w' := w.forCall tape i) (by rfl) hw
  refine (contract (w.forCall tape i) w.heap.size i.args ds gs before hval hw' hc (hz.weights hw) hsh (hX _ _ _ (by rfl) hx) hholds).mono fun e W' ⟨v, he, hp⟩ => ?_
  subst he
  exact ChangeSpec.post_blind hp
end
theorem laid_fits (os : Os) : (World.holding Tryz.prog os ⟨#[], #[], []⟩).layFits Tryz.prog laidAllL [] = true := by kernel_rfl
theorem laid_ifaces (os : Os) : (World.holding Tryz.prog os ⟨#[], #[], []⟩).layIfaces Tryz.prog laidAllL (World.laidAll Tryz.prog os laidAllL) = true := by kernel_rfl
theorem laid_met (os : Os) (args : Array Value) : laidMetH Tryz.prog laidAllL ((World.laidAll Tryz.prog os laidAllL).forCall (fun _ _ => 0) ⟨#[], args, []⟩).memory := by
  rw [MakeChecks.laidMetH_plain _ _ _ (by kernel_rfl)]
  exact laidMet_laidAll _ (laid_fits os) (laid_ifaces os)
end Go.Proofs.YtcnpbcgkhhebaaaGreatDoor
/- Closed facts of the program's. -/
namespace Go.Proofs.YtcnpbcgkhhebaaaGreatDoor
open Go.ChangeShapes Go.WideShapes Go.ChangeAt Go.RowKit
set_option maxRecDepth 100000
theorem and_mk {a b : Bool} (ha : a = true) (hb : b = true) : (a && b) = true := by rw [ha, hb]; rfl
theorem sh_laidOut : laidOutB Tryz.prog = true := by kernel_rfl
theorem sh_mapsRowed : mapsRowed Tryz.prog = true := by kernel_rfl
theorem sh_stops : (Tryz.prog.stops == []) = true := by kernel_rfl
theorem sh_knobs : (Tryz.prog.stopKnobs == []) = true := by kernel_rfl
theorem sh_heard : Tryz.prog.stopsHeard = true := by kernel_rfl
theorem sh_enter : Tryz.prog.mayEnter = true := by kernel_rfl
theorem sh_main : Tryz.prog.mainIs = some (true, "bb3957611fb07b8f30c253038086df1c9e34512f5bd6bdaf1e554329739cb219".toList) := by kernel_rfl
theorem sh_looks : true = Tryz.prog.looks [] := by kernel_rfl
end Go.Proofs.YtcnpbcgkhhebaaaGreatDoor
/- Closed facts of SeasonKnown's row. -/
namespace Go.Proofs.YtcnpbcgkhhebaaaGreatDoor
open Go.ChangeShapes Go.WideShapes Go.ChangeAt Go.RowKit
set_option maxRecDepth 100000
theorem seasonKnown_j0 : (Rows.seasonKnownRow.wf (OpenSpec.ofChange Rows.seasonKnownSpec)) = true := by kernel_rfl
theorem seasonKnown_j3 : (Tryz.f16.params.all (Tryz.prog.readableRec ·)) = true := by kernel_rfl
theorem seasonKnown_j4 : (namedTie Tryz.prog Rows.seasonKnownRow.named Rows.seasonKnownSpec.vars) = true := by kernel_rfl
theorem seasonKnown_j5 : ((Rows.seasonKnownRow.stops == [])) = true := by kernel_rfl
theorem seasonKnown_j7 : ((Rows.seasonKnownRow.knobs == [])) = true := by kernel_rfl
theorem seasonKnown_j9 : ((Rows.seasonKnownRow.inPlace == Tryz.prog.inPlace 16)) = true := by kernel_rfl
theorem seasonKnown_j10 : ((Rows.seasonKnownRow.unfollowed == Tryz.prog.unfollowed 16)) = true := by kernel_rfl
theorem seasonKnown_j11 : ((Rows.seasonKnownRow.recurses == Tryz.prog.recurses 16)) = true := by kernel_rfl
theorem seasonKnown_j12 : ((Rows.seasonKnownRow.named == Tryz.prog.varsNamed 16)) = true := by kernel_rfl
theorem seasonKnown_j13 : ((Rows.seasonKnownRow.maps == (Tryz.f16.params.toList ++ Rows.seasonKnownSpec.plain.varTypes Tryz.prog).any (Tryz.prog.mapsRec ·))) = true := by kernel_rfl
theorem seasonKnown_j14 : ((Rows.seasonKnownRow.ifaces == (Tryz.f16.params.toList ++ Rows.seasonKnownSpec.plain.varTypes Tryz.prog).any (Tryz.prog.ifacesRec ·))) = true := by kernel_rfl
theorem seasonKnown_j15 : ((Rows.seasonKnownRow.mapsOut == Tryz.prog.mapsAmong Tryz.f16.resultTypes.toList)) = true := by kernel_rfl
theorem seasonKnown_j16 : ((Rows.seasonKnownRow.loops == (Tryz.f16.params.toList ++ Rows.seasonKnownSpec.plain.varTypes Tryz.prog).any (Tryz.prog.loopsFrom ·))) = true := by kernel_rfl
theorem seasonKnown_j17 : ((Rows.seasonKnownRow.wideKeys == (Tryz.f16.params.toList ++ Rows.seasonKnownSpec.plain.varTypes Tryz.prog ++ Tryz.f16.resultTypes.toList).any (Tryz.prog.wideKeysFrom ·))) = true := by kernel_rfl
theorem seasonKnown_j18 : (Rows.seasonKnownSpec.vars.all (Tryz.prog.varReadable ·)) = true := by kernel_rfl
theorem seasonKnown_j19 : (Tryz.f16.resultTypes.all (fun t => Tryz.prog.readableRec t && decide (t < Tryz.prog.types.size))) = true := by kernel_rfl
theorem seasonKnown_j20 : ((Rows.seasonKnownRow.ifacesOut == Tryz.f16.resultTypes.toList.any (Tryz.prog.ifacesRec ·))) = true := by kernel_rfl
theorem seasonKnown_j21 : ((Rows.seasonKnownRow.loopsOut == Tryz.f16.resultTypes.toList.any (Tryz.prog.loopsFrom ·))) = true := by kernel_rfl
theorem seasonKnown_j22 : ((Rows.seasonKnownRow.plainKeys == Tryz.prog.plainKeys)) = true := by kernel_rfl
theorem seasonKnown_j23 : (Rows.seasonKnownRow.shortTexts.isNone) = true := by kernel_rfl
theorem seasonKnown_j26 : ((Rows.seasonKnownRow.lifted == Tryz.prog.liftsFinal)) = true := by kernel_rfl
theorem seasonKnown_j27 : ((Tryz.prog.make == some Rows.seasonKnownRow.make)) = true := by kernel_rfl
theorem seasonKnown_j28 : ((Rows.seasonKnownRow.kinds == (if Rows.seasonKnownRow.domain.isEmpty then [] else Tryz.f16.params.toList.map fun t => match Tryz.prog.underlying t with | some (.int k) => some k | _ => none))) = true := by kernel_rfl
theorem seasonKnown_j29 : ((Rows.seasonKnownRow.pinned == Rows.seasonKnownRow.pinnedBy)) = true := by kernel_rfl
theorem seasonKnown_j30 : ((Rows.seasonKnownRow.veiled == (Tryz.f16.params.toList ++ Rows.seasonKnownSpec.plain.varTypes Tryz.prog ++ Tryz.f16.resultTypes.toList).any (Tryz.prog.veiledRec ·))) = true := by kernel_rfl
theorem seasonKnown_j31 : (Rows.seasonKnownRow.veiledFits Tryz.prog Tryz.f16.params.toList (Tryz.f16.params.toList ++ Rows.seasonKnownSpec.plain.varTypes Tryz.prog ++ Tryz.f16.resultTypes.toList)) = true := by kernel_rfl
theorem seasonKnown_joined : joinedFacts Tryz.prog 16 Tryz.f16 Rows.seasonKnownSpec Rows.seasonKnownRow = true := by
  unfold joinedFacts
  exact (and_mk (and_mk (and_mk (and_mk (and_mk (and_mk (and_mk (and_mk (and_mk (and_mk (and_mk (and_mk (and_mk (and_mk (and_mk (and_mk (and_mk (and_mk (and_mk (and_mk (and_mk (and_mk (and_mk (and_mk (and_mk (and_mk (and_mk (and_mk (and_mk (and_mk (and_mk seasonKnown_j0 sh_laidOut) sh_mapsRowed) seasonKnown_j3) seasonKnown_j4) seasonKnown_j5) sh_stops) seasonKnown_j7) sh_knobs) seasonKnown_j9) seasonKnown_j10) seasonKnown_j11) seasonKnown_j12) seasonKnown_j13) seasonKnown_j14) seasonKnown_j15) seasonKnown_j16) seasonKnown_j17) seasonKnown_j18) seasonKnown_j19) seasonKnown_j20) seasonKnown_j21) seasonKnown_j22) seasonKnown_j23) sh_heard) sh_enter) seasonKnown_j26) seasonKnown_j27) seasonKnown_j28) seasonKnown_j29) seasonKnown_j30) seasonKnown_j31)
end Go.Proofs.YtcnpbcgkhhebaaaGreatDoor
namespace Go.Proofs.YtcnpbcgkhhebaaaGreatDoor
open Go.ChangeShapes Go.WideShapes Go.ChangeAt Go.RowKit
set_option maxRecDepth 100000
theorem seasonKnown_lifted (os : Os) (started : os.Started) (H : Type) (enc : TypeId × Value → H) :
    ReturnsInHanded {} Tryz.checked os 16 .any (fun w args => (Rows.seasonKnownSpec.pre enc Tryz.prog Tryz.f16 Rows.seasonKnownRow.domain false w args ∧ laidMetH Tryz.prog laidAllL w) ∧ sizedMet enc Tryz.prog Tryz.f16 (OpenSpec.ofChange Rows.seasonKnownSpec) false w args)
      (Rows.seasonKnownSpec.post enc Tryz.prog Tryz.f16 false true false false) := by
  refine handed_both (C := Tryz.checked) (X := fun w _ => laidMetH Tryz.prog laidAllL w) (fun _ _ _ hh h => h.of_heap hh) ownKn started (by kernel_rfl) Tryz.func16
    (ChangeSpec.witness_shaped (enc := enc) (C := Tryz.checked) (os := os) (X := fun w _ => laidMetH Tryz.prog laidAllL w) false (World.laidAll Tryz.prog os laidAllL) #[] 8 (World.laidAll_os _ _ _)
      (World.shaped_of_ZipB (by kernel_rfl) (by kernel_rfl)) (by kernel_rfl) (by kernel_rfl) (by kernel_rfl) (laid_met os _)) ?_
  intro W base args ds gs before hval0 hW _ hwt hsh hL _
  have hW' := hW
  obtain ⟨p, q, hA0, hV, rfl, _, _⟩ := hW
  have hA : DataW.TrodAll enc Tryz.prog W 0 (fun _ => true) true Tryz.f16.params.toList args.toList ds p := hA0
  have hLW := laidW_of hsh hL
  rw [Tryz.params16] at hA
  obtain ⟨rfl, rfl, rfl⟩ := trodAll_none hA
  obtain ⟨rfl, rfl⟩ := trodVars_none hV
  refine (known_any W hLW).mono fun e W' ⟨he, hb⟩ => ?_
  subst he
  exact ⟨_, rfl, _, _, _, [], [], [], hW', trodAll_mk1 (shut_bool Tryz.underlying4 true), trodAll_mk0, rfl, hb.frame _, fun h => by cases h⟩
theorem seasonKnown_named : Tryz.prog.funcNamed "peavey/peaveylaw12.SeasonKnown" = some 16 := by kernel_rfl
theorem seasonKnown_goes : false = Rows.seasonKnownRow.goesBy Tryz.prog := by kernel_rfl
theorem seasonKnown_wf : Rows.seasonKnownRow.wfByText (OpenSpec.ofChange Rows.seasonKnownSpec) = true := by kernel_rfl
theorem seasonKnown_row : Rows.SeasonKnownSaid :=
  OpenClaim.holds_of_wide 16 Tryz.f16 rfl rfl rfl rfl rfl rfl rfl ⟨rfl, rfl, rfl, rfl, rfl⟩ rfl rfl rfl rfl rfl seasonKnown_named Tryz.func16 seasonKnown_joined
    (of_decide_eq_true (by kernel_rfl)) (by unfold Func.isWrapper; rw [if_neg (of_decide_eq_false (by kernel_rfl))]; exact ⟨rfl, rfl⟩)
    (fun os started H enc _ => seasonKnown_lifted os started H enc)
theorem seasonKnown_card : Rows.SeasonKnownCardSaid :=
  Claim7.holds_tied_plain_at .later [] [.data, .data, .data, .data, .sentinel, .sentinel, .pinned] true (true, "bb3957611fb07b8f30c253038086df1c9e34512f5bd6bdaf1e554329739cb219") true seasonKnown_row (fun _ h => by cases h) seasonKnown_wf (fun _ h => by cases h) seasonKnown_row_tie rfl ⟨rfl, rfl⟩ sh_main rfl
    (fun f fn hf hfn => by
      obtain rfl : f = 16 := Option.some.inj (seasonKnown_named.symm.trans hf) |>.symm
      obtain rfl : fn = Tryz.f16 := (Option.some.inj (Tryz.func16.symm.trans hfn)).symm
      exact ⟨sh_looks, fun j t ht => by
        rw [Tryz.params16] at ht
        simp at ht⟩)
    seasonKnown_goes
#print axioms seasonKnown_card
end Go.Proofs.YtcnpbcgkhhebaaaGreatDoor
