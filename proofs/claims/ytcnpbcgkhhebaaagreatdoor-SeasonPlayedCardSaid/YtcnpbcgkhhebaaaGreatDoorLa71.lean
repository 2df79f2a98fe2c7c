/- SeasonPlayed returns true, for every input; and what it was given reads as before: the given card, under the row's condition: the listed package-level variables read as the program's text lays them. -/
import Derived.Test.YtcnpbcgkhhebaaaGreatDoorNj1
/- SeasonPlayed: the plain book of a text. -/
namespace Go.Proofs.YtcnpbcgkhhebaaaGreatDoor
open Go.RowKit

set_option maxRecDepth 100000 in
set_option maxHeartbeats 40000000 in
theorem played_any (text : ByteArray) (w : World) (hL : LaidW w) (hs : text.size ≤ 9223372036854775807):
  Calls Tryz.prog 7 #[.string text] w fun e w' => e = .returned (.bool true) ∧ Below w.heap.size w w' := by
 have FN := Lib.hid (fun W => fine_any text W hs)
 rcases fine_cases text with hf | ⟨hf, l, hl⟩
 ·rw [hf] at FN
  clear hf
  have HL := Lib.hid hL
  have BB := Lib.hid (Below.refl w.heap.size w)
  go_enter Tryz.func7, Tryz.ntmps7
  go_wp2_with fail
  have hE : Below w.heap.size w w := (Below.refl w.heap.size w)
  refine (FN.out _).mono ?_
  rintro e w1 ⟨rfl, hb⟩
  have hB := below2 hE hb
  replace HL := Lib.hid (HL.out.below hB)
  replace BB := Lib.hid (below2 BB.out hB)
  clear hE hb hB
  go_wp2_with fail
  have hE : Below w1.heap.size w1 w1 := (Below.refl w1.heap.size w1)
  refine (works_any _ (HL.out.below hE)).mono ?_
  rintro e w2 ⟨rfl, hb⟩
  have hB := below2 hE hb
  replace HL := Lib.hid (HL.out.below hB)
  replace BB := Lib.hid (below2 BB.out hB)
  clear hE hb hB
  go_wp2
  go_ret
  exact ⟨rfl, BB.out⟩
 ·rw [hf] at FN
  have HL := Lib.hid hL
  have BB := Lib.hid (Below.refl w.heap.size w)
  have hs0 := small_text hl
  have hBk := booked hl
  obtain ⟨p, hp⟩ : ∃ p, textB ((playE l).eff.map (·.2.text)) = p := ⟨_, rfl⟩
  rw [hp] at hBk
  obtain ⟨B, hB⟩ : ∃ B, (playE l).eff.map (·.2) = B := ⟨_, rfl⟩
  rw [hB] at hBk
  obtain ⟨xs, hxs⟩ : ∃ x, plus1 (playE l).eff = x := ⟨_, rfl⟩
  have hxl : xs.length = B.length := by rw [← hxs, hBk.num]; unfold plus1; rw [List.length_map]
  have hsp := small_text hBk.parse
  obtain ⟨os, h1⟩ : ∃ x, (playE l).os = x := ⟨_, rfl⟩
  obtain ⟨ls, h2⟩ : ∃ x, (playE l).ls = x := ⟨_, rfl⟩
  obtain ⟨er, h3⟩ : ∃ x, (playE l).errs = x := ⟨_, rfl⟩
  have hvd : Valid os ls := by rw [← h1, ← h2]; exact valid_play hl
  have RU := Lib.hid (fun W hW => runT (n := l.length) hl h1 h2 h3 (by rw [← h3, playE_errs]) W hW)
  have PL := Lib.hid (fun W hW => plainT hs0.1 hBk.book W hW)
  have EF := Lib.hid (fun W hW => effectT (n := B.length) hl hxs hxl W hW)
  have RU2 := Lib.hid (fun W hW => runT (n := B.length) hBk.parse (hBk.os.trans h1) (hBk.ls.trans h2) hBk.errs (by rw [List.length_replicate]) W hW)
  have PL2 := Lib.hid (fun W hW => plainT hsp.1 hBk.own W hW)
  have EF2 := Lib.hid (fun W hW => effectT (n := B.length) hBk.parse hBk.eff (by unfold oneTo; rw [List.length_map, List.length_range]) W hW)
  have LN := Lib.hid (fun W => lines_any p W (by omega))
  rw [nLines_parse hBk.parse] at LN
  have HV := Lib.hid hvd
  have hps : p.size ≤ text.size := hBk.len
  have hps2 : ¬ (text.size : Int) < (p.size : Int) := by omega
  obtain ⟨n, hn⟩ : ∃ n, B.length = n := ⟨_, rfl⟩
  rw [hn] at EF RU2 EF2 LN
  have hn2 : n ≤ 200 := by omega
  clear hL hl hBk hp hB hxs hxl hvd h1 h2 h3 hn hf hsp
  go_enter Tryz.func7, Tryz.ntmps7
  go_wp2_with fail
  have hE : Below w.heap.size w w := (Below.refl w.heap.size w)
  refine (FN.out _).mono ?_
  rintro e w1 ⟨rfl, hb⟩
  have hB := below2 hE hb
  replace HL := Lib.hid (HL.out.below hB)
  replace BB := Lib.hid (below2 BB.out hB)
  clear hE hb hB
  go_wp2_with fail
  have hE : Below w1.heap.size w1 w1 := (Below.refl w1.heap.size w1)
  refine (RU.out _ (HL.out.below hE)).mono ?_
  rintro e w2 ⟨⟨A1, c1, A2, c2, A3, c3, rfl, ho1, ho2, ho3⟩, hb⟩
  have hB := below2 hE hb
  replace HL := Lib.hid (HL.out.below hB)
  replace BB := Lib.hid (below2 BB.out hB)
  have RO := Lib.hid ho1
  have RS := Lib.hid ho2
  clear hE hb hB ho1 ho2
  clear ho3
  go_wp2_with fail
  have hE : Below w2.heap.size w2 (w2.alloc (.cells #[.slice A1 os.length c1, .slice A2 ls.length c2] 26)) := (below_a1 w2 (.cells #[.slice A1 os.length c1, .slice A2 ls.length c2] 26))
  refine (PL.out _ (HL.out.below hE)).mono ?_
  rintro e w3 ⟨rfl, hb⟩
  have hB := below2 hE hb
  replace HL := Lib.hid (HL.out.below hB)
  replace BB := Lib.hid (below2 BB.out hB)
  replace RO := Lib.hid (RO.out.below hB)
  replace RS := Lib.hid (RS.out.below hB)
  have bx0 := Lib.hid (show w3.cell? ⟨w2.heap.size, 0, none⟩ = some (.slice A1 os.length c1) from cB hb (by go_simp))
  have bx1 := Lib.hid (show w3.cell? ⟨w2.heap.size, 1, none⟩ = some (.slice A2 ls.length c2) from cB hb (by go_simp))
  clear hE hb hB
  go_wp2_with fail
  have hE : Below w3.heap.size w3 w3 := (Below.refl w3.heap.size w3)
  refine (EF.out _ (HL.out.below hE)).mono ?_
  rintro e w4 ⟨⟨A4, c4, rfl, ho1⟩, hb⟩
  have hB := below2 hE hb
  replace HL := Lib.hid (HL.out.below hB)
  replace BB := Lib.hid (below2 BB.out hB)
  replace RO := Lib.hid (RO.out.below hB)
  replace RS := Lib.hid (RS.out.below hB)
  replace bx0 := Lib.hid (cB hB bx0.out)
  replace bx1 := Lib.hid (cB hB bx1.out)
  clear hE hb hB
  clear ho1
  go_wp2_with fail
  have hE : Below w4.heap.size w4 w4 := (Below.refl w4.heap.size w4)
  refine (RU2.out _ (HL.out.below hE)).mono ?_
  rintro e w5 ⟨⟨A5, c5, A6, c6, A7, c7, rfl, ho1, ho2, ho3⟩, hb⟩
  have hB := below2 hE hb
  replace HL := Lib.hid (HL.out.below hB)
  replace BB := Lib.hid (below2 BB.out hB)
  replace RO := Lib.hid (RO.out.below hB)
  replace RS := Lib.hid (RS.out.below hB)
  replace bx0 := Lib.hid (cB hB bx0.out)
  replace bx1 := Lib.hid (cB hB bx1.out)
  have RO2 := Lib.hid ho1
  have RS2 := Lib.hid ho2
  have RE := Lib.hid ho3
  clear hE hb hB ho1 ho2 ho3
  go_wp2_with fail
  have hE : Below w5.heap.size w5 (w5.alloc (.cells #[.slice A5 os.length c5, .slice A6 ls.length c6] 26)) := (below_a1 w5 (.cells #[.slice A5 os.length c5, .slice A6 ls.length c6] 26))
  refine (PL2.out _ (HL.out.below hE)).mono ?_
  rintro e w6 ⟨rfl, hb⟩
  have hB := below2 hE hb
  replace HL := Lib.hid (HL.out.below hB)
  replace BB := Lib.hid (below2 BB.out hB)
  replace RO := Lib.hid (RO.out.below hB)
  replace RS := Lib.hid (RS.out.below hB)
  replace bx0 := Lib.hid (cB hB bx0.out)
  replace bx1 := Lib.hid (cB hB bx1.out)
  replace RO2 := Lib.hid (RO2.out.below hB)
  replace RS2 := Lib.hid (RS2.out.below hB)
  replace RE := Lib.hid (RE.out.below hB)
  have by0 := Lib.hid (show w6.cell? ⟨w5.heap.size, 0, none⟩ = some (.slice A5 os.length c5) from cB hb (by go_simp))
  have by1 := Lib.hid (show w6.cell? ⟨w5.heap.size, 1, none⟩ = some (.slice A6 ls.length c6) from cB hb (by go_simp))
  clear hE hb hB
  go_wp2_with fail
  have hE : Below w6.heap.size w6 w6 := (Below.refl w6.heap.size w6)
  refine (EF2.out _ (HL.out.below hE)).mono ?_
  rintro e w7 ⟨⟨A8, c8, rfl, ho1⟩, hb⟩
  have hB := below2 hE hb
  replace HL := Lib.hid (HL.out.below hB)
  replace BB := Lib.hid (below2 BB.out hB)
  replace RO := Lib.hid (RO.out.below hB)
  replace RS := Lib.hid (RS.out.below hB)
  replace bx0 := Lib.hid (cB hB bx0.out)
  replace bx1 := Lib.hid (cB hB bx1.out)
  replace RO2 := Lib.hid (RO2.out.below hB)
  replace RS2 := Lib.hid (RS2.out.below hB)
  replace RE := Lib.hid (RE.out.below hB)
  replace by0 := Lib.hid (cB hB by0.out)
  replace by1 := Lib.hid (cB hB by1.out)
  have RM := Lib.hid ho1
  clear hE hb hB ho1
  have bx0o := bx0.out
  have bx1o := bx1.out
  have bxlt : w2.heap.size < w7.heap.size := World.block_lt_of_cell? _ _ bx0o
  have by0o := by0.out
  have by1o := by1.out
  have bylt : w5.heap.size < w7.heap.size := World.block_lt_of_cell? _ _ by0o
  go_wp2_with fail
  have hE : Below w7.heap.size w7 w7 := (Below.refl w7.heap.size w7)
  refine (same_any _ _ _ _ _ _ _ _ os ls _ (RO.out.below hE) (RS.out.below hE) (RO2.out.below hE) (RS2.out.below hE)).mono ?_
  rintro e w8 ⟨rfl, hb⟩
  have hB := below2 hE hb
  replace HL := Lib.hid (HL.out.below hB)
  replace BB := Lib.hid (below2 BB.out hB)
  replace RO := Lib.hid (RO.out.below hB)
  replace RS := Lib.hid (RS.out.below hB)
  replace bx0 := Lib.hid (cB hB bx0.out)
  replace bx1 := Lib.hid (cB hB bx1.out)
  replace RO2 := Lib.hid (RO2.out.below hB)
  replace RS2 := Lib.hid (RS2.out.below hB)
  replace RE := Lib.hid (RE.out.below hB)
  replace by0 := Lib.hid (cB hB by0.out)
  replace by1 := Lib.hid (cB hB by1.out)
  replace RM := Lib.hid (RM.out.below hB)
  clear hE hb hB
  clear bx0o bx1o bxlt
  clear by0o by1o bylt
  go_wp2_with fail
  have hE : Below w8.heap.size w8 w8 := (Below.refl w8.heap.size w8)
  refine (LN.out _).mono ?_
  rintro e w9 ⟨rfl, hb⟩
  have hB := below2 hE hb
  replace HL := Lib.hid (HL.out.below hB)
  replace BB := Lib.hid (below2 BB.out hB)
  replace RO := Lib.hid (RO.out.below hB)
  replace RS := Lib.hid (RS.out.below hB)
  replace bx0 := Lib.hid (cB hB bx0.out)
  replace bx1 := Lib.hid (cB hB bx1.out)
  replace RO2 := Lib.hid (RO2.out.below hB)
  replace RS2 := Lib.hid (RS2.out.below hB)
  replace RE := Lib.hid (RE.out.below hB)
  replace by0 := Lib.hid (cB hB by0.out)
  replace by1 := Lib.hid (cB hB by1.out)
  replace RM := Lib.hid (RM.out.below hB)
  clear hE hb hB
  have bx0o := bx0.out
  have bx1o := bx1.out
  have bxlt : w2.heap.size < w9.heap.size := World.block_lt_of_cell? _ _ bx0o
  go_wp2_with fail
  have hE : Below w9.heap.size w9 w9 := (Below.refl w9.heap.size w9)
  refine (check_ok HV.out _ _ _ _ _ (RO.out.below hE) (RS.out.below hE)).mono ?_
  rintro e w10 ⟨rfl, hb⟩
  have hB := below2 hE hb
  replace HL := Lib.hid (HL.out.below hB)
  replace BB := Lib.hid (below2 BB.out hB)
  replace RO := Lib.hid (RO.out.below hB)
  replace RS := Lib.hid (RS.out.below hB)
  replace bx0 := Lib.hid (cB hB bx0.out)
  replace bx1 := Lib.hid (cB hB bx1.out)
  replace RO2 := Lib.hid (RO2.out.below hB)
  replace RS2 := Lib.hid (RS2.out.below hB)
  replace RE := Lib.hid (RE.out.below hB)
  replace by0 := Lib.hid (cB hB by0.out)
  replace by1 := Lib.hid (cB hB by1.out)
  replace RM := Lib.hid (RM.out.below hB)
  clear hE hb hB
  clear bx0o bx1o bxlt
  go_wp2
  go_loopg [14] n (fun gg s14 wr => ∃ k : Nat, k ≤ n ∧ n - k ≤ gg ∧ s14 = .int .i64 k ∧ Hid (w10 = wr))
  case atStart => exact ⟨0, by omega, by omega, rfl, rfl⟩
  case round =>
   obtain ⟨k, hk, hg, rfl, BW⟩ := hrel
   obtain rfl := BW.out
   by_cases hlt : k < n
   ·have hli : (k : Int) < (n : Int) := by omega
    have hk0 : (0 : Int) ≤ (k : Int) := by omega
    obtain ⟨be, oe, q, hq, rfl, -, e0⟩ := RE.out.atI (i := k) (by rw [List.length_replicate]; exact hlt)
    obtain rfl : q = 0 := by rw [hq, List.getElem_replicate]
    clear hq
    obtain ⟨bm, om, z, hz, rfl, -, m0⟩ := RM.out.atI (i := k) (by unfold oneTo; rw [List.length_map, List.length_range]; exact hlt)
    obtain rfl : z = (k : Int) + 1 := by rw [hz]; unfold oneTo; rw [List.getElem_map, List.getElem_range]
    clear hz
    go_wp2
    go_roundg (n - (k + 1))
    case measure => omega
    case rel => exact ⟨k + 1, by omega, by omega, by go_num, rfl⟩
   ·have hli : ¬ (k : Int) < (n : Int) := by omega
    go_wp2_with fail
    have hE : Below w10.heap.size w10 w10 := (Below.refl w10.heap.size w10)
    refine (works_any _ (HL.out.below hE)).mono ?_
    rintro e w11 ⟨rfl, hb⟩
    have hB := below2 hE hb
    replace HL := Lib.hid (HL.out.below hB)
    replace BB := Lib.hid (below2 BB.out hB)
    replace RO := Lib.hid (RO.out.below hB)
    replace RS := Lib.hid (RS.out.below hB)
    replace bx0 := Lib.hid (cB hB bx0.out)
    replace bx1 := Lib.hid (cB hB bx1.out)
    replace RO2 := Lib.hid (RO2.out.below hB)
    replace RS2 := Lib.hid (RS2.out.below hB)
    replace RE := Lib.hid (RE.out.below hB)
    replace by0 := Lib.hid (cB hB by0.out)
    replace by1 := Lib.hid (cB hB by1.out)
    replace RM := Lib.hid (RM.out.below hB)
    clear hE hb hB
    go_wp2
    go_ret
    exact ⟨rfl, BB.out⟩
end Go.Proofs.YtcnpbcgkhhebaaaGreatDoor
/- Closed facts of SeasonPlayed's row. -/
namespace Go.Proofs.YtcnpbcgkhhebaaaGreatDoor
open Go.ChangeShapes Go.WideShapes Go.ChangeAt Go.RowKit
set_option maxRecDepth 100000
theorem seasonPlayed_j0 : (Rows.seasonPlayedRow.wf (OpenSpec.ofChange Rows.seasonPlayedSpec)) = true := by kernel_rfl
theorem seasonPlayed_j3 : (Tryz.f7.params.all (Tryz.prog.readableRec ·)) = true := by kernel_rfl
theorem seasonPlayed_j4 : (namedTie Tryz.prog Rows.seasonPlayedRow.named Rows.seasonPlayedSpec.vars) = true := by kernel_rfl
theorem seasonPlayed_j5 : ((Rows.seasonPlayedRow.stops == [])) = true := by kernel_rfl
theorem seasonPlayed_j7 : ((Rows.seasonPlayedRow.knobs == [])) = true := by kernel_rfl
theorem seasonPlayed_j9 : ((Rows.seasonPlayedRow.inPlace == Tryz.prog.inPlace 7)) = true := by kernel_rfl
theorem seasonPlayed_j10 : ((Rows.seasonPlayedRow.unfollowed == Tryz.prog.unfollowed 7)) = true := by kernel_rfl
theorem seasonPlayed_j11 : ((Rows.seasonPlayedRow.recurses == Tryz.prog.recurses 7)) = true := by kernel_rfl
theorem seasonPlayed_j12 : ((Rows.seasonPlayedRow.named == Tryz.prog.varsNamed 7)) = true := by kernel_rfl
theorem seasonPlayed_j13 : ((Rows.seasonPlayedRow.maps == (Tryz.f7.params.toList ++ Rows.seasonPlayedSpec.plain.varTypes Tryz.prog).any (Tryz.prog.mapsRec ·))) = true := by kernel_rfl
theorem seasonPlayed_j14 : ((Rows.seasonPlayedRow.ifaces == (Tryz.f7.params.toList ++ Rows.seasonPlayedSpec.plain.varTypes Tryz.prog).any (Tryz.prog.ifacesRec ·))) = true := by kernel_rfl
theorem seasonPlayed_j15 : ((Rows.seasonPlayedRow.mapsOut == Tryz.prog.mapsAmong Tryz.f7.resultTypes.toList)) = true := by kernel_rfl
theorem seasonPlayed_j16 : ((Rows.seasonPlayedRow.loops == (Tryz.f7.params.toList ++ Rows.seasonPlayedSpec.plain.varTypes Tryz.prog).any (Tryz.prog.loopsFrom ·))) = true := by kernel_rfl
theorem seasonPlayed_j17 : ((Rows.seasonPlayedRow.wideKeys == (Tryz.f7.params.toList ++ Rows.seasonPlayedSpec.plain.varTypes Tryz.prog ++ Tryz.f7.resultTypes.toList).any (Tryz.prog.wideKeysFrom ·))) = true := by kernel_rfl
theorem seasonPlayed_j18 : (Rows.seasonPlayedSpec.vars.all (Tryz.prog.varReadable ·)) = true := by kernel_rfl
theorem seasonPlayed_j19 : (Tryz.f7.resultTypes.all (fun t => Tryz.prog.readableRec t && decide (t < Tryz.prog.types.size))) = true := by kernel_rfl
theorem seasonPlayed_j20 : ((Rows.seasonPlayedRow.ifacesOut == Tryz.f7.resultTypes.toList.any (Tryz.prog.ifacesRec ·))) = true := by kernel_rfl
theorem seasonPlayed_j21 : ((Rows.seasonPlayedRow.loopsOut == Tryz.f7.resultTypes.toList.any (Tryz.prog.loopsFrom ·))) = true := by kernel_rfl
theorem seasonPlayed_j22 : ((Rows.seasonPlayedRow.plainKeys == Tryz.prog.plainKeys)) = true := by kernel_rfl
theorem seasonPlayed_j23 : (Rows.seasonPlayedRow.shortTexts.isNone) = true := by kernel_rfl
theorem seasonPlayed_j26 : ((Rows.seasonPlayedRow.lifted == Tryz.prog.liftsFinal)) = true := by kernel_rfl
theorem seasonPlayed_j27 : ((Tryz.prog.make == some Rows.seasonPlayedRow.make)) = true := by kernel_rfl
theorem seasonPlayed_j28 : ((Rows.seasonPlayedRow.kinds == (if Rows.seasonPlayedRow.domain.isEmpty then [] else Tryz.f7.params.toList.map fun t => match Tryz.prog.underlying t with | some (.int k) => some k | _ => none))) = true := by kernel_rfl
theorem seasonPlayed_j29 : ((Rows.seasonPlayedRow.pinned == Rows.seasonPlayedRow.pinnedBy)) = true := by kernel_rfl
theorem seasonPlayed_j30 : ((Rows.seasonPlayedRow.veiled == (Tryz.f7.params.toList ++ Rows.seasonPlayedSpec.plain.varTypes Tryz.prog ++ Tryz.f7.resultTypes.toList).any (Tryz.prog.veiledRec ·))) = true := by kernel_rfl
theorem seasonPlayed_j31 : (Rows.seasonPlayedRow.veiledFits Tryz.prog Tryz.f7.params.toList (Tryz.f7.params.toList ++ Rows.seasonPlayedSpec.plain.varTypes Tryz.prog ++ Tryz.f7.resultTypes.toList)) = true := by kernel_rfl
theorem seasonPlayed_joined : joinedFacts Tryz.prog 7 Tryz.f7 Rows.seasonPlayedSpec Rows.seasonPlayedRow = true := by
 unfold joinedFacts
 exact (and_mk (and_mk (and_mk (and_mk (and_mk (and_mk (and_mk (and_mk (and_mk (and_mk (and_mk (and_mk (and_mk (and_mk (and_mk (and_mk (and_mk (and_mk (and_mk (and_mk (and_mk (and_mk (and_mk (and_mk (and_mk (and_mk (and_mk (and_mk (and_mk (and_mk (and_mk seasonPlayed_j0 sh_laidOut) sh_mapsRowed) seasonPlayed_j3) seasonPlayed_j4) seasonPlayed_j5) sh_stops) seasonPlayed_j7) sh_knobs) seasonPlayed_j9) seasonPlayed_j10) seasonPlayed_j11) seasonPlayed_j12) seasonPlayed_j13) seasonPlayed_j14) seasonPlayed_j15) seasonPlayed_j16) seasonPlayed_j17) seasonPlayed_j18) seasonPlayed_j19) seasonPlayed_j20) seasonPlayed_j21) seasonPlayed_j22) seasonPlayed_j23) sh_heard) sh_enter) seasonPlayed_j26) seasonPlayed_j27) seasonPlayed_j28) seasonPlayed_j29) seasonPlayed_j30) seasonPlayed_j31)
end Go.Proofs.YtcnpbcgkhhebaaaGreatDoor
namespace Go.Proofs.YtcnpbcgkhhebaaaGreatDoor
open Go.ChangeShapes Go.WideShapes Go.ChangeAt Go.RowKit
set_option maxRecDepth 100000
open Go.Deep Go.Joins
theorem seasonPlayed_lifted (os : Os) (started : os.Started) (H : Type) (enc : TypeId × Value → H) :
  ReturnsInHanded {} Tryz.checked os 7 .any (fun w args => (Rows.seasonPlayedSpec.pre enc Tryz.prog Tryz.f7 Rows.seasonPlayedRow.domain false w args ∧ laidMetH Tryz.prog laidAllL w) ∧ sizedMet enc Tryz.prog Tryz.f7 (OpenSpec.ofChange Rows.seasonPlayedSpec) false w args)
   (Rows.seasonPlayedSpec.post enc Tryz.prog Tryz.f7 false true false false) := by
 refine handed_both (C := Tryz.checked) (X := fun w _ => laidMetH Tryz.prog laidAllL w) (fun _ _ _ hh h => h.of_heap hh) ownKn started (by kernel_rfl) Tryz.func7
  (ChangeSpec.witness_shaped (enc := enc) (C := Tryz.checked) (os := os) (X := fun w _ => laidMetH Tryz.prog laidAllL w) false (World.laidAll Tryz.prog os laidAllL) #[.string ⟨#[]⟩] 8 (World.laidAll_os _ _ _)
   (World.shaped_of_ZipB (by kernel_rfl) (by kernel_rfl)) (by kernel_rfl) (by kernel_rfl) (by kernel_rfl) (laid_met os _)) ?_
 intro W base args ds gs before hval0 hW _ hwt hsh hL _
 have hW' := hW
 obtain ⟨p, q, hA0, hV, rfl, _, _⟩ := hW
 have hA : DataW.TrodAll enc Tryz.prog W 0 (fun _ => true) true Tryz.f7.params.toList args.toList ds p := hA0
 have hLW := laidW_of hsh hL
 rw [Tryz.params7] at hA
 have hval : ∀ (j : Nat) t v, Tryz.f7.params[j]? = some t → args[j]? = some v → Value.okWide Tryz.prog W .any base t v := hval0
 rw [Tryz.params7] at hval
 obtain ⟨v0, d0, rfl, rfl, h0⟩ := trodAll_one hA
 obtain ⟨rfl, rfl⟩ := trodVars_none hV
 have h0k := h0
 obtain ⟨x0, rfl, _, _, k0⟩ := Go.ChangeMaps.open_string Tryz.underlying9 (hval 0 9 v0 rfl rfl) h0
 simp only [List.append_nil] at hW'
 have hlt : ∀ x ∈ p, x.block < W.heap.size := fun x hx => by simpa using hW'.lt x hx
 refine (played_any x0 W hLW (by unfold maxLen at k0; omega)).mono fun e W' ⟨he, hb⟩ => ?_
 subst he
 exact ⟨_, rfl, _, _, _, [], p, [], hW', trodAll_mk1 (shut_bool Tryz.underlying4 true), trodAll_mk1 (Below.trod sh_laidOut (by kernel_rfl) (of_decide_eq_true (by kernel_rfl)) h0k hb (fun x hx => hlt x (by simp [hx]))), rfl, hb.frame _, fun h => by cases h⟩
theorem seasonPlayed_named : Tryz.prog.funcNamed "peavey/peaveylaw12.SeasonPlayed" = some 7 := by kernel_rfl
theorem seasonPlayed_goes : false = Rows.seasonPlayedRow.goesBy Tryz.prog := by kernel_rfl
theorem seasonPlayed_wf : Rows.seasonPlayedRow.wfByText (OpenSpec.ofChange Rows.seasonPlayedSpec) = true := by kernel_rfl
theorem seasonPlayed_row : Rows.SeasonPlayedSaid :=
 OpenClaim.holds_of_wide 7 Tryz.f7 rfl rfl rfl rfl rfl rfl rfl ⟨rfl, rfl, rfl, rfl, rfl⟩ rfl rfl rfl rfl rfl seasonPlayed_named Tryz.func7 seasonPlayed_joined
  (of_decide_eq_true (by kernel_rfl)) (by unfold Func.isWrapper; rw [if_neg (of_decide_eq_false (by kernel_rfl))]; exact ⟨rfl, rfl⟩)
  (fun os started H enc _ => seasonPlayed_lifted os started H enc)
theorem seasonPlayed_card : Rows.SeasonPlayedCardSaid :=
 Claim7.holds_tied_plain_at .later [] [.data, .data, .data, .data, .sentinel, .sentinel, .pinned] true (true, "bb3957611fb07b8f30c253038086df1c9e34512f5bd6bdaf1e554329739cb219") true seasonPlayed_row (fun _ h => by cases h) seasonPlayed_wf (fun _ h => by cases h) seasonPlayed_row_tie rfl ⟨rfl, rfl⟩ sh_main rfl
  (fun f fn hf hfn => by
   obtain rfl : f = 7 := Option.some.inj (seasonPlayed_named.symm.trans hf) |>.symm
   obtain rfl : fn = Tryz.f7 := (Option.some.inj (Tryz.func7.symm.trans hfn)).symm
   exact ⟨sh_looks, fun j t ht => by
    rw [Tryz.params7] at ht
    have hm : t ∈ [9] := by simpa using Array.mem_of_getElem? ht
    have hall : ([9].all fun u => !Tryz.prog.wantsStandIn u) = true := by kernel_rfl
    exact (show Tryz.prog.wantsStandIn t = false by simpa using List.all_eq_true.1 hall t hm)⟩)
  seasonPlayed_goes
#print axioms seasonPlayed_card
end Go.Proofs.YtcnpbcgkhhebaaaGreatDoor
