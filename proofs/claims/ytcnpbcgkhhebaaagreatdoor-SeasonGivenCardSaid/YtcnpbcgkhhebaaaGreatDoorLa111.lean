/- SeasonGiven returns true, for every input; and what it was given reads as before: the given card, under the row's condition: the listed package-level variables read as the program's text lays them. -/
import Derived.Test.YtcnpbcgkhhebaaaGreatDoorNj1
/- A log comes: the text, and the season after it. -/
namespace Go.Proofs.YtcnpbcgkhhebaaaGreatDoor
open Go.RowKit

structure Gave (t3 : ByteArray) (os : List Ow) (ls : List Lg) (er : List Int) (a f : Nat) (s : ByteArray) : Prop where
 fin : ∃ l3 ls3 e, parseS t3 = (l3, 0) ∧ (playE l3).os = os ∧ (playE l3).ls = ls3 ∧ (playE l3).errs = er ++ [e] ∧ Valid os ls3 ∧ nLines t3 = er.length + 1 ∧ (e ≠ 0 → ls3 = ls) ∧ (e = 0 → ls3 = ls ++ [⟨a, s, f, oneOf (wornS os s), false⟩] ∧ decide (oneOf (wornS os s) ≠ 0) = decide ((wornS os s).length = 1) ∧ ((wornS os s).length = 1 → wornS os s = [oneOf (wornS os s)]))
theorem gave {text : ByteArray} {l : List Ln} (h : parseS text = (l, 0)) (hl : l.length < 200) (hz : text.size ≤ 7900) {os : List Ow} {ls : List Lg} {er : List Int} (h1 : (playE l).os = os) (h2 : (playE l).ls = ls) (h3 : (playE l).errs = er) {a f : Nat} {s : ByteArray} (ha : 1 ≤ a) (ha2 : a ≤ 1099511627776) (hf : 1 ≤ f) (hf2 : f ≤ 10000) (hs : isSeenB s = true) :
  Gave (addB text (logLn a s f).text) os ls er a f s := by
 have hv : Valid os ls := by rw [← h1, ← h2]; exact valid_play h
 have hel : er.length = l.length := by rw [← h3, playE_errs]
 have hz1 := log_size ha2 hf2 hs
 have hline : IsLine (logLn a s f) := log_line ha ha2 hf hf2 hs
 have hns : (logLn a s f).word ≠ wStrike := by show ¬ wLog = wStrike; decide
 have hdo := do_log os ls a s f
 have hos : (comeS os ls (logLn a s f)).1 = os := by
  unfold comeS
  split
  ·rfl
  ·split <;> rfl
 obtain ⟨x, hx⟩ : ∃ x, comeS os ls (logLn a s f) = x := ⟨_, rfl⟩
 obtain ⟨x1, x2, x3⟩ := x
 have hg := given hv a s f
 have hr := do_refused os ls (logLn a s f)
 rw [hdo, hx] at hr
 rw [hx] at hg hos hdo
 simp only at hg hr hos
 subst hos
 obtain ⟨a1, a2, a3, a4, a5, a6⟩ := add_play h hline hns hl (by omega) h1 h2 h3 hdo
 exact ⟨_, x2, x3, a1, a2, a3, a4, a5, by rw [nLines_parse a1, a6, hel], fun he => (hr he).2, hg⟩
theorem worn_ok {os : List Ow} {ls : List Lg} (h : Valid os ls) {s : ByteArray} (hs : isSeenB s = true) : wornE os ls s = (wornS os s, 0) := by
 unfold wornE
 rw [if_neg (by simp [valid_check h]), hs, if_pos rfl]
end Go.Proofs.YtcnpbcgkhhebaaaGreatDoor
/- SeasonGiven: a log comes. -/
namespace Go.Proofs.YtcnpbcgkhhebaaaGreatDoor
open Go.RowKit

set_option maxRecDepth 100000 in
set_option maxHeartbeats 40000000 in
theorem given_law (text : ByteArray) (number : Int) (seen : ByteArray) (m : Int) (w : World) (hL : LaidW w) (hs : text.size ≤ 9223372036854775807) (hs2 : seen.size ≤ 9223372036854775807) (hm0 : 0 ≤ m) (hm1 : m ≤ 65535) :
  Calls Tryz.prog 11 #[.string text, .int .i64 number, .string seen, .int .u16 m] w fun e w' => e = .returned (.bool true) ∧ Below w.heap.size w w' := by
 have FN := Lib.hid (fun W => fine_any text W hs)
 rcases fine_cases text with hf | ⟨hf, l, hl⟩
 ·rw [hf] at FN
  clear hf
  have HL := Lib.hid hL
  have BB := Lib.hid (Below.refl w.heap.size w)
  go_enter Tryz.func11, Tryz.ntmps11
  go_wp2_with fail
  have hE : Below w.heap.size w w := (Below.refl w.heap.size w)
  refine (FN.out _).mono ?_
  rintro e w1 ⟨rfl, hb⟩
  have hB := below2 hE hb
  replace HL := Lib.hid (HL.out.below hB)
  replace BB := Lib.hid (below2 BB.out hB)
  clear hE hb hB
  go_wp2_with fail
  have hE : Below w1.heap.size w1 w1 := (Below.refl w1.heap.size w1)
  refine (works_any _ (HL.out.below hE)).mono ?_
  rintro e w2 ⟨rfl, hb⟩
  have hB := below2 hE hb
  replace HL := Lib.hid (HL.out.below hB)
  replace BB := Lib.hid (below2 BB.out hB)
  clear hE hb hB
  go_wp2
  go_ret
  exact ⟨rfl, BB.out⟩
 ·rw [hf] at FN
  have HL := Lib.hid hL
  have BB := Lib.hid (Below.refl w.heap.size w)
  have hs0 := small_text hl
  have SN := Lib.hid (fun W => isSeen2_any seen W hs2)
  clear hL hf
  by_cases z1 : 30 < seen.size
  ·have _z : True := trivial
   have z1i : (30 : Int) < (seen.size : Int) := by omega
   go_enter Tryz.func11, Tryz.ntmps11
   go_wp2_with fail
   have hE : Below w.heap.size w w := (Below.refl w.heap.size w)
   refine (FN.out _).mono ?_
   rintro e w1 ⟨rfl, hb⟩
   have hB := below2 hE hb
   replace HL := Lib.hid (HL.out.below hB)
   replace BB := Lib.hid (below2 BB.out hB)
   clear hE hb hB
   go_wp2_with fail
   have hE : Below w1.heap.size w1 w1 := (Below.refl w1.heap.size w1)
   refine (works_any _ (HL.out.below hE)).mono ?_
   rintro e w2 ⟨rfl, hb⟩
   have hB := below2 hE hb
   replace HL := Lib.hid (HL.out.below hB)
   replace BB := Lib.hid (below2 BB.out hB)
   clear hE hb hB
   go_wp2
   go_ret
   exact ⟨rfl, BB.out⟩
  have z1i : ¬ (30 : Int) < (seen.size : Int) := by omega
  obtain ⟨sb, hsb⟩ : ∃ x, isSeenB seen = x := ⟨_, rfl⟩
  rw [hsb] at SN
  cases sb with
  | false =>
   ·have _z : True := trivial
    go_enter Tryz.func11, Tryz.ntmps11
    go_wp2_with fail
    have hE : Below w.heap.size w w := (Below.refl w.heap.size w)
    refine (FN.out _).mono ?_
    rintro e w1 ⟨rfl, hb⟩
    have hB := below2 hE hb
    replace HL := Lib.hid (HL.out.below hB)
    replace BB := Lib.hid (below2 BB.out hB)
    clear hE hb hB
    go_wp2_with fail
    have hE : Below w1.heap.size w1 w1 := (Below.refl w1.heap.size w1)
    refine (SN.out _).mono ?_
    rintro e w2 ⟨rfl, hb⟩
    have hB := below2 hE hb
    replace HL := Lib.hid (HL.out.below hB)
    replace BB := Lib.hid (below2 BB.out hB)
    clear hE hb hB
    go_wp2_with fail
    have hE : Below w2.heap.size w2 w2 := (Below.refl w2.heap.size w2)
    refine (works_any _ (HL.out.below hE)).mono ?_
    rintro e w3 ⟨rfl, hb⟩
    have hB := below2 hE hb
    replace HL := Lib.hid (HL.out.below hB)
    replace BB := Lib.hid (below2 BB.out hB)
    clear hE hb hB
    go_wp2
    go_ret
    exact ⟨rfl, BB.out⟩
  | true =>
   by_cases z2 : number < 1
   ·have _z : True := trivial
    go_enter Tryz.func11, Tryz.ntmps11
    go_wp2_with fail
    have hE : Below w.heap.size w w := (Below.refl w.heap.size w)
    refine (FN.out _).mono ?_
    rintro e w1 ⟨rfl, hb⟩
    have hB := below2 hE hb
    replace HL := Lib.hid (HL.out.below hB)
    replace BB := Lib.hid (below2 BB.out hB)
    clear hE hb hB
    go_wp2_with fail
    have hE : Below w1.heap.size w1 w1 := (Below.refl w1.heap.size w1)
    refine (SN.out _).mono ?_
    rintro e w2 ⟨rfl, hb⟩
    have hB := below2 hE hb
    replace HL := Lib.hid (HL.out.below hB)
    replace BB := Lib.hid (below2 BB.out hB)
    clear hE hb hB
    go_wp2_with fail
    have hE : Below w2.heap.size w2 w2 := (Below.refl w2.heap.size w2)
    refine (works_any _ (HL.out.below hE)).mono ?_
    rintro e w3 ⟨rfl, hb⟩
    have hB := below2 hE hb
    replace HL := Lib.hid (HL.out.below hB)
    replace BB := Lib.hid (below2 BB.out hB)
    clear hE hb hB
    go_wp2
    go_ret
    exact ⟨rfl, BB.out⟩
   by_cases z3 : 1099511627776 < number
   ·have _z : True := trivial
    go_enter Tryz.func11, Tryz.ntmps11
    go_wp2_with fail
    have hE : Below w.heap.size w w := (Below.refl w.heap.size w)
    refine (FN.out _).mono ?_
    rintro e w1 ⟨rfl, hb⟩
    have hB := below2 hE hb
    replace HL := Lib.hid (HL.out.below hB)
    replace BB := Lib.hid (below2 BB.out hB)
    clear hE hb hB
    go_wp2_with fail
    have hE : Below w1.heap.size w1 w1 := (Below.refl w1.heap.size w1)
    refine (SN.out _).mono ?_
    rintro e w2 ⟨rfl, hb⟩
    have hB := below2 hE hb
    replace HL := Lib.hid (HL.out.below hB)
    replace BB := Lib.hid (below2 BB.out hB)
    clear hE hb hB
    go_wp2_with fail
    have hE : Below w2.heap.size w2 w2 := (Below.refl w2.heap.size w2)
    refine (works_any _ (HL.out.below hE)).mono ?_
    rintro e w3 ⟨rfl, hb⟩
    have hB := below2 hE hb
    replace HL := Lib.hid (HL.out.below hB)
    replace BB := Lib.hid (below2 BB.out hB)
    clear hE hb hB
    go_wp2
    go_ret
    exact ⟨rfl, BB.out⟩
   obtain ⟨a, rfl⟩ : ∃ a : Nat, number = a := ⟨number.toNat, by omega⟩
   obtain ⟨mn, rfl⟩ : ∃ mn : Nat, m = mn := ⟨m.toNat, by omega⟩
   have ha : 1 ≤ a := by omega
   have ha2 : a ≤ 1099511627776 := by omega
   obtain ⟨v, hv⟩ : ∃ v : Int, (a : Int) = v := ⟨_, rfl⟩
   obtain ⟨f, hf⟩ : ∃ f, 1 + mn % 10000 = f := ⟨_, rfl⟩
   have hf1 : 1 ≤ f := by omega
   have hf2 : f ≤ 10000 := by omega
   obtain ⟨u, hu⟩ : ∃ u : Int, (f : Int) = u := ⟨_, rfl⟩
   have hrn : (1 : Int) + (mn : Int).tmod 10000 = u := by rw [Int.tmod_eq_emod_of_nonneg (by omega)]; omega
   have hrn2 : (1 : Int) + (mn : Int) % 10000 = u := by omega
   have hrn3 : IntKind.i64.wrap u = u := by rw [IntKind.wrap_i64]; omega
   have hrw : IntKind.i64.wrap (mn : Int) = (mn : Int) := by rw [IntKind.wrap_i64]; omega
   obtain ⟨os, h1⟩ : ∃ x, (playE l).os = x := ⟨_, rfl⟩
   obtain ⟨ls, h2⟩ : ∃ x, (playE l).ls = x := ⟨_, rfl⟩
   obtain ⟨er, h3⟩ : ∃ x, (playE l).errs = x := ⟨_, rfl⟩
   have hvd : Valid os ls := by rw [← h1, ← h2]; exact valid_play hl
   have HV := Lib.hid hvd
   have h4 : er.length = l.length := by rw [← h3, playE_errs]
   have RU := Lib.hid (fun W hW => runT (n := l.length) hl h1 h2 h3 h4 W hW)
   have LN := Lib.hid (fun W => lines_any text W (by omega))
   rw [nLines_parse hl] at LN
   have WN := Lib.hid (fun (A : Option Addr) c (A2 : Option Addr) c2 W (a : Rd eO 3 W A c os) (b : Rd eL 5 W A2 c2 ls) => wornE_any A c os A2 c2 ls seen W a b)
   rw [worn_ok hvd hsb] at WN
   have DA := Lib.hid (fun W => digits2_any a W (by omega))
   have DF := Lib.hid (fun W => digits2_any f W (by omega))
   have q0 := decB_small (n := a) (k := 13) (by omega) (by omega)
   have q1 := decB_small (n := f) (k := 5) (by omega) (by omega)
   have pe1 := log_eq a f seen
   have zz1 := log_size ha2 hf2 hsb
   have AD1 := Lib.hid (fun W => added_any text (logLn a seen f).text W (by omega) (by omega))
   rw [nLines_parse hl] at AD1
   have GV := Lib.hid (fun x y => gave hl x y h1 h2 h3 ha ha2 hf1 hf2 hsb)
   have hds : (dashS seen).size ≤ 30 := by unfold dashS; split; (exact (by decide : bDs.size ≤ 30)); omega
   obtain ⟨ad, had⟩ : ∃ x, decB ((a : Int)) = x := ⟨_, rfl⟩
   obtain ⟨fd, hfd⟩ : ∃ x, decB ((f : Int)) = x := ⟨_, rfl⟩
   rw [had] at DA q0 pe1
   rw [hfd] at DF q1 pe1
   clear had hfd
   rw [← pe1] at AD1 GV
   rw [hv] at DA z2 z3 ⊢
   rw [hu] at DF
   have GV2 := Lib.hid (fun x y => (GV.out x y).fin)
   simp only [hv, hu] at GV2
   clear GV
   obtain ⟨dd, hdd⟩ : ∃ x, dashS seen = x := ⟨_, rfl⟩
   rw [hdd] at AD1 GV2 hds
   have HDD := Lib.hid hdd
   have g1 : ¬ 9223372036854775807 < 4 + ad.size := by omega
   have g2 : ¬ 9223372036854775807 < 4 + ad.size + 1 := by omega
   have g3 : ¬ 9223372036854775807 < 4 + ad.size + 1 + dd.size := by omega
   have g4 : ¬ 9223372036854775807 < 4 + ad.size + 1 + dd.size + 1 := by omega
   have g5 : ¬ 9223372036854775807 < 4 + ad.size + 1 + dd.size + 1 + fd.size := by omega
   have H4 := Lib.hid h4
   obtain ⟨N, hN⟩ : ∃ N, l.length = N := ⟨_, rfl⟩
   rw [hN] at RU LN AD1 GV2 H4
   have hN2 : N ≤ 200 := by omega
   have hva : 1 ≤ v := by omega
   clear hl h1 h2 h3 h4 hv hu hN pe1 zz1 hsb hvd ha ha2 hf hf1 hf2 hdd
   obtain ⟨b1, hb1⟩ : ∃ x, (decide (N < 200) && decide (text.size ≤ 7900)) = x := ⟨_, rfl⟩
   rw [hb1] at AD1
   have HB1 := Lib.hid hb1
   clear hb1
   obtain ⟨wl, hwl⟩ : ∃ x, wornS os seen = x := ⟨_, rfl⟩
   rw [hwl] at WN GV2
   obtain ⟨wn, hwn⟩ : ∃ x, wl.length = x := ⟨_, rfl⟩
   have WN2 : Hid (∀ (A : Option Addr) c (A2 : Option Addr) c2 W, Rd eO 3 W A c os → Rd eL 5 W A2 c2 ls → Calls Tryz.prog 36 #[.agg #[.slice A os.length c, .slice A2 ls.length c2], .string seen] W fun e w' => (∃ A9 c9, e = .returned (.tuple #[.slice A9 wn c9, .int .i64 0]) ∧ Rd eI 1 w' A9 c9 wl) ∧ Below W.heap.size W w') := by
    intro A c A2 c2 W a b
    refine (WN.out A c A2 c2 W a b).mono ?_
    rintro e w' ⟨⟨A9, c9, rfl, ho⟩, hb⟩
    exact ⟨⟨A9, c9, by rw [← hwn], ho.rs encI⟩, hb⟩
   have HWN := Lib.hid hwn
   clear WN hwl hwn
   obtain ⟨ds, hds2⟩ : ∃ x, seen.toList.isEmpty = x := ⟨_, rfl⟩
   have hdv : (if ds = true then (⟨#[45]⟩ : ByteArray) else seen) = dd := by
    rw [← HDD.out, ← hds2]
    unfold dashS
    by_cases h0 : seen = bNo
    ·rw [if_pos h0, h0, if_pos (by rw [ByteArray.toList_eq]; rfl)]; rfl
    ·rw [if_neg h0, if_neg]
     intro h9
     rw [List.isEmpty_iff] at h9
     exact h0 (bx (by rw [← ByteArray.toList_eq, h9]; rfl))
   have HDV := Lib.hid hdv
   clear hdv HDD
   go_enter Tryz.func11, Tryz.ntmps11
   go_wp2_with fail
   have hE : Below w.heap.size w w := (Below.refl w.heap.size w)
   refine (FN.out _).mono ?_
   rintro e w1 ⟨rfl, hb⟩
   have hB := below2 hE hb
   replace HL := Lib.hid (HL.out.below hB)
   replace BB := Lib.hid (below2 BB.out hB)
   clear hE hb hB
   go_wp2_with fail
   have hE : Below w1.heap.size w1 w1 := (Below.refl w1.heap.size w1)
   refine (SN.out _).mono ?_
   rintro e w2 ⟨rfl, hb⟩
   have hB := below2 hE hb
   replace HL := Lib.hid (HL.out.below hB)
   replace BB := Lib.hid (below2 BB.out hB)
   clear hE hb hB
   go_wp2_with fail
   have hE : Below w2.heap.size w2 w2 := (Below.refl w2.heap.size w2)
   refine (RU.out _ (HL.out.below hE)).mono ?_
   rintro e w3 ⟨⟨A1, c1, A2, c2, A3, c3, rfl, ho1, ho2, ho3⟩, hb⟩
   have hB := below2 hE hb
   replace HL := Lib.hid (HL.out.below hB)
   replace BB := Lib.hid (below2 BB.out hB)
   have RO := Lib.hid ho1
   have RS := Lib.hid ho2
   clear hE hb hB ho1 ho2
   clear ho3
   go_wp2_with fail
   have hE : Below w3.heap.size w3 (w3.alloc (.cells #[.slice A1 os.length c1, .slice A2 ls.length c2] 26)) := (below_a1 w3 (.cells #[.slice A1 os.length c1, .slice A2 ls.length c2] 26))
   refine (WN2.out _ _ _ _ _ (RO.out.below hE) (RS.out.below hE)).mono ?_
   rintro e w4 ⟨⟨A4, c4, rfl, ho1⟩, hb⟩
   have hB := below2 hE hb
   replace HL := Lib.hid (HL.out.below hB)
   replace BB := Lib.hid (below2 BB.out hB)
   replace RO := Lib.hid (RO.out.below hB)
   replace RS := Lib.hid (RS.out.below hB)
   have bx0 := Lib.hid (show w4.cell? ⟨w3.heap.size, 0, none⟩ = some (.slice A1 os.length c1) from cB hb (by go_simp))
   have bx1 := Lib.hid (show w4.cell? ⟨w3.heap.size, 1, none⟩ = some (.slice A2 ls.length c2) from cB hb (by go_simp))
   have RW := Lib.hid ho1
   clear hE hb hB ho1
   go_upto_if 57 with fail
   go_cut [14] (fun s14 wx => s14 = .string dd ∧ Hid (w4 = wx))
   case first =>
    have hdd := HDV.out
    cases ds with
    | true =>
     simp only [if_true] at hdd
     subst hdd
     go_wp2_with fail
     go_meet
     exact ⟨rfl, rfl⟩
    | false =>
     simp only [Bool.false_eq_true, if_false] at hdd
     subst hdd
     go_wp2_with fail
     go_meet
     exact ⟨rfl, rfl⟩
   case rest =>
    obtain ⟨rfl, hwc⟩ := hcut
    obtain rfl := hwc.out
    clear HDV hds2 hwc
    go_wp2_with fail
    have hE : Below w4.heap.size w4 w4 := (Below.refl w4.heap.size w4)
    refine (DA.out _).mono ?_
    rintro e w5 ⟨rfl, hb⟩
    have hB := below2 hE hb
    replace HL := Lib.hid (HL.out.below hB)
    replace BB := Lib.hid (below2 BB.out hB)
    replace RO := Lib.hid (RO.out.below hB)
    replace RS := Lib.hid (RS.out.below hB)
    replace bx0 := Lib.hid (cB hB bx0.out)
    replace bx1 := Lib.hid (cB hB bx1.out)
    replace RW := Lib.hid (RW.out.below hB)
    clear hE hb hB
    go_wp2_with fail
    have hE : Below w5.heap.size w5 w5 := (Below.refl w5.heap.size w5)
    refine (DF.out _).mono ?_
    rintro e w6 ⟨rfl, hb⟩
    have hB := below2 hE hb
    replace HL := Lib.hid (HL.out.below hB)
    replace BB := Lib.hid (below2 BB.out hB)
    replace RO := Lib.hid (RO.out.below hB)
    replace RS := Lib.hid (RS.out.below hB)
    replace bx0 := Lib.hid (cB hB bx0.out)
    replace bx1 := Lib.hid (cB hB bx1.out)
    replace RW := Lib.hid (RW.out.below hB)
    clear hE hb hB
    go_wp2_with fail
    have hE : Below w6.heap.size w6 w6 := (Below.refl w6.heap.size w6)
    refine (AD1.out _).mono ?_
    rintro e w7 ⟨rfl, hb⟩
    have hB := below2 hE hb
    replace HL := Lib.hid (HL.out.below hB)
    replace BB := Lib.hid (below2 BB.out hB)
    replace RO := Lib.hid (RO.out.below hB)
    replace RS := Lib.hid (RS.out.below hB)
    replace bx0 := Lib.hid (cB hB bx0.out)
    replace bx1 := Lib.hid (cB hB bx1.out)
    replace RW := Lib.hid (RW.out.below hB)
    clear hE hb hB
    have bx0o := bx0.out
    have bx1o := bx1.out
    have bxlt : w3.heap.size < w7.heap.size := World.block_lt_of_cell? _ _ bx0o
    go_wp2_with fail
    have hE : Below w7.heap.size w7 w7 := (Below.refl w7.heap.size w7)
    refine (check_ok HV.out _ _ _ _ _ (RO.out.below hE) (RS.out.below hE)).mono ?_
    rintro e w8 ⟨rfl, hb⟩
    have hB := below2 hE hb
    replace HL := Lib.hid (HL.out.below hB)
    replace BB := Lib.hid (below2 BB.out hB)
    replace RO := Lib.hid (RO.out.below hB)
    replace RS := Lib.hid (RS.out.below hB)
    replace bx0 := Lib.hid (cB hB bx0.out)
    replace bx1 := Lib.hid (cB hB bx1.out)
    replace RW := Lib.hid (RW.out.below hB)
    clear hE hb hB
    clear bx0o bx1o bxlt
    cases b1 with
    | false =>
     go_wp2_with fail
     have hE : Below w8.heap.size w8 w8 := (Below.refl w8.heap.size w8)
     refine (works_any _ (HL.out.below hE)).mono ?_
     rintro e w9 ⟨rfl, hb⟩
     have hB := below2 hE hb
     replace HL := Lib.hid (HL.out.below hB)
     replace BB := Lib.hid (below2 BB.out hB)
     replace RO := Lib.hid (RO.out.below hB)
     replace RS := Lib.hid (RS.out.below hB)
     replace bx0 := Lib.hid (cB hB bx0.out)
     replace bx1 := Lib.hid (cB hB bx1.out)
     replace RW := Lib.hid (RW.out.below hB)
     clear hE hb hB
     go_wp2
     go_ret
     exact ⟨rfl, BB.out⟩
    | true =>
     have hb2 := HB1.out
     rw [Bool.and_eq_true, decide_eq_true_eq, decide_eq_true_eq] at hb2
     obtain ⟨l3, ls3, e, r1, r2, r3, r4, r5, r6, r7, r8⟩ := GV2.out hb2.1 hb2.2
     obtain ⟨t3, ht3⟩ : ∃ x, addB text ((⟨#[108, 111, 103, 32]⟩ : ByteArray) ++ ad ++ ⟨#[32]⟩ ++ dd ++ ⟨#[32]⟩ ++ fd) = x := ⟨_, rfl⟩
     rw [ht3] at r1 r6 ⊢
     obtain ⟨ee, hee⟩ : ∃ x : List Int, er ++ [e] = x := ⟨_, rfl⟩
     have hel : ee.length = N + 1 := by rw [← hee, List.length_append, H4.out]; rfl
     have hil : ee[N]? = some e := by rw [← hee, List.getElem?_append_right (by have := H4.out; omega), H4.out, Nat.sub_self]; rfl
     rw [hee] at r4
     rw [H4.out] at r6
     have RU3 := Lib.hid (fun W hW => runT (n := N + 1) r1 r2 r3 r4 hel W hW)
     have zt := (small_text r1).1
     have LN3 := Lib.hid (fun W => lines_any t3 W (by omega))
     rw [r6] at LN3
     have HEL := Lib.hid hel
     have HIL := Lib.hid hil
     have HV3 := Lib.hid r5
     have R7 := Lib.hid r7
     have R8 := Lib.hid r8
     have hl3 := r5.ls100
     have hls := HV.out.ls100
     clear r1 r2 r3 r4 r5 r6 r7 r8 hel hil hee ht3 GV2 AD1 hb2
     go_wp2_with fail
     have hE : Below w8.heap.size w8 w8 := (Below.refl w8.heap.size w8)
     refine (RU3.out _ (HL.out.below hE)).mono ?_
     rintro e w9 ⟨⟨A6, c6, A7, c7, A8, c8, rfl, ho1, ho2, ho3⟩, hb⟩
     have hB := below2 hE hb
     replace HL := Lib.hid (HL.out.below hB)
     replace BB := Lib.hid (below2 BB.out hB)
     replace RO := Lib.hid (RO.out.below hB)
     replace RS := Lib.hid (RS.out.below hB)
     replace bx0 := Lib.hid (cB hB bx0.out)
     replace bx1 := Lib.hid (cB hB bx1.out)
     replace RW := Lib.hid (RW.out.below hB)
     have RO3 := Lib.hid ho1
     have RS3 := Lib.hid ho2
     have RE := Lib.hid ho3
     clear hE hb hB ho1 ho2 ho3
     go_wp2_with fail
     have hE : Below w9.heap.size w9 (w9.alloc (.cells #[.slice A6 os.length c6, .slice A7 ls3.length c7] 26)) := (below_a1 w9 (.cells #[.slice A6 os.length c6, .slice A7 ls3.length c7] 26))
     refine (LN3.out _).mono ?_
     rintro e w10 ⟨rfl, hb⟩
     have hB := below2 hE hb
     replace HL := Lib.hid (HL.out.below hB)
     replace BB := Lib.hid (below2 BB.out hB)
     replace RO := Lib.hid (RO.out.below hB)
     replace RS := Lib.hid (RS.out.below hB)
     replace bx0 := Lib.hid (cB hB bx0.out)
     replace bx1 := Lib.hid (cB hB bx1.out)
     replace RW := Lib.hid (RW.out.below hB)
     replace RO3 := Lib.hid (RO3.out.below hB)
     replace RS3 := Lib.hid (RS3.out.below hB)
     replace RE := Lib.hid (RE.out.below hB)
     have by0 := Lib.hid (show w10.cell? ⟨w9.heap.size, 0, none⟩ = some (.slice A6 os.length c6) from cB hb (by go_simp))
     have by1 := Lib.hid (show w10.cell? ⟨w9.heap.size, 1, none⟩ = some (.slice A7 ls3.length c7) from cB hb (by go_simp))
     clear hE hb hB
     have by0o := by0.out
     have by1o := by1.out
     have bylt : w9.heap.size < w10.heap.size := World.block_lt_of_cell? _ _ by0o
     go_wp2_with fail
     have hE : Below w10.heap.size w10 w10 := (Below.refl w10.heap.size w10)
     refine (check_ok HV3.out _ _ _ _ _ (RO3.out.below hE) (RS3.out.below hE)).mono ?_
     rintro e w11 ⟨rfl, hb⟩
     have hB := below2 hE hb
     replace HL := Lib.hid (HL.out.below hB)
     replace BB := Lib.hid (below2 BB.out hB)
     replace RO := Lib.hid (RO.out.below hB)
     replace RS := Lib.hid (RS.out.below hB)
     replace bx0 := Lib.hid (cB hB bx0.out)
     replace bx1 := Lib.hid (cB hB bx1.out)
     replace RW := Lib.hid (RW.out.below hB)
     replace RO3 := Lib.hid (RO3.out.below hB)
     replace RS3 := Lib.hid (RS3.out.below hB)
     replace RE := Lib.hid (RE.out.below hB)
     replace by0 := Lib.hid (cB hB by0.out)
     replace by1 := Lib.hid (cB hB by1.out)
     clear hE hb hB
     clear by0o by1o bylt
     obtain ⟨be, oe, z5, hz5, rfl, -, e5⟩ := RE.out.atI (i := N) (by rw [HEL.out]; omega)
     rw [at_of HIL.out] at hz5
     subst hz5
     have E5 := Lib.hid e5
     have hN0 : (0 : Int) ≤ (N : Int) := by omega
     have bx0o := bx0.out
     have bx1o := bx1.out
     have bxlt : w3.heap.size < w11.heap.size := World.block_lt_of_cell? _ _ bx0o
     have by0o := by0.out
     have by1o := by1.out
     have bylt : w9.heap.size < w11.heap.size := World.block_lt_of_cell? _ _ by0o
     by_cases h0 : z5 = 0
     ·have _z : True := trivial
      obtain ⟨s1, s2, s3⟩ := R8.out h0
      clear R7 R8
      subst h0
      have hle0 : ls3.length = ls.length + 1 := by rw [s1, List.length_append]; rfl
      obtain ⟨n3, hn3⟩ : ∃ x, ls.length = x := ⟨_, rfl⟩
      have hle : ls3.length = n3 + 1 := by rw [hle0, hn3]
      clear hle0
      have hge : ∀ h : n3 < ls3.length, ls3[n3] = ⟨v, seen, u, oneOf wl, false⟩ := by subst s1; intro h; rw [List.getElem_append_right (by omega)]; simp [hn3]
      have HGE := Lib.hid hge
      have HS2 := Lib.hid s2
      have HS3 := Lib.hid s3
      clear hge s1 s2 s3
      obtain ⟨bl, ol, yl, hyl, rfl, hbl, l0, l1, l2, l3c, l4⟩ := RS3.out.atL (i := n3) (by omega)
      rw [HGE.out] at hyl
      subst hyl
      simp only at l0 l1 l2 l3c l4
      obtain ⟨ow, how⟩ : ∃ x, oneOf wl = x := ⟨_, rfl⟩
      rw [how] at l3c HS2 HS3
      have hli : (n3 : Int) < (n3 : Int) + 1 := by omega
      have hn30 : (0 : Int) ≤ (n3 : Int) := by omega
      try clear RU
      try clear LN
      try clear DA
      try clear DF
      try clear g1
      try clear g2
      try clear g3
      try clear g4
      try clear g5
      try clear q0
      try clear q1
      try clear LN3
      try clear RU3
      try clear zt
      try clear HEL
      try clear HIL
      try clear H4
      try clear HB1
      try clear WN2
      try clear SN
      try clear FN
      try clear HV
      try clear HV3
      try clear hrn
      try clear hrn2
      try clear hrn3
      try clear hrw
      try clear hs
      try clear hs0
      try clear hs2
      try clear hm0
      try clear hm1
      try clear how
      try clear hbl
      try clear hds
      try clear DO
      go_wp2_with fail
      have hB := below_a1 w11 (.cells #[.int .i64 v, .string seen, .int .i64 u, .int .i64 ow, .bool false] 69)
      have X0 := Lib.hid (show (w11.alloc (.cells #[.int .i64 v, .string seen, .int .i64 u, .int .i64 ow, .bool false] 69)).cell? ⟨w11.heap.size, 0, none⟩ = some (.int .i64 v) from by go_simp)
      have X3 := Lib.hid (show (w11.alloc (.cells #[.int .i64 v, .string seen, .int .i64 u, .int .i64 ow, .bool false] 69)).cell? ⟨w11.heap.size, 3, none⟩ = some (.int .i64 ow) from by go_simp)
      obtain ⟨wE, hwE⟩ : ∃ x, w11.alloc (.cells #[.int .i64 v, .string seen, .int .i64 u, .int .i64 ow, .bool false] 69) = x := ⟨_, rfl⟩
      rw [hwE] at hB X0 X3 ⊢
      replace HL := Lib.hid (HL.out.below hB)
      replace BB := Lib.hid (below2 BB.out hB)
      replace RW := Lib.hid (RW.out.below hB)
      clear hB hwE l0 l1 l2 l3c l4 e5 E5
      clear bx0o bx1o bxlt
      clear by0o by1o bylt
      clear bx0 bx1 by0 by1 RO RS RO3 RS3 RE HGE
      have hw1 := HWN.out
      by_cases hc : wn = 1
      ·have _z : True := trivial
       subst hc
       have hwe := HS3.out hw1
       have ho0 : ow ≠ 0 := by have := HS2.out; rw [hw1] at this; simpa using this
       have hof : (ow != 0) = true := by rw [bne_iff_ne]; exact ho0
       have hof2 : (ow == 0) = false := by rw [beq_eq_false_iff_ne]; exact ho0
       obtain ⟨b9, o9, z9, hz9, rfl, -, k9⟩ := RW.out.atI (i := 0) (by omega)
       have hz9b : z9 = ow := by rw [hz9]; simp [hwe]
       rw [hz9b] at k9
       have K9 := Lib.hid (show wE.cell? ⟨b9, o9, none⟩ = some (.int .i64 ow) from k9)
       clear k9 hz9 hz9b hwe ho0 HS2 HS3 HWN hw1 RW
       refine wp_region_held_drew (S := fun W => Below wE.heap.size wE W ∧ W.cell? ⟨w11.heap.size, 0, none⟩ = some (.int .i64 v) ∧ W.cell? ⟨w11.heap.size, 3, none⟩ = some (.int .i64 ow) ∧ W.cell? ⟨b9, o9, none⟩ = some (.int .i64 ow)) (by kernel_rfl) ?_ (fun hHeld => ?_)
       ·first | exact ⟨Below.refl _ _, X0.out, X3.out, K9.out⟩ | exact ⟨belowD (Below.refl _ _), X0.out, X3.out, K9.out⟩
       refine tk (i := 0) (v := ?_) rfl (Or.inl ⟨by rfl, ?_⟩) hHeld ?_
       rotate_left 1
       ·(intro w hSw; (try dsimp only at hSw); go_simp; try with_reducible rfl)
       try simp only [gA, Act.put]
       refine tk (i := 1) (v := ?_) rfl (Or.inl ⟨by rfl, ?_⟩) hHeld ?_
       rotate_left 1
       ·(intro w hSw; (try dsimp only at hSw); go_simp; try with_reducible rfl)
       try simp only [gA, Act.put]
       refine tk (i := 2) (v := ?_) rfl (Or.inl ⟨by rfl, ?_⟩) hHeld ?_
       rotate_left 1
       ·(intro w hSw; (try dsimp only at hSw); go_simp; try with_reducible rfl)
       try simp only [gA, Act.put]
       refine tk (i := 3) (v := ?_) rfl (Or.inl ⟨by rfl, ?_⟩) hHeld ?_
       rotate_left 1
       ·(intro w hSw; (try dsimp only at hSw); go_simp; try with_reducible rfl)
       try simp only [gA, Act.put]
       refine tk (i := 4) (v := ?_) rfl (Or.inl ⟨by rfl, ?_⟩) hHeld ?_
       rotate_left 1
       ·(intro w hSw; (try dsimp only at hSw); go_simp; try with_reducible rfl)
       try simp only [gA, Act.put]
       refine tk (i := 5) (v := ?_) rfl (Or.inl ⟨by rfl, ?_⟩) hHeld ?_
       rotate_left 1
       ·(intro w hSw; (try dsimp only at hSw); go_simp; try with_reducible rfl)
       try simp only [gA, Act.put]
       refine tk (i := 6) (v := ?_) rfl (Or.inl ⟨by rfl, ?_⟩) hHeld ?_
       rotate_left 1
       ·(intro w hSw; (try dsimp only at hSw); go_simp; try with_reducible rfl)
       try simp only [gA, Act.put]
       refine tk (i := 7) (v := ?_) rfl (Or.inl ⟨by rfl, ?_⟩) hHeld ?_
       rotate_left 1
       ·(intro w hSw; (try dsimp only at hSw); go_simp; try with_reducible rfl)
       try simp only [gA, Act.put]
       refine tk (i := 8) (v := ?_) rfl (Or.inl ⟨by rfl, ?_⟩) hHeld ?_
       rotate_left 1
       ·(intro w hSw; (try dsimp only at hSw); go_simp; try with_reducible rfl)
       try simp only [gA, Act.put]
       refine tk (i := 9) (v := ?_) rfl (Or.inl ⟨by rfl, ?_⟩) hHeld ?_
       rotate_left 1
       ·(intro w hSw; (try dsimp only at hSw); go_simp; try with_reducible rfl)
       try simp only [gA, Act.put]
       refine tk (i := 10) (v := ?_) rfl (Or.inl ⟨by rfl, ?_⟩) hHeld ?_
       rotate_left 1
       ·(intro w hSw; (try dsimp only at hSw); go_simp; try with_reducible rfl)
       try simp only [gA, Act.put]
       refine tk (i := 11) (v := ?_) rfl (Or.inl ⟨by rfl, ?_⟩) hHeld ?_
       rotate_left 1
       ·(intro w hSw; (try dsimp only at hSw); go_simp; try with_reducible rfl)
       try simp only [gA, Act.put]
       refine tk (i := 12) (v := ?_) rfl (Or.inl ⟨by rfl, ?_⟩) hHeld ?_
       rotate_left 1
       ·(intro w hSw; (try dsimp only at hSw); go_simp; try with_reducible rfl)
       try simp only [gA, Act.put]
       refine tk (i := 13) (v := ?_) rfl (Or.inl ⟨by rfl, ?_⟩) hHeld ?_
       rotate_left 1
       ·(intro w hSw; (try dsimp only at hSw); go_simp; try with_reducible rfl)
       try simp only [gA, Act.put]
       refine tk (i := 14) (v := ?_) rfl (Or.inl ⟨by rfl, ?_⟩) hHeld ?_
       rotate_left 1
       ·(intro w hSw; (try dsimp only at hSw); go_simp; try with_reducible rfl)
       try simp only [gA, Act.put]
       refine tk (i := 15) (v := ?_) rfl (Or.inl ⟨by rfl, ?_⟩) hHeld ?_
       rotate_left 1
       ·(intro w hSw; (try dsimp only at hSw); go_simp; try with_reducible rfl)
       try simp only [gA, Act.put]
       refine tk (i := 16) (v := ?_) rfl (Or.inl ⟨by rfl, ?_⟩) hHeld ?_
       rotate_left 1
       ·(intro w hSw; (try dsimp only at hSw); go_simp; try with_reducible rfl)
       try simp only [gA, Act.put]
       refine tk (i := 17) (v := ?_) rfl (Or.inl ⟨by rfl, ?_⟩) hHeld ?_
       rotate_left 1
       ·(intro w hSw; (try dsimp only at hSw); go_simp; try with_reducible rfl)
       try simp only [gA, Act.put]
       refine tk (i := 18) (v := ?_) rfl (Or.inl ⟨by rfl, ?_⟩) hHeld ?_
       rotate_left 1
       ·(intro w hSw; (try dsimp only at hSw); go_simp; try with_reducible rfl)
       try simp only [gA, Act.put]
       refine tk (i := 19) (v := ?_) rfl (Or.inl ⟨by rfl, ?_⟩) hHeld ?_
       rotate_left 1
       ·(intro w hSw; (try dsimp only at hSw); go_simp; try with_reducible rfl)
       try simp only [gA, Act.put]
       refine tk (i := 20) (v := ?_) rfl (Or.inl ⟨by rfl, ?_⟩) hHeld ?_
       rotate_left 1
       ·(intro w hSw; (try dsimp only at hSw); go_simp; try with_reducible rfl)
       try simp only [gA, Act.put]
       refine tk (i := 21) (v := ?_) rfl (Or.inl ⟨by rfl, ?_⟩) hHeld ?_
       rotate_left 1
       ·(intro w hSw; (try dsimp only at hSw); go_simp; try with_reducible rfl)
       try simp only [gA, Act.put]
       refine tk (i := 22) (v := ?_) rfl (Or.inl ⟨by rfl, ?_⟩) hHeld ?_
       rotate_left 1
       ·(intro w hSw; (try dsimp only at hSw); go_simp; try with_reducible rfl)
       try simp only [gA, Act.put]
       refine tk (i := 23) (v := ?_) rfl (Or.inl ⟨by rfl, ?_⟩) hHeld ?_
       rotate_left 1
       ·(intro w hSw; (try dsimp only at hSw); go_simp; try with_reducible rfl)
       try simp only [gA, Act.put]
       refine tk (i := 24) (v := ?_) rfl (Or.inl ⟨by rfl, ?_⟩) hHeld ?_
       rotate_left 1
       ·(intro w hSw; (try dsimp only at hSw); go_simp; try with_reducible rfl)
       try simp only [gA, Act.put]
       refine tk (i := 25) (v := ?_) rfl (Or.inl ⟨by rfl, ?_⟩) hHeld ?_
       rotate_left 1
       ·(intro w hSw; (try dsimp only at hSw); go_simp; try with_reducible rfl)
       try simp only [gA, Act.put]
       refine tk (i := 26) (v := ?_) rfl (Or.inl ⟨by rfl, ?_⟩) hHeld ?_
       rotate_left 1
       ·(intro w hSw; (try dsimp only at hSw); go_simp; try with_reducible rfl)
       try simp only [gA, Act.put]
       refine wpAnyH_ready (rs := [27]) (by kernel_rfl) (by simp) ?_
       refine AllReadyH.cons rfl (fun K hK => ?_) AllReadyH.nil
       go_simp
       go_at_call 17
       refine (works_any _ (HL.out.below hHeld.1)).mono ?_
       rintro e wq ⟨rfl, hbq⟩
       go_wp2_with fail
       refine hK.out _ _ ?_ (fun hHeld => ?_)
       ·exact ⟨below2 hHeld.1 hbq, cB hbq hHeld.2.1, cB hbq hHeld.2.2.1, cB hbq hHeld.2.2.2⟩
       clear hK K
       try simp only [gA, Act.put]
       refine tk (i := 28) (v := ?_) rfl (Or.inl ⟨by rfl, ?_⟩) hHeld ?_
       rotate_left 1
       ·(intro w hSw; (try dsimp only at hSw); go_simp; try with_reducible rfl)
       try simp only [gA, Act.put]
       refine tk (i := 29) (v := ?_) rfl (Or.inl ⟨by rfl, ?_⟩) hHeld ?_
       rotate_left 1
       ·(intro w hSw; (try dsimp only at hSw); go_simp; try with_reducible rfl)
       try simp only [gA, Act.put]
       refine wpAnyH_done (by kernel_rfl) ?_ _
       rotate_left 1
       have BX := below2 BB.out hHeld.1
       clear hHeld
       go_wp2
       go_ret
       exact ⟨rfl, BX⟩
      ·have _z : True := trivial
       have ho0 : ow = 0 := by have := HS2.out; rw [hw1, decide_eq_false hc] at this; simpa using this
       subst ho0
       have hwf : ((wn : Int) == 1) = false := by rw [beq_eq_false_iff_ne]; omega
       have hwf2 : ((wn : Int) != 1) = true := by rw [bne_iff_ne]; omega
       have hwf3 : (wn == 1) = false := by rw [beq_eq_false_iff_ne]; exact hc
       have hwf4 : (wn != 1) = true := by rw [bne_iff_ne]; exact hc
       clear HS2 HS3 HWN hw1 RW
       refine wp_region_held_drew (S := fun W => Below wE.heap.size wE W ∧ W.cell? ⟨w11.heap.size, 0, none⟩ = some (.int .i64 v) ∧ W.cell? ⟨w11.heap.size, 3, none⟩ = some (.int .i64 0)) (by kernel_rfl) ?_ (fun hHeld => ?_)
       ·first | exact ⟨Below.refl _ _, X0.out, X3.out⟩ | exact ⟨belowD (Below.refl _ _), X0.out, X3.out⟩
       refine tk (i := 0) (v := ?_) rfl (Or.inl ⟨by rfl, ?_⟩) hHeld ?_
       rotate_left 1
       ·(intro w hSw; (try dsimp only at hSw); go_simp; try with_reducible rfl)
       try simp only [gA, Act.put]
       refine tk (i := 1) (v := ?_) rfl (Or.inl ⟨by rfl, ?_⟩) hHeld ?_
       rotate_left 1
       ·(intro w hSw; (try dsimp only at hSw); go_simp; try with_reducible rfl)
       try simp only [gA, Act.put]
       refine tk (i := 2) (v := ?_) rfl (Or.inl ⟨by rfl, ?_⟩) hHeld ?_
       rotate_left 1
       ·(intro w hSw; (try dsimp only at hSw); go_simp; try with_reducible rfl)
       try simp only [gA, Act.put]
       refine tk (i := 3) (v := ?_) rfl (Or.inl ⟨by rfl, ?_⟩) hHeld ?_
       rotate_left 1
       ·(intro w hSw; (try dsimp only at hSw); go_simp; try with_reducible rfl)
       try simp only [gA, Act.put]
       refine tk (i := 4) (v := ?_) rfl (Or.inl ⟨by rfl, ?_⟩) hHeld ?_
       rotate_left 1
       ·(intro w hSw; (try dsimp only at hSw); go_simp; try with_reducible rfl)
       try simp only [gA, Act.put]
       refine tk (i := 5) (v := ?_) rfl (Or.inl ⟨by rfl, ?_⟩) hHeld ?_
       rotate_left 1
       ·(intro w hSw; (try dsimp only at hSw); go_simp; try with_reducible rfl)
       try simp only [gA, Act.put]
       refine tk (i := 6) (v := ?_) rfl (Or.inl ⟨by rfl, ?_⟩) hHeld ?_
       rotate_left 1
       ·(intro w hSw; (try dsimp only at hSw); go_simp; try with_reducible rfl)
       try simp only [gA, Act.put]
       refine tk (i := 7) (v := ?_) rfl (Or.inl ⟨by rfl, ?_⟩) hHeld ?_
       rotate_left 1
       ·(intro w hSw; (try dsimp only at hSw); go_simp; try with_reducible rfl)
       try simp only [gA, Act.put]
       refine tk (i := 8) (v := ?_) rfl (Or.inl ⟨by rfl, ?_⟩) hHeld ?_
       rotate_left 1
       ·(intro w hSw; (try dsimp only at hSw); go_simp; try with_reducible rfl)
       try simp only [gA, Act.put]
       refine tk (i := 9) (v := ?_) rfl (Or.inl ⟨by rfl, ?_⟩) hHeld ?_
       rotate_left 1
       ·(intro w hSw; (try dsimp only at hSw); go_simp; try with_reducible rfl)
       try simp only [gA, Act.put]
       refine tk (i := 10) (v := ?_) rfl (Or.inl ⟨by rfl, ?_⟩) hHeld ?_
       rotate_left 1
       ·(intro w hSw; (try dsimp only at hSw); go_simp; try with_reducible rfl)
       try simp only [gA, Act.put]
       refine tk (i := 11) (v := ?_) rfl (Or.inl ⟨by rfl, ?_⟩) hHeld ?_
       rotate_left 1
       ·(intro w hSw; (try dsimp only at hSw); go_simp; try with_reducible rfl)
       try simp only [gA, Act.put]
       refine tk (i := 12) (v := ?_) rfl (Or.inl ⟨by rfl, ?_⟩) hHeld ?_
       rotate_left 1
       ·(intro w hSw; (try dsimp only at hSw); go_simp; try with_reducible rfl)
       try simp only [gA, Act.put]
       refine tk (i := 13) (v := ?_) rfl (Or.inl ⟨by rfl, ?_⟩) hHeld ?_
       rotate_left 1
       ·(intro w hSw; (try dsimp only at hSw); go_simp; try with_reducible rfl)
       try simp only [gA, Act.put]
       refine tk (i := 14) (v := ?_) rfl (Or.inl ⟨by rfl, ?_⟩) hHeld ?_
       rotate_left 1
       ·(intro w hSw; (try dsimp only at hSw); go_simp; try with_reducible rfl)
       try simp only [gA, Act.put]
       refine tk (i := 15) (v := ?_) rfl (Or.inl ⟨by rfl, ?_⟩) hHeld ?_
       rotate_left 1
       ·(intro w hSw; (try dsimp only at hSw); go_simp; try with_reducible rfl)
       try simp only [gA, Act.put]
       refine tk (i := 16) (v := ?_) rfl (Or.inl ⟨by rfl, ?_⟩) hHeld ?_
       rotate_left 1
       ·(intro w hSw; (try dsimp only at hSw); go_simp; try with_reducible rfl)
       try simp only [gA, Act.put]
       refine tk (i := 17) (v := ?_) rfl (Or.inl ⟨by rfl, ?_⟩) hHeld ?_
       rotate_left 1
       ·(intro w hSw; (try dsimp only at hSw); go_simp; try with_reducible rfl)
       try simp only [gA, Act.put]
       refine wpAnyH_take (i := 18) (v := undef) rfl (by kernel_rfl) (by kernel_rfl) (by kernel_rfl) (fun _ _ _ h => h) (Or.inr ⟨by go_simp, rfl⟩) hHeld ?_
       try simp only [gA, Act.put]
       refine wpAnyH_take (i := 19) (v := undef) rfl (by kernel_rfl) (by kernel_rfl) (by kernel_rfl) (fun _ _ _ h => h) (Or.inr ⟨by go_simp, rfl⟩) hHeld ?_
       try simp only [gA, Act.put]
       refine wpAnyH_take (i := 20) (v := undef) rfl (by kernel_rfl) (by kernel_rfl) (by kernel_rfl) (fun _ _ _ h => h) (Or.inr ⟨by go_simp, rfl⟩) hHeld ?_
       try simp only [gA, Act.put]
       refine wpAnyH_take (i := 21) (v := undef) rfl (by kernel_rfl) (by kernel_rfl) (by kernel_rfl) (fun _ _ _ h => h) (Or.inr ⟨by go_simp, rfl⟩) hHeld ?_
       try simp only [gA, Act.put]
       refine wpAnyH_take (i := 22) (v := undef) rfl (by kernel_rfl) (by kernel_rfl) (by kernel_rfl) (fun _ _ _ h => h) (Or.inr ⟨by go_simp, rfl⟩) hHeld ?_
       try simp only [gA, Act.put]
       refine wpAnyH_take (i := 23) (v := undef) rfl (by kernel_rfl) (by kernel_rfl) (by kernel_rfl) (fun _ _ _ h => h) (Or.inr ⟨by go_simp, rfl⟩) hHeld ?_
       try simp only [gA, Act.put]
       refine tk (i := 24) (v := ?_) rfl (Or.inl ⟨by rfl, ?_⟩) hHeld ?_
       rotate_left 1
       ·(intro w hSw; (try dsimp only at hSw); go_simp; try with_reducible rfl)
       try simp only [gA, Act.put]
       refine tk (i := 25) (v := ?_) rfl (Or.inl ⟨by rfl, ?_⟩) hHeld ?_
       rotate_left 1
       ·(intro w hSw; (try dsimp only at hSw); go_simp; try with_reducible rfl)
       try simp only [gA, Act.put]
       refine tk (i := 26) (v := ?_) rfl (Or.inl ⟨by rfl, ?_⟩) hHeld ?_
       rotate_left 1
       ·(intro w hSw; (try dsimp only at hSw); go_simp; try with_reducible rfl)
       try simp only [gA, Act.put]
       refine wpAnyH_ready (rs := [27]) (by kernel_rfl) (by simp) ?_
       refine AllReadyH.cons rfl (fun K hK => ?_) AllReadyH.nil
       go_simp
       go_at_call 17
       refine (works_any _ (HL.out.below hHeld.1)).mono ?_
       rintro e wq ⟨rfl, hbq⟩
       go_wp2_with fail
       refine hK.out _ _ ?_ (fun hHeld => ?_)
       ·exact ⟨below2 hHeld.1 hbq, cB hbq hHeld.2.1, cB hbq hHeld.2.2⟩
       clear hK K
       try simp only [gA, Act.put]
       refine tk (i := 28) (v := ?_) rfl (Or.inl ⟨by rfl, ?_⟩) hHeld ?_
       rotate_left 1
       ·(intro w hSw; (try dsimp only at hSw); go_simp; try with_reducible rfl)
       try simp only [gA, Act.put]
       refine tk (i := 29) (v := ?_) rfl (Or.inl ⟨by rfl, ?_⟩) hHeld ?_
       rotate_left 1
       ·(intro w hSw; (try dsimp only at hSw); go_simp; try with_reducible rfl)
       try simp only [gA, Act.put]
       refine wpAnyH_done (by kernel_rfl) ?_ _
       rotate_left 1
       have BX := below2 BB.out hHeld.1
       clear hHeld
       go_wp2
       go_ret
       exact ⟨rfl, BX⟩
     ·have _z : True := trivial
      have hl7 := R7.out h0
      have h0f : (z5 == 0) = false := by rw [beq_eq_false_iff_ne]; exact h0
      subst hl7
      clear R7 R8
      go_wp2_with fail
      have hE : Below w11.heap.size w11 w11 := (Below.refl w11.heap.size w11)
      refine (same_any _ _ _ _ _ _ _ _ os ls3 _ (RO.out.below hE) (RS.out.below hE) (RO3.out.below hE) (RS3.out.below hE)).mono ?_
      rintro e w12 ⟨rfl, hb⟩
      have hB := below2 hE hb
      replace HL := Lib.hid (HL.out.below hB)
      replace BB := Lib.hid (below2 BB.out hB)
      replace RO := Lib.hid (RO.out.below hB)
      replace RS := Lib.hid (RS.out.below hB)
      replace bx0 := Lib.hid (cB hB bx0.out)
      replace bx1 := Lib.hid (cB hB bx1.out)
      replace RW := Lib.hid (RW.out.below hB)
      replace RO3 := Lib.hid (RO3.out.below hB)
      replace RS3 := Lib.hid (RS3.out.below hB)
      replace RE := Lib.hid (RE.out.below hB)
      replace by0 := Lib.hid (cB hB by0.out)
      replace by1 := Lib.hid (cB hB by1.out)
      replace E5 := Lib.hid (cB hB E5.out)
      clear hE hb hB
      go_wp2_with fail
      have hE : Below w12.heap.size w12 w12 := (Below.refl w12.heap.size w12)
      refine (works_any _ (HL.out.below hE)).mono ?_
      rintro e w13 ⟨rfl, hb⟩
      have hB := below2 hE hb
      replace HL := Lib.hid (HL.out.below hB)
      replace BB := Lib.hid (below2 BB.out hB)
      replace RO := Lib.hid (RO.out.below hB)
      replace RS := Lib.hid (RS.out.below hB)
      replace bx0 := Lib.hid (cB hB bx0.out)
      replace bx1 := Lib.hid (cB hB bx1.out)
      replace RW := Lib.hid (RW.out.below hB)
      replace RO3 := Lib.hid (RO3.out.below hB)
      replace RS3 := Lib.hid (RS3.out.below hB)
      replace RE := Lib.hid (RE.out.below hB)
      replace by0 := Lib.hid (cB hB by0.out)
      replace by1 := Lib.hid (cB hB by1.out)
      replace E5 := Lib.hid (cB hB E5.out)
      clear hE hb hB
      go_wp2
      go_ret
      exact ⟨rfl, BB.out⟩
end Go.Proofs.YtcnpbcgkhhebaaaGreatDoor
/- Closed facts of SeasonGiven's row. -/
namespace Go.Proofs.YtcnpbcgkhhebaaaGreatDoor
open Go.ChangeShapes Go.WideShapes Go.ChangeAt Go.RowKit
set_option maxRecDepth 100000
theorem seasonGiven_j0 : (Rows.seasonGivenRow.wf (OpenSpec.ofChange Rows.seasonGivenSpec)) = true := by kernel_rfl
theorem seasonGiven_j3 : (Tryz.f11.params.all (Tryz.prog.readableRec ·)) = true := by kernel_rfl
theorem seasonGiven_j4 : (namedTie Tryz.prog Rows.seasonGivenRow.named Rows.seasonGivenSpec.vars) = true := by kernel_rfl
theorem seasonGiven_j5 : ((Rows.seasonGivenRow.stops == [])) = true := by kernel_rfl
theorem seasonGiven_j7 : ((Rows.seasonGivenRow.knobs == [])) = true := by kernel_rfl
theorem seasonGiven_j9 : ((Rows.seasonGivenRow.inPlace == Tryz.prog.inPlace 11)) = true := by kernel_rfl
theorem seasonGiven_j10 : ((Rows.seasonGivenRow.unfollowed == Tryz.prog.unfollowed 11)) = true := by kernel_rfl
theorem seasonGiven_j11 : ((Rows.seasonGivenRow.recurses == Tryz.prog.recurses 11)) = true := by kernel_rfl
theorem seasonGiven_j12 : ((Rows.seasonGivenRow.named == Tryz.prog.varsNamed 11)) = true := by kernel_rfl
theorem seasonGiven_j13 : ((Rows.seasonGivenRow.maps == (Tryz.f11.params.toList ++ Rows.seasonGivenSpec.plain.varTypes Tryz.prog).any (Tryz.prog.mapsRec ·))) = true := by kernel_rfl
theorem seasonGiven_j14 : ((Rows.seasonGivenRow.ifaces == (Tryz.f11.params.toList ++ Rows.seasonGivenSpec.plain.varTypes Tryz.prog).any (Tryz.prog.ifacesRec ·))) = true := by kernel_rfl
theorem seasonGiven_j15 : ((Rows.seasonGivenRow.mapsOut == Tryz.prog.mapsAmong Tryz.f11.resultTypes.toList)) = true := by kernel_rfl
theorem seasonGiven_j16 : ((Rows.seasonGivenRow.loops == (Tryz.f11.params.toList ++ Rows.seasonGivenSpec.plain.varTypes Tryz.prog).any (Tryz.prog.loopsFrom ·))) = true := by kernel_rfl
theorem seasonGiven_j17 : ((Rows.seasonGivenRow.wideKeys == (Tryz.f11.params.toList ++ Rows.seasonGivenSpec.plain.varTypes Tryz.prog ++ Tryz.f11.resultTypes.toList).any (Tryz.prog.wideKeysFrom ·))) = true := by kernel_rfl
theorem seasonGiven_j18 : (Rows.seasonGivenSpec.vars.all (Tryz.prog.varReadable ·)) = true := by kernel_rfl
theorem seasonGiven_j19 : (Tryz.f11.resultTypes.all (fun t => Tryz.prog.readableRec t && decide (t < Tryz.prog.types.size))) = true := by kernel_rfl
theorem seasonGiven_j20 : ((Rows.seasonGivenRow.ifacesOut == Tryz.f11.resultTypes.toList.any (Tryz.prog.ifacesRec ·))) = true := by kernel_rfl
theorem seasonGiven_j21 : ((Rows.seasonGivenRow.loopsOut == Tryz.f11.resultTypes.toList.any (Tryz.prog.loopsFrom ·))) = true := by kernel_rfl
theorem seasonGiven_j22 : ((Rows.seasonGivenRow.plainKeys == Tryz.prog.plainKeys)) = true := by kernel_rfl
theorem seasonGiven_j23 : (Rows.seasonGivenRow.shortTexts.isNone) = true := by kernel_rfl
theorem seasonGiven_j26 : ((Rows.seasonGivenRow.lifted == Tryz.prog.liftsFinal)) = true := by kernel_rfl
theorem seasonGiven_j27 : ((Tryz.prog.make == some Rows.seasonGivenRow.make)) = true := by kernel_rfl
theorem seasonGiven_j28 : ((Rows.seasonGivenRow.kinds == (if Rows.seasonGivenRow.domain.isEmpty then [] else Tryz.f11.params.toList.map fun t => match Tryz.prog.underlying t with | some (.int k) => some k | _ => none))) = true := by kernel_rfl
theorem seasonGiven_j29 : ((Rows.seasonGivenRow.pinned == Rows.seasonGivenRow.pinnedBy)) = true := by kernel_rfl
theorem seasonGiven_j30 : ((Rows.seasonGivenRow.veiled == (Tryz.f11.params.toList ++ Rows.seasonGivenSpec.plain.varTypes Tryz.prog ++ Tryz.f11.resultTypes.toList).any (Tryz.prog.veiledRec ·))) = true := by kernel_rfl
theorem seasonGiven_j31 : (Rows.seasonGivenRow.veiledFits Tryz.prog Tryz.f11.params.toList (Tryz.f11.params.toList ++ Rows.seasonGivenSpec.plain.varTypes Tryz.prog ++ Tryz.f11.resultTypes.toList)) = true := by kernel_rfl
theorem seasonGiven_joined : joinedFacts Tryz.prog 11 Tryz.f11 Rows.seasonGivenSpec Rows.seasonGivenRow = true := by
 unfold joinedFacts
 exact (and_mk (and_mk (and_mk (and_mk (and_mk (and_mk (and_mk (and_mk (and_mk (and_mk (and_mk (and_mk (and_mk (and_mk (and_mk (and_mk (and_mk (and_mk (and_mk (and_mk (and_mk (and_mk (and_mk (and_mk (and_mk (and_mk (and_mk (and_mk (and_mk (and_mk (and_mk seasonGiven_j0 sh_laidOut) sh_mapsRowed) seasonGiven_j3) seasonGiven_j4) seasonGiven_j5) sh_stops) seasonGiven_j7) sh_knobs) seasonGiven_j9) seasonGiven_j10) seasonGiven_j11) seasonGiven_j12) seasonGiven_j13) seasonGiven_j14) seasonGiven_j15) seasonGiven_j16) seasonGiven_j17) seasonGiven_j18) seasonGiven_j19) seasonGiven_j20) seasonGiven_j21) seasonGiven_j22) seasonGiven_j23) sh_heard) sh_enter) seasonGiven_j26) seasonGiven_j27) seasonGiven_j28) seasonGiven_j29) seasonGiven_j30) seasonGiven_j31)
end Go.Proofs.YtcnpbcgkhhebaaaGreatDoor
namespace Go.Proofs.YtcnpbcgkhhebaaaGreatDoor
open Go.ChangeShapes Go.WideShapes Go.ChangeAt Go.RowKit
set_option maxRecDepth 100000
open Go.Deep Go.Joins
theorem seasonGiven_lifted (os : Os) (started : os.Started) (H : Type) (enc : TypeId × Value → H) :
  ReturnsInHanded {} Tryz.checked os 11 .any (fun w args => (Rows.seasonGivenSpec.pre enc Tryz.prog Tryz.f11 Rows.seasonGivenRow.domain false w args ∧ laidMetH Tryz.prog laidAllL w) ∧ sizedMet enc Tryz.prog Tryz.f11 (OpenSpec.ofChange Rows.seasonGivenSpec) false w args)
   (Rows.seasonGivenSpec.post enc Tryz.prog Tryz.f11 false true false false) := by
 refine handed_both (C := Tryz.checked) (X := fun w _ => laidMetH Tryz.prog laidAllL w) (fun _ _ _ hh h => h.of_heap hh) ownKn started (by kernel_rfl) Tryz.func11
  (ChangeSpec.witness_shaped (enc := enc) (C := Tryz.checked) (os := os) (X := fun w _ => laidMetH Tryz.prog laidAllL w) false (World.laidAll Tryz.prog os laidAllL) #[.string ⟨#[]⟩, .int .i64 0, .string ⟨#[]⟩, .int .u16 0] 8 (World.laidAll_os _ _ _)
   (World.shaped_of_ZipB (by kernel_rfl) (by kernel_rfl)) (by kernel_rfl) (by kernel_rfl) (by kernel_rfl) (laid_met os _)) ?_
 intro W base args ds gs before hval0 hW _ hwt hsh hL _
 have hW' := hW
 obtain ⟨p, q, hA0, hV, rfl, _, _⟩ := hW
 have hA : DataW.TrodAll enc Tryz.prog W 0 (fun _ => true) true Tryz.f11.params.toList args.toList ds p := hA0
 have hLW := laidW_of hsh hL
 rw [Tryz.params11] at hA
 have hval : ∀ (j : Nat) t v, Tryz.f11.params[j]? = some t → args[j]? = some v → Value.okWide Tryz.prog W .any base t v := hval0
 rw [Tryz.params11] at hval
 obtain ⟨v0, v1, v2, v3, d0, d1, d2, d3, p0, p1, p2, p3, rfl, rfl, rfl, h0, h1, h2, h3⟩ := trodAll_four hA
 obtain ⟨rfl, rfl⟩ := trodVars_none hV
 have h0k := h0
 have h1k := h1
 have h2k := h2
 have h3k := h3
 obtain ⟨x0, rfl, _, _, k0⟩ := Go.ChangeMaps.open_string Tryz.underlying9 (hval 0 9 v0 rfl rfl) h0
 obtain ⟨n1, rfl, _, _, wf1⟩ := open_int Tryz.underlying2 (hval 1 2 v1 rfl rfl) h1
 obtain ⟨x2, rfl, _, _, k2⟩ := Go.ChangeMaps.open_string Tryz.underlying9 (hval 2 9 v2 rfl rfl) h2
 obtain ⟨n3, rfl, _, _, wf3⟩ := open_int Tryz.underlying65 (hval 3 65 v3 rfl rfl) h3
 simp only [List.append_nil, List.append_assoc] at hW'
 have hlt : ∀ x ∈ p0 ++ (p1 ++ (p2 ++ p3)), x.block < W.heap.size := fun x hx => by simpa using hW'.lt x hx
 refine (given_law x0 n1 x2 n3 W hLW (by unfold maxLen at k0; omega) (by unfold maxLen at k2; omega) (u16_bd wf3).1 (u16_bd wf3).2).mono fun e W' ⟨he, hb⟩ => ?_
 subst he
 exact ⟨_, rfl, _, _, _, [], p0 ++ (p1 ++ (p2 ++ p3)), [], hW', trodAll_mk1 (shut_bool Tryz.underlying4 true), trodAll_mk4 (Below.trod sh_laidOut (by kernel_rfl) (of_decide_eq_true (by kernel_rfl)) h0k hb (fun x hx => hlt x (by simp [hx]))) (Below.trod sh_laidOut (by kernel_rfl) (of_decide_eq_true (by kernel_rfl)) h1k hb (fun x hx => hlt x (by simp [hx]))) (Below.trod sh_laidOut (by kernel_rfl) (of_decide_eq_true (by kernel_rfl)) h2k hb (fun x hx => hlt x (by simp [hx]))) (Below.trod sh_laidOut (by kernel_rfl) (of_decide_eq_true (by kernel_rfl)) h3k hb (fun x hx => hlt x (by simp [hx]))), rfl, hb.frame _, fun h => by cases h⟩
theorem seasonGiven_named : Tryz.prog.funcNamed "peavey/peaveylaw12.SeasonGiven" = some 11 := by kernel_rfl
theorem seasonGiven_goes : false = Rows.seasonGivenRow.goesBy Tryz.prog := by kernel_rfl
theorem seasonGiven_wf : Rows.seasonGivenRow.wfByText (OpenSpec.ofChange Rows.seasonGivenSpec) = true := by kernel_rfl
theorem seasonGiven_row : Rows.SeasonGivenSaid :=
 OpenClaim.holds_of_wide 11 Tryz.f11 rfl rfl rfl rfl rfl rfl rfl ⟨rfl, rfl, rfl, rfl, rfl⟩ rfl rfl rfl rfl rfl seasonGiven_named Tryz.func11 seasonGiven_joined
  (of_decide_eq_true (by kernel_rfl)) (by unfold Func.isWrapper; rw [if_neg (of_decide_eq_false (by kernel_rfl))]; exact ⟨rfl, rfl⟩)
  (fun os started H enc _ => seasonGiven_lifted os started H enc)
theorem seasonGiven_card : Rows.SeasonGivenCardSaid :=
 Claim7.holds_tied_plain_at .later [] [.data, .data, .data, .data, .sentinel, .sentinel, .pinned] true (true, "bb3957611fb07b8f30c253038086df1c9e34512f5bd6bdaf1e554329739cb219") true seasonGiven_row (fun _ h => by cases h) seasonGiven_wf (fun _ h => by cases h) seasonGiven_row_tie rfl ⟨rfl, rfl⟩ sh_main rfl
  (fun f fn hf hfn => by
   obtain rfl : f = 11 := Option.some.inj (seasonGiven_named.symm.trans hf) |>.symm
   obtain rfl : fn = Tryz.f11 := (Option.some.inj (Tryz.func11.symm.trans hfn)).symm
   exact ⟨sh_looks, fun j t ht => by
    rw [Tryz.params11] at ht
    have hm : t ∈ [9, 2, 9, 65] := by simpa using Array.mem_of_getElem? ht
    have hall : ([9, 2, 9, 65].all fun u => !Tryz.prog.wantsStandIn u) = true := by kernel_rfl
    exact (show Tryz.prog.wantsStandIn t = false by simpa using List.all_eq_true.1 hall t hm)⟩)
  seasonGiven_goes
#print axioms seasonGiven_card
end Go.Proofs.YtcnpbcgkhhebaaaGreatDoor
