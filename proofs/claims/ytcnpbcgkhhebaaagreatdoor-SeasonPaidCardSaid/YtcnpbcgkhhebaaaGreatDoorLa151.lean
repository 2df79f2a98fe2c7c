/- SeasonPaid returns true, for every input; and what it was given reads as before: the given card, under the row's condition: the listed package-level variables read as the program's text lays them. -/
import Derived.Test.YtcnpbcgkhhebaaaGreatDoorNj1
/- SeasonPaid: an owner pays. -/
namespace Go.Proofs.YtcnpbcgkhhebaaaGreatDoor
open Go.RowKit

set_option maxRecDepth 100000 in
set_option maxHeartbeats 40000000 in
theorem paid_any (text : ByteArray) (m : Int) (w : World) (hL : LaidW w) (hs : text.size ≤ 9223372036854775807) (hm0 : 0 ≤ m) (hm1 : m ≤ 255) :
  Calls Tryz.prog 15 #[.string text, .int .u8 m] w fun e w' => e = .returned (.bool true) ∧ Below w.heap.size w w' := by
 have FN := Lib.hid (fun W => fine_any text W hs)
 rcases fine_cases text with hf | ⟨hf, l, hl⟩
 ·rw [hf] at FN
  clear hf
  have HL := Lib.hid hL
  have BB := Lib.hid (Below.refl w.heap.size w)
  go_enter Tryz.func15, Tryz.ntmps15
  go_wp2_with fail
  have hE : Below w.heap.size w w := (Below.refl w.heap.size w)
  refine (FN.out _).mono ?_
  rintro e w1 ⟨rfl, hb⟩
  have hB := below2 hE hb
  replace HL := Lib.hid (HL.out.below hB)
  replace BB := Lib.hid (below2 BB.out hB)
  clear hE hb hB
  go_wp2_with fail
  have hE : Below w1.heap.size w1 w1 := (Below.refl w1.heap.size w1)
  refine (works_any _ (HL.out.below hE)).mono ?_
  rintro e w2 ⟨rfl, hb⟩
  have hB := below2 hE hb
  replace HL := Lib.hid (HL.out.below hB)
  replace BB := Lib.hid (below2 BB.out hB)
  clear hE hb hB
  go_wp2
  go_ret
  exact ⟨rfl, BB.out⟩
 ·rw [hf] at FN
  have HL := Lib.hid hL
  have BB := Lib.hid (Below.refl w.heap.size w)
  have hs0 := small_text hl
  obtain ⟨wn, rfl⟩ : ∃ wn : Nat, m = wn := ⟨m.toNat, by omega⟩
  obtain ⟨os, h1⟩ : ∃ x, (playE l).os = x := ⟨_, rfl⟩
  obtain ⟨ls, h2⟩ : ∃ x, (playE l).ls = x := ⟨_, rfl⟩
  obtain ⟨er, h3⟩ : ∃ x, (playE l).errs = x := ⟨_, rfl⟩
  have hvd : Valid os ls := by rw [← h1, ← h2]; exact valid_play hl
  have HV := Lib.hid hvd
  have h4 : er.length = l.length := by rw [← h3, playE_errs]
  have RU := Lib.hid (fun W hW => runT (n := l.length) hl h1 h2 h3 h4 W hW)
  clear hL hf
  by_cases hz : os.length = 0
  ·have _z : True := trivial
   have hzi : ((os.length : Int) == 0) = true := by rw [hz]; rfl
   have hzi2 : (os.length == 0) = true := by rw [hz]; rfl
   clear hl h1 h2 h3 h4 hz
   go_enter Tryz.func15, Tryz.ntmps15
   go_wp2_with fail
   have hE : Below w.heap.size w w := (Below.refl w.heap.size w)
   refine (FN.out _).mono ?_
   rintro e w1 ⟨rfl, hb⟩
   have hB := below2 hE hb
   replace HL := Lib.hid (HL.out.below hB)
   replace BB := Lib.hid (below2 BB.out hB)
   clear hE hb hB
   go_wp2_with fail
   have hE : Below w1.heap.size w1 w1 := (Below.refl w1.heap.size w1)
   refine (RU.out _ (HL.out.below hE)).mono ?_
   rintro e w2 ⟨⟨A1, c1, A2, c2, A3, c3, rfl, ho1, ho2, ho3⟩, hb⟩
   have hB := below2 hE hb
   replace HL := Lib.hid (HL.out.below hB)
   replace BB := Lib.hid (below2 BB.out hB)
   have RO := Lib.hid ho1
   have RS := Lib.hid ho2
   clear hE hb hB ho1 ho2
   clear ho3
   go_wp2_with fail
   have hE : Below w2.heap.size w2 (w2.alloc (.cells #[.slice A1 os.length c1, .slice A2 ls.length c2] 26)) := (below_a1 w2 (.cells #[.slice A1 os.length c1, .slice A2 ls.length c2] 26))
   refine (check_ok HV.out _ _ _ _ _ (RO.out.below hE) (RS.out.below hE)).mono ?_
   rintro e w3 ⟨rfl, hb⟩
   have hB := below2 hE hb
   replace HL := Lib.hid (HL.out.below hB)
   replace BB := Lib.hid (below2 BB.out hB)
   replace RO := Lib.hid (RO.out.below hB)
   replace RS := Lib.hid (RS.out.below hB)
   have bx0 := Lib.hid (show w3.cell? ⟨w2.heap.size, 0, none⟩ = some (.slice A1 os.length c1) from cB hb (by go_simp))
   have bx1 := Lib.hid (show w3.cell? ⟨w2.heap.size, 1, none⟩ = some (.slice A2 ls.length c2) from cB hb (by go_simp))
   clear hE hb hB
   have bx0o := bx0.out
   have bx1o := bx1.out
   have bxlt : w2.heap.size < w3.heap.size := World.block_lt_of_cell? _ _ bx0o
   go_wp2_with fail
   have hE : Below w3.heap.size w3 w3 := (Below.refl w3.heap.size w3)
   refine (works_any _ (HL.out.below hE)).mono ?_
   rintro e w4 ⟨rfl, hb⟩
   have hB := below2 hE hb
   replace HL := Lib.hid (HL.out.below hB)
   replace BB := Lib.hid (below2 BB.out hB)
   replace RO := Lib.hid (RO.out.below hB)
   replace RS := Lib.hid (RS.out.below hB)
   replace bx0 := Lib.hid (cB hB bx0.out)
   replace bx1 := Lib.hid (cB hB bx1.out)
   clear hE hb hB
   go_wp2
   go_ret
   exact ⟨rfl, BB.out⟩
  have hpos : 0 < os.length := by omega
  obtain ⟨j, hj⟩ : ∃ j, wn % os.length = j := ⟨_, rfl⟩
  have hjl : j < os.length := by have := Nat.mod_lt wn hpos; omega
  have hrem2 : (wn : Int) % (os.length : Int) = (j : Int) := by rw [← hj]; push_cast; rfl
  have hrem : (wn : Int).tmod (os.length : Int) = (j : Int) := by rw [Int.tmod_eq_emod_of_nonneg (by omega)]; exact hrem2
  have hj0 : (0 : Int) ≤ (j : Int) := by omega
  have hjli : (j : Int) < (os.length : Int) := by omega
  obtain ⟨x, hx⟩ : ∃ x, os[j] = x := ⟨_, rfl⟩
  have hnum := hvd.onum _ (List.getElem_mem hjl)
  rw [hx] at hnum
  obtain ⟨o, ho⟩ : ∃ o : Nat, x.num = o := ⟨x.num.toNat, by omega⟩
  have hzf : ((os.length : Int) == 0) = false := by rw [beq_eq_false_iff_ne]; omega
  have hzf2 : (os.length == 0) = false := by rw [beq_eq_false_iff_ne]; exact hz
  have howe := owed_at hvd hjl
  have hbd := owed_bd hvd hjl
  rw [hx, ho] at howe hbd
  obtain ⟨n, hn⟩ : ∃ n : Nat, (n : Int) = feesOf ls o - x.paid := ⟨(feesOf ls o - x.paid).toNat, by omega⟩
  rw [← hn] at howe
  have hpd := (hvd.paid _ (List.getElem_mem hjl)).1
  rw [hx] at hpd
  have hnb : n ≤ 100300 := by omega
  have OW := Lib.hid (fun (A : Option Addr) c (A2 : Option Addr) c2 W (a : Rd eO 3 W A c os) (b : Rd eL 5 W A2 c2 ls) => owed_any A c os A2 c2 ls o W a b)
  rw [howe] at OW
  have LN := Lib.hid (fun W => lines_any text W (by omega))
  rw [nLines_parse hl] at LN
  have DO := Lib.hid (fun W => digits2_any o W (by omega))
  have DN := Lib.hid (fun W => digits2_any n W (by omega))
  have DN1 := Lib.hid (fun W => digits2_any (n + 1) W (by omega))
  have q0 := decB_small (n := o) (k := 13) (by omega) (by omega)
  have q1 := decB_small (n := n) (k := 7) (by omega) (by omega)
  have q2 := decB_small (n := n + 1) (k := 7) (by omega) (by omega)
  have e1 : ((n + 1 : Nat) : Int) = (n : Int) + 1 := by omega
  rw [e1] at DN1 q2
  have pe1 := pay_eq o ((n : Int) + 1)
  have pe2 := pay_eq o n
  have pe3 := pay_eq o 1
  rw [dec_1] at pe3
  have zz1 : (twoLn wPay o ((n : Int) + 1)).text.size ≤ 25 := by have := two_size (w := wPay) (a := o) (b := n + 1) (by omega) (by omega); rw [e1] at this; exact this
  have zz2 : (twoLn wPay o n).text.size ≤ 25 := two_size (w := wPay) (a := o) (b := n) (by omega) (by omega)
  have zz3 : (twoLn wPay o 1).text.size ≤ 25 := two_size (w := wPay) (a := o) (b := 1) (by omega) (by omega)
  obtain ⟨od, hod⟩ : ∃ x, decB ((o : Int)) = x := ⟨_, rfl⟩
  obtain ⟨nd, hnd⟩ : ∃ x, decB ((n : Int)) = x := ⟨_, rfl⟩
  obtain ⟨md, hmd⟩ : ∃ x, decB ((n : Int) + 1) = x := ⟨_, rfl⟩
  rw [hod] at DO q0 pe1 pe2 pe3
  rw [hnd] at DN q1 pe2
  rw [hmd] at DN1 q2 pe1
  clear hod hnd hmd
  have AD1 := Lib.hid (fun W => added_any text (twoLn wPay o ((n : Int) + 1)).text W (by omega) (by omega))
  rw [nLines_parse hl] at AD1
  have le1 := addB_le (x := (twoLn wPay o ((n : Int) + 1)).text) hl
  have PAY := Lib.hid (fun a b => payed hl a b h1 h2 h3 hjl (o := o) (n := n) (by rw [hx]; exact ho) (by rw [hx]; exact hn))
  rw [← pe1] at AD1 le1 PAY zz1
  have g1 : ¬ 9223372036854775807 < 4 + od.size := by omega
  have g2 : ¬ 9223372036854775807 < 4 + od.size + 1 := by omega
  have g3 : ¬ 9223372036854775807 < 4 + od.size + 1 + md.size := by omega
  have g4 : ¬ 9223372036854775807 < 4 + od.size + 1 + nd.size := by omega
  have g5 : ¬ 9223372036854775807 < 4 + od.size + 1 + 1 := by omega
  obtain ⟨v, hv⟩ : ∃ v : Int, (n : Int) = v := ⟨_, rfl⟩
  rw [hv] at OW DN DN1 pe2 PAY zz2
  have HVN := Lib.hid hv
  have hvb : 0 ≤ v ∧ v ≤ 100300 := by omega
  have HX := Lib.hid hx
  have HO := Lib.hid ho
  have PE2 := Lib.hid pe2
  have PE3 := Lib.hid pe3
  have H4 := Lib.hid h4
  have k1 : ¬ v < 0 := by omega
  have k2 : ¬ 1000000 ≤ v := by omega
  have kw : IntKind.i64.wrap (v + 1) = v + 1 := by rw [IntKind.wrap_i64]; omega
  obtain ⟨N, hN⟩ : ∃ N, l.length = N := ⟨_, rfl⟩
  rw [hN] at RU LN AD1 PAY H4
  have hN2 : N ≤ 200 := by omega
  clear hl h1 h2 h3 h4 hx ho howe hbd hn hpd pe1 pe2 pe3 e1 hnum hj hN hv hnb
  obtain ⟨b1, hb1⟩ : ∃ x, (decide (N < 200) && decide (text.size ≤ 7900)) = x := ⟨_, rfl⟩
  rw [hb1] at AD1
  have HB1 := Lib.hid hb1
  clear hb1
  go_enter Tryz.func15, Tryz.ntmps15
  go_wp2_with fail
  have hE : Below w.heap.size w w := (Below.refl w.heap.size w)
  refine (FN.out _).mono ?_
  rintro e w1 ⟨rfl, hb⟩
  have hB := below2 hE hb
  replace HL := Lib.hid (HL.out.below hB)
  replace BB := Lib.hid (below2 BB.out hB)
  clear hE hb hB
  go_wp2_with fail
  have hE : Below w1.heap.size w1 w1 := (Below.refl w1.heap.size w1)
  refine (RU.out _ (HL.out.below hE)).mono ?_
  rintro e w2 ⟨⟨A1, c1, A2, c2, A3, c3, rfl, ho1, ho2, ho3⟩, hb⟩
  have hB := below2 hE hb
  replace HL := Lib.hid (HL.out.below hB)
  replace BB := Lib.hid (below2 BB.out hB)
  have RO := Lib.hid ho1
  have RS := Lib.hid ho2
  clear hE hb hB ho1 ho2
  clear ho3
  go_wp2_with fail
  have hE : Below w2.heap.size w2 (w2.alloc (.cells #[.slice A1 os.length c1, .slice A2 ls.length c2] 26)) := (below_a1 w2 (.cells #[.slice A1 os.length c1, .slice A2 ls.length c2] 26))
  refine (check_ok HV.out _ _ _ _ _ (RO.out.below hE) (RS.out.below hE)).mono ?_
  rintro e w3 ⟨rfl, hb⟩
  have hB := below2 hE hb
  replace HL := Lib.hid (HL.out.below hB)
  replace BB := Lib.hid (below2 BB.out hB)
  replace RO := Lib.hid (RO.out.below hB)
  replace RS := Lib.hid (RS.out.below hB)
  have bx0 := Lib.hid (show w3.cell? ⟨w2.heap.size, 0, none⟩ = some (.slice A1 os.length c1) from cB hb (by go_simp))
  have bx1 := Lib.hid (show w3.cell? ⟨w2.heap.size, 1, none⟩ = some (.slice A2 ls.length c2) from cB hb (by go_simp))
  clear hE hb hB
  have bx0o := bx0.out
  have bx1o := bx1.out
  have bxlt : w2.heap.size < w3.heap.size := World.block_lt_of_cell? _ _ bx0o
  obtain ⟨bo, oo, xx, hxx, rfl, hbo, x0, x1, x2⟩ := RO.out.atO hjl
  rw [HX.out] at hxx
  subst hxx
  rw [HO.out] at x0
  have RO1 := RO.out.1
  go_wp2
  go_quiet (fail)
  obtain ⟨w4, hnew⟩ : ∃ x, w3.drewN nq = x := ⟨_, rfl⟩
  have hB := below_drewN w3 nq
  rw [hnew] at hB ⊢
  replace HL := Lib.hid (HL.out.below hB)
  replace BB := Lib.hid (below2 BB.out hB)
  replace RO := Lib.hid (RO.out.below hB)
  replace RS := Lib.hid (RS.out.below hB)
  replace bx0 := Lib.hid (cB hB bx0.out)
  replace bx1 := Lib.hid (cB hB bx1.out)
  clear hB hnew
  clear bx0o bx1o bxlt
  clear x0 x1 x2
  have bx0o := bx0.out
  have bx1o := bx1.out
  have bxlt : w2.heap.size < w4.heap.size := World.block_lt_of_cell? _ _ bx0o
  go_wp2_with fail
  have hE : Below w4.heap.size w4 w4 := (Below.refl w4.heap.size w4)
  refine (OW.out _ _ _ _ _ (RO.out.below hE) (RS.out.below hE)).mono ?_
  rintro e w5 ⟨rfl, hb⟩
  have hB := below2 hE hb
  replace HL := Lib.hid (HL.out.below hB)
  replace BB := Lib.hid (below2 BB.out hB)
  replace RO := Lib.hid (RO.out.below hB)
  replace RS := Lib.hid (RS.out.below hB)
  replace bx0 := Lib.hid (cB hB bx0.out)
  replace bx1 := Lib.hid (cB hB bx1.out)
  clear hE hb hB
  clear bx0o bx1o bxlt
  go_wp2_with fail
  have hE : Below w5.heap.size w5 w5 := (Below.refl w5.heap.size w5)
  refine (DO.out _).mono ?_
  rintro e w6 ⟨rfl, hb⟩
  have hB := below2 hE hb
  replace HL := Lib.hid (HL.out.below hB)
  replace BB := Lib.hid (below2 BB.out hB)
  replace RO := Lib.hid (RO.out.below hB)
  replace RS := Lib.hid (RS.out.below hB)
  replace bx0 := Lib.hid (cB hB bx0.out)
  replace bx1 := Lib.hid (cB hB bx1.out)
  clear hE hb hB
  go_wp2_with fail
  have hE : Below w6.heap.size w6 w6 := (Below.refl w6.heap.size w6)
  refine (DN1.out _).mono ?_
  rintro e w7 ⟨rfl, hb⟩
  have hB := below2 hE hb
  replace HL := Lib.hid (HL.out.below hB)
  replace BB := Lib.hid (below2 BB.out hB)
  replace RO := Lib.hid (RO.out.below hB)
  replace RS := Lib.hid (RS.out.below hB)
  replace bx0 := Lib.hid (cB hB bx0.out)
  replace bx1 := Lib.hid (cB hB bx1.out)
  clear hE hb hB
  go_wp2_with fail
  have hE : Below w7.heap.size w7 w7 := (Below.refl w7.heap.size w7)
  refine (AD1.out _).mono ?_
  rintro e w8 ⟨rfl, hb⟩
  have hB := below2 hE hb
  replace HL := Lib.hid (HL.out.below hB)
  replace BB := Lib.hid (below2 BB.out hB)
  replace RO := Lib.hid (RO.out.below hB)
  replace RS := Lib.hid (RS.out.below hB)
  replace bx0 := Lib.hid (cB hB bx0.out)
  replace bx1 := Lib.hid (cB hB bx1.out)
  clear hE hb hB
  cases b1 with
  | false =>
   go_wp2_with fail
   have hE : Below w8.heap.size w8 w8 := (Below.refl w8.heap.size w8)
   refine (works_any _ (HL.out.below hE)).mono ?_
   rintro e w9 ⟨rfl, hb⟩
   have hB := below2 hE hb
   replace HL := Lib.hid (HL.out.below hB)
   replace BB := Lib.hid (below2 BB.out hB)
   replace RO := Lib.hid (RO.out.below hB)
   replace RS := Lib.hid (RS.out.below hB)
   replace bx0 := Lib.hid (cB hB bx0.out)
   replace bx1 := Lib.hid (cB hB bx1.out)
   clear hE hb hB
   go_wp2
   go_ret
   exact ⟨rfl, BB.out⟩
  | true =>
   go_wp2_with fail
   have hE : Below w8.heap.size w8 w8 := (Below.refl w8.heap.size w8)
   refine (LN.out _).mono ?_
   rintro e w9 ⟨rfl, hb⟩
   have hB := below2 hE hb
   replace HL := Lib.hid (HL.out.below hB)
   replace BB := Lib.hid (below2 BB.out hB)
   replace RO := Lib.hid (RO.out.below hB)
   replace RS := Lib.hid (RS.out.below hB)
   replace bx0 := Lib.hid (cB hB bx0.out)
   replace bx1 := Lib.hid (cB hB bx1.out)
   clear hE hb hB
   by_cases z2 : 197 < N
   ·have _z : True := trivial
    have z2i : (197 : Int) < (N : Int) := by omega
    go_wp2_with fail
    have hE : Below w9.heap.size w9 w9 := (Below.refl w9.heap.size w9)
    refine (works_any _ (HL.out.below hE)).mono ?_
    rintro e w10 ⟨rfl, hb⟩
    have hB := below2 hE hb
    replace HL := Lib.hid (HL.out.below hB)
    replace BB := Lib.hid (below2 BB.out hB)
    replace RO := Lib.hid (RO.out.below hB)
    replace RS := Lib.hid (RS.out.below hB)
    replace bx0 := Lib.hid (cB hB bx0.out)
    replace bx1 := Lib.hid (cB hB bx1.out)
    clear hE hb hB
    go_wp2
    go_ret
    exact ⟨rfl, BB.out⟩
   have z2i : ¬ (197 : Int) < (N : Int) := by omega
   by_cases z3 : 7700 < text.size
   ·have _z : True := trivial
    have z3i : (7700 : Int) < (text.size : Int) := by omega
    go_wp2_with fail
    have hE : Below w9.heap.size w9 w9 := (Below.refl w9.heap.size w9)
    refine (works_any _ (HL.out.below hE)).mono ?_
    rintro e w10 ⟨rfl, hb⟩
    have hB := below2 hE hb
    replace HL := Lib.hid (HL.out.below hB)
    replace BB := Lib.hid (below2 BB.out hB)
    replace RO := Lib.hid (RO.out.below hB)
    replace RS := Lib.hid (RS.out.below hB)
    replace bx0 := Lib.hid (cB hB bx0.out)
    replace bx1 := Lib.hid (cB hB bx1.out)
    clear hE hb hB
    go_wp2
    go_ret
    exact ⟨rfl, BB.out⟩
   have z3i : ¬ (7700 : Int) < (text.size : Int) := by omega
   obtain ⟨PA, PB⟩ := PAY.out (by omega) (by omega)
   obtain ⟨t1, ht1⟩ : ∃ x, addB text ((⟨#[112, 97, 121, 32]⟩ : ByteArray) ++ od ++ ⟨#[32]⟩ ++ md) = x := ⟨_, rfl⟩
   rw [ht1] at le1 PA PB ⊢
   clear PAY AD1
   by_cases hn0 : n = 0
   ·have _z : True := trivial
    have PF := PA hn0
    have hv0 : v = 0 := by have := HVN.out; omega
    subst hv0
    clear PA PB hn0 HVN
    have AD3 := Lib.hid (fun W => added_any t1 (twoLn wPay o 1).text W (by omega) (by omega))
    rw [← PE3.out] at AD3 PF
    obtain ⟨t3, ht3⟩ : ∃ x, addB t1 ((⟨#[112, 97, 121, 32]⟩ : ByteArray) ++ od ++ ⟨#[32]⟩ ++ ⟨#[49]⟩) = x := ⟨_, rfl⟩
    rw [ht3] at AD3 PF
    clear ht3
    go_wp2_with fail
    have hE : Below w9.heap.size w9 w9 := (Below.refl w9.heap.size w9)
    refine (AD3.out _).mono ?_
    rintro e w10 ⟨rfl, hb⟩
    have hB := below2 hE hb
    replace HL := Lib.hid (HL.out.below hB)
    replace BB := Lib.hid (below2 BB.out hB)
    replace RO := Lib.hid (RO.out.below hB)
    replace RS := Lib.hid (RS.out.below hB)
    replace bx0 := Lib.hid (cB hB bx0.out)
    replace bx1 := Lib.hid (cB hB bx1.out)
    clear hE hb hB
    obtain ⟨l3, os3, r1, r2, r3, r4, r5, r6, r7⟩ := PF.fin
    obtain ⟨ee, hee⟩ : ∃ x : List Int, er ++ [4, 4] = x := ⟨_, rfl⟩
    have hel : ee.length = N + 2 := by rw [← hee, List.length_append, H4.out]; rfl
    have hi0 : ee[N]? = some 4 := by rw [← hee, List.getElem?_append_right (by have := H4.out; omega), H4.out, Nat.sub_self]; rfl
    have hil : ee[N + 1]? = some 4 := by rw [← hee, List.getElem?_append_right (by have := H4.out; omega), H4.out, Nat.add_sub_cancel_left]; rfl
    rw [hee] at r4
    rw [H4.out] at r7
    have RU3 := Lib.hid (fun W hW => runT (n := N + 2) r1 r2 r3 r4 hel W hW)
    have OW3 := Lib.hid (fun (A : Option Addr) c (A2 : Option Addr) c2 W (a : Rd eO 3 W A c os3) (b : Rd eL 5 W A2 c2 ls) => owed_any A c os3 A2 c2 ls o W a b)
    rw [r5] at OW3
    have zt := (small_text r1).1
    have LN3 := Lib.hid (fun W => lines_any t3 W (by omega))
    rw [r7] at LN3
    have HEL := Lib.hid hel
    have HI0 := Lib.hid hi0
    have HIL := Lib.hid hil
    clear r1 r2 r3 r4 r5 r6 r7 hel hi0 hil hee PF
    go_wp2_with fail
    have hE : Below w10.heap.size w10 w10 := (Below.refl w10.heap.size w10)
    refine (RU3.out _ (HL.out.below hE)).mono ?_
    rintro e w11 ⟨⟨A6, c6, A7, c7, A8, c8, rfl, ho1, ho2, ho3⟩, hb⟩
    have hB := below2 hE hb
    replace HL := Lib.hid (HL.out.below hB)
    replace BB := Lib.hid (below2 BB.out hB)
    replace RO := Lib.hid (RO.out.below hB)
    replace RS := Lib.hid (RS.out.below hB)
    replace bx0 := Lib.hid (cB hB bx0.out)
    replace bx1 := Lib.hid (cB hB bx1.out)
    have RO3 := Lib.hid ho1
    have RS3 := Lib.hid ho2
    have RE := Lib.hid ho3
    clear hE hb hB ho1 ho2 ho3
    go_wp2_with fail
    have hE : Below w11.heap.size w11 (w11.alloc (.cells #[.slice A6 os3.length c6, .slice A7 ls.length c7] 26)) := (below_a1 w11 (.cells #[.slice A6 os3.length c6, .slice A7 ls.length c7] 26))
    refine (OW3.out _ _ _ _ _ (RO3.out.below hE) (RS3.out.below hE)).mono ?_
    rintro e w12 ⟨rfl, hb⟩
    have hB := below2 hE hb
    replace HL := Lib.hid (HL.out.below hB)
    replace BB := Lib.hid (below2 BB.out hB)
    replace RO := Lib.hid (RO.out.below hB)
    replace RS := Lib.hid (RS.out.below hB)
    replace bx0 := Lib.hid (cB hB bx0.out)
    replace bx1 := Lib.hid (cB hB bx1.out)
    replace RO3 := Lib.hid (RO3.out.below hB)
    replace RS3 := Lib.hid (RS3.out.below hB)
    replace RE := Lib.hid (RE.out.below hB)
    clear hE hb hB
    go_wp2_with fail
    have hE : Below w12.heap.size w12 w12 := (Below.refl w12.heap.size w12)
    refine (LN.out _).mono ?_
    rintro e w13 ⟨rfl, hb⟩
    have hB := below2 hE hb
    replace HL := Lib.hid (HL.out.below hB)
    replace BB := Lib.hid (below2 BB.out hB)
    replace RO := Lib.hid (RO.out.below hB)
    replace RS := Lib.hid (RS.out.below hB)
    replace bx0 := Lib.hid (cB hB bx0.out)
    replace bx1 := Lib.hid (cB hB bx1.out)
    replace RO3 := Lib.hid (RO3.out.below hB)
    replace RS3 := Lib.hid (RS3.out.below hB)
    replace RE := Lib.hid (RE.out.below hB)
    clear hE hb hB
    go_wp2_with fail
    have hE : Below w13.heap.size w13 w13 := (Below.refl w13.heap.size w13)
    refine (LN3.out _).mono ?_
    rintro e w14 ⟨rfl, hb⟩
    have hB := below2 hE hb
    replace HL := Lib.hid (HL.out.below hB)
    replace BB := Lib.hid (below2 BB.out hB)
    replace RO := Lib.hid (RO.out.below hB)
    replace RS := Lib.hid (RS.out.below hB)
    replace bx0 := Lib.hid (cB hB bx0.out)
    replace bx1 := Lib.hid (cB hB bx1.out)
    replace RO3 := Lib.hid (RO3.out.below hB)
    replace RS3 := Lib.hid (RS3.out.below hB)
    replace RE := Lib.hid (RE.out.below hB)
    clear hE hb hB
    obtain ⟨be, oe, z5, hz5, rfl, -, e5⟩ := RE.out.atI (i := N) (by rw [HEL.out]; omega)
    rw [at_of HI0.out] at hz5
    subst hz5
    obtain ⟨be', oe', z6, hz6, hee, -, e6⟩ := RE.out.atI (i := N + 1) (by rw [HEL.out]; omega)
    cases hee
    rw [at_of HIL.out] at hz6
    subst hz6
    have N0 : (0 : Int) ≤ (N : Int) := by omega
    go_wp2_with fail
    have hE : Below w14.heap.size w14 w14 := (Below.refl w14.heap.size w14)
    refine (works_any _ (HL.out.below hE)).mono ?_
    rintro e w15 ⟨rfl, hb⟩
    have hB := below2 hE hb
    replace HL := Lib.hid (HL.out.below hB)
    replace BB := Lib.hid (below2 BB.out hB)
    replace RO := Lib.hid (RO.out.below hB)
    replace RS := Lib.hid (RS.out.below hB)
    replace bx0 := Lib.hid (cB hB bx0.out)
    replace bx1 := Lib.hid (cB hB bx1.out)
    replace RO3 := Lib.hid (RO3.out.below hB)
    replace RS3 := Lib.hid (RS3.out.below hB)
    replace RE := Lib.hid (RE.out.below hB)
    clear hE hb hB
    go_wp2
    go_ret
    exact ⟨rfl, BB.out⟩
   ·have _z : True := trivial
    have hn0i : 0 < v := by have := HVN.out; omega
    have hn0f : (v == 0) = false := by rw [beq_eq_false_iff_ne]; omega
    have PF := PB hn0
    clear PA PB
    have AD2 := Lib.hid (fun W => added_any t1 (twoLn wPay o v).text W (by omega) (by omega))
    have le2 := addB_size (text := t1) (line := (twoLn wPay o v).text)
    have le3 : (decB ((nLines t1 : Int) + 1)).size ≤ 21 := by rw [decB_len]; exact Lib.itoa_length_le _ (by omega) (by have := parts_cnt 10 t1.data.toList; have h5 : t1.data.toList.length = t1.size := (by simp); unfold nLines; omega)
    rw [← PE2.out] at AD2 PF le2 zz2
    obtain ⟨t2, ht2⟩ : ∃ x, addB t1 ((⟨#[112, 97, 121, 32]⟩ : ByteArray) ++ od ++ ⟨#[32]⟩ ++ nd) = x := ⟨_, rfl⟩
    rw [ht2] at AD2 PF le2
    have AD3 := Lib.hid (fun W => added_any t2 (twoLn wPay o 1).text W (by omega) (by omega))
    rw [← PE3.out] at AD3 PF
    obtain ⟨t3, ht3⟩ : ∃ x, addB t2 ((⟨#[112, 97, 121, 32]⟩ : ByteArray) ++ od ++ ⟨#[32]⟩ ++ ⟨#[49]⟩) = x := ⟨_, rfl⟩
    rw [ht3] at AD3 PF
    clear ht2 ht3 le2 le3
    clear hn0 HVN
    go_wp2_with fail
    have hE : Below w9.heap.size w9 w9 := (Below.refl w9.heap.size w9)
    refine (DN.out _).mono ?_
    rintro e w10 ⟨rfl, hb⟩
    have hB := below2 hE hb
    replace HL := Lib.hid (HL.out.below hB)
    replace BB := Lib.hid (below2 BB.out hB)
    replace RO := Lib.hid (RO.out.below hB)
    replace RS := Lib.hid (RS.out.below hB)
    replace bx0 := Lib.hid (cB hB bx0.out)
    replace bx1 := Lib.hid (cB hB bx1.out)
    clear hE hb hB
    go_wp2_with fail
    have hE : Below w10.heap.size w10 w10 := (Below.refl w10.heap.size w10)
    refine (AD2.out _).mono ?_
    rintro e w11 ⟨rfl, hb⟩
    have hB := below2 hE hb
    replace HL := Lib.hid (HL.out.below hB)
    replace BB := Lib.hid (below2 BB.out hB)
    replace RO := Lib.hid (RO.out.below hB)
    replace RS := Lib.hid (RS.out.below hB)
    replace bx0 := Lib.hid (cB hB bx0.out)
    replace bx1 := Lib.hid (cB hB bx1.out)
    clear hE hb hB
    go_wp2_with fail
    have hE : Below w11.heap.size w11 w11 := (Below.refl w11.heap.size w11)
    refine (AD3.out _).mono ?_
    rintro e w12 ⟨rfl, hb⟩
    have hB := below2 hE hb
    replace HL := Lib.hid (HL.out.below hB)
    replace BB := Lib.hid (below2 BB.out hB)
    replace RO := Lib.hid (RO.out.below hB)
    replace RS := Lib.hid (RS.out.below hB)
    replace bx0 := Lib.hid (cB hB bx0.out)
    replace bx1 := Lib.hid (cB hB bx1.out)
    clear hE hb hB
    obtain ⟨l3, os3, r1, r2, r3, r4, r5, r6, r7⟩ := PF.fin
    obtain ⟨ee, hee⟩ : ∃ x : List Int, er ++ [4, 0, 4] = x := ⟨_, rfl⟩
    have hel : ee.length = N + 3 := by rw [← hee, List.length_append, H4.out]; rfl
    have hi0 : ee[N]? = some 4 := by rw [← hee, List.getElem?_append_right (by have := H4.out; omega), H4.out, Nat.sub_self]; rfl
    have hil : ee[N + 2]? = some 4 := by rw [← hee, List.getElem?_append_right (by have := H4.out; omega), H4.out, Nat.add_sub_cancel_left]; rfl
    have hi1 : ee[N + 1]? = some 0 := by rw [← hee, List.getElem?_append_right (by have := H4.out; omega), H4.out, Nat.add_sub_cancel_left]; rfl
    have HI1 := Lib.hid hi1
    clear hi1
    rw [hee] at r4
    rw [H4.out] at r7
    have RU3 := Lib.hid (fun W hW => runT (n := N + 3) r1 r2 r3 r4 hel W hW)
    have OW3 := Lib.hid (fun (A : Option Addr) c (A2 : Option Addr) c2 W (a : Rd eO 3 W A c os3) (b : Rd eL 5 W A2 c2 ls) => owed_any A c os3 A2 c2 ls o W a b)
    rw [r5] at OW3
    have zt := (small_text r1).1
    have LN3 := Lib.hid (fun W => lines_any t3 W (by omega))
    rw [r7] at LN3
    have HEL := Lib.hid hel
    have HI0 := Lib.hid hi0
    have HIL := Lib.hid hil
    clear r1 r2 r3 r4 r5 r6 r7 hel hi0 hil hee PF
    go_wp2_with fail
    have hE : Below w12.heap.size w12 w12 := (Below.refl w12.heap.size w12)
    refine (RU3.out _ (HL.out.below hE)).mono ?_
    rintro e w13 ⟨⟨A6, c6, A7, c7, A8, c8, rfl, ho1, ho2, ho3⟩, hb⟩
    have hB := below2 hE hb
    replace HL := Lib.hid (HL.out.below hB)
    replace BB := Lib.hid (below2 BB.out hB)
    replace RO := Lib.hid (RO.out.below hB)
    replace RS := Lib.hid (RS.out.below hB)
    replace bx0 := Lib.hid (cB hB bx0.out)
    replace bx1 := Lib.hid (cB hB bx1.out)
    have RO3 := Lib.hid ho1
    have RS3 := Lib.hid ho2
    have RE := Lib.hid ho3
    clear hE hb hB ho1 ho2 ho3
    go_wp2_with fail
    have hE : Below w13.heap.size w13 (w13.alloc (.cells #[.slice A6 os3.length c6, .slice A7 ls.length c7] 26)) := (below_a1 w13 (.cells #[.slice A6 os3.length c6, .slice A7 ls.length c7] 26))
    refine (OW3.out _ _ _ _ _ (RO3.out.below hE) (RS3.out.below hE)).mono ?_
    rintro e w14 ⟨rfl, hb⟩
    have hB := below2 hE hb
    replace HL := Lib.hid (HL.out.below hB)
    replace BB := Lib.hid (below2 BB.out hB)
    replace RO := Lib.hid (RO.out.below hB)
    replace RS := Lib.hid (RS.out.below hB)
    replace bx0 := Lib.hid (cB hB bx0.out)
    replace bx1 := Lib.hid (cB hB bx1.out)
    replace RO3 := Lib.hid (RO3.out.below hB)
    replace RS3 := Lib.hid (RS3.out.below hB)
    replace RE := Lib.hid (RE.out.below hB)
    clear hE hb hB
    go_wp2_with fail
    have hE : Below w14.heap.size w14 w14 := (Below.refl w14.heap.size w14)
    refine (LN.out _).mono ?_
    rintro e w15 ⟨rfl, hb⟩
    have hB := below2 hE hb
    replace HL := Lib.hid (HL.out.below hB)
    replace BB := Lib.hid (below2 BB.out hB)
    replace RO := Lib.hid (RO.out.below hB)
    replace RS := Lib.hid (RS.out.below hB)
    replace bx0 := Lib.hid (cB hB bx0.out)
    replace bx1 := Lib.hid (cB hB bx1.out)
    replace RO3 := Lib.hid (RO3.out.below hB)
    replace RS3 := Lib.hid (RS3.out.below hB)
    replace RE := Lib.hid (RE.out.below hB)
    clear hE hb hB
    go_wp2_with fail
    have hE : Below w15.heap.size w15 w15 := (Below.refl w15.heap.size w15)
    refine (LN3.out _).mono ?_
    rintro e w16 ⟨rfl, hb⟩
    have hB := below2 hE hb
    replace HL := Lib.hid (HL.out.below hB)
    replace BB := Lib.hid (below2 BB.out hB)
    replace RO := Lib.hid (RO.out.below hB)
    replace RS := Lib.hid (RS.out.below hB)
    replace bx0 := Lib.hid (cB hB bx0.out)
    replace bx1 := Lib.hid (cB hB bx1.out)
    replace RO3 := Lib.hid (RO3.out.below hB)
    replace RS3 := Lib.hid (RS3.out.below hB)
    replace RE := Lib.hid (RE.out.below hB)
    clear hE hb hB
    obtain ⟨be, oe, z5, hz5, rfl, -, e5⟩ := RE.out.atI (i := N) (by rw [HEL.out]; omega)
    rw [at_of HI0.out] at hz5
    subst hz5
    obtain ⟨be', oe', z6, hz6, hee, -, e6⟩ := RE.out.atI (i := N + 2) (by rw [HEL.out]; omega)
    cases hee
    rw [at_of HIL.out] at hz6
    subst hz6
    obtain ⟨be', oe', z7, hz7, hee, -, e7⟩ := RE.out.atI (i := N + 1) (by rw [HEL.out]; omega)
    cases hee
    rw [at_of HI1.out] at hz7
    subst hz7
    have N0 : (0 : Int) ≤ (N : Int) := by omega
    go_wp2_with fail
    have hE : Below w16.heap.size w16 w16 := (Below.refl w16.heap.size w16)
    refine (works_any _ (HL.out.below hE)).mono ?_
    rintro e w17 ⟨rfl, hb⟩
    have hB := below2 hE hb
    replace HL := Lib.hid (HL.out.below hB)
    replace BB := Lib.hid (below2 BB.out hB)
    replace RO := Lib.hid (RO.out.below hB)
    replace RS := Lib.hid (RS.out.below hB)
    replace bx0 := Lib.hid (cB hB bx0.out)
    replace bx1 := Lib.hid (cB hB bx1.out)
    replace RO3 := Lib.hid (RO3.out.below hB)
    replace RS3 := Lib.hid (RS3.out.below hB)
    replace RE := Lib.hid (RE.out.below hB)
    clear hE hb hB
    go_wp2
    go_ret
    exact ⟨rfl, BB.out⟩
end Go.Proofs.YtcnpbcgkhhebaaaGreatDoor
/- Closed facts of SeasonPaid's row. -/
namespace Go.Proofs.YtcnpbcgkhhebaaaGreatDoor
open Go.ChangeShapes Go.WideShapes Go.ChangeAt Go.RowKit
set_option maxRecDepth 100000
theorem seasonPaid_j0 : (Rows.seasonPaidRow.wf (OpenSpec.ofChange Rows.seasonPaidSpec)) = true := by kernel_rfl
theorem seasonPaid_j3 : (Tryz.f15.params.all (Tryz.prog.readableRec ·)) = true := by kernel_rfl
theorem seasonPaid_j4 : (namedTie Tryz.prog Rows.seasonPaidRow.named Rows.seasonPaidSpec.vars) = true := by kernel_rfl
theorem seasonPaid_j5 : ((Rows.seasonPaidRow.stops == [])) = true := by kernel_rfl
theorem seasonPaid_j7 : ((Rows.seasonPaidRow.knobs == [])) = true := by kernel_rfl
theorem seasonPaid_j9 : ((Rows.seasonPaidRow.inPlace == Tryz.prog.inPlace 15)) = true := by kernel_rfl
theorem seasonPaid_j10 : ((Rows.seasonPaidRow.unfollowed == Tryz.prog.unfollowed 15)) = true := by kernel_rfl
theorem seasonPaid_j11 : ((Rows.seasonPaidRow.recurses == Tryz.prog.recurses 15)) = true := by kernel_rfl
theorem seasonPaid_j12 : ((Rows.seasonPaidRow.named == Tryz.prog.varsNamed 15)) = true := by kernel_rfl
theorem seasonPaid_j13 : ((Rows.seasonPaidRow.maps == (Tryz.f15.params.toList ++ Rows.seasonPaidSpec.plain.varTypes Tryz.prog).any (Tryz.prog.mapsRec ·))) = true := by kernel_rfl
theorem seasonPaid_j14 : ((Rows.seasonPaidRow.ifaces == (Tryz.f15.params.toList ++ Rows.seasonPaidSpec.plain.varTypes Tryz.prog).any (Tryz.prog.ifacesRec ·))) = true := by kernel_rfl
theorem seasonPaid_j15 : ((Rows.seasonPaidRow.mapsOut == Tryz.prog.mapsAmong Tryz.f15.resultTypes.toList)) = true := by kernel_rfl
theorem seasonPaid_j16 : ((Rows.seasonPaidRow.loops == (Tryz.f15.params.toList ++ Rows.seasonPaidSpec.plain.varTypes Tryz.prog).any (Tryz.prog.loopsFrom ·))) = true := by kernel_rfl
theorem seasonPaid_j17 : ((Rows.seasonPaidRow.wideKeys == (Tryz.f15.params.toList ++ Rows.seasonPaidSpec.plain.varTypes Tryz.prog ++ Tryz.f15.resultTypes.toList).any (Tryz.prog.wideKeysFrom ·))) = true := by kernel_rfl
theorem seasonPaid_j18 : (Rows.seasonPaidSpec.vars.all (Tryz.prog.varReadable ·)) = true := by kernel_rfl
theorem seasonPaid_j19 : (Tryz.f15.resultTypes.all (fun t => Tryz.prog.readableRec t && decide (t < Tryz.prog.types.size))) = true := by kernel_rfl
theorem seasonPaid_j20 : ((Rows.seasonPaidRow.ifacesOut == Tryz.f15.resultTypes.toList.any (Tryz.prog.ifacesRec ·))) = true := by kernel_rfl
theorem seasonPaid_j21 : ((Rows.seasonPaidRow.loopsOut == Tryz.f15.resultTypes.toList.any (Tryz.prog.loopsFrom ·))) = true := by kernel_rfl
theorem seasonPaid_j22 : ((Rows.seasonPaidRow.plainKeys == Tryz.prog.plainKeys)) = true := by kernel_rfl
theorem seasonPaid_j23 : (Rows.seasonPaidRow.shortTexts.isNone) = true := by kernel_rfl
theorem seasonPaid_j26 : ((Rows.seasonPaidRow.lifted == Tryz.prog.liftsFinal)) = true := by kernel_rfl
theorem seasonPaid_j27 : ((Tryz.prog.make == some Rows.seasonPaidRow.make)) = true := by kernel_rfl
theorem seasonPaid_j28 : ((Rows.seasonPaidRow.kinds == (if Rows.seasonPaidRow.domain.isEmpty then [] else Tryz.f15.params.toList.map fun t => match Tryz.prog.underlying t with | some (.int k) => some k | _ => none))) = true := by kernel_rfl
theorem seasonPaid_j29 : ((Rows.seasonPaidRow.pinned == Rows.seasonPaidRow.pinnedBy)) = true := by kernel_rfl
theorem seasonPaid_j30 : ((Rows.seasonPaidRow.veiled == (Tryz.f15.params.toList ++ Rows.seasonPaidSpec.plain.varTypes Tryz.prog ++ Tryz.f15.resultTypes.toList).any (Tryz.prog.veiledRec ·))) = true := by kernel_rfl
theorem seasonPaid_j31 : (Rows.seasonPaidRow.veiledFits Tryz.prog Tryz.f15.params.toList (Tryz.f15.params.toList ++ Rows.seasonPaidSpec.plain.varTypes Tryz.prog ++ Tryz.f15.resultTypes.toList)) = true := by kernel_rfl
theorem seasonPaid_joined : joinedFacts Tryz.prog 15 Tryz.f15 Rows.seasonPaidSpec Rows.seasonPaidRow = true := by
 unfold joinedFacts
 exact (and_mk (and_mk (and_mk (and_mk (and_mk (and_mk (and_mk (and_mk (and_mk (and_mk (and_mk (and_mk (and_mk (and_mk (and_mk (and_mk (and_mk (and_mk (and_mk (and_mk (and_mk (and_mk (and_mk (and_mk (and_mk (and_mk (and_mk (and_mk (and_mk (and_mk (and_mk seasonPaid_j0 sh_laidOut) sh_mapsRowed) seasonPaid_j3) seasonPaid_j4) seasonPaid_j5) sh_stops) seasonPaid_j7) sh_knobs) seasonPaid_j9) seasonPaid_j10) seasonPaid_j11) seasonPaid_j12) seasonPaid_j13) seasonPaid_j14) seasonPaid_j15) seasonPaid_j16) seasonPaid_j17) seasonPaid_j18) seasonPaid_j19) seasonPaid_j20) seasonPaid_j21) seasonPaid_j22) seasonPaid_j23) sh_heard) sh_enter) seasonPaid_j26) seasonPaid_j27) seasonPaid_j28) seasonPaid_j29) seasonPaid_j30) seasonPaid_j31)
end Go.Proofs.YtcnpbcgkhhebaaaGreatDoor
namespace Go.Proofs.YtcnpbcgkhhebaaaGreatDoor
open Go.ChangeShapes Go.WideShapes Go.ChangeAt Go.RowKit
set_option maxRecDepth 100000
open Go.Deep Go.Joins
theorem seasonPaid_lifted (os : Os) (started : os.Started) (H : Type) (enc : TypeId × Value → H) :
  ReturnsInHanded {} Tryz.checked os 15 .any (fun w args => (Rows.seasonPaidSpec.pre enc Tryz.prog Tryz.f15 Rows.seasonPaidRow.domain false w args ∧ laidMetH Tryz.prog laidAllL w) ∧ sizedMet enc Tryz.prog Tryz.f15 (OpenSpec.ofChange Rows.seasonPaidSpec) false w args)
   (Rows.seasonPaidSpec.post enc Tryz.prog Tryz.f15 false true false false) := by
 refine handed_both (C := Tryz.checked) (X := fun w _ => laidMetH Tryz.prog laidAllL w) (fun _ _ _ hh h => h.of_heap hh) ownKn started (by kernel_rfl) Tryz.func15
  (ChangeSpec.witness_shaped (enc := enc) (C := Tryz.checked) (os := os) (X := fun w _ => laidMetH Tryz.prog laidAllL w) false (World.laidAll Tryz.prog os laidAllL) #[.string ⟨#[]⟩, .int .u8 0] 8 (World.laidAll_os _ _ _)
   (World.shaped_of_ZipB (by kernel_rfl) (by kernel_rfl)) (by kernel_rfl) (by kernel_rfl) (by kernel_rfl) (laid_met os _)) ?_
 intro W base args ds gs before hval0 hW _ hwt hsh hL _
 have hW' := hW
 obtain ⟨p, q, hA0, hV, rfl, _, _⟩ := hW
 have hA : DataW.TrodAll enc Tryz.prog W 0 (fun _ => true) true Tryz.f15.params.toList args.toList ds p := hA0
 have hLW := laidW_of hsh hL
 rw [Tryz.params15] at hA
 have hval : ∀ (j : Nat) t v, Tryz.f15.params[j]? = some t → args[j]? = some v → Value.okWide Tryz.prog W .any base t v := hval0
 rw [Tryz.params15] at hval
 obtain ⟨v0, v1, d0, d1, p0, p1, rfl, rfl, rfl, h0, h1⟩ := trodAll_two hA
 obtain ⟨rfl, rfl⟩ := trodVars_none hV
 have h0k := h0
 have h1k := h1
 obtain ⟨x0, rfl, _, _, k0⟩ := Go.ChangeMaps.open_string Tryz.underlying9 (hval 0 9 v0 rfl rfl) h0
 obtain ⟨n1, rfl, _, _, wf1⟩ := open_int Tryz.underlying5 (hval 1 5 v1 rfl rfl) h1
 simp only [List.append_nil] at hW'
 have hlt : ∀ x ∈ p0 ++ p1, x.block < W.heap.size := fun x hx => by simpa using hW'.lt x hx
 refine (paid_any x0 n1 W hLW (by unfold maxLen at k0; omega) (u8_bd wf1).1 (u8_bd wf1).2).mono fun e W' ⟨he, hb⟩ => ?_
 subst he
 exact ⟨_, rfl, _, _, _, [], p0 ++ p1, [], hW', trodAll_mk1 (shut_bool Tryz.underlying4 true), trodAll_mk2 (Below.trod sh_laidOut (by kernel_rfl) (of_decide_eq_true (by kernel_rfl)) h0k hb (fun x hx => hlt x (by simp [hx]))) (Below.trod sh_laidOut (by kernel_rfl) (of_decide_eq_true (by kernel_rfl)) h1k hb (fun x hx => hlt x (by simp [hx]))), rfl, hb.frame _, fun h => by cases h⟩
theorem seasonPaid_named : Tryz.prog.funcNamed "peavey/peaveylaw12.SeasonPaid" = some 15 := by kernel_rfl
theorem seasonPaid_goes : false = Rows.seasonPaidRow.goesBy Tryz.prog := by kernel_rfl
theorem seasonPaid_wf : Rows.seasonPaidRow.wfByText (OpenSpec.ofChange Rows.seasonPaidSpec) = true := by kernel_rfl
theorem seasonPaid_row : Rows.SeasonPaidSaid :=
 OpenClaim.holds_of_wide 15 Tryz.f15 rfl rfl rfl rfl rfl rfl rfl ⟨rfl, rfl, rfl, rfl, rfl⟩ rfl rfl rfl rfl rfl seasonPaid_named Tryz.func15 seasonPaid_joined
  (of_decide_eq_true (by kernel_rfl)) (by unfold Func.isWrapper; rw [if_neg (of_decide_eq_false (by kernel_rfl))]; exact ⟨rfl, rfl⟩)
  (fun os started H enc _ => seasonPaid_lifted os started H enc)
theorem seasonPaid_card : Rows.SeasonPaidCardSaid :=
 Claim7.holds_tied_plain_at .later [] [.data, .data, .data, .data, .sentinel, .sentinel, .pinned] true (true, "bb3957611fb07b8f30c253038086df1c9e34512f5bd6bdaf1e554329739cb219") true seasonPaid_row (fun _ h => by cases h) seasonPaid_wf (fun _ h => by cases h) seasonPaid_row_tie rfl ⟨rfl, rfl⟩ sh_main rfl
  (fun f fn hf hfn => by
   obtain rfl : f = 15 := Option.some.inj (seasonPaid_named.symm.trans hf) |>.symm
   obtain rfl : fn = Tryz.f15 := (Option.some.inj (Tryz.func15.symm.trans hfn)).symm
   exact ⟨sh_looks, fun j t ht => by
    rw [Tryz.params15] at ht
    have hm : t ∈ [9, 5] := by simpa using Array.mem_of_getElem? ht
    have hall : ([9, 5].all fun u => !Tryz.prog.wantsStandIn u) = true := by kernel_rfl
    exact (show Tryz.prog.wantsStandIn t = false by simpa using List.all_eq_true.1 hall t hm)⟩)
  seasonPaid_goes
#print axioms seasonPaid_card
end Go.Proofs.YtcnpbcgkhhebaaaGreatDoor
