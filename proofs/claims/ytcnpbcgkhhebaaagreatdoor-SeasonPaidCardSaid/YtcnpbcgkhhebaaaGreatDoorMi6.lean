/- What the laws over a text lean on. -/
import Derived.Test.YtcnpbcgkhhebaaaGreatDoorMi5
import Derived.Test.YtcnpbcgkhhebaaaGreatDoorTie
import Derived.Test.YtcnpbcgkhhebaaaGreatDoorCards
import Derived.ProofKit
import Derived.HandedShaped
import Derived.Shelf.Vars
import Derived.Lib.LaidTab
import Derived.Stop.LaidErr
import Derived.Lay
import Derived.SevenTiedAt
import Derived.Stop.Joined
import Derived.LaidMore
import Derived.Deep.Slices
import Derived.Deep.Fields
import Derived.Lib.SmallJoins
import Derived.ChangeMaps5
/- The laws of owners and their logs, in plain data: what is owed, given, rafted, paid. -/
namespace Go.Proofs.YtcnpbcgkhhebaaaGreatDoor
open Go.RowKit

theorem owed_at {os : List Ow} {ls : List Lg} (h : Valid os ls) {i : Nat} (hi : i < os.length) : owedS os ls os[i].num = (feesOf ls os[i].num - os[i].paid, 0) := by
 unfold owedS
 rw [if_neg (by simp [valid_check h]), own_ix h.rise hi, if_neg (by omega), fees_at (rise_of h.rise) ls hi]
 unfold paidAt
 rw [Int.toNat_natCast, List.getElem?_eq_getElem hi]
theorem owed_bd {os : List Ow} {ls : List Lg} (h : Valid os ls) {i : Nat} (hi : i < os.length) : 0 ≤ feesOf ls os[i].num - os[i].paid ∧ feesOf ls os[i].num ≤ 100300 := by
 have h1 := h.paid _ (List.getElem_mem hi)
 have h2 := (feesOf_bd h.feet os[i].num).2
 have h3 := h.ls100
 omega
/-- What is paid and owed by the first owners. -/
def oweN (os : List Ow) (ls : List Lg) (k : Nat) : Int := ((os.take k).map fun x => feesOf ls x.num).sum
def feeN (ls : List Lg) (k : Nat) : Int := ((ls.take k).map fun l => if l.own = 0 then 0 else fee l).sum
theorem oweN_succ {os : List Ow} {ls : List Lg} {k : Nat} (hk : k < os.length) : oweN os ls (k + 1) = oweN os ls k + feesOf ls os[k].num := by
 unfold oweN
 rw [List.take_succ_eq_append_getElem hk, List.map_append, List.sum_append]
 simp
theorem feeN_succ {ls : List Lg} {k : Nat} (hk : k < ls.length) : feeN ls (k + 1) = feeN ls k + if ls[k].own = 0 then 0 else fee ls[k] := by
 unfold feeN
 rw [List.take_succ_eq_append_getElem hk, List.map_append, List.sum_append]
 simp
theorem oweN_bd {os : List Ow} {ls : List Lg} (h : Valid os ls) : ∀ k, k ≤ os.length → 0 ≤ oweN os ls k ∧ oweN os ls k ≤ 100300 * k
 | 0, _ => by simp [oweN]
 | k + 1, hk => by
  obtain ⟨h1, h2⟩ := oweN_bd h k (by omega)
  have h3 := owed_bd h (i := k) (by omega)
  have h4 := h.paid _ (List.getElem_mem (l := os) (n := k) (by omega))
  rw [oweN_succ (by omega)]
  omega
theorem feeN_bd {ls : List Lg} (h : ∀ l ∈ ls, 1 ≤ l.feet ∧ l.feet ≤ 10000) : ∀ k, k ≤ ls.length → 0 ≤ feeN ls k ∧ feeN ls k ≤ 1003 * k
 | 0, _ => by simp [feeN]
 | k + 1, hk => by
  obtain ⟨h1, h2⟩ := feeN_bd h k (by omega)
  have h3 := h _ (List.getElem_mem (l := ls) (n := k) (by omega))
  rw [feeN_succ (by omega)]
  unfold fee
  split <;> omega
theorem sum_one {os : List Ow} {n : Int} {f : Int} (hn : (os.map (·.num)).Nodup) (h : ∃ x ∈ os, x.num = n) : (os.map fun x => if n = x.num then f else 0).sum = f := by
 induction os with
 | nil => obtain ⟨x, hx, _⟩ := h; cases hx
 | cons y r ih =>
  rw [List.map_cons, List.nodup_cons] at hn
  rw [List.map_cons, List.sum_cons]
  by_cases e : n = y.num
  ·have : (r.map fun x => if n = x.num then f else 0) = r.map fun _ => (0 : Int) := by
    refine List.map_congr_left fun x hx => ?_
    rw [if_neg]
    intro e2
    exact hn.1 (by rw [← e, e2]; exact List.mem_map_of_mem hx)
   have z : (r.map fun _ => (0 : Int)).sum = 0 := by
    clear ih hn h this
    induction r with
    | nil => rfl
    | cons a r ih => rw [List.map_cons, List.sum_cons, ih]; rfl
   rw [if_pos e, this, z]
   omega
  ·obtain ⟨x, hx, hx2⟩ := h
   rcases List.mem_cons.1 hx with rfl | hx
   ·exact absurd hx2.symm e
   ·rw [if_neg e, ih hn.2 ⟨x, hx, hx2⟩]
    omega
theorem sum_none {os : List Ow} {n : Int} {f : Int} (h : ∀ x ∈ os, x.num ≠ n) : (os.map fun x => if n = x.num then f else 0).sum = 0 := by
 induction os with
 | nil => rfl
 | cons y r ih =>
  rw [List.map_cons, List.sum_cons, if_neg (fun e => h y List.mem_cons_self e.symm), ih fun x hx => h x (List.mem_cons_of_mem _ hx)]
  rfl
theorem sum_add {α : Type} (l : List α) (f g : α → Int) : (l.map fun x => f x + g x).sum = (l.map f).sum + (l.map g).sum := by
 induction l with
 | nil => rfl
 | cons a r ih => simp only [List.map_cons, List.sum_cons, ih]; omega
theorem all_owed {os : List Ow} (hn : (os.map (·.num)).Nodup) (ho : ∀ x ∈ os, x.num ≠ 0) : ∀ ls : List Lg, (∀ l ∈ ls, l.own ≠ 0 → ∃ x ∈ os, x.num = l.own) → (os.map fun x => feesOf ls x.num).sum = (ls.map fun l => if l.own = 0 then 0 else fee l).sum
 | [], _ => by
  have : (fun x : Ow => feesOf [] x.num) = fun _ => 0 := rfl
  rw [this]
  have z : ∀ os : List Ow, (os.map fun _ => (0 : Int)).sum = 0 := by
   intro os
   induction os with
   | nil => rfl
   | cons a r ih => rw [List.map_cons, List.sum_cons, ih]; rfl
  rw [z]
  rfl
 | l :: r, h => by
  have ih := all_owed hn ho r fun k hk => h k (List.mem_cons_of_mem _ hk)
  have e : (os.map fun x => feesOf (l :: r) x.num) = os.map fun x => (if l.own = x.num then fee l else 0) + feesOf r x.num := List.map_congr_left fun x _ => fees_cons l r x.num
  rw [e, sum_add, ih, List.map_cons, List.sum_cons]
  congr 1
  by_cases h0 : l.own = 0
  ·rw [if_pos h0, sum_none fun x hx => by rw [h0]; exact ho x hx]
  ·rw [if_neg h0, sum_one hn (h l List.mem_cons_self h0)]
theorem rise_nodup {os : List Ow} (h : Rising os) : (os.map (·.num)).Nodup := by
 rw [List.nodup_iff_pairwise_ne]
 rw [Rising] at h
 exact h.imp fun h => by omega
theorem owed_sum {os : List Ow} {ls : List Lg} (h : Valid os ls) : oweN os ls os.length = feeN ls ls.length := by
 unfold oweN feeN
 rw [List.take_length, List.take_length]
 refine all_owed (rise_nodup h.rise) (fun x hx => by have := h.onum x hx; omega) ls fun l hl h0 => ?_
 obtain ⟨x, hx, e, _⟩ := h.has l hl h0
 exact ⟨x, hx, e⟩

/-- A line that is added is done last. -/
theorem play_add (l : List Ln) (x : Ln) (hx : x.word ≠ wStrike) : (playE (l ++ [x])).os = (doS (playE l).os (playE l).ls x).1 ∧ (playE (l ++ [x])).ls = (doS (playE l).os (playE l).ls x).2.1 ∧ (playE (l ++ [x])).errs = (playE l).errs ++ [(doS (playE l).os (playE l).ls x).2.2] := by
 rw [playE_snoc]
 unfold stepE
 rw [if_neg hx]
 exact ⟨rfl, rfl, rfl⟩
theorem do_raft (os : List Ow) (ls : List Lg) (a b : Int) : doS os ls (twoLn wRaft a b) = raftS os ls (twoLn wRaft a b) := by
 unfold doS
 rw [if_neg (show ¬ (twoLn wRaft a b).word = wLog from (by decide : ¬ wRaft = wLog)), if_neg (show ¬ (twoLn wRaft a b).word = wClaim from (by decide : ¬ wRaft = wClaim)), if_pos (show (twoLn wRaft a b).word = wRaft from rfl)]
theorem do_pay (os : List Ow) (ls : List Lg) (a b : Int) : doS os ls (twoLn wPay a b) = payS os ls (twoLn wPay a b) := by
 unfold doS
 rw [if_neg (show ¬ (twoLn wPay a b).word = wLog from (by decide : ¬ wPay = wLog)), if_neg (show ¬ (twoLn wPay a b).word = wClaim from (by decide : ¬ wPay = wClaim)), if_neg (show ¬ (twoLn wPay a b).word = wRaft from (by decide : ¬ wPay = wRaft)), if_pos (show (twoLn wPay a b).word = wPay from rfl)]
theorem do_log (os : List Ow) (ls : List Lg) (n : Int) (s : ByteArray) (f : Int) : doS os ls (logLn n s f) = comeS os ls (logLn n s f) := by
 unfold doS
 rw [if_pos (show (logLn n s f).word = wLog from rfl)]

/-- A log comes. -/
theorem given {os : List Ow} {ls : List Lg} (h : Valid os ls) (n : Int) (s : ByteArray) (f : Int) (h0 : (comeS os ls (logLn n s f)).2.2 = 0) :
  (comeS os ls (logLn n s f)).2.1 = ls ++ [⟨n, s, f, oneOf (wornS os s), false⟩] ∧ (decide (oneOf (wornS os s) ≠ 0) = decide ((wornS os s).length = 1)) ∧ ((wornS os s).length = 1 → wornS os s = [oneOf (wornS os s)]) := by
 have hp : ∀ k ∈ wornS os s, k ≠ 0 := fun k hk => by
  obtain ⟨x, hx, _, rfl⟩ := worn_mem.1 hk
  have := h.onum x hx
  omega
 refine ⟨?_, ?_, ?_⟩
 ·unfold comeS at h0 ⊢
  split
  ·rename_i c; rw [if_pos c] at h0; exact absurd h0 (by simp)
  ·rename_i c
   rw [if_neg c] at h0
   split
   ·rename_i c2; rw [if_pos c2] at h0; exact absurd h0 (by simp)
   ·rfl
 ·rw [decide_eq_decide]
  match hw : wornS os s with
  | [] => simp [oneOf]
  | [k] =>
   have := hp k (by rw [hw]; simp)
   simp [oneOf, this]
  | a :: b :: r => simp [oneOf]
 ·intro h1
  match hw : wornS os s, h1 with
  | [k], _ => rfl

/-- After a raft. -/
theorem here_gone (o p : Int) : ∀ (m : Nat) (ls : List Lg), hereN p (goneF o m ls) = if p = o then (hereN o ls).drop m else hereN p ls
 | 0, [] => by simp [goneF, hereN]
 | m + 1, [] => by simp [goneF, hereN]
 | 0, l :: r => by
  rw [goneF, List.drop_zero]
  split
  ·rename_i e; rw [e]
  ·rfl
 | m + 1, l :: r => by
  have one : ∀ (q : Int) (k : Lg) (t : List Lg), hereN q (k :: t) = (if k.own = q ∧ k.gone = false then [k.num] else []) ++ hereN q t := by
   intro q k t
   unfold hereN
   rw [List.filter_cons]
   by_cases h : k.own = q ∧ k.gone = false
   ·rw [if_pos (by simp [h.1, h.2]), if_pos h, List.map_cons]
    rfl
   ·rw [if_neg (by rw [Bool.and_eq_true, decide_eq_true_eq, Bool.not_eq_true']; exact h), if_neg h, List.nil_append]
  rw [goneF]
  by_cases h : l.own = o ∧ l.gone = false
  ·rw [if_pos h, one p, if_neg (by simp), List.nil_append, here_gone o p m r, one o, if_pos h, one p]
   by_cases e : p = o
   ·rw [if_pos e, if_pos e]
    rfl
   ·rw [if_neg e, if_neg e, if_neg (fun h2 => e (h2.1.symm.trans h.1)), List.nil_append]
  ·rw [if_neg h, one p, here_gone o p (m + 1) r, one o, if_neg h, List.nil_append, one p]
   by_cases e : p = o
   ·rw [if_pos e, if_pos e, e, if_neg h, List.nil_append]
   ·rw [if_neg e, if_neg e]
theorem here_at {os : List Ow} {ls : List Lg} (h : Valid os ls) {i : Nat} (hi : i < os.length) : hereS os ls os[i].num = (hereN os[i].num ls, 0) := by
 unfold hereS
 rw [if_neg (by simp [valid_check h]), own_ix h.rise hi, if_neg (by omega)]
theorem rafted {os : List Ow} {ls : List Lg} (h : Valid os ls) {k : Nat} (hk : k < os.length) {n : Nat} :
  (raftS os ls (twoLn wRaft os[k].num n)).1 = os ∧
  ((hereN os[k].num ls).length < n → (raftS os ls (twoLn wRaft os[k].num n)).2.1 = ls ∧ (raftS os ls (twoLn wRaft os[k].num n)).2.2 = 6) ∧
  (n ≤ (hereN os[k].num ls).length → (raftS os ls (twoLn wRaft os[k].num n)).2.1 = goneF os[k].num n ls ∧ (raftS os ls (twoLn wRaft os[k].num n)).2.2 = 0) := by
 have e : raftS os ls (twoLn wRaft os[k].num n) = if ((hereN os[k].num ls).length : Int) < n then (os, ls, 6) else (os, goneF os[k].num n ls, 0) := by
  rw [raft_form]
  have h1 : (twoLn wRaft os[k].num n).one = os[k].num := rfl
  have h2 : (twoLn wRaft os[k].num n).two = n := rfl
  rw [h1, h2, own_ix h.rise hk, if_neg (by omega), Int.toNat_natCast]
 rw [e]
 by_cases c : ((hereN os[k].num ls).length : Int) < n
 ·rw [if_pos c]
  exact ⟨rfl, fun _ => ⟨rfl, rfl⟩, fun c2 => by omega⟩
 ·rw [if_neg c]
  exact ⟨rfl, fun c2 => by omega, fun _ => ⟨rfl, rfl⟩⟩

/-- To pay. -/
theorem paid_more {os : List Ow} {ls : List Lg} (h : Valid os ls) {k : Nat} (hk : k < os.length) {n : Int} (hn : 1 ≤ n) (hm : feesOf ls os[k].num - os[k].paid < n) : payS os ls (twoLn wPay os[k].num n) = (os, ls, 4) := by
 rcases pay_form (x := twoLn wPay os[k].num n) (ls := ls) h.rise h.os20 (fun y hy => (h.paid y hy).1) hn with ⟨_, e⟩ | ⟨i, hi, hni, e⟩
 ·exact absurd rfl (e _ (List.getElem_mem hk))
 ·have hik : os[i] = os[k] := rise_inj h.rise _ (List.getElem_mem hi) _ (List.getElem_mem hk) hni
  rw [e, if_pos]
  rw [hik]
  exact hm
theorem paid_all {os : List Ow} {ls : List Lg} (h : Valid os ls) {k : Nat} (hk : k < os.length) {n : Int} (hn : 1 ≤ n) (hm : n = feesOf ls os[k].num - os[k].paid) : payS os ls (twoLn wPay os[k].num n) = (os.set k { os[k] with paid := os[k].paid + n }, ls, 0) := by
 rcases pay_form (x := twoLn wPay os[k].num n) (ls := ls) h.rise h.os20 (fun y hy => (h.paid y hy).1) hn with ⟨_, e⟩ | ⟨i, hi, hni, e⟩
 ·exact absurd rfl (e _ (List.getElem_mem hk))
 ·have hni2 : os[i].num = os[k].num := hni
  have hik : i = k := by
   have h1 := own_ix h.rise hi
   have h2 := own_ix h.rise hk
   rw [hni2] at h1
   omega
  subst hik
  rw [e, if_neg]
  ·rfl
  ·show ¬ feesOf ls os[i].num - os[i].paid < n
   omega
end Go.Proofs.YtcnpbcgkhhebaaaGreatDoor
/- The contracts at a text that is one: what the season's functions return, as lists. -/
namespace Go.Proofs.YtcnpbcgkhhebaaaGreatDoor
open Go.RowKit

theorem eta_st (s : St) : s = ⟨s.os, s.ls, s.inn, s.errs⟩ := rfl
theorem small_text {text : ByteArray} {l : List Ln} (h : parseS text = (l, 0)) : text.size ≤ 8000 ∧ l.length ≤ 200 := ⟨(parse_iff.1 h).2.2.2, (parse_iff.1 h).2.2.1⟩
theorem runT {text : ByteArray} {l : List Ln} (h : parseS text = (l, 0)) {os : List Ow} {ls : List Lg} {errs : List Int} {n : Nat} (h1 : (playE l).os = os) (h2 : (playE l).ls = ls) (h3 : (playE l).errs = errs) (h4 : errs.length = n) (w : World) (hL : LaidW w) :
  Calls Tryz.prog 18 #[.string text] w fun e w' => (∃ A1 c1 A2 c2 A3 c3, e = .returned (.tuple #[.agg #[.slice A1 os.length c1, .slice A2 ls.length c2], .slice A3 n c3, .int .i64 0]) ∧ Rd eO 3 w' A1 c1 os ∧ Rd eL 5 w' A2 c2 ls ∧ Rd eI 1 w' A3 c3 errs) ∧ Below w.heap.size w w' := by
 have hs := small_text h
 obtain ⟨e1, e2, e3, e4⟩ := run_form h
 have hh := run_any text w hL (by omega)
 rw [e1, eta_st (playS l), e2, e3, e4, h1, h2, h3] at hh
 subst h4
 refine hh.mono ?_
 rintro e w' ⟨v, A3, c3, rfl, ⟨A1, c1, A2, c2, rfl, o1, o2⟩, o3, hb⟩
 exact ⟨⟨A1, c1, A2, c2, A3, c3, rfl, o1.rs encO, o2.rs encL, o3.rs encI⟩, hb⟩
theorem boardT {text : ByteArray} {l : List Ln} (h : parseS text = (l, 0)) {k : Nat} (hk : k ≤ l.length) {os : List Ow} {ls : List Lg} (h1 : (playE (l.take k)).os = os) (h2 : (playE (l.take k)).ls = ls) (w : World) (hL : LaidW w) :
  Calls Tryz.prog 26 #[.string text, .int .i64 k] w fun e w' => (∃ A1 c1 A2 c2, e = .returned (.tuple #[.agg #[.slice A1 os.length c1, .slice A2 ls.length c2], .int .i64 0]) ∧ Rd eO 3 w' A1 c1 os ∧ Rd eL 5 w' A2 c2 ls) ∧ Below w.heap.size w w' := by
 have hs := small_text h
 obtain ⟨e1, e2, e3, e4⟩ := board_form h hk
 have hh := board_any text k w hL (by omega)
 rw [e1, eta_st (playS (l.take k)), e2, e3, h1, h2] at hh
 refine hh.mono ?_
 rintro e w' ⟨v, rfl, ⟨A1, c1, A2, c2, rfl, o1, o2⟩, hb⟩
 exact ⟨⟨A1, c1, A2, c2, rfl, o1.rs encO, o2.rs encL⟩, hb⟩
theorem effectT {text : ByteArray} {l : List Ln} (h : parseS text = (l, 0)) {xs : List Int} {n : Nat} (h1 : plus1 (playE l).eff = xs) (h2 : xs.length = n) (w : World) (hL : LaidW w) :
  Calls Tryz.prog 22 #[.string text] w fun e w' => (∃ A c, e = .returned (.tuple #[.slice A n c, .int .i64 0]) ∧ Rd eI 1 w' A c xs) ∧ Below w.heap.size w w' := by
 have hs := small_text h
 have hh := effectS_any text w hL (by omega)
 rw [effect_form h, h1] at hh
 subst h2
 refine hh.mono ?_
 rintro e w' ⟨⟨A, c, rfl, o1⟩, hb⟩
 exact ⟨⟨A, c, rfl, o1.rs encI⟩, hb⟩
theorem plainT {text p : ByteArray} (hs : text.size ≤ 8000) (h : plainS text = (p, 0)) (w : World) (hL : LaidW w) :
  Calls Tryz.prog 24 #[.string text] w fun e w' => e = .returned (.tuple #[.string p, .int .i64 0]) ∧ Below w.heap.size w w' := by
 have hh := plain_any text w hL (by omega)
 rw [h] at hh
 exact hh
theorem word_seenS {s : ByteArray} (h : isSeenB s = true) : s.size ≤ 8 := by
 unfold isSeenB at h
 rw [Bool.and_eq_true] at h
 simpa using h.2
theorem check_ok {os : List Ow} {ls : List Lg} (h : Valid os ls) (A : Option Addr) (c : Nat) (A2 : Option Addr) (c2 : Nat) (w : World) (hr : Rd eO 3 w A c os) (hr2 : Rd eL 5 w A2 c2 ls) :
  Calls Tryz.prog 35 #[.agg #[.slice A os.length c, .slice A2 ls.length c2]] w fun e w' => e = .returned (.int .i64 0) ∧ Below w.heap.size w w' := by
 have hh := check2_any A c os A2 c2 ls w hr hr2 (fun x hx => by have := word_seenS (h.mark x hx).2; omega) (fun x hx => by have := word_seenS (h.seen x hx); omega)
 rw [valid_check h] at hh
 exact hh
theorem loadC {file : ByteArray} {os : List Ow} {ls : List Lg} {k : Int} (h : loadF file = ((os, ls), k)) (hs : file.size ≤ 9223372036854775807) (w : World) (hL : LaidW w) :
  Calls Tryz.prog 32 #[.string file] w fun e w' => (∃ A1 c1 A2 c2, e = .returned (.tuple #[.agg #[.slice A1 os.length c1, .slice A2 ls.length c2], .int .i64 k]) ∧ Rd eO 3 w' A1 c1 os ∧ Rd eL 5 w' A2 c2 ls) ∧ Below w.heap.size w w' := by
 have hh := loadF_any file w hL hs
 rw [h] at hh
 refine hh.mono ?_
 rintro e w' ⟨v, rfl, ⟨A1, c1, A2, c2, rfl, o1, o2⟩, hb⟩
 exact ⟨⟨A1, c1, A2, c2, rfl, o1.rs encO, o2.rs encL⟩, hb⟩
theorem fileC {os : List Ow} {ls : List Lg} {f : ByteArray} {k : Int} (h : fileS os ls = (f, k)) (A : Option Addr) (c : Nat) (A2 : Option Addr) (c2 : Nat) (w : World) (hL : LaidW w) (hr : Rd eO 3 w A c os) (hr2 : Rd eL 5 w A2 c2 ls) :
  Calls Tryz.prog 30 #[.agg #[.slice A os.length c, .slice A2 ls.length c2]] w fun e w' => e = .returned (.tuple #[.string f, .int .i64 k]) ∧ Below w.heap.size w w' := by
 have hh := file_any A c os A2 c2 ls w hL hr hr2
 rw [h] at hh
 exact hh
theorem hereC {os : List Ow} {ls : List Lg} (hv : Valid os ls) {i : Nat} (hi : i < os.length) {m : Int} (hm : os[i].num = m) {xs : List Int} {n : Nat} (hx : hereN m ls = xs) (hn : xs.length = n) (A : Option Addr) (c : Nat) (A2 : Option Addr) (c2 : Nat) (w : World) (hr : Rd eO 3 w A c os) (hr2 : Rd eL 5 w A2 c2 ls) :
  Calls Tryz.prog 40 #[.agg #[.slice A os.length c, .slice A2 ls.length c2], .int .i64 m] w fun e w' => (∃ A' c', e = .returned (.tuple #[.slice A' n c', .int .i64 0]) ∧ Rd eI 1 w' A' c' xs) ∧ Below w.heap.size w w' := by
 have hh := here_all A c os A2 c2 ls m w hr hr2
 have h0 := here_at hv hi
 rw [hm] at h0
 rw [h0, hx] at hh
 subst hn
 refine hh.mono ?_
 rintro e w' ⟨⟨A', c', rfl, o1⟩, hb⟩
 exact ⟨⟨A', c', rfl, o1.rs encI⟩, hb⟩
theorem longsC {xs : List Int} {n : Nat} (hn : xs.length = n) (A : Option Addr) (c : Nat) (A2 : Option Addr) (c2 : Nat) (w : World) (hr : Rd eI 1 w A c xs) (hr2 : Rd eI 1 w A2 c2 xs) :
  Calls Tryz.prog 42 #[.slice A n c, .slice A2 n c2] w fun e w' => e = .returned (.bool true) ∧ Below w.heap.size w w' := by
 subst hn
 exact longs_any A c A2 c2 xs w hr hr2
end Go.Proofs.YtcnpbcgkhhebaaaGreatDoor
/- From a row's condition to what the walks ask of the world. -/
namespace Go.Proofs.YtcnpbcgkhhebaaaGreatDoor
open Go.RowKit

theorem ownKn : ownKnob Tryz.prog.godebug = none := by kernel_rfl
def laidAllL : List (String × DataW Unit) := [("math/bits.deBruijn32tab", Rows.laid_math_bits_deBruijn32tab), ("math/bits.deBruijn64tab", Rows.laid_math_bits_deBruijn64tab), ("internal/strconv.uint64pow10", Rows.laid_internal_strconv_uint64pow10), ("unicode/utf8.acceptRanges", Rows.laid_unicode_utf8_acceptRanges), ("strconv.ErrRange", Rows.laid_strconv_ErrRange), ("strconv.ErrSyntax", Rows.laid_strconv_ErrSyntax), ("unicode/utf8.first", Rows.laid_unicode_utf8_first)]
theorem pow_data : (Rows.laid_internal_strconv_uint64pow10 : DataW Unit) = Lib.tabData .u64 Lib.pow10Tab := by kernel_rfl
theorem glob0_type : (Tryz.prog.globals[0]?).map (·.type) = some 200 := by kernel_rfl
theorem laidW_of {W : World} (hsh : W.ShapedOpen Tryz.prog) (hL : laidMetH Tryz.prog laidAllL W) : LaidW W := by
 rw [MakeChecks.laidMetH_plain _ _ _ (by kernel_rfl)] at hL
 have h2 := hL.tail.tail
 rw [show ("internal/strconv.uint64pow10", (Rows.laid_internal_strconv_uint64pow10 : DataW Unit)) = ("internal/strconv.uint64pow10", Lib.tabData .u64 Lib.pow10Tab) from by rw [pow_data]] at h2
 refine ⟨Lib.tabIs_of_head glob0 glob0_type (n := 20) (e := 180) (by kernel_rfl) (by kernel_rfl) (by kernel_rfl) (by kernel_rfl) h2, ?_⟩
 exact cell_of_shapedOpen_int (g := 1) (t := 3) (zero := #[.int .i64 0]) hsh (of_decide_eq_true (by kernel_rfl)) (by kernel_rfl) rfl (by kernel_rfl) (by kernel_rfl) Tryz.underlying3

section
variable {H : Type} {enc : TypeId × Value → H}
/-- The wrap that hands both on: the world's shape, and the row's condition. -/
theorem handed_both {a : Assume} {C : Checked} {os : Os} {f : FuncId} {fn : Func} {s : ChangeSpec} {conds : List PathCond} {apart fresh handsOn again : Bool} {X : World → Array Value → Prop}
  (hX : ∀ (w w' : World) (args : Array Value), w.heap = w'.heap → X w args → X w' args)
  (own : ownKnob C.prog.godebug = none) (started : os.Started) (noInit : C.prog.inits.idxOf? f = none) (hfn : C.prog.funcs[f]? = some fn)
  (witness : ∃ (w : World) (tape : Tape) (i : Input), w.os = os ∧ (w.forCall tape i).Shaped C.prog ∧ i.vars = [] ∧ Input.okWide C.prog (w.forCall tape i) .any w.heap.size f i ∧
   ((s.pre enc C.prog fn conds apart (w.forCall tape i).memory i.args ∧ X (w.forCall tape i).memory i.args) ∧ sizedMet enc C.prog fn (OpenSpec.ofChange s) apart (w.forCall tape i).memory i.args) ∧ a.holds C.prog (lone (Frame.enter C.prog f i.args .normal) [] (w.forCall tape i)))
  (contract : ∀ (W : World) (base : Nat) (args : Array Value) (ds gs : List (DataW H)) (before : List MemPlace),
   (∀ (j : Nat) t v, fn.params[j]? = some t → args[j]? = some v → Value.okWide C.prog W .any base t v) →
   DataW.Whole enc C.prog fn.params.toList s.vars apart W args.toList ds gs before →
   conds.all (PathCond.test C.prog ⟨fn.params.toList, ds, s.plain.varTypes C.prog, gs⟩) = true →
   (DataW.weightsEach C.prog (fn.params.toList ++ s.plain.varTypes C.prog) (ds ++ gs)).all (· ≤ reachBytes) = true → W.ShapedOpen C.prog → X W args →
   a.holds C.prog (lone (Frame.enter C.prog f args .normal) [] W) →
   Calls C.prog f args W fun e W' => ∃ v, e = .returned v ∧ s.post enc C.prog fn apart fresh handsOn again W args v W') :
  ReturnsInHanded a C os f .any (fun w args => (s.pre enc C.prog fn conds apart w args ∧ X w args) ∧ sizedMet enc C.prog fn (OpenSpec.ofChange s) apart w args) (s.post enc C.prog fn apart fresh handsOn again) := by
 refine returnsInHanded_of_calls own started noInit witness ?_
 intro w tape i _ hsh _ hok hpre hholds
 obtain ⟨_, _, _, fn', hfn', _, _, _, _, hval⟩ := hok
 have e : fn' = fn := Option.some.inj (hfn'.symm.trans hfn)
 subst e
 obtain ⟨⟨⟨ds, gs, before, hw, hc⟩, hx⟩, hz⟩ := hpre
 have hw' := DataW.Whole.of_heap (w' := w.forCall tape i) (by rfl) hw
 refine (contract (w.forCall tape i) w.heap.size i.args ds gs before hval hw' hc (hz.weights hw) hsh (hX _ _ _ (by rfl) hx) hholds).mono fun e W' ⟨v, he, hp⟩ => ?_
 subst he
 exact ChangeSpec.post_blind hp
end
theorem laid_fits (os : Os) : (World.holding Tryz.prog os ⟨#[], #[], []⟩).layFits Tryz.prog laidAllL [] = true := by kernel_rfl
theorem laid_ifaces (os : Os) : (World.holding Tryz.prog os ⟨#[], #[], []⟩).layIfaces Tryz.prog laidAllL (World.laidAll Tryz.prog os laidAllL) = true := by kernel_rfl
theorem laid_met (os : Os) (args : Array Value) : laidMetH Tryz.prog laidAllL ((World.laidAll Tryz.prog os laidAllL).forCall (fun _ _ => 0) ⟨#[], args, []⟩).memory := by
 rw [MakeChecks.laidMetH_plain _ _ _ (by kernel_rfl)]
 exact laidMet_laidAll _ (laid_fits os) (laid_ifaces os)
end Go.Proofs.YtcnpbcgkhhebaaaGreatDoor
/- What comes in: a season, read as data, is a season in memory. -/
namespace Go.Proofs.YtcnpbcgkhhebaaaGreatDoor
open Go.ChangeShapes Go.WideShapes Go.ChangeAt Go.RowKit Go.Deep Go.Joins
set_option maxRecDepth 100000

section
variable {H : Type} {enc : TypeId × Value → H} {W : World} {base : Nat} {sp : Nat → Bool} {held : Bool}
theorem one_at {α : Type} {xs : List α} {i : Nat} (h : i < xs.length) : ∃ y, xs[i]? = some y := ⟨xs[i], List.getElem?_eq_getElem h⟩
theorem open_own {fuel : Nat} {cs : List Value} {y : DataW H × List MemPlace} (h : DataW.trod enc Tryz.prog W base sp held fuel 73 cs = some y) : ∃ x : Ow, cs = eO x ∧ x.mark.size ≤ maxLen := by
 have hC : Tryz.prog.cellsOf 73 = 3 := by kernel_rfl
 have c2 : Tryz.prog.cellsOf 2 = 1 := by kernel_rfl
 have c9 : Tryz.prog.cellsOf 9 = 1 := by kernel_rfl
 obtain ⟨xs, n, _, _, hlen, hxs, hf⟩ := DataW.trod_struct (show Tryz.prog.underlying 73 = some (.struct #[⟨"Number", 2, 0, false, "", "", 0⟩, ⟨"Mark", 9, 1, false, "", "", 8⟩, ⟨"Paid", 2, 2, false, "", "", 24⟩]) by kernel_rfl) h
 rw [hC] at hlen
 match cs, hlen with
 | [a, b, c], _ =>
  have hxs3 : xs.length = 3 := hxs
  obtain ⟨y0, e0⟩ := one_at (xs := xs) (i := 0) (by omega)
  obtain ⟨y1, e1⟩ := one_at (xs := xs) (i := 1) (by omega)
  obtain ⟨y2, e2⟩ := one_at (xs := xs) (i := 2) (by omega)
  have h0 := hf 0 (⟨"Number", 2, 0, false, "", "", 0⟩ : Field) rfl
  have h1 := hf 1 (⟨"Mark", 9, 1, false, "", "", 8⟩ : Field) rfl
  have h2 := hf 2 (⟨"Paid", 2, 2, false, "", "", 24⟩ : Field) rfl
  simp only [c2, c9, List.drop_zero, List.drop_succ_cons, List.take_succ_cons, List.take_zero] at h0 h1 h2
  obtain ⟨z0, k0, _, _⟩ := DataW.trod_int Tryz.underlying2 (h0.trans e0)
  obtain ⟨z1, k1, _, k1s⟩ := DataW.trod_string Tryz.underlying9 (h1.trans e1)
  obtain ⟨z2, k2, _, _⟩ := DataW.trod_int Tryz.underlying2 (h2.trans e2)
  cases k0
  cases k1
  cases k2
  exact ⟨⟨z0, z1, z2⟩, rfl, k1s⟩
theorem open_lg {fuel : Nat} {cs : List Value} {y : DataW H × List MemPlace} (h : DataW.trod enc Tryz.prog W base sp held fuel 69 cs = some y) : ∃ x : Lg, cs = eL x ∧ x.seen.size ≤ maxLen := by
 have hC : Tryz.prog.cellsOf 69 = 5 := by kernel_rfl
 have c2 : Tryz.prog.cellsOf 2 = 1 := by kernel_rfl
 have c9 : Tryz.prog.cellsOf 9 = 1 := by kernel_rfl
 have c4 : Tryz.prog.cellsOf 4 = 1 := by kernel_rfl
 obtain ⟨xs, n, _, _, hlen, hxs, hf⟩ := DataW.trod_struct (show Tryz.prog.underlying 69 = some (.struct #[⟨"Number", 2, 0, false, "", "", 0⟩, ⟨"Seen", 9, 1, false, "", "", 8⟩, ⟨"Feet", 2, 2, false, "", "", 24⟩, ⟨"Owner", 2, 3, false, "", "", 32⟩, ⟨"Gone", 4, 4, false, "", "", 40⟩]) by kernel_rfl) h
 rw [hC] at hlen
 match cs, hlen with
 | [a, b, c, d, e], _ =>
  have hxs3 : xs.length = 5 := hxs
  obtain ⟨y0, e0⟩ := one_at (xs := xs) (i := 0) (by omega)
  obtain ⟨y1, e1⟩ := one_at (xs := xs) (i := 1) (by omega)
  obtain ⟨y2, e2⟩ := one_at (xs := xs) (i := 2) (by omega)
  obtain ⟨y3, e3⟩ := one_at (xs := xs) (i := 3) (by omega)
  obtain ⟨y4, e4⟩ := one_at (xs := xs) (i := 4) (by omega)
  have h0 := hf 0 (⟨"Number", 2, 0, false, "", "", 0⟩ : Field) rfl
  have h1 := hf 1 (⟨"Seen", 9, 1, false, "", "", 8⟩ : Field) rfl
  have h2 := hf 2 (⟨"Feet", 2, 2, false, "", "", 24⟩ : Field) rfl
  have h3 := hf 3 (⟨"Owner", 2, 3, false, "", "", 32⟩ : Field) rfl
  have h4 := hf 4 (⟨"Gone", 4, 4, false, "", "", 40⟩ : Field) rfl
  simp only [c2, c9, c4, List.drop_zero, List.drop_succ_cons, List.take_succ_cons, List.take_zero] at h0 h1 h2 h3 h4
  obtain ⟨z0, k0, _, _⟩ := DataW.trod_int Tryz.underlying2 (h0.trans e0)
  obtain ⟨z1, k1, _, k1s⟩ := DataW.trod_string Tryz.underlying9 (h1.trans e1)
  obtain ⟨z2, k2, _, _⟩ := DataW.trod_int Tryz.underlying2 (h2.trans e2)
  obtain ⟨z3, k3, _, _⟩ := DataW.trod_int Tryz.underlying2 (h3.trans e3)
  obtain ⟨z4, k4, _⟩ := DataW.trod_bool Tryz.underlying4 (h4.trans e4)
  cases k0
  cases k1
  cases k2
  cases k3
  cases k4
  exact ⟨⟨z0, z1, z2, z3, z4⟩, rfl, k1s⟩
theorem cell_plain {a : Addr} {v : Value} (h : W.cell? a = some v) : a = ⟨a.block, a.off, none⟩ := by
 obtain ⟨b, o, s⟩ := a
 cases s with
 | none => rfl
 | some s =>
  exfalso
  revert h
  unfold World.cell?
  split <;> simp
theorem open_rows {α : Type} [Inhabited α] {en : α → List Value} {sz : Nat} {ok : α → Prop} (hen : Enc en sz) (hsz : 0 < sz) {t e : TypeId} (ht : Tryz.prog.underlying t = some (.slice e)) (hC : Tryz.prog.cellsOf e = sz)
  (hel : ∀ {n : Nat} {cs : List Value} {y : DataW H × List MemPlace}, DataW.trod enc Tryz.prog W base sp held n e cs = some y → ∃ x : α, cs = en x ∧ ok x)
  {fuel : Nat} {c0 : Value} {y : DataW H × List MemPlace} (h : DataW.trod enc Tryz.prog W base sp held fuel t [c0] = some y) :
  ∃ A c xs, c0 = .slice A xs.length c ∧ Rd en sz W A c xs ∧ ∀ x ∈ xs, ok x := by
 rcases open_slice ht h with ⟨h0, _⟩ | ⟨a, len, cap, m, n, D, Pl, h0, _, hl, hm, hmm, _, hx⟩
 ·cases h0
  exact ⟨none, 0, [], rfl, Rd.nil_ _ _ (by omega), fun x hx => by cases hx⟩
 ·cases h0
  have hlm : len ≤ m := by rw [hmm]; split <;> omega
  obtain ⟨f, hf⟩ := choose_lt (α := α) (n := len) (p := fun i x => W.cells? base (a.add (i * sz)) sz = some (en x) ∧ ok x) (fun i hi => by
   obtain ⟨cs', k1, k2⟩ := hx i (by omega)
   obtain ⟨x, rfl, hk⟩ := hel k2
   rw [hC] at k1
   exact ⟨x, k1, hk⟩)
  refine ⟨some a, cap, (List.range len).map f, by simp, ⟨by simpa using hl, by unfold maxLen at hm; omega, fun hn => ?_⟩, fun x hx => ?_⟩
  ·have hcell : ∀ i, i < len → ∀ j u, (en (f i))[j]? = some u → W.cell? (a.add (i * sz + j)) = some u := fun i hi j u hu => by
    obtain ⟨_, hlen, hat⟩ := World.cells?_some (hf i hi).1
    have hj : j < sz := by have := (List.getElem?_eq_some_iff.1 hu).1; rw [hen.len] at this; exact this
    have := hat j hj
    rw [hu, add_add] at this
    exact this
   have hlen0 : 0 < len := by simpa using hn
   have h1 : 0 < (en (f 0)).length := by rw [hen.len]; exact hsz
   have h2 := hcell 0 hlen0 0 _ (List.getElem?_eq_getElem h1)
   have h2' : W.cell? a = some (en (f 0))[0] := by simpa [Addr.add] using h2
   have ha := cell_plain h2'
   refine ⟨a.block, a.off, by rw [← ha], World.block_lt_of_cell? W a h2', fun i x hx j u hu => ?_⟩
   rw [List.getElem?_map] at hx
   obtain ⟨k, hk, rfl⟩ := Option.map_eq_some_iff.1 hx
   obtain ⟨hi, hk2⟩ := List.getElem?_eq_some_iff.1 hk
   rw [List.getElem_range] at hk2
   subst hk2
   rw [List.length_range] at hi
   have := hcell i hi j u hu
   rw [ha, Addr.add_lit] at this
   rw [← Nat.add_assoc] at this
   exact this
  ·obtain ⟨i, hi, rfl⟩ := List.mem_map.1 hx
   exact (hf i (List.mem_range.1 hi)).2
theorem open_season {b0 : Nat} {r : Reach} {v : Value} {d : DataW H} {p : List MemPlace} (hv : Value.okWide Tryz.prog W r b0 26 v) (h : DataW.Trod enc Tryz.prog W base sp held 26 v d p) :
  ∃ A c os A2 c2 ls, v = .agg #[.slice A os.length c, .slice A2 ls.length c2] ∧ Rd eO 3 W A c os ∧ Rd eL 5 W A2 c2 ls ∧ (∀ x ∈ os, x.mark.size ≤ maxLen) ∧ (∀ l ∈ ls, l.seen.size ≤ maxLen) := by
 obtain ⟨v0, v1, y0, y1, n, rfl, _, _, h0, h1⟩ := open_agg2 (show Tryz.prog.underlying 26 = some (.struct #[⟨"Owners", 23, 0, false, "", "", 0⟩, ⟨"Logs", 24, 1, false, "", "", 24⟩]) by kernel_rfl) (by kernel_rfl) (by kernel_rfl) hv h
 obtain ⟨A, c, os, rfl, r1, k1⟩ := open_rows (en := eO) (ok := fun x : Ow => x.mark.size ≤ maxLen) encO (by omega) Tryz.underlying23 (by kernel_rfl) (fun h => open_own h) h0
 obtain ⟨A2, c2, ls, rfl, r2, k2⟩ := open_rows (en := eL) (ok := fun x : Lg => x.seen.size ≤ maxLen) encL (by omega) Tryz.underlying24 (by kernel_rfl) (fun h => open_lg h) h1
 exact ⟨A, c, os, A2, c2, ls, rfl, r1, r2, k1, k2⟩
end
end Go.Proofs.YtcnpbcgkhhebaaaGreatDoor
/- Small whole numbers among the arguments. -/
namespace Go.Proofs.YtcnpbcgkhhebaaaGreatDoor
open Go.RowKit

theorem u8_bd {n : Int} (h : (Lit.int .u8 n).wf = true) : 0 ≤ n ∧ n ≤ 255 := by
 simp [Lit.wf, IntKind.min, IntKind.max, IntKind.signed, IntKind.bits] at h
 omega
theorem u16_bd {n : Int} (h : (Lit.int .u16 n).wf = true) : 0 ≤ n ∧ n ≤ 65535 := by
 simp [Lit.wf, IntKind.min, IntKind.max, IntKind.signed, IntKind.bits] at h
 omega
theorem i64_bd {n : Int} (h : (Lit.int .i64 n).wf = true) : -9223372036854775808 ≤ n ∧ n ≤ 9223372036854775807 := by
 simp [Lit.wf, IntKind.min, IntKind.max, IntKind.signed, IntKind.bits] at h
 omega
end Go.Proofs.YtcnpbcgkhhebaaaGreatDoor
/- Closed facts of the program's. -/
namespace Go.Proofs.YtcnpbcgkhhebaaaGreatDoor
open Go.ChangeShapes Go.WideShapes Go.ChangeAt Go.RowKit
set_option maxRecDepth 100000
theorem and_mk {a b : Bool} (ha : a = true) (hb : b = true) : (a && b) = true := by rw [ha, hb]; rfl
theorem sh_laidOut : laidOutB Tryz.prog = true := by kernel_rfl
theorem sh_mapsRowed : mapsRowed Tryz.prog = true := by kernel_rfl
theorem sh_stops : (Tryz.prog.stops == []) = true := by kernel_rfl
theorem sh_knobs : (Tryz.prog.stopKnobs == []) = true := by kernel_rfl
theorem sh_heard : Tryz.prog.stopsHeard = true := by kernel_rfl
theorem sh_enter : Tryz.prog.mayEnter = true := by kernel_rfl
theorem sh_main : Tryz.prog.mainIs = some (true, "bb3957611fb07b8f30c253038086df1c9e34512f5bd6bdaf1e554329739cb219".toList) := by kernel_rfl
theorem sh_looks : true = Tryz.prog.looks [] := by kernel_rfl
end Go.Proofs.YtcnpbcgkhhebaaaGreatDoor
namespace Go.Proofs.YtcnpbcgkhhebaaaGreatDoor
end Go.Proofs.YtcnpbcgkhhebaaaGreatDoor
