/- The statement FnExactStatesAfter of the given program: it answers true whatever its arguments, and its arguments read as they did; no condition. Part 7 of 7. -/
import Derived.Test.YtjamafchmeiifaaCFnExactStatesAfterx5
import Derived.Test.YtjamafchmeiifaaRows
import Derived.WalkKit
import Derived.ProofKit
import Derived.OpenShut
import Derived.ShutString
import Derived.ChangeOld
import Derived.Below
import Derived.SizedLaws
/- The laws' own helpers on pairs and records: sizes counted, values turned over, equality. -/
namespace Go.Proofs.Ytjamafchmeiifaa.V
open Go.RowKit Go.Proofs.Ytjamafchmeiifaa.F Go.Proofs.YtjamafchmeiifaaW.PrintWords Go.Proofs.YtjamafchmeiifaaW.PrintLast Go.Proofs.YtjamafchmeiifaaW.PrintMore
set_option linter.unusedVariables false
set_option linter.unusedSimpArgs false
def kP (x : S79) : Prop := x.f0.size ≤ maxLen ∧ x.f1.size ≤ maxLen
def kR (x : S120) : Prop := x.f0.size ≤ maxLen ∧ x.f3.size ≤ maxLen ∧ x.f4.size ≤ maxLen
theorem szPair_total (x : S79) (hx : kP x) (a : Int) (h0 : 0 ≤ a) (h1 : a ≤ 1048576) : ∃ r, laws_szPair.f x.f0 x.f1 a = some r ∧ (r = -1 ∨ (0 ≤ r ∧ r ≤ a)) := by
 have hm : maxLen = 9223372036854775807 := rfl
 obtain ⟨k1, k2⟩ := hx
 unfold laws_szPair.f
 rw [wid (x := a - (x.f0.size : Int)) (by omega) (by omega)]
 by_cases c1 : a - (x.f0.size : Int) < 0
 ·rw [if_pos c1]; exact ⟨-1, rfl, .inl rfl⟩
 ·rw [if_neg c1, wid (x := a - (x.f0.size : Int) - (x.f1.size : Int)) (by omega) (by omega)]
  by_cases c2 : a - (x.f0.size : Int) - (x.f1.size : Int) < 0
  ·rw [if_pos c2]; exact ⟨-1, rfl, .inl rfl⟩
  ·rw [if_neg c2]; exact ⟨_, rfl, .inr ⟨by omega, by omega⟩⟩
theorem szRecord_total (x : S120) (hx : kR x) (a : Int) (h0 : 0 ≤ a) (h1 : a ≤ 1048576) : ∃ r, laws_szRecord.f x.f0 x.f1 x.f2 x.f3 x.f4 a = some r ∧ (r = -1 ∨ (0 ≤ r ∧ r ≤ a)) := by
 have hm : maxLen = 9223372036854775807 := rfl
 obtain ⟨k1, k2, k3⟩ := hx
 unfold laws_szRecord.f
 rw [wid (x := a - (x.f0.size : Int)) (by omega) (by omega)]
 by_cases c1 : a - (x.f0.size : Int) < 0
 ·rw [if_pos c1]; exact ⟨-1, rfl, .inl rfl⟩
 ·rw [if_neg c1, wid (x := a - (x.f0.size : Int) - (x.f3.size : Int)) (by omega) (by omega)]
  by_cases c2 : a - (x.f0.size : Int) - (x.f3.size : Int) < 0
  ·rw [if_pos c2]; exact ⟨-1, rfl, .inl rfl⟩
  ·rw [if_neg c2, wid (x := a - (x.f0.size : Int) - (x.f3.size : Int) - (x.f4.size : Int)) (by omega) (by omega)]
   by_cases c3 : a - (x.f0.size : Int) - (x.f3.size : Int) - (x.f4.size : Int) < 0
   ·rw [if_pos c3]; exact ⟨-1, rfl, .inl rfl⟩
   ·rw [if_neg c3]; exact ⟨_, rfl, .inr ⟨by omega, by omega⟩⟩
theorem szPairS_loop (l : List S79) (hl : l.length ≤ maxLen) (hg : ∀ x ∈ l, kP x) : ∀ (d i : Nat) (a : Int), i + d = l.length → 0 ≤ a → a ≤ 1048576 → ∃ r, Ev (fun k => laws_szPairS.l0 k l a (i : Int)) r ∧ (r = -1 ∨ (0 ≤ r ∧ r ≤ a))
 | 0, i, a, hd, h0, h1 => ⟨a, Ev.step (f := fun _ => some a) (fun k => by simp only [laws_szPairS.l0]; rw [if_neg (by omega)]) (Ev.now a), .inr ⟨h0, Int.le_refl _⟩⟩
 | d + 1, i, a, hd, h0, h1 => by
  have hi : i < l.length := by omega
  have hrd : rd_T79 l (i : Int) = l.getD i z79 := by simp only [rd_T79, Int.toNat_natCast]
  obtain ⟨r1, e1, c1⟩ := szPair_total (l.getD i z79) (hg _ (getD_mem hi)) a h0 h1
  rcases c1 with rfl | ⟨c1, c2⟩
  ·refine ⟨-1, Ev.step (f := fun _ => some (-1)) (fun k => ?_) (Ev.now _), .inl rfl⟩
   simp only [laws_szPairS.l0]
   rw [if_pos (by omega), if_pos (by omega), hrd, e1, Option.bind_some, if_pos (by omega)]
  ·obtain ⟨r, hr, hc⟩ := szPairS_loop l hl hg d (i + 1) r1 (by omega) c1 (by omega)
   refine ⟨r, Ev.step (f := fun k => laws_szPairS.l0 k l r1 ((i + 1 : Nat) : Int)) (fun k => ?_) hr, ?_⟩
   ·simp only [laws_szPairS.l0]
    rw [if_pos (by omega), if_pos (by omega), hrd, e1, Option.bind_some, if_neg (by omega), wsucc hi hl]
   ·rcases hc with h | ⟨h, h'⟩
    ·exact .inl h
    ·exact .inr ⟨h, by omega⟩
theorem szPairS_total (l : List S79) (hl : l.length ≤ maxLen) (hg : ∀ x ∈ l, kP x) (a : Int) (h0 : 0 ≤ a) (h1 : a ≤ 1048576) : ∃ r, Ev (fun k => laws_szPairS.f k l a) r ∧ (r = -1 ∨ (0 ≤ r ∧ r + l.length ≤ a)) := by
 have hm : maxLen = 9223372036854775807 := rfl
 unfold laws_szPairS.f
 rw [wid (x := a - (l.length : Int)) (by omega) (by omega)]
 by_cases c : a - (l.length : Int) < 0
 ·exact ⟨-1, Ev.ite_pos c (Ev.now _), .inl rfl⟩
 ·obtain ⟨r, hr, hc⟩ := szPairS_loop l hl hg l.length 0 (a - l.length) (by omega) (by omega) (by omega)
  refine ⟨r, Ev.ite_neg c hr, ?_⟩
  rcases hc with h | ⟨h, h'⟩
  ·exact .inl h
  ·exact .inr ⟨h, by omega⟩
theorem szRecordS_loop (l : List S120) (hl : l.length ≤ maxLen) (hg : ∀ x ∈ l, kR x) : ∀ (d i : Nat) (a : Int), i + d = l.length → 0 ≤ a → a ≤ 1048576 → ∃ r, Ev (fun k => laws_szRecordS.l0 k l a (i : Int)) r ∧ (r = -1 ∨ (0 ≤ r ∧ r ≤ a))
 | 0, i, a, hd, h0, h1 => ⟨a, Ev.step (f := fun _ => some a) (fun k => by simp only [laws_szRecordS.l0]; rw [if_neg (by omega)]) (Ev.now a), .inr ⟨h0, Int.le_refl _⟩⟩
 | d + 1, i, a, hd, h0, h1 => by
  have hi : i < l.length := by omega
  have hrd : rd_T120 l (i : Int) = l.getD i z120 := by simp only [rd_T120, Int.toNat_natCast]
  obtain ⟨r1, e1, c1⟩ := szRecord_total (l.getD i z120) (hg _ (getD_mem hi)) a h0 h1
  rcases c1 with rfl | ⟨c1, c2⟩
  ·refine ⟨-1, Ev.step (f := fun _ => some (-1)) (fun k => ?_) (Ev.now _), .inl rfl⟩
   simp only [laws_szRecordS.l0]
   rw [if_pos (by omega), if_pos (by omega), hrd, e1, Option.bind_some, if_pos (by omega)]
  ·obtain ⟨r, hr, hc⟩ := szRecordS_loop l hl hg d (i + 1) r1 (by omega) c1 (by omega)
   refine ⟨r, Ev.step (f := fun k => laws_szRecordS.l0 k l r1 ((i + 1 : Nat) : Int)) (fun k => ?_) hr, ?_⟩
   ·simp only [laws_szRecordS.l0]
    rw [if_pos (by omega), if_pos (by omega), hrd, e1, Option.bind_some, if_neg (by omega), wsucc hi hl]
   ·rcases hc with h | ⟨h, h'⟩
    ·exact .inl h
    ·exact .inr ⟨h, by omega⟩
theorem szRecordS_total (l : List S120) (hl : l.length ≤ maxLen) (hg : ∀ x ∈ l, kR x) (a : Int) (h0 : 0 ≤ a) (h1 : a ≤ 1048576) : ∃ r, Ev (fun k => laws_szRecordS.f k l a) r ∧ (r = -1 ∨ (0 ≤ r ∧ r + l.length ≤ a)) := by
 have hm : maxLen = 9223372036854775807 := rfl
 unfold laws_szRecordS.f
 rw [wid (x := a - (l.length : Int)) (by omega) (by omega)]
 by_cases c : a - (l.length : Int) < 0
 ·exact ⟨-1, Ev.ite_pos c (Ev.now _), .inl rfl⟩
 ·obtain ⟨r, hr, hc⟩ := szRecordS_loop l hl hg l.length 0 (a - l.length) (by omega) (by omega) (by omega)
  refine ⟨r, Ev.ite_neg c hr, ?_⟩
  rcases hc with h | ⟨h, h'⟩
  ·exact .inl h
  ·exact .inr ⟨h, by omega⟩
def sumLen {α : Type} (l : List (List α)) : Nat := (l.map List.length).sum
theorem sumLen_cons {α : Type} (x : List α) (l : List (List α)) : sumLen (x :: l) = x.length + sumLen l := by simp [sumLen]
theorem szRecordSS_loop (l : List (List S120)) (hl : l.length ≤ maxLen) (hg : ∀ x ∈ l, x.length ≤ maxLen ∧ ∀ y ∈ x, kR y) : ∀ (d i : Nat) (a : Int), i + d = l.length → 0 ≤ a → a ≤ 1048576 → ∃ r, Ev (fun k => laws_szRecordSS.l0 k l a (i : Int)) r ∧ (r = -1 ∨ (0 ≤ r ∧ r + sumLen (l.drop i) ≤ a))
 | 0, i, a, hd, h0, h1 => ⟨a, Ev.step (f := fun _ => some a) (fun k => by simp only [laws_szRecordSS.l0]; rw [if_neg (by omega)]) (Ev.now a), .inr ⟨h0, by rw [List.drop_eq_nil_of_le (by omega)]; simp [sumLen]⟩⟩
 | d + 1, i, a, hd, h0, h1 => by
  have hi : i < l.length := by omega
  have hrd : rd_L4 l (i : Int) = l.getD i [] := by simp only [rd_L4, Int.toNat_natCast]
  obtain ⟨r1, e1, c1⟩ := szRecordS_total (l.getD i []) (hg _ (getD_mem hi)).1 (hg _ (getD_mem hi)).2 a h0 h1
  rcases c1 with rfl | ⟨c1, c2⟩
  ·refine ⟨-1, Ev.step (f := fun k => (laws_szRecordS.f k (l.getD i []) a).bind fun t => if t < 0 then some (-1) else laws_szRecordSS.l0 k l t (wrap64 ((i : Int) + 1))) (fun k => ?_) (Ev.bind e1 (Ev.ite_pos (by omega) (Ev.now _))), .inl rfl⟩
   simp only [laws_szRecordSS.l0]
   rw [if_pos (by omega), if_pos (by omega), hrd]
  ·obtain ⟨r, hr, hc⟩ := szRecordSS_loop l hl hg d (i + 1) r1 (by omega) c1 (by omega)
   refine ⟨r, Ev.step (f := fun k => (laws_szRecordS.f k (l.getD i []) a).bind fun t => if t < 0 then some (-1) else laws_szRecordSS.l0 k l t (wrap64 ((i : Int) + 1))) (fun k => ?_) (Ev.bind e1 (Ev.ite_neg (by omega) (by rw [wsucc hi hl]; exact hr))), ?_⟩
   ·simp only [laws_szRecordSS.l0]
    rw [if_pos (by omega), if_pos (by omega), hrd]
   ·rcases hc with h | ⟨h, h'⟩
    ·exact .inl h
    ·refine .inr ⟨h, ?_⟩
     rw [getD_drop (z := []) hi, sumLen_cons]
     omega
theorem szRecordSS_total (l : List (List S120)) (hl : l.length ≤ maxLen) (hg : ∀ x ∈ l, x.length ≤ maxLen ∧ ∀ y ∈ x, kR y) (a : Int) (h0 : 0 ≤ a) (h1 : a ≤ 1048576) : ∃ r, Ev (fun k => laws_szRecordSS.f k l a) r ∧ (r = -1 ∨ (0 ≤ r ∧ r + l.length + sumLen l ≤ a)) := by
 have hm : maxLen = 9223372036854775807 := rfl
 unfold laws_szRecordSS.f
 rw [wid (x := a - (l.length : Int)) (by omega) (by omega)]
 by_cases c : a - (l.length : Int) < 0
 ·exact ⟨-1, Ev.ite_pos c (Ev.now _), .inl rfl⟩
 ·obtain ⟨r, hr, hc⟩ := szRecordSS_loop l hl hg l.length 0 (a - l.length) (by omega) (by omega) (by omega)
  refine ⟨r, Ev.ite_neg c hr, ?_⟩
  rcases hc with h | ⟨h, h'⟩
  ·exact .inl h
  ·exact .inr ⟨h, by simp only [List.drop_zero] at h'; omega⟩
def cP (x : S79) : S47 := ⟨x.f0, x.f1⟩
def cR (x : S120) : S39 := ⟨x.f0, x.f1, x.f2, x.f3, x.f4⟩
theorem toPairS_loop (l : List S79) (hl : l.length ≤ 8796093022208) : ∀ (d i : Nat) (acc : List S47), i + d = l.length → acc.length = l.length → acc.take i = (l.take i).map cP → Ev (fun k => laws_toPairS.l0 k l acc (i : Int)) (l.map cP)
 | 0, i, acc, hd, h1, h2 => Ev.step (f := fun _ => some acc) (fun k => by simp only [laws_toPairS.l0]; rw [if_neg (by omega)]) (Ev.const (by
   rw [List.take_of_length_le (by omega), List.take_of_length_le (by omega)] at h2
   rw [h2]))
 | d + 1, i, acc, hd, h1, h2 => by
  have hi : i < l.length := by omega
  have hm : maxLen = 9223372036854775807 := rfl
  have hrd : rd_T79 l (i : Int) = l.getD i z79 := by simp only [rd_T79, Int.toNat_natCast]
  refine Ev.step (fun k => ?_) (toPairS_loop l hl d (i + 1) (acc.set i (cP (l.getD i z79))) (by omega) (by rw [List.length_set]; exact h1) (set_step hi h1 h2))
  simp only [laws_toPairS.l0, laws_toPair.f, Option.bind_some]
  rw [if_pos (by omega), if_pos (by omega), if_pos (by omega), hrd, wsucc hi (by omega), Int.toNat_natCast]
  rfl
theorem toPairS_is (l : List S79) (hl : l.length ≤ 1048576) : Ev (fun k => laws_toPairS.f k l) (l.map cP) := by
 unfold laws_toPairS.f
 refine Ev.ite_pos (by omega) (Ev.ite_pos (by simp only [Int.toNat_natCast]; omega) ?_)
 exact toPairS_loop l (by omega) l.length 0 _ (by omega) (by simp) (by simp)
theorem toRecordS_loop (l : List S120) (hl : l.length ≤ 8796093022208) : ∀ (d i : Nat) (acc : List S39), i + d = l.length → acc.length = l.length → acc.take i = (l.take i).map cR → Ev (fun k => laws_toRecordS.l0 k l acc (i : Int)) (l.map cR)
 | 0, i, acc, hd, h1, h2 => Ev.step (f := fun _ => some acc) (fun k => by simp only [laws_toRecordS.l0]; rw [if_neg (by omega)]) (Ev.const (by
   rw [List.take_of_length_le (by omega), List.take_of_length_le (by omega)] at h2
   rw [h2]))
 | d + 1, i, acc, hd, h1, h2 => by
  have hi : i < l.length := by omega
  have hm : maxLen = 9223372036854775807 := rfl
  have hrd : rd_T120 l (i : Int) = l.getD i z120 := by simp only [rd_T120, Int.toNat_natCast]
  refine Ev.step (fun k => ?_) (toRecordS_loop l hl d (i + 1) (acc.set i (cR (l.getD i z120))) (by omega) (by rw [List.length_set]; exact h1) (set_step hi h1 h2))
  simp only [laws_toRecordS.l0, laws_toRecord.f, Option.bind_some]
  rw [if_pos (by omega), if_pos (by omega), if_pos (by omega), hrd, wsucc hi (by omega), Int.toNat_natCast]
  rfl
theorem toRecordS_is (l : List S120) (hl : l.length ≤ 1048576) : Ev (fun k => laws_toRecordS.f k l) (l.map cR) := by
 unfold laws_toRecordS.f
 refine Ev.ite_pos (by omega) (Ev.ite_pos (by simp only [Int.toNat_natCast]; omega) ?_)
 exact toRecordS_loop l (by omega) l.length 0 _ (by omega) (by simp) (by simp)
theorem sumLen_mem {α : Type} {l : List (List α)} {x : List α} (h : x ∈ l) : x.length ≤ sumLen l := by
 induction l with
 | nil => cases h
 | cons y l ih =>
  rw [sumLen_cons]
  rcases List.mem_cons.1 h with rfl | h
  ·omega
  ·have := ih h; omega
theorem toRecordSS_loop (l : List (List S120)) (hl : l.length ≤ 8796093022208) (hx : ∀ x ∈ l, x.length ≤ 1048576) : ∀ (d i : Nat) (acc : List (List S39)), i + d = l.length → acc.length = l.length → acc.take i = (l.take i).map (List.map cR) → Ev (fun k => laws_toRecordSS.l0 k l acc (i : Int)) (l.map (List.map cR))
 | 0, i, acc, hd, h1, h2 => Ev.step (f := fun _ => some acc) (fun k => by simp only [laws_toRecordSS.l0]; rw [if_neg (by omega)]) (Ev.const (by
   rw [List.take_of_length_le (by omega), List.take_of_length_le (by omega)] at h2
   rw [h2]))
 | d + 1, i, acc, hd, h1, h2 => by
  have hi : i < l.length := by omega
  have hm : maxLen = 9223372036854775807 := rfl
  have hrd : rd_L4 l (i : Int) = l.getD i [] := by simp only [rd_L4, Int.toNat_natCast]
  refine Ev.step (fun k => ?_) (Ev.bind (f := fun k t => laws_toRecordSS.l0 k l (acc.set i t) ((i + 1 : Nat) : Int)) (toRecordS_is (l.getD i []) (hx _ (getD_mem hi))) (toRecordSS_loop l hl hx d (i + 1) (acc.set i (List.map cR (l.getD i []))) (by omega) (by rw [List.length_set]; exact h1) (set_step hi h1 h2)))
  simp only [laws_toRecordSS.l0]
  rw [if_pos (by omega), if_pos (by omega), hrd, wsucc hi (by omega)]
  simp only [Int.toNat_natCast, if_pos (show (i : Int) < (acc.length : Int) by omega)]
theorem toRecordSS_is (l : List (List S120)) (hl : l.length ≤ 1048576) (hx : ∀ x ∈ l, x.length ≤ 1048576) : Ev (fun k => laws_toRecordSS.f k l) (l.map (List.map cR)) := by
 unfold laws_toRecordSS.f
 refine Ev.ite_pos (by omega) (Ev.ite_pos (by simp only [Int.toNat_natCast]; omega) ?_)
 exact toRecordSS_loop l (by omega) hx l.length 0 _ (by omega) (by simp) (by simp)
theorem eqPairS_loop (l : List S47) (hl : l.length ≤ maxLen) : ∀ (d i : Nat), i + d = l.length → Ev (fun k => laws_eqPairS.l0 k l l (i : Int)) true
 | 0, i, hd => Ev.step (f := fun _ => some true) (fun k => by simp only [laws_eqPairS.l0]; rw [if_neg (by omega)]) (Ev.now _)
 | d + 1, i, hd => by
  have hi : i < l.length := by omega
  refine Ev.step (fun k => ?_) (eqPairS_loop l hl d (i + 1) (by omega))
  simp only [laws_eqPairS.l0, laws_eqPair.f]
  rw [if_pos (by omega), if_pos (by omega), if_pos (by omega), wsucc hi hl]
  simp only [if_true, Option.bind_some]
theorem eqPairS_refl (l : List S47) (hl : l.length ≤ maxLen) : Ev (fun k => laws_eqPairS.f k l l) true := by
 unfold laws_eqPairS.f
 exact Ev.ite_pos rfl (eqPairS_loop l hl l.length 0 (by omega))
theorem eqRecordS_loop (l : List S39) (hl : l.length ≤ maxLen) : ∀ (d i : Nat), i + d = l.length → Ev (fun k => laws_eqRecordS.l0 k l l (i : Int)) true
 | 0, i, hd => Ev.step (f := fun _ => some true) (fun k => by simp only [laws_eqRecordS.l0]; rw [if_neg (by omega)]) (Ev.now _)
 | d + 1, i, hd => by
  have hi : i < l.length := by omega
  refine Ev.step (fun k => ?_) (eqRecordS_loop l hl d (i + 1) (by omega))
  simp only [laws_eqRecordS.l0, laws_eqRecord.f]
  rw [if_pos (by omega), if_pos (by omega), if_pos (by omega), wsucc hi hl]
  simp only [if_true, Option.bind_some]
theorem eqRecordS_refl (l : List S39) (hl : l.length ≤ maxLen) : Ev (fun k => laws_eqRecordS.f k l l) true := by
 unfold laws_eqRecordS.f
 exact Ev.ite_pos rfl (eqRecordS_loop l hl l.length 0 (by omega))
theorem eqRecordSS_loop (l : List (List S39)) (hl : l.length ≤ maxLen) (hx : ∀ x ∈ l, x.length ≤ maxLen) : ∀ (d i : Nat), i + d = l.length → Ev (fun k => laws_eqRecordSS.l0 k l l (i : Int)) true
 | 0, i, hd => Ev.step (f := fun _ => some true) (fun k => by simp only [laws_eqRecordSS.l0]; rw [if_neg (by omega)]) (Ev.now _)
 | d + 1, i, hd => by
  have hi : i < l.length := by omega
  have hrd : rd_L7 l (i : Int) = l.getD i [] := by simp only [rd_L7, Int.toNat_natCast]
  refine Ev.step (fun k => ?_) (Ev.bind (f := fun k t => if t = true then laws_eqRecordSS.l0 k l l ((i + 1 : Nat) : Int) else some false) (eqRecordS_refl (l.getD i []) (hx _ (getD_mem hi))) (Ev.ite_pos rfl (eqRecordSS_loop l hl hx d (i + 1) (by omega))))
  simp only [laws_eqRecordSS.l0]
  rw [if_pos (by omega), if_pos (by omega), if_pos (by omega), wsucc hi hl, hrd]
theorem eqRecordSS_refl (l : List (List S39)) (hl : l.length ≤ maxLen) (hx : ∀ x ∈ l, x.length ≤ maxLen) : Ev (fun k => laws_eqRecordSS.f k l l) true := by
 unfold laws_eqRecordSS.f
 exact Ev.ite_pos rfl (eqRecordSS_loop l hl hx l.length 0 (by omega))
end Go.Proofs.Ytjamafchmeiifaa.V
/- The plain law on the states after batches, and on the last state that is the given one. -/
namespace Go.Proofs.Ytjamafchmeiifaa.V
open Go.RowKit Go.Proofs.Ytjamafchmeiifaa.F Go.Proofs.YtjamafchmeiifaaW.PrintWords Go.Proofs.YtjamafchmeiifaaW.PrintLast Go.Proofs.YtjamafchmeiifaaW.PrintMore Go.Proofs.YtjamafchmeiifaaX
set_option linter.unusedVariables false
set_option linter.unusedSimpArgs false
def foldB (st : List S47) : List S39 → Option (List S47)
 | [] => some st
 | r :: rs => if (applyP st r.f0 1 r.f2 r.f3 r.f4).2 = 0 then foldB (applyP st r.f0 1 r.f2 r.f3 r.f4).1 rs else none
def goS (acc : List (List S47)) (st : List S47) : List (List S39) → List (List S47)
 | [] => acc
 | b :: bs => match foldB st b with
  | none => []
  | some st' => goS (acc ++ [st']) st' bs
theorem applyP_len (l : List S47) (a0 : ByteArray) (a1 a2 : Int) (a3 a4 : ByteArray) : (applyP l a0 a1 a2 a3 a4).1.length ≤ l.length + 1 := by
 unfold applyP
 split
 ·exact appP_len l a0 a2 a3 a4
 ·simp
def thenS (acc : List (List S47)) (bs : List (List S39)) : Option (List S47) → List (List S47)
 | none => []
 | some st' => goS (acc ++ [st']) st' bs
theorem goS_cons (acc : List (List S47)) (st : List S47) (b : List S39) (bs : List (List S39)) : goS acc st (b :: bs) = thenS acc bs (foldB st b) := by
 show (match foldB st b with | none => [] | some st' => goS (acc ++ [st']) st' bs) = _
 cases foldB st b <;> rfl
theorem states_impl_in (ls : List (List S39)) (hls : ls.length ≤ maxLen) (i : Nat) (hi : i < ls.length) (bs : List S39) (hbs : bs.length ≤ maxLen) (acc : List (List S47)) (hacc : acc.length < 5864062014805)
  (next : ∀ st : List S47, st.length + sumLen (ls.drop (i + 1)) < 1099511627776 → Ev (fun k => impl_StatesAfter.l0 k st (acc ++ [st]) ls (ls.length : Int) ((i + 1 : Nat) : Int)) (goS (acc ++ [st]) st (ls.drop (i + 1)))) :
  ∀ (d j : Nat) (st : List S47), j + d = bs.length → st.length + d + sumLen (ls.drop (i + 1)) < 1099511627776 →
   Ev (fun k => impl_StatesAfter.l1 k st acc ls (ls.length : Int) (i : Int) bs (bs.length : Int) (j : Int)) (thenS acc (ls.drop (i + 1)) (foldB st (bs.drop j)))
 | 0, j, st, hd, hb => by
  rw [show bs.drop j = [] from List.drop_eq_nil_of_le (by omega)]
  refine Ev.step (fun k => ?_) (next st (by omega))
  simp only [impl_StatesAfter.l1]
  rw [if_neg (by omega)]
  unfold slices_Clone_Pair.f
  rw [if_pos (by omega), Option.bind_some, if_pos (by omega), wsucc hi hls]
 | d + 1, j, st, hd, hb => by
  have hj : j < bs.length := by omega
  have hrd : rd_T39 bs (j : Int) = bs.getD j z39 := by simp only [rd_T39, Int.toNat_natCast]
  rw [getD_drop (z := z39) hj]
  have ha := apply_impl st (by omega) (bs.getD j z39).f0 1 (bs.getD j z39).f2 (bs.getD j z39).f3 (bs.getD j z39).f4
  have hlen := applyP_len st (bs.getD j z39).f0 1 (bs.getD j z39).f2 (bs.getD j z39).f3 (bs.getD j z39).f4
  unfold foldB
  refine Ev.step (f := fun k => (impl_ApplyRecord.f k st (bs.getD j z39).f0 1 (bs.getD j z39).f2 (bs.getD j z39).f3 (bs.getD j z39).f4).bind fun bt => if bt.2 = 0 then impl_StatesAfter.l1 k bt.1 acc ls (ls.length : Int) (i : Int) bs (bs.length : Int) ((j + 1 : Nat) : Int) else some ([] : List (List S47))) (fun k => ?_) (Ev.bind ha ?_)
  ·simp only [impl_StatesAfter.l1]
   rw [if_pos (by omega), if_pos (by omega), if_pos (by omega), hrd, wsucc hj hbs]
  ·by_cases hc : (applyP st (bs.getD j z39).f0 1 (bs.getD j z39).f2 (bs.getD j z39).f3 (bs.getD j z39).f4).2 = 0
   ·rw [if_pos hc]
    exact Ev.ite_pos hc (states_impl_in ls hls i hi bs hbs acc hacc next d (j + 1) _ (by omega) (by omega))
   ·rw [if_neg hc]
    exact Ev.ite_neg hc (Ev.now _)
theorem states_impl (ls : List (List S39)) (hls : ls.length ≤ 1048576) (hx : ∀ x ∈ ls, x.length ≤ maxLen) : ∀ (d i : Nat) (acc : List (List S47)) (st : List S47), i + d = ls.length → acc.length + d < 5864062014805 → st.length + sumLen (ls.drop i) < 1099511627776 →
  Ev (fun k => impl_StatesAfter.l0 k st acc ls (ls.length : Int) (i : Int)) (goS acc st (ls.drop i))
 | 0, i, acc, st, hd, ha, hb => by
  rw [List.drop_eq_nil_of_le (by omega)]
  exact Ev.step (f := fun _ => some acc) (fun k => by simp only [impl_StatesAfter.l0]; rw [if_neg (by omega)]) (Ev.now _)
 | d + 1, i, acc, st, hd, ha, hb => by
  have hm : maxLen = 9223372036854775807 := rfl
  have hi : i < ls.length := by omega
  have hrd : rd_L7 ls (i : Int) = ls.getD i [] := by simp only [rd_L7, Int.toNat_natCast]
  rw [getD_drop (z := []) hi] at hb ⊢
  rw [sumLen_cons] at hb
  rw [goS_cons]
  have h1 := states_impl_in ls (by omega) i hi (ls.getD i []) (hx _ (getD_mem hi)) acc (by omega) (fun st' hb' => states_impl ls hls hx d (i + 1) (acc ++ [st']) st' (by omega) (by rw [List.length_append]; simp; omega) hb') (ls.getD i []).length 0 st (by omega) (by omega)
  rw [List.drop_zero] at h1
  refine Ev.step (fun k => ?_) h1
  simp only [impl_StatesAfter.l0]
  rw [if_pos (by omega), if_pos (by omega), if_pos (by omega), hrd]
  rfl
theorem states_impl_is (st : List S47) (ls : List (List S39)) (hls : ls.length ≤ 1048576) (hx : ∀ x ∈ ls, x.length ≤ maxLen) (hb : st.length + sumLen ls < 1099511627776) : Ev (fun k => impl_StatesAfter.f k st ls) (goS [st] st ls) := by
 unfold impl_StatesAfter.f slices_Clone_Pair.f
 rw [if_pos (by omega)]
 simp only [Option.bind_some]
 exact states_impl ls hls hx ls.length 0 [st] st (by omega) (by simp; omega) hb
theorem states_spec_in (ls : List (List S39)) (hls : ls.length ≤ maxLen) (i : Nat) (hi : i < ls.length) (bs : List S39) (hbe : bs = ls.getD i []) (hbs : bs.length ≤ maxLen) (acc : List (List S47)) (hacc : acc.length < 5864062014805)
  (next : ∀ st : List S47, st.length + sumLen (ls.drop (i + 1)) < 1099511627776 → Ev (fun k => spec_StatesAfter.l0 k ls (acc ++ [st]) st ((i + 1 : Nat) : Int)) (goS (acc ++ [st]) st (ls.drop (i + 1)))) :
  ∀ (d j : Nat) (st : List S47), j + d = bs.length → st.length + d + sumLen (ls.drop (i + 1)) < 1099511627776 →
   Ev (fun k => spec_StatesAfter.l1 k ls acc st (i : Int) (j : Int)) (thenS acc (ls.drop (i + 1)) (foldB st (bs.drop j)))
 | 0, j, st, hd, hb => by
  have hrd : rd_L7 ls (i : Int) = bs := by rw [hbe]; simp only [rd_L7, Int.toNat_natCast]
  rw [show bs.drop j = [] from List.drop_eq_nil_of_le (by omega)]
  refine Ev.step (fun k => ?_) (next st (by omega))
  simp only [spec_StatesAfter.l1]
  rw [if_pos (by omega), if_pos (by omega), hrd, if_neg (by omega), Option.bind_some, if_pos (by simp; omega), if_pos (by omega), wsucc hi hls, List.nil_append]
 | d + 1, j, st, hd, hb => by
  have hrl : rd_L7 ls (i : Int) = bs := by rw [hbe]; simp only [rd_L7, Int.toNat_natCast]
  have hj : j < bs.length := by omega
  have hrd : rd_T39 bs (j : Int) = bs.getD j z39 := by simp only [rd_T39, Int.toNat_natCast]
  rw [getD_drop (z := z39) hj]
  have ha := apply_spec st (by omega) (bs.getD j z39).f0 1 (bs.getD j z39).f2 (bs.getD j z39).f3 (bs.getD j z39).f4
  have hlen := applyP_len st (bs.getD j z39).f0 1 (bs.getD j z39).f2 (bs.getD j z39).f3 (bs.getD j z39).f4
  unfold foldB
  refine Ev.step (f := fun k => (spec_ApplyRecord.f k st (bs.getD j z39).f0 1 (bs.getD j z39).f2 (bs.getD j z39).f3 (bs.getD j z39).f4).bind fun bt => if bt.2 = 0 then spec_StatesAfter.l1 k ls acc bt.1 (i : Int) ((j + 1 : Nat) : Int) else some ([] : List (List S47))) (fun k => ?_) (Ev.bind ha ?_)
  ·simp only [spec_StatesAfter.l1]
   rw [if_pos (by omega), if_pos (by omega), hrl, if_pos (by omega), if_pos (by omega), hrd, wsucc hj hbs]
  ·by_cases hc : (applyP st (bs.getD j z39).f0 1 (bs.getD j z39).f2 (bs.getD j z39).f3 (bs.getD j z39).f4).2 = 0
   ·rw [if_pos hc]
    exact Ev.ite_pos hc (states_spec_in ls hls i hi bs hbe hbs acc hacc next d (j + 1) _ (by omega) (by omega))
   ·rw [if_neg hc]
    exact Ev.ite_neg hc (Ev.now _)
theorem states_spec (ls : List (List S39)) (hls : ls.length ≤ 1048576) (hx : ∀ x ∈ ls, x.length ≤ maxLen) : ∀ (d i : Nat) (acc : List (List S47)) (st : List S47), i + d = ls.length → acc.length + d < 5864062014805 → st.length + sumLen (ls.drop i) < 1099511627776 →
  Ev (fun k => spec_StatesAfter.l0 k ls acc st (i : Int)) (goS acc st (ls.drop i))
 | 0, i, acc, st, hd, ha, hb => by
  rw [List.drop_eq_nil_of_le (by omega)]
  exact Ev.step (f := fun _ => some acc) (fun k => by simp only [spec_StatesAfter.l0]; rw [if_neg (by omega)]) (Ev.now _)
 | d + 1, i, acc, st, hd, ha, hb => by
  have hm : maxLen = 9223372036854775807 := rfl
  have hi : i < ls.length := by omega
  rw [getD_drop (z := []) hi] at hb ⊢
  rw [sumLen_cons] at hb
  rw [goS_cons]
  have h1 := states_spec_in ls (by omega) i hi (ls.getD i []) rfl (hx _ (getD_mem hi)) acc (by omega) (fun st' hb' => states_spec ls hls hx d (i + 1) (acc ++ [st']) st' (by omega) (by rw [List.length_append]; simp; omega) hb') (ls.getD i []).length 0 st (by omega) (by omega)
  rw [List.drop_zero] at h1
  refine Ev.step (fun k => ?_) h1
  simp only [spec_StatesAfter.l0]
  rw [if_pos (by omega)]
  rfl
theorem states_spec_is (st : List S47) (ls : List (List S39)) (hls : ls.length ≤ 1048576) (hx : ∀ x ∈ ls, x.length ≤ maxLen) (hb : st.length + sumLen ls < 1099511627776) : Ev (fun k => spec_StatesAfter.f k st ls) (goS [st] st ls) := by
 unfold spec_StatesAfter.f
 simp only [Option.bind_some, List.nil_append, List.length_nil, Nat.zero_add, if_pos (show st.length < 4398046511104 by omega)]
 exact states_spec ls hls hx ls.length 0 [st] st (by omega) (by simp; omega) hb
theorem goS_len : ∀ (ls : List (List S39)) (acc : List (List S47)) (st : List S47), (goS acc st ls).length ≤ acc.length + ls.length
 | [], acc, st => by simp [goS]
 | b :: bs, acc, st => by
  rw [goS_cons]
  cases foldB st b with
  | none => simp [thenS]
  | some st' =>
   have := goS_len bs (acc ++ [st']) st'
   simp only [thenS, List.length_append, List.length_cons, List.length_nil] at this ⊢
   omega
theorem foldB_len : ∀ (b : List S39) (st st' : List S47), foldB st b = some st' → st'.length ≤ st.length + b.length
 | [], st, st', h => by cases h; simp
 | r :: rs, st, st', h => by
  unfold foldB at h
  split at h
  ·have := foldB_len rs _ _ h
   have := applyP_len st r.f0 1 r.f2 r.f3 r.f4
   simp only [List.length_cons]
   omega
  ·cases h
theorem goS_mem (B : Nat) : ∀ (ls : List (List S39)) (acc : List (List S47)) (st : List S47), st.length + sumLen ls ≤ B → (∀ x ∈ acc, x.length ≤ B) → ∀ x ∈ goS acc st ls, x.length ≤ B
 | [], acc, st, hb, ha => by simpa [goS] using ha
 | b :: bs, acc, st, hb, ha => by
  rw [goS_cons]
  rw [sumLen_cons] at hb
  cases hf : foldB st b with
  | none => simp [thenS]
  | some st' =>
   have hl := foldB_len b st st' hf
   refine goS_mem B bs (acc ++ [st']) st' (by omega) (fun x hx => ?_)
   rcases List.mem_append.1 hx with h | h
   ·exact ha x h
   ·rw [List.mem_singleton.1 h]; omega
end Go.Proofs.Ytjamafchmeiifaa.V
/- The laws' own helpers that mark pairs and records and look whether the marks are still there. -/
namespace Go.Proofs.Ytjamafchmeiifaa.V
open Go.RowKit Go.Proofs.Ytjamafchmeiifaa.F Go.Proofs.YtjamafchmeiifaaW.PrintWords Go.Proofs.YtjamafchmeiifaaW.PrintLast Go.Proofs.YtjamafchmeiifaaW.PrintMore
set_option linter.unusedVariables false
set_option linter.unusedSimpArgs false
theorem strOfNums_one (n : Int) : (strOfNums [n]).size = 1 := rfl
theorem markText_loop : ∀ (d x : Nat) (s : ByteArray), x < 10 ^ d → x ≤ 4611686018427387904 → s.size + d ≤ 1000 → ∃ t, Ev (fun k => laws_markText.l0 k (x : Int) s) t
 | 0, x, s, hx, hb, hs => by
  have h0 : x = 0 := by simpa using hx
  subst h0
  refine ⟨_, Ev.step (f := fun _ => some ((⟨#[109]⟩ : ByteArray) ++ s)) (fun k => ?_) (Ev.now _)⟩
  simp only [laws_markText.l0]
  rw [if_neg (by omega), if_pos (by omega)]
 | d + 1, x, s, hx, hb, hs => by
  by_cases h0 : x = 0
  ·subst h0
   refine ⟨_, Ev.step (f := fun _ => some ((⟨#[109]⟩ : ByteArray) ++ s)) (fun k => ?_) (Ev.now _)⟩
   simp only [laws_markText.l0]
   rw [if_neg (by omega), if_pos (by omega)]
  ·have hsz : ∀ n : Int, (strOfNums [n] ++ s).size = 1 + s.size := fun n => by rw [ByteArray.size_append, strOfNums_one]
   have hd : wrap64 (Int.tdiv (x : Int) 10) = ((x / 10 : Nat) : Int) := by
    rw [Int.tdiv_eq_ediv_of_nonneg (by omega)]
    exact wid (by omega) (by omega)
   obtain ⟨t, ht⟩ := markText_loop d (x / 10) (strOfNums [(wrap64 (48 + (Int.tmod (x : Int) 10))) % 256] ++ s) (by rw [Nat.pow_succ] at hx; omega) (by omega) (by rw [hsz]; omega)
   refine ⟨t, Ev.step (fun k => ?_) ht⟩
   simp only [laws_markText.l0]
   rw [if_pos (by omega), Option.bind_some, if_pos (by rw [strOfNums_one]; omega), hd]
theorem markText_some (x : Int) (h0 : 0 ≤ x) (h1 : x ≤ 4611686018427387904) : ∃ t, Ev (fun k => laws_markText.f k x) t := by
 unfold laws_markText.f
 by_cases h : x ≤ 0
 ·exact ⟨_, Ev.ite_pos h (Ev.now _)⟩
 ·obtain ⟨n, rfl⟩ := Int.eq_ofNat_of_zero_le h0
  obtain ⟨t, ht⟩ := markText_loop 19 n ⟨#[]⟩ (by omega) (by omega) (by decide)
  exact ⟨t, Ev.ite_neg h ht⟩
/-- The pairs bear the marks from k on. -/
def MkP : List S47 → Int → Prop
 | [], _ => True
 | x :: l, k => Ev (fun n => laws_markText.f n k) x.f0 ∧ Ev (fun n => laws_markText.f n (k + 1)) x.f1 ∧ MkP l (k + 2)
def MkPP : List (List S47) → Int → Prop
 | [], _ => True
 | x :: l, k => MkP x k ∧ MkPP l (k + 2 * (x.length : Int))
theorem w1 {k d : Int} (h0 : 0 ≤ k) (h : k + d ≤ 4611686018427387904) (hd : 1 ≤ d) : wrap64 (k + 1) = k + 1 := wid (by omega) (by omega)
theorem take_set_at {α : Type} (l : List α) (i : Nat) (x : α) : (l.set i x).take i = l.take i := by
 rw [List.take_set_of_le (Nat.le_refl i)]
theorem markPairS_loop : ∀ (d i : Nat) (acc : List S47) (x : Int), i + d = acc.length → acc.length ≤ maxLen → 0 ≤ x → x + 2 * (d : Int) ≤ 4611686018427387904 →
  ∃ acc', Ev (fun k => laws_markPairS.l0 k acc x (i : Int)) (x + 2 * (d : Int), acc') ∧ acc'.length = acc.length ∧ acc'.take i = acc.take i ∧ MkP (acc'.drop i) x
 | 0, i, acc, x, hd, hl, h0, hb => by
  refine ⟨acc, Ev.step (f := fun _ => some (x + 2 * ((0 : Nat) : Int), acc)) (fun k => ?_) (Ev.now _), rfl, rfl, ?_⟩
  ·simp only [laws_markPairS.l0]
   rw [if_neg (by omega)]
   simp
  ·rw [List.drop_eq_nil_of_le (by omega)]; trivial
 | d + 1, i, acc, x, hd, hl, h0, hb => by
  have hi : i < acc.length := by omega
  obtain ⟨t1, e1⟩ := markText_some x h0 (by omega)
  obtain ⟨t2, e2⟩ := markText_some (x + 1) (by omega) (by omega)
  obtain ⟨acc', hE, hl', ht, hm⟩ := markPairS_loop d (i + 1) (acc.set i ⟨t1, t2⟩) (x + 2) (by rw [List.length_set]; omega) (by rw [List.length_set]; exact hl) (by omega) (by omega)
  rw [List.length_set] at hl'
  have hget : acc'.drop i = (⟨t1, t2⟩ : S47) :: acc'.drop (i + 1) := by
   have h1 : i < acc'.length := by omega
   rw [List.drop_eq_getElem_cons h1]
   congr 1
   have := congrArg (fun l => l[i]?) ht
   simpa [List.getElem?_take, h1, hi] using this
  refine ⟨acc', ?_, hl', ?_, ?_⟩
  ·refine Ev.step (f := fun k => (laws_markText.f k x).bind fun t301 => (laws_markText.f k (x + 1)).bind fun t303 => laws_markPairS.l0 k ((acc.set i (⟨t301, (acc.getD i z47).f1⟩ : S47)).set i ⟨t301, t303⟩) (x + 2) ((i + 1 : Nat) : Int)) (fun k => ?_) (Ev.bind e1 (Ev.bind e2 ?_))
   ·simp only [laws_markPairS.l0]
    rw [if_pos (by omega)]
    congr 1
    funext t
    rw [if_pos (by omega), Option.bind_some, w1 h0 hb (by omega), show wrap64 (x + 1 + 1) = x + 2 from by rw [wid (by omega) (by omega)]; omega, wsucc hi hl]
    simp [rd_T47, hi, List.getD_eq_getElem?_getD]
   ·rw [List.set_set]
    rw [show x + 2 * ((d + 1 : Nat) : Int) = x + 2 + 2 * (d : Int) from by omega]
    exact hE
  ·have h2 := congrArg (List.take i) ht
   rw [List.take_take, List.take_take, Nat.min_eq_left (by omega), take_set_at] at h2
   exact h2
  ·rw [hget]
   exact ⟨e1, e2, hm⟩
theorem markPairS_is (l : List S47) (x : Int) (hl : l.length ≤ maxLen) (h0 : 0 ≤ x) (hb : x + 2 * (l.length : Int) ≤ 4611686018427387904) :
  ∃ l', Ev (fun k => laws_markPairS.f k l x) (x + 2 * (l.length : Int), l') ∧ l'.length = l.length ∧ MkP l' x := by
 obtain ⟨l', h1, h2, _, h3⟩ := markPairS_loop l.length 0 l x (by omega) hl h0 hb
 exact ⟨l', h1, h2, h3⟩
theorem heldPairS_loop (l : List S47) (hl : l.length ≤ maxLen) : ∀ (d i : Nat) (x : Int), i + d = l.length → 0 ≤ x → x + 2 * (d : Int) ≤ 4611686018427387904 → MkP (l.drop i) x → Ev (fun k => laws_heldPairS.l0 k l x (i : Int)) (x + 2 * (d : Int))
 | 0, i, x, hd, h0, hb, hm => by
  refine Ev.step (f := fun _ => some (x + 2 * ((0 : Nat) : Int))) (fun k => ?_) (Ev.now _)
  simp only [laws_heldPairS.l0]
  rw [if_neg (by omega)]
  simp
 | d + 1, i, x, hd, h0, hb, hm => by
  have hi : i < l.length := by omega
  rw [getD_drop (z := z47) hi] at hm
  obtain ⟨e1, e2, hm⟩ := hm
  have ih := heldPairS_loop l hl d (i + 1) (x + 2) (by omega) (by omega) (by omega) hm
  refine Ev.step (f := fun k => (laws_markText.f k x).bind fun t => if ((l.getD i z47).f0).toList = t.toList then ((laws_markText.f k (x + 1)).bind fun t' => if ((l.getD i z47).f1).toList = t'.toList then laws_heldPairS.l0 k l (x + 2) ((i + 1 : Nat) : Int) else some (-1)) else some (-1)) (fun k => ?_) (Ev.bind e1 (Ev.ite_pos rfl (Ev.bind e2 (Ev.ite_pos rfl ?_))))
  ·simp only [laws_heldPairS.l0]
   rw [if_pos (by omega), if_pos (by omega), w1 h0 hb (by omega), show wrap64 (x + 1 + 1) = x + 2 from by rw [wid (by omega) (by omega)]; omega, wsucc hi hl]
   simp only [rd_T47, Int.toNat_natCast]
   rfl
  ·rw [show x + 2 * ((d + 1 : Nat) : Int) = x + 2 + 2 * (d : Int) from by omega]
   exact ih
theorem heldPairS_is (l : List S47) (x : Int) (hl : l.length ≤ maxLen) (h0 : 0 ≤ x) (hb : x + 2 * (l.length : Int) ≤ 4611686018427387904) (hm : MkP l x) : Ev (fun k => laws_heldPairS.f k l x) (x + 2 * (l.length : Int)) :=
 heldPairS_loop l hl l.length 0 x (by omega) h0 hb hm
theorem markRecordS_loop : ∀ (d i : Nat) (acc : List S39) (x : Int), i + d = acc.length → acc.length ≤ maxLen → 0 ≤ x → x + 5 * (d : Int) ≤ 4611686018427387904 →
  ∃ acc', Ev (fun k => laws_markRecordS.l0 k acc x (i : Int)) (x + 5 * (d : Int), acc') ∧ acc'.length = acc.length
 | 0, i, acc, x, hd, hl, h0, hb => by
  refine ⟨acc, Ev.step (f := fun _ => some (x + 5 * ((0 : Nat) : Int), acc)) (fun k => ?_) (Ev.now _), rfl⟩
  simp only [laws_markRecordS.l0]
  rw [if_neg (by omega)]
  simp
 | d + 1, i, acc, x, hd, hl, h0, hb => by
  have hi : i < acc.length := by omega
  obtain ⟨t1, e1⟩ := markText_some x h0 (by omega)
  obtain ⟨t2, e2⟩ := markText_some (x + 3) (by omega) (by omega)
  obtain ⟨t3, e3⟩ := markText_some (x + 4) (by omega) (by omega)
  have hw1 : wrap64 (x + 1) = x + 1 := wid (by omega) (by omega)
  have hw2 : wrap64 (x + 1 + 1) = x + 2 := by rw [wid (by omega) (by omega)]; omega
  have hw3 : wrap64 (x + 2 + 1) = x + 3 := by rw [wid (by omega) (by omega)]; omega
  have hw4 : wrap64 (x + 3 + 1) = x + 4 := by rw [wid (by omega) (by omega)]; omega
  have hw5 : wrap64 (x + 4 + 1) = x + 5 := by rw [wid (by omega) (by omega)]; omega
  suffices hz : ∃ Z : List S39, Z.length = acc.length ∧ ∀ r, Ev (fun k => laws_markRecordS.l0 k Z (x + 5) ((i + 1 : Nat) : Int)) r → Ev (fun k => laws_markRecordS.l0 k acc x (i : Int)) r by
   obtain ⟨Z, hZ, hs⟩ := hz
   obtain ⟨acc', hE, hl'⟩ := markRecordS_loop d (i + 1) Z (x + 5) (by omega) (by omega) (by omega) (by omega)
   refine ⟨acc', ?_, by omega⟩
   rw [show x + 5 * ((d + 1 : Nat) : Int) = x + 5 + 5 * (d : Int) from by omega]
   exact hs _ hE
  apply Exists.intro
  refine ⟨?len, fun r hr => Ev.step (f := fun k => laws_markRecordS.l0 (k + 1) acc x (i : Int)) (fun _ => rfl) ?st⟩
  case st =>
   simp only [laws_markRecordS.l0, hw1, hw2, hw3, hw4, hw5, wsucc hi hl, Option.bind_some]
   exact Ev.ite_pos (by omega) (Ev.bind e1 (Ev.ite_pos (by omega) (Ev.bind e2 (Ev.bind e3 hr))))
  case len => simp only [List.length_set]
theorem markRecordS_is (l : List S39) (x : Int) (hl : l.length ≤ maxLen) (h0 : 0 ≤ x) (hb : x + 5 * (l.length : Int) ≤ 4611686018427387904) :
  ∃ l', Ev (fun k => laws_markRecordS.f k l x) (x + 5 * (l.length : Int), l') ∧ l'.length = l.length :=
 markRecordS_loop l.length 0 l x (by omega) hl h0 hb
theorem sumLen_drop {α : Type} (l : List (List α)) (i : Nat) (h : i < l.length) : sumLen (l.drop i) = (l.getD i []).length + sumLen (l.drop (i + 1)) := by
 rw [getD_drop (z := []) h, sumLen_cons]
theorem markRecordSS_loop (n : Nat) : ∀ (d i : Nat) (acc : List (List S39)) (x : Int), i + d = acc.length → acc.length ≤ maxLen → (∀ y ∈ acc, y.length ≤ maxLen) → 0 ≤ x → x + 5 * (sumLen (acc.drop i) : Int) ≤ 4611686018427387904 →
  ∃ acc', Ev (fun k => laws_markRecordSS.l0 k acc x (i : Int)) (x + 5 * (sumLen (acc.drop i) : Int), acc')
 | 0, i, acc, x, hd, hl, hg, h0, hb => by
  rw [List.drop_eq_nil_of_le (by omega)]
  refine ⟨acc, Ev.step (f := fun _ => some (x + 5 * ((sumLen ([] : List (List S39)) : Nat) : Int), acc)) (fun k => ?_) (Ev.now _)⟩
  simp only [laws_markRecordSS.l0]
  rw [if_neg (by omega)]
  simp [sumLen]
 | d + 1, i, acc, x, hd, hl, hg, h0, hb => by
  have hi : i < acc.length := by omega
  have hsl := sumLen_drop acc i hi
  obtain ⟨y', e1, l1⟩ := markRecordS_is (acc.getD i []) x (hg _ (getD_mem hi)) h0 (by omega)
  have hdr : (acc.set i y').drop (i + 1) = acc.drop (i + 1) := List.drop_set_of_lt (by omega)
  obtain ⟨acc', hE⟩ := markRecordSS_loop n d (i + 1) (acc.set i y') (x + 5 * ((acc.getD i []).length : Int)) (by rw [List.length_set]; omega) (by rw [List.length_set]; exact hl) (fun y hy => by
   rcases List.mem_or_eq_of_mem_set hy with h | h
   ·exact hg y h
   ·subst h; rw [l1]; exact hg _ (getD_mem hi)) (by omega) (by rw [hdr]; omega)
  rw [hdr] at hE
  refine ⟨acc', Ev.step (f := fun k => (laws_markRecordS.f k (acc.getD i []) x).bind fun b => laws_markRecordSS.l0 k (acc.set i b.2) b.1 ((i + 1 : Nat) : Int)) (fun k => ?_) (Ev.bind e1 ?_)⟩
  ·simp only [laws_markRecordSS.l0]
   rw [if_pos (by omega), if_pos (by omega), wsucc hi hl]
   simp only [Int.toNat_natCast]
  ·rw [hsl, show x + 5 * (((acc.getD i []).length + sumLen (acc.drop (i + 1)) : Nat) : Int) = x + 5 * ((acc.getD i []).length : Int) + 5 * (sumLen (acc.drop (i + 1)) : Int) from by omega]
   exact hE
theorem markRecordSS_is (l : List (List S39)) (x : Int) (hl : l.length ≤ maxLen) (hg : ∀ y ∈ l, y.length ≤ maxLen) (h0 : 0 ≤ x) (hb : x + 5 * (sumLen l : Int) ≤ 4611686018427387904) :
  ∃ l', Ev (fun k => laws_markRecordSS.f k l x) (x + 5 * (sumLen l : Int), l') :=
 markRecordSS_loop 0 l.length 0 l x (by omega) hl hg h0 hb
theorem markPairSS_loop : ∀ (d i : Nat) (acc : List (List S47)) (x : Int), i + d = acc.length → acc.length ≤ maxLen → (∀ y ∈ acc, y.length ≤ maxLen) → 0 ≤ x → x + 2 * (sumLen (acc.drop i) : Int) ≤ 4611686018427387904 →
  ∃ acc', Ev (fun k => laws_markPairSS.l0 k acc x (i : Int)) (x + 2 * (sumLen (acc.drop i) : Int), acc') ∧ acc'.take i = acc.take i ∧ acc'.map List.length = acc.map List.length ∧ MkPP (acc'.drop i) x
 | 0, i, acc, x, hd, hl, hg, h0, hb => by
  rw [List.drop_eq_nil_of_le (by omega)]
  refine ⟨acc, Ev.step (f := fun _ => some (x + 2 * ((sumLen ([] : List (List S47)) : Nat) : Int), acc)) (fun k => ?_) (Ev.now _), rfl, rfl, ?_⟩
  ·simp only [laws_markPairSS.l0]
   rw [if_neg (by omega)]
   simp [sumLen]
  ·rw [List.drop_eq_nil_of_le (by omega)]; trivial
 | d + 1, i, acc, x, hd, hl, hg, h0, hb => by
  have hi : i < acc.length := by omega
  have hsl := sumLen_drop acc i hi
  obtain ⟨y', e1, l1, m1⟩ := markPairS_is (acc.getD i []) x (hg _ (getD_mem hi)) h0 (by omega)
  have hdr : (acc.set i y').drop (i + 1) = acc.drop (i + 1) := List.drop_set_of_lt (by omega)
  obtain ⟨acc', hE, ht, hm, hk⟩ := markPairSS_loop d (i + 1) (acc.set i y') (x + 2 * ((acc.getD i []).length : Int)) (by rw [List.length_set]; omega) (by rw [List.length_set]; exact hl) (fun y hy => by
   rcases List.mem_or_eq_of_mem_set hy with h | h
   ·exact hg y h
   ·subst h; rw [l1]; exact hg _ (getD_mem hi)) (by omega) (by rw [hdr]; omega)
  rw [hdr] at hE
  have hlen : acc'.length = acc.length := by have := congrArg List.length hm; simpa using this
  have hget : acc'.drop i = y' :: acc'.drop (i + 1) := by
   have h1 : i < acc'.length := by omega
   rw [List.drop_eq_getElem_cons h1]
   congr 1
   have := congrArg (fun l => l[i]?) ht
   simpa [List.getElem?_take, h1, hi] using this
  refine ⟨acc', Ev.step (f := fun k => (laws_markPairS.f k (acc.getD i []) x).bind fun b => laws_markPairSS.l0 k (acc.set i b.2) b.1 ((i + 1 : Nat) : Int)) (fun k => ?_) (Ev.bind e1 ?_), ?_, ?_, ?_⟩
  ·simp only [laws_markPairSS.l0]
   rw [if_pos (by omega), if_pos (by omega), wsucc hi hl]
   simp only [Int.toNat_natCast]
  ·rw [hsl, show x + 2 * (((acc.getD i []).length + sumLen (acc.drop (i + 1)) : Nat) : Int) = x + 2 * ((acc.getD i []).length : Int) + 2 * (sumLen (acc.drop (i + 1)) : Int) from by omega]
   exact hE
  ·have h2 := congrArg (List.take i) ht
   rw [List.take_take, List.take_take, Nat.min_eq_left (by omega), take_set_at] at h2
   exact h2
  ·rw [hm, List.map_set, l1]
   apply List.ext_getElem
   ·simp
   ·intro j h1 h2
    rw [List.getElem_set]
    split
    ·subst_vars; simp [List.getD_eq_getElem?_getD, hi]
    ·rfl
  ·rw [hget]
   refine ⟨m1, ?_⟩
   rw [l1]
   exact hk
theorem markPairSS_is (l : List (List S47)) (x : Int) (hl : l.length ≤ maxLen) (hg : ∀ y ∈ l, y.length ≤ maxLen) (h0 : 0 ≤ x) (hb : x + 2 * (sumLen l : Int) ≤ 4611686018427387904) :
  ∃ l', Ev (fun k => laws_markPairSS.f k l x) (x + 2 * (sumLen l : Int), l') ∧ l'.map List.length = l.map List.length ∧ MkPP l' x := by
 obtain ⟨l', h1, _, h2, h3⟩ := markPairSS_loop l.length 0 l x (by omega) hl hg h0 hb
 exact ⟨l', h1, h2, h3⟩
theorem heldPairSS_loop (l : List (List S47)) (hl : l.length ≤ maxLen) (hg : ∀ y ∈ l, y.length ≤ maxLen) : ∀ (d i : Nat) (x : Int), i + d = l.length → 0 ≤ x → x + 2 * (sumLen (l.drop i) : Int) ≤ 4611686018427387904 → MkPP (l.drop i) x → Ev (fun k => laws_heldPairSS.l0 k l x (i : Int)) (x + 2 * (sumLen (l.drop i) : Int))
 | 0, i, x, hd, h0, hb, hm => by
  rw [List.drop_eq_nil_of_le (by omega)]
  refine Ev.step (f := fun _ => some (x + 2 * ((sumLen ([] : List (List S47)) : Nat) : Int))) (fun k => ?_) (Ev.now _)
  simp only [laws_heldPairSS.l0]
  rw [if_neg (by omega)]
  simp [sumLen]
 | d + 1, i, x, hd, h0, hb, hm => by
  have hi : i < l.length := by omega
  have hsl := sumLen_drop l i hi
  rw [getD_drop (z := []) hi] at hm
  obtain ⟨m1, hm⟩ := hm
  have e1 := heldPairS_is (l.getD i []) x (hg _ (getD_mem hi)) h0 (by omega) m1
  have ih := heldPairSS_loop l hl hg d (i + 1) (x + 2 * ((l.getD i []).length : Int)) (by omega) (by omega) (by omega) hm
  rw [hsl, show x + 2 * (((l.getD i []).length + sumLen (l.drop (i + 1)) : Nat) : Int) = x + 2 * ((l.getD i []).length : Int) + 2 * (sumLen (l.drop (i + 1)) : Int) from by omega]
  refine Ev.step (f := fun k => (laws_heldPairS.f k (l.getD i []) x).bind fun t => if t < 0 then some (-1) else laws_heldPairSS.l0 k l t ((i + 1 : Nat) : Int)) (fun k => ?_) (Ev.bind e1 (Ev.ite_neg (by omega) ih))
  simp only [laws_heldPairSS.l0]
  rw [if_pos (by omega), if_pos (by omega), wsucc hi hl]
  rfl
theorem heldPairSS_is (l : List (List S47)) (x : Int) (hl : l.length ≤ maxLen) (hg : ∀ y ∈ l, y.length ≤ maxLen) (h0 : 0 ≤ x) (hb : x + 2 * (sumLen l : Int) ≤ 4611686018427387904) (hm : MkPP l x) : Ev (fun k => laws_heldPairSS.f k l x) (x + 2 * (sumLen l : Int)) :=
 heldPairSS_loop l hl hg l.length 0 x (by omega) h0 hb hm
end Go.Proofs.Ytjamafchmeiifaa.V
/- The statement FnExactStatesAfter in plain data: what the calls of the statement answer, whatever the arguments. -/
namespace Go.Proofs.Ytjamafchmeiifaa.PureFnExactStatesAfter
open Go.RowKit Go.Proofs.Ytjamafchmeiifaa.F Go.Proofs.Ytjamafchmeiifaa.V Go.Proofs.Ytjamafchmeiifaa.OFnExactStatesAfter Go.Proofs.YtjamafchmeiifaaW.PrintWords Go.Proofs.YtjamafchmeiifaaW.PrintLast Go.Proofs.YtjamafchmeiifaaW.PrintMore
set_option linter.unusedVariables false
set_option linter.unusedSimpArgs false
theorem sumLen_map {α β : Type} (f : α → β) (l : List (List α)) : sumLen (l.map (List.map f)) = sumLen l := by
 unfold sumLen
 rw [List.map_map]
 congr 1
 apply List.map_congr_left
 intro x _
 simp
theorem sumLen_le {α : Type} (B : Nat) : ∀ (l : List (List α)), (∀ x ∈ l, x.length ≤ B) → sumLen l ≤ l.length * B
 | [], _ => by simp [sumLen]
 | x :: l, h => by
  rw [sumLen_cons, List.length_cons, Nat.succ_mul]
  have := sumLen_le B l (fun y hy => h y (List.mem_cons_of_mem _ hy))
  have := h x (List.mem_cons_self ..)
  omega
theorem eqPairSS_loop (l : List (List S47)) (hl : l.length ≤ maxLen) (hx : ∀ x ∈ l, x.length ≤ maxLen) : ∀ (d i : Nat), i + d = l.length → Ev (fun k => laws_eqPairSS.l0 k l l (i : Int)) true
 | 0, i, hd => Ev.step (f := fun _ => some true) (fun k => by simp only [laws_eqPairSS.l0]; rw [if_neg (by omega)]) (Ev.now _)
 | d + 1, i, hd => by
  have hi : i < l.length := by omega
  refine Ev.step (f := fun k => (laws_eqPairS.f k (l.getD i []) (l.getD i [])).bind fun t => if t = true then laws_eqPairSS.l0 k l l ((i + 1 : Nat) : Int) else some false) (fun k => ?_) (Ev.bind (eqPairS_refl _ (hx _ (getD_mem hi))) (Ev.ite_pos rfl (eqPairSS_loop l hl hx d (i + 1) (by omega))))
  simp only [laws_eqPairSS.l0]
  rw [if_pos (by omega), if_pos (by omega), if_pos (by omega), wsucc hi hl]
  rfl
theorem eqPairSS_refl (l : List (List S47)) (hl : l.length ≤ maxLen) (hx : ∀ x ∈ l, x.length ≤ maxLen) : Ev (fun k => laws_eqPairSS.f k l l) true := by
 unfold laws_eqPairSS.f
 exact Ev.ite_pos rfl (eqPairSS_loop l hl hx l.length 0 (by omega))
theorem pure : ∀ (a0 : (List S79)) (a1 : (List (List S120))), Gs a0 a1 → (∃ (k1 : Nat), ∃ (z2 : Int), (laws_szPairS.f k1 a0 1048576 = some z2) ∧ (z2 < 0) ∧ True) ∨
  (∃ (k1 : Nat), ∃ (z2 : Int), (laws_szPairS.f k1 a0 1048576 = some z2) ∧ (0 ≤ z2) ∧ ∃ (k8 : Nat), ∃ (z9 : Int), (laws_szRecordSS.f k8 a1 z2 = some z9) ∧ (z9 < 0) ∧ True) ∨
  (∃ (k1 : Nat), ∃ (z2 : Int), (laws_szPairS.f k1 a0 1048576 = some z2) ∧ (0 ≤ z2) ∧ ∃ (k8 : Nat), ∃ (z9 : Int), (laws_szRecordSS.f k8 a1 z2 = some z9) ∧ (0 ≤ z9) ∧ ∃ (k15 : Nat), ∃ (z16 : List (S47)), (laws_toPairS.f k15 a0 = some z16) ∧ ∃ (k30 : Nat), ∃ (z31 : List (List (S39))), (laws_toRecordSS.f k30 a1 = some z31) ∧ ∃ (k45 : Nat), ∃ (z46 : List (List (S47))), (spec_StatesAfter.f k45 z16 z31 = some z46) ∧ ∃ (k62 : Nat), ∃ (z63 : List (S47)), (laws_toPairS.f k62 a0 = some z63) ∧ ∃ (k77 : Nat), ∃ (z78 : List (List (S39))), (laws_toRecordSS.f k77 a1 = some z78) ∧ ∃ (k92 : Nat), (impl_StatesAfter.f k92 z63 z78 = some z46) ∧ ∃ (k107 : Nat), (laws_eqPairSS.f k107 z46 z46 = some true) ∧ ∃ (k115 : Nat), ∃ (z116 : List (S47)), (laws_toPairS.f k115 a0 = some z116) ∧ ∃ (k130 : Nat), (laws_eqPairS.f k130 z63 z116 = some true) ∧ ∃ (k138 : Nat), ∃ (z139 : List (List (S39))), (laws_toRecordSS.f k138 a1 = some z139) ∧ ∃ (k153 : Nat), (laws_eqRecordSS.f k153 z78 z139 = some true) ∧ ∃ (k161 : Nat), ∃ (z162 : Int), ∃ (z163 : List (S47)), (laws_markPairS.f k161 z63 1 = some (z162, z163)) ∧ ∃ (k170 : Nat), ∃ (z171 : Int), ∃ (z172 : List (List S39)), (laws_markRecordSS.f k170 z78 z162 = some (z171, z172)) ∧ (0 ≤ z171) ∧ ∃ (k179 : Nat), (laws_eqPairSS.f k179 z46 z46 = some true) ∧ ∃ (k187 : Nat), ∃ (z188 : Int), ∃ (z189 : List (List S47)), (laws_markPairSS.f k187 z46 1 = some (z188, z189)) ∧ ∃ (k196 : Nat), (laws_heldPairSS.f k196 z189 1 = some z188) ∧ (0 ≤ z188) ∧ ∃ (k202 : Nat), ∃ (z203 : List (S47)), (laws_toPairS.f k202 a0 = some z203) ∧ ∃ (k217 : Nat), ∃ (z218 : List (List (S39))), (laws_toRecordSS.f k217 a1 = some z218) ∧ ∃ (k232 : Nat), (impl_StatesAfter.f k232 z203 z218 = some z46) ∧ ∃ (k247 : Nat), (laws_eqPairSS.f k247 z46 z46 = some true) ∧ ∃ (k255 : Nat), (laws_heldPairSS.f k255 z189 1 = some z188) ∧ True) := by
 rintro a0 a1 ⟨⟨h0, g0⟩, h1, g1⟩
 have hm : maxLen = 9223372036854775807 := rfl
 obtain ⟨r, hr, hc⟩ := szPairS_total a0 h0 (fun x hx => g0 x hx) 1048576 (by omega) (by omega)
 obtain ⟨ka, ea⟩ := Ev.rounds hr
 rcases hc with rfl | ⟨hr0, hr1⟩
 ·exact .inl ⟨ka, _, ea, by omega, trivial⟩
 obtain ⟨r2, hr2, hc2⟩ := szRecordSS_total a1 h1 (fun x hx => ⟨(g1 x hx).1, fun y hy => ⟨((g1 x hx).2 y hy).1, ((g1 x hx).2 y hy).2.2.2.1, ((g1 x hx).2 y hy).2.2.2.2⟩⟩) r hr0 (by omega)
 obtain ⟨kb, eb⟩ := Ev.rounds hr2
 rcases hc2 with rfl | ⟨hr20, hr21⟩
 ·exact .inr (.inl ⟨ka, _, ea, hr0, kb, _, eb, by omega, trivial⟩)
 have hx : ∀ x ∈ a1, x.length ≤ 1048576 := fun x h => by have := sumLen_mem h; omega
 have l1 : (a0.map cP).length ≤ 1048576 := by rw [List.length_map]; omega
 have l2 : (a1.map (List.map cR)).length ≤ 1048576 := by rw [List.length_map]; omega
 have l3 : sumLen (a1.map (List.map cR)) ≤ 1048576 := by rw [sumLen_map]; omega
 have hx' : ∀ x ∈ a1.map (List.map cR), x.length ≤ 1048576 := fun x h => by have := sumLen_mem h; omega
 have hx2 : ∀ x ∈ a1.map (List.map cR), x.length ≤ maxLen := fun x h => by have := hx' x h; omega
 obtain ⟨kt, et⟩ := Ev.rounds (toPairS_is a0 (by omega))
 obtain ⟨ku, eu⟩ := Ev.rounds (toRecordSS_is a1 (by omega) hx)
 obtain ⟨ks, es⟩ := Ev.rounds (states_spec_is (a0.map cP) (a1.map (List.map cR)) l2 hx2 (by omega))
 obtain ⟨ki, ei⟩ := Ev.rounds (states_impl_is (a0.map cP) (a1.map (List.map cR)) l2 hx2 (by omega))
 have hG1 := goS_len (a1.map (List.map cR)) [a0.map cP] (a0.map cP)
 have hG2 : ∀ x ∈ goS [a0.map cP] (a0.map cP) (a1.map (List.map cR)), x.length ≤ 2097152 := goS_mem 2097152 _ _ _ (by omega) (fun x hx => by
  rw [List.mem_singleton] at hx; subst hx; omega)
 have hG3 : ∀ x ∈ goS [a0.map cP] (a0.map cP) (a1.map (List.map cR)), x.length ≤ maxLen := fun x h => by have := hG2 x h; omega
 generalize goS [a0.map cP] (a0.map cP) (a1.map (List.map cR)) = G at es ei hG1 hG2 hG3
 have hG1' : G.length ≤ 1048577 := by simp only [List.length_cons, List.length_nil] at hG1; omega
 have hGs : sumLen G ≤ 2199025352704 := Nat.le_trans (sumLen_le 2097152 G hG2) (Nat.mul_le_mul_right _ hG1')
 obtain ⟨kq, eq⟩ := Ev.rounds (eqPairSS_refl G (by omega) hG3)
 obtain ⟨kp, ep⟩ := Ev.rounds (eqPairS_refl (a0.map cP) (by omega))
 obtain ⟨kr, er⟩ := Ev.rounds (eqRecordSS_refl (a1.map (List.map cR)) (by omega) hx2)
 obtain ⟨x0, m0, _, _⟩ := markPairS_is (a0.map cP) 1 (by omega) (by omega) (by omega)
 obtain ⟨km, em⟩ := Ev.rounds m0
 obtain ⟨x1, m1⟩ := markRecordSS_is (a1.map (List.map cR)) (1 + 2 * ((a0.map cP).length : Int)) (by omega) hx2 (by omega) (by omega)
 obtain ⟨kn, en⟩ := Ev.rounds m1
 obtain ⟨g, m2, hgl, hgm⟩ := markPairSS_is G 1 (by omega) hG3 (by omega) (by omega)
 obtain ⟨kg, eg⟩ := Ev.rounds m2
 have hgs : sumLen g = sumLen G := by unfold sumLen; rw [hgl]
 have hgn : g.length = G.length := by have := congrArg List.length hgl; simpa using this
 have hh := heldPairSS_is g 1 (by omega) (fun y hy => by
  have h1 : y.length ∈ g.map List.length := List.mem_map_of_mem hy
  rw [hgl, List.mem_map] at h1
  obtain ⟨z, hz, e⟩ := h1
  rw [← e]; exact hG3 z hz) (by omega) (by rw [hgs]; omega) hgm
 rw [hgs] at hh
 obtain ⟨kh, eh⟩ := Ev.rounds hh
 exact .inr (.inr ⟨ka, _, ea, hr0, kb, _, eb, hr20, kt, _, et, ku, _, eu, ks, _, es, kt, _, et, ku, _, eu, ki, ei, kq, eq, kt, _, et, kp, ep, ku, _, eu, kr, er, km, _, _, em, kn, _, _, en, by omega, kq, eq, kg, _, _, eg, kh, eh, by omega, kt, _, et, ku, _, eu, ki, ei, kq, eq, kh, eh, trivial⟩)
end Go.Proofs.Ytjamafchmeiifaa.PureFnExactStatesAfter
/- The statement FnExactStatesAfter of the given program: whatever the arguments, it answers true, and the arguments read as they did. -/
namespace Go.Proofs.Ytjamafchmeiifaa.fnExactStatesAfter
open Go.ChangeShapes Go.WideShapes Go.ChangeAt Go.RowKit Go.Proofs.Ytjamafchmeiifaa.F Go.Proofs.Ytjamafchmeiifaa.OFnExactStatesAfter Go.Proofs.YtjamafchmeiifaaW.PrintWords Go.Proofs.YtjamafchmeiifaaW.PrintLast Go.Proofs.YtjamafchmeiifaaW.PrintMore Go.Proofs.YtjamafchmeiifaaXR
open Go.ChangeMaps (open_string shut_string)
set_option linter.unusedVariables false
theorem own : ownKnob Try.prog.godebug = none := by kernel_rfl
theorem laidOut : laidOutB Try.prog = true := by kernel_rfl
theorem always (a0 : (List S79)) (a1 : (List (List S120))) (A0 : Option Addr) (c0 : Nat) (A1 : Option Addr) (c1 : Nat) (w : World) (HR0 : Aside0 (Kd.C k79 w A0 a0.length a0)) (HC0 : Aside0 (a0.length ≤ c0)) (HR1 : Aside0 (Kd.C (Kd.slice 120 k120) w A1 a1.length a1)) (HC1 : Aside0 (a1.length ≤ c1)) (hg : Gs a0 a1) :
  Calls Try.prog 5 #[.slice A0 a0.length c0, .slice A1 a1.length c1] w fun e w' => e = .returned (.bool true) ∧ Below w.heap.size w w' := by
 rcases PureFnExactStatesAfter.pure a0 a1 hg with ⟨k1, z2, H5, hneg, -⟩ | ⟨k1, z2, H5, gz2, k8, z9, H12, hneg, -⟩ | ⟨k1, z2, H5, gz2, k8, z9, H12, gz9, k15, z16, H19, k30, z31, H34, k45, z46, H51, k62, z63, H66, k77, z78, H81, k92, H96, k107, H112, k115, z116, H119, k130, H135, k138, z139, H142, k153, H158, k161, z162, z163, H165, k170, z171, z172, H174, gz171, k179, H184, k187, z188, z189, H191, k196, H199, gz188, k202, z203, H206, k217, z218, H221, k232, H236, k247, H252, k255, H258, -⟩
 ·exact xFnExactStatesAfter.early0 a0 a1 A0 c0 A1 c1 w HR0 HC0 HR1 HC1 k1 z2 ⟨H5⟩ hneg
 ·exact xFnExactStatesAfter.early1 a0 a1 A0 c0 A1 c1 w HR0 HC0 HR1 HC1 k1 z2 ⟨H5⟩ gz2 k8 z9 ⟨H12⟩ hneg
 ·exact xFnExactStatesAfter.main a0 a1 A0 c0 A1 c1 w HR0 HC0 HR1 HC1 k1 z2 ⟨H5⟩ gz2 k8 z9 ⟨H12⟩ gz9 k15 z16 ⟨H19⟩ k30 z31 ⟨H34⟩ k45 z46 ⟨H51⟩ k62 z63 ⟨H66⟩ k77 z78 ⟨H81⟩ k92 ⟨H96⟩ k107 ⟨H112⟩ k115 z116 ⟨H119⟩ k130 ⟨H135⟩ k138 z139 ⟨H142⟩ k153 ⟨H158⟩ k161 z162 z163 ⟨H165⟩ k170 z171 z172 ⟨H174⟩ gz171 k179 ⟨H184⟩ k187 z188 z189 ⟨H191⟩ k196 ⟨H199⟩ gz188 k202 z203 ⟨H206⟩ k217 z218 ⟨H221⟩ k232 ⟨H236⟩ k247 ⟨H252⟩ k255 ⟨H258⟩
set_option maxRecDepth 100000 in
theorem lifted (os : Os) (started : os.Started) (H : Type) (enc : TypeId × Value → H) :
  ReturnsInHanded {} Try.checked os 5 .any (Rows.fnExactStatesAfterSpec.pre6 enc Try.prog Try.f5 Rows.fnExactStatesAfterRow.domain false) (Rows.fnExactStatesAfterSpec.post enc Try.prog Try.f5 false true false false) := by
 refine returnsInHanded_of_change_sized (C := Try.checked) own started (by kernel_rfl) Try.func5
  (ChangeSpec.witness6 (enc := enc) (C := Try.checked) false ⟨#[], #[.slice none 0 0, .slice none 0 0], []⟩ 8 (by kernel_rfl) (by kernel_rfl) (by kernel_rfl) (by kernel_rfl)) ?_
 intro W base args ds gs before hval0 hW hcnd hsz0 _
 have hval : ∀ (j : Nat) t v, Try.f5.params[j]? = some t → args[j]? = some v → Value.okWide Try.prog W .any base t v := hval0
 have hW' := hW
 obtain ⟨p, q, hA0, hV, rfl, hfz, hnd⟩ := hW
 have hA : DataW.TrodAll enc Try.prog W 0 (fun _ => true) true Try.f5.params.toList args.toList ds p := hA0
 rw [Try.params5] at hA hval
 obtain ⟨v0, vs0, d0, ds0, p0, q0, hargs, rfl, rfl, h0, r0⟩ := trodAll_cons hA
 obtain ⟨v1, vs1, d1, ds1, p1, q1, rfl, rfl, rfl, h1, r1⟩ := trodAll_cons r0
 obtain ⟨rfl, rfl, rfl⟩ := trodAll_nil r1
 obtain rfl : args = #[v0, v1] := by cases args; simp_all
 obtain ⟨rfl, rfl⟩ := trodVars_none hV
 have k0 := h0
 have lt0 : ∀ x ∈ p0, x.block < W.heap.size := by obtain ⟨m, hm⟩ := k0; exact DataW.trod_lt m _ _ _ hm
 obtain ⟨A0, c0, a0, rfl, hc0, hr0, hg0⟩ := open_slice_arg Try.underlying22 (by kernel_rfl) (hval 0 22 v0 rfl rfl) op79 h0
 have k1 := h1
 have lt1 : ∀ x ∈ p1, x.block < W.heap.size := by obtain ⟨m, hm⟩ := k1; exact DataW.trod_lt m _ _ _ hm
 obtain ⟨A1, c1, a1, rfl, hc1, hr1, hg1⟩ := open_slice_arg Try.underlying23 (by kernel_rfl) (hval 1 23 v1 rfl rfl) (Opens.slice Try.underlying81 (by kernel_rfl) op120) h1
 refine (always a0 a1 _ _ _ _ W ⟨hr0⟩ ⟨hc0⟩ ⟨hr1⟩ ⟨hc1⟩ ⟨hg0, hg1⟩).mono fun e W' ⟨he, bel⟩ => ?_
 subst he
 exact ⟨_, rfl, _, _, _, [], _, [], hW', trodAll_mk1 (shut_bool Try.underlying4 _), (trodAll_cons_mk (Below.trod laidOut (by kernel_rfl) (of_decide_eq_true (by kernel_rfl)) k0 bel lt0) (trodAll_cons_mk (Below.trod laidOut (by kernel_rfl) (of_decide_eq_true (by kernel_rfl)) k1 bel lt1) trodAll_mk0)), rfl, bel.frame _, fun h => by cases h⟩
theorem over : Rows.fnExactStatesAfterRow.holds Try.pinned (OpenSpec.ofChange Rows.fnExactStatesAfterSpec) :=
 OpenClaim.holds_of_wide 5 Try.f5 rfl rfl rfl rfl rfl rfl rfl ⟨rfl, rfl, rfl, rfl, rfl⟩ rfl rfl rfl rfl rfl (by kernel_rfl) Try.func5 (by kernel_rfl)
  (of_decide_eq_true (by kernel_rfl)) (by unfold Func.isWrapper; first | (rw [if_pos (by decide +kernel)]; kernel_rfl) | (rw [if_neg (by decide +kernel)]; exact ⟨rfl, rfl⟩))
  (fun os started H enc _ => lifted os started H enc)
theorem proved : Rows.FnExactStatesAfterSaid := over
#print axioms proved
end Go.Proofs.Ytjamafchmeiifaa.fnExactStatesAfter
namespace Go.Proofs.Ytjamafchmeiifaa
/-- The row, under a short name, for the claim. -/
theorem fnExactStatesAfter_holds : Rows.FnExactStatesAfterSaid := fnExactStatesAfter.proved
end Go.Proofs.Ytjamafchmeiifaa
