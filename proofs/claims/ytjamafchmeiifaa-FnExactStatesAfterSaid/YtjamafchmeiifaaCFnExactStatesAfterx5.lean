/- The statement FnExactStatesAfter of the given program: it answers true whatever its arguments, and its arguments read as they did; no condition. Part 6 of 7. -/
import Derived.Test.YtjamafchmeiifaaCFnExactStatesAfterx4
import Derived.Laws.CopyOwn
import Derived.Deep.RegionLaw
import Derived.StillTailTactics
import Derived.Lib.Overlaps
import Derived.WalkKit
import Derived.ProofKit
import Derived.OpenShut
import Derived.ShutString
import Derived.ChangeOld
import Derived.Below
import Derived.DataReads
/- Words of this claim's own: copy into a row of one's own at elements of several cells; an append of zeros that must grow; overlaps of two blocks. -/
namespace Go.Proofs.YtjamafchmeiifaaXO
open Go.RowKit Go.Proofs.YtjamafchmeiifaaW.PrintWords Go.Proofs.YtjamafchmeiifaaW.PrintLast Go.Proofs.YtjamafchmeiifaaW.PrintMore
set_option linter.unusedVariables false
set_option linter.unusedSimpArgs false
theorem splice_get {α : Type} (L : List α) (off : Nat) (cs : List α) (h : off + cs.length ≤ L.length) (q : Nat) : (splice L off cs)[q]? = if q < off then L[q]? else if q < off + cs.length then cs[q - off]? else L[q]? := by
 have := seg_get L cs off h q
 rw [List.append_assoc] at this
 exact this
/-- An element put in by two copies, the hole first. -/
theorem ins_cells {α : Type} (L X Y : List α) (a b n : Nat) (hab : a + X.length = b) (hn : b + Y.length = n) (hL : n ≤ L.length) : (splice (splice L a X) b Y).take n = L.take a ++ X ++ Y := by
 apply List.ext_getElem?
 intro q
 have h1 : a + X.length ≤ L.length := by omega
 rw [List.getElem?_take, splice_get _ _ _ (by rw [length_splice L a X h1]; omega), splice_get L a X h1, List.append_assoc]
 have hl : (L.take a).length = a := by rw [List.length_take]; omega
 by_cases h2 : q < a
 ·rw [if_pos (by omega), if_pos (by omega), if_pos h2, List.getElem?_append_left (by omega), List.getElem?_take, if_pos h2]
 ·rw [List.getElem?_append_right (by omega), hl]
  by_cases h3 : q < b
  ·rw [if_pos (by omega), if_pos h3, if_neg h2, if_pos (by omega), List.getElem?_append_left (by omega)]
  ·rw [List.getElem?_append_right (by omega)]
   by_cases h4 : q < n
   ·rw [if_pos h4, if_neg h3, if_pos (by omega)]
    congr 1
    omega
   ·rw [if_neg h4, List.getElem?_eq_none (by omega)]
theorem ins_cells' {α : Type} (L X Y : List α) (a b n : Nat) (hab : a + X.length = b) (hn : b + Y.length = n) (hL : n ≤ L.length) : (splice (splice L b Y) a X).take n = L.take a ++ X ++ Y := by
 apply List.ext_getElem?
 intro q
 have h1 : b + Y.length ≤ L.length := by omega
 rw [List.getElem?_take, splice_get _ _ _ (by rw [length_splice L b Y h1]; omega), splice_get L b Y h1, List.append_assoc]
 have hl : (L.take a).length = a := by rw [List.length_take]; omega
 by_cases h2 : q < a
 ·rw [if_pos (by omega), if_pos h2, if_pos (by omega), List.getElem?_append_left (by omega), List.getElem?_take, if_pos h2]
 ·rw [List.getElem?_append_right (by omega), hl]
  by_cases h3 : q < b
  ·rw [if_pos (by omega), if_neg h2, if_pos (by omega), List.getElem?_append_left (by omega)]
  ·rw [List.getElem?_append_right (by omega)]
   by_cases h4 : q < n
   ·rw [if_pos h4, if_neg h2, if_neg (by omega), if_neg h3, if_pos (by omega)]
    congr 1
    omega
   ·rw [if_neg h4, List.getElem?_eq_none (by omega)]
section
variable {P : Program} {ops : Array Oper} {rest : List Oper} {o : Oper} {a : Act} {Q : Exit → Act → World → Prop} {w : World}
theorem run_copy_cells (dT sT ty elem : TypeId) (i : TypeInfo) (hu : P.underlying dT = some (.slice elem)) (hi : P.info? elem = some i) (g off dLen dCap : Nat) (ad : Addr) (sLen sCap : Nat) (cur : Array Value) (t : TypeId) (hg : w.heap[g]? = some (.cells cur t (0, 0)))
  (cs : List Value) (hn : cs.length = Nat.min sLen dLen * i.size) (hsrc : ∀ j v, cs[j]? = some v → w.cell? (ad.add j) = some v) (hfit : off + cs.length ≤ cur.size) (h1 : ∀ v ∈ cs, v.oneCell' = true) :
  (Builtin.copy_ #[dT, sT] ty #[.slice (some ⟨g, off, none⟩) dLen dCap, .slice (some ad) sLen sCap]).run P w = .ok (goInt (Nat.min sLen dLen)) (w.setRow g (splice cur.toList off cs).toArray) := by
 have hl := run_firstCells_some (P := P) w i.size (Nat.min sLen dLen) ad sLen sCap cs hn hsrc
 have hst := run_storeCells_at P g off t cs 0 cur w hg (by simpa using hfit) h1
 simp only [Nat.add_zero] at hst
 simp [Builtin.copy_, run_underlying hu, Builtin.lenOf, sizeOf, typeInfo, hi, hl, hst, splice]
theorem wp_copy (hgd : o.guard = none) (d s : Operand) (dT sT elem : TypeId) (i : TypeInfo) (ho : o.op = .call { callee := .builtin .copy, args := #[d, s], argTypes := #[dT, sT] })
  (hu : P.underlying dT = some (.slice elem)) (hi : P.info? elem = some i) {g off dLen dCap : Nat} {ad : Addr} {sLen sCap : Nat} (hd : a.eval d = .slice (some ⟨g, off, none⟩) dLen dCap) (hs : a.eval s = .slice (some ad) sLen sCap) (cur : Array Value) (t : TypeId) (hg : w.heap[g]? = some (.cells cur t (0, 0)))
  (cs : List Value) (hn : cs.length = Nat.min sLen dLen * i.size) (hsrc : ∀ j v, cs[j]? = some v → w.cell? (ad.add j) = some v) (hfit : off + cs.length ≤ cur.size) (h1 : ∀ v ∈ cs, v.oneCell' = true)
  (h : ∀ w1, w1 = w.setRow g (splice cur.toList off cs).toArray → wpList P ops Q rest (a.put o.dst (goInt (Nat.min sLen dLen))) w1) : wpList P ops Q (o :: rest) a w := by
 have hr := run_copy_cells (P := P) dT sT o.type elem i hu hi g off dLen dCap ad sLen sCap cur t hg cs hn hsrc hfit h1
 refine wpList_plain hgd fun K hK => ?_
 unfold Oper.wp execOp
 simp only [ho, resolve, invoke, builtin, Sem.run_bind, Sem.run_pure, Result.andThen_ok, List.map_toArray, List.map_cons, List.map_nil, hd, hs, hr]
 exact hK _ _ (h _ rfl)
theorem run_zeros_grow (t ti ty e : TypeId) (i : TypeInfo) (z : Value) {k : IntKind} (ht : P.underlying t = some (.slice e)) (hti : P.underlying ti = some (.int k)) (hi : P.info? e = some i) (hz : i.zero = some z) (hzs : z.cells.size = i.size) (hs0 : 0 < i.size)
  (b : Addr) (sLen sCap : Nat) (olds : List Value) (hlo : olds.length = sLen * i.size) (holds : ∀ j v, olds[j]? = some v → w.cell? (b.add j) = some v) (n : Nat) (x : Int) (hx : x = (n : Int)) (hn0 : 0 < n)
  (hg : sCap < sLen + n) (hl : (sLen + n) * i.bytes ≤ 140737488355328) (hm : sLen + n ≤ 140737488355328) :
  ∃ (cap : Nat) (cur : Array Value), (Builtin.append_ #[t, ti] ty #[.slice (some b) sLen sCap, .int k x]).run P w = .ok (.slice (some ⟨w.heap.size, 0, none⟩) (sLen + n) cap) (w.drew.alloc (.cells cur e)) ∧ cur.size = cap * i.size ∧ sLen + n ≤ cap ∧ cap ≤ maxLen ∧ cur.toList.take (sLen * i.size) = olds := by
 subst hx
 have hn : ¬ (sLen + n ≤ sCap) := by omega
 have h63' : ¬ (9223372036854775807 < ((sLen : Int) + (n : Int))) := by omega
 have hfit := growslice_fits hg hl
 have h48' : ¬ (281474976710656 < Builtin.nextslicecap (sLen + n) sCap * i.bytes) := by omega
 have hfo := run_firstCells_some (P := P) w.drew i.size sLen b sLen sCap olds hlo (by simpa using holds)
 have hw64 : IntKind.i64.wrap (n : Int) = (n : Int) := by rw [IntKind.wrap_i64]; omega
 have hneg : ¬ ((n : Int) < 0) := by omega
 have hns : ¬ (n * i.size = 0) := by
  have := Nat.mul_pos hn0 hs0
  omega
 have hnb : ¬ (281474976710656 < (n : Int) * (i.bytes : Int)) := by
  have h1 : n * i.bytes ≤ (sLen + n) * i.bytes := Nat.mul_le_mul_right _ (by omega)
  have h2 : ((n * i.bytes : Nat) : Int) ≤ 140737488355328 := by omega
  rw [Int.natCast_mul] at h2
  omega
 refine ⟨grownCap w (sLen + n) sCap e, olds.toArray ++ Builtin.zeroCells z.cells n ++ Builtin.zeroCells z.cells (grownCap w (sLen + n) sCap e - (sLen + n)), ?_, ?_, grownCap_ge _ _ _ _, grownCap_le_maxLen _ _ _ _ (by simp only [maxLen]; omega), ?_⟩
 ·have hmz : ¬ (n * i.size = 0) := hns
  have hsn : i.size ≠ 0 := by omega
  simp [Builtin.append_, run_underlying ht, run_underlying hti, sizeOf, typeInfo, zeroValue, hi, hz, asInt, asIntOf, hw64, hneg, hnb, hn, hmz, hsn, h63', h48', Question.forced, hfo, newRow, grownCap]
 ·have := grownCap_ge w (sLen + n) sCap e
  simp only [Array.size_append, List.size_toArray, size_zeroCells, hzs, hlo, ← Nat.add_mul]
  congr 1
  omega
 ·simp only [Array.toList_append, List.append_assoc]
  rw [List.take_append_of_le_length (by simpa using Nat.le_of_eq hlo.symm), List.take_of_length_le (by simpa using Nat.le_of_eq hlo)]
theorem wp_zeros_grow (hgd : o.guard = none) (s x : Operand) (t ti e : TypeId) (i : TypeInfo) (z : Value) {k : IntKind} (ho : o.op = .call { callee := .builtin .append, args := #[s, x], argTypes := #[t, ti] })
  (ht : P.underlying t = some (.slice e)) (hti : P.underlying ti = some (.int k)) (hi : P.info? e = some i) (hz : i.zero = some z) (hzs : z.cells.size = i.size) (hs0 : 0 < i.size)
  {b : Addr} {sLen sCap : Nat} {y : Int} (hs : a.eval s = .slice (some b) sLen sCap) (hx : a.eval x = .int k y) (olds : List Value) (hlo : olds.length = sLen * i.size) (holds : ∀ j v, olds[j]? = some v → w.cell? (b.add j) = some v) (n tot : Nat) (hy : y = (n : Int)) (hn0 : 0 < n) (htot : sLen + n = tot)
  (hg : sCap < sLen + n) (hl : (sLen + n) * i.bytes ≤ 140737488355328) (hm : sLen + n ≤ 140737488355328)
  (h : ∀ (cap : Nat) (cur : Array Value) (w1 : World), w1 = w.drew.alloc (.cells cur e) → cur.size = cap * i.size → tot ≤ cap → cap ≤ maxLen → cur.toList.take (sLen * i.size) = olds → wpList P ops Q rest (a.put o.dst (.slice (some ⟨w.heap.size, 0, none⟩) tot cap)) w1) :
  wpList P ops Q (o :: rest) a w := by
 subst htot
 obtain ⟨cap, cur, hr, h1, h2, h3, h4⟩ := run_zeros_grow (P := P) (w := w) t ti o.type e i z ht hti hi hz hzs hs0 b sLen sCap olds hlo holds n y hy hn0 hg hl hm
 refine wpList_plain hgd fun K hK => ?_
 unfold Oper.wp execOp
 simp only [ho, resolve, invoke, builtin, Sem.run_bind, Sem.run_pure, Result.andThen_ok, List.map_toArray, List.map_cons, List.map_nil, hs, hx, hr]
 exact hK _ _ (h cap cur _ rfl h1 h2 h3 h4)
end
end Go.Proofs.YtjamafchmeiifaaXO
/- slices.Insert at []Pair, one element into a row of the caller's own. -/
namespace Go.Proofs.Ytjamafchmeiifaa.F
open Go.RowKit Go.Proofs.YtjamafchmeiifaaW.PrintWords Go.Proofs.YtjamafchmeiifaaW.PrintLast Go.Proofs.YtjamafchmeiifaaW.PrintMore Go.Proofs.YtjamafchmeiifaaXO
set_option linter.unusedVariables false
set_option linter.unusedSimpArgs false
def InsPost (l : List S47) (i : Nat) (x : S47) (base : Nat) (row : Option Nat) (w : World) (e : Ending) (w' : World) : Prop := ∃ v' : Value, e = .returned v' ∧ Kd.R k47 47 w' base (fun _ => True) v' (l.take i ++ [x] ++ l.drop i) ∧ w.grownBy w' row
set_option maxHeartbeats 2000000 in
set_option maxRecDepth 100000 in
/-- At the end of the list. -/
theorem insert_end (v : Value) (l0 : List S47) (x : S47) (gx : Nat) (base : Nat) (w : World) (ho : Kd.R k47 47 w base (fun _ => True) v l0) (hb : base ≤ w.heap.size) (hl : l0.length < 4398046511103)
  (hx : w.heap[gx]? = some (.cells #[.string x.f0, .string x.f1] 47 (0, 0))) :
  Calls Try.prog 120 #[v, .int .i64 (l0.length : Int), .slice (some ⟨gx, 0, none⟩) 1 1] w (InsPost l0 l0.length x base v.ownBlock w) := by
 obtain ⟨row, hrow⟩ : ∃ row, row = v.ownBlock := ⟨_, rfl⟩
 rw [← hrow]
 obtain ⟨A0, c0, ev, hlc, hC⟩ := Kd.R_reads ho
 have HC := Aside0.mk hC
 have HO := Aside0.mk ho
 have HL := Aside0.mk hl
 have HLC := Aside0.mk hlc
 have HX := Aside0.mk hx
 have HB := Aside0.mk hb
 clear hC ho hl hlc hx hb
 subst ev
 have HROW := Aside0.mk hrow
 clear hrow
 have hlen := HL.out
 have HXC : Aside0 (Kd.C k47 w (some ⟨gx, 0, none⟩) 1 [x]) := ⟨flat_one_reads flatPair HX.out⟩
 have hneg : ((l0.length : Int) == (l0.length : Int)) = true := by simp
 go_enter Try.func120, Try.ntmps120
 go_wp2_with (((with_reducible refine gate_builtin (b := .append) (xs := #[.tmp 23, .tmp 24]) rfl ?_); at_builtin; refine Kd.R_append_rows k47 (w0 := w) base rfl (.tmp 23) (.tmp 24) 27 47 (.agg #[(.string ⟨#[]⟩), (.string ⟨#[]⟩)]) 32 rfl Try.underlying27 info47 rfl (by decide) (by omega) _ l0 [x] _ _ _ (fun _ => True) (fun _ => False) rfl rfl ?aO ?aR (fun _ _ h => h) (fun _ h => h.elim) (fun _ _ => trivial) ?aB ?aS ?aL ?_; (case aO => exact HO.out); (case aR => exact HXC.out); (case aB => exact Below.refl _ _); (case aS => exact HB.out); (case aL => (have := HL.out; omega)); intro v2 w2 ho2 hb2 hg2 hat2; have HO2 := Aside0.mk ho2; have HG2 : Aside0 (w.grownBy w2 row) := ⟨by rw [HROW.out]; exact hg2⟩; clear ho2 hb2 hg2 hat2))
 all_goals
  go_ret
  refine ⟨_, rfl, ?_, HG2.out⟩
  rw [List.take_length, List.drop_length, List.append_nil]
  exact HO2.out
theorem zPair_cells : ((.agg #[(.string ⟨#[]⟩), (.string ⟨#[]⟩)] : Value)).cells.size = 2 := rfl
theorem pair_split (l0 : List S47) (i : Nat) (hi : i ≤ l0.length) : (l0.flatMap encPair).take (i * 2) = (l0.take i).flatMap encPair ∧ (l0.flatMap encPair).drop (i * 2) = (l0.drop i).flatMap encPair := by
 have h : ((l0.take i).flatMap encPair).length = i * 2 := by
  have := flat_length flatPair (l0.take i)
  rw [List.length_take, Nat.min_eq_left hi] at this
  exact this
 have e : l0.flatMap encPair = (l0.take i).flatMap encPair ++ (l0.drop i).flatMap encPair := by rw [← List.flatMap_append, List.take_append_drop]
 rw [e]
 constructor
 ·rw [List.take_append_of_le_length (by omega), List.take_of_length_le (by omega)]
 ·rw [List.drop_append_of_le_length (by omega), List.drop_eq_nil_of_le (by omega), List.nil_append]
theorem pair_len (l : List S47) : (l.flatMap encPair).length = l.length * 2 := flat_length flatPair l
/-- A row's cells, told by the block. -/
theorem pair_row {w : World} {base g n cap : Nat} {l : List S47} (hb : base ≤ g) (h1 : n ≤ cap) (h2 : cap ≤ maxLen) {cur : Array Value} (hh : w.heap[g]? = some (.cells cur 47 (0, 0))) (h3 : cur.size = cap * 2) (hn : l.length = n) (h4 : cur.toList.take (n * 2) = l.flatMap encPair) : Kd.R k47 47 w base (fun _ => True) (.slice (some ⟨g, 0, none⟩) n cap) l := by
 subst hn
 exact flat_R flatPair (row_of_blk (sz := 2) hb h1 h2 hh h3 h4 (pair_len l)) (fun _ _ => trivial)
set_option maxHeartbeats 4000000 in
set_option maxRecDepth 100000 in
/-- Ahead of the end, the row full. -/
theorem insert_grow (g c0 : Nat) (l0 : List S47) (x : S47) (gx i : Nat) (base : Nat) (w : World) (ho : Kd.R k47 47 w base (fun _ => True) (.slice (some ⟨g, 0, none⟩) l0.length c0) l0) (hb : base ≤ w.heap.size) (hl : l0.length < 4398046511103)
  (hx : w.heap[gx]? = some (.cells #[.string x.f0, .string x.f1] 47 (0, 0))) (hi : i < l0.length) (hc : c0 = l0.length) :
  Calls Try.prog 120 #[.slice (some ⟨g, 0, none⟩) l0.length c0, .int .i64 (i : Int), .slice (some ⟨gx, 0, none⟩) 1 1] w (InsPost l0 i x base (some g) w) := by
 have hown := flat_own flatPair ho
 obtain ⟨hgb, _, hcm, cur0, hh0, hs0, ht0⟩ := row_blk hown
 obtain ⟨ti, hti, hz⟩ := Option.map_eq_some_iff.1 info47
 simp only [Prod.mk.injEq] at hz
 obtain ⟨hz0, hz1, hz2⟩ := hz
 have HO := Aside0.mk ho
 have HX := Aside0.mk hx
 have HB := Aside0.mk hb
 have HGB := Aside0.mk hgb
 have HH0 := Aside0.mk hh0
 have HT0 := Aside0.mk ht0
 have HS0 := Aside0.mk hs0
 have HTI := Aside0.mk hti
 have HZ0 := Aside0.mk hz0
 have HZ1 := Aside0.mk hz1
 have HZ2 := Aside0.mk hz2
 have HC := Aside0.mk hc
 have HGL : Aside0 (g < w.heap.size) := ⟨blk_lt hh0⟩
 have HXL : Aside0 (gx < w.heap.size) := ⟨blk_lt hx⟩
 have h1 : ((i : Int) == (l0.length : Int)) = false := by rw [beq_eq_false_iff_ne]; omega
 have h2 : ¬ (c0 = i) := by omega
 have h3 : (c0 : Int) < (l0.length : Int) + 1 := by omega
 have h4 : i ≤ c0 := by omega
 have h5 : i ≤ l0.length := by omega
 have HCW : Aside0 (∀ j u, (l0.flatMap encPair)[j]? = some u → w.cell? ((⟨g, 0, none⟩ : Addr).add j) = some u) := ⟨hown.cells rfl⟩
 have HOLD : Aside0 (∀ j u, ((l0.take i).flatMap encPair)[j]? = some u → w.cell? ((⟨g, 0, none⟩ : Addr).add j) = some u) := ⟨fun j u hu => HCW.out j u (by
  rw [← (pair_split l0 i h5).1, List.getElem?_take] at hu
  split at hu
  ·exact hu
  ·cases hu)⟩
 have HN1 : Aside0 ((encPair x).length = Nat.min 1 (l0.length + 1 - i) * ti.size) := ⟨by rw [hz1, show Nat.min 1 (l0.length + 1 - i) = 1 from Nat.min_eq_left (by omega)]; rfl⟩
 have HSRC : Aside0 (∀ (cur : Array Value) j u, (encPair x)[j]? = some u → (w.drew.alloc (.cells cur 47)).cell? ((⟨gx, 0, none⟩ : Addr).add j) = some u) := ⟨fun cur j u hu => by
  rw [add_plain]
  have e : (w.drew.alloc (.cells cur 47)).cell? ⟨gx, j, none⟩ = w.cell? ⟨gx, j, none⟩ := (below_alloc (w := w) (W := w.drew) (below_drew (Below.refl _ _)) _).cell (p := ⟨gx, j, none⟩) HXL.out
  rw [e, cell_of_row w gx j _ _ (0, 0) HX.out]
  simpa [encPair] using hu⟩
 clear ho hx hb hgb hh0 ht0 hs0 hti hz0 hz1 hz2 hc hown hcm
 go_enter Try.func120, Try.ntmps120
 go_wp2_with (first | ((with_reducible refine gate_builtin (b := .append) (xs := #[.tmp 34, .tmp 39]) rfl ?_); refine wp_zeros_grow rfl (.tmp 34) (.tmp 39) 27 3 47 ti (.agg #[(.string ⟨#[]⟩), (.string ⟨#[]⟩)]) rfl Try.underlying27 Try.underlying3 HTI.out HZ0.out ?zs ?s0 rfl rfl ((l0.take i).flatMap encPair) ?lo ?ho (l0.length + 1 - i) (l0.length + 1) ?hy ?hn ?htot ?hg ?hl ?hm ?_; (case zs => exact zPair_cells.trans HZ1.out.symm); (case s0 => rw [HZ1.out]; decide); (case lo => rw [HZ1.out, pair_len, List.length_take]; omega); (case ho => exact HOLD.out); (case hy => omega); (case hn => omega); (case htot => omega); (case hg => have := HC.out; omega); (case hl => rw [HZ2.out]; omega); (case hm => omega); intro cap cur w1 hw1 hcs hcap hcm hct; have HW1 := Aside0.mk hw1; have HCS := Aside0.mk hcs; have HCM := Aside0.mk hcm; have HCT := Aside0.mk hct; clear hw1 hcs hcm hct; have h6 : ¬ (cap = i) := (by omega); have h7 : ¬ (cap = i + 1) := (by omega); have h8 : i + 1 ≤ cap := (by omega)) | ((with_reducible refine gate_builtin (b := .copy) (xs := #[.tmp 43, .tmp 44]) rfl ?_); refine wp_copy rfl (.tmp 43) (.tmp 44) 27 27 47 ti rfl Try.underlying27 HTI.out rfl rfl cur 47 ?hg (encPair x) ?hn ?hs ?hf ?h1 ?_; (case hg => rw [HW1.out]; exact heap_alloc_new w.drew _); (case hn => exact HN1.out); (case hs => (rw [HW1.out]; exact HSRC.out cur)); (case hf => (rw [HCS.out, HZ1.out]; have : (i + 1) * 2 ≤ cap * 2 := Nat.mul_le_mul_right _ (by omega); simp [encPair]; omega)); (case h1 => exact flatPair.one x); intro w2 hw2; have HW2 := Aside0.mk hw2; clear hw2))
 have HH1 : Aside0 (w1.heap[w.heap.size]? = some (.cells cur 47 (0, 0))) := ⟨by rw [HW1.out]; exact heap_alloc_new w.drew _⟩
 have hsz : cur.size = cap * 2 := by rw [HCS.out, HZ1.out]
 have hct : cur.toList.take (i * 2) = (l0.take i).flatMap encPair := by
  have := HCT.out
  rw [HZ1.out] at this
  exact this
 have hcap2 : (l0.length + 1) * 2 ≤ cap * 2 := Nat.mul_le_mul_right _ (by omega)
 have hx2 : (encPair x).length = 2 := rfl
 have hy2 : ((l0.drop i).flatMap encPair).length = (l0.length - i) * 2 := by rw [pair_len, List.length_drop]
 have hl1 : (splice cur.toList (i * 2) (encPair x)).length = cap * 2 := by rw [length_splice _ _ _ (by rw [hx2, Array.length_toList]; omega), Array.length_toList, hsz]
 have HH2 : Aside0 (w2.drew.heap[w.heap.size]? = some (.cells (splice cur.toList (i * 2) (encPair x)).toArray 47 (0, 0))) := ⟨by rw [HW2.out]; exact setRow_heap w1 _ _ _ _ (0, 0) HH1.out⟩
 have HG2 : Aside0 (w.grownBy w2.drew none) := ⟨by
  rw [HW2.out, HW1.out]
  refine ⟨rfl, rfl, rfl, ?_, fun k hk _ => ?_⟩
  ·show w.heap.size ≤ ((w.drew.alloc (.cells cur 47)).setRow w.heap.size (splice cur.toList (i * 2) (encPair x)).toArray).heap.size
   rw [size_setRow]
   simp
  have h1' : ((w.drew.alloc (.cells cur 47)).setRow w.heap.size (splice cur.toList (i * 2) (encPair x)).toArray).heap[k]? = (w.drew.alloc (.cells cur 47)).heap[k]? := setRow_other _ _ _ _ (by omega)
  exact h1'.trans (heap_alloc_old w.drew _ hk)⟩
 have HSRC2 : Aside0 (∀ j u, ((l0.drop i).flatMap encPair)[j]? = some u → w2.drew.cell? ((⟨g, i * 2, none⟩ : Addr).add j) = some u) := ⟨fun j u hu => by
  rw [add_at]
  refine HG2.out.cell (a := ⟨g, i * 2 + j, none⟩) ?_ (by simp)
  rw [← add_plain]
  refine HCW.out _ _ ?_
  rw [← (pair_split l0 i h5).2, List.getElem?_drop] at hu
  exact hu⟩
 have HY2 : Aside0 (((l0.drop i).flatMap encPair).length = Nat.min (l0.length - i) (l0.length - i) * ti.size) := ⟨by rw [HZ1.out, hy2, show Nat.min (l0.length - i) (l0.length - i) = l0.length - i from Nat.min_self _]⟩
 have HFIT : Aside0 ((i + 1) * 2 + ((l0.drop i).flatMap encPair).length ≤ (splice cur.toList (i * 2) (encPair x)).toArray.size) := ⟨by rw [List.size_toArray, hl1, hy2]; omega⟩
 have HR : Aside0 (∀ w3, w3 = w2.drew.setRow w.heap.size (splice (splice cur.toList (i * 2) (encPair x)) ((i + 1) * 2) ((l0.drop i).flatMap encPair)).toArray → Kd.R k47 47 w3 base (fun _ => True) (.slice (some ⟨w.heap.size, 0, none⟩) (l0.length + 1) cap) (l0.take i ++ [x] ++ l0.drop i) ∧ w.grownBy w3 (some g)) := ⟨fun w3 hw3 => by
  have hl2 : (splice (splice cur.toList (i * 2) (encPair x)) ((i + 1) * 2) ((l0.drop i).flatMap encPair)).length = cap * 2 := by rw [length_splice _ _ _ (by rw [hl1, hy2]; omega), hl1]
  constructor
  ·rw [hw3]
   refine pair_row HB.out (by omega) HCM.out (setRow_heap w2.drew _ _ _ _ (0, 0) HH2.out) (by rw [List.size_toArray, hl2]) (by simp [List.length_take, List.length_drop]; omega) ?_
   show List.take ((l0.length + 1) * 2) (splice (splice cur.toList (i * 2) (encPair x)) ((i + 1) * 2) ((l0.drop i).flatMap encPair)) = _
   rw [ins_cells cur.toList (encPair x) ((l0.drop i).flatMap encPair) (i * 2) ((i + 1) * 2) ((l0.length + 1) * 2) (by rw [hx2]; omega) (by rw [hy2]; omega) (by have := hsz; simp only [Array.length_toList]; omega), hct]
   simp [List.flatMap_append]
  ·rw [hw3]
   refine ⟨HG2.out.os, HG2.out.tape, HG2.out.output, by rw [size_setRow]; exact HG2.out.size, fun k hk _ => ?_⟩
   rw [setRow_other _ _ _ _ (by omega)]
   exact HG2.out.block k hk (by simp)⟩
 clear hsz hct hcap2 hx2 hy2 hl1
 have n1 : IntKind.i64.wrap ((i : Int) + 1) = (i : Int) + 1 := by rw [IntKind.wrap_i64]; omega
 have n2 : (0 : Int) ≤ (i : Int) + 1 := by omega
 have n3 : ((i : Int) + 1).toNat = i + 1 := by omega
 have n4 : (i : Int) + 1 ≤ (cap : Int) := by omega
 have n5 : (i : Int) + 1 ≤ ((l0.length + 1 : Nat) : Int) := by omega
 have n6 : (i : Int) ≤ (c0 : Int) := by omega
 have n7 : (i : Int) ≤ (l0.length : Int) := by omega
 have n8 : (i : Int) + 1 ≤ (l0.length : Int) + 1 := by omega
 go_still_tail 8, (by kernel_rfl)
 change wpList _ _ _ _ _ w2.drew
 refine wp_copy rfl (.tmp 50) (.tmp 53) 27 27 47 ti rfl Try.underlying27 HTI.out rfl rfl (splice cur.toList (i * 2) (encPair x)).toArray 47 HH2.out ((l0.drop i).flatMap encPair) ?hn HSRC2.out HFIT.out (flat_one flatPair _) ?_
 case hn => exact HY2.out
 intro w3 hw3
 have HR3 := Aside0.mk (HR.out w3 hw3)
 clear hw3
 go_wp2
 go_ret
 exact ⟨_, rfl, HR3.out.1, HR3.out.2⟩
set_option maxHeartbeats 4000000 in
set_option maxRecDepth 100000 in
/-- Ahead of the end, there is room: in place. -/
theorem insert_room (g c0 : Nat) (l0 : List S47) (x : S47) (gx i : Nat) (base : Nat) (w : World) (ho : Kd.R k47 47 w base (fun _ => True) (.slice (some ⟨g, 0, none⟩) l0.length c0) l0) (hl : l0.length < 4398046511103)
  (hx : w.heap[gx]? = some (.cells #[.string x.f0, .string x.f1] 47 (0, 0))) (hgx : gx ≠ g) (hi : i < l0.length) (hc : l0.length + 1 ≤ c0) :
  Calls Try.prog 120 #[.slice (some ⟨g, 0, none⟩) l0.length c0, .int .i64 (i : Int), .slice (some ⟨gx, 0, none⟩) 1 1] w (InsPost l0 i x base (some g) w) := by
 have hown := flat_own flatPair ho
 obtain ⟨hgb, _, hcm, cur0, hh0, hs0, ht0⟩ := row_blk hown
 obtain ⟨ti, hti, hz⟩ := Option.map_eq_some_iff.1 info47
 simp only [Prod.mk.injEq] at hz
 obtain ⟨hz0, hz1, hz2⟩ := hz
 have HO := Aside0.mk ho
 have HX := Aside0.mk hx
 have HGB := Aside0.mk hgb
 have HH0 := Aside0.mk hh0
 have HT0 := Aside0.mk ht0
 have HS0 := Aside0.mk hs0
 have HTI := Aside0.mk hti
 have HZ1 := Aside0.mk hz1
 have HGX := Aside0.mk hgx
 have h1 : ((i : Int) == (l0.length : Int)) = false := by rw [beq_eq_false_iff_ne]; omega
 have h2 : ¬ (c0 = i) := by omega
 have h3 : ¬ (c0 : Int) < (l0.length : Int) + 1 := by omega
 have h4 : i ≤ c0 := by omega
 have h5 : i ≤ l0.length := by omega
 have h6 : ¬ (c0 = i + 1) := by omega
 have h7 : i + 1 ≤ c0 := by omega
 have h8 : l0.length + 1 ≤ c0 := by omega
 have hcs0 : cur0.size = c0 * 2 := hs0
 have hov : ∀ (lb cb off : Nat), (callFunc 152 #[.slice (some ⟨gx, 0, none⟩) 1 1, .slice (some ⟨g, off, none⟩) lb cb]).run Try.prog w = .ok (.value (.bool false)) w := fun lb cb off => by
  rw [run_callFunc_extern Try.func152 (by kernel_rfl) (by kernel_rfl) (by kernel_rfl) (e := Extern.SlicesOverlaps.overlaps #[27, 27] #[4]) (by kernel_rfl),
   Lib.run_overlaps_apart w 27 4 47 Try.underlying27 2 (fun w => by simp [Go.sizeOf, typeInfo, hti, hz1]) ⟨gx, 0, none⟩ ⟨g, off, none⟩ 1 1 lb cb hgx 47 47 2 cur0.size (by simp [World.shape?, hx]) (by simp [World.shape?, hh0]) (by omega) (by simp [World.frozen?, hx]) (by simp [World.frozen?, hx])]
  rfl
 have hcellg : ∀ j u, (l0.flatMap encPair)[j]? = some u → w.cell? ((⟨g, 0, none⟩ : Addr).add j) = some u := hown.cells rfl
 have hx2 : (encPair x).length = 2 := rfl
 have hy2 : ((l0.drop i).flatMap encPair).length = (l0.length - i) * 2 := by rw [pair_len, List.length_drop]
 have hcap2 : (l0.length + 1) * 2 ≤ c0 * 2 := Nat.mul_le_mul_right _ (by omega)
 have hct : cur0.toList.take (i * 2) = (l0.take i).flatMap encPair := by
  rw [← (pair_split l0 i h5).1, ← ht0, List.take_take]
  congr 1
  show i * 2 = min (i * 2) (l0.length * 2)
  omega
 have HY2 : Aside0 (((l0.drop i).flatMap encPair).length = Nat.min (l0.length + 1 - i) (l0.length - i) * ti.size) := ⟨by rw [hz1, hy2, show Nat.min (l0.length + 1 - i) (l0.length - i) = l0.length - i from Nat.min_eq_right (by omega)]⟩
 have HSRC : Aside0 (∀ j u, ((l0.drop i).flatMap encPair)[j]? = some u → w.drew.cell? ((⟨g, i * 2, none⟩ : Addr).add j) = some u) := ⟨fun j u hu => by
  rw [add_at]
  show w.cell? ⟨g, i * 2 + j, none⟩ = some u
  rw [← add_plain]
  refine hcellg _ _ ?_
  rw [← (pair_split l0 i h5).2, List.getElem?_drop] at hu
  exact hu⟩
 have HFIT : Aside0 ((i + 1) * 2 + ((l0.drop i).flatMap encPair).length ≤ cur0.size) := ⟨by rw [hcs0, hy2]; omega⟩
 have HHD : Aside0 (w.drew.heap[g]? = some (.cells cur0 47 (0, 0))) := ⟨hh0⟩
 have hcl : cur0.toList.length = c0 * 2 := by rw [Array.length_toList]; exact hcs0
 have hl1 : (splice cur0.toList ((i + 1) * 2) ((l0.drop i).flatMap encPair)).length = c0 * 2 := by rw [length_splice _ _ _ (by rw [hcl, hy2]; omega), hcl]
 have HH1 : Aside0 (∀ w1, w1 = w.drew.setRow g (splice cur0.toList ((i + 1) * 2) ((l0.drop i).flatMap encPair)).toArray → w1.heap[g]? = some (.cells (splice cur0.toList ((i + 1) * 2) ((l0.drop i).flatMap encPair)).toArray 47 (0, 0)) ∧ w.grownBy w1 (some g) ∧ ∀ j u, (encPair x)[j]? = some u → w1.cell? ((⟨gx, 0, none⟩ : Addr).add j) = some u) := ⟨fun w1 hw1 => by
  subst hw1
  refine ⟨setRow_heap w.drew g _ _ _ (0, 0) hh0, ?_, fun j u hu => ?_⟩
  ·exact ⟨rfl, rfl, rfl, by rw [size_setRow]; exact Nat.le_refl _, fun k _ hk => setRow_other w.drew g k _ (fun e => hk (by rw [e]))⟩
  ·rw [add_plain, cell_setRow_other _ _ _ _ hgx]
   show w.cell? ⟨gx, j, none⟩ = some u
   rw [cell_of_row w gx j _ _ (0, 0) hx]
   simpa [encPair] using hu⟩
 have HX2 : Aside0 ((encPair x).length = Nat.min 1 (l0.length + 1 - i) * ti.size) := ⟨by rw [hz1, show Nat.min 1 (l0.length + 1 - i) = 1 from Nat.min_eq_left (by omega)]; rfl⟩
 have HFIT2 : Aside0 (i * 2 + (encPair x).length ≤ (splice cur0.toList ((i + 1) * 2) ((l0.drop i).flatMap encPair)).toArray.size) := ⟨by rw [List.size_toArray, hl1, hx2]; omega⟩
 have HR : Aside0 (∀ w1 w2, w1 = w.drew.setRow g (splice cur0.toList ((i + 1) * 2) ((l0.drop i).flatMap encPair)).toArray → w2 = w1.setRow g (splice (splice cur0.toList ((i + 1) * 2) ((l0.drop i).flatMap encPair)).toArray.toList (i * 2) (encPair x)).toArray → Kd.R k47 47 w2 base (fun _ => True) (.slice (some ⟨g, 0, none⟩) (l0.length + 1) c0) (l0.take i ++ [x] ++ l0.drop i) ∧ w.grownBy w2 (some g)) := ⟨fun w1 w2 hw1 hw2 => by
  obtain ⟨hh1, hg1, _⟩ := HH1.out w1 hw1
  have hl2 : (splice (splice cur0.toList ((i + 1) * 2) ((l0.drop i).flatMap encPair)) (i * 2) (encPair x)).length = c0 * 2 := by rw [length_splice _ _ _ (by rw [hl1, hx2]; omega), hl1]
  subst hw2
  refine ⟨pair_row hgb h8 hcm (setRow_heap w1 g _ _ _ (0, 0) hh1) (by rw [List.size_toArray, hl2]) (by simp [List.length_take, List.length_drop]; omega) ?_, World.grownBy.trans hg1 grown_setRow⟩
  show List.take ((l0.length + 1) * 2) (splice (splice cur0.toList ((i + 1) * 2) ((l0.drop i).flatMap encPair)) (i * 2) (encPair x)) = _
  rw [ins_cells' cur0.toList (encPair x) ((l0.drop i).flatMap encPair) (i * 2) ((i + 1) * 2) ((l0.length + 1) * 2) (by rw [hx2]; omega) (by rw [hy2]; omega) (by rw [hcl]; omega), hct]
  simp [List.flatMap_append]⟩
 clear ho hx hgb hh0 ht0 hs0 hti hz0 hz1 hz2 hown hcm hgx hcs0 hcellg hx2 hy2 hcap2 hct hcl hl1
 go_enter Try.func120, Try.ntmps120
 go_wp2_with fail
 have n1 : IntKind.i64.wrap ((i : Int) + 1) = (i : Int) + 1 := by rw [IntKind.wrap_i64]; omega
 have n2 : (0 : Int) ≤ (i : Int) + 1 := by omega
 have n3 : ((i : Int) + 1).toNat = i + 1 := by omega
 have n4 : (i : Int) + 1 ≤ (c0 : Int) := by omega
 have n5 : (i : Int) + 1 ≤ ((l0.length + 1 : Nat) : Int) := by omega
 have n6 : (i : Int) ≤ (c0 : Int) := by omega
 have n7 : (i : Int) ≤ (l0.length : Int) := by omega
 have n8 : (i : Int) + 1 ≤ (l0.length : Int) + 1 := by omega
 have n9 : (i : Int) ≤ (l0.length : Int) + 1 := by omega
 have n10 : (i : Int) ≤ ((l0.length + 1 : Nat) : Int) := by omega
 go_still_tail 8, (by kernel_rfl)
 change wpList _ _ _ _ _ w.drew
 refine wp_copy rfl (.tmp 73) (.tmp 76) 27 27 47 ti rfl Try.underlying27 HTI.out rfl rfl cur0 47 HHD.out ((l0.drop i).flatMap encPair) ?hn HSRC.out HFIT.out (flat_one flatPair _) ?_
 case hn => exact HY2.out
 intro w1 hw1
 have HW1 := Aside0.mk hw1
 obtain ⟨hh1, _, hs1⟩ := HH1.out w1 hw1
 have HH1' := Aside0.mk hh1
 have HS1 := Aside0.mk hs1
 clear hw1 hh1 hs1
 go_wp2_with ((with_reducible refine gate_builtin (b := .copy) (xs := #[.tmp 80, .tmp 81]) rfl ?_); refine wp_copy rfl (.tmp 80) (.tmp 81) 27 27 47 ti rfl Try.underlying27 HTI.out rfl rfl _ 47 HH1'.out (encPair x) ?hn HS1.out HFIT2.out (flatPair.one x) ?_; (case hn => exact HX2.out); intro w2 hw2; have HR2 := Aside0.mk (HR.out w1 w2 HW1.out hw2); clear hw2)
 go_ret
 exact ⟨_, rfl, HR2.out.1, HR2.out.2⟩
/-- The three in one. -/
theorem insert_pair (v : Value) (l0 : List S47) (x : S47) (gx i : Nat) (base : Nat) (w : World) (ho : Kd.R k47 47 w base (fun _ => True) v l0) (hb : base ≤ w.heap.size) (hl : l0.length < 4398046511103)
  (hx : w.heap[gx]? = some (.cells #[.string x.f0, .string x.f1] 47 (0, 0))) (hgx : v.ownBlock ≠ some gx) (hi : i ≤ l0.length) :
  Calls Try.prog 120 #[v, .int .i64 (i : Int), .slice (some ⟨gx, 0, none⟩) 1 1] w (InsPost l0 i x base v.ownBlock w) := by
 rcases Nat.lt_or_ge i l0.length with h | h
 ·have hown := flat_own flatPair ho
  rcases hown.2 with ⟨hv, hc⟩ | ⟨g, cap, cur, hv, hb', hh, h1, h2, h3, h4⟩
  ·have h0 := pair_len l0
   rw [hc] at h0
   simp at h0
   omega
  ·subst hv
   have hgx' : gx ≠ g := fun e => hgx (by rw [e]; rfl)
   rcases Nat.lt_or_ge l0.length cap with hc | hc
   ·exact insert_room g cap l0 x gx i base w ho hl hx hgx' h hc
   ·exact insert_grow g cap l0 x gx i base w ho hb hl hx h (by omega)
 ·obtain rfl : i = l0.length := by omega
  exact insert_end v l0 x gx base w ho hb hl hx
/- impl.applied: a record applied to a list of pairs; a list whose keys are not strictly increasing is left out when something is put in. -/
def affB (a0 : ByteArray) (a2 : Int) (a4 : ByteArray) (y : ByteArray) : Bool := if a2 = 3 then (if Op.bytesLess y.toList a0.toList = true then false else Op.bytesLess y.toList a4.toList) else a0.toList == y.toList
theorem affB_spec (a0 : ByteArray) (a1 : Int) (a2 : Int) (a3 a4 y : ByteArray) : impl_Record_affects.f a0 a1 a2 a3 a4 y = some (affB a0 a2 a4 y) := by
 unfold impl_Record_affects.f affB
 repeat' split
 all_goals rfl
def lessK (key : ByteArray) (x : S47) : Bool := Op.bytesLess x.f0.toList key.toList
def lessP (x y : S47) : Prop := Op.bytesLess x.f0.toList y.f0.toList = true
instance : DecidableRel lessP := fun x y => inferInstanceAs (Decidable (_ = true))
def impl_applied.f (l : List S47) (a0 : ByteArray) (a1 a2 : Int) (a3 a4 : ByteArray) : Option (List S47) :=
 if l.length < 4398046511103 then
  if a2 = 1 then
   if l.Pairwise lessP then some ((l.filter (fun x => !affB a0 a2 a4 x.f0)).takeWhile (lessK a0) ++ [⟨a0, a3⟩] ++ (l.filter (fun x => !affB a0 a2 a4 x.f0)).dropWhile (lessK a0)) else none
  else some (l.filter (fun x => !affB a0 a2 a4 x.f0))
 else none
theorem take_while {p : S47 → Bool} : ∀ (l : List S47) (i : Nat), i ≤ l.length → (∀ a, a < i → p (l.getD a z47) = true) → (∀ a, i ≤ a → a < l.length → p (l.getD a z47) = false) → l.take i = l.takeWhile p ∧ l.drop i = l.dropWhile p
 | [], i, hi, _, _ => by simp
 | x :: l, 0, _, _, h2 => by
  have := h2 0 (Nat.le_refl _) (by simp)
  simp only [List.getD_cons_zero] at this
  simp [List.takeWhile_cons, List.dropWhile_cons, this]
 | x :: l, i + 1, hi, h1, h2 => by
  have h0 := h1 0 (by omega)
  simp only [List.getD_cons_zero] at h0
  have ih := take_while (p := p) l i (by simpa using hi) (fun a ha => by simpa using h1 (a + 1) (by omega)) (fun a ha hb => by simpa using h2 (a + 1) (by omega) (by simpa using hb))
  simp [List.takeWhile_cons, List.dropWhile_cons, h0, ih.1, ih.2]
theorem cmp_neg' : ∀ a b : List UInt8, (Lib.compareBytes a b < 0 ↔ Op.bytesLess a b = true)
 | [], [] => by simp [Lib.compareBytes, Op.bytesLess]
 | [], _ :: _ => by simp [Lib.compareBytes, Op.bytesLess]
 | _ :: _, [] => by simp [Lib.compareBytes, Op.bytesLess]
 | a :: xs, b :: ys => by
  have ih := cmp_neg' xs ys
  unfold Lib.compareBytes Op.bytesLess
  by_cases h1 : a < b
  ·simp [h1]
  ·by_cases h2 : b < a
   ·have h3 : ¬ a = b := fun e => by subst e; exact h1 h2
    simp [h1, h2, h3]
   ·have h3 : a = b := by
     apply UInt8.toNat_inj.1
     have h1' : ¬ a.toNat < b.toNat := h1
     have h2' : ¬ b.toNat < a.toNat := h2
     omega
    simp [h1, h2, h3]
    simpa using ih
theorem cmp_neg (a b : ByteArray) : Lib.compareBytes a.data.toList b.data.toList < 0 ↔ Op.bytesLess a.toList b.toList = true := by
 rw [ByteArray.toList_eq, ByteArray.toList_eq]
 exact cmp_neg' _ _
theorem gx_apart {v : Value} {l : List S47} {w3 w4 : World} {base gx : Nat} (h : Kd.R k47 47 w3 base (fun _ => True) v l) (hg : gx = w4.heap.size) (hb : Below w3.heap.size w3 w4) (e : v.ownBlock = some gx) : False := by
 have hown := flat_own flatPair h
 rcases hown.2 with ⟨hv, _⟩ | ⟨g, cap, cur, hv, hb', hh, _⟩
 ·subst hv; cases e
 ·subst hv
  have e1 : g = gx := by simpa [Value.ownBlock] using e
  have := blk_lt hh
  have := hb.size
  omega
set_option maxHeartbeats 2000000 in
set_option maxRecDepth 100000 in
theorem applied_affects (a0 : ByteArray) (a1 a2 : Int) (a3 a4 : ByteArray) (gb : Nat) (x : S47) (W : World) (hbox : W.heap[gb]? = some (.cells #[.string a0, .int .i64 a1, .int .i64 a2, .string a3, .string a4] 39 (0, 0))) :
  Calls Try.prog 115 (#[.agg #[.string x.f0, .string x.f1]] ++ #[.pointer (some ⟨gb, 0, none⟩)]) W fun e w' => e = .returned (.bool (affB a0 a2 a4 x.f0)) ∧ Below W.heap.size W w' := by
 have HBOX := Aside0.mk hbox
 clear hbox
 have hu39 := Try.underlying39
 have HA := Aside0.mk (affB_spec a0 a1 a2 a3 a4 x.f0)
 show Calls Try.prog 115 #[.agg #[.string x.f0, .string x.f1], .pointer (some ⟨gb, 0, none⟩)] W _
 go_enter Try.func115, Try.ntmps115
 go_wp2_with (first | ((with_reducible refine gate_dst (N := 2) rfl ?_); refine box_event ?hg (N := 2) ?hd (cs := #[.string x.f0, .string x.f1]) (t := 47) ?hr ?_; (case hd => rfl); (case hg => rfl); (case hr => first | (go_simp; done) | (go_simp; rfl)); intro g2 hg w2 hbox2 hb; have HB2 := Aside0.mk hb; have hbx := blk_below HBOX.out hb; have HBX := Aside0.mk hbx; have hcz0 : w2.cell? ⟨gb, 0, none⟩ = some (.string a0) := (blk_cell HBX.out 0).trans rfl; have hcz1 : w2.cell? ⟨gb, 1, none⟩ = some (.int .i64 a1) := (blk_cell HBX.out 1).trans rfl; have hcz2 : w2.cell? ⟨gb, 2, none⟩ = some (.int .i64 a2) := (blk_cell HBX.out 2).trans rfl; have hcz3 : w2.cell? ⟨gb, 3, none⟩ = some (.string a3) := (blk_cell HBX.out 3).trans rfl; have hcz4 : w2.cell? ⟨gb, 4, none⟩ = some (.string a4) := (blk_cell HBX.out 4).trans rfl; have hcy0 : w2.cell? ⟨g2, 0, none⟩ = some (.string x.f0) := (blk_cell hbox2 0).trans rfl; clear hg hbox2 hb hbx) | (go_at_call 116; (with_reducible refine (impl_Record_affects.calls a0 a1 a2 a3 a4 x.f0 _ _ HA.out).mono ?_); rintro e w3 ⟨rfl, hb3⟩; have HB3 := Aside0.mk hb3; clear hb3))
 go_ret
 exact ⟨rfl, below_then HB2.out HB2.out.size HB3.out⟩
set_option maxHeartbeats 2000000 in
set_option maxRecDepth 100000 in
theorem applied_cmp (key : ByteArray) (x : S47) (W : World) :
  Calls Try.prog 118 (#[.agg #[.string x.f0, .string x.f1], .string key] ++ #[]) W fun e w' => e = .returned (.int .i64 (Lib.compareBytes x.f0.data.toList key.data.toList)) ∧ Below W.heap.size W w' := by
 show Calls Try.prog 118 #[.agg #[.string x.f0, .string x.f1], .string key] W _
 have hu47 := Try.underlying47
 go_enter Try.func118, Try.ntmps118
 go_wp2_with (first | ((with_reducible refine gate_dst (N := 2) rfl ?_); refine box_event ?hg (N := 2) ?hd (cs := #[.string x.f0, .string x.f1]) (t := 47) ?hr ?_; (case hd => rfl); (case hg => rfl); (case hr => first | (go_simp; done) | (go_simp; rfl)); intro g2 hg w2 hbox2 hb; have HB2 := Aside0.mk hb; have hcy0 : w2.cell? ⟨g2, 0, none⟩ = some (.string x.f0) := (blk_cell hbox2 0).trans rfl; clear hg hbox2 hb) | (go_at_call 119; (with_reducible refine (strings_Compare.calls x.f0 key _ _ rfl).mono ?_); rintro e w3 ⟨rfl, hb3⟩; have HB3 := Aside0.mk hb3; clear hb3))
 go_ret
 exact ⟨rfl, below_then HB2.out HB2.out.size HB3.out.below⟩
theorem R_base {v : Value} {xs : List S47} {w : World} {base : Nat} (h : Kd.R k47 47 w base (fun _ => True) v xs) : ∀ k, v.ownBlock = some k → base ≤ k := by
 intro k hk
 have hown := flat_own flatPair h
 rcases hown.2 with ⟨hv, _⟩ | ⟨g, cap, cur, hv, hb, _⟩
 ·subst hv; cases hk
 ·subst hv
  have : g = k := by simpa [Value.ownBlock] using hk
  omega
theorem R_len {v : Value} {xs : List S47} {w : World} {base : Nat} (h : Kd.R k47 47 w base (fun _ => True) v xs) : ∃ A c, v = .slice A xs.length c ∧ xs.length ≤ c ∧ Kd.C k47 w A xs.length xs := by
 obtain ⟨A0, c0, ev, hlc, hC⟩ := Kd.R_reads h
 exact ⟨A0, c0, ev, hlc, hC⟩
theorem bs_event {P : Program} {ops : Array Oper} {Q : Exit → Act → World → Prop} {rest : List Oper} {o : Oper} {a : Act} {W : World} (hgd : o.guard = none) {N : Tmp} (_hd : o.dst = some N) {cs : Array Value} {t : TypeId}
  (hrun : (execOp a.eval o).run P W = .ok (.value (.slice (some ⟨W.heap.size, 0, none⟩) 1 1)) (W.alloc (.cells cs t (0, 0))))
  (h : ∀ g, g = W.heap.size → ∀ w1, w1.heap[g]? = some (.cells cs t (0, 0)) → Below W.heap.size W w1 → wpList P ops Q rest (a.put o.dst (.slice (some ⟨g, 0, none⟩) 1 1)) w1) : wpList P ops Q (o :: rest) a W :=
 Kd.event_run hgd hrun (h _ rfl _ (blk_new W _) (below_alloc (Below.refl _ _) _))
theorem del_premise {a0 a3 a4 : ByteArray} {a1 a2 : Int} {gb : Nat} {w1 w2 : World} {v2 : Value} {l0 : List S47} (hbk : w1.heap[gb]? = some (.cells #[.string a0, .int .i64 a1, .int .i64 a2, .string a3, .string a4] 39 (0, 0))) (hb : Below w1.heap.size w1 w2) (ho : Kd.R k47 47 w2 w1.heap.size (fun _ => True) v2 l0) :
  PredOverPair 115 #[.pointer (some ⟨gb, 0, none⟩)] (fun x => affB a0 a2 a4 x.f0) w2 v2.ownBlock := by
 intro W x hg
 refine applied_affects a0 a1 a2 a3 a4 gb x W (blk_grown (blk_below hbk hb) hg ?_)
 intro e
 have h1 := R_base ho _ e.symm
 have h2 := blk_lt hbk
 omega
def AppPost (r : List S47) (w : World) (e : Ending) (w' : World) : Prop := ∃ v0_ : Value, e = .returned (v0_) ∧ Kd.R k47 47 w' w.heap.size (fun _ => True) v0_ r ∧ Below w.heap.size w w'
theorem filt_len (p : S47 → Bool) (l : List S47) (n : Nat) (h : l.length < n) : (l.filter p).length < n := by
 have := List.length_filter_le p l
 omega
set_option maxHeartbeats 4000000 in
set_option maxRecDepth 100000 in
theorem applied_other (A0 : Option Addr) (c0 : Nat) (l0 : List S47) (a0 : ByteArray) (a1 a2 : Int) (a3 a4 : ByteArray) (w : World) (hr0 : Kd.C k47 w A0 l0.length l0) (hc0 : l0.length ≤ c0) (hl : l0.length < 4398046511103) (h2 : a2 ≠ 1) :
  Calls Try.prog 66 #[.slice A0 l0.length c0, .agg #[.string a0, .int .i64 a1, .int .i64 a2, .string a3, .string a4]] w (AppPost (l0.filter (fun x => !affB a0 a2 a4 x.f0)) w) := by
 have HR0 := Aside0.mk hr0
 have HC0 := Aside0.mk hc0
 have HCL := Aside0.mk (show slices_Clone_Pair.f l0 = some l0 from if_pos (by omega))
 have hu39 := Try.underlying39
 have h2b : (a2 != 1) = true := by simp [h2]
 clear hr0 hc0 h2
 go_enter Try.func66, Try.ntmps66
 go_wp2_with (first | ((with_reducible refine gate_dst (N := 3) rfl ?_); refine box_event ?hg (N := 3) ?hd (cs := #[.string a0, .int .i64 a1, .int .i64 a2, .string a3, .string a4]) (t := 39) ?hr ?_; (case hd => rfl); (case hg => rfl); (case hr => first | (go_simp; done) | (go_simp; rfl)); intro gb hg w1 hbox hb1; have HG : Aside0 (gb = w.heap.size) := ⟨hg⟩; have HBK := Aside0.mk hbox; have HB1 := Aside0.mk hb1; clear hg hbox hb1) | ((with_reducible refine gate_callee (f := 75) rfl ?_); refine goesL_ (some 9) rfl rfl Try.func75 (by kernel_rfl) rfl #[.slice A0 l0.length c0] rfl (by (try simp only [List.map_toArray, List.map_cons, List.map_nil]); first | done | rfl) ?_; (with_reducible refine (slices_Clone_Pair.calls _ _ l0 l0 _ ?side1 ?side2 HCL.out).mono ?_); (case side1 => exact Kd.C_below HR0.out HB1.out); (case side2 => exact HC0.out); rintro e w2 ⟨v2, rfl, ho2, hb2⟩; refine ⟨_, rfl, ?_⟩; have HO2 := Aside0.mk ho2; have HB2 := Aside0.mk hb2; clear ho2 hb2) | ((with_reducible refine gate_callee (f := 114) rfl ?_); refine goesL_ (some 11) rfl rfl Try.func114 (by kernel_rfl) rfl #[v2, .func (.func 115) #[] #[.pointer (some ⟨gb, 0, none⟩)]] rfl (by (try simp only [List.map_toArray, List.map_cons, List.map_nil]); first | done | rfl) ?_; (with_reducible refine (slices_DeleteFunc_Pair.calls v2 l0 (fun x => affB a0 a2 a4 x.f0) 115 #[.pointer (some ⟨gb, 0, none⟩)] ?eg w1.heap.size _ HO2.out ?hp).mono ?_); (case eg => exact fun args w => enters_ Try.func115 (by kernel_rfl) rfl args w); (case hp => exact del_premise HBK.out HB2.out HO2.out); rintro e w3 ⟨v3, rfl, ho3, hg3, hr3⟩; refine ⟨_, rfl, ?_⟩; have HO3 := Aside0.mk ho3; have HG3 := Aside0.mk hg3; have HR3 := Aside0.mk hr3; have HBK3 : Aside0 (w3.heap[gb]? = some (.cells #[.string a0, .int .i64 a1, .int .i64 a2, .string a3, .string a4] 39 (0, 0))) := ⟨blk_grown (blk_below HBK.out HB2.out) HG3.out (fun e => by have := R_base HO2.out _ e.symm; have := blk_lt HBK.out; omega)⟩; have hcz2 : w3.cell? ⟨gb, 2, none⟩ = some (.int .i64 a2) := (blk_cell HBK3.out 2).trans rfl; clear ho3 hg3 hr3))
 go_ret
 exact ⟨_, rfl, Kd.R_lower HO3.out HB1.out.size, pw_below_grown (below_then HB1.out HB1.out.size HB2.out) _ (Nat.le_trans HB1.out.size HB2.out.size) HG3.out (fun k hk => Nat.le_trans HB1.out.size (R_base HO2.out k hk))⟩
theorem parts_le {c : S47 → Int} {l : List S47} {i : Nat} (h : Parts c l i) : i ≤ l.length := h.1
theorem parts_while {key : ByteArray} {l : List S47} {i : Nat} (h : Parts (fun x => Lib.compareBytes x.f0.data.toList key.data.toList) l i) : l.take i = l.takeWhile (lessK key) ∧ l.drop i = l.dropWhile (lessK key) := by
 refine take_while l i h.1 (fun a ha => ?_) (fun a ha hb => ?_)
 ·exact (cmp_neg _ _).1 (h.2.1 a ha)
 ·have h1 := h.2.2 a ha hb
  cases hq : lessK key (l.getD a z47) with
  | false => rfl
  | true => have := (cmp_neg _ _).2 hq; simp only at h1; omega
theorem sorted_parts (key : ByteArray) (l : List S47) (hs : l.Pairwise lessP) : ∀ a b, a < b → b < l.length → Lib.compareBytes (l.getD b z47).f0.data.toList key.data.toList < 0 → Lib.compareBytes (l.getD a z47).f0.data.toList key.data.toList < 0 := by
 intro a b hab hb h
 rw [cmp_neg] at h ⊢
 have hp := List.pairwise_iff_getElem.1 hs a b (by omega) hb hab
 have ea : l.getD a z47 = l[a] := by simp [List.getD_eq_getElem?_getD, show a < l.length by omega]
 have eb : l.getD b z47 = l[b] := by simp [List.getD_eq_getElem?_getD, hb]
 rw [eb] at h
 rw [ea]
 exact YtjamafchmeiifaaX.bytesLess_trans _ _ _ hp h
set_option maxHeartbeats 4000000 in
set_option maxRecDepth 100000 in
theorem applied_put (A0 : Option Addr) (c0 : Nat) (l0 : List S47) (a0 : ByteArray) (a1 a2 : Int) (a3 a4 : ByteArray) (w : World) (hr0 : Kd.C k47 w A0 l0.length l0) (hc0 : l0.length ≤ c0) (hl : l0.length < 4398046511103) (h2 : a2 = 1) (hs : l0.Pairwise lessP) :
  Calls Try.prog 66 #[.slice A0 l0.length c0, .agg #[.string a0, .int .i64 a1, .int .i64 a2, .string a3, .string a4]] w (AppPost ((l0.filter (fun x => !affB a0 a2 a4 x.f0)).takeWhile (lessK a0) ++ [⟨a0, a3⟩] ++ (l0.filter (fun x => !affB a0 a2 a4 x.f0)).dropWhile (lessK a0)) w) := by
 have HR0 := Aside0.mk hr0
 have HC0 := Aside0.mk hc0
 have HCL := Aside0.mk (show slices_Clone_Pair.f l0 = some l0 from if_pos (by omega))
 have hu39 := Try.underlying39
 have h2b : (a2 != 1) = false := by simp [h2]
 obtain ⟨l1, hl1⟩ : ∃ l1, l1 = l0.filter (fun x => !affB a0 a2 a4 x.f0) := ⟨_, rfl⟩
 rw [← hl1]
 have hs1 : l1.Pairwise lessP := by rw [hl1]; exact hs.filter _
 have hle1 : l1.length < 4398046511103 := by rw [hl1]; exact filt_len _ _ _ hl
 have HL1 := Aside0.mk hl1.symm
 have HS := Aside0.mk (sorted_parts a0 l1 hs1)
 have HLE := Aside0.mk hle1
 clear hr0 hc0 h2 hl1 hs1 hs hle1
 go_enter Try.func66, Try.ntmps66
 go_wp2_with (first | ((with_reducible refine gate_dst (N := 3) rfl ?_); refine box_event ?hg (N := 3) ?hd (cs := #[.string a0, .int .i64 a1, .int .i64 a2, .string a3, .string a4]) (t := 39) ?hr ?_; (case hd => rfl); (case hg => rfl); (case hr => first | (go_simp; done) | (go_simp; rfl)); intro gb hg w1 hbox hb1; have HG : Aside0 (gb = w.heap.size) := ⟨hg⟩; have HBK := Aside0.mk hbox; have HB1 := Aside0.mk hb1; clear hg hbox hb1) | ((with_reducible refine gate_callee (f := 75) rfl ?_); refine goesL_ (some 9) rfl rfl Try.func75 (by kernel_rfl) rfl #[.slice A0 l0.length c0] rfl (by (try simp only [List.map_toArray, List.map_cons, List.map_nil]); first | done | rfl) ?_; (with_reducible refine (slices_Clone_Pair.calls _ _ l0 l0 _ ?side1 ?side2 HCL.out).mono ?_); (case side1 => exact Kd.C_below HR0.out HB1.out); (case side2 => exact HC0.out); rintro e w2 ⟨v2, rfl, ho2, hb2⟩; refine ⟨_, rfl, ?_⟩; have HO2 := Aside0.mk ho2; have HB2 := Aside0.mk hb2; clear ho2 hb2) | ((with_reducible refine gate_callee (f := 114) rfl ?_); refine goesL_ (some 11) rfl rfl Try.func114 (by kernel_rfl) rfl #[v2, .func (.func 115) #[] #[.pointer (some ⟨gb, 0, none⟩)]] rfl (by (try simp only [List.map_toArray, List.map_cons, List.map_nil]); first | done | rfl) ?_; (with_reducible refine (slices_DeleteFunc_Pair.calls v2 l0 (fun x => affB a0 a2 a4 x.f0) 115 #[.pointer (some ⟨gb, 0, none⟩)] ?eg w1.heap.size _ HO2.out ?hp).mono ?_); (case eg => exact fun args w => enters_ Try.func115 (by kernel_rfl) rfl args w); (case hp => exact del_premise HBK.out HB2.out HO2.out); rintro e w3 ⟨v3, rfl, ho3, hg3, hr3⟩; refine ⟨_, rfl, ?_⟩; rw [HL1.out] at ho3; obtain ⟨A3, c3, ev3, hc3, hC3⟩ := R_len ho3; subst ev3; have HC3 := Aside0.mk hC3; clear hc3 hC3; have HO3 := Aside0.mk ho3; have HG3 := Aside0.mk hg3; have HR3 := Aside0.mk hr3; have HBK3 : Aside0 (w3.heap[gb]? = some (.cells #[.string a0, .int .i64 a1, .int .i64 a2, .string a3, .string a4] 39 (0, 0))) := ⟨blk_grown (blk_below HBK.out HB2.out) HG3.out (fun e => by have := R_base HO2.out _ e.symm; have := blk_lt HBK.out; omega)⟩; have hcz0 : w3.cell? ⟨gb, 0, none⟩ = some (.string a0) := (blk_cell HBK3.out 0).trans rfl; have hcz2 : w3.cell? ⟨gb, 2, none⟩ = some (.int .i64 a2) := (blk_cell HBK3.out 2).trans rfl; clear ho3 hg3 hr3) | ((with_reducible refine gate_callee (f := 117) rfl ?_); refine goesL_ (some 20) rfl rfl Try.func117 (by kernel_rfl) rfl #[.slice A3 l1.length c3, .string a0, .func (.func 118) #[] #[]] rfl (by (try simp only [List.map_toArray, List.map_cons, List.map_nil]); first | done | rfl) ?_; (with_reducible refine (slices_BinarySearchFunc_Pair_string.calls A3 c3 l1 a0 (fun x => Lib.compareBytes x.f0.data.toList a0.data.toList) 118 #[] ?eg _ ?hc ?hl ?hp HS.out).mono ?_); (case eg => exact fun args w => enters_ Try.func118 (by kernel_rfl) rfl args w); (case hc => repeat (first | exact HC3.out | (with_reducible refine Kd.C_drewN ?_ _) | (with_reducible refine Kd.C_drew ?_))); (case hl => have := HLE.out; omega); (case hp => exact fun W x _ => applied_cmp a0 x W); rintro e w4 ⟨i, f, rfl, hparts, hb4⟩; refine ⟨_, rfl, ?_⟩; have HPA := Aside0.mk hparts; have HB4 : Aside0 (Below w3.heap.size w3 w4) := ⟨hb4⟩; have HBK4 := Aside0.mk (blk_below HBK3.out HB4.out); have hcw0 : w4.cell? ⟨gb, 0, none⟩ = some (.string a0) := (blk_cell HBK4.out 0).trans rfl; have hcw3 : w4.cell? ⟨gb, 3, none⟩ = some (.string a3) := (blk_cell HBK4.out 3).trans rfl; clear hparts hb4) | ((with_reducible refine gate_dst (N := 30) rfl ?_); refine bs_event ?hg (N := 30) ?hd (cs := #[.string a0, .string a3]) (t := 47) ?hr ?_; (case hd => rfl); (case hg => rfl); (case hr => first | (go_simp; done) | (go_simp; rfl)); intro gx hg5 w5 hx5 hb5; have HG5 : Aside0 (gx = w4.heap.size) := ⟨hg5⟩; have HX5 := Aside0.mk hx5; have HB5 : Aside0 (Below w4.heap.size w4 w5) := ⟨hb5⟩; have HO5 := Aside0.mk (Kd.R_below (Kd.R_below HO3.out HB4.out) HB5.out); clear hg5 hx5 hb5) | ((with_reducible refine gate_callee (f := 120) rfl ?_); refine goesL_ (some 31) rfl rfl Try.func120 (by kernel_rfl) rfl #[.slice A3 l1.length c3, .int .i64 (i : Int), .slice (some ⟨gx, 0, none⟩) 1 1] rfl (by (try simp only [List.map_toArray, List.map_cons, List.map_nil]); first | done | rfl) ?_; (with_reducible refine (insert_pair (.slice A3 l1.length c3) l1 ⟨a0, a3⟩ gx i w1.heap.size _ HO5.out ?hb HLE.out HX5.out ?hgx (parts_le HPA.out)).mono ?_); (case hb => exact Nat.le_trans HB2.out.size (Nat.le_trans HG3.out.size (Nat.le_trans HB4.out.size HB5.out.size))); (case hgx => exact fun e => gx_apart HO3.out HG5.out HB4.out e); rintro e w6 ⟨v6, rfl, ho6, hg6⟩; refine ⟨_, rfl, ?_⟩; have HO6 := Aside0.mk ho6; have HG6 := Aside0.mk hg6; clear ho6 hg6))
 go_ret
 refine ⟨_, rfl, ?_, ?_⟩
 ·have hp := parts_while HPA.out
  rw [← hp.1, ← hp.2]
  exact Kd.R_lower HO6.out HB1.out.size
 ·have k1 : w.heap.size ≤ w2.heap.size := Nat.le_trans HB1.out.size HB2.out.size
  have k3 : w.heap.size ≤ w3.heap.size := Nat.le_trans k1 HG3.out.size
  have b3 : Below w.heap.size w w3 := pw_below_grown (below_then HB1.out HB1.out.size HB2.out) _ k1 HG3.out (fun k hk => Nat.le_trans HB1.out.size (R_base HO2.out k hk))
  have b5 : Below w.heap.size w w5 := below_then (below_then b3 k3 HB4.out) (Nat.le_trans k3 HB4.out.size) HB5.out
  exact pw_below_grown b5 _ (Nat.le_trans k3 (Nat.le_trans HB4.out.size HB5.out.size)) HG6.out (fun k hk => Nat.le_trans HB1.out.size (R_base HO5.out k hk))
theorem impl_applied.calls (A0 : Option Addr) (c0 : Nat) (l0 : List S47) (a0 : ByteArray) (a1 a2 : Int) (a3 a4 : ByteArray) (r : List S47) (w : World) (hr0 : Kd.C k47 w A0 l0.length l0) (hc0 : l0.length ≤ c0) (h : impl_applied.f l0 a0 a1 a2 a3 a4 = some r) :
  Calls Try.prog 66 #[.slice A0 l0.length c0, .agg #[.string a0, .int .i64 a1, .int .i64 a2, .string a3, .string a4]] w fun e w' => ∃ v0_ : Value, e = .returned (v0_) ∧ Kd.R k47 47 w' w.heap.size (fun _ => True) v0_ r ∧ Below w.heap.size w w' := by
 unfold impl_applied.f at h
 by_cases hl : l0.length < 4398046511103
 ·rw [if_pos hl] at h
  by_cases h2 : a2 = 1
  ·rw [if_pos h2] at h
   by_cases hs : l0.Pairwise lessP
   ·rw [if_pos hs] at h
    obtain rfl := Option.some.inj h
    exact applied_put A0 c0 l0 a0 a1 a2 a3 a4 w hr0 hc0 hl h2 hs
   ·rw [if_neg hs] at h
    cases h
  ·rw [if_neg h2] at h
   obtain rfl := Option.some.inj h
   exact applied_other A0 c0 l0 a0 a1 a2 a3 a4 w hr0 hc0 hl h2
 ·rw [if_neg hl] at h
  cases h
end Go.Proofs.Ytjamafchmeiifaa.F
namespace Go.Proofs.Ytjamafchmeiifaa.F
open Go.RowKit Go.Proofs.YtjamafchmeiifaaW.PrintWords Go.Proofs.YtjamafchmeiifaaW.PrintLast Go.Proofs.YtjamafchmeiifaaW.PrintMore
attribute [local go_sem] max2_int min2_int max_two min_two max_three min_three max_four min_four Go.Proofs.YtjamafchmeiifaaX.str_leq Go.Proofs.YtjamafchmeiifaaX.str_gtr Go.Proofs.YtjamafchmeiifaaX.str_geq
set_option linter.unusedVariables false
set_option linter.unusedSimpArgs false
def impl_ApplyRecord.f (k : Nat) (l0 : List (S47)) (a1_0 : ByteArray) (a1_1 : Int) (a1_2 : Int) (a1_3 : ByteArray) (a1_4 : ByteArray) : Option ((List (S47)) × Int) := (impl_pairsOk.f k l0).bind fun t234 => (if t234 = true then ((impl_ValidRecord.f k a1_0 a1_1 a1_2 a1_3 a1_4).bind fun t235 => (if t235 = true then ((impl_applied.f l0 a1_0 a1_1 a1_2 a1_3 a1_4).bind fun t236 => (some (t236, 0))) else (some (([] : List (S47)), 1)))) else (some (([] : List (S47)), 1)))
theorem impl_ApplyRecord.mono : ∀ a0 a1 a2 a3 a4 a5 k, LeO (impl_ApplyRecord.f k a0 a1 a2 a3 a4 a5) (impl_ApplyRecord.f (k + 1) a0 a1 a2 a3 a4 a5) := by
 intro a0 a1 a2 a3 a4 a5 k
 unfold impl_ApplyRecord.f
 repeat' first
   | (with_reducible exact impl_ValidRecord.mono _ _ _ _ _ _)
   | (with_reducible exact impl_pairsOk.mono _ _)
   | (with_reducible exact LeO.refl _)
   | (with_reducible exact LeO.none _)
   | (with_reducible refine LeO.ite ?_ ?_)
   | (with_reducible refine LeO.bind ?_ (fun _ => ?_))
   | exact impl_ValidRecord.mono _ _ _ _ _ _
   | exact impl_pairsOk.mono _ _
   | exact LeO.none _
   | refine LeO.ite ?_ ?_
   | refine LeO.bind ?_ (fun _ => ?_)
set_option maxHeartbeats 8000000 in
set_option maxRecDepth 100000 in
theorem impl_ApplyRecord.calls (k : Nat) (A0 : Option Addr) (c0 : Nat) (l0 : List (S47)) (a1_0 : ByteArray) (a1_1 : Int) (a1_2 : Int) (a1_3 : ByteArray) (a1_4 : ByteArray) (r1 : List (S47)) (r2 : Int) (w : World) (hr0 : Kd.C k47 w A0 l0.length l0) (hc0 : l0.length ≤ c0) (h : impl_ApplyRecord.f k l0 a1_0 a1_1 a1_2 a1_3 a1_4 = some (r1, r2)) :
  Calls Try.prog 20 #[.slice A0 l0.length c0, .agg #[.string a1_0, .int .i64 a1_1, .int .i64 a1_2, .string a1_3, .string a1_4]] w fun e w' => ∃ v0_ : Value, e = .returned (.tuple #[v0_, .int .i64 r2]) ∧ Kd.R k47 47 w' w.heap.size (fun _ => True) v0_ r1 ∧ Below w.heap.size w w' := by
 have hu39 := Try.underlying39
 have HR0 := Aside0.mk hr0
 have HC0 := Aside0.mk hc0
 clear hr0 hc0
 have HB := Aside0.mk (Below.refl w.heap.size w)
 have H : ((impl_pairsOk.f k l0).bind fun t234 => (if t234 = true then ((impl_ValidRecord.f k a1_0 a1_1 a1_2 a1_3 a1_4).bind fun t235 => (if t235 = true then ((impl_applied.f l0 a1_0 a1_1 a1_2 a1_3 a1_4).bind fun t236 => (some (t236, 0))) else (some (([] : List (S47)), 1)))) else (some (([] : List (S47)), 1)))) = some (r1, r2) := h
 clear h
 replace H := Option.bind_eq_some_iff.mp H
 obtain ⟨t234, A30, H⟩ := H
 replace H : (if t234 = true then ((impl_ValidRecord.f k a1_0 a1_1 a1_2 a1_3 a1_4).bind fun t235 => (if t235 = true then ((impl_applied.f l0 a1_0 a1_1 a1_2 a1_3 a1_4).bind fun t236 => (some (t236, 0))) else (some (([] : List (S47)), 1)))) else (some (([] : List (S47)), 1))) = some (r1, r2) := H
 have A3 := Aside0.mk A30
 clear A30
 by_cases c4 : t234 = true
 ·subst c4
  have H1 : ((impl_ValidRecord.f k a1_0 a1_1 a1_2 a1_3 a1_4).bind fun t235 => (if t235 = true then ((impl_applied.f l0 a1_0 a1_1 a1_2 a1_3 a1_4).bind fun t236 => (some (t236, 0))) else (some (([] : List (S47)), 1)))) = some (r1, r2) := by rw [if_pos rfl] at H; exact H
  clear H
  have H := H1
  clear H1
  replace H := Option.bind_eq_some_iff.mp H
  obtain ⟨t235, A50, H⟩ := H
  replace H : (if t235 = true then ((impl_applied.f l0 a1_0 a1_1 a1_2 a1_3 a1_4).bind fun t236 => (some (t236, 0))) else (some (([] : List (S47)), 1))) = some (r1, r2) := H
  have A5 := Aside0.mk A50
  clear A50
  by_cases c6 : t235 = true
  ·subst c6
   have H1 : ((impl_applied.f l0 a1_0 a1_1 a1_2 a1_3 a1_4).bind fun t236 => (some (t236, 0))) = some (r1, r2) := by rw [if_pos rfl] at H; exact H
   clear H
   have H := H1
   clear H1
   replace H := Option.bind_eq_some_iff.mp H
   obtain ⟨t236, A70, H⟩ := H
   replace H : (some (t236, 0)) = some (r1, r2) := H
   have A7 := Aside0.mk A70
   clear A70
   simp only [Option.some.injEq, Prod.mk.injEq] at H
   obtain ⟨rfl, rfl⟩ := H
   go_enter Try.func20, Try.ntmps20
   go_wp2_with (first | ((with_reducible refine gate_dst (N := 3) rfl ?_); refine box_event ?hg (N := 3) ?hd (cs := #[.string a1_0, .int .i64 a1_1, .int .i64 a1_2, .string a1_3, .string a1_4]) (t := 39) ?hr ?_; (case hd => rfl); (case hg => rfl); (case hr => first | (go_simp; done) | (go_simp; rfl)); intro gb233 hg w8 hbox hb; have n0_ := Aside0.mk (below_step (by repeat (first | (with_reducible first | exact HB.out | apply below_alloc | apply pw_below_drewN | apply below_drew1) | exact HB.out)) hb); have n1_ := Aside0.mk (hbox); have n2_ := Aside0.mk ((by rw [hg]; exact (below_size (by repeat (first | (with_reducible first | exact HB.out | apply below_alloc | apply pw_below_drewN | apply below_drew1) | exact HB.out))) : w.heap.size ≤ gb233)); have n3_ := Aside0.mk ((by rw [hg]; exact (below_size (by repeat (first | (with_reducible first | exact HB.out | apply below_alloc | apply pw_below_drewN | apply below_drew1) | exact HB.out))) : w.heap.size ≤ gb233)); clear HB; have HB := n0_; have BK233 := n1_; have GW233 := n2_; have GE233 := n3_; clear n0_ n1_ n2_ n3_; clear hb hbox hg) | ((with_reducible refine gate_callee (f := 64) rfl ?_); refine goesL_ (some 7) rfl rfl Try.func64 (by kernel_rfl) rfl #[.slice A0 l0.length c0] rfl (by (try simp only [List.map_toArray, List.map_cons, List.map_nil]); first | done | rfl | (simp only [List.length_drop, List.length_take]; rfl)) ?_; (with_reducible refine (impl_pairsOk.calls k _ _ l0 true _ ?side1 ?side2 A3.out).mono ?_); (case side1 => repeat (first | exact (Kd.C_below HR0.out HB.out) | (with_reducible refine Kd.C_alloc ?_ _) | (with_reducible refine Kd.C_drewN ?_ _) | (with_reducible refine Kd.C_drew ?_))); (case side2 => exact HC0.out); rintro e w9 ⟨rfl, hb⟩; refine ⟨_, rfl, ?_⟩; have n0_ := Aside0.mk (blk_below (g := gb233) (o := .cells #[.string a1_0, .int .i64 a1_1, .int .i64 a1_2, .string a1_3, .string a1_4] 39 (0, 0)) (by (with_reducible repeat (first | refine blk_drewN ?_ _ | refine blk_drew ?_ | refine blk_alloc ?_ _)); exact BK233.out) hb); have n1_ := Aside0.mk (below_step (by repeat (first | (with_reducible first | exact HB.out | apply below_alloc | apply pw_below_drewN | apply below_drew1 | refine below_set ?_ GE233.out) | exact HB.out)) hb); clear BK233; clear HB; have BK233 := n0_; have HB := n1_; clear n0_ n1_; (try clear hb); (try clear hb2); (try clear hk); (try clear hi); have hcz10_0 : w9.cell? ⟨gb233, 0, none⟩ = some (.string a1_0) := (blk_cell BK233.out 0).trans rfl; have hcz10_1 : w9.cell? ⟨gb233, 1, none⟩ = some (.int .i64 a1_1) := (blk_cell BK233.out 1).trans rfl; have hcz10_2 : w9.cell? ⟨gb233, 2, none⟩ = some (.int .i64 a1_2) := (blk_cell BK233.out 2).trans rfl; have hcz10_3 : w9.cell? ⟨gb233, 3, none⟩ = some (.string a1_3) := (blk_cell BK233.out 3).trans rfl; have hcz10_4 : w9.cell? ⟨gb233, 4, none⟩ = some (.string a1_4) := (blk_cell BK233.out 4).trans rfl; have hfz10_0 := blk_frozen BK233.out 0; have hfz10_1 := blk_frozen BK233.out 1; have hfz10_2 := blk_frozen BK233.out 2; have hfz10_3 := blk_frozen BK233.out 3; have hfz10_4 := blk_frozen BK233.out 4) | (go_at_call 65; (with_reducible refine (impl_ValidRecord.calls k a1_0 a1_1 a1_2 a1_3 a1_4 true _ A5.out).mono ?_); rintro e w11 ⟨rfl, hb⟩; have n0_ := Aside0.mk (blk_below (g := gb233) (o := .cells #[.string a1_0, .int .i64 a1_1, .int .i64 a1_2, .string a1_3, .string a1_4] 39 (0, 0)) (by (with_reducible repeat (first | refine blk_drewN ?_ _ | refine blk_drew ?_ | refine blk_alloc ?_ _)); exact BK233.out) hb); have n1_ := Aside0.mk (below_step (by repeat (first | (with_reducible first | exact HB.out | apply below_alloc | apply pw_below_drewN | apply below_drew1 | refine below_set ?_ GE233.out) | exact HB.out)) hb); clear BK233; clear HB; have BK233 := n0_; have HB := n1_; clear n0_ n1_; (try clear hb); (try clear hb2); (try clear hk); (try clear hi); have hcz12_0 : w11.cell? ⟨gb233, 0, none⟩ = some (.string a1_0) := (blk_cell BK233.out 0).trans rfl; have hcz12_1 : w11.cell? ⟨gb233, 1, none⟩ = some (.int .i64 a1_1) := (blk_cell BK233.out 1).trans rfl; have hcz12_2 : w11.cell? ⟨gb233, 2, none⟩ = some (.int .i64 a1_2) := (blk_cell BK233.out 2).trans rfl; have hcz12_3 : w11.cell? ⟨gb233, 3, none⟩ = some (.string a1_3) := (blk_cell BK233.out 3).trans rfl; have hcz12_4 : w11.cell? ⟨gb233, 4, none⟩ = some (.string a1_4) := (blk_cell BK233.out 4).trans rfl; have hfz12_0 := blk_frozen BK233.out 0; have hfz12_1 := blk_frozen BK233.out 1; have hfz12_2 := blk_frozen BK233.out 2; have hfz12_3 := blk_frozen BK233.out 3; have hfz12_4 := blk_frozen BK233.out 4) | ((with_reducible refine gate_callee (f := 66) rfl ?_); refine goesL_ (some 16) rfl rfl Try.func66 (by kernel_rfl) rfl #[.slice A0 l0.length c0, .agg #[.string a1_0, .int .i64 a1_1, .int .i64 a1_2, .string a1_3, .string a1_4]] rfl (by (try simp only [List.map_toArray, List.map_cons, List.map_nil]); first | done | rfl | (simp only [List.length_drop, List.length_take]; rfl)) ?_; (with_reducible refine (impl_applied.calls _ _ l0 a1_0 a1_1 a1_2 a1_3 a1_4 t236 _ ?side1 ?side2 A7.out).mono ?_); (case side1 => repeat (first | exact (Kd.C_below HR0.out HB.out) | (with_reducible refine Kd.C_alloc ?_ _) | (with_reducible refine Kd.C_drewN ?_ _) | (with_reducible refine Kd.C_drew ?_))); (case side2 => exact HC0.out); rintro e w13 ⟨v237, rfl, ho0, hb⟩; refine ⟨_, rfl, ?_⟩; have n0_ := Aside0.mk (Kd.R_lower ho0 (below_size (by repeat (first | (with_reducible first | exact HB.out | apply below_alloc | apply pw_below_drewN | apply below_drew1 | refine below_set ?_ GE233.out) | exact HB.out)))); have n1_ := Aside0.mk (blk_below (g := gb233) (o := .cells #[.string a1_0, .int .i64 a1_1, .int .i64 a1_2, .string a1_3, .string a1_4] 39 (0, 0)) (by (with_reducible repeat (first | refine blk_drewN ?_ _ | refine blk_drew ?_ | refine blk_alloc ?_ _)); exact BK233.out) hb); have n2_ := Aside0.mk (below_step (by repeat (first | (with_reducible first | exact HB.out | apply below_alloc | apply pw_below_drewN | apply below_drew1 | refine below_set ?_ GE233.out) | exact HB.out)) hb); clear BK233; clear HB; have HO238 := n0_; have BK233 := n1_; have HB := n2_; clear n0_ n1_ n2_; (try clear hb); (try clear hb2); (try clear hk); (try clear hi); (try clear ho0)))
   go_ret2
   exact ⟨_, by first | rfl | (simp [errW_none, errW_some] <;> rfl) | (simp [*, errW_none, errW_some] <;> rfl), by (with_reducible repeat (first | apply Kd.R_alloc | apply Kd.R_drewN | apply Kd.R_drew)); exact HO238.out, by repeat (first | (with_reducible first | exact HB.out | apply below_alloc | apply pw_below_drewN | apply below_drew1 | refine below_set ?_ GE233.out) | exact HB.out)⟩
  ·replace c6 := Bool.eq_false_iff.mpr c6
   subst c6
   have H1 : (some (([] : List (S47)), 1)) = some (r1, r2) := by rw [if_neg (show ¬ (false = true) by decide)] at H; exact H
   clear H
   have H := H1
   clear H1
   simp only [Option.some.injEq, Prod.mk.injEq] at H
   obtain ⟨rfl, rfl⟩ := H
   go_enter Try.func20, Try.ntmps20
   go_wp2_with (first | ((with_reducible refine gate_dst (N := 3) rfl ?_); refine box_event ?hg (N := 3) ?hd (cs := #[.string a1_0, .int .i64 a1_1, .int .i64 a1_2, .string a1_3, .string a1_4]) (t := 39) ?hr ?_; (case hd => rfl); (case hg => rfl); (case hr => first | (go_simp; done) | (go_simp; rfl)); intro gb233 hg w14 hbox hb; have n0_ := Aside0.mk (below_step (by repeat (first | (with_reducible first | exact HB.out | apply below_alloc | apply pw_below_drewN | apply below_drew1) | exact HB.out)) hb); have n1_ := Aside0.mk (hbox); have n2_ := Aside0.mk ((by rw [hg]; exact (below_size (by repeat (first | (with_reducible first | exact HB.out | apply below_alloc | apply pw_below_drewN | apply below_drew1) | exact HB.out))) : w.heap.size ≤ gb233)); have n3_ := Aside0.mk ((by rw [hg]; exact (below_size (by repeat (first | (with_reducible first | exact HB.out | apply below_alloc | apply pw_below_drewN | apply below_drew1) | exact HB.out))) : w.heap.size ≤ gb233)); clear HB; have HB := n0_; have BK233 := n1_; have GW233 := n2_; have GE233 := n3_; clear n0_ n1_ n2_ n3_; clear hb hbox hg) | ((with_reducible refine gate_callee (f := 64) rfl ?_); refine goesL_ (some 7) rfl rfl Try.func64 (by kernel_rfl) rfl #[.slice A0 l0.length c0] rfl (by (try simp only [List.map_toArray, List.map_cons, List.map_nil]); first | done | rfl | (simp only [List.length_drop, List.length_take]; rfl)) ?_; (with_reducible refine (impl_pairsOk.calls k _ _ l0 true _ ?side1 ?side2 A3.out).mono ?_); (case side1 => repeat (first | exact (Kd.C_below HR0.out HB.out) | (with_reducible refine Kd.C_alloc ?_ _) | (with_reducible refine Kd.C_drewN ?_ _) | (with_reducible refine Kd.C_drew ?_))); (case side2 => exact HC0.out); rintro e w15 ⟨rfl, hb⟩; refine ⟨_, rfl, ?_⟩; have n0_ := Aside0.mk (blk_below (g := gb233) (o := .cells #[.string a1_0, .int .i64 a1_1, .int .i64 a1_2, .string a1_3, .string a1_4] 39 (0, 0)) (by (with_reducible repeat (first | refine blk_drewN ?_ _ | refine blk_drew ?_ | refine blk_alloc ?_ _)); exact BK233.out) hb); have n1_ := Aside0.mk (below_step (by repeat (first | (with_reducible first | exact HB.out | apply below_alloc | apply pw_below_drewN | apply below_drew1 | refine below_set ?_ GE233.out) | exact HB.out)) hb); clear BK233; clear HB; have BK233 := n0_; have HB := n1_; clear n0_ n1_; (try clear hb); (try clear hb2); (try clear hk); (try clear hi); have hcz16_0 : w15.cell? ⟨gb233, 0, none⟩ = some (.string a1_0) := (blk_cell BK233.out 0).trans rfl; have hcz16_1 : w15.cell? ⟨gb233, 1, none⟩ = some (.int .i64 a1_1) := (blk_cell BK233.out 1).trans rfl; have hcz16_2 : w15.cell? ⟨gb233, 2, none⟩ = some (.int .i64 a1_2) := (blk_cell BK233.out 2).trans rfl; have hcz16_3 : w15.cell? ⟨gb233, 3, none⟩ = some (.string a1_3) := (blk_cell BK233.out 3).trans rfl; have hcz16_4 : w15.cell? ⟨gb233, 4, none⟩ = some (.string a1_4) := (blk_cell BK233.out 4).trans rfl; have hfz16_0 := blk_frozen BK233.out 0; have hfz16_1 := blk_frozen BK233.out 1; have hfz16_2 := blk_frozen BK233.out 2; have hfz16_3 := blk_frozen BK233.out 3; have hfz16_4 := blk_frozen BK233.out 4) | (go_at_call 65; (with_reducible refine (impl_ValidRecord.calls k a1_0 a1_1 a1_2 a1_3 a1_4 false _ A5.out).mono ?_); rintro e w17 ⟨rfl, hb⟩; have n0_ := Aside0.mk (blk_below (g := gb233) (o := .cells #[.string a1_0, .int .i64 a1_1, .int .i64 a1_2, .string a1_3, .string a1_4] 39 (0, 0)) (by (with_reducible repeat (first | refine blk_drewN ?_ _ | refine blk_drew ?_ | refine blk_alloc ?_ _)); exact BK233.out) hb); have n1_ := Aside0.mk (below_step (by repeat (first | (with_reducible first | exact HB.out | apply below_alloc | apply pw_below_drewN | apply below_drew1 | refine below_set ?_ GE233.out) | exact HB.out)) hb); clear BK233; clear HB; have BK233 := n0_; have HB := n1_; clear n0_ n1_; (try clear hb); (try clear hb2); (try clear hk); (try clear hi)))
   go_ret2
   exact ⟨_, by first | rfl | (simp [errW_none, errW_some] <;> rfl) | (simp [*, errW_none, errW_some] <;> rfl), by first | exact Kd.R_nil _ _ _ _ _ | exact Kd.N_nil _ _ _ _ _ | exact Kd.V_nil _ _ _ _ _ | exact Kd.Q_nil _ _ _ _ _ | exact Kd.S_nil _ _ _ _ _, by repeat (first | (with_reducible first | exact HB.out | apply below_alloc | apply pw_below_drewN | apply below_drew1 | refine below_set ?_ GE233.out) | exact HB.out)⟩
 ·replace c4 := Bool.eq_false_iff.mpr c4
  subst c4
  have H1 : (some (([] : List (S47)), 1)) = some (r1, r2) := by rw [if_neg (show ¬ (false = true) by decide)] at H; exact H
  clear H
  have H := H1
  clear H1
  simp only [Option.some.injEq, Prod.mk.injEq] at H
  obtain ⟨rfl, rfl⟩ := H
  go_enter Try.func20, Try.ntmps20
  go_wp2_with (first | ((with_reducible refine gate_dst (N := 3) rfl ?_); refine box_event ?hg (N := 3) ?hd (cs := #[.string a1_0, .int .i64 a1_1, .int .i64 a1_2, .string a1_3, .string a1_4]) (t := 39) ?hr ?_; (case hd => rfl); (case hg => rfl); (case hr => first | (go_simp; done) | (go_simp; rfl)); intro gb233 hg w18 hbox hb; have n0_ := Aside0.mk (below_step (by repeat (first | (with_reducible first | exact HB.out | apply below_alloc | apply pw_below_drewN | apply below_drew1) | exact HB.out)) hb); have n1_ := Aside0.mk (hbox); have n2_ := Aside0.mk ((by rw [hg]; exact (below_size (by repeat (first | (with_reducible first | exact HB.out | apply below_alloc | apply pw_below_drewN | apply below_drew1) | exact HB.out))) : w.heap.size ≤ gb233)); have n3_ := Aside0.mk ((by rw [hg]; exact (below_size (by repeat (first | (with_reducible first | exact HB.out | apply below_alloc | apply pw_below_drewN | apply below_drew1) | exact HB.out))) : w.heap.size ≤ gb233)); clear HB; have HB := n0_; have BK233 := n1_; have GW233 := n2_; have GE233 := n3_; clear n0_ n1_ n2_ n3_; clear hb hbox hg) | ((with_reducible refine gate_callee (f := 64) rfl ?_); refine goesL_ (some 7) rfl rfl Try.func64 (by kernel_rfl) rfl #[.slice A0 l0.length c0] rfl (by (try simp only [List.map_toArray, List.map_cons, List.map_nil]); first | done | rfl | (simp only [List.length_drop, List.length_take]; rfl)) ?_; (with_reducible refine (impl_pairsOk.calls k _ _ l0 false _ ?side1 ?side2 A3.out).mono ?_); (case side1 => repeat (first | exact (Kd.C_below HR0.out HB.out) | (with_reducible refine Kd.C_alloc ?_ _) | (with_reducible refine Kd.C_drewN ?_ _) | (with_reducible refine Kd.C_drew ?_))); (case side2 => exact HC0.out); rintro e w19 ⟨rfl, hb⟩; refine ⟨_, rfl, ?_⟩; have n0_ := Aside0.mk (blk_below (g := gb233) (o := .cells #[.string a1_0, .int .i64 a1_1, .int .i64 a1_2, .string a1_3, .string a1_4] 39 (0, 0)) (by (with_reducible repeat (first | refine blk_drewN ?_ _ | refine blk_drew ?_ | refine blk_alloc ?_ _)); exact BK233.out) hb); have n1_ := Aside0.mk (below_step (by repeat (first | (with_reducible first | exact HB.out | apply below_alloc | apply pw_below_drewN | apply below_drew1 | refine below_set ?_ GE233.out) | exact HB.out)) hb); clear BK233; clear HB; have BK233 := n0_; have HB := n1_; clear n0_ n1_; (try clear hb); (try clear hb2); (try clear hk); (try clear hi)))
  go_ret2
  exact ⟨_, by first | rfl | (simp [errW_none, errW_some] <;> rfl) | (simp [*, errW_none, errW_some] <;> rfl), by first | exact Kd.R_nil _ _ _ _ _ | exact Kd.N_nil _ _ _ _ _ | exact Kd.V_nil _ _ _ _ _ | exact Kd.Q_nil _ _ _ _ _ | exact Kd.S_nil _ _ _ _ _, by repeat (first | (with_reducible first | exact HB.out | apply below_alloc | apply pw_below_drewN | apply below_drew1 | refine below_set ?_ GE233.out) | exact HB.out)⟩
mutual
def impl_StatesAfter.l0 : Nat → List (S47) → List (List (S47)) → List (List (S39)) → Int → Int → Option ((List (List (S47))))
 | 0, _, _, _, _, _ => none
 | k + 1, x0, x5, x15, x16, x17 => if x17 < x16 then (if 0 ≤ x17 then (if x17 < (x15.length : Int) then (impl_StatesAfter.l1 k x0 x5 x15 x16 x17 (rd_L7 x15 x17) ((rd_L7 x15 x17).length : Int) 0) else (none)) else (none)) else (some x5)
def impl_StatesAfter.l1 : Nat → List (S47) → List (List (S47)) → List (List (S39)) → Int → Int → List (S39) → Int → Int → Option ((List (List (S47))))
 | 0, _, _, _, _, _, _, _, _ => none
 | k + 1, x0, x5, x15, x16, x17, x21, x22, x23 => if x23 < x22 then (if 0 ≤ x23 then (if x23 < (x21.length : Int) then ((impl_ApplyRecord.f k x0 ((rd_T39 x21 x23).f0) 1 ((rd_T39 x21 x23).f2) ((rd_T39 x21 x23).f3) ((rd_T39 x21 x23).f4)).bind fun bt248 => (if bt248.2 = 0 then (impl_StatesAfter.l1 k bt248.1 x5 x15 x16 x17 x21 x22 (wrap64 (x23 + 1))) else (some ([] : List (List (S47)))))) else (none)) else (none)) else ((slices_Clone_Pair.f x0).bind fun t252 => (if x5.length < 5864062014805 then (impl_StatesAfter.l0 k x0 (x5 ++ [t252]) x15 x16 (wrap64 (x17 + 1))) else (none)))
end
def impl_StatesAfter.f (k : Nat) (l0 : List (S47)) (l1 : List (List (S39))) : Option ((List (List (S47)))) := (slices_Clone_Pair.f l0).bind fun t239 => (impl_StatesAfter.l0 k l0 (([t239] : List (List (S47)))) l1 (l1.length : Int) 0)
theorem impl_StatesAfter.mono_l : ∀ k, (∀ y0 y1 y2 y3 y4, LeO (impl_StatesAfter.l0 k y0 y1 y2 y3 y4) (impl_StatesAfter.l0 (k + 1) y0 y1 y2 y3 y4)) ∧ (∀ y0 y1 y2 y3 y4 y5 y6 y7, LeO (impl_StatesAfter.l1 k y0 y1 y2 y3 y4 y5 y6 y7) (impl_StatesAfter.l1 (k + 1) y0 y1 y2 y3 y4 y5 y6 y7))
 | 0 => ⟨fun _ _ _ _ _ r h => by simp [impl_StatesAfter.l0] at h, fun _ _ _ _ _ _ _ _ r h => by simp [impl_StatesAfter.l1] at h⟩
 | k + 1 => by
  obtain ⟨ih0, ih1⟩ := impl_StatesAfter.mono_l k
  refine ⟨?_, ?_⟩
  ·intro y0 y1 y2 y3 y4
   unfold impl_StatesAfter.l0
   repeat' first
   | (with_reducible exact ih0 _ _ _ _ _)
   | (with_reducible exact ih1 _ _ _ _ _ _ _ _)
   | (with_reducible exact impl_ApplyRecord.mono _ _ _ _ _ _ _)
   | (with_reducible exact LeO.refl _)
   | (with_reducible exact LeO.none _)
   | (with_reducible refine LeO.ite ?_ ?_)
   | (with_reducible refine LeO.bind ?_ (fun _ => ?_))
   | exact ih0 _ _ _ _ _
   | exact ih1 _ _ _ _ _ _ _ _
   | exact impl_ApplyRecord.mono _ _ _ _ _ _ _
   | exact LeO.none _
   | refine LeO.ite ?_ ?_
   | refine LeO.bind ?_ (fun _ => ?_)
  ·intro y0 y1 y2 y3 y4 y5 y6 y7
   unfold impl_StatesAfter.l1
   repeat' first
   | (with_reducible exact ih0 _ _ _ _ _)
   | (with_reducible exact ih1 _ _ _ _ _ _ _ _)
   | (with_reducible exact impl_ApplyRecord.mono _ _ _ _ _ _ _)
   | (with_reducible exact LeO.refl _)
   | (with_reducible exact LeO.none _)
   | (with_reducible refine LeO.ite ?_ ?_)
   | (with_reducible refine LeO.bind ?_ (fun _ => ?_))
   | exact ih0 _ _ _ _ _
   | exact ih1 _ _ _ _ _ _ _ _
   | exact impl_ApplyRecord.mono _ _ _ _ _ _ _
   | exact LeO.none _
   | refine LeO.ite ?_ ?_
   | refine LeO.bind ?_ (fun _ => ?_)
theorem impl_StatesAfter.mono : ∀ a0 a1 k, LeO (impl_StatesAfter.f k a0 a1) (impl_StatesAfter.f (k + 1) a0 a1) := by
 intro a0 a1 k
 obtain ⟨ih0, ih1⟩ := impl_StatesAfter.mono_l k
 unfold impl_StatesAfter.f
 repeat' first
   | (with_reducible exact ih0 _ _ _ _ _)
   | (with_reducible exact ih1 _ _ _ _ _ _ _ _)
   | (with_reducible exact impl_ApplyRecord.mono _ _ _ _ _ _ _)
   | (with_reducible exact LeO.refl _)
   | (with_reducible exact LeO.none _)
   | (with_reducible refine LeO.ite ?_ ?_)
   | (with_reducible refine LeO.bind ?_ (fun _ => ?_))
   | exact ih0 _ _ _ _ _
   | exact ih1 _ _ _ _ _ _ _ _
   | exact impl_ApplyRecord.mono _ _ _ _ _ _ _
   | exact LeO.none _
   | refine LeO.ite ?_ ?_
   | refine LeO.bind ?_ (fun _ => ?_)
set_option maxHeartbeats 8000000 in
set_option maxRecDepth 100000 in
theorem impl_StatesAfter.calls (k : Nat) (P0_ : Nat → Prop) (A0 : Option Addr) (c0 : Nat) (l0 : List (S47)) (A1 : Option Addr) (c1 : Nat) (l1 : List (List (S39))) (r : List (List (S47))) (w : World) (hs0 : Kd.V k47 47 w w.heap.size (fun k_ => P0_ k_) (.slice A0 l0.length c0) l0) (hr1 : Kd.C (Kd.slice 39 k39) w A1 l1.length l1) (hc1 : l1.length ≤ c1) (h : impl_StatesAfter.f k l0 l1 = some r) :
  Calls Try.prog 28 #[.slice A0 l0.length c0, .slice A1 l1.length c1] w fun e w' => ∃ v0_ : Value, e = .returned (v0_) ∧ Kd.N (Kd.slice 47 k47) 27 w' w.heap.size (fun k_ => (P0_ k_ ∨ w.heap.size ≤ k_)) v0_ r ∧ Below w.heap.size w w' := by
 have hu39 := Try.underlying39
 have HO0 := Aside0.mk (show Kd.V k47 47 w w.heap.size (fun k_ => (P0_ k_ ∨ w.heap.size ≤ k_)) (.slice A0 l0.length c0) l0 from Kd.V_mono hs0 (fun k_ hk => .inl hk))
 have HR1 := Aside0.mk hr1
 have HC1 := Aside0.mk hc1
 clear hr1 hc1
 have HB := Aside0.mk (Below.refl w.heap.size w)
 have H : ((slices_Clone_Pair.f l0).bind fun t239 => (impl_StatesAfter.l0 k l0 (([t239] : List (List (S47)))) l1 (l1.length : Int) 0)) = some r := h
 clear h
 replace H := Option.bind_eq_some_iff.mp H
 obtain ⟨t239, A30, H⟩ := H
 replace H : (impl_StatesAfter.l0 k l0 (([t239] : List (List (S47)))) l1 (l1.length : Int) 0) = some r := H
 have A3 := Aside0.mk A30
 clear A30
 obtain ⟨y242, hy242⟩ : ∃ y_ : List (List (S47)), y_ = (([t239] : List (List (S47)))) := ⟨_, rfl⟩
 replace H : (impl_StatesAfter.l0 k l0 y242 l1 (l1.length : Int) 0) = some r := by first | (rw [hy242]; with_reducible exact H) | (have H2_ := (Option.bind_some _ _).symm.trans H; rw [hy242]; with_reducible exact H2_) | (have H2_ := (Option.bind_some _ _).symm.trans H; with_reducible exact H2_) | with_reducible exact H | (rw [hy242]; exact H) | exact H
 have Ny242 := Aside0.mk hy242
 clear hy242
 have H' := Aside0.mk H
 clear H
 go_enter Try.func28, Try.ntmps28
 go_wp2_with (first | ((with_reducible refine gate_callee (f := 75) rfl ?_); refine goesL_ (some 13) rfl rfl Try.func75 (by kernel_rfl) rfl #[.slice A0 l0.length c0] rfl (by (try simp only [List.map_toArray, List.map_cons, List.map_nil]); first | done | rfl | (simp only [List.length_drop, List.length_take]; rfl)) ?_; (with_reducible refine (slices_Clone_Pair.calls _ _ l0 t239 _ ?side1 ?side2 A3.out).mono ?_); (case side1 => repeat (first | exact (Kd.V_reads' HO0.out).2.2 | (with_reducible refine Kd.C_alloc ?_ _) | (with_reducible refine Kd.C_drewN ?_ _) | (with_reducible refine Kd.C_drew ?_))); (case side2 => exact (Kd.V_reads' HO0.out).2.1); rintro e w4 ⟨v240, rfl, ho0, hb⟩; refine ⟨_, rfl, ?_⟩; have n0_ := Aside0.mk (Kd.V_elder' (by (with_reducible repeat (first | apply Kd.V_alloc | apply Kd.V_drewN | apply Kd.V_drew)); exact HO0.out) (Kd.R_base ho0) hb); have n1_ := Aside0.mk (Kd.R_lower (Kd.R_newM (M := fun k_ => (w.heap.size ≤ k_)) ho0 (below_size (by repeat (first | (with_reducible first | exact HB.out | apply below_alloc | apply pw_below_drewN | apply below_drew1) | exact HB.out))) (fun k_ h_ => h_)) (below_size (by repeat (first | (with_reducible first | exact HB.out | apply below_alloc | apply pw_below_drewN | apply below_drew1) | exact HB.out)))); have n2_ := Aside0.mk (below_step (by repeat (first | (with_reducible first | exact HB.out | apply below_alloc | apply pw_below_drewN | apply below_drew1) | exact HB.out)) hb); clear HO0; clear HB; have HO0 := n0_; have HO241 := n1_; have HB := n2_; clear n0_ n1_ n2_; (try clear hb); (try clear hb2); (try clear hk); (try clear hi); (try clear ho0); obtain ⟨Ao5, co5, eo5⟩ := Kd.R_slice HO241.out; subst eo5) | ((with_reducible refine gate_dst (N := 14) rfl ?_); refine Kd.N_lit (Kd.slice 47 k47) _ 27 ?hg (N' := 14) ?hd (xs := ([t239] : List (List (S47)))) (inner := [.slice Ao5 t239.length co5]) (ok := (fun k_ => (P0_ k_ ∨ w.heap.size ≤ k_))) (okp := (fun k_ => (P0_ k_ ∨ w.heap.size ≤ k_))) ?hr ?hp (fun _ hk => hk) ((show ∀ k_, w4.heap.size ≤ k_ → (fun k_ => (P0_ k_ ∨ w.heap.size ≤ k_)) k_ from fun k_ hk => (.inr (Nat.le_trans (below_size (by repeat (first | (with_reducible first | exact HB.out | apply below_alloc | apply pw_below_drewN | apply below_drew1) | exact HB.out))) hk))) _ (Nat.le_refl _)) (Below.refl _ _) (Nat.le_refl _) (by simp) ?_; (case hd => rfl); (case hg => rfl); (case hr => first | (go_simp; done) | (go_simp; rfl)); (case hp => exact (Reps.one (show Kd.FK (Kd.slice 47 k47) _ _ t239 [.slice Ao5 t239.length co5] from (Kd.FK_slice_mk (Kd.R_reads' (Kd.R_mono (ok' := (fun k_ => (P0_ k_ ∨ w.heap.size ≤ k_))) (HO241.out) (fun k_ hk => (.inr (hk.1))))).2.1 (Kd.R_F (Kd.R_mono (ok' := (fun k_ => (P0_ k_ ∨ w.heap.size ≤ k_))) (HO241.out) (fun k_ hk => (.inr (hk.1))))))) (Reps.none _ _))); intro v243 w6 ho7 hb hg_ hnew_; clear hg_ hnew_; (first | rw [← Ny242.out] at ho7 | (simp only [Int.reduceToNat] at ho7; rw [← Ny242.out] at ho7)); have n0_ := Aside0.mk (Kd.V_elder' (by (with_reducible repeat (first | apply Kd.V_alloc | apply Kd.V_drewN | apply Kd.V_drew)); exact HO0.out) (Kd.N_base ho7) hb); have n1_ := Aside0.mk (Kd.N_lower ho7 (below_size (by repeat (first | (with_reducible first | exact HB.out | apply below_alloc | apply pw_below_drewN | apply below_drew1) | exact HB.out)))); have n2_ := Aside0.mk (below_step (by repeat (first | (with_reducible first | exact HB.out | apply below_alloc | apply pw_below_drewN | apply below_drew1) | exact HB.out)) hb); clear HO0; clear HB; clear HO241; have HO0 := n0_; have HO244 := n1_; have HB := n2_; clear n0_ n1_ n2_; clear hb ho7))
 go_loopg [0, 5, 17] k (fun kq v0 v5 v17 w' => ∃ (x0_1 : List (S47)) (x5_1 : List (List (S47))) (x17_1 : Int), v17 = .int .i64 x17_1 ∧ Aside0 (impl_StatesAfter.l0 kq x0_1 x5_1 l1 (l1.length : Int) x17_1 = some r) ∧ Aside0 (kq ≤ k) ∧ Aside0 (Kd.V k47 47 w' w.heap.size (fun k_ => (P0_ k_ ∨ w.heap.size ≤ k_) ∧ some k_ ≠ (v5 : Value).ownBlock) v0 x0_1) ∧ Aside0 (Kd.N (Kd.slice 47 k47) 27 w' w.heap.size (fun k_ => (P0_ k_ ∨ w.heap.size ≤ k_)) v5 x5_1) ∧ Aside0 (Below w.heap.size w w'))
 case atStart => exact ⟨(l0), (y242), (0), (by first | rfl | (simp; done) | (simp [*]; done)), H', ⟨Nat.le_refl _⟩, ⟨by (with_reducible repeat (first | apply Kd.V_alloc | apply Kd.V_drewN | apply Kd.V_drew)); exact Kd.V_mono HO0.out (fun _ hk => ⟨hk.1.1, hk.2⟩)⟩, ⟨by (with_reducible repeat (first | apply Kd.N_alloc | apply Kd.N_drewN | apply Kd.N_drew)); exact HO244.out⟩, ⟨by repeat (first | (with_reducible first | exact HB.out | apply below_alloc | apply pw_below_drewN | apply below_drew1) | exact HB.out)⟩⟩
 case round =>
  clear H'
  try clear c1
  try clear c2
  try clear p2
  try clear c7
  obtain ⟨x0_1, x5_1, x17_1, rfl, HA, HK1, HO_0, HO_5, HB⟩ := hrel
  cases gk with
  | zero => exact absurd HA.out (by simp [impl_StatesAfter.l0])
  | succ k1 =>
   have H := HA.out
   clear HA
   simp only [impl_StatesAfter.l0] at H
   by_cases c8 : x17_1 < (l1.length : Int)
   ·rw [if_pos c8] at H
    have c8b0 : decide (x17_1 < (l1.length : Int)) = true := decide_eq_true c8
    clear c8
    by_cases c9 : 0 ≤ x17_1
    ·rw [if_pos c9] at H
     have c9b0 : decide (0 ≤ x17_1) = true := decide_eq_true c9
     clear c9
     by_cases c10 : x17_1 < (l1.length : Int)
     ·rw [if_pos c10] at H
      have c10b0 : decide (x17_1 < (l1.length : Int)) = true := decide_eq_true c10
      clear c10
      have H' := Aside0.mk H
      clear H
      have p245 : 0 ≤ (x17_1 : Int) := of_decide_eq_true (by first | (with_reducible assumption) | assumption)
      have q245 : x17_1 < (l1.length : Int) := of_decide_eq_true (by first | (with_reducible assumption) | assumption)
      obtain ⟨ad245, A245_0, c245_0, e245, hx245_0, hl245_0, hi245_0⟩ := at_L7 HR1.out x17_1 p245 q245
      cases e245
      replace hx245_0 := (HB.out.cell (World.block_lt_of_cell? w _ hx245_0)).trans hx245_0
      have HR245_0 := Aside0.mk hi245_0
      have HC245_0 := Aside0.mk hl245_0
      clear hi245_0 hl245_0
      replace p245 := eq_true p245
      replace q245 := eq_true q245
      go_wp2
      go_loopg [0, 23] k1 (fun kq v0 v23 w' => ∃ (x0_2 : List (S47)) (x23_2 : Int), v23 = .int .i64 x23_2 ∧ Aside0 (impl_StatesAfter.l1 kq x0_2 x5_1 l1 (l1.length : Int) x17_1 (rd_L7 l1 x17_1) ((rd_L7 l1 x17_1).length : Int) x23_2 = some r) ∧ Aside0 (kq ≤ k1) ∧ Aside0 (Kd.V k47 47 w' w.heap.size (fun k_ => (P0_ k_ ∨ w.heap.size ≤ k_) ∧ some k_ ≠ (u5 : Value).ownBlock) v0 x0_2) ∧ Aside0 (Kd.N (Kd.slice 47 k47) 27 w' w.heap.size (fun k_ => (P0_ k_ ∨ w.heap.size ≤ k_)) u5 x5_1) ∧ Aside0 (Below w.heap.size w w'))
      case atStart => exact ⟨(x0_1), (0), (by first | rfl | (simp; done) | (simp [*]; done)), H', ⟨Nat.le_refl _⟩, ⟨by (with_reducible repeat (first | apply Kd.V_alloc | apply Kd.V_drewN | apply Kd.V_drew)); exact HO_0.out⟩, ⟨by (with_reducible repeat (first | apply Kd.N_alloc | apply Kd.N_drewN | apply Kd.N_drew)); exact HO_5.out⟩, ⟨by repeat (first | (with_reducible first | exact HB.out | apply below_alloc | apply pw_below_drewN | apply below_drew1) | exact HB.out)⟩⟩
      case round =>
       clear H'
       try clear c1
       try clear c2
       try clear p2
       try clear q2
       try clear hx2
       try clear c7
       try clear c8
       try clear c8b0
       try clear c9
       try clear c9b0
       try clear c10
       try clear c10b0
       try clear hx245_0
       try clear p2
       try clear p245
       try clear q245
       obtain ⟨x0_2, x23_2, rfl, HA, HK2, HO_0, HO_5, HB⟩ := hrel
       cases gk with
       | zero => exact absurd HA.out (by simp [impl_StatesAfter.l1])
       | succ k2 =>
        have H := HA.out
        clear HA
        simp only [impl_StatesAfter.l1] at H
        by_cases c11 : x23_2 < ((rd_L7 l1 x17_1).length : Int)
        ·rw [if_pos c11] at H
         have c11b0 : decide (x23_2 < ((rd_L7 l1 x17_1).length : Int)) = true := decide_eq_true c11
         clear c11
         by_cases c12 : 0 ≤ x23_2
         ·rw [if_pos c12] at H
          have c12b0 : decide (0 ≤ x23_2) = true := decide_eq_true c12
          clear c12
          by_cases c13 : x23_2 < ((rd_L7 l1 x17_1).length : Int)
          ·rw [if_pos c13] at H
           have c13b0 : decide (x23_2 < ((rd_L7 l1 x17_1).length : Int)) = true := decide_eq_true c13
           clear c13
           replace H := Option.bind_eq_some_iff.mp H
           obtain ⟨⟨t248, t251⟩, A140, H⟩ := H
           replace H : (if t251 = 0 then (impl_StatesAfter.l1 k2 t248 x5_1 l1 (l1.length : Int) x17_1 (rd_L7 l1 x17_1) ((rd_L7 l1 x17_1).length : Int) (wrap64 (x23_2 + 1))) else (some ([] : List (List (S47))))) = some r := H
           have A14 := Aside0.mk A140
           clear A140
           by_cases c15 : t251 = 0
           ·rw [if_pos c15] at H
            have c15b0 : (t251 == 0) = true := beq_iff_eq.mpr c15
            have c15b1 : (t251 != 0) = false := bne_eq_false_iff_eq.mpr c15
            clear c15
            have H' := Aside0.mk H
            clear H
            have p246 : 0 ≤ (x23_2 : Int) := of_decide_eq_true (by first | (with_reducible assumption) | assumption)
            have q246 : x23_2 < ((rd_L7 l1 x17_1).length : Int) := of_decide_eq_true (by first | (with_reducible assumption) | assumption)
            obtain ⟨ad246, e246, hx246_0, hx246_1, hx246_2, hx246_3, hx246_4⟩ := at_T39 HR245_0.out x23_2 p246 q246
            cases e246
            replace hx246_0 := (HB.out.cell (World.block_lt_of_cell? w _ hx246_0)).trans hx246_0
            replace hx246_1 := (HB.out.cell (World.block_lt_of_cell? w _ hx246_1)).trans hx246_1
            replace hx246_2 := (HB.out.cell (World.block_lt_of_cell? w _ hx246_2)).trans hx246_2
            replace hx246_3 := (HB.out.cell (World.block_lt_of_cell? w _ hx246_3)).trans hx246_3
            replace hx246_4 := (HB.out.cell (World.block_lt_of_cell? w _ hx246_4)).trans hx246_4
            replace p246 := eq_true p246
            replace q246 := eq_true q246
            obtain ⟨Ao18, co18, eo18⟩ := Kd.V_slice HO_0.out
            subst eo18
            go_wp2_with (first | ((with_reducible refine gate_callee (f := 20) rfl ?_); refine goesL_ (some 31) rfl rfl Try.func20 (by kernel_rfl) rfl #[.slice Ao18 x0_2.length co18, .agg #[.string ((rd_T39 (rd_L7 l1 x17_1) x23_2).f0), .int .i64 1, .int .i64 ((rd_T39 (rd_L7 l1 x17_1) x23_2).f2), .string ((rd_T39 (rd_L7 l1 x17_1) x23_2).f3), .string ((rd_T39 (rd_L7 l1 x17_1) x23_2).f4)]] rfl (by (try simp only [List.map_toArray, List.map_cons, List.map_nil]); first | done | rfl | (simp only [List.length_drop, List.length_take]; rfl)) ?_; (with_reducible refine (impl_ApplyRecord.calls k2 _ _ x0_2 ((rd_T39 (rd_L7 l1 x17_1) x23_2).f0) 1 ((rd_T39 (rd_L7 l1 x17_1) x23_2).f2) ((rd_T39 (rd_L7 l1 x17_1) x23_2).f3) ((rd_T39 (rd_L7 l1 x17_1) x23_2).f4) t248 t251 _ ?side1 ?side2 A14.out).mono ?_); (case side1 => refine (Kd.V_reads' (e := 47) (base := w.heap.size) (ok := fun k_ => (((P0_ k_ ∨ w.heap.size ≤ k_) ∧ some k_ ≠ (u5 : Value).ownBlock))) (n := x0_2.length) (c := co18) ?_).2.2; exact (by (with_reducible repeat (first | apply Kd.V_alloc | apply Kd.V_drewN | apply Kd.V_drew)); exact HO_0.out)); (case side2 => exact (Kd.V_reads' HO_0.out).2.1); rintro e w19 ⟨v249, rfl, ho0, hb⟩; refine ⟨_, rfl, ?_⟩; have n0_ := Aside0.mk (Kd.V_elder' (by (with_reducible repeat (first | apply Kd.V_alloc | apply Kd.V_drewN | apply Kd.V_drew)); exact HO_0.out) (Kd.R_base ho0) hb); have n1_ := Aside0.mk (Kd.N_elder' (by (with_reducible repeat (first | apply Kd.N_alloc | apply Kd.N_drewN | apply Kd.N_drew)); exact HO_5.out) (Kd.R_base ho0) hb); have n2_ := Aside0.mk (Kd.R_lower (Kd.R_newM (M := fun k_ => (w.heap.size ≤ k_)) ho0 (below_size (by repeat (first | (with_reducible first | exact HB.out | apply below_alloc | apply pw_below_drewN | apply below_drew1) | exact HB.out))) (fun k_ h_ => h_)) (below_size (by repeat (first | (with_reducible first | exact HB.out | apply below_alloc | apply pw_below_drewN | apply below_drew1) | exact HB.out)))); have n4_ := Aside0.mk (below_step (by repeat (first | (with_reducible first | exact HB.out | apply below_alloc | apply pw_below_drewN | apply below_drew1) | exact HB.out)) hb); clear HO_0; clear HO_5; clear HB; have HO_0 := n0_; have HO_5 := n1_; have HO250 := n2_; have HB := n4_; clear n0_ n1_ n2_ n4_; (try clear hb); (try clear hb2); (try clear hk); (try clear hi); (try clear ho0)))
            go_roundg k2
            case measure => have := HK1.out; have := HK2.out; omega
            case rel => exact ⟨(t248), (wrap64 (x23_2 + 1)), (by first | rfl | (simp; done) | (simp [*]; done)), H', ⟨by have := HK1.out; have := HK2.out; omega⟩, ⟨Kd.V_mono (Kd.R_V (by (with_reducible repeat (first | apply Kd.R_alloc | apply Kd.R_drewN | apply Kd.R_drew)); exact (show Kd.R k47 47 _ w.heap.size (fun k_ => w.heap.size ≤ k_ ∧ some k_ ≠ (u5 : Value).ownBlock) _ _ from Kd.R_mono (Kd.R_apart' HO250.out (Kd.N_typed HO_5.out) (by decide)) (fun _ hk => ⟨hk.1.1, hk.2⟩)))) (fun k_ hk => by first | exact ⟨(.inr (hk.1)), hk.2⟩ | exact (.inr (hk)))⟩, ⟨by (with_reducible repeat (first | apply Kd.N_alloc | apply Kd.N_drewN | apply Kd.N_drew)); exact Kd.N_mono HO_5.out (fun _ hk => hk.1)⟩, ⟨by repeat (first | (with_reducible first | exact HB.out | apply below_alloc | apply pw_below_drewN | apply below_drew1) | exact HB.out)⟩⟩
           ·rw [if_neg c15] at H
            have c15b0 : (t251 == 0) = false := beq_eq_false_iff_ne.mpr c15
            have c15b1 : (t251 != 0) = true := bne_iff_ne.mpr c15
            obtain rfl := Option.some.inj H
            have p246 : 0 ≤ (x23_2 : Int) := of_decide_eq_true (by first | (with_reducible assumption) | assumption)
            have q246 : x23_2 < ((rd_L7 l1 x17_1).length : Int) := of_decide_eq_true (by first | (with_reducible assumption) | assumption)
            obtain ⟨ad246, e246, hx246_0, hx246_1, hx246_2, hx246_3, hx246_4⟩ := at_T39 HR245_0.out x23_2 p246 q246
            cases e246
            replace hx246_0 := (HB.out.cell (World.block_lt_of_cell? w _ hx246_0)).trans hx246_0
            replace hx246_1 := (HB.out.cell (World.block_lt_of_cell? w _ hx246_1)).trans hx246_1
            replace hx246_2 := (HB.out.cell (World.block_lt_of_cell? w _ hx246_2)).trans hx246_2
            replace hx246_3 := (HB.out.cell (World.block_lt_of_cell? w _ hx246_3)).trans hx246_3
            replace hx246_4 := (HB.out.cell (World.block_lt_of_cell? w _ hx246_4)).trans hx246_4
            replace p246 := eq_true p246
            replace q246 := eq_true q246
            obtain ⟨Ao22, co22, eo22⟩ := Kd.V_slice HO_0.out
            subst eo22
            go_wp2_with (first | ((with_reducible refine gate_callee (f := 20) rfl ?_); refine goesL_ (some 31) rfl rfl Try.func20 (by kernel_rfl) rfl #[.slice Ao22 x0_2.length co22, .agg #[.string ((rd_T39 (rd_L7 l1 x17_1) x23_2).f0), .int .i64 1, .int .i64 ((rd_T39 (rd_L7 l1 x17_1) x23_2).f2), .string ((rd_T39 (rd_L7 l1 x17_1) x23_2).f3), .string ((rd_T39 (rd_L7 l1 x17_1) x23_2).f4)]] rfl (by (try simp only [List.map_toArray, List.map_cons, List.map_nil]); first | done | rfl | (simp only [List.length_drop, List.length_take]; rfl)) ?_; (with_reducible refine (impl_ApplyRecord.calls k2 _ _ x0_2 ((rd_T39 (rd_L7 l1 x17_1) x23_2).f0) 1 ((rd_T39 (rd_L7 l1 x17_1) x23_2).f2) ((rd_T39 (rd_L7 l1 x17_1) x23_2).f3) ((rd_T39 (rd_L7 l1 x17_1) x23_2).f4) t248 t251 _ ?side1 ?side2 A14.out).mono ?_); (case side1 => refine (Kd.V_reads' (e := 47) (base := w.heap.size) (ok := fun k_ => (((P0_ k_ ∨ w.heap.size ≤ k_) ∧ some k_ ≠ (u5 : Value).ownBlock))) (n := x0_2.length) (c := co22) ?_).2.2; exact (by (with_reducible repeat (first | apply Kd.V_alloc | apply Kd.V_drewN | apply Kd.V_drew)); exact HO_0.out)); (case side2 => exact (Kd.V_reads' HO_0.out).2.1); rintro e w23 ⟨v249, rfl, ho0, hb⟩; refine ⟨_, rfl, ?_⟩; have n0_ := Aside0.mk (Kd.V_elder' (by (with_reducible repeat (first | apply Kd.V_alloc | apply Kd.V_drewN | apply Kd.V_drew)); exact HO_0.out) (Kd.R_base ho0) hb); have n1_ := Aside0.mk (Kd.N_elder' (by (with_reducible repeat (first | apply Kd.N_alloc | apply Kd.N_drewN | apply Kd.N_drew)); exact HO_5.out) (Kd.R_base ho0) hb); have n2_ := Aside0.mk (Kd.R_lower (Kd.R_newM (M := fun k_ => (w.heap.size ≤ k_)) ho0 (below_size (by repeat (first | (with_reducible first | exact HB.out | apply below_alloc | apply pw_below_drewN | apply below_drew1) | exact HB.out))) (fun k_ h_ => h_)) (below_size (by repeat (first | (with_reducible first | exact HB.out | apply below_alloc | apply pw_below_drewN | apply below_drew1) | exact HB.out)))); have n4_ := Aside0.mk (below_step (by repeat (first | (with_reducible first | exact HB.out | apply below_alloc | apply pw_below_drewN | apply below_drew1) | exact HB.out)) hb); clear HO_0; clear HO_5; clear HB; have HO_0 := n0_; have HO_5 := n1_; have HO250 := n2_; have HB := n4_; clear n0_ n1_ n2_ n4_; (try clear hb); (try clear hb2); (try clear hk); (try clear hi); (try clear ho0)))
            go_ret
            exact ⟨_, by first | rfl | (simp [errW_none, errW_some] <;> rfl) | (simp [*, errW_none, errW_some] <;> rfl), by first | exact Kd.S_nil _ _ _ _ _ | exact Kd.N_nil _ _ _ _ _ | exact Kd.V_nil _ _ _ _ _ | exact Kd.Q_nil _ _ _ _ _ | exact Kd.R_nil _ _ _ _ _, by repeat (first | (with_reducible first | exact HB.out | apply below_alloc | apply pw_below_drewN | apply below_drew1) | exact HB.out)⟩
          ·rw [if_neg c13] at H
           exact absurd H (by simp)
         ·rw [if_neg c12] at H
          exact absurd H (by simp)
        ·rw [if_neg c11] at H
         have c11b0 : decide (x23_2 < ((rd_L7 l1 x17_1).length : Int)) = false := decide_eq_false c11
         clear c11
         replace H := Option.bind_eq_some_iff.mp H
         obtain ⟨t252, A240, H⟩ := H
         replace H : (if x5_1.length < 5864062014805 then (impl_StatesAfter.l0 k2 x0_2 (x5_1 ++ [t252]) l1 (l1.length : Int) (wrap64 (x17_1 + 1))) else (none)) = some r := H
         have A24 := Aside0.mk A240
         clear A240
         by_cases c25 : x5_1.length < 5864062014805
         ·rw [if_pos c25] at H
          have LMc25 := Aside0.mk c25
          clear c25
          obtain ⟨y255, hy255⟩ : ∃ y_ : List (List (S47)), y_ = (x5_1 ++ [t252]) := ⟨_, rfl⟩
          replace H : (impl_StatesAfter.l0 k2 x0_2 y255 l1 (l1.length : Int) (wrap64 (x17_1 + 1))) = some r := by first | (rw [hy255]; with_reducible exact H) | (have H2_ := (Option.bind_some _ _).symm.trans H; rw [hy255]; with_reducible exact H2_) | (have H2_ := (Option.bind_some _ _).symm.trans H; with_reducible exact H2_) | with_reducible exact H | (rw [hy255]; exact H) | exact H
          have Ny255 := Aside0.mk hy255
          clear hy255
          have H' := Aside0.mk H
          clear H
          obtain ⟨Ao26, co26, eo26⟩ := Kd.V_slice HO_0.out
          subst eo26
          go_wp2_with (first | ((with_reducible refine gate_callee (f := 75) rfl ?_); refine goesL_ (some 40) rfl rfl Try.func75 (by kernel_rfl) rfl #[.slice Ao26 x0_2.length co26] rfl (by (try simp only [List.map_toArray, List.map_cons, List.map_nil]); first | done | rfl | (simp only [List.length_drop, List.length_take]; rfl)) ?_; (with_reducible refine (slices_Clone_Pair.calls _ _ x0_2 t252 _ ?side1 ?side2 A24.out).mono ?_); (case side1 => repeat (first | exact (Kd.V_reads' HO_0.out).2.2 | (with_reducible refine Kd.C_alloc ?_ _) | (with_reducible refine Kd.C_drewN ?_ _) | (with_reducible refine Kd.C_drew ?_))); (case side2 => exact (Kd.V_reads' HO_0.out).2.1); rintro e w27 ⟨v253, rfl, ho0, hb⟩; refine ⟨_, rfl, ?_⟩; have n0_ := Aside0.mk (Kd.V_elder' (by (with_reducible repeat (first | apply Kd.V_alloc | apply Kd.V_drewN | apply Kd.V_drew)); exact HO_0.out) (Kd.R_base ho0) hb); have n1_ := Aside0.mk (Kd.N_elder' (by (with_reducible repeat (first | apply Kd.N_alloc | apply Kd.N_drewN | apply Kd.N_drew)); exact HO_5.out) (Kd.R_base ho0) hb); have n2_ := Aside0.mk (Kd.R_lower (Kd.R_newM (M := fun k_ => (w.heap.size ≤ k_)) ho0 (below_size (by repeat (first | (with_reducible first | exact HB.out | apply below_alloc | apply pw_below_drewN | apply below_drew1) | exact HB.out))) (fun k_ h_ => h_)) (below_size (by repeat (first | (with_reducible first | exact HB.out | apply below_alloc | apply pw_below_drewN | apply below_drew1) | exact HB.out)))); have n3_ := Aside0.mk (below_step (by repeat (first | (with_reducible first | exact HB.out | apply below_alloc | apply pw_below_drewN | apply below_drew1) | exact HB.out)) hb); clear HO_0; clear HO_5; clear HB; have HO_0 := n0_; have HO_5 := n1_; have HO254 := n2_; have HB := n3_; clear n0_ n1_ n2_ n3_; (try clear hb); (try clear hb2); (try clear hk); (try clear hi); (try clear ho0); obtain ⟨Ao29, co29, eo29⟩ := Kd.R_slice HO254.out; subst eo29) | ((with_reducible refine gate_builtin (b := .append) (xs := #[.tmp 38, .tmp 41]) rfl ?_); at_builtin; refine Kd.N_append (Kd.slice 47 k47) (w0 := w) w.heap.size rfl (.tmp 38) (.tmp 41) 49 27 (.slice none 0 0) 24 rfl Try.underlying49 info27 rfl (by decide) (by omega) u5 x5_1 t252 [.slice Ao29 t252.length co29] (fun k_ => (P0_ k_ ∨ w.heap.size ≤ k_)) (fun k_ => ((fun k_ => (P0_ k_ ∨ w.heap.size ≤ k_))) k_ ∧ some k_ ≠ (u5 : Value).ownBlock) rfl rfl ?aP (fun _ hk => hk) ?aF ?aO ?aB ?aS ?aL ?_; (case aP => exact (Kd.FK_slice_mk (Kd.R_reads' (Kd.R_mono (ok' := (fun k_ => ((fun k_ => (P0_ k_ ∨ w.heap.size ≤ k_))) k_ ∧ some k_ ≠ (u5 : Value).ownBlock)) (Kd.R_apart' (HO254.out) (Kd.N_typed HO_5.out) (by decide)) (fun k_ hk => ⟨(.inr (hk.1.1)), hk.2⟩))).2.1 (Kd.R_F (Kd.R_mono (ok' := (fun k_ => ((fun k_ => (P0_ k_ ∨ w.heap.size ≤ k_))) k_ ∧ some k_ ≠ (u5 : Value).ownBlock)) (Kd.R_apart' (HO254.out) (Kd.N_typed HO_5.out) (by decide)) (fun k_ hk => ⟨(.inr (hk.1.1)), hk.2⟩))))); (case aB => exact (by repeat (first | (with_reducible first | exact HB.out | apply below_alloc | apply pw_below_drewN | apply below_drew1) | exact HB.out))); (case aF => exact (fun k_ hk => (.inr (Nat.le_trans (below_size (by repeat (first | (with_reducible first | exact HB.out | apply below_alloc | apply pw_below_drewN | apply below_drew1) | exact HB.out))) hk)))); (case aO => exact (by (with_reducible repeat (first | apply Kd.N_alloc | apply Kd.N_drewN | apply Kd.N_drew)); exact Kd.N_mono HO_5.out (fun _ hk => hk.1))); (case aS => exact (below_size (by repeat (first | (with_reducible first | exact HB.out | apply below_alloc | apply pw_below_drewN | apply below_drew1) | exact HB.out)))); (case aL => have := LMc25.out; omega); intro v256 w28 ho hb hg hat; rw [← Ny255.out] at ho; have n0_ := Aside0.mk (Kd.V_afterv (ok := (fun k_ => (P0_ k_ ∨ w.heap.size ≤ k_) ∧ some k_ ≠ (.slice Ao29 t252.length co29 : Value).ownBlock)) (by (with_reducible repeat (first | apply Kd.V_alloc | apply Kd.V_drewN | apply Kd.V_drew)); exact Kd.V_mono HO_0.out (fun _ hk => ⟨⟨hk.1.1, hk.2⟩, hk.1.2⟩)) hg hat); have n1_ := Aside0.mk (hb); have n2_ := Aside0.mk (ho); clear HO_0; clear HB; clear HO_5; clear HO254; have HO_0 := n0_; have HB := n1_; have HO257 := n2_; clear n0_ n1_ n2_; clear ho hb hg hat))
          go_roundg k2
          case measure => have := HK1.out; have := HK2.out; omega
          case rel => exact ⟨(x0_2), (y255), (wrap64 (x17_1 + 1)), (by first | rfl | (simp; done) | (simp [*]; done)), H', ⟨by have := HK1.out; have := HK2.out; omega⟩, ⟨by (with_reducible repeat (first | apply Kd.V_alloc | apply Kd.V_drewN | apply Kd.V_drew)); exact Kd.V_mono HO_0.out (fun _ hk => ⟨hk.1.1, hk.2⟩)⟩, ⟨by (with_reducible repeat (first | apply Kd.N_alloc | apply Kd.N_drewN | apply Kd.N_drew)); exact HO257.out⟩, ⟨by repeat (first | (with_reducible first | exact HB.out | apply below_alloc | apply pw_below_drewN | apply below_drew1) | exact HB.out)⟩⟩
         ·rw [if_neg c25] at H
          exact absurd H (by simp)
     ·rw [if_neg c10] at H
      exact absurd H (by simp)
    ·rw [if_neg c9] at H
     exact absurd H (by simp)
   ·rw [if_neg c8] at H
    have c8b0 : decide (x17_1 < (l1.length : Int)) = false := decide_eq_false c8
    clear c8
    obtain rfl := Option.some.inj H
    go_wp2
    go_ret
    exact ⟨_, by first | rfl | (simp [errW_none, errW_some] <;> rfl) | (simp [*, errW_none, errW_some] <;> rfl), by (with_reducible repeat (first | apply Kd.N_alloc | apply Kd.N_drewN | apply Kd.N_drew)); exact HO_5.out, by repeat (first | (with_reducible first | exact HB.out | apply below_alloc | apply pw_below_drewN | apply below_drew1) | exact HB.out)⟩
end Go.Proofs.Ytjamafchmeiifaa.F
/- impl.StatesAfter once more: the rows of its result lie apart. -/
namespace Go.Proofs.Ytjamafchmeiifaa.F
open Go.RowKit Go.Proofs.YtjamafchmeiifaaW.PrintWords Go.Proofs.YtjamafchmeiifaaW.PrintLast Go.Proofs.YtjamafchmeiifaaW.PrintMore Go.Proofs.YtjamafchmeiifaaXO
attribute [local go_sem] max2_int min2_int max_two min_two max_three min_three max_four min_four Go.Proofs.YtjamafchmeiifaaX.str_leq Go.Proofs.YtjamafchmeiifaaX.str_gtr Go.Proofs.YtjamafchmeiifaaX.str_geq
set_option linter.unusedVariables false
set_option linter.unusedSimpArgs false
theorem below_of_grown_none {w w1 : World} (h : w.grownBy w1 none) : Below w.heap.size w w1 := ⟨h.os, h.tape, h.output, h.size, fun i hi => h.block i hi (by simp)⟩
set_option maxHeartbeats 8000000 in
set_option maxRecDepth 100000 in
theorem impl_StatesAfter.callsS (k : Nat) (P0_ : Nat → Prop) (A0 : Option Addr) (c0 : Nat) (l0 : List (S47)) (A1 : Option Addr) (c1 : Nat) (l1 : List (List (S39))) (r : List (List (S47))) (w : World) (hs0 : Kd.V k47 47 w w.heap.size (fun k_ => P0_ k_) (.slice A0 l0.length c0) l0) (hr1 : Kd.C (Kd.slice 39 k39) w A1 l1.length l1) (hc1 : l1.length ≤ c1) (h : impl_StatesAfter.f k l0 l1 = some r) :
  Calls Try.prog 28 #[.slice A0 l0.length c0, .slice A1 l1.length c1] w fun e w' => ∃ v0_ : Value, e = .returned (v0_) ∧ Kd.S (Kd.slice 47 k47) 27 w' w.heap.size (fun k_ => w.heap.size ≤ k_) v0_ r ∧ Below w.heap.size w w' := by
 have hu39 := Try.underlying39
 have HO0 := Aside0.mk (show Kd.V k47 47 w w.heap.size (fun k_ => (P0_ k_ ∨ w.heap.size ≤ k_)) (.slice A0 l0.length c0) l0 from Kd.V_mono hs0 (fun k_ hk => .inl hk))
 have HR1 := Aside0.mk hr1
 have HC1 := Aside0.mk hc1
 clear hr1 hc1
 have HB := Aside0.mk (Below.refl w.heap.size w)
 have H : ((slices_Clone_Pair.f l0).bind fun t239 => (impl_StatesAfter.l0 k l0 (([t239] : List (List (S47)))) l1 (l1.length : Int) 0)) = some r := h
 clear h
 replace H := Option.bind_eq_some_iff.mp H
 obtain ⟨t239, A30, H⟩ := H
 replace H : (impl_StatesAfter.l0 k l0 (([t239] : List (List (S47)))) l1 (l1.length : Int) 0) = some r := H
 have A3 := Aside0.mk A30
 clear A30
 obtain ⟨y242, hy242⟩ : ∃ y_ : List (List (S47)), y_ = (([t239] : List (List (S47)))) := ⟨_, rfl⟩
 replace H : (impl_StatesAfter.l0 k l0 y242 l1 (l1.length : Int) 0) = some r := by first | (rw [hy242]; with_reducible exact H) | (have H2_ := (Option.bind_some _ _).symm.trans H; rw [hy242]; with_reducible exact H2_) | (have H2_ := (Option.bind_some _ _).symm.trans H; with_reducible exact H2_) | with_reducible exact H | (rw [hy242]; exact H) | exact H
 have Ny242 := Aside0.mk hy242
 clear hy242
 have H' := Aside0.mk H
 clear H
 go_enter Try.func28, Try.ntmps28
 go_wp2_with (first | ((with_reducible refine gate_callee (f := 75) rfl ?_); refine goesL_ (some 13) rfl rfl Try.func75 (by kernel_rfl) rfl #[.slice A0 l0.length c0] rfl (by (try simp only [List.map_toArray, List.map_cons, List.map_nil]); first | done | rfl | (simp only [List.length_drop, List.length_take]; rfl)) ?_; (with_reducible refine (slices_Clone_Pair.calls _ _ l0 t239 _ ?side1 ?side2 A3.out).mono ?_); (case side1 => repeat (first | exact (Kd.V_reads' HO0.out).2.2 | (with_reducible refine Kd.C_alloc ?_ _) | (with_reducible refine Kd.C_drewN ?_ _) | (with_reducible refine Kd.C_drew ?_))); (case side2 => exact (Kd.V_reads' HO0.out).2.1); rintro e w4 ⟨v240, rfl, ho0, hb⟩; refine ⟨_, rfl, ?_⟩; have n0_ := Aside0.mk (Kd.V_elder' (by (with_reducible repeat (first | apply Kd.V_alloc | apply Kd.V_drewN | apply Kd.V_drew)); exact HO0.out) (Kd.R_base ho0) hb); have n1_ := Aside0.mk (Kd.R_lower (Kd.R_newM (M := fun k_ => (w.heap.size ≤ k_)) ho0 (below_size (by repeat (first | (with_reducible first | exact HB.out | apply below_alloc | apply pw_below_drewN | apply below_drew1) | exact HB.out))) (fun k_ h_ => h_)) (below_size (by repeat (first | (with_reducible first | exact HB.out | apply below_alloc | apply pw_below_drewN | apply below_drew1) | exact HB.out)))); have n2_ := Aside0.mk (below_step (by repeat (first | (with_reducible first | exact HB.out | apply below_alloc | apply pw_below_drewN | apply below_drew1) | exact HB.out)) hb); clear HO0; clear HB; have HO0 := n0_; have HO241 := n1_; have HB := n2_; clear n0_ n1_ n2_; (try clear hb); (try clear hb2); (try clear hk); (try clear hi); (try clear ho0); obtain ⟨Ao5, co5, eo5⟩ := Kd.R_slice HO241.out; subst eo5) | ((with_reducible refine gate_dst (N := 14) rfl ?_); refine Kd.S_lits (w0 := w) (Kd.slice 47 k47) w.heap.size 27 ?hg (N := 14) ?hd (xs := ([t239] : List (List (S47)))) (inner := [.slice Ao5 t239.length co5]) (ok := fun k_ => w.heap.size ≤ k_) (fun j_ k_ => j_ = 0 ∧ some k_ = (.slice Ao5 t239.length co5 : Value).ownBlock) ?hr rfl ?hp ?ha ?ho (below_size (by repeat (first | (with_reducible first | exact HB.out | apply below_alloc | apply pw_below_drewN | apply below_drew1) | exact HB.out))) (by repeat (first | (with_reducible first | exact HB.out | apply below_alloc | apply pw_below_drewN | apply below_drew1) | exact HB.out)) (below_size (by repeat (first | (with_reducible first | exact HB.out | apply below_alloc | apply pw_below_drewN | apply below_drew1) | exact HB.out))) (by simp) ?_; (case hd => rfl); (case hg => rfl); (case hr => first | (go_simp; done) | (go_simp; rfl)); (case hp => intro j x hx; cases j with | zero => (cases hx; exact Kd.M_row (flat_ok flatPair HO241.out (fun k hk => ⟨rfl, hk.symm⟩))) | succ j => simp at hx); (case ha => exact fun i j k h1 h2 => h1.1.trans h2.1.symm); (case ho => exact fun j k h => Kd.R_base HO241.out k h.2.symm); intro v243 w6 ho7 hb0 hg_ hnew_; have hb := below_of_grown_none hg_; have hbs : ∀ k, (v243 : Value).ownBlock = some k → _ ≤ k := (fun k hk => by obtain ⟨b_, hb_, hl_⟩ := hnew_; rw [hk] at hb_; cases hb_; exact hl_); clear hg_ hnew_; (first | rw [← Ny242.out] at ho7 | (simp only [Int.reduceToNat] at ho7; rw [← Ny242.out] at ho7)); have n0_ := Aside0.mk (Kd.V_elder' (by (with_reducible repeat (first | apply Kd.V_alloc | apply Kd.V_drewN | apply Kd.V_drew)); exact HO0.out) hbs hb); have n1_ := Aside0.mk ho7; have n2_ := Aside0.mk hb0; clear HO0; clear HB; clear HO241; have HO0 := n0_; have HO244 := n1_; have HB := n2_; clear n0_ n1_ n2_; clear hb hb0 hbs ho7))
 go_loopg [0, 5, 17] k (fun kq v0 v5 v17 w' => ∃ (x0_1 : List (S47)) (x5_1 : List (List (S47))) (x17_1 : Int), v17 = .int .i64 x17_1 ∧ Aside0 (impl_StatesAfter.l0 kq x0_1 x5_1 l1 (l1.length : Int) x17_1 = some r) ∧ Aside0 (kq ≤ k) ∧ Aside0 (Kd.V k47 47 w' w.heap.size (fun k_ => (P0_ k_ ∨ w.heap.size ≤ k_) ∧ some k_ ≠ (v5 : Value).ownBlock) v0 x0_1) ∧ Aside0 (Kd.S (Kd.slice 47 k47) 27 w' w.heap.size (fun k_ => w.heap.size ≤ k_) v5 x5_1) ∧ Aside0 (Below w.heap.size w w'))
 case atStart => exact ⟨(l0), (y242), (0), (by first | rfl | (simp; done) | (simp [*]; done)), H', ⟨Nat.le_refl _⟩, ⟨by (with_reducible repeat (first | apply Kd.V_alloc | apply Kd.V_drewN | apply Kd.V_drew)); exact Kd.V_mono HO0.out (fun _ hk => ⟨hk.1.1, hk.2⟩)⟩, ⟨by (with_reducible repeat (first | apply Kd.S_alloc | apply Kd.S_drewN | apply Kd.S_drew)); exact HO244.out⟩, ⟨by repeat (first | (with_reducible first | exact HB.out | apply below_alloc | apply pw_below_drewN | apply below_drew1) | exact HB.out)⟩⟩
 case round =>
  clear H'
  try clear c1
  try clear c2
  try clear p2
  try clear c7
  obtain ⟨x0_1, x5_1, x17_1, rfl, HA, HK1, HO_0, HO_5, HB⟩ := hrel
  cases gk with
  | zero => exact absurd HA.out (by simp [impl_StatesAfter.l0])
  | succ k1 =>
   have H := HA.out
   clear HA
   simp only [impl_StatesAfter.l0] at H
   by_cases c8 : x17_1 < (l1.length : Int)
   ·rw [if_pos c8] at H
    have c8b0 : decide (x17_1 < (l1.length : Int)) = true := decide_eq_true c8
    clear c8
    by_cases c9 : 0 ≤ x17_1
    ·rw [if_pos c9] at H
     have c9b0 : decide (0 ≤ x17_1) = true := decide_eq_true c9
     clear c9
     by_cases c10 : x17_1 < (l1.length : Int)
     ·rw [if_pos c10] at H
      have c10b0 : decide (x17_1 < (l1.length : Int)) = true := decide_eq_true c10
      clear c10
      have H' := Aside0.mk H
      clear H
      have p245 : 0 ≤ (x17_1 : Int) := of_decide_eq_true (by first | (with_reducible assumption) | assumption)
      have q245 : x17_1 < (l1.length : Int) := of_decide_eq_true (by first | (with_reducible assumption) | assumption)
      obtain ⟨ad245, A245_0, c245_0, e245, hx245_0, hl245_0, hi245_0⟩ := at_L7 HR1.out x17_1 p245 q245
      cases e245
      replace hx245_0 := (HB.out.cell (World.block_lt_of_cell? w _ hx245_0)).trans hx245_0
      have HR245_0 := Aside0.mk hi245_0
      have HC245_0 := Aside0.mk hl245_0
      clear hi245_0 hl245_0
      replace p245 := eq_true p245
      replace q245 := eq_true q245
      go_wp2
      go_loopg [0, 23] k1 (fun kq v0 v23 w' => ∃ (x0_2 : List (S47)) (x23_2 : Int), v23 = .int .i64 x23_2 ∧ Aside0 (impl_StatesAfter.l1 kq x0_2 x5_1 l1 (l1.length : Int) x17_1 (rd_L7 l1 x17_1) ((rd_L7 l1 x17_1).length : Int) x23_2 = some r) ∧ Aside0 (kq ≤ k1) ∧ Aside0 (Kd.V k47 47 w' w.heap.size (fun k_ => (P0_ k_ ∨ w.heap.size ≤ k_) ∧ some k_ ≠ (u5 : Value).ownBlock) v0 x0_2) ∧ Aside0 (Kd.S (Kd.slice 47 k47) 27 w' w.heap.size (fun k_ => w.heap.size ≤ k_) u5 x5_1) ∧ Aside0 (Below w.heap.size w w'))
      case atStart => exact ⟨(x0_1), (0), (by first | rfl | (simp; done) | (simp [*]; done)), H', ⟨Nat.le_refl _⟩, ⟨by (with_reducible repeat (first | apply Kd.V_alloc | apply Kd.V_drewN | apply Kd.V_drew)); exact HO_0.out⟩, ⟨by (with_reducible repeat (first | apply Kd.S_alloc | apply Kd.S_drewN | apply Kd.S_drew)); exact HO_5.out⟩, ⟨by repeat (first | (with_reducible first | exact HB.out | apply below_alloc | apply pw_below_drewN | apply below_drew1) | exact HB.out)⟩⟩
      case round =>
       clear H'
       try clear c1
       try clear c2
       try clear p2
       try clear q2
       try clear hx2
       try clear c7
       try clear c8
       try clear c8b0
       try clear c9
       try clear c9b0
       try clear c10
       try clear c10b0
       try clear hx245_0
       try clear p2
       try clear p245
       try clear q245
       obtain ⟨x0_2, x23_2, rfl, HA, HK2, HO_0, HO_5, HB⟩ := hrel
       cases gk with
       | zero => exact absurd HA.out (by simp [impl_StatesAfter.l1])
       | succ k2 =>
        have H := HA.out
        clear HA
        simp only [impl_StatesAfter.l1] at H
        by_cases c11 : x23_2 < ((rd_L7 l1 x17_1).length : Int)
        ·rw [if_pos c11] at H
         have c11b0 : decide (x23_2 < ((rd_L7 l1 x17_1).length : Int)) = true := decide_eq_true c11
         clear c11
         by_cases c12 : 0 ≤ x23_2
         ·rw [if_pos c12] at H
          have c12b0 : decide (0 ≤ x23_2) = true := decide_eq_true c12
          clear c12
          by_cases c13 : x23_2 < ((rd_L7 l1 x17_1).length : Int)
          ·rw [if_pos c13] at H
           have c13b0 : decide (x23_2 < ((rd_L7 l1 x17_1).length : Int)) = true := decide_eq_true c13
           clear c13
           replace H := Option.bind_eq_some_iff.mp H
           obtain ⟨⟨t248, t251⟩, A140, H⟩ := H
           replace H : (if t251 = 0 then (impl_StatesAfter.l1 k2 t248 x5_1 l1 (l1.length : Int) x17_1 (rd_L7 l1 x17_1) ((rd_L7 l1 x17_1).length : Int) (wrap64 (x23_2 + 1))) else (some ([] : List (List (S47))))) = some r := H
           have A14 := Aside0.mk A140
           clear A140
           by_cases c15 : t251 = 0
           ·rw [if_pos c15] at H
            have c15b0 : (t251 == 0) = true := beq_iff_eq.mpr c15
            have c15b1 : (t251 != 0) = false := bne_eq_false_iff_eq.mpr c15
            clear c15
            have H' := Aside0.mk H
            clear H
            have p246 : 0 ≤ (x23_2 : Int) := of_decide_eq_true (by first | (with_reducible assumption) | assumption)
            have q246 : x23_2 < ((rd_L7 l1 x17_1).length : Int) := of_decide_eq_true (by first | (with_reducible assumption) | assumption)
            obtain ⟨ad246, e246, hx246_0, hx246_1, hx246_2, hx246_3, hx246_4⟩ := at_T39 HR245_0.out x23_2 p246 q246
            cases e246
            replace hx246_0 := (HB.out.cell (World.block_lt_of_cell? w _ hx246_0)).trans hx246_0
            replace hx246_1 := (HB.out.cell (World.block_lt_of_cell? w _ hx246_1)).trans hx246_1
            replace hx246_2 := (HB.out.cell (World.block_lt_of_cell? w _ hx246_2)).trans hx246_2
            replace hx246_3 := (HB.out.cell (World.block_lt_of_cell? w _ hx246_3)).trans hx246_3
            replace hx246_4 := (HB.out.cell (World.block_lt_of_cell? w _ hx246_4)).trans hx246_4
            replace p246 := eq_true p246
            replace q246 := eq_true q246
            obtain ⟨Ao18, co18, eo18⟩ := Kd.V_slice HO_0.out
            subst eo18
            go_wp2_with (first | ((with_reducible refine gate_callee (f := 20) rfl ?_); refine goesL_ (some 31) rfl rfl Try.func20 (by kernel_rfl) rfl #[.slice Ao18 x0_2.length co18, .agg #[.string ((rd_T39 (rd_L7 l1 x17_1) x23_2).f0), .int .i64 1, .int .i64 ((rd_T39 (rd_L7 l1 x17_1) x23_2).f2), .string ((rd_T39 (rd_L7 l1 x17_1) x23_2).f3), .string ((rd_T39 (rd_L7 l1 x17_1) x23_2).f4)]] rfl (by (try simp only [List.map_toArray, List.map_cons, List.map_nil]); first | done | rfl | (simp only [List.length_drop, List.length_take]; rfl)) ?_; (with_reducible refine (impl_ApplyRecord.calls k2 _ _ x0_2 ((rd_T39 (rd_L7 l1 x17_1) x23_2).f0) 1 ((rd_T39 (rd_L7 l1 x17_1) x23_2).f2) ((rd_T39 (rd_L7 l1 x17_1) x23_2).f3) ((rd_T39 (rd_L7 l1 x17_1) x23_2).f4) t248 t251 _ ?side1 ?side2 A14.out).mono ?_); (case side1 => refine (Kd.V_reads' (e := 47) (base := w.heap.size) (ok := fun k_ => (((P0_ k_ ∨ w.heap.size ≤ k_) ∧ some k_ ≠ (u5 : Value).ownBlock))) (n := x0_2.length) (c := co18) ?_).2.2; exact (by (with_reducible repeat (first | apply Kd.V_alloc | apply Kd.V_drewN | apply Kd.V_drew)); exact HO_0.out)); (case side2 => exact (Kd.V_reads' HO_0.out).2.1); rintro e w19 ⟨v249, rfl, ho0, hb⟩; refine ⟨_, rfl, ?_⟩; have n0_ := Aside0.mk (Kd.V_elder' (by (with_reducible repeat (first | apply Kd.V_alloc | apply Kd.V_drewN | apply Kd.V_drew)); exact HO_0.out) (Kd.R_base ho0) hb); have n1_ := Aside0.mk (Kd.S_elder' (by (with_reducible repeat (first | apply Kd.S_alloc | apply Kd.S_drewN | apply Kd.S_drew)); exact HO_5.out) (Kd.R_base ho0) hb); have n2_ := Aside0.mk (Kd.R_lower (Kd.R_newM (M := fun k_ => (w.heap.size ≤ k_)) ho0 (below_size (by repeat (first | (with_reducible first | exact HB.out | apply below_alloc | apply pw_below_drewN | apply below_drew1) | exact HB.out))) (fun k_ h_ => h_)) (below_size (by repeat (first | (with_reducible first | exact HB.out | apply below_alloc | apply pw_below_drewN | apply below_drew1) | exact HB.out)))); have n4_ := Aside0.mk (below_step (by repeat (first | (with_reducible first | exact HB.out | apply below_alloc | apply pw_below_drewN | apply below_drew1) | exact HB.out)) hb); clear HO_0; clear HO_5; clear HB; have HO_0 := n0_; have HO_5 := n1_; have HO250 := n2_; have HB := n4_; clear n0_ n1_ n2_ n4_; (try clear hb); (try clear hb2); (try clear hk); (try clear hi); (try clear ho0)))
            go_roundg k2
            case measure => have := HK1.out; have := HK2.out; omega
            case rel => exact ⟨(t248), (wrap64 (x23_2 + 1)), (by first | rfl | (simp; done) | (simp [*]; done)), H', ⟨by have := HK1.out; have := HK2.out; omega⟩, ⟨Kd.V_mono (Kd.R_V (by (with_reducible repeat (first | apply Kd.R_alloc | apply Kd.R_drewN | apply Kd.R_drew)); exact (show Kd.R k47 47 _ w.heap.size (fun k_ => w.heap.size ≤ k_ ∧ some k_ ≠ (u5 : Value).ownBlock) _ _ from Kd.R_mono (Kd.R_apart' HO250.out (Kd.S_typed HO_5.out) (by decide)) (fun _ hk => ⟨hk.1.1, hk.2⟩)))) (fun k_ hk => by first | exact ⟨(.inr (hk.1)), hk.2⟩ | exact (.inr (hk)))⟩, ⟨by (with_reducible repeat (first | apply Kd.S_alloc | apply Kd.S_drewN | apply Kd.S_drew)); exact Kd.S_mono HO_5.out (fun _ hk => hk.1)⟩, ⟨by repeat (first | (with_reducible first | exact HB.out | apply below_alloc | apply pw_below_drewN | apply below_drew1) | exact HB.out)⟩⟩
           ·rw [if_neg c15] at H
            have c15b0 : (t251 == 0) = false := beq_eq_false_iff_ne.mpr c15
            have c15b1 : (t251 != 0) = true := bne_iff_ne.mpr c15
            obtain rfl := Option.some.inj H
            have p246 : 0 ≤ (x23_2 : Int) := of_decide_eq_true (by first | (with_reducible assumption) | assumption)
            have q246 : x23_2 < ((rd_L7 l1 x17_1).length : Int) := of_decide_eq_true (by first | (with_reducible assumption) | assumption)
            obtain ⟨ad246, e246, hx246_0, hx246_1, hx246_2, hx246_3, hx246_4⟩ := at_T39 HR245_0.out x23_2 p246 q246
            cases e246
            replace hx246_0 := (HB.out.cell (World.block_lt_of_cell? w _ hx246_0)).trans hx246_0
            replace hx246_1 := (HB.out.cell (World.block_lt_of_cell? w _ hx246_1)).trans hx246_1
            replace hx246_2 := (HB.out.cell (World.block_lt_of_cell? w _ hx246_2)).trans hx246_2
            replace hx246_3 := (HB.out.cell (World.block_lt_of_cell? w _ hx246_3)).trans hx246_3
            replace hx246_4 := (HB.out.cell (World.block_lt_of_cell? w _ hx246_4)).trans hx246_4
            replace p246 := eq_true p246
            replace q246 := eq_true q246
            obtain ⟨Ao22, co22, eo22⟩ := Kd.V_slice HO_0.out
            subst eo22
            go_wp2_with (first | ((with_reducible refine gate_callee (f := 20) rfl ?_); refine goesL_ (some 31) rfl rfl Try.func20 (by kernel_rfl) rfl #[.slice Ao22 x0_2.length co22, .agg #[.string ((rd_T39 (rd_L7 l1 x17_1) x23_2).f0), .int .i64 1, .int .i64 ((rd_T39 (rd_L7 l1 x17_1) x23_2).f2), .string ((rd_T39 (rd_L7 l1 x17_1) x23_2).f3), .string ((rd_T39 (rd_L7 l1 x17_1) x23_2).f4)]] rfl (by (try simp only [List.map_toArray, List.map_cons, List.map_nil]); first | done | rfl | (simp only [List.length_drop, List.length_take]; rfl)) ?_; (with_reducible refine (impl_ApplyRecord.calls k2 _ _ x0_2 ((rd_T39 (rd_L7 l1 x17_1) x23_2).f0) 1 ((rd_T39 (rd_L7 l1 x17_1) x23_2).f2) ((rd_T39 (rd_L7 l1 x17_1) x23_2).f3) ((rd_T39 (rd_L7 l1 x17_1) x23_2).f4) t248 t251 _ ?side1 ?side2 A14.out).mono ?_); (case side1 => refine (Kd.V_reads' (e := 47) (base := w.heap.size) (ok := fun k_ => (((P0_ k_ ∨ w.heap.size ≤ k_) ∧ some k_ ≠ (u5 : Value).ownBlock))) (n := x0_2.length) (c := co22) ?_).2.2; exact (by (with_reducible repeat (first | apply Kd.V_alloc | apply Kd.V_drewN | apply Kd.V_drew)); exact HO_0.out)); (case side2 => exact (Kd.V_reads' HO_0.out).2.1); rintro e w23 ⟨v249, rfl, ho0, hb⟩; refine ⟨_, rfl, ?_⟩; have n0_ := Aside0.mk (Kd.V_elder' (by (with_reducible repeat (first | apply Kd.V_alloc | apply Kd.V_drewN | apply Kd.V_drew)); exact HO_0.out) (Kd.R_base ho0) hb); have n1_ := Aside0.mk (Kd.S_elder' (by (with_reducible repeat (first | apply Kd.S_alloc | apply Kd.S_drewN | apply Kd.S_drew)); exact HO_5.out) (Kd.R_base ho0) hb); have n2_ := Aside0.mk (Kd.R_lower (Kd.R_newM (M := fun k_ => (w.heap.size ≤ k_)) ho0 (below_size (by repeat (first | (with_reducible first | exact HB.out | apply below_alloc | apply pw_below_drewN | apply below_drew1) | exact HB.out))) (fun k_ h_ => h_)) (below_size (by repeat (first | (with_reducible first | exact HB.out | apply below_alloc | apply pw_below_drewN | apply below_drew1) | exact HB.out)))); have n4_ := Aside0.mk (below_step (by repeat (first | (with_reducible first | exact HB.out | apply below_alloc | apply pw_below_drewN | apply below_drew1) | exact HB.out)) hb); clear HO_0; clear HO_5; clear HB; have HO_0 := n0_; have HO_5 := n1_; have HO250 := n2_; have HB := n4_; clear n0_ n1_ n2_ n4_; (try clear hb); (try clear hb2); (try clear hk); (try clear hi); (try clear ho0)))
            go_ret
            exact ⟨_, by first | rfl | (simp [errW_none, errW_some] <;> rfl) | (simp [*, errW_none, errW_some] <;> rfl), by first | exact Kd.S_nil _ _ _ _ _ | exact Kd.N_nil _ _ _ _ _ | exact Kd.V_nil _ _ _ _ _ | exact Kd.Q_nil _ _ _ _ _ | exact Kd.R_nil _ _ _ _ _, by repeat (first | (with_reducible first | exact HB.out | apply below_alloc | apply pw_below_drewN | apply below_drew1) | exact HB.out)⟩
          ·rw [if_neg c13] at H
           exact absurd H (by simp)
         ·rw [if_neg c12] at H
          exact absurd H (by simp)
        ·rw [if_neg c11] at H
         have c11b0 : decide (x23_2 < ((rd_L7 l1 x17_1).length : Int)) = false := decide_eq_false c11
         clear c11
         replace H := Option.bind_eq_some_iff.mp H
         obtain ⟨t252, A240, H⟩ := H
         replace H : (if x5_1.length < 5864062014805 then (impl_StatesAfter.l0 k2 x0_2 (x5_1 ++ [t252]) l1 (l1.length : Int) (wrap64 (x17_1 + 1))) else (none)) = some r := H
         have A24 := Aside0.mk A240
         clear A240
         by_cases c25 : x5_1.length < 5864062014805
         ·rw [if_pos c25] at H
          have LMc25 := Aside0.mk c25
          clear c25
          obtain ⟨y255, hy255⟩ : ∃ y_ : List (List (S47)), y_ = (x5_1 ++ [t252]) := ⟨_, rfl⟩
          replace H : (impl_StatesAfter.l0 k2 x0_2 y255 l1 (l1.length : Int) (wrap64 (x17_1 + 1))) = some r := by first | (rw [hy255]; with_reducible exact H) | (have H2_ := (Option.bind_some _ _).symm.trans H; rw [hy255]; with_reducible exact H2_) | (have H2_ := (Option.bind_some _ _).symm.trans H; with_reducible exact H2_) | with_reducible exact H | (rw [hy255]; exact H) | exact H
          have Ny255 := Aside0.mk hy255
          clear hy255
          have H' := Aside0.mk H
          clear H
          obtain ⟨Ao26, co26, eo26⟩ := Kd.V_slice HO_0.out
          subst eo26
          go_wp2_with (first | ((with_reducible refine gate_callee (f := 75) rfl ?_); refine goesL_ (some 40) rfl rfl Try.func75 (by kernel_rfl) rfl #[.slice Ao26 x0_2.length co26] rfl (by (try simp only [List.map_toArray, List.map_cons, List.map_nil]); first | done | rfl | (simp only [List.length_drop, List.length_take]; rfl)) ?_; (with_reducible refine (slices_Clone_Pair.calls _ _ x0_2 t252 _ ?side1 ?side2 A24.out).mono ?_); (case side1 => repeat (first | exact (Kd.V_reads' HO_0.out).2.2 | (with_reducible refine Kd.C_alloc ?_ _) | (with_reducible refine Kd.C_drewN ?_ _) | (with_reducible refine Kd.C_drew ?_))); (case side2 => exact (Kd.V_reads' HO_0.out).2.1); rintro e w27 ⟨v253, rfl, ho0, hb⟩; refine ⟨_, rfl, ?_⟩; have n0_ := Aside0.mk (Kd.V_elder' (by (with_reducible repeat (first | apply Kd.V_alloc | apply Kd.V_drewN | apply Kd.V_drew)); exact HO_0.out) (Kd.R_base ho0) hb); have n1_ := Aside0.mk (Kd.S_elder' (by (with_reducible repeat (first | apply Kd.S_alloc | apply Kd.S_drewN | apply Kd.S_drew)); exact HO_5.out) (Kd.R_base ho0) hb); have n2_ := Aside0.mk (Kd.R_lower (Kd.R_newM (M := fun k_ => (w.heap.size ≤ k_)) ho0 (below_size (by repeat (first | (with_reducible first | exact HB.out | apply below_alloc | apply pw_below_drewN | apply below_drew1) | exact HB.out))) (fun k_ h_ => h_)) (below_size (by repeat (first | (with_reducible first | exact HB.out | apply below_alloc | apply pw_below_drewN | apply below_drew1) | exact HB.out)))); have n3_ := Aside0.mk (below_step (by repeat (first | (with_reducible first | exact HB.out | apply below_alloc | apply pw_below_drewN | apply below_drew1) | exact HB.out)) hb); clear HO_0; clear HO_5; clear HB; have HO_0 := n0_; have HO_5 := n1_; have HO254 := n2_; have HB := n3_; clear n0_ n1_ n2_ n3_; (try clear hb); (try clear hb2); (try clear hk); (try clear hi); (try clear ho0); obtain ⟨Ao29, co29, eo29⟩ := Kd.R_slice HO254.out; subst eo29) | ((with_reducible refine gate_builtin (b := .append) (xs := #[.tmp 38, .tmp 41]) rfl ?_); at_builtin; refine Kd.S_append (Kd.slice 47 k47) (w0 := w) w.heap.size rfl (.tmp 38) (.tmp 41) 49 27 (.slice none 0 0) 24 rfl Try.underlying49 info27 rfl (by decide) (by omega) u5 x5_1 t252 [.slice Ao29 t252.length co29] (fun k_ => w.heap.size ≤ k_) (fun k_ => some k_ = (.slice Ao29 t252.length co29 : Value).ownBlock) rfl rfl ?aP ?aK ?aF ?aO ?aB ?aS ?aL ?_; (case aP => exact Kd.M_row (flat_ok flatPair HO254.out (fun k hk => hk.symm))); (case aK => exact fun k hk => ⟨Kd.R_base HO254.out k hk.symm, fun e' => Kd.S_away HO_5.out (g := k) (fun k' hk' e2 => hk'.2 (by rw [e2]; exact hk)) e'⟩); (case aF => exact fun k hk => Nat.le_trans (below_size (by repeat (first | (with_reducible first | exact HB.out | apply below_alloc | apply pw_below_drewN | apply below_drew1) | exact HB.out))) hk); (case aO => exact (by (with_reducible repeat (first | apply Kd.S_alloc | apply Kd.S_drewN | apply Kd.S_drew)); exact Kd.S_mono HO_5.out (fun _ hk => ⟨hk.1, hk.2⟩))); (case aB => exact (by repeat (first | (with_reducible first | exact HB.out | apply below_alloc | apply pw_below_drewN | apply below_drew1) | exact HB.out))); (case aS => exact (below_size (by repeat (first | (with_reducible first | exact HB.out | apply below_alloc | apply pw_below_drewN | apply below_drew1) | exact HB.out)))); (case aL => have := LMc25.out; omega); intro v256 w28 ho hb hg hat; rw [← Ny255.out] at ho; have n0_ := Aside0.mk (Kd.V_afterv (ok := (fun k_ => (P0_ k_ ∨ w.heap.size ≤ k_) ∧ some k_ ≠ (.slice Ao29 t252.length co29 : Value).ownBlock)) (by (with_reducible repeat (first | apply Kd.V_alloc | apply Kd.V_drewN | apply Kd.V_drew)); exact Kd.V_mono HO_0.out (fun _ hk => ⟨⟨hk.1.1, hk.2⟩, hk.1.2⟩)) hg hat); have n1_ := Aside0.mk (hb); have n2_ := Aside0.mk (ho); clear HO_0; clear HB; clear HO_5; clear HO254; have HO_0 := n0_; have HB := n1_; have HO257 := n2_; clear n0_ n1_ n2_; clear ho hb hg hat))
          go_roundg k2
          case measure => have := HK1.out; have := HK2.out; omega
          case rel => exact ⟨(x0_2), (y255), (wrap64 (x17_1 + 1)), (by first | rfl | (simp; done) | (simp [*]; done)), H', ⟨by have := HK1.out; have := HK2.out; omega⟩, ⟨by (with_reducible repeat (first | apply Kd.V_alloc | apply Kd.V_drewN | apply Kd.V_drew)); exact Kd.V_mono HO_0.out (fun _ hk => ⟨hk.1.1, hk.2⟩)⟩, ⟨by (with_reducible repeat (first | apply Kd.S_alloc | apply Kd.S_drewN | apply Kd.S_drew)); exact HO257.out⟩, ⟨by repeat (first | (with_reducible first | exact HB.out | apply below_alloc | apply pw_below_drewN | apply below_drew1) | exact HB.out)⟩⟩
         ·rw [if_neg c25] at H
          exact absurd H (by simp)
     ·rw [if_neg c10] at H
      exact absurd H (by simp)
    ·rw [if_neg c9] at H
     exact absurd H (by simp)
   ·rw [if_neg c8] at H
    have c8b0 : decide (x17_1 < (l1.length : Int)) = false := decide_eq_false c8
    clear c8
    obtain rfl := Option.some.inj H
    go_wp2
    go_ret
    exact ⟨_, by first | rfl | (simp [errW_none, errW_some] <;> rfl) | (simp [*, errW_none, errW_some] <;> rfl), by (with_reducible repeat (first | apply Kd.S_alloc | apply Kd.S_drewN | apply Kd.S_drew)); exact HO_5.out, by repeat (first | (with_reducible first | exact HB.out | apply below_alloc | apply pw_below_drewN | apply below_drew1) | exact HB.out)⟩
end Go.Proofs.Ytjamafchmeiifaa.F
/- Arguments of struct and nested slice types, laid open: what a call's datum reads is what the print's kinds read. -/
namespace Go.Proofs.YtjamafchmeiifaaXR
open Go.ChangeShapes Go.WideShapes Go.ChangeAt Go.RowKit Go.Proofs.YtjamafchmeiifaaW.PrintWords Go.Proofs.YtjamafchmeiifaaW.PrintLast Go.Proofs.YtjamafchmeiifaaW.PrintMore
set_option linter.unusedVariables false
set_option linter.unusedSimpArgs false
section
variable {H : Type} (enc : TypeId × Value → H) (P : Program) (w : World) (base : Nat) (sp : Nat → Bool) (held : Bool)
structure Opens {α : Type} (d : Kd α) (t : TypeId) (G : α → Prop) : Prop where
 sz : P.cellsOf t = d.sz
 get : ∀ {fuel : Nat} {cs : List Value} {x : DataW H × List MemPlace}, DataW.trod enc P w base sp held fuel t cs = some x → ∃ y, d.K w y cs ∧ G y
structure OpensFs {β : Type} (fs : List Field) (d : Kd β) (o : Nat) (G : β → Prop) : Prop where
 get : ∀ {n : Nat} {cs : List Value}, cs.length = o + d.sz → (∀ f ∈ fs, ∃ y, DataW.trod enc P w base sp held n f.type ((cs.drop f.offset).take (P.cellsOf f.type)) = some y) → ∃ y, d.K w y (cs.drop o) ∧ G y
variable {enc P w base sp held}
theorem opens_string {t : TypeId} (ht : P.underlying t = some .string) (hc : P.cellsOf t = 1) : Opens enc P w base sp held Kd.string t (fun s => s.size ≤ maxLen) where
 sz := hc
 get := by
  intro fuel cs x h
  obtain ⟨s, rfl, _, hs⟩ := DataW.trod_string ht h
  exact ⟨s, rfl, hs⟩
theorem opens_int {t : TypeId} {k : IntKind} (ht : P.underlying t = some (.int k)) (hc : P.cellsOf t = 1) : Opens enc P w base sp held (Kd.int k) t (fun n => (Lit.int k n).wf = true) where
 sz := hc
 get := by
  intro fuel cs x h
  obtain ⟨s, rfl, _, hs⟩ := DataW.trod_int ht h
  exact ⟨s, rfl, hs⟩
variable {α β γ : Type} {d : Kd α} {d1 : Kd β} {d2 : Kd γ} {t e : TypeId} {f : Field} {fs : List Field} {o : Nat} {G : α → Prop} {G1 : β → Prop} {G2 : γ → Prop}
theorem OpensFs.one (ho : f.offset = o) (h : Opens enc P w base sp held d f.type G) : OpensFs enc P w base sp held [f] d o G where
 get := by
  intro n cs hl hy
  obtain ⟨y, hy⟩ := hy f (List.mem_singleton.2 rfl)
  obtain ⟨z, hz, hg⟩ := h.get hy
  rw [ho, h.sz, List.take_of_length_le (by rw [List.length_drop]; omega)] at hz
  exact ⟨z, hz, hg⟩
theorem OpensFs.cons (ho : f.offset = o) (h : Opens enc P w base sp held d1 f.type G1) (h2 : OpensFs enc P w base sp held fs d2 (o + d1.sz) G2) : OpensFs enc P w base sp held (f :: fs) (Kd.pair d1 d2) o (fun y => G1 y.1 ∧ G2 y.2) where
 get := by
  intro n cs hl hy
  have hl' : cs.length = o + d1.sz + d2.sz := by rw [hl]; show o + (d1.sz + d2.sz) = _; omega
  obtain ⟨y, hy0⟩ := hy f List.mem_cons_self
  obtain ⟨z, hz, hg⟩ := h.get hy0
  obtain ⟨z2, hz2, hg2⟩ := h2.get (n := n) hl' (fun f' hf => hy f' (List.mem_cons_of_mem _ hf))
  rw [ho, h.sz] at hz
  refine ⟨(z, z2), ⟨_, _, ?_, hz, hz2⟩, hg, hg2⟩
  rw [← List.drop_drop, List.take_append_drop]
theorem Opens.struct {fa : Array Field} (ht : P.underlying t = some (.struct fa)) (hf : fa.toList = fs) (hsz : P.cellsOf t = d.sz) (h : OpensFs enc P w base sp held fs d 0 G) (g : β → α) (g' : α → β) (hg : ∀ y, g (g' y) = y) : Opens enc P w base sp held (Kd.iso d g) t (fun x => G (g x)) where
 sz := hsz
 get := by
  intro fuel cs x hx
  obtain ⟨xs, n, _, _, hl, hn, hfs⟩ := DataW.trod_struct ht hx
  obtain ⟨y, hy, hG⟩ := h.get (n := n) (cs := cs) (by rw [hl, hsz]; omega) (fun f hf' => by
   rw [← hf] at hf'
   obtain ⟨i, hi, e⟩ := List.getElem_of_mem hf'
   have hi' : i < fa.size := by simpa using hi
   have := hfs i f (by rw [← e]; simp [hi'])
   rw [List.getElem?_eq_getElem (by omega)] at this
   exact ⟨_, this⟩)
  exact ⟨g' y, by show d.K w (g (g' y)) cs; rw [hg]; exact hy, by rw [hg]; exact hG⟩
theorem cells_at {a : Addr} {n : Nat} {cs : List Value} (h : w.cells? base a n = some cs) : cs.length = n ∧ ∀ i u, cs[i]? = some u → w.cell? (a.add i) = some u := by
 unfold World.cells? at h
 split at h
 ·refine ⟨by simpa using mapM_some_length h, fun i u hu => ?_⟩
  have hl : i < n := by
   have h1 := (List.getElem?_eq_some_iff.1 hu).1
   have h2 : cs.length = n := by simpa using mapM_some_length h
   omega
  rw [mapM_some_get h i i (by simp [hl]), hu]
 ·cases h
theorem add_add (a : Addr) (i j : Nat) : (a.add i).add j = a.add (i + j) := by
 unfold Addr.add
 by_cases hi : i = 0
 ·subst hi; simp
 ·by_cases hj : j = 0
  ·subst hj; simp [hi]
  ·have : i + j ≠ 0 := by omega
   simp [hi, hj, this, Nat.add_assoc]
theorem Opens.slice (ht : P.underlying t = some (.slice e)) (hc : P.cellsOf t = 1) (h : Opens enc P w base sp held d e G) : Opens enc P w base sp held (Kd.slice e d) t (fun xs => xs.length ≤ maxLen ∧ ∀ x ∈ xs, G x) where
 sz := hc
 get := by
  intro fuel cs x hx
  rcases DataW.trod_slice ht hx with ⟨rfl, _⟩ | ⟨a, len, cap, elems, rest, n, _, rfl, _, hb, hl, hcm, hlen, hel, _⟩
  ·exact ⟨[], ⟨none, 0, rfl, Nat.le_refl _, rfl, by simp, fun h => absurd h (Nat.lt_irrefl _)⟩, by simp, by simp⟩
  ·have hget : ∀ i, i < len → ∃ y c, c.length = d.sz ∧ d.K w y c ∧ G y ∧ ∀ j u, c[j]? = some u → w.cell? (a.add (i * d.sz + j)) = some u := by
    intro i hi
    have h1 := hel i hi
    rw [List.getElem?_eq_getElem (by omega)] at h1
    obtain ⟨c, hc1, hc2⟩ := Option.bind_eq_some_iff.1 h1
    obtain ⟨y, hy, hg⟩ := h.get hc2
    rw [h.sz] at hc1
    obtain ⟨h3, h4⟩ := cells_at hc1
    exact ⟨y, c, h3, hy, hg, fun j u hu => by rw [← add_add]; exact h4 j u hu⟩
   have hall : ∀ m, m ≤ len → ∃ ys : List α, ys.length = m ∧ (∀ y ∈ ys, G y) ∧ ∀ j p, ys[j]? = some p → ∃ c, c.length = d.sz ∧ d.K w p c ∧ ∀ i u, c[i]? = some u → w.cell? (a.add (j * d.sz + i)) = some u := by
    intro m
    induction m with
    | zero => exact fun _ => ⟨[], rfl, by simp, by simp⟩
    | succ m ih =>
     intro hm
     obtain ⟨ys, h1, h2, h3⟩ := ih (by omega)
     obtain ⟨y, c, k1, k2, k3, k4⟩ := hget m (by omega)
     refine ⟨ys ++ [y], by simp [h1], fun z hz => ?_, fun j p hj => ?_⟩
     ·rcases List.mem_append.1 hz with hz | hz
      ·exact h2 z hz
      ·rw [List.mem_singleton.1 hz]; exact k3
     ·by_cases hjm : j < m
      ·rw [List.getElem?_append_left (by omega)] at hj
       exact h3 j p hj
      ·rw [List.getElem?_append_right (by omega)] at hj
       have e1 : j - ys.length = 0 := by
        have := (List.getElem?_eq_some_iff.1 hj).1
        simp at this
        omega
       rw [e1] at hj
       obtain rfl : y = p := by simpa using hj
       obtain rfl : j = m := by omega
       exact ⟨c, k1, k2, k4⟩
   obtain ⟨ys, h1, h2, h3⟩ := hall len (Nat.le_refl _)
   subst h1
   refine ⟨ys, ⟨some a, cap, rfl, hl, rfl, ?_, fun _ => ⟨a, rfl, h3⟩⟩, by omega, h2⟩
   have := hcm
   simp only [maxLen] at this
   omega
theorem open_slice_arg {r : Reach} {b0 : Nat} {v : Value} {dd : DataW H} {ps : List MemPlace} (ht : P.underlying t = some (.slice e)) (hc : P.cellsOf t = 1) (hval : Value.okWide P w r b0 t v) (h : Opens enc P w base sp held d e G) (hd : DataW.Trod enc P w base sp held t v dd ps) :
  ∃ A c xs, v = .slice A xs.length c ∧ xs.length ≤ c ∧ Kd.C d w A xs.length xs ∧ xs.length ≤ maxLen ∧ ∀ x ∈ xs, G x := by
 obtain ⟨a, len, cap, rfl⟩ := okWide_slice ht hval
 obtain ⟨fuel, hf⟩ := hd
 obtain ⟨xs, ⟨A, c, e1, h1, h2⟩, h3, h4⟩ := (Opens.slice ht hc h).get hf
 have e2 : ([Value.slice a len cap] : List Value) = [.slice A xs.length c] := by simpa [Value.cells] using e1
 injection e2 with e3 _
 injection e3 with e4 e5 e6
 subst e4 e5 e6
 exact ⟨_, _, xs, rfl, h1, h2, h3, h4⟩
end
end Go.Proofs.YtjamafchmeiifaaXR
/- The parameters of the statement FnExactStatesAfter, laid open: what their data are as lists and structures. -/
namespace Go.Proofs.Ytjamafchmeiifaa.OFnExactStatesAfter
open Go.ChangeShapes Go.WideShapes Go.ChangeAt Go.RowKit Go.Proofs.Ytjamafchmeiifaa.F Go.Proofs.YtjamafchmeiifaaW.PrintWords Go.Proofs.YtjamafchmeiifaaW.PrintLast Go.Proofs.YtjamafchmeiifaaW.PrintMore Go.Proofs.YtjamafchmeiifaaXR
set_option linter.unusedVariables false
set_option linter.unusedSimpArgs false
/-- What is known of a datum of the type. -/
def g79 (x : S79) : Prop := x.f0.size ≤ maxLen ∧ x.f1.size ≤ maxLen
theorem op79 {H : Type} {enc : TypeId × Value → H} {w : World} {base : Nat} {sp : Nat → Bool} {held : Bool} : Opens enc Try.prog w base sp held k79 79 g79 :=
 Opens.struct Try.underlying79 rfl (by kernel_rfl) (OpensFs.cons rfl (opens_string Try.underlying9 (by kernel_rfl)) (OpensFs.one rfl (opens_string Try.underlying9 (by kernel_rfl)))) (fun x : S79 => (x.f0, x.f1)) (fun y => ⟨y.1, y.2⟩) (fun _ => rfl)
/-- What is known of a datum of the type. -/
def g120 (x : S120) : Prop := x.f0.size ≤ maxLen ∧ (Lit.int .i64 x.f1).wf = true ∧ (Lit.int .i64 x.f2).wf = true ∧ x.f3.size ≤ maxLen ∧ x.f4.size ≤ maxLen
theorem op120 {H : Type} {enc : TypeId × Value → H} {w : World} {base : Nat} {sp : Nat → Bool} {held : Bool} : Opens enc Try.prog w base sp held k120 120 g120 :=
 Opens.struct Try.underlying120 rfl (by kernel_rfl) (OpensFs.cons rfl (opens_string Try.underlying9 (by kernel_rfl)) (OpensFs.cons rfl (opens_int Try.underlying2 (by kernel_rfl)) (OpensFs.cons rfl (opens_int Try.underlying2 (by kernel_rfl)) (OpensFs.cons rfl (opens_string Try.underlying9 (by kernel_rfl)) (OpensFs.one rfl (opens_string Try.underlying9 (by kernel_rfl))))))) (fun x : S120 => (x.f0, x.f1, x.f2, x.f3, x.f4)) (fun y => ⟨y.1, y.2.1, y.2.2.1, y.2.2.2.1, y.2.2.2.2⟩) (fun _ => rfl)
/-- What the proof of the statement owes: plain data, no program in sight. -/
def Gs (a0 : (List S79)) (a1 : (List (List S120))) : Prop := (a0.length ≤ maxLen ∧ ∀ y0 ∈ a0, g79 y0) ∧ (a1.length ≤ maxLen ∧ ∀ y0 ∈ a1, (y0.length ≤ maxLen ∧ ∀ y1 ∈ y0, g120 y1))
end Go.Proofs.Ytjamafchmeiifaa.OFnExactStatesAfter
/- The walk of FnExactStatesAfter: what its calls answer is told ahead; it answers true. -/
namespace Go.Proofs.Ytjamafchmeiifaa.xFnExactStatesAfter
open Go.RowKit Go.Proofs.Ytjamafchmeiifaa.F Go.Proofs.Ytjamafchmeiifaa.OFnExactStatesAfter Go.Proofs.YtjamafchmeiifaaW.PrintWords Go.Proofs.YtjamafchmeiifaaW.PrintLast Go.Proofs.YtjamafchmeiifaaW.PrintMore Go.Proofs.YtjamafchmeiifaaXO
set_option linter.unusedVariables false
set_option linter.unusedSimpArgs false
set_option maxHeartbeats 8000000 in
set_option maxRecDepth 100000 in
theorem early0 (a0 : (List S79)) (a1 : (List (List S120))) (A0 : Option Addr) (c0 : Nat) (A1 : Option Addr) (c1 : Nat) (w : World) (HR0 : Aside0 (Kd.C k79 w A0 a0.length a0)) (HC0 : Aside0 (a0.length ≤ c0)) (HR1 : Aside0 (Kd.C (Kd.slice 120 k120) w A1 a1.length a1)) (HC1 : Aside0 (a1.length ≤ c1)) (k1 : Nat) (z2 : Int) (H5 : Aside0 (laws_szPairS.f k1 a0 1048576 = some z2)) (hneg : z2 < 0) :
  Calls Try.prog 5 #[.slice A0 a0.length c0, .slice A1 a1.length c1] w fun e w' => e = .returned (.bool true) ∧ Below w.heap.size w w' := by
 have HB := Aside0.mk (Below.refl w.heap.size w)
 go_enter Try.func5, Try.ntmps5
 -- szPairS
 go_wp2_with fail
 refine (laws_szPairS.calls k1 _ _ a0 1048576 z2 _ ?s3 ?s4 H5.out).mono ?_
 case s3 => (repeat (first | exact (Kd.C_below HR0.out HB.out) | (with_reducible refine Kd.C_alloc ?_ _) | (with_reducible refine Kd.C_drewN ?_ _) | (with_reducible refine Kd.C_drew ?_)))
 case s4 => (exact HC0.out)
 rintro e w6 ⟨rfl, hb⟩
 have n0_ := Aside0.mk (below_size (below_step (show Below w.heap.size w _ from by repeat (first | exact Below.refl _ _ | apply below_alloc | apply pw_below_drewN | apply below_drew1)) hb))
 have n1_ := Aside0.mk (below_step (by repeat (first | (with_reducible first | exact HB.out | apply below_alloc | apply pw_below_drewN | apply below_drew1) | exact HB.out)) hb)
 clear HB
 have HZ7 := n0_
 have HB := n1_
 clear n0_ n1_
 clear hb
 have dneg : decide (z2 < 0) = true := decide_eq_true hneg
 clear hneg
 go_wp2
 go_ret
 exact ⟨rfl, (by repeat (first | (with_reducible first | exact HB.out | apply below_alloc | apply pw_below_drewN | apply below_drew1) | exact HB.out))⟩
set_option maxHeartbeats 8000000 in
set_option maxRecDepth 100000 in
theorem early1 (a0 : (List S79)) (a1 : (List (List S120))) (A0 : Option Addr) (c0 : Nat) (A1 : Option Addr) (c1 : Nat) (w : World) (HR0 : Aside0 (Kd.C k79 w A0 a0.length a0)) (HC0 : Aside0 (a0.length ≤ c0)) (HR1 : Aside0 (Kd.C (Kd.slice 120 k120) w A1 a1.length a1)) (HC1 : Aside0 (a1.length ≤ c1)) (k1 : Nat) (z2 : Int) (H5 : Aside0 (laws_szPairS.f k1 a0 1048576 = some z2)) (gz2 : 0 ≤ z2) (k8 : Nat) (z9 : Int) (H12 : Aside0 (laws_szRecordSS.f k8 a1 z2 = some z9)) (hneg : z9 < 0) :
  Calls Try.prog 5 #[.slice A0 a0.length c0, .slice A1 a1.length c1] w fun e w' => e = .returned (.bool true) ∧ Below w.heap.size w w' := by
 have HB := Aside0.mk (Below.refl w.heap.size w)
 go_enter Try.func5, Try.ntmps5
 -- szPairS
 go_wp2_with fail
 refine (laws_szPairS.calls k1 _ _ a0 1048576 z2 _ ?s3 ?s4 H5.out).mono ?_
 case s3 => (repeat (first | exact (Kd.C_below HR0.out HB.out) | (with_reducible refine Kd.C_alloc ?_ _) | (with_reducible refine Kd.C_drewN ?_ _) | (with_reducible refine Kd.C_drew ?_)))
 case s4 => (exact HC0.out)
 rintro e w6 ⟨rfl, hb⟩
 have n0_ := Aside0.mk (below_size (below_step (show Below w.heap.size w _ from by repeat (first | exact Below.refl _ _ | apply below_alloc | apply pw_below_drewN | apply below_drew1)) hb))
 have n1_ := Aside0.mk (below_step (by repeat (first | (with_reducible first | exact HB.out | apply below_alloc | apply pw_below_drewN | apply below_drew1) | exact HB.out)) hb)
 clear HB
 have HZ7 := n0_
 have HB := n1_
 clear n0_ n1_
 clear hb
 have dz2 : decide (z2 < 0) = false := decide_eq_false (by omega)
 -- szRecordSS
 go_wp2_with fail
 refine (laws_szRecordSS.calls k8 _ _ a1 z2 z9 _ ?s10 ?s11 H12.out).mono ?_
 case s10 => (repeat (first | exact (Kd.C_below HR1.out HB.out) | (with_reducible refine Kd.C_alloc ?_ _) | (with_reducible refine Kd.C_drewN ?_ _) | (with_reducible refine Kd.C_drew ?_)))
 case s11 => (exact HC1.out)
 rintro e w13 ⟨rfl, hb⟩
 have n0_ := Aside0.mk (below_size (below_step (show Below w6.heap.size w6 _ from by repeat (first | exact Below.refl _ _ | apply below_alloc | apply pw_below_drewN | apply below_drew1)) hb))
 have n1_ := Aside0.mk (below_step (by repeat (first | (with_reducible first | exact HB.out | apply below_alloc | apply pw_below_drewN | apply below_drew1) | exact HB.out)) hb)
 clear HB
 have HZ14 := n0_
 have HB := n1_
 clear n0_ n1_
 clear hb
 have dneg : decide (z9 < 0) = true := decide_eq_true hneg
 clear hneg
 go_wp2
 go_ret
 exact ⟨rfl, (by repeat (first | (with_reducible first | exact HB.out | apply below_alloc | apply pw_below_drewN | apply below_drew1) | exact HB.out))⟩
set_option maxHeartbeats 16000000 in
set_option maxRecDepth 100000 in
theorem main (a0 : (List S79)) (a1 : (List (List S120))) (A0 : Option Addr) (c0 : Nat) (A1 : Option Addr) (c1 : Nat) (w : World) (HR0 : Aside0 (Kd.C k79 w A0 a0.length a0)) (HC0 : Aside0 (a0.length ≤ c0)) (HR1 : Aside0 (Kd.C (Kd.slice 120 k120) w A1 a1.length a1)) (HC1 : Aside0 (a1.length ≤ c1)) (k1 : Nat) (z2 : Int) (H5 : Aside0 (laws_szPairS.f k1 a0 1048576 = some z2)) (gz2 : 0 ≤ z2) (k8 : Nat) (z9 : Int) (H12 : Aside0 (laws_szRecordSS.f k8 a1 z2 = some z9)) (gz9 : 0 ≤ z9) (k15 : Nat) (z16 : List (S47)) (H19 : Aside0 (laws_toPairS.f k15 a0 = some z16)) (k30 : Nat) (z31 : List (List (S39))) (H34 : Aside0 (laws_toRecordSS.f k30 a1 = some z31)) (k45 : Nat) (z46 : List (List (S47))) (H51 : Aside0 (spec_StatesAfter.f k45 z16 z31 = some z46)) (k62 : Nat) (z63 : List (S47)) (H66 : Aside0 (laws_toPairS.f k62 a0 = some z63)) (k77 : Nat) (z78 : List (List (S39))) (H81 : Aside0 (laws_toRecordSS.f k77 a1 = some z78)) (k92 : Nat) (H96 : Aside0 (impl_StatesAfter.f k92 z63 z78 = some z46)) (k107 : Nat) (H112 : Aside0 (laws_eqPairSS.f k107 z46 z46 = some true)) (k115 : Nat) (z116 : List (S47)) (H119 : Aside0 (laws_toPairS.f k115 a0 = some z116)) (k130 : Nat) (H135 : Aside0 (laws_eqPairS.f k130 z63 z116 = some true)) (k138 : Nat) (z139 : List (List (S39))) (H142 : Aside0 (laws_toRecordSS.f k138 a1 = some z139)) (k153 : Nat) (H158 : Aside0 (laws_eqRecordSS.f k153 z78 z139 = some true)) (k161 : Nat) (z162 : Int) (z163 : List (S47)) (H165 : Aside0 (laws_markPairS.f k161 z63 1 = some (z162, z163))) (k170 : Nat) (z171 : Int) (z172 : List (List S39)) (H174 : Aside0 (laws_markRecordSS.f k170 z78 z162 = some (z171, z172))) (gz171 : 0 ≤ z171) (k179 : Nat) (H184 : Aside0 (laws_eqPairSS.f k179 z46 z46 = some true)) (k187 : Nat) (z188 : Int) (z189 : List (List S47)) (H191 : Aside0 (laws_markPairSS.f k187 z46 1 = some (z188, z189))) (k196 : Nat) (H199 : Aside0 (laws_heldPairSS.f k196 z189 1 = some z188)) (gz188 : 0 ≤ z188) (k202 : Nat) (z203 : List (S47)) (H206 : Aside0 (laws_toPairS.f k202 a0 = some z203)) (k217 : Nat) (z218 : List (List (S39))) (H221 : Aside0 (laws_toRecordSS.f k217 a1 = some z218)) (k232 : Nat) (H236 : Aside0 (impl_StatesAfter.f k232 z203 z218 = some z46)) (k247 : Nat) (H252 : Aside0 (laws_eqPairSS.f k247 z46 z46 = some true)) (k255 : Nat) (H258 : Aside0 (laws_heldPairSS.f k255 z189 1 = some z188)) :
  Calls Try.prog 5 #[.slice A0 a0.length c0, .slice A1 a1.length c1] w fun e w' => e = .returned (.bool true) ∧ Below w.heap.size w w' := by
 have HB := Aside0.mk (Below.refl w.heap.size w)
 go_enter Try.func5, Try.ntmps5
 -- szPairS
 go_wp2_with fail
 refine (laws_szPairS.calls k1 _ _ a0 1048576 z2 _ ?s3 ?s4 H5.out).mono ?_
 case s3 => (repeat (first | exact (Kd.C_below HR0.out HB.out) | (with_reducible refine Kd.C_alloc ?_ _) | (with_reducible refine Kd.C_drewN ?_ _) | (with_reducible refine Kd.C_drew ?_)))
 case s4 => (exact HC0.out)
 rintro e w6 ⟨rfl, hb⟩
 have n0_ := Aside0.mk (below_size (below_step (show Below w.heap.size w _ from by repeat (first | exact Below.refl _ _ | apply below_alloc | apply pw_below_drewN | apply below_drew1)) hb))
 have n1_ := Aside0.mk (below_step (by repeat (first | (with_reducible first | exact HB.out | apply below_alloc | apply pw_below_drewN | apply below_drew1) | exact HB.out)) hb)
 clear HB
 have HZ7 := n0_
 have HB := n1_
 clear n0_ n1_
 clear hb
 have dz2 : decide (z2 < 0) = false := decide_eq_false (by omega)
 -- szRecordSS
 go_wp2_with fail
 refine (laws_szRecordSS.calls k8 _ _ a1 z2 z9 _ ?s10 ?s11 H12.out).mono ?_
 case s10 => (repeat (first | exact (Kd.C_below HR1.out HB.out) | (with_reducible refine Kd.C_alloc ?_ _) | (with_reducible refine Kd.C_drewN ?_ _) | (with_reducible refine Kd.C_drew ?_)))
 case s11 => (exact HC1.out)
 rintro e w13 ⟨rfl, hb⟩
 have n0_ := Aside0.mk (below_size (below_step (show Below w6.heap.size w6 _ from by repeat (first | exact Below.refl _ _ | apply below_alloc | apply pw_below_drewN | apply below_drew1)) hb))
 have n1_ := Aside0.mk (below_step (by repeat (first | (with_reducible first | exact HB.out | apply below_alloc | apply pw_below_drewN | apply below_drew1) | exact HB.out)) hb)
 clear HB
 have HZ14 := n0_
 have HB := n1_
 clear n0_ n1_
 clear hb
 have dz9 : decide (z9 < 0) = false := decide_eq_false (by omega)
 -- toPairS
 go_wp2_with fail
 refine (laws_toPairS.calls k15 _ _ a0 z16 _ ?s17 ?s18 H19.out).mono ?_
 case s17 => (repeat (first | exact (Kd.C_below HR0.out HB.out) | (with_reducible refine Kd.C_alloc ?_ _) | (with_reducible refine Kd.C_drewN ?_ _) | (with_reducible refine Kd.C_drew ?_)))
 case s18 => (exact HC0.out)
 rintro e w20 ⟨v21, rfl, ho22, hb⟩
 obtain ⟨A24, c25, e27⟩ := Kd.R_slice ho22
 generalize hn26 : List.length z16 = n26 at e27
 subst e27
 have HN28 := Aside0.mk hn26
 clear hn26
 have n0_ := Aside0.mk (arr_R ho22 (below_size (show Below w13.heap.size w13 _ from by repeat (first | exact Below.refl _ _ | apply below_alloc | apply pw_below_drewN | apply below_drew1))) (below_size (by repeat (first | (with_reducible first | exact HB.out | apply below_alloc | apply pw_below_drewN | apply below_drew1) | exact HB.out))))
 have n1_ := Aside0.mk (below_size (below_step (show Below w13.heap.size w13 _ from by repeat (first | exact Below.refl _ _ | apply below_alloc | apply pw_below_drewN | apply below_drew1)) hb))
 have n2_ := Aside0.mk (below_step (by repeat (first | (with_reducible first | exact HB.out | apply below_alloc | apply pw_below_drewN | apply below_drew1) | exact HB.out)) hb)
 clear HB
 have HO29 := n0_
 have HZ23 := n1_
 have HB := n2_
 clear n0_ n1_ n2_
 clear hb ho22
 -- toRecordSS
 go_wp2_with fail
 refine (laws_toRecordSS.calls k30 _ _ a1 z31 _ ?s32 ?s33 H34.out).mono ?_
 case s32 => (repeat (first | exact (Kd.C_below HR1.out HB.out) | (with_reducible refine Kd.C_alloc ?_ _) | (with_reducible refine Kd.C_drewN ?_ _) | (with_reducible refine Kd.C_drew ?_)))
 case s33 => (exact HC1.out)
 rintro e w35 ⟨v36, rfl, ho37, hb⟩
 obtain ⟨A39, c40, e42⟩ := Kd.S_slice ho37
 generalize hn41 : List.length z31 = n41 at e42
 subst e42
 have HN43 := Aside0.mk hn41
 clear hn41
 have n0_ := Aside0.mk (arr_S ho37 (below_size (show Below w20.heap.size w20 _ from by repeat (first | exact Below.refl _ _ | apply below_alloc | apply pw_below_drewN | apply below_drew1))) (below_size (by repeat (first | (with_reducible first | exact HB.out | apply below_alloc | apply pw_below_drewN | apply below_drew1) | exact HB.out))))
 have n1_ := Aside0.mk (Kd.R_below (by (with_reducible repeat (first | apply Kd.R_alloc | apply Kd.R_drewN | apply Kd.R_drew)); exact HO29.out) hb)
 have n2_ := Aside0.mk (below_size (below_step (show Below w20.heap.size w20 _ from by repeat (first | exact Below.refl _ _ | apply below_alloc | apply pw_below_drewN | apply below_drew1)) hb))
 have n3_ := Aside0.mk (below_step (by repeat (first | (with_reducible first | exact HB.out | apply below_alloc | apply pw_below_drewN | apply below_drew1) | exact HB.out)) hb)
 clear HO29
 clear HB
 have HO44 := n0_
 have HO29 := n1_
 have HZ38 := n2_
 have HB := n3_
 clear n0_ n1_ n2_ n3_
 clear hb ho37
 -- spec.StatesAfter
 go_wp2_with fail
 rw [← HN28.out]
 rw [← HN43.out]
 refine (spec_StatesAfter.calls k45 _ _ z16 _ _ z31 z46 _ ?s47 ?s48 ?s49 ?s50 H51.out).mono ?_
 case s47 => (exact rd_R (by (with_reducible repeat (first | apply Kd.R_alloc | apply Kd.R_drewN | apply Kd.R_drew)); exact HO29.out))
 case s48 => (exact le_R HO29.out)
 case s49 => (exact rd_S (by (with_reducible repeat (first | apply Kd.S_alloc | apply Kd.S_drewN | apply Kd.S_drew)); exact HO44.out))
 case s50 => (exact le_S HO44.out)
 rintro e w52 ⟨v53, rfl, ho54, hb⟩
 try rw [HN28.out]
 try rw [HN43.out]
 obtain ⟨A56, c57, e59⟩ := Kd.N_slice ho54
 generalize hn58 : List.length z46 = n58 at e59
 subst e59
 have HN60 := Aside0.mk hn58
 clear hn58
 have n0_ := Aside0.mk (arr_N ho54 (fun k_ hk_ => Nat.le_trans (below_size (show Below w35.heap.size w35 _ from by repeat (first | exact Below.refl _ _ | apply below_alloc | apply pw_below_drewN | apply below_drew1))) hk_) (below_size (by repeat (first | (with_reducible first | exact HB.out | apply below_alloc | apply pw_below_drewN | apply below_drew1) | exact HB.out))))
 have n1_ := Aside0.mk (Kd.R_below (by (with_reducible repeat (first | apply Kd.R_alloc | apply Kd.R_drewN | apply Kd.R_drew)); exact HO29.out) hb)
 have n2_ := Aside0.mk (Kd.S_below (by (with_reducible repeat (first | apply Kd.S_alloc | apply Kd.S_drewN | apply Kd.S_drew)); exact HO44.out) hb)
 have n3_ := Aside0.mk (below_size (below_step (show Below w35.heap.size w35 _ from by repeat (first | exact Below.refl _ _ | apply below_alloc | apply pw_below_drewN | apply below_drew1)) hb))
 have n4_ := Aside0.mk (below_step (by repeat (first | (with_reducible first | exact HB.out | apply below_alloc | apply pw_below_drewN | apply below_drew1) | exact HB.out)) hb)
 clear HO29
 clear HO44
 clear HB
 have HO61 := n0_
 have HO29 := n1_
 have HO44 := n2_
 have HZ55 := n3_
 have HB := n4_
 clear n0_ n1_ n2_ n3_ n4_
 clear hb ho54
 -- toPairS
 go_wp2_with fail
 refine (laws_toPairS.calls k62 _ _ a0 z63 _ ?s64 ?s65 H66.out).mono ?_
 case s64 => (repeat (first | exact (Kd.C_below HR0.out HB.out) | (with_reducible refine Kd.C_alloc ?_ _) | (with_reducible refine Kd.C_drewN ?_ _) | (with_reducible refine Kd.C_drew ?_)))
 case s65 => (exact HC0.out)
 rintro e w67 ⟨v68, rfl, ho69, hb⟩
 obtain ⟨A71, c72, e74⟩ := Kd.R_slice ho69
 generalize hn73 : List.length z63 = n73 at e74
 subst e74
 have HN75 := Aside0.mk hn73
 clear hn73
 have n0_ := Aside0.mk (arr_R ho69 (below_size (show Below w52.heap.size w52 _ from by repeat (first | exact Below.refl _ _ | apply below_alloc | apply pw_below_drewN | apply below_drew1))) (below_size (by repeat (first | (with_reducible first | exact HB.out | apply below_alloc | apply pw_below_drewN | apply below_drew1) | exact HB.out))))
 have n1_ := Aside0.mk (Kd.R_below (by (with_reducible repeat (first | apply Kd.R_alloc | apply Kd.R_drewN | apply Kd.R_drew)); exact HO29.out) hb)
 have n2_ := Aside0.mk (Kd.S_below (by (with_reducible repeat (first | apply Kd.S_alloc | apply Kd.S_drewN | apply Kd.S_drew)); exact HO44.out) hb)
 have n3_ := Aside0.mk (Kd.N_below (by (with_reducible repeat (first | apply Kd.N_alloc | apply Kd.N_drewN | apply Kd.N_drew)); exact HO61.out) hb)
 have n4_ := Aside0.mk (below_size (below_step (show Below w52.heap.size w52 _ from by repeat (first | exact Below.refl _ _ | apply below_alloc | apply pw_below_drewN | apply below_drew1)) hb))
 have n5_ := Aside0.mk (below_step (by repeat (first | (with_reducible first | exact HB.out | apply below_alloc | apply pw_below_drewN | apply below_drew1) | exact HB.out)) hb)
 clear HO29
 clear HO44
 clear HO61
 clear HB
 have HO76 := n0_
 have HO29 := n1_
 have HO44 := n2_
 have HO61 := n3_
 have HZ70 := n4_
 have HB := n5_
 clear n0_ n1_ n2_ n3_ n4_ n5_
 clear hb ho69
 -- toRecordSS
 go_wp2_with fail
 refine (laws_toRecordSS.calls k77 _ _ a1 z78 _ ?s79 ?s80 H81.out).mono ?_
 case s79 => (repeat (first | exact (Kd.C_below HR1.out HB.out) | (with_reducible refine Kd.C_alloc ?_ _) | (with_reducible refine Kd.C_drewN ?_ _) | (with_reducible refine Kd.C_drew ?_)))
 case s80 => (exact HC1.out)
 rintro e w82 ⟨v83, rfl, ho84, hb⟩
 obtain ⟨A86, c87, e89⟩ := Kd.S_slice ho84
 generalize hn88 : List.length z78 = n88 at e89
 subst e89
 have HN90 := Aside0.mk hn88
 clear hn88
 have n0_ := Aside0.mk (arr_S ho84 (below_size (show Below w67.heap.size w67 _ from by repeat (first | exact Below.refl _ _ | apply below_alloc | apply pw_below_drewN | apply below_drew1))) (below_size (by repeat (first | (with_reducible first | exact HB.out | apply below_alloc | apply pw_below_drewN | apply below_drew1) | exact HB.out))))
 have n1_ := Aside0.mk (Kd.R_below (by (with_reducible repeat (first | apply Kd.R_alloc | apply Kd.R_drewN | apply Kd.R_drew)); exact HO29.out) hb)
 have n2_ := Aside0.mk (Kd.S_below (by (with_reducible repeat (first | apply Kd.S_alloc | apply Kd.S_drewN | apply Kd.S_drew)); exact HO44.out) hb)
 have n3_ := Aside0.mk (Kd.N_below (by (with_reducible repeat (first | apply Kd.N_alloc | apply Kd.N_drewN | apply Kd.N_drew)); exact HO61.out) hb)
 have n4_ := Aside0.mk (Kd.R_below (by (with_reducible repeat (first | apply Kd.R_alloc | apply Kd.R_drewN | apply Kd.R_drew)); exact HO76.out) hb)
 have n5_ := Aside0.mk (below_size (below_step (show Below w67.heap.size w67 _ from by repeat (first | exact Below.refl _ _ | apply below_alloc | apply pw_below_drewN | apply below_drew1)) hb))
 have n6_ := Aside0.mk (below_step (by repeat (first | (with_reducible first | exact HB.out | apply below_alloc | apply pw_below_drewN | apply below_drew1) | exact HB.out)) hb)
 clear HO29
 clear HO44
 clear HO61
 clear HO76
 clear HB
 have HO91 := n0_
 have HO29 := n1_
 have HO44 := n2_
 have HO61 := n3_
 have HO76 := n4_
 have HZ85 := n5_
 have HB := n6_
 clear n0_ n1_ n2_ n3_ n4_ n5_ n6_
 clear hb ho84
 -- impl.StatesAfter
 go_wp2_with fail
 rw [← HN75.out]
 rw [← HN90.out]
 refine (impl_StatesAfter.callsS k92 (In w52.heap.size w67.heap.size) _ _ z63 _ _ z78 z46 _ ?s93 ?s94 ?s95 H96.out).mono ?_
 case s93 => (refine as_V (e := 47) (base := w.heap.size) (base' := w.heap.size) ?_ HN75.out; (with_reducible repeat (first | apply Kd.R_alloc | apply Kd.R_drewN | apply Kd.R_drew)); exact HO76.out)
 case s94 => (exact rd_S (by (with_reducible repeat (first | apply Kd.S_alloc | apply Kd.S_drewN | apply Kd.S_drew)); exact HO91.out))
 case s95 => (exact le_S HO91.out)
 rintro e w97 ⟨v98, rfl, ho99, hb⟩
 try rw [HN75.out]
 try rw [HN90.out]
 obtain ⟨A101, c102, e104⟩ := Kd.S_slice ho99
 rw [HN60.out] at e104
 subst e104
 have n0_ := Aside0.mk (arr_S ho99 (below_size (show Below w82.heap.size w82 _ from by repeat (first | exact Below.refl _ _ | apply below_alloc | apply pw_below_drewN | apply below_drew1))) (below_size (by repeat (first | (with_reducible first | exact HB.out | apply below_alloc | apply pw_below_drewN | apply below_drew1) | exact HB.out))))
 have n1_ := Aside0.mk (Kd.R_below (by (with_reducible repeat (first | apply Kd.R_alloc | apply Kd.R_drewN | apply Kd.R_drew)); exact HO29.out) hb)
 have n2_ := Aside0.mk (Kd.S_below (by (with_reducible repeat (first | apply Kd.S_alloc | apply Kd.S_drewN | apply Kd.S_drew)); exact HO44.out) hb)
 have n3_ := Aside0.mk (Kd.N_below (by (with_reducible repeat (first | apply Kd.N_alloc | apply Kd.N_drewN | apply Kd.N_drew)); exact HO61.out) hb)
 have n4_ := Aside0.mk (Kd.R_below (by (with_reducible repeat (first | apply Kd.R_alloc | apply Kd.R_drewN | apply Kd.R_drew)); exact HO76.out) hb)
 have n5_ := Aside0.mk (Kd.S_below (by (with_reducible repeat (first | apply Kd.S_alloc | apply Kd.S_drewN | apply Kd.S_drew)); exact HO91.out) hb)
 have n6_ := Aside0.mk (below_size (below_step (show Below w82.heap.size w82 _ from by repeat (first | exact Below.refl _ _ | apply below_alloc | apply pw_below_drewN | apply below_drew1)) hb))
 have n7_ := Aside0.mk (below_step (by repeat (first | (with_reducible first | exact HB.out | apply below_alloc | apply pw_below_drewN | apply below_drew1) | exact HB.out)) hb)
 clear HO29
 clear HO44
 clear HO61
 clear HO76
 clear HO91
 clear HB
 have HO106 := n0_
 have HO29 := n1_
 have HO44 := n2_
 have HO61 := n3_
 have HO76 := n4_
 have HO91 := n5_
 have HZ100 := n6_
 have HB := n7_
 clear n0_ n1_ n2_ n3_ n4_ n5_ n6_ n7_
 clear hb ho99
 -- eqPairSS
 go_wp2_with fail
 rw [← HN60.out]
 refine (laws_eqPairSS.calls k107 _ _ z46 _ _ z46 true _ ?s108 ?s109 ?s110 ?s111 H112.out).mono ?_
 case s108 => (exact rd_S (by (with_reducible repeat (first | apply Kd.S_alloc | apply Kd.S_drewN | apply Kd.S_drew)); exact HO106.out))
 case s109 => (exact le_S HO106.out)
 case s110 => (exact rd_N (by (with_reducible repeat (first | apply Kd.N_alloc | apply Kd.N_drewN | apply Kd.N_drew)); exact HO61.out))
 case s111 => (exact le_N HO61.out)
 rintro e w113 ⟨rfl, hb⟩
 try rw [HN60.out]
 have n0_ := Aside0.mk (Kd.R_below (by (with_reducible repeat (first | apply Kd.R_alloc | apply Kd.R_drewN | apply Kd.R_drew)); exact HO29.out) hb)
 have n1_ := Aside0.mk (Kd.S_below (by (with_reducible repeat (first | apply Kd.S_alloc | apply Kd.S_drewN | apply Kd.S_drew)); exact HO44.out) hb)
 have n2_ := Aside0.mk (Kd.N_below (by (with_reducible repeat (first | apply Kd.N_alloc | apply Kd.N_drewN | apply Kd.N_drew)); exact HO61.out) hb)
 have n3_ := Aside0.mk (Kd.R_below (by (with_reducible repeat (first | apply Kd.R_alloc | apply Kd.R_drewN | apply Kd.R_drew)); exact HO76.out) hb)
 have n4_ := Aside0.mk (Kd.S_below (by (with_reducible repeat (first | apply Kd.S_alloc | apply Kd.S_drewN | apply Kd.S_drew)); exact HO91.out) hb)
 have n5_ := Aside0.mk (Kd.S_below (by (with_reducible repeat (first | apply Kd.S_alloc | apply Kd.S_drewN | apply Kd.S_drew)); exact HO106.out) hb)
 have n6_ := Aside0.mk (below_size (below_step (show Below w97.heap.size w97 _ from by repeat (first | exact Below.refl _ _ | apply below_alloc | apply pw_below_drewN | apply below_drew1)) hb))
 have n7_ := Aside0.mk (below_step (by repeat (first | (with_reducible first | exact HB.out | apply below_alloc | apply pw_below_drewN | apply below_drew1) | exact HB.out)) hb)
 clear HO29
 clear HO44
 clear HO61
 clear HO76
 clear HO91
 clear HO106
 clear HB
 have HO29 := n0_
 have HO44 := n1_
 have HO61 := n2_
 have HO76 := n3_
 have HO91 := n4_
 have HO106 := n5_
 have HZ114 := n6_
 have HB := n7_
 clear n0_ n1_ n2_ n3_ n4_ n5_ n6_ n7_
 clear hb
 -- toPairS
 go_wp2_with fail
 refine (laws_toPairS.calls k115 _ _ a0 z116 _ ?s117 ?s118 H119.out).mono ?_
 case s117 => (repeat (first | exact (Kd.C_below HR0.out HB.out) | (with_reducible refine Kd.C_alloc ?_ _) | (with_reducible refine Kd.C_drewN ?_ _) | (with_reducible refine Kd.C_drew ?_)))
 case s118 => (exact HC0.out)
 rintro e w120 ⟨v121, rfl, ho122, hb⟩
 obtain ⟨A124, c125, e127⟩ := Kd.R_slice ho122
 generalize hn126 : List.length z116 = n126 at e127
 subst e127
 have HN128 := Aside0.mk hn126
 clear hn126
 have n0_ := Aside0.mk (arr_R ho122 (below_size (show Below w113.heap.size w113 _ from by repeat (first | exact Below.refl _ _ | apply below_alloc | apply pw_below_drewN | apply below_drew1))) (below_size (by repeat (first | (with_reducible first | exact HB.out | apply below_alloc | apply pw_below_drewN | apply below_drew1) | exact HB.out))))
 have n1_ := Aside0.mk (Kd.R_below (by (with_reducible repeat (first | apply Kd.R_alloc | apply Kd.R_drewN | apply Kd.R_drew)); exact HO29.out) hb)
 have n2_ := Aside0.mk (Kd.S_below (by (with_reducible repeat (first | apply Kd.S_alloc | apply Kd.S_drewN | apply Kd.S_drew)); exact HO44.out) hb)
 have n3_ := Aside0.mk (Kd.N_below (by (with_reducible repeat (first | apply Kd.N_alloc | apply Kd.N_drewN | apply Kd.N_drew)); exact HO61.out) hb)
 have n4_ := Aside0.mk (Kd.R_below (by (with_reducible repeat (first | apply Kd.R_alloc | apply Kd.R_drewN | apply Kd.R_drew)); exact HO76.out) hb)
 have n5_ := Aside0.mk (Kd.S_below (by (with_reducible repeat (first | apply Kd.S_alloc | apply Kd.S_drewN | apply Kd.S_drew)); exact HO91.out) hb)
 have n6_ := Aside0.mk (Kd.S_below (by (with_reducible repeat (first | apply Kd.S_alloc | apply Kd.S_drewN | apply Kd.S_drew)); exact HO106.out) hb)
 have n7_ := Aside0.mk (below_size (below_step (show Below w113.heap.size w113 _ from by repeat (first | exact Below.refl _ _ | apply below_alloc | apply pw_below_drewN | apply below_drew1)) hb))
 have n8_ := Aside0.mk (below_step (by repeat (first | (with_reducible first | exact HB.out | apply below_alloc | apply pw_below_drewN | apply below_drew1) | exact HB.out)) hb)
 clear HO29
 clear HO44
 clear HO61
 clear HO76
 clear HO91
 clear HO106
 clear HB
 have HO129 := n0_
 have HO29 := n1_
 have HO44 := n2_
 have HO61 := n3_
 have HO76 := n4_
 have HO91 := n5_
 have HO106 := n6_
 have HZ123 := n7_
 have HB := n8_
 clear n0_ n1_ n2_ n3_ n4_ n5_ n6_ n7_ n8_
 clear hb ho122
 -- eqPairS
 go_wp2_with fail
 rw [← HN75.out]
 rw [← HN128.out]
 refine (laws_eqPairS.calls k130 _ _ z63 _ _ z116 true _ ?s131 ?s132 ?s133 ?s134 H135.out).mono ?_
 case s131 => (exact rd_R (by (with_reducible repeat (first | apply Kd.R_alloc | apply Kd.R_drewN | apply Kd.R_drew)); exact HO76.out))
 case s132 => (exact le_R HO76.out)
 case s133 => (exact rd_R (by (with_reducible repeat (first | apply Kd.R_alloc | apply Kd.R_drewN | apply Kd.R_drew)); exact HO129.out))
 case s134 => (exact le_R HO129.out)
 rintro e w136 ⟨rfl, hb⟩
 try rw [HN75.out]
 try rw [HN128.out]
 have n0_ := Aside0.mk (Kd.R_below (by (with_reducible repeat (first | apply Kd.R_alloc | apply Kd.R_drewN | apply Kd.R_drew)); exact HO29.out) hb)
 have n1_ := Aside0.mk (Kd.S_below (by (with_reducible repeat (first | apply Kd.S_alloc | apply Kd.S_drewN | apply Kd.S_drew)); exact HO44.out) hb)
 have n2_ := Aside0.mk (Kd.N_below (by (with_reducible repeat (first | apply Kd.N_alloc | apply Kd.N_drewN | apply Kd.N_drew)); exact HO61.out) hb)
 have n3_ := Aside0.mk (Kd.R_below (by (with_reducible repeat (first | apply Kd.R_alloc | apply Kd.R_drewN | apply Kd.R_drew)); exact HO76.out) hb)
 have n4_ := Aside0.mk (Kd.S_below (by (with_reducible repeat (first | apply Kd.S_alloc | apply Kd.S_drewN | apply Kd.S_drew)); exact HO91.out) hb)
 have n5_ := Aside0.mk (Kd.S_below (by (with_reducible repeat (first | apply Kd.S_alloc | apply Kd.S_drewN | apply Kd.S_drew)); exact HO106.out) hb)
 have n6_ := Aside0.mk (Kd.R_below (by (with_reducible repeat (first | apply Kd.R_alloc | apply Kd.R_drewN | apply Kd.R_drew)); exact HO129.out) hb)
 have n7_ := Aside0.mk (below_size (below_step (show Below w120.heap.size w120 _ from by repeat (first | exact Below.refl _ _ | apply below_alloc | apply pw_below_drewN | apply below_drew1)) hb))
 have n8_ := Aside0.mk (below_step (by repeat (first | (with_reducible first | exact HB.out | apply below_alloc | apply pw_below_drewN | apply below_drew1) | exact HB.out)) hb)
 clear HO29
 clear HO44
 clear HO61
 clear HO76
 clear HO91
 clear HO106
 clear HO129
 clear HB
 have HO29 := n0_
 have HO44 := n1_
 have HO61 := n2_
 have HO76 := n3_
 have HO91 := n4_
 have HO106 := n5_
 have HO129 := n6_
 have HZ137 := n7_
 have HB := n8_
 clear n0_ n1_ n2_ n3_ n4_ n5_ n6_ n7_ n8_
 clear hb
 -- toRecordSS
 go_wp2_with fail
 refine (laws_toRecordSS.calls k138 _ _ a1 z139 _ ?s140 ?s141 H142.out).mono ?_
 case s140 => (repeat (first | exact (Kd.C_below HR1.out HB.out) | (with_reducible refine Kd.C_alloc ?_ _) | (with_reducible refine Kd.C_drewN ?_ _) | (with_reducible refine Kd.C_drew ?_)))
 case s141 => (exact HC1.out)
 rintro e w143 ⟨v144, rfl, ho145, hb⟩
 obtain ⟨A147, c148, e150⟩ := Kd.S_slice ho145
 generalize hn149 : List.length z139 = n149 at e150
 subst e150
 have HN151 := Aside0.mk hn149
 clear hn149
 have n0_ := Aside0.mk (arr_S ho145 (below_size (show Below w136.heap.size w136 _ from by repeat (first | exact Below.refl _ _ | apply below_alloc | apply pw_below_drewN | apply below_drew1))) (below_size (by repeat (first | (with_reducible first | exact HB.out | apply below_alloc | apply pw_below_drewN | apply below_drew1) | exact HB.out))))
 have n1_ := Aside0.mk (Kd.R_below (by (with_reducible repeat (first | apply Kd.R_alloc | apply Kd.R_drewN | apply Kd.R_drew)); exact HO29.out) hb)
 have n2_ := Aside0.mk (Kd.S_below (by (with_reducible repeat (first | apply Kd.S_alloc | apply Kd.S_drewN | apply Kd.S_drew)); exact HO44.out) hb)
 have n3_ := Aside0.mk (Kd.N_below (by (with_reducible repeat (first | apply Kd.N_alloc | apply Kd.N_drewN | apply Kd.N_drew)); exact HO61.out) hb)
 have n4_ := Aside0.mk (Kd.R_below (by (with_reducible repeat (first | apply Kd.R_alloc | apply Kd.R_drewN | apply Kd.R_drew)); exact HO76.out) hb)
 have n5_ := Aside0.mk (Kd.S_below (by (with_reducible repeat (first | apply Kd.S_alloc | apply Kd.S_drewN | apply Kd.S_drew)); exact HO91.out) hb)
 have n6_ := Aside0.mk (Kd.S_below (by (with_reducible repeat (first | apply Kd.S_alloc | apply Kd.S_drewN | apply Kd.S_drew)); exact HO106.out) hb)
 have n7_ := Aside0.mk (Kd.R_below (by (with_reducible repeat (first | apply Kd.R_alloc | apply Kd.R_drewN | apply Kd.R_drew)); exact HO129.out) hb)
 have n8_ := Aside0.mk (below_size (below_step (show Below w136.heap.size w136 _ from by repeat (first | exact Below.refl _ _ | apply below_alloc | apply pw_below_drewN | apply below_drew1)) hb))
 have n9_ := Aside0.mk (below_step (by repeat (first | (with_reducible first | exact HB.out | apply below_alloc | apply pw_below_drewN | apply below_drew1) | exact HB.out)) hb)
 clear HO29
 clear HO44
 clear HO61
 clear HO76
 clear HO91
 clear HO106
 clear HO129
 clear HB
 have HO152 := n0_
 have HO29 := n1_
 have HO44 := n2_
 have HO61 := n3_
 have HO76 := n4_
 have HO91 := n5_
 have HO106 := n6_
 have HO129 := n7_
 have HZ146 := n8_
 have HB := n9_
 clear n0_ n1_ n2_ n3_ n4_ n5_ n6_ n7_ n8_ n9_
 clear hb ho145
 -- eqRecordSS
 go_wp2_with fail
 rw [← HN90.out]
 rw [← HN151.out]
 refine (laws_eqRecordSS.calls k153 _ _ z78 _ _ z139 true _ ?s154 ?s155 ?s156 ?s157 H158.out).mono ?_
 case s154 => (exact rd_S (by (with_reducible repeat (first | apply Kd.S_alloc | apply Kd.S_drewN | apply Kd.S_drew)); exact HO91.out))
 case s155 => (exact le_S HO91.out)
 case s156 => (exact rd_S (by (with_reducible repeat (first | apply Kd.S_alloc | apply Kd.S_drewN | apply Kd.S_drew)); exact HO152.out))
 case s157 => (exact le_S HO152.out)
 rintro e w159 ⟨rfl, hb⟩
 try rw [HN90.out]
 try rw [HN151.out]
 have n0_ := Aside0.mk (Kd.R_below (by (with_reducible repeat (first | apply Kd.R_alloc | apply Kd.R_drewN | apply Kd.R_drew)); exact HO29.out) hb)
 have n1_ := Aside0.mk (Kd.S_below (by (with_reducible repeat (first | apply Kd.S_alloc | apply Kd.S_drewN | apply Kd.S_drew)); exact HO44.out) hb)
 have n2_ := Aside0.mk (Kd.N_below (by (with_reducible repeat (first | apply Kd.N_alloc | apply Kd.N_drewN | apply Kd.N_drew)); exact HO61.out) hb)
 have n3_ := Aside0.mk (Kd.R_below (by (with_reducible repeat (first | apply Kd.R_alloc | apply Kd.R_drewN | apply Kd.R_drew)); exact HO76.out) hb)
 have n4_ := Aside0.mk (Kd.S_below (by (with_reducible repeat (first | apply Kd.S_alloc | apply Kd.S_drewN | apply Kd.S_drew)); exact HO91.out) hb)
 have n5_ := Aside0.mk (Kd.S_below (by (with_reducible repeat (first | apply Kd.S_alloc | apply Kd.S_drewN | apply Kd.S_drew)); exact HO106.out) hb)
 have n6_ := Aside0.mk (Kd.R_below (by (with_reducible repeat (first | apply Kd.R_alloc | apply Kd.R_drewN | apply Kd.R_drew)); exact HO129.out) hb)
 have n7_ := Aside0.mk (Kd.S_below (by (with_reducible repeat (first | apply Kd.S_alloc | apply Kd.S_drewN | apply Kd.S_drew)); exact HO152.out) hb)
 have n8_ := Aside0.mk (below_size (below_step (show Below w143.heap.size w143 _ from by repeat (first | exact Below.refl _ _ | apply below_alloc | apply pw_below_drewN | apply below_drew1)) hb))
 have n9_ := Aside0.mk (below_step (by repeat (first | (with_reducible first | exact HB.out | apply below_alloc | apply pw_below_drewN | apply below_drew1) | exact HB.out)) hb)
 clear HO29
 clear HO44
 clear HO61
 clear HO76
 clear HO91
 clear HO106
 clear HO129
 clear HO152
 clear HB
 have HO29 := n0_
 have HO44 := n1_
 have HO61 := n2_
 have HO76 := n3_
 have HO91 := n4_
 have HO106 := n5_
 have HO129 := n6_
 have HO152 := n7_
 have HZ160 := n8_
 have HB := n9_
 clear n0_ n1_ n2_ n3_ n4_ n5_ n6_ n7_ n8_ n9_
 clear hb
 -- markPairS
 go_wp2_with fail
 refine (laws_markPairS.calls k161 (In w52.heap.size w67.heap.size) _ z63 1 z162 z163 w _ (by repeat (first | (with_reducible first | exact HB.out | apply below_alloc | apply pw_below_drewN | apply below_drew1) | exact HB.out)) ?s164 H165.out).mono ?_
 case s164 => (exact (by (with_reducible repeat (first | apply Kd.R_alloc | apply Kd.R_drewN | apply Kd.R_drew)); exact HO76.out))
 rintro e w166 ⟨rfl, hR, hb, hK⟩
 have n0_ := Aside0.mk ((Kd.R_reads' hR).1.symm)
 have n1_ := Aside0.mk (flat_ok flatPair hR (HO76.out.1))
 have n2_ := Aside0.mk (Kd.R_kept (by (with_reducible repeat (first | apply Kd.R_alloc | apply Kd.R_drewN | apply Kd.R_drew)); exact HO29.out) hK (apart_of_le (by have := HZ7.out; have := HZ14.out; have := HZ23.out; have := HZ38.out; have := HZ55.out; have := HZ70.out; have := HZ85.out; have := HZ100.out; have := HZ114.out; have := HZ123.out; have := HZ137.out; have := HZ146.out; have := HZ160.out; omega)))
 have n3_ := Aside0.mk (Kd.S_kept (by (with_reducible repeat (first | apply Kd.S_alloc | apply Kd.S_drewN | apply Kd.S_drew)); exact HO44.out) hK (apart_of_le (by have := HZ7.out; have := HZ14.out; have := HZ23.out; have := HZ38.out; have := HZ55.out; have := HZ70.out; have := HZ85.out; have := HZ100.out; have := HZ114.out; have := HZ123.out; have := HZ137.out; have := HZ146.out; have := HZ160.out; omega)))
 have n4_ := Aside0.mk (Kd.N_kept (by (with_reducible repeat (first | apply Kd.N_alloc | apply Kd.N_drewN | apply Kd.N_drew)); exact HO61.out) hK (apart_of_le (by have := HZ7.out; have := HZ14.out; have := HZ23.out; have := HZ38.out; have := HZ55.out; have := HZ70.out; have := HZ85.out; have := HZ100.out; have := HZ114.out; have := HZ123.out; have := HZ137.out; have := HZ146.out; have := HZ160.out; omega)))
 have n5_ := Aside0.mk (Kd.S_kept (by (with_reducible repeat (first | apply Kd.S_alloc | apply Kd.S_drewN | apply Kd.S_drew)); exact HO91.out) hK (apart_of_le (by have := HZ7.out; have := HZ14.out; have := HZ23.out; have := HZ38.out; have := HZ55.out; have := HZ70.out; have := HZ85.out; have := HZ100.out; have := HZ114.out; have := HZ123.out; have := HZ137.out; have := HZ146.out; have := HZ160.out; omega)))
 have n6_ := Aside0.mk (Kd.S_kept (by (with_reducible repeat (first | apply Kd.S_alloc | apply Kd.S_drewN | apply Kd.S_drew)); exact HO106.out) hK (apart_of_le (by have := HZ7.out; have := HZ14.out; have := HZ23.out; have := HZ38.out; have := HZ55.out; have := HZ70.out; have := HZ85.out; have := HZ100.out; have := HZ114.out; have := HZ123.out; have := HZ137.out; have := HZ146.out; have := HZ160.out; omega)))
 have n7_ := Aside0.mk (Kd.R_kept (by (with_reducible repeat (first | apply Kd.R_alloc | apply Kd.R_drewN | apply Kd.R_drew)); exact HO129.out) hK (apart_of_le (by have := HZ7.out; have := HZ14.out; have := HZ23.out; have := HZ38.out; have := HZ55.out; have := HZ70.out; have := HZ85.out; have := HZ100.out; have := HZ114.out; have := HZ123.out; have := HZ137.out; have := HZ146.out; have := HZ160.out; omega)))
 have n8_ := Aside0.mk (Kd.S_kept (by (with_reducible repeat (first | apply Kd.S_alloc | apply Kd.S_drewN | apply Kd.S_drew)); exact HO152.out) hK (apart_of_le (by have := HZ7.out; have := HZ14.out; have := HZ23.out; have := HZ38.out; have := HZ55.out; have := HZ70.out; have := HZ85.out; have := HZ100.out; have := HZ114.out; have := HZ123.out; have := HZ137.out; have := HZ146.out; have := HZ160.out; omega)))
 have n9_ := Aside0.mk (Nat.le_trans (below_size (show Below w159.heap.size w159 _ from by repeat (first | exact Below.refl _ _ | apply below_alloc | apply pw_below_drewN | apply below_drew1))) hK.1)
 have n10_ := Aside0.mk (hb)
 clear HO29
 clear HO44
 clear HO61
 clear HO91
 clear HO106
 clear HO129
 clear HO152
 clear HB
 clear HO76
 have HN167 := n0_
 have HO168 := n1_
 have HO29 := n2_
 have HO44 := n3_
 have HO61 := n4_
 have HO91 := n5_
 have HO106 := n6_
 have HO129 := n7_
 have HO152 := n8_
 have HZ169 := n9_
 have HB := n10_
 clear n0_ n1_ n2_ n3_ n4_ n5_ n6_ n7_ n8_ n9_ n10_
 clear hR hb hK
 -- markRecordSS
 go_wp2_with fail
 refine (laws_markRecordSS.calls k170 (In w67.heap.size w82.heap.size) _ z78 z162 z171 z172 w _ (by repeat (first | (with_reducible first | exact HB.out | apply below_alloc | apply pw_below_drewN | apply below_drew1) | exact HB.out)) ?s173 H174.out).mono ?_
 case s173 => (exact (by (with_reducible repeat (first | apply Kd.S_alloc | apply Kd.S_drewN | apply Kd.S_drew)); exact HO91.out))
 rintro e w175 ⟨rfl, hR, hb, hK⟩
 have n0_ := Aside0.mk ((Kd.S_reads' hR).1.symm)
 have n1_ := Aside0.mk (hR)
 have n2_ := Aside0.mk (Kd.R_kept (by (with_reducible repeat (first | apply Kd.R_alloc | apply Kd.R_drewN | apply Kd.R_drew)); exact HO29.out) hK (apart_of_le (by have := HZ7.out; have := HZ14.out; have := HZ23.out; have := HZ38.out; have := HZ55.out; have := HZ70.out; have := HZ85.out; have := HZ100.out; have := HZ114.out; have := HZ123.out; have := HZ137.out; have := HZ146.out; have := HZ160.out; have := HZ169.out; omega)))
 have n3_ := Aside0.mk (Kd.S_kept (by (with_reducible repeat (first | apply Kd.S_alloc | apply Kd.S_drewN | apply Kd.S_drew)); exact HO44.out) hK (apart_of_le (by have := HZ7.out; have := HZ14.out; have := HZ23.out; have := HZ38.out; have := HZ55.out; have := HZ70.out; have := HZ85.out; have := HZ100.out; have := HZ114.out; have := HZ123.out; have := HZ137.out; have := HZ146.out; have := HZ160.out; have := HZ169.out; omega)))
 have n4_ := Aside0.mk (Kd.N_kept (by (with_reducible repeat (first | apply Kd.N_alloc | apply Kd.N_drewN | apply Kd.N_drew)); exact HO61.out) hK (apart_of_le (by have := HZ7.out; have := HZ14.out; have := HZ23.out; have := HZ38.out; have := HZ55.out; have := HZ70.out; have := HZ85.out; have := HZ100.out; have := HZ114.out; have := HZ123.out; have := HZ137.out; have := HZ146.out; have := HZ160.out; have := HZ169.out; omega)))
 have n5_ := Aside0.mk (Kd.R_kept (by (with_reducible repeat (first | apply Kd.R_alloc | apply Kd.R_drewN | apply Kd.R_drew)); exact HO168.out) hK (apart_of_le (by have := HZ7.out; have := HZ14.out; have := HZ23.out; have := HZ38.out; have := HZ55.out; have := HZ70.out; have := HZ85.out; have := HZ100.out; have := HZ114.out; have := HZ123.out; have := HZ137.out; have := HZ146.out; have := HZ160.out; have := HZ169.out; omega)))
 have n6_ := Aside0.mk (Kd.S_kept (by (with_reducible repeat (first | apply Kd.S_alloc | apply Kd.S_drewN | apply Kd.S_drew)); exact HO106.out) hK (apart_of_le (by have := HZ7.out; have := HZ14.out; have := HZ23.out; have := HZ38.out; have := HZ55.out; have := HZ70.out; have := HZ85.out; have := HZ100.out; have := HZ114.out; have := HZ123.out; have := HZ137.out; have := HZ146.out; have := HZ160.out; have := HZ169.out; omega)))
 have n7_ := Aside0.mk (Kd.R_kept (by (with_reducible repeat (first | apply Kd.R_alloc | apply Kd.R_drewN | apply Kd.R_drew)); exact HO129.out) hK (apart_of_le (by have := HZ7.out; have := HZ14.out; have := HZ23.out; have := HZ38.out; have := HZ55.out; have := HZ70.out; have := HZ85.out; have := HZ100.out; have := HZ114.out; have := HZ123.out; have := HZ137.out; have := HZ146.out; have := HZ160.out; have := HZ169.out; omega)))
 have n8_ := Aside0.mk (Kd.S_kept (by (with_reducible repeat (first | apply Kd.S_alloc | apply Kd.S_drewN | apply Kd.S_drew)); exact HO152.out) hK (apart_of_le (by have := HZ7.out; have := HZ14.out; have := HZ23.out; have := HZ38.out; have := HZ55.out; have := HZ70.out; have := HZ85.out; have := HZ100.out; have := HZ114.out; have := HZ123.out; have := HZ137.out; have := HZ146.out; have := HZ160.out; have := HZ169.out; omega)))
 have n9_ := Aside0.mk (Nat.le_trans (below_size (show Below w166.heap.size w166 _ from by repeat (first | exact Below.refl _ _ | apply below_alloc | apply pw_below_drewN | apply below_drew1))) hK.1)
 have n10_ := Aside0.mk (hb)
 clear HO29
 clear HO44
 clear HO61
 clear HO168
 clear HO106
 clear HO129
 clear HO152
 clear HB
 clear HO91
 have HN176 := n0_
 have HO177 := n1_
 have HO29 := n2_
 have HO44 := n3_
 have HO61 := n4_
 have HO168 := n5_
 have HO106 := n6_
 have HO129 := n7_
 have HO152 := n8_
 have HZ178 := n9_
 have HB := n10_
 clear n0_ n1_ n2_ n3_ n4_ n5_ n6_ n7_ n8_ n9_ n10_
 clear hR hb hK
 have dz171 : decide (z171 < 0) = false := decide_eq_false (by omega)
 -- eqPairSS
 go_wp2_with fail
 rw [← HN60.out]
 refine (laws_eqPairSS.calls k179 _ _ z46 _ _ z46 true _ ?s180 ?s181 ?s182 ?s183 H184.out).mono ?_
 case s180 => (exact rd_S (by (with_reducible repeat (first | apply Kd.S_alloc | apply Kd.S_drewN | apply Kd.S_drew)); exact HO106.out))
 case s181 => (exact le_S HO106.out)
 case s182 => (exact rd_N (by (with_reducible repeat (first | apply Kd.N_alloc | apply Kd.N_drewN | apply Kd.N_drew)); exact HO61.out))
 case s183 => (exact le_N HO61.out)
 rintro e w185 ⟨rfl, hb⟩
 try rw [HN60.out]
 have n0_ := Aside0.mk (Kd.R_below (by (with_reducible repeat (first | apply Kd.R_alloc | apply Kd.R_drewN | apply Kd.R_drew)); exact HO29.out) hb)
 have n1_ := Aside0.mk (Kd.S_below (by (with_reducible repeat (first | apply Kd.S_alloc | apply Kd.S_drewN | apply Kd.S_drew)); exact HO44.out) hb)
 have n2_ := Aside0.mk (Kd.N_below (by (with_reducible repeat (first | apply Kd.N_alloc | apply Kd.N_drewN | apply Kd.N_drew)); exact HO61.out) hb)
 have n3_ := Aside0.mk (Kd.R_below (by (with_reducible repeat (first | apply Kd.R_alloc | apply Kd.R_drewN | apply Kd.R_drew)); exact HO168.out) hb)
 have n4_ := Aside0.mk (Kd.S_below (by (with_reducible repeat (first | apply Kd.S_alloc | apply Kd.S_drewN | apply Kd.S_drew)); exact HO177.out) hb)
 have n5_ := Aside0.mk (Kd.S_below (by (with_reducible repeat (first | apply Kd.S_alloc | apply Kd.S_drewN | apply Kd.S_drew)); exact HO106.out) hb)
 have n6_ := Aside0.mk (Kd.R_below (by (with_reducible repeat (first | apply Kd.R_alloc | apply Kd.R_drewN | apply Kd.R_drew)); exact HO129.out) hb)
 have n7_ := Aside0.mk (Kd.S_below (by (with_reducible repeat (first | apply Kd.S_alloc | apply Kd.S_drewN | apply Kd.S_drew)); exact HO152.out) hb)
 have n8_ := Aside0.mk (below_size (below_step (show Below w175.heap.size w175 _ from by repeat (first | exact Below.refl _ _ | apply below_alloc | apply pw_below_drewN | apply below_drew1)) hb))
 have n9_ := Aside0.mk (below_step (by repeat (first | (with_reducible first | exact HB.out | apply below_alloc | apply pw_below_drewN | apply below_drew1) | exact HB.out)) hb)
 clear HO29
 clear HO44
 clear HO61
 clear HO168
 clear HO177
 clear HO106
 clear HO129
 clear HO152
 clear HB
 have HO29 := n0_
 have HO44 := n1_
 have HO61 := n2_
 have HO168 := n3_
 have HO177 := n4_
 have HO106 := n5_
 have HO129 := n6_
 have HO152 := n7_
 have HZ186 := n8_
 have HB := n9_
 clear n0_ n1_ n2_ n3_ n4_ n5_ n6_ n7_ n8_ n9_
 clear hb
 -- markPairSS
 go_wp2_with fail
 refine (laws_markPairSS.calls k187 (In w82.heap.size w97.heap.size) _ z46 1 z188 z189 w _ (by repeat (first | (with_reducible first | exact HB.out | apply below_alloc | apply pw_below_drewN | apply below_drew1) | exact HB.out)) ?s190 H191.out).mono ?_
 case s190 => (exact (by (with_reducible repeat (first | apply Kd.S_alloc | apply Kd.S_drewN | apply Kd.S_drew)); exact HO106.out))
 rintro e w192 ⟨rfl, hR, hb, hK⟩
 have n0_ := Aside0.mk ((Kd.S_reads' hR).1.symm)
 have n1_ := Aside0.mk (hR)
 have n2_ := Aside0.mk (Kd.R_kept (by (with_reducible repeat (first | apply Kd.R_alloc | apply Kd.R_drewN | apply Kd.R_drew)); exact HO29.out) hK (apart_of_le (by have := HZ7.out; have := HZ14.out; have := HZ23.out; have := HZ38.out; have := HZ55.out; have := HZ70.out; have := HZ85.out; have := HZ100.out; have := HZ114.out; have := HZ123.out; have := HZ137.out; have := HZ146.out; have := HZ160.out; have := HZ169.out; have := HZ178.out; have := HZ186.out; omega)))
 have n3_ := Aside0.mk (Kd.S_kept (by (with_reducible repeat (first | apply Kd.S_alloc | apply Kd.S_drewN | apply Kd.S_drew)); exact HO44.out) hK (apart_of_le (by have := HZ7.out; have := HZ14.out; have := HZ23.out; have := HZ38.out; have := HZ55.out; have := HZ70.out; have := HZ85.out; have := HZ100.out; have := HZ114.out; have := HZ123.out; have := HZ137.out; have := HZ146.out; have := HZ160.out; have := HZ169.out; have := HZ178.out; have := HZ186.out; omega)))
 have n4_ := Aside0.mk (Kd.N_kept (by (with_reducible repeat (first | apply Kd.N_alloc | apply Kd.N_drewN | apply Kd.N_drew)); exact HO61.out) hK (apart_of_le (by have := HZ7.out; have := HZ14.out; have := HZ23.out; have := HZ38.out; have := HZ55.out; have := HZ70.out; have := HZ85.out; have := HZ100.out; have := HZ114.out; have := HZ123.out; have := HZ137.out; have := HZ146.out; have := HZ160.out; have := HZ169.out; have := HZ178.out; have := HZ186.out; omega)))
 have n5_ := Aside0.mk (Kd.R_kept (by (with_reducible repeat (first | apply Kd.R_alloc | apply Kd.R_drewN | apply Kd.R_drew)); exact HO168.out) hK (apart_of_le (by have := HZ7.out; have := HZ14.out; have := HZ23.out; have := HZ38.out; have := HZ55.out; have := HZ70.out; have := HZ85.out; have := HZ100.out; have := HZ114.out; have := HZ123.out; have := HZ137.out; have := HZ146.out; have := HZ160.out; have := HZ169.out; have := HZ178.out; have := HZ186.out; omega)))
 have n6_ := Aside0.mk (Kd.S_kept (by (with_reducible repeat (first | apply Kd.S_alloc | apply Kd.S_drewN | apply Kd.S_drew)); exact HO177.out) hK (apart_of_le (by have := HZ7.out; have := HZ14.out; have := HZ23.out; have := HZ38.out; have := HZ55.out; have := HZ70.out; have := HZ85.out; have := HZ100.out; have := HZ114.out; have := HZ123.out; have := HZ137.out; have := HZ146.out; have := HZ160.out; have := HZ169.out; have := HZ178.out; have := HZ186.out; omega)))
 have n7_ := Aside0.mk (Kd.R_kept (by (with_reducible repeat (first | apply Kd.R_alloc | apply Kd.R_drewN | apply Kd.R_drew)); exact HO129.out) hK (apart_of_le (by have := HZ7.out; have := HZ14.out; have := HZ23.out; have := HZ38.out; have := HZ55.out; have := HZ70.out; have := HZ85.out; have := HZ100.out; have := HZ114.out; have := HZ123.out; have := HZ137.out; have := HZ146.out; have := HZ160.out; have := HZ169.out; have := HZ178.out; have := HZ186.out; omega)))
 have n8_ := Aside0.mk (Kd.S_kept (by (with_reducible repeat (first | apply Kd.S_alloc | apply Kd.S_drewN | apply Kd.S_drew)); exact HO152.out) hK (apart_of_le (by have := HZ7.out; have := HZ14.out; have := HZ23.out; have := HZ38.out; have := HZ55.out; have := HZ70.out; have := HZ85.out; have := HZ100.out; have := HZ114.out; have := HZ123.out; have := HZ137.out; have := HZ146.out; have := HZ160.out; have := HZ169.out; have := HZ178.out; have := HZ186.out; omega)))
 have n9_ := Aside0.mk (Nat.le_trans (below_size (show Below w185.heap.size w185 _ from by repeat (first | exact Below.refl _ _ | apply below_alloc | apply pw_below_drewN | apply below_drew1))) hK.1)
 have n10_ := Aside0.mk (hb)
 clear HO29
 clear HO44
 clear HO61
 clear HO168
 clear HO177
 clear HO129
 clear HO152
 clear HB
 clear HO106
 have HN193 := n0_
 have HO194 := n1_
 have HO29 := n2_
 have HO44 := n3_
 have HO61 := n4_
 have HO168 := n5_
 have HO177 := n6_
 have HO129 := n7_
 have HO152 := n8_
 have HZ195 := n9_
 have HB := n10_
 clear n0_ n1_ n2_ n3_ n4_ n5_ n6_ n7_ n8_ n9_ n10_
 clear hR hb hK
 -- heldPairSS
 go_wp2_with fail
 rw [← HN193.out]
 refine (laws_heldPairSS.calls k196 _ _ z189 1 z188 _ ?s197 ?s198 H199.out).mono ?_
 case s197 => (exact rd_S (by (with_reducible repeat (first | apply Kd.S_alloc | apply Kd.S_drewN | apply Kd.S_drew)); exact HO194.out))
 case s198 => (exact le_S HO194.out)
 rintro e w200 ⟨rfl, hb⟩
 try rw [HN193.out]
 have n0_ := Aside0.mk (Kd.R_below (by (with_reducible repeat (first | apply Kd.R_alloc | apply Kd.R_drewN | apply Kd.R_drew)); exact HO29.out) hb)
 have n1_ := Aside0.mk (Kd.S_below (by (with_reducible repeat (first | apply Kd.S_alloc | apply Kd.S_drewN | apply Kd.S_drew)); exact HO44.out) hb)
 have n2_ := Aside0.mk (Kd.N_below (by (with_reducible repeat (first | apply Kd.N_alloc | apply Kd.N_drewN | apply Kd.N_drew)); exact HO61.out) hb)
 have n3_ := Aside0.mk (Kd.R_below (by (with_reducible repeat (first | apply Kd.R_alloc | apply Kd.R_drewN | apply Kd.R_drew)); exact HO168.out) hb)
 have n4_ := Aside0.mk (Kd.S_below (by (with_reducible repeat (first | apply Kd.S_alloc | apply Kd.S_drewN | apply Kd.S_drew)); exact HO177.out) hb)
 have n5_ := Aside0.mk (Kd.S_below (by (with_reducible repeat (first | apply Kd.S_alloc | apply Kd.S_drewN | apply Kd.S_drew)); exact HO194.out) hb)
 have n6_ := Aside0.mk (Kd.R_below (by (with_reducible repeat (first | apply Kd.R_alloc | apply Kd.R_drewN | apply Kd.R_drew)); exact HO129.out) hb)
 have n7_ := Aside0.mk (Kd.S_below (by (with_reducible repeat (first | apply Kd.S_alloc | apply Kd.S_drewN | apply Kd.S_drew)); exact HO152.out) hb)
 have n8_ := Aside0.mk (below_size (below_step (show Below w192.heap.size w192 _ from by repeat (first | exact Below.refl _ _ | apply below_alloc | apply pw_below_drewN | apply below_drew1)) hb))
 have n9_ := Aside0.mk (below_step (by repeat (first | (with_reducible first | exact HB.out | apply below_alloc | apply pw_below_drewN | apply below_drew1) | exact HB.out)) hb)
 clear HO29
 clear HO44
 clear HO61
 clear HO168
 clear HO177
 clear HO194
 clear HO129
 clear HO152
 clear HB
 have HO29 := n0_
 have HO44 := n1_
 have HO61 := n2_
 have HO168 := n3_
 have HO177 := n4_
 have HO194 := n5_
 have HO129 := n6_
 have HO152 := n7_
 have HZ201 := n8_
 have HB := n9_
 clear n0_ n1_ n2_ n3_ n4_ n5_ n6_ n7_ n8_ n9_
 clear hb
 have dz188 : decide (z188 < 0) = false := decide_eq_false (by omega)
 -- toPairS
 go_wp2_with fail
 refine (laws_toPairS.calls k202 _ _ a0 z203 _ ?s204 ?s205 H206.out).mono ?_
 case s204 => (repeat (first | exact (Kd.C_below HR0.out HB.out) | (with_reducible refine Kd.C_alloc ?_ _) | (with_reducible refine Kd.C_drewN ?_ _) | (with_reducible refine Kd.C_drew ?_)))
 case s205 => (exact HC0.out)
 rintro e w207 ⟨v208, rfl, ho209, hb⟩
 obtain ⟨A211, c212, e214⟩ := Kd.R_slice ho209
 generalize hn213 : List.length z203 = n213 at e214
 subst e214
 have HN215 := Aside0.mk hn213
 clear hn213
 have n0_ := Aside0.mk (arr_R ho209 (below_size (show Below w200.heap.size w200 _ from by repeat (first | exact Below.refl _ _ | apply below_alloc | apply pw_below_drewN | apply below_drew1))) (below_size (by repeat (first | (with_reducible first | exact HB.out | apply below_alloc | apply pw_below_drewN | apply below_drew1) | exact HB.out))))
 have n1_ := Aside0.mk (Kd.R_below (by (with_reducible repeat (first | apply Kd.R_alloc | apply Kd.R_drewN | apply Kd.R_drew)); exact HO29.out) hb)
 have n2_ := Aside0.mk (Kd.S_below (by (with_reducible repeat (first | apply Kd.S_alloc | apply Kd.S_drewN | apply Kd.S_drew)); exact HO44.out) hb)
 have n3_ := Aside0.mk (Kd.N_below (by (with_reducible repeat (first | apply Kd.N_alloc | apply Kd.N_drewN | apply Kd.N_drew)); exact HO61.out) hb)
 have n4_ := Aside0.mk (Kd.R_below (by (with_reducible repeat (first | apply Kd.R_alloc | apply Kd.R_drewN | apply Kd.R_drew)); exact HO168.out) hb)
 have n5_ := Aside0.mk (Kd.S_below (by (with_reducible repeat (first | apply Kd.S_alloc | apply Kd.S_drewN | apply Kd.S_drew)); exact HO177.out) hb)
 have n6_ := Aside0.mk (Kd.S_below (by (with_reducible repeat (first | apply Kd.S_alloc | apply Kd.S_drewN | apply Kd.S_drew)); exact HO194.out) hb)
 have n7_ := Aside0.mk (Kd.R_below (by (with_reducible repeat (first | apply Kd.R_alloc | apply Kd.R_drewN | apply Kd.R_drew)); exact HO129.out) hb)
 have n8_ := Aside0.mk (Kd.S_below (by (with_reducible repeat (first | apply Kd.S_alloc | apply Kd.S_drewN | apply Kd.S_drew)); exact HO152.out) hb)
 have n9_ := Aside0.mk (below_size (below_step (show Below w200.heap.size w200 _ from by repeat (first | exact Below.refl _ _ | apply below_alloc | apply pw_below_drewN | apply below_drew1)) hb))
 have n10_ := Aside0.mk (below_step (by repeat (first | (with_reducible first | exact HB.out | apply below_alloc | apply pw_below_drewN | apply below_drew1) | exact HB.out)) hb)
 clear HO29
 clear HO44
 clear HO61
 clear HO168
 clear HO177
 clear HO194
 clear HO129
 clear HO152
 clear HB
 have HO216 := n0_
 have HO29 := n1_
 have HO44 := n2_
 have HO61 := n3_
 have HO168 := n4_
 have HO177 := n5_
 have HO194 := n6_
 have HO129 := n7_
 have HO152 := n8_
 have HZ210 := n9_
 have HB := n10_
 clear n0_ n1_ n2_ n3_ n4_ n5_ n6_ n7_ n8_ n9_ n10_
 clear hb ho209
 -- toRecordSS
 go_wp2_with fail
 refine (laws_toRecordSS.calls k217 _ _ a1 z218 _ ?s219 ?s220 H221.out).mono ?_
 case s219 => (repeat (first | exact (Kd.C_below HR1.out HB.out) | (with_reducible refine Kd.C_alloc ?_ _) | (with_reducible refine Kd.C_drewN ?_ _) | (with_reducible refine Kd.C_drew ?_)))
 case s220 => (exact HC1.out)
 rintro e w222 ⟨v223, rfl, ho224, hb⟩
 obtain ⟨A226, c227, e229⟩ := Kd.S_slice ho224
 generalize hn228 : List.length z218 = n228 at e229
 subst e229
 have HN230 := Aside0.mk hn228
 clear hn228
 have n0_ := Aside0.mk (arr_S ho224 (below_size (show Below w207.heap.size w207 _ from by repeat (first | exact Below.refl _ _ | apply below_alloc | apply pw_below_drewN | apply below_drew1))) (below_size (by repeat (first | (with_reducible first | exact HB.out | apply below_alloc | apply pw_below_drewN | apply below_drew1) | exact HB.out))))
 have n1_ := Aside0.mk (Kd.R_below (by (with_reducible repeat (first | apply Kd.R_alloc | apply Kd.R_drewN | apply Kd.R_drew)); exact HO29.out) hb)
 have n2_ := Aside0.mk (Kd.S_below (by (with_reducible repeat (first | apply Kd.S_alloc | apply Kd.S_drewN | apply Kd.S_drew)); exact HO44.out) hb)
 have n3_ := Aside0.mk (Kd.N_below (by (with_reducible repeat (first | apply Kd.N_alloc | apply Kd.N_drewN | apply Kd.N_drew)); exact HO61.out) hb)
 have n4_ := Aside0.mk (Kd.R_below (by (with_reducible repeat (first | apply Kd.R_alloc | apply Kd.R_drewN | apply Kd.R_drew)); exact HO168.out) hb)
 have n5_ := Aside0.mk (Kd.S_below (by (with_reducible repeat (first | apply Kd.S_alloc | apply Kd.S_drewN | apply Kd.S_drew)); exact HO177.out) hb)
 have n6_ := Aside0.mk (Kd.S_below (by (with_reducible repeat (first | apply Kd.S_alloc | apply Kd.S_drewN | apply Kd.S_drew)); exact HO194.out) hb)
 have n7_ := Aside0.mk (Kd.R_below (by (with_reducible repeat (first | apply Kd.R_alloc | apply Kd.R_drewN | apply Kd.R_drew)); exact HO129.out) hb)
 have n8_ := Aside0.mk (Kd.S_below (by (with_reducible repeat (first | apply Kd.S_alloc | apply Kd.S_drewN | apply Kd.S_drew)); exact HO152.out) hb)
 have n9_ := Aside0.mk (Kd.R_below (by (with_reducible repeat (first | apply Kd.R_alloc | apply Kd.R_drewN | apply Kd.R_drew)); exact HO216.out) hb)
 have n10_ := Aside0.mk (below_size (below_step (show Below w207.heap.size w207 _ from by repeat (first | exact Below.refl _ _ | apply below_alloc | apply pw_below_drewN | apply below_drew1)) hb))
 have n11_ := Aside0.mk (below_step (by repeat (first | (with_reducible first | exact HB.out | apply below_alloc | apply pw_below_drewN | apply below_drew1) | exact HB.out)) hb)
 clear HO29
 clear HO44
 clear HO61
 clear HO168
 clear HO177
 clear HO194
 clear HO129
 clear HO152
 clear HO216
 clear HB
 have HO231 := n0_
 have HO29 := n1_
 have HO44 := n2_
 have HO61 := n3_
 have HO168 := n4_
 have HO177 := n5_
 have HO194 := n6_
 have HO129 := n7_
 have HO152 := n8_
 have HO216 := n9_
 have HZ225 := n10_
 have HB := n11_
 clear n0_ n1_ n2_ n3_ n4_ n5_ n6_ n7_ n8_ n9_ n10_ n11_
 clear hb ho224
 -- impl.StatesAfter
 go_wp2_with fail
 rw [← HN215.out]
 rw [← HN230.out]
 refine (impl_StatesAfter.callsS k232 (In w200.heap.size w207.heap.size) _ _ z203 _ _ z218 z46 _ ?s233 ?s234 ?s235 H236.out).mono ?_
 case s233 => (refine as_V (e := 47) (base := w.heap.size) (base' := w.heap.size) ?_ HN215.out; (with_reducible repeat (first | apply Kd.R_alloc | apply Kd.R_drewN | apply Kd.R_drew)); exact HO216.out)
 case s234 => (exact rd_S (by (with_reducible repeat (first | apply Kd.S_alloc | apply Kd.S_drewN | apply Kd.S_drew)); exact HO231.out))
 case s235 => (exact le_S HO231.out)
 rintro e w237 ⟨v238, rfl, ho239, hb⟩
 try rw [HN215.out]
 try rw [HN230.out]
 obtain ⟨A241, c242, e244⟩ := Kd.S_slice ho239
 rw [HN60.out] at e244
 subst e244
 have n0_ := Aside0.mk (arr_S ho239 (below_size (show Below w222.heap.size w222 _ from by repeat (first | exact Below.refl _ _ | apply below_alloc | apply pw_below_drewN | apply below_drew1))) (below_size (by repeat (first | (with_reducible first | exact HB.out | apply below_alloc | apply pw_below_drewN | apply below_drew1) | exact HB.out))))
 have n1_ := Aside0.mk (Kd.R_below (by (with_reducible repeat (first | apply Kd.R_alloc | apply Kd.R_drewN | apply Kd.R_drew)); exact HO29.out) hb)
 have n2_ := Aside0.mk (Kd.S_below (by (with_reducible repeat (first | apply Kd.S_alloc | apply Kd.S_drewN | apply Kd.S_drew)); exact HO44.out) hb)
 have n3_ := Aside0.mk (Kd.N_below (by (with_reducible repeat (first | apply Kd.N_alloc | apply Kd.N_drewN | apply Kd.N_drew)); exact HO61.out) hb)
 have n4_ := Aside0.mk (Kd.R_below (by (with_reducible repeat (first | apply Kd.R_alloc | apply Kd.R_drewN | apply Kd.R_drew)); exact HO168.out) hb)
 have n5_ := Aside0.mk (Kd.S_below (by (with_reducible repeat (first | apply Kd.S_alloc | apply Kd.S_drewN | apply Kd.S_drew)); exact HO177.out) hb)
 have n6_ := Aside0.mk (Kd.S_below (by (with_reducible repeat (first | apply Kd.S_alloc | apply Kd.S_drewN | apply Kd.S_drew)); exact HO194.out) hb)
 have n7_ := Aside0.mk (Kd.R_below (by (with_reducible repeat (first | apply Kd.R_alloc | apply Kd.R_drewN | apply Kd.R_drew)); exact HO129.out) hb)
 have n8_ := Aside0.mk (Kd.S_below (by (with_reducible repeat (first | apply Kd.S_alloc | apply Kd.S_drewN | apply Kd.S_drew)); exact HO152.out) hb)
 have n9_ := Aside0.mk (Kd.R_below (by (with_reducible repeat (first | apply Kd.R_alloc | apply Kd.R_drewN | apply Kd.R_drew)); exact HO216.out) hb)
 have n10_ := Aside0.mk (Kd.S_below (by (with_reducible repeat (first | apply Kd.S_alloc | apply Kd.S_drewN | apply Kd.S_drew)); exact HO231.out) hb)
 have n11_ := Aside0.mk (below_size (below_step (show Below w222.heap.size w222 _ from by repeat (first | exact Below.refl _ _ | apply below_alloc | apply pw_below_drewN | apply below_drew1)) hb))
 have n12_ := Aside0.mk (below_step (by repeat (first | (with_reducible first | exact HB.out | apply below_alloc | apply pw_below_drewN | apply below_drew1) | exact HB.out)) hb)
 clear HO29
 clear HO44
 clear HO61
 clear HO168
 clear HO177
 clear HO194
 clear HO129
 clear HO152
 clear HO216
 clear HO231
 clear HB
 have HO246 := n0_
 have HO29 := n1_
 have HO44 := n2_
 have HO61 := n3_
 have HO168 := n4_
 have HO177 := n5_
 have HO194 := n6_
 have HO129 := n7_
 have HO152 := n8_
 have HO216 := n9_
 have HO231 := n10_
 have HZ240 := n11_
 have HB := n12_
 clear n0_ n1_ n2_ n3_ n4_ n5_ n6_ n7_ n8_ n9_ n10_ n11_ n12_
 clear hb ho239
 -- eqPairSS
 go_wp2_with fail
 rw [← HN60.out]
 refine (laws_eqPairSS.calls k247 _ _ z46 _ _ z46 true _ ?s248 ?s249 ?s250 ?s251 H252.out).mono ?_
 case s248 => (exact rd_S (by (with_reducible repeat (first | apply Kd.S_alloc | apply Kd.S_drewN | apply Kd.S_drew)); exact HO246.out))
 case s249 => (exact le_S HO246.out)
 case s250 => (exact rd_N (by (with_reducible repeat (first | apply Kd.N_alloc | apply Kd.N_drewN | apply Kd.N_drew)); exact HO61.out))
 case s251 => (exact le_N HO61.out)
 rintro e w253 ⟨rfl, hb⟩
 try rw [HN60.out]
 have n0_ := Aside0.mk (Kd.R_below (by (with_reducible repeat (first | apply Kd.R_alloc | apply Kd.R_drewN | apply Kd.R_drew)); exact HO29.out) hb)
 have n1_ := Aside0.mk (Kd.S_below (by (with_reducible repeat (first | apply Kd.S_alloc | apply Kd.S_drewN | apply Kd.S_drew)); exact HO44.out) hb)
 have n2_ := Aside0.mk (Kd.N_below (by (with_reducible repeat (first | apply Kd.N_alloc | apply Kd.N_drewN | apply Kd.N_drew)); exact HO61.out) hb)
 have n3_ := Aside0.mk (Kd.R_below (by (with_reducible repeat (first | apply Kd.R_alloc | apply Kd.R_drewN | apply Kd.R_drew)); exact HO168.out) hb)
 have n4_ := Aside0.mk (Kd.S_below (by (with_reducible repeat (first | apply Kd.S_alloc | apply Kd.S_drewN | apply Kd.S_drew)); exact HO177.out) hb)
 have n5_ := Aside0.mk (Kd.S_below (by (with_reducible repeat (first | apply Kd.S_alloc | apply Kd.S_drewN | apply Kd.S_drew)); exact HO194.out) hb)
 have n6_ := Aside0.mk (Kd.R_below (by (with_reducible repeat (first | apply Kd.R_alloc | apply Kd.R_drewN | apply Kd.R_drew)); exact HO129.out) hb)
 have n7_ := Aside0.mk (Kd.S_below (by (with_reducible repeat (first | apply Kd.S_alloc | apply Kd.S_drewN | apply Kd.S_drew)); exact HO152.out) hb)
 have n8_ := Aside0.mk (Kd.R_below (by (with_reducible repeat (first | apply Kd.R_alloc | apply Kd.R_drewN | apply Kd.R_drew)); exact HO216.out) hb)
 have n9_ := Aside0.mk (Kd.S_below (by (with_reducible repeat (first | apply Kd.S_alloc | apply Kd.S_drewN | apply Kd.S_drew)); exact HO231.out) hb)
 have n10_ := Aside0.mk (Kd.S_below (by (with_reducible repeat (first | apply Kd.S_alloc | apply Kd.S_drewN | apply Kd.S_drew)); exact HO246.out) hb)
 have n11_ := Aside0.mk (below_size (below_step (show Below w237.heap.size w237 _ from by repeat (first | exact Below.refl _ _ | apply below_alloc | apply pw_below_drewN | apply below_drew1)) hb))
 have n12_ := Aside0.mk (below_step (by repeat (first | (with_reducible first | exact HB.out | apply below_alloc | apply pw_below_drewN | apply below_drew1) | exact HB.out)) hb)
 clear HO29
 clear HO44
 clear HO61
 clear HO168
 clear HO177
 clear HO194
 clear HO129
 clear HO152
 clear HO216
 clear HO231
 clear HO246
 clear HB
 have HO29 := n0_
 have HO44 := n1_
 have HO61 := n2_
 have HO168 := n3_
 have HO177 := n4_
 have HO194 := n5_
 have HO129 := n6_
 have HO152 := n7_
 have HO216 := n8_
 have HO231 := n9_
 have HO246 := n10_
 have HZ254 := n11_
 have HB := n12_
 clear n0_ n1_ n2_ n3_ n4_ n5_ n6_ n7_ n8_ n9_ n10_ n11_ n12_
 clear hb
 -- heldPairSS
 go_wp2_with fail
 rw [← HN193.out]
 refine (laws_heldPairSS.calls k255 _ _ z189 1 z188 _ ?s256 ?s257 H258.out).mono ?_
 case s256 => (exact rd_S (by (with_reducible repeat (first | apply Kd.S_alloc | apply Kd.S_drewN | apply Kd.S_drew)); exact HO194.out))
 case s257 => (exact le_S HO194.out)
 rintro e w259 ⟨rfl, hb⟩
 try rw [HN193.out]
 have n0_ := Aside0.mk (Kd.R_below (by (with_reducible repeat (first | apply Kd.R_alloc | apply Kd.R_drewN | apply Kd.R_drew)); exact HO29.out) hb)
 have n1_ := Aside0.mk (Kd.S_below (by (with_reducible repeat (first | apply Kd.S_alloc | apply Kd.S_drewN | apply Kd.S_drew)); exact HO44.out) hb)
 have n2_ := Aside0.mk (Kd.N_below (by (with_reducible repeat (first | apply Kd.N_alloc | apply Kd.N_drewN | apply Kd.N_drew)); exact HO61.out) hb)
 have n3_ := Aside0.mk (Kd.R_below (by (with_reducible repeat (first | apply Kd.R_alloc | apply Kd.R_drewN | apply Kd.R_drew)); exact HO168.out) hb)
 have n4_ := Aside0.mk (Kd.S_below (by (with_reducible repeat (first | apply Kd.S_alloc | apply Kd.S_drewN | apply Kd.S_drew)); exact HO177.out) hb)
 have n5_ := Aside0.mk (Kd.S_below (by (with_reducible repeat (first | apply Kd.S_alloc | apply Kd.S_drewN | apply Kd.S_drew)); exact HO194.out) hb)
 have n6_ := Aside0.mk (Kd.R_below (by (with_reducible repeat (first | apply Kd.R_alloc | apply Kd.R_drewN | apply Kd.R_drew)); exact HO129.out) hb)
 have n7_ := Aside0.mk (Kd.S_below (by (with_reducible repeat (first | apply Kd.S_alloc | apply Kd.S_drewN | apply Kd.S_drew)); exact HO152.out) hb)
 have n8_ := Aside0.mk (Kd.R_below (by (with_reducible repeat (first | apply Kd.R_alloc | apply Kd.R_drewN | apply Kd.R_drew)); exact HO216.out) hb)
 have n9_ := Aside0.mk (Kd.S_below (by (with_reducible repeat (first | apply Kd.S_alloc | apply Kd.S_drewN | apply Kd.S_drew)); exact HO231.out) hb)
 have n10_ := Aside0.mk (Kd.S_below (by (with_reducible repeat (first | apply Kd.S_alloc | apply Kd.S_drewN | apply Kd.S_drew)); exact HO246.out) hb)
 have n11_ := Aside0.mk (below_size (below_step (show Below w253.heap.size w253 _ from by repeat (first | exact Below.refl _ _ | apply below_alloc | apply pw_below_drewN | apply below_drew1)) hb))
 have n12_ := Aside0.mk (below_step (by repeat (first | (with_reducible first | exact HB.out | apply below_alloc | apply pw_below_drewN | apply below_drew1) | exact HB.out)) hb)
 clear HO29
 clear HO44
 clear HO61
 clear HO168
 clear HO177
 clear HO194
 clear HO129
 clear HO152
 clear HO216
 clear HO231
 clear HO246
 clear HB
 have HO29 := n0_
 have HO44 := n1_
 have HO61 := n2_
 have HO168 := n3_
 have HO177 := n4_
 have HO194 := n5_
 have HO129 := n6_
 have HO152 := n7_
 have HO216 := n8_
 have HO231 := n9_
 have HO246 := n10_
 have HZ260 := n11_
 have HB := n12_
 clear n0_ n1_ n2_ n3_ n4_ n5_ n6_ n7_ n8_ n9_ n10_ n11_ n12_
 clear hb
 go_wp2
 go_ret
 exact ⟨rfl, (by repeat (first | (with_reducible first | exact HB.out | apply below_alloc | apply pw_below_drewN | apply below_drew1) | exact HB.out))⟩
end Go.Proofs.Ytjamafchmeiifaa.xFnExactStatesAfter
/- Small words for the plain laws: wrapping, bytes, lists read by index. -/
namespace Go.Proofs.Ytjamafchmeiifaa.V
open Go.RowKit Go.Proofs.Ytjamafchmeiifaa.F Go.Proofs.YtjamafchmeiifaaW.PrintWords Go.Proofs.YtjamafchmeiifaaW.PrintLast Go.Proofs.YtjamafchmeiifaaW.PrintMore
set_option linter.unusedVariables false
set_option linter.unusedSimpArgs false
theorem wid {x : Int} (h : -9223372036854775808 ≤ x) (h' : x ≤ 9223372036854775807) : wrap64 x = x := by
 unfold wrap64
 omega
theorem wsucc {i n : Nat} (h : i < n) (hn : n ≤ maxLen) : wrap64 ((i : Int) + 1) = ((i + 1 : Nat) : Int) := by
 have : maxLen = 9223372036854775807 := rfl
 rw [wid (by omega) (by omega)]
 omega
theorem Ev.const {α : Type} {r : α} {g : Option α} (h : g = some r) : Ev (fun _ => g) r := ⟨0, fun _ _ => h⟩
theorem Ev.ite_pos {α : Type} {c : Prop} [Decidable c] {g f : Nat → Option α} {r : α} (hc : c) (h : Ev g r) : Ev (fun k => if c then g k else f k) r := by
 simp only [if_pos hc]; exact h
theorem Ev.ite_neg {α : Type} {c : Prop} [Decidable c] {g f : Nat → Option α} {r : α} (hc : ¬ c) (h : Ev f r) : Ev (fun k => if c then g k else f k) r := by
 simp only [if_neg hc]; exact h
theorem getD_drop {α : Type} {l : List α} {i : Nat} {z : α} (h : i < l.length) : l.drop i = l.getD i z :: l.drop (i + 1) := by
 rw [List.drop_eq_getElem_cons h]
 simp [List.getD_eq_getElem?_getD, h]
theorem getD_mem {α : Type} {l : List α} {i : Nat} {z : α} (h : i < l.length) : l.getD i z ∈ l := by
 simp [List.getD_eq_getElem?_getD, h]
theorem set_step {α β : Type} {l : List α} {c : α → β} {acc : List β} {i : Nat} {z : α} (h : i < l.length) (hl : acc.length = l.length) (ha : acc.take i = (l.take i).map c) : (acc.set i (c (l.getD i z))).take (i + 1) = (l.take (i + 1)).map c := by
 rw [List.take_succ_eq_append_getElem (by rw [List.length_set]; omega), List.take_set_of_le (Nat.le_refl i), ha, List.take_succ_eq_append_getElem h, List.map_append]
 simp [List.getD_eq_getElem?_getD, h]
end Go.Proofs.Ytjamafchmeiifaa.V
/- The plain law on applying records: the program's way and the reference's way give the same states. -/
namespace Go.Proofs.Ytjamafchmeiifaa.V
open Go.RowKit Go.Proofs.Ytjamafchmeiifaa.F Go.Proofs.YtjamafchmeiifaaW.PrintWords Go.Proofs.YtjamafchmeiifaaW.PrintLast Go.Proofs.YtjamafchmeiifaaW.PrintMore Go.Proofs.YtjamafchmeiifaaX
set_option linter.unusedVariables false
set_option linter.unusedSimpArgs false
def keyB (a : ByteArray) : Bool := decide (1 ≤ (a.size : Int)) && decide ((a.size : Int) ≤ 8)
theorem key_spec (a : ByteArray) : spec_l17Key.f a = some (keyB a) := by
 unfold spec_l17Key.f keyB
 by_cases h : (a.size : Int) ≥ 1
 ·rw [if_pos h, decide_eq_true (show 1 ≤ (a.size : Int) from h), Bool.true_and]
 ·rw [if_neg h, decide_eq_false (show ¬ 1 ≤ (a.size : Int) from h), Bool.false_and]
theorem key_impl (a : ByteArray) : impl_ValidKey.f a = some (keyB a) := by
 unfold impl_ValidKey.f impl_within.f keyB
 by_cases h : (a.size : Int) ≥ 1
 ·rw [if_pos h, decide_eq_true (show 1 ≤ (a.size : Int) from h), Bool.true_and]; rfl
 ·rw [if_neg h, decide_eq_false (show ¬ 1 ≤ (a.size : Int) from h), Bool.false_and]; rfl
/-- What a valid list of pairs is, at an index. -/
def okAt (l : List S47) (i : Nat) : Bool := keyB (l.getD i z47).f0 && (decide (((l.getD i z47).f1.size : Int) ≤ 16) && (decide (i = 0) || Op.bytesLess (l.getD (i - 1) z47).f0.toList (l.getD i z47).f0.toList))
def okG (l : List S47) : Nat → Nat → Bool
 | 0, _ => true
 | d + 1, i => okAt l i && okG l d (i + 1)
def okP (l : List S47) : Bool := okG l l.length 0
theorem ok_spec (l : List S47) (hl : l.length ≤ maxLen) : ∀ (d i : Nat), i + d = l.length → Ev (fun k => spec_l24State.l0 k l (i : Int)) (okG l d i)
 | 0, i, hd => Ev.step (f := fun _ => some true) (fun k => by simp only [spec_l24State.l0]; rw [if_neg (by omega)]) (Ev.now _)
 | d + 1, i, hd => by
  have hi : i < l.length := by omega
  have hm : maxLen = 9223372036854775807 := rfl
  have ih := ok_spec l hl d (i + 1) (by omega)
  have hrd : rd_T47 l (i : Int) = l.getD i z47 := by simp only [rd_T47, Int.toNat_natCast]
  have step : ∀ k, spec_l24State.l0 (k + 1) l (i : Int) = if okAt l i = true then spec_l24State.l0 k l ((i + 1 : Nat) : Int) else some false := by
   intro k
   simp only [spec_l24State.l0]
   rw [if_pos (by omega), if_pos (by omega), hrd, key_spec, Option.bind_some, wsucc hi hl]
   unfold okAt
   cases hk : keyB (l.getD i z47).f0 with
   | false => simp
   | true =>
    rw [if_pos rfl, Bool.true_and]
    by_cases h16 : ((l.getD i z47).f1.size : Int) ≤ 16
    ·rw [if_neg (by omega), decide_eq_true h16, Bool.true_and]
     by_cases h0 : i = 0
     ·rw [if_neg (by omega), decide_eq_true h0, Bool.true_or, if_pos rfl]
     ·have hw : wrap64 ((i : Int) - 1) = ((i - 1 : Nat) : Int) := by rw [wid (by omega) (by omega)]; omega
      have hrd1 : rd_T47 l ((i - 1 : Nat) : Int) = l.getD (i - 1) z47 := by simp only [rd_T47, Int.toNat_natCast]
      rw [if_pos (by omega), hw, if_pos (by omega), if_pos (by omega), hrd1, decide_eq_false h0, Bool.false_or]
    ·rw [if_pos (by omega), decide_eq_false h16, Bool.false_and, if_neg (by simp)]
  unfold okG
  cases ho : okAt l i with
  | true =>
   rw [Bool.true_and]
   exact Ev.step (fun k => by rw [step, if_pos ho]) ih
  | false =>
   rw [Bool.false_and]
   exact Ev.step (f := fun _ => some false) (fun k => by rw [step, ho, if_neg (by simp)]) (Ev.now _)
theorem ok_impl (l : List S47) : ∀ (k : Nat) (i : Int), impl_pairsOk.l0 k l l (l.length : Int) i = spec_l24State.l0 k l i
 | 0, i => rfl
 | k + 1, i => by
  have ih := ok_impl l k
  simp only [impl_pairsOk.l0, spec_l24State.l0, key_impl, key_spec, ih]
  by_cases h : i < (l.length : Int)
  ·simp only [if_pos h]
  ·simp only [if_neg h]
theorem okP_spec (l : List S47) (hl : l.length ≤ maxLen) : Ev (fun k => spec_l24State.f k l) (okP l) := by
 unfold spec_l24State.f okP
 exact ok_spec l hl l.length 0 (by omega)
theorem okP_impl (l : List S47) (hl : l.length ≤ maxLen) : Ev (fun k => impl_pairsOk.f k l) (okP l) := by
 unfold impl_pairsOk.f
 exact Ev.congr (fun k => ok_impl l k 0) (okP_spec l hl)
theorem okG_at (l : List S47) : ∀ (d i : Nat), okG l d i = true → ∀ j, i ≤ j → j < i + d → okAt l j = true
 | 0, i, _, j, h1, h2 => by omega
 | d + 1, i, h, j, h1, h2 => by
  unfold okG at h
  rw [Bool.and_eq_true] at h
  by_cases e : j = i
  ·rw [e]; exact h.1
  ·exact okG_at l d (i + 1) h.2 j (by omega) (by omega)
theorem okP_sorted (l : List S47) (h : okP l = true) : l.Pairwise lessP := by
 have hn : ∀ i, 0 < i → i < l.length → Op.bytesLess (l.getD (i - 1) z47).f0.toList (l.getD i z47).f0.toList = true := by
  intro i h0 hi
  have := okG_at l l.length 0 h i (by omega) (by omega)
  unfold okAt at this
  rw [Bool.and_eq_true, Bool.and_eq_true, Bool.or_eq_true] at this
  rcases this.2.2 with h | h
  ·exact absurd (of_decide_eq_true h) (by omega)
  ·exact h
 have hall : ∀ d i, i + d + 1 < l.length → Op.bytesLess (l.getD i z47).f0.toList (l.getD (i + d + 1) z47).f0.toList = true := by
  intro d
  induction d with
  | zero => intro i hi; simpa using hn (i + 1) (by omega) (by omega)
  | succ d ih =>
   intro i hi
   have h1 := ih i (by omega)
   have h2 := hn (i + (d + 1) + 1) (by omega) hi
   exact bytesLess_trans _ _ _ h1 (by simpa [Nat.add_assoc] using h2)
 rw [List.pairwise_iff_getElem]
 intro i j hi hj hij
 have := hall (j - i - 1) i (by omega)
 rw [show i + (j - i - 1) + 1 = j by omega] at this
 simpa [lessP, List.getD_eq_getElem?_getD, hi, hj] using this
/-- What a valid record is. -/
def recB (a0 : ByteArray) (a1 a2 : Int) (a3 a4 : ByteArray) : Bool := keyB a0 && (decide (1 ≤ a1) && decide (a1 ≤ 1000000)) && (if a2 = 1 then (decide ((a3.size : Int) ≤ 16) && (a4.toList == ([] : List UInt8))) else if a2 = 2 then (decide (a3.toList = ([] : List UInt8)) && (a4.toList == ([] : List UInt8))) else if a2 = 3 then (decide (a3.toList = ([] : List UInt8)) && (keyB a4 && Op.bytesLess a0.toList a4.toList)) else false)
theorem rec_same (k : Nat) (a0 : ByteArray) (a1 a2 : Int) (a3 a4 : ByteArray) : impl_ValidRecord.f k a0 a1 a2 a3 a4 = spec_l17Valid.f k a0 a1 a2 a3 a4 := by
 have hj : ∀ b, impl_ValidRecord.j0 k b a0 a1 a2 a3 a4 = spec_l17Valid.j0 k b a0 a1 a2 a3 a4 := by
  intro b
  cases k with
  | zero => rfl
  | succ k => simp only [impl_ValidRecord.j0, spec_l17Valid.j0, key_impl, key_spec]
 unfold impl_ValidRecord.f spec_l17Valid.f
 simp only [hj, key_impl, key_spec]
 rfl
theorem rec_spec (a0 : ByteArray) (a1 a2 : Int) (a3 a4 : ByteArray) : Ev (fun k => spec_l17Valid.f k a0 a1 a2 a3 a4) (recB a0 a1 a2 a3 a4) := by
 have hj : ∀ b, Ev (fun k => spec_l17Valid.j0 k b a0 a1 a2 a3 a4) (!b && (if a2 = 1 then (decide ((a3.size : Int) ≤ 16) && (a4.toList == ([] : List UInt8))) else if a2 = 2 then (decide (a3.toList = ([] : List UInt8)) && (a4.toList == ([] : List UInt8))) else if a2 = 3 then (decide (a3.toList = ([] : List UInt8)) && (keyB a4 && Op.bytesLess a0.toList a4.toList)) else false)) := by
  intro b
  refine Ev.step (f := fun _ => some _) (fun k => ?_) (Ev.now _)
  simp only [spec_l17Valid.j0, key_spec, Option.bind_some]
  cases b with
  | true => simp
  | false =>
   rw [if_neg (by simp), Bool.not_false, Bool.true_and]
   repeat' split
   all_goals first | rfl | (simp_all; done) | (simp_all <;> intros <;> omega)
 unfold spec_l17Valid.f recB
 simp only [key_spec, Option.bind_some]
 cases hk : keyB a0 with
 | false => simpa using hj true
 | true =>
  simp only [if_true, Bool.true_and]
  have e : spec_l00In.f a1 1 1000000 = some (decide (1 ≤ a1) && decide (a1 ≤ 1000000)) := by
   unfold spec_l00In.f
   by_cases h : a1 ≥ 1
   ·rw [if_pos h, decide_eq_true (show 1 ≤ a1 from h), Bool.true_and]
   ·rw [if_neg h, decide_eq_false (show ¬ 1 ≤ a1 from h), Bool.false_and]
  simp only [e, Option.bind_some]
  have := hj (!(decide (1 ≤ a1) && decide (a1 ≤ 1000000)))
  rwa [Bool.not_not] at this
theorem rec_impl (a0 : ByteArray) (a1 a2 : Int) (a3 a4 : ByteArray) : Ev (fun k => impl_ValidRecord.f k a0 a1 a2 a3 a4) (recB a0 a1 a2 a3 a4) := Ev.congr (fun k => rec_same k a0 a1 a2 a3 a4) (rec_spec a0 a1 a2 a3 a4)
/-- A record applied. -/
def appP (l : List S47) (a0 : ByteArray) (a2 : Int) (a3 a4 : ByteArray) : List S47 :=
 if a2 = 1 then (l.filter (fun x => !affB a0 a2 a4 x.f0)).takeWhile (lessK a0) ++ [⟨a0, a3⟩] ++ (l.filter (fun x => !affB a0 a2 a4 x.f0)).dropWhile (lessK a0) else l.filter (fun x => !affB a0 a2 a4 x.f0)
theorem appP_len (l : List S47) (a0 : ByteArray) (a2 : Int) (a3 a4 : ByteArray) : (appP l a0 a2 a3 a4).length ≤ l.length + 1 := by
 have h := List.length_filter_le (fun x : S47 => !affB a0 a2 a4 x.f0) l
 unfold appP
 split
 ·have h2 := congrArg List.length (List.takeWhile_append_dropWhile (p := lessK a0) (l := l.filter (fun x => !affB a0 a2 a4 x.f0)))
  simp only [List.length_append, List.length_cons, List.length_nil] at h2 ⊢
  omega
 ·omega
def applyP (l : List S47) (a0 : ByteArray) (a1 a2 : Int) (a3 a4 : ByteArray) : List S47 × Int := if okP l && recB a0 a1 a2 a3 a4 then (appP l a0 a2 a3 a4, 0) else ([], 1)
theorem apply_impl (l : List S47) (hl : l.length < 4398046511103) (a0 : ByteArray) (a1 a2 : Int) (a3 a4 : ByteArray) : Ev (fun k => impl_ApplyRecord.f k l a0 a1 a2 a3 a4) (applyP l a0 a1 a2 a3 a4) := by
 have hm : maxLen = 9223372036854775807 := rfl
 unfold impl_ApplyRecord.f applyP
 refine Ev.bind (okP_impl l (by omega)) ?_
 cases ho : okP l with
 | false => exact Ev.ite_neg (by simp) (Ev.now _)
 | true =>
  refine Ev.ite_pos rfl (Ev.bind (rec_impl a0 a1 a2 a3 a4) ?_)
  cases hr : recB a0 a1 a2 a3 a4 with
  | false => exact Ev.ite_neg (by simp) (Ev.now _)
  | true =>
   refine Ev.ite_pos rfl (Ev.const ?_)
   unfold impl_applied.f appP
   rw [if_pos hl, if_pos (okP_sorted l ho)]
   by_cases h2 : a2 = 1
   ·simp [h2]
   ·simp [h2]
theorem aff_spec (a0 : ByteArray) (a1 : Int) (a2 : Int) (a3 a4 y : ByteArray) : spec_l17Affects.f a0 a1 a2 a3 a4 y = some (affB a0 a2 a4 y) := by
 unfold spec_l17Affects.f affB
 repeat' split
 all_goals rfl
/-- The reference's way through the rest of the list. -/
def goA (a0 : ByteArray) (a2 : Int) (a3 a4 : ByteArray) : Bool → List S47 → List S47
 | b, [] => if b then [] else [⟨a0, a3⟩]
 | b, p :: ps => (if b = false ∧ Op.bytesLess a0.toList p.f0.toList = true then [⟨a0, a3⟩] else []) ++ ((if affB a0 a2 a4 p.f0 then [] else [p]) ++ goA a0 a2 a3 a4 (b || Op.bytesLess a0.toList p.f0.toList) ps)
theorem goA_true (a0 : ByteArray) (a2 : Int) (a3 a4 : ByteArray) : ∀ l, goA a0 a2 a3 a4 true l = l.filter (fun x => !affB a0 a2 a4 x.f0)
 | [] => rfl
 | p :: ps => by
  unfold goA
  rw [Bool.true_or, goA_true a0 a2 a3 a4 ps]
  cases h : affB a0 a2 a4 p.f0 <;> simp [h, List.filter_cons]
theorem goA_false (a0 : ByteArray) (a3 a4 : ByteArray) : ∀ l, goA a0 1 a3 a4 false l = (l.filter (fun x => !affB a0 1 a4 x.f0)).takeWhile (lessK a0) ++ [⟨a0, a3⟩] ++ (l.filter (fun x => !affB a0 1 a4 x.f0)).dropWhile (lessK a0)
 | [] => rfl
 | p :: ps => by
  have haff : affB a0 1 a4 p.f0 = (a0.toList == p.f0.toList) := by unfold affB; rw [if_neg (by decide)]
  unfold goA
  rcases bytesLess_total a0.toList p.f0.toList with h | h | h
  ·have h1 := bytesLess_asymm _ _ h
   have h2 : (a0.toList == p.f0.toList) = false := by
    rw [beq_eq_false_iff_ne]
    intro e
    rw [e, bytesLess_irrefl] at h
    cases h
   rw [h, Bool.or_true, goA_true, haff, h2]
   have h3 : lessK a0 p = false := h1
   rw [List.filter_cons, haff, h2, Bool.not_false, if_pos rfl, List.takeWhile_cons, h3, List.dropWhile_cons, h3]
   simp
  ·have h2 : (a0.toList == p.f0.toList) = true := by rw [h]; exact beq_self_eq_true _
   have h1 : Op.bytesLess a0.toList p.f0.toList = false := by rw [h, bytesLess_irrefl]
   rw [h1, Bool.or_false, goA_false a0 a3 a4 ps, haff, h2, List.filter_cons, haff, h2]
   simp
  ·have h1 := bytesLess_asymm _ _ h
   have h2 : (a0.toList == p.f0.toList) = false := by
    rw [beq_eq_false_iff_ne]
    intro e
    rw [e, bytesLess_irrefl] at h
    cases h
   have h3 : lessK a0 p = true := h
   rw [h1, Bool.or_false, goA_false a0 a3 a4 ps, haff, h2, List.filter_cons, haff, h2, Bool.not_false, if_pos rfl, List.takeWhile_cons, h3, List.dropWhile_cons, h3]
   simp
theorem goA_app (l : List S47) (a0 : ByteArray) (a2 : Int) (a3 a4 : ByteArray) : goA a0 a2 a3 a4 (a2 != 1) l = appP l a0 a2 a3 a4 := by
 unfold appP
 by_cases h : a2 = 1
 ·subst h
  rw [if_pos rfl]
  exact goA_false a0 a3 a4 l
 ·rw [if_neg h, show (a2 != 1) = true by simp [h]]
  exact goA_true a0 a2 a3 a4 l
theorem apply_loop (l : List S47) (hl : l.length < 4398046511103) (a0 : ByteArray) (a1 a2 : Int) (a3 a4 : ByteArray) : ∀ (d i : Nat) (acc : List S47) (b : Bool), i + d = l.length → acc.length + 2 * d + 1 < 4398046511104 →
  Ev (fun k => spec_ApplyRecord.l0 k l acc b (i : Int) a0 a1 a2 a3 a4) (acc ++ goA a0 a2 a3 a4 b (l.drop i), 0)
 | 0, i, acc, b, hd, hb => by
  rw [List.drop_eq_nil_of_le (by omega)]
  refine Ev.step (f := fun _ => some _) (fun k => ?_) (Ev.now _)
  simp only [spec_ApplyRecord.l0]
  rw [if_neg (by omega)]
  unfold goA
  cases b with
  | true => simp
  | false => rw [if_neg (by simp), if_pos (by omega)]; simp
 | d + 1, i, acc, b, hd, hb => by
  have hi : i < l.length := by omega
  have hm : maxLen = 9223372036854775807 := rfl
  have hrd : rd_T47 l (i : Int) = l.getD i z47 := by simp only [rd_T47, Int.toNat_natCast]
  rw [getD_drop (z := z47) hi]
  unfold goA
  have hj : ∀ (acc : List S47) (b : Bool), acc.length + 2 * d + 2 < 4398046511104 → Ev (fun k => spec_ApplyRecord.j2 k l acc b (i : Int) false a0 a1 a2 a3 a4) (acc ++ ((if affB a0 a2 a4 (l.getD i z47).f0 then [] else [l.getD i z47]) ++ goA a0 a2 a3 a4 b (l.drop (i + 1))), 0) := by
   intro acc b hb
   cases hf : affB a0 a2 a4 (l.getD i z47).f0 with
   | true =>
    rw [if_pos rfl, List.nil_append]
    refine Ev.step (fun k => ?_) (apply_loop l hl a0 a1 a2 a3 a4 d (i + 1) acc b (by omega) (by omega))
    simp only [spec_ApplyRecord.j2]
    rw [if_neg (by simp), if_pos (by omega), if_pos (by omega), hrd, aff_spec, Option.bind_some, hf, if_pos rfl, wsucc hi (by omega)]
   | false =>
    rw [if_neg (by simp), ← List.append_assoc]
    refine Ev.step (fun k => ?_) (apply_loop l hl a0 a1 a2 a3 a4 d (i + 1) (acc ++ [l.getD i z47]) b (by omega) (by rw [List.length_append]; simp; omega))
    simp only [spec_ApplyRecord.j2]
    rw [if_neg (by simp), if_pos (by omega), if_pos (by omega), hrd, aff_spec, Option.bind_some, hf, if_neg (by simp), if_pos (by omega), wsucc hi (by omega)]
  cases b with
  | true =>
   rw [if_neg (by simp), List.nil_append, Bool.true_or]
   refine Ev.step (fun k => ?_) (hj acc true (by omega))
   simp only [spec_ApplyRecord.l0]
   rw [if_pos (by omega), if_pos trivial]
  | false =>
   rw [Bool.false_or]
   cases hq : Op.bytesLess a0.toList (l.getD i z47).f0.toList with
   | false =>
    rw [if_neg (by simp), List.nil_append]
    refine Ev.step (fun k => ?_) (hj acc false (by omega))
    simp only [spec_ApplyRecord.l0]
    rw [if_pos (by omega), if_neg (by simp), if_pos (by omega), hrd, hq]
   | true =>
    rw [if_pos ⟨rfl, rfl⟩, ← List.append_assoc]
    have h1 := hj (acc ++ [⟨a0, a3⟩]) true (by rw [List.length_append]; simp; omega)
    refine Ev.step (f := fun k => spec_ApplyRecord.j2 k l acc false (i : Int) true a0 a1 a2 a3 a4) (fun k => ?_) ?_
    ·simp only [spec_ApplyRecord.l0]
     rw [if_pos (by omega), if_neg (by simp), if_pos (by omega), hrd, hq]
    ·obtain ⟨K, h1⟩ := h1
     refine ⟨K + 1, fun k hk => ?_⟩
     obtain ⟨m, rfl⟩ : ∃ m, k = m + 1 := ⟨k - 1, by omega⟩
     rw [← h1 (m + 1) (by omega)]
     simp only [spec_ApplyRecord.j2]
     simp only [if_true, Bool.false_eq_true, if_false, if_pos (show acc.length < 4398046511104 by omega), Option.bind_some]
theorem apply_spec (l : List S47) (hl : l.length < 1099511627776) (a0 : ByteArray) (a1 a2 : Int) (a3 a4 : ByteArray) : Ev (fun k => spec_ApplyRecord.f k l a0 a1 a2 a3 a4) (applyP l a0 a1 a2 a3 a4) := by
 have hm : maxLen = 9223372036854775807 := rfl
 have hj0 : ∀ b, Ev (fun k => spec_ApplyRecord.j0 k l [] b a0 a1 a2 a3 a4) (if b = true then ([], 1) else (appP l a0 a2 a3 a4, 0)) := by
  intro b
  cases b with
  | true => exact Ev.step (f := fun _ => some _) (fun k => by simp only [spec_ApplyRecord.j0, if_true]) (Ev.now _)
  | false =>
   have h := apply_loop l (by omega) a0 a1 a2 a3 a4 l.length 0 [] (a2 != 1) (by omega) (by simp; omega)
   rw [List.drop_zero, List.nil_append, goA_app] at h
   rw [if_neg (by simp)]
   exact Ev.step (fun k => by simp only [spec_ApplyRecord.j0]; rw [if_neg (by simp)]; rfl) h
 unfold spec_ApplyRecord.f applyP
 simp only [Option.bind_some]
 refine Ev.bind (okP_spec l (by omega)) ?_
 cases ho : okP l with
 | false => exact Ev.ite_neg (by simp) (by simpa using hj0 true)
 | true =>
  refine Ev.ite_pos rfl (Ev.bind (rec_spec a0 a1 a2 a3 a4) ?_)
  cases hr : recB a0 a1 a2 a3 a4 with
  | false => simpa using hj0 true
  | true => simpa using hj0 false
end Go.Proofs.Ytjamafchmeiifaa.V
