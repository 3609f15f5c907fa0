/- The statement FnExactPrefixOf of the given program: it answers true whatever its arguments, and its arguments read as they did; no condition. Part 4 of 5. -/
import Derived.Test.YtjamafchmeiifaaCFnExactPrefixOfx2
import Derived.Lib.SliceRun
import Derived.Test.YtjamafchmeiifaaWMore
import Derived.Laws.CopyRow
import Derived.Laws.Rows
import Derived.Shelf.Small.Bits
import Derived.Shelf.Small.Strs
import Derived.Shelf.Strconv.Itoa0
import Derived.Shelf.Slices.CompactS
import Derived.Shelf.Slices.Cells
import Derived.Ground.SlgnProg
import Derived.Shelf.SlicesE.Clone
import Derived.Test.YtjamafchmeiifaaProg
import Derived.Laws.CopyOwn
import Derived.Deep.RegionLaw
import Derived.StillTailTactics
import Derived.Lib.Overlaps
import Derived.RangeFuncCalls
import Derived.Shelf.RegionOpen
/- slices.Clone at []impl.Pair: whatever the slice, the result holds the same elements, in new memory. -/
namespace Go.Proofs.Ytjamafchmeiifaa.F
open Go.RowKit Go.Proofs.YtjamafchmeiifaaW.PrintWords Go.Proofs.YtjamafchmeiifaaW.PrintLast Go.Proofs.YtjamafchmeiifaaW.PrintMore
set_option linter.unusedVariables false
set_option linter.unusedSimpArgs false
def slices_Clone_Pair.f (l0 : List S47) : Option (List S47) := if l0.length < 4398046511104 then some l0 else none
set_option maxHeartbeats 1000000 in
set_option maxRecDepth 100000 in
theorem slices_Clone_Pair.calls (A0 : Option Addr) (c0 : Nat) (l0 : List S47) (r : List S47) (w : World) (hr0 : Kd.C k47 w A0 l0.length l0) (hc0 : l0.length ≤ c0) (h : slices_Clone_Pair.f l0 = some r) :
  Calls Try.prog 75 #[.slice A0 l0.length c0] w fun e w' => ∃ v0_ : Value, e = .returned (v0_) ∧ Kd.R k47 47 w' w.heap.size (fun _ => True) v0_ r ∧ Below w.heap.size w w' := by
 have HR0 := Aside0.mk hr0
 have HC0 := Aside0.mk hc0
 clear hr0 hc0
 have HB := Aside0.mk (Below.refl w.heap.size w)
 unfold slices_Clone_Pair.f at h
 by_cases hl : l0.length < 4398046511104
 ·rw [if_pos hl] at h
  obtain rfl := Option.some.inj h
  clear h
  have HL := Aside0.mk hl
  clear hl
  have hnil := fun (wx : World) (a : Option Addr) => Lib.run_eql_slice_nil (P := Try.prog) wx 27 47 a l0.length c0 0 0 Try.underlying27
  cases A0 with
  | none =>
   have H0 : Aside0 (l0 = []) := Aside0.mk (by
    rcases HR0.out with ⟨hx1, hx2, hx3⟩
    cases l0 with
    | nil => rfl
    | cons x xs => obtain ⟨ad, had, _⟩ := hx3 (by simp); cases had)
   go_enter Try.func75, Try.ntmps75
   go_wp2
   go_ret
   exact ⟨_, rfl, by rw [H0.out]; exact Kd.R_nil _ _ _ _ _, HB.out⟩
  | some ad =>
   go_enter Try.func75, Try.ntmps75
   go_wp2_with (first | ((with_reducible refine gate_dst (N := 5) rfl ?_); refine Kd.R_lit k47 _ 47 ?hg (N := 5) ?hd (xs := ([] : List S47)) (inner := []) (ok := fun _ => True) (okp := fun _ => True) ?hr ?hp (fun _ hk => hk) trivial (Below.refl _ _) (Nat.le_refl _) (by simp) ?_; (case hd => rfl); (case hg => rfl); (case hr => first | (go_simp; done) | (go_simp; rfl)); (case hp => exact (Reps.none _ _)); intro v1 w1 ho1 hb1 hg1 hn1; clear hg1 hn1; have HO := Aside0.mk ho1; have HB1 := Aside0.mk hb1; clear ho1 hb1) | ((with_reducible refine gate_builtin (b := .append) (xs := #[.tmp 5, .tmp 6]) rfl ?_); at_builtin; refine Kd.R_append_rows k47 (w0 := w) w.heap.size rfl (.tmp 5) (.tmp 6) 27 47 (.agg #[(.string ⟨#[]⟩), (.string ⟨#[]⟩)]) 32 rfl Try.underlying27 info47 rfl (by decide) (by omega) v1 [] l0 _ _ _ (fun _ => True) (fun _ => False) rfl rfl ?aO ?aR (fun _ _ h => h) (fun _ h => h.elim) (fun _ _ => trivial) ?aB ?aS ?aL ?_; (case aO => exact HO.out); (case aR => exact Kd.C_below HR0.out HB1.out); (case aB => exact HB1.out); (case aS => exact HB1.out.size); (case aL => (have := HL.out; simp only [List.length_nil]; omega)); intro v2 w2 ho2 hb2 hg2 hat2; have HO2 := Aside0.mk ho2; have HB2 := Aside0.mk hb2; clear ho2 hb2 hg2 hat2))
   go_ret
   exact ⟨_, rfl, by simpa using HO2.out, HB2.out⟩
 ·rw [if_neg hl] at h
  cases h
/- slices.IndexFunc at []impl.Pair: the first place at which the predicate holds, or -1. -/
/-- What is asked of a predicate over these elements: in every world in which all that lay in w lies unturned. -/
def PredPair (g : Nat) (lb : Array Value) (p : S47 → Bool) (w : World) : Prop :=
 ∀ (W : World) (x : S47), Below w.heap.size w W → Calls Try.prog g (#[.agg #[.string x.f0, .string x.f1]] ++ lb) W fun e w' => e = .returned (.bool (p x)) ∧ Below W.heap.size W w'
def idxPair (p : S47 → Bool) (l : List S47) : Int := match l.findIdx? p with | some i => (i : Int) | none => -1
theorem idxPair_hit (p : S47 → Bool) (l : List S47) (k : Nat) (hk : k < l.length) (h : ∀ j, j < k → p (l.getD j z47) = false) (hp : p (l.getD k z47) = true) : idxPair p l = (k : Int) := by
 have h1 : l.findIdx? p = some k := by
  rw [List.findIdx?_eq_some_iff_getElem]
  refine ⟨hk, by simpa [List.getD_eq_getElem?_getD, hk] using hp, fun j hj => ?_⟩
  have := h j hj
  simpa [List.getD_eq_getElem?_getD, show j < l.length by omega] using this
 simp [idxPair, h1]
theorem idxPair_miss (p : S47 → Bool) (l : List S47) (h : ∀ j, j < l.length → p (l.getD j z47) = false) : idxPair p l = -1 := by
 have h1 : l.findIdx? p = none := by
  rw [List.findIdx?_eq_none_iff]
  intro x hx
  obtain ⟨j, hj, rfl⟩ := List.getElem_of_mem hx
  have := h j hj
  simpa [List.getD_eq_getElem?_getD, hj] using this
 simp [idxPair, h1]
set_option maxHeartbeats 2000000 in
set_option maxRecDepth 100000 in
theorem slices_IndexFunc_Pair.calls (A0 : Option Addr) (c0 : Nat) (l0 : List S47) (p : S47 → Bool) (g : Nat) (lb : Array Value) (eg : ∀ args w, (callFunc g args).run Try.prog w = .ok (.enter g args) w) (w : World) (hr0 : Kd.C k47 w A0 l0.length l0) (hp : PredPair g lb p w) :
  Calls Try.prog 150 #[.slice A0 l0.length c0, .func (.func g) #[] lb] w fun e w' => e = .returned (.int .i64 (idxPair p l0)) ∧ Below w.heap.size w w' := by
 have HR0 := Aside0.mk hr0
 have HP := Aside0.mk hp
 have HL : Aside0 (l0.length ≤ 9223372036854775807) := Aside0.mk (by have := hr0.2.1; omega)
 clear hr0 hp
 go_enter Try.func150, Try.ntmps150
 go_wp2
 go_loopg [5, 8] l0.length (fun gg _ s8 wr => ∃ kk : Nat, kk ≤ l0.length ∧ l0.length - kk ≤ gg ∧ s8 = .int .i64 kk ∧ Aside0 (Below w.heap.size w wr) ∧ Aside0 (∀ j, j < kk → p (l0.getD j z47) = false))
 case atStart => exact ⟨0, Nat.zero_le _, by omega, rfl, ⟨Below.refl _ w⟩, ⟨fun j hj => absurd hj (Nat.not_lt_zero _)⟩⟩
 case round =>
  obtain ⟨kk, hkk, hg, rfl, BW, A⟩ := hrel
  have hlen := HL.out
  by_cases hlt : kk < l0.length
  ·have hltz : (kk : Int) < (l0.length : Int) := by omega
   obtain ⟨ad, ead, hx0, hx1⟩ := at_T47 HR0.out (kk : Int) (by omega) hltz
   subst ead
   replace hx0 := (BW.out.cell (World.block_lt_of_cell? w _ hx0)).trans hx0
   replace hx1 := (BW.out.cell (World.block_lt_of_cell? w _ hx1)).trans hx1
   simp only [Int.toNat_natCast] at hx0 hx1
   have hcall := HP.out wr (rd_T47 l0 (kk : Int)) BW.out
   have hy : rd_T47 l0 (kk : Int) = l0.getD kk z47 := by simp [rd_T47]
   have HY := Aside0.mk hy
   clear hy
   generalize rd_T47 l0 (kk : Int) = y at hx0 hx1 hcall HY
   cases hq : p y with
   | true =>
    rw [hq] at hcall
    go_wp2_with fail
    refine hcall.mono ?_
    clear hcall
    rintro e w' ⟨rfl, hb'⟩
    go_wp2
    go_ret
    refine ⟨?_, below_then BW.out BW.out.size hb'⟩
    rw [idxPair_hit p l0 kk hlt A.out (by rw [← HY.out]; exact hq)]
    rfl
   | false =>
    rw [hq] at hcall
    go_wp2_with fail
    refine hcall.mono ?_
    clear hcall
    rintro e w' ⟨rfl, hb'⟩
    go_wp2
    go_roundg (l0.length - (kk + 1))
    case measure => omega
    case rel =>
     refine ⟨kk + 1, by omega, by omega, by go_num, ⟨below_then BW.out BW.out.size hb'⟩, ⟨fun j hj => ?_⟩⟩
     by_cases e : j = kk
     ·subst e
      rw [← HY.out]; exact hq
     ·exact A.out j (by omega)
  ·have hltz : ¬ (kk : Int) < (l0.length : Int) := by omega
   have HE : Aside0 (kk = l0.length) := Aside0.mk (by omega)
   go_wp2
   go_ret
   refine ⟨?_, BW.out⟩
   rw [idxPair_miss p l0 (fun j hj => A.out j (by have := HE.out; omega))]
   rfl
end Go.Proofs.Ytjamafchmeiifaa.F
/- Words of this claim's own on rows of flat elements: their cells as one list; a tail cleared. -/
namespace Go.Proofs.YtjamafchmeiifaaXO
open Go.RowKit Go.Proofs.YtjamafchmeiifaaW.PrintWords Go.Proofs.YtjamafchmeiifaaW.PrintLast Go.Proofs.YtjamafchmeiifaaW.PrintMore
set_option linter.unusedVariables false
set_option linter.unusedSimpArgs false
/-- Elements that lead nowhere: their cells are told by the element alone. -/
structure Flat {α : Type} (d : Kd α) (enc : α → List Value) : Prop where
 pos : 0 < d.sz
 nil : d.E = []
 len : ∀ x, (enc x).length = d.sz
 one : ∀ x, ∀ u ∈ enc x, u.oneCell' = true
 mkM : ∀ (w : World) (base : Nat) (ok : Nat → Prop) (x : α), d.M w base ok x (enc x)
 inv : ∀ {w : World} {base : Nat} {ok : Nat → Prop} {x : α} {cs : List Value}, d.M w base ok x cs → cs = enc x
 kmk : ∀ (w : World) (x : α), d.K w x (enc x)
 kinv : ∀ {w : World} {x : α} {cs : List Value}, d.K w x cs → cs = enc x
section
variable {α : Type} {d : Kd α} {enc : α → List Value} {e : Nat} {w w1 : World} {base : Nat} {ok : Nat → Prop} {v : Value} {xs : List α}
theorem flat_length (F : Flat d enc) (xs : List α) : (xs.flatMap enc).length = xs.length * d.sz := by
 induction xs with
 | nil => simp
 | cons x xs ih => rw [List.flatMap_cons, List.length_append, ih, F.len, List.length_cons, Nat.add_mul]; omega
theorem flat_one (F : Flat d enc) (xs : List α) : ∀ u ∈ xs.flatMap enc, u.oneCell' = true := by
 intro u hu
 obtain ⟨x, _, hx⟩ := List.mem_flatMap.1 hu
 exact F.one x u hx
theorem flat_reps {R : α → List Value → Prop} (F : Flat d enc) (hR : ∀ x cs, R x cs → cs = enc x) : ∀ (xs : List α) (inner : List Value), Reps R d.sz xs inner → inner = xs.flatMap enc
 | [], inner, h => by
  have := h.1
  simp at this
  simpa using this
 | x :: xs, inner, h => by
  have h0 := hR _ _ (h.2 0 x rfl)
  rw [Nat.zero_mul, List.drop_zero] at h0
  have hl : inner.length = (xs.length + 1) * d.sz := h.1
  have ht : Reps R d.sz xs (inner.drop d.sz) := by
   refine ⟨by rw [List.length_drop, hl, Nat.add_mul]; omega, fun j p hj => ?_⟩
   have := h.2 (j + 1) p (by simpa using hj)
   rw [List.drop_drop]
   rwa [Nat.add_mul, Nat.one_mul, Nat.add_comm] at this
  rw [List.flatMap_cons, ← flat_reps F hR xs _ ht, ← h0, List.take_append_drop]
theorem reps_flat {R : α → List Value → Prop} (F : Flat d enc) (hR : ∀ x, R x (enc x)) : ∀ (xs : List α), Reps R d.sz xs (xs.flatMap enc)
 | [] => Reps.none _ _
 | x :: xs => by
  have ih := reps_flat F hR xs
  refine ⟨flat_length F _, fun j p hj => ?_⟩
  rw [List.flatMap_cons]
  cases j with
  | zero =>
   obtain rfl : x = p := by simpa using hj
   rw [Nat.zero_mul, List.drop_zero, ← F.len x, List.take_left]
   exact hR x
  | succ j =>
   have h1 : ((enc x ++ List.flatMap enc xs).drop ((j + 1) * d.sz)) = (List.flatMap enc xs).drop (j * d.sz) := by
    have : (j + 1) * d.sz = (enc x).length + j * d.sz := by rw [F.len, Nat.add_mul]; omega
    rw [this, List.drop_append]
    simp
   rw [h1]
   exact ih.2 j p (by simpa using hj)
theorem flat_own (F : Flat d enc) (h : d.R e w base ok v xs) : w.ownsRow base e d.sz v xs.length (xs.flatMap enc) := by
 obtain ⟨_, inner, ho, hr⟩ := h
 rw [← flat_reps F (fun _ _ hm => F.inv hm) xs inner hr]
 exact ho
theorem flat_R (F : Flat d enc) (ho : w.ownsRow base e d.sz v xs.length (xs.flatMap enc)) (hok : ∀ k, v.ownBlock = some k → ok k) : d.R e w base ok v xs :=
 ⟨hok, xs.flatMap enc, ho, reps_flat F (fun x => F.mkM _ _ _ x) xs⟩
/-- One element in a block of its own, read. -/
theorem flat_one_reads (F : Flat d enc) {g : Nat} {x : α} {t : TypeId} (h : w.heap[g]? = some (.cells (enc x).toArray t (0, 0))) : d.C w (some ⟨g, 0, none⟩) 1 [x] := by
 refine ⟨rfl, by omega, fun _ => ⟨_, rfl, fun j p hj => ?_⟩⟩
 cases j with
 | zero =>
  obtain rfl : x = p := by simpa using hj
  refine ⟨enc x, F.len x, F.kmk w x, fun q u hu => ?_⟩
  rw [add_plain, Nat.zero_mul, Nat.zero_add, cell_of_row w g q _ t (0, 0) h]
  simpa using hu
 | succ j => simp at hj
/-- The block of a row of one's own, whole. -/
theorem row_blk {g n cap : Nat} {cs : List Value} {sz : Nat} (h : w.ownsRow base e sz (.slice (some ⟨g, 0, none⟩) n cap) n cs) : base ≤ g ∧ n ≤ cap ∧ cap ≤ maxLen ∧ ∃ cur : Array Value, w.heap[g]? = some (.cells cur e (0, 0)) ∧ cur.size = cap * sz ∧ cur.toList.take (n * sz) = cs := by
 rcases h.2 with ⟨hv, _⟩ | ⟨g', cap', cur, hv, hb, hh, h1, h2, h3, h4⟩
 ·cases hv
 ·injection hv with ha hn hc
  injection ha with ha
  injection ha with hg
  subst hg; subst hc
  exact ⟨hb, h1, h2, cur, hh, h3, h4⟩
theorem row_of_blk {g n cap : Nat} {cs : List Value} {sz : Nat} (hb : base ≤ g) (h1 : n ≤ cap) (h2 : cap ≤ maxLen) {cur : Array Value} (hh : w.heap[g]? = some (.cells cur e (0, 0))) (h3 : cur.size = cap * sz) (h4 : cur.toList.take (n * sz) = cs) (h5 : cs.length = n * sz) : w.ownsRow base e sz (.slice (some ⟨g, 0, none⟩) n cap) n cs :=
 ⟨h5, .inr ⟨g, cap, cur, rfl, hb, hh, h1, h2, h3, h4⟩⟩
theorem grown_setRow {g : Nat} {cs : Array Value} : w.grownBy (w.setRow g cs) (some g) :=
 ⟨rfl, rfl, rfl, by simp, fun k _ hk => setRow_other w g k cs (fun e => hk (by rw [e]))⟩
/-- 'clear(s[i:])', s a row of one's own, i below its length: what stands ahead of i stays. -/
theorem flat_clear {P : Program} (F : Flat d enc) {g n cap i c' : Nat} (t ty : TypeId) (z : Value) (bytes : Nat) (ht : P.underlying t = some (.slice e)) (hinfo : (P.info? e).map (fun i => (i.zero, i.size, i.bytes)) = some (some z, d.sz, bytes)) (hz : z.cells.size = d.sz) (hz1 : ∀ u ∈ z.cells.toList, u.oneCell' = true)
  (h : d.R e w base ok (.slice (some ⟨g, 0, none⟩) n cap) xs) (hi : i < n) :
  ∃ W', (Builtin.clear_ #[t] ty #[.slice (some ⟨g, i * d.sz, none⟩) (n - i) c']).run P w = .ok (.tuple #[]) W' ∧ d.R e W' base ok (.slice (some ⟨g, 0, none⟩) i cap) (xs.take i) ∧ w.grownBy W' (some g) := by
 obtain ⟨i0, hi0, hzz⟩ := Option.map_eq_some_iff.1 hinfo
 simp only [Prod.mk.injEq] at hzz
 obtain ⟨hz0, hz1', hz2⟩ := hzz
 have hxn : n = xs.length := (Kd.R_reads' h).1
 have hokg := h.1
 have ho := flat_own F h
 rw [← hxn] at ho
 obtain ⟨hb, h1, h2, cur, hh, h3, h4⟩ := row_blk ho
 have hzl : (Builtin.zeroCells z.cells (n - i)).toList.length = (n - i) * d.sz := by simp [Builtin.zeroCells, hz]
 have hfit : i * d.sz + (n - i) * d.sz ≤ cur.size := by
  rw [h3, ← Nat.add_mul]
  exact Nat.mul_le_mul_right _ (by omega)
 have hzone : ∀ u ∈ (Builtin.zeroCells z.cells (n - i)).toList, u.oneCell' = true := by
  intro u hu
  simp only [Builtin.zeroCells, Array.toList_map, List.mem_map, Array.toList_range, List.mem_range] at hu
  obtain ⟨j, hj, rfl⟩ := hu
  have hzp : 0 < z.cells.size := by rw [hz]; exact F.pos
  have hlt : j % z.cells.size < z.cells.size := Nat.mod_lt _ hzp
  rw [getElem!_pos z.cells _ hlt]
  exact hz1 _ (by simp)
 have hst := run_storeCells_at P g (i * d.sz) e (Builtin.zeroCells z.cells (n - i)).toList 0 cur w hh (by rw [hzl]; simpa using hfit) hzone
 simp only [Nat.add_zero] at hst
 generalize hcs : (cur.toList.take (i * d.sz) ++ (Builtin.zeroCells z.cells (n - i)).toList ++ cur.toList.drop (i * d.sz + (Builtin.zeroCells z.cells (n - i)).toList.length)).toArray = cs at hst
 have hsz : cs.size = cur.size := by
  rw [← hcs]
  simp only [List.size_toArray, List.length_append, List.length_take, List.length_drop, hzl, Array.length_toList]
  omega
 have htk : cs.toList.take (i * d.sz) = cur.toList.take (i * d.sz) := by
  rw [← hcs]
  simp only [List.append_assoc]
  rw [List.take_append_of_le_length (by rw [List.length_take, Array.length_toList]; omega), List.take_take, Nat.min_self]
 refine ⟨w.setRow g cs, ?_, ?_, grown_setRow⟩
 ·obtain ⟨m, hm⟩ : ∃ m, n - i = m + 1 := ⟨n - i - 1, by omega⟩
  rw [hm] at hst ⊢
  simp [Builtin.clear_, run_underlying ht, zeroValue, typeInfo, hi0, hz0, hst]
 ·have hil : (xs.take i).length = i := by rw [List.length_take]; omega
  have ho2 : (w.setRow g cs).ownsRow base e d.sz (.slice (some ⟨g, 0, none⟩) (xs.take i).length cap) (xs.take i).length ((xs.take i).flatMap enc) := by
   rw [hil]
   refine row_of_blk hb (by omega) h2 (setRow_heap w g cur cs e (0, 0) hh) (by rw [hsz, h3]) ?_ (by rw [flat_length F, hil])
   rw [htk]
   have h6 : (xs.flatMap enc).take (i * d.sz) = (xs.take i).flatMap enc := by
    conv => lhs; rw [← List.take_append_drop i xs, List.flatMap_append]
    rw [List.take_append_of_le_length (by rw [flat_length F, hil]; exact Nat.le_refl _), List.take_of_length_le (by rw [flat_length F, hil]; exact Nat.le_refl _)]
   rw [← h6, ← h4, List.take_take, Nat.min_eq_left (Nat.mul_le_mul_right _ (by omega))]
  rw [hil] at ho2
  have := flat_R (ok := ok) F (v := .slice (some ⟨g, 0, none⟩) i cap) (xs := xs.take i) (by rw [hil]; exact ho2) (fun k hk => hokg k (by simpa [Value.ownBlock] using hk))
  exact this
end
section
variable {P : Program} {ops : Array Oper} {rest : List Oper} {o : Oper} {a : Act} {Q : Exit → Act → World → Prop} {W : World} {α : Type} {d : Kd α} {enc : α → List Value} {e base : Nat} {ok : Nat → Prop} {xs : List α}
theorem wp_clear (F : Flat d enc) (hgd : o.guard = none) (s : Operand) (t : TypeId) (z : Value) (bytes : Nat) (ho : o.op = .call { callee := .builtin .clear, args := #[s], argTypes := #[t] })
  (ht : P.underlying t = some (.slice e)) (hinfo : (P.info? e).map (fun i => (i.zero, i.size, i.bytes)) = some (some z, d.sz, bytes)) (hz : z.cells.size = d.sz) (hz1 : ∀ u ∈ z.cells.toList, u.oneCell' = true)
  {g n cap i off m c' : Nat} (hs : a.eval s = .slice (some ⟨g, off, none⟩) m c') (hoff : off = i * d.sz) (hm : m = n - i) (h : d.R e W base ok (.slice (some ⟨g, 0, none⟩) n cap) xs) (hi : i < n)
  (hk : ∀ w1, d.R e w1 base ok (.slice (some ⟨g, 0, none⟩) i cap) (xs.take i) → W.grownBy w1 (some g) → wpList P ops Q rest (a.put o.dst (.tuple #[])) w1) :
  wpList P ops Q (o :: rest) a W := by
 subst hoff hm
 obtain ⟨W', hr, h1, h2⟩ := flat_clear (P := P) (c' := c') F t o.type z bytes ht hinfo hz hz1 h hi
 refine wpList_plain hgd fun K hK => ?_
 unfold Oper.wp execOp
 simp only [ho, resolve, invoke, builtin, Sem.run_bind, Sem.run_pure, Result.andThen_ok, List.map_toArray, List.map_cons, List.map_nil, hs, hr]
 exact hK _ _ (hk W' h1 h2)
end
end Go.Proofs.YtjamafchmeiifaaXO
/- The flat element types of this claim: their cells. -/
namespace Go.Proofs.Ytjamafchmeiifaa.F
open Go.RowKit Go.Proofs.YtjamafchmeiifaaW.PrintWords Go.Proofs.YtjamafchmeiifaaXO
set_option linter.unusedVariables false
set_option linter.unusedSimpArgs false
def encPair (x : S47) : List Value := [.string x.f0, .string x.f1]
theorem flatPair : Flat k47 encPair where
 pos := by decide
 nil := rfl
 len := fun _ => rfl
 one := fun x u hu => by simp [encPair] at hu; rcases hu with rfl | rfl <;> rfl
 mkM := fun w base ok x => k47_mkM w base ok x
 inv := fun h => k47_openM h
 kmk := fun w x => k47_mk w x
 kinv := fun h => k47_open h
end Go.Proofs.Ytjamafchmeiifaa.F
/- slices.DeleteFunc at []impl.Pair, a row of the caller's own: what the predicate does not hold of stays, in its order; the row is cut. -/
namespace Go.Proofs.Ytjamafchmeiifaa.F
open Go.RowKit Go.Proofs.YtjamafchmeiifaaW.PrintWords Go.Proofs.YtjamafchmeiifaaW.PrintLast Go.Proofs.YtjamafchmeiifaaW.PrintMore Go.Proofs.YtjamafchmeiifaaXO
set_option linter.unusedVariables false
set_option linter.unusedSimpArgs false
/-- What is asked of a predicate while the row v is written. -/
def PredOverPair (g : Nat) (lb : Array Value) (p : S47 → Bool) (w : World) (row : Option Nat) : Prop :=
 ∀ (W : World) (x : S47), w.grownBy W row → Calls Try.prog g (#[.agg #[.string x.f0, .string x.f1]] ++ lb) W fun e w' => e = .returned (.bool (p x)) ∧ Below W.heap.size W w'
theorem PredOverPair.below {g : Nat} {lb : Array Value} {p : S47 → Bool} {w : World} {row : Option Nat} (h : PredOverPair g lb p w row) : PredPair g lb p w :=
 fun W x hb => h W x (grown_of_below hb row)
theorem grown_then_below {w W W2 : World} {row : Option Nat} (h : w.grownBy W row) (hb : Below W.heap.size W W2) : w.grownBy W2 row := World.grownBy.trans h (grown_of_below hb row)
theorem idxPair_cases (p : S47 → Bool) (l : List S47) : (idxPair p l = -1 ∧ l.filter (fun x => !p x) = l) ∨ ∃ k : Nat, k < l.length ∧ idxPair p l = (k : Int) ∧ (l.take (k + 1)).filter (fun x => !p x) = l.take k := by
 unfold idxPair
 cases h : l.findIdx? p with
 | none =>
  refine .inl ⟨rfl, ?_⟩
  rw [List.findIdx?_eq_none_iff] at h
  rw [List.filter_eq_self]
  intro x hx
  simp [h x hx]
 | some k =>
  rw [List.findIdx?_eq_some_iff_getElem] at h
  obtain ⟨hk, hp, hj⟩ := h
  refine .inr ⟨k, hk, rfl, ?_⟩
  rw [List.take_succ_eq_append_getElem hk, List.filter_append]
  have h1 : (l.take k).filter (fun x => !p x) = l.take k := by
   rw [List.filter_eq_self]
   intro x hx
   obtain ⟨j, hjl, rfl⟩ := List.getElem_of_mem hx
   rw [List.length_take] at hjl
   have := hj j (by omega)
   simp only [List.getElem_take]
   simpa using this
  rw [h1]
  simp [hp]
theorem del_stepPair (p : S47 → Bool) (l cur : List S47) (i j : Nat) (hl : cur.length = l.length) (hij : i < j) (hj : j < l.length) (h1 : cur.take i = (l.take j).filter (fun x => !p x)) (h2 : cur.drop j = l.drop j) (hp : p (cur.getD j z47) = false) :
  (cur.set i (cur.getD j z47)).take (i + 1) = (l.take (j + 1)).filter (fun x => !p x) ∧ (cur.set i (cur.getD j z47)).drop (j + 1) = l.drop (j + 1) := by
 have hjc : j < cur.length := by omega
 have hg : cur.getD j z47 = cur[j] := by simp [List.getD_eq_getElem?_getD, hjc]
 have he : cur[j] = l[j] := by
  have := congrArg (fun t => t[0]?) h2
  simpa [List.getElem?_drop, hjc, hj] using this
 rw [hg] at hp ⊢
 constructor
 ·rw [List.take_succ_eq_append_getElem (by rw [List.length_set]; omega), List.take_set_of_le (Nat.le_refl i), h1, List.take_succ_eq_append_getElem hj, List.filter_append]
  congr 1
  rw [← he]
  simp [hp]
 ·rw [List.drop_set_of_lt (by omega)]
  have := congrArg (List.drop 1) h2
  simpa [List.drop_drop, Nat.add_comm] using this
theorem del_skipPair (p : S47 → Bool) (l cur : List S47) (i j : Nat) (hl : cur.length = l.length) (hj : j < l.length) (h1 : cur.take i = (l.take j).filter (fun x => !p x)) (h2 : cur.drop j = l.drop j) (hp : p (cur.getD j z47) = true) :
  cur.take i = (l.take (j + 1)).filter (fun x => !p x) ∧ cur.drop (j + 1) = l.drop (j + 1) := by
 have hjc : j < cur.length := by omega
 have hg : cur.getD j z47 = cur[j] := by simp [List.getD_eq_getElem?_getD, hjc]
 have he : cur[j] = l[j] := by
  have := congrArg (fun t => t[0]?) h2
  simpa [List.getElem?_drop, hjc, hj] using this
 rw [hg] at hp
 constructor
 ·rw [h1, List.take_succ_eq_append_getElem hj, List.filter_append]
  rw [he] at hp
  simp [hp]
 ·have := congrArg (List.drop 1) h2
  simpa [List.drop_drop, Nat.add_comm] using this
set_option maxHeartbeats 4000000 in
set_option maxRecDepth 100000 in
theorem slices_DeleteFunc_Pair.calls (v : Value) (l0 : List S47) (p : S47 → Bool) (g : Nat) (lb : Array Value) (eg : ∀ args w, (callFunc g args).run Try.prog w = .ok (.enter g args) w) (base : Nat) (w : World) (ho : Kd.R k47 47 w base (fun _ => True) v l0) (hp : PredOverPair g lb p w v.ownBlock) :
  Calls Try.prog 114 #[v, .func (.func g) #[] lb] w fun e w' => ∃ v' : Value, e = .returned v' ∧ Kd.R k47 47 w' base (fun _ => True) v' (l0.filter (fun x => !p x)) ∧ w.grownBy w' v.ownBlock ∧ v'.ownBlock = v.ownBlock := by
 have HP := Aside0.mk hp
 obtain ⟨A0, c0, ev, hlc, hC⟩ := Kd.R_reads ho
 have HC := Aside0.mk hC
 have HO := Aside0.mk ho
 have HL : Aside0 (l0.length ≤ 9223372036854775807) := Aside0.mk (by have := hC.2.1; omega)
 have HLC := Aside0.mk hlc
 clear hC ho hp hlc
 rcases idxPair_cases p l0 with ⟨h1, h2⟩ | ⟨k, hk, h1, h2⟩
 ·have H1 := Aside0.mk h1
  have H2 := Aside0.mk h2
  clear h1 h2
  subst ev
  go_enter Try.func114, Try.ntmps114
  go_wp2_with fail
  refine (slices_IndexFunc_Pair.calls A0 c0 l0 p g lb eg w HC.out HP.out.below).mono ?_
  rw [H1.out]
  rintro e w1 ⟨rfl, hb1⟩
  have HB1 := Aside0.mk hb1
  clear hb1
  go_wp2_with fail
  go_ret
  refine ⟨_, rfl, ?_, grown_of_below HB1.out _, rfl⟩
  rw [H2.out]
  exact Kd.R_below HO.out HB1.out
 ·have H1 := Aside0.mk h1
  have H2 := Aside0.mk h2
  clear h1 h2
  obtain ⟨gb, cap, ev2, hgb, hgl, hty⟩ := Kd.R_form HO.out (by omega)
  rw [ev] at ev2
  injection ev2 with ea en ec
  subst ea
  subst ec
  clear en
  subst ev
  have hgb' := hgb
  have HGL := Aside0.mk hgl
  clear hty hgl hgb
  go_enter Try.func114, Try.ntmps114
  go_wp2_with fail
  refine (slices_IndexFunc_Pair.calls _ c0 l0 p g lb eg w HC.out HP.out.below).mono ?_
  rw [H1.out]
  rintro e w1 ⟨rfl, hb1⟩
  have HB1 := Aside0.mk hb1
  clear hb1
  have hk1 : ((k : Int) == -1) = false := by rw [beq_eq_false_iff_ne]; omega
  have hlen := HL.out
  go_wp2_with fail
  go_loopg [5, 6] l0.length (fun gg s5 s6 wr => ∃ (i j : Nat) (cur : List S47), i < j ∧ j ≤ l0.length ∧ l0.length - j ≤ gg ∧ s5 = .int .i64 i ∧ s6 = .int .i64 j ∧ Aside0 (cur.length = l0.length) ∧ Aside0 (cur.take i = (l0.take j).filter (fun x => !p x) ∧ cur.drop j = l0.drop j) ∧ Aside0 (Kd.R k47 47 wr base (fun _ => True) (.slice (some ⟨gb, 0, none⟩) l0.length c0) cur) ∧ Aside0 (w.grownBy wr (some gb)))
  case atStart => exact ⟨k, k + 1, l0, by omega, by omega, by omega, rfl, by go_num, ⟨rfl⟩, ⟨H2.out.symm, rfl⟩, ⟨Kd.R_below HO.out HB1.out⟩, ⟨grown_of_below HB1.out _⟩⟩
  case round =>
   clear hk1
   obtain ⟨i, j, cur, hij, hjn, hg, rfl, rfl, CL, CE, RO, GR⟩ := hrel
   by_cases hlt : j < l0.length
   ·have hltz : (j : Int) < (l0.length : Int) := by omega
    obtain ⟨c, hcl, hM, hcc, hff⟩ := Kd.R_elem RO.out z47 (j : Int) (by omega) hltz
    rw [show ((j : Int)).toNat = j from Int.toNat_natCast j] at hM hcc
    obtain ⟨y, hy⟩ : ∃ y, y = cur.getD j z47 := ⟨_, rfl⟩
    rw [← hy] at hM
    have HY := Aside0.mk hy
    clear hy
    obtain rfl := k47_openM hM
    have hx0 := hcc 0 _ rfl
    have hx1 := hcc 1 _ rfl
    simp only [show (k47).sz = 2 from rfl, Nat.add_zero] at hx0 hx1
    clear hcc hff hcl hM
    have hcall := HP.out (wr.alloc (.cells #[.string y.f0, .string y.f1] 47)) y (World.grownBy.trans GR.out (World.grownBy_alloc _ _ _))
    cases hq : p y with
    | true =>
     rw [hq] at hcall
     go_wp2_with fail
     refine hcall.mono ?_
     clear hcall
     rintro e w2 ⟨rfl, hb2⟩
     have HB2 := Aside0.mk hb2
     clear hb2
     have HQ := Aside0.mk hq
     clear hq
     go_wp2
     go_roundg (l0.length - (j + 1))
     case measure => omega
     case rel =>
      have hs := del_skipPair p l0 cur i j CL.out hlt CE.out.1 CE.out.2 (by rw [← HY.out]; exact HQ.out)
      exact ⟨i, j + 1, cur, by omega, by omega, by omega, by go_num, by go_num, CL, ⟨hs⟩, ⟨Kd.R_below (Kd.R_alloc RO.out _) HB2.out⟩, ⟨grown_then_below (World.grownBy.trans GR.out (World.grownBy_alloc _ _ _)) HB2.out⟩⟩
    | false =>
     rw [hq] at hcall
     go_wp2_with fail
     refine hcall.mono ?_
     clear hcall
     rintro e w2 ⟨rfl, hb2⟩
     have hq0 : w2.cell? ⟨wr.heap.size, 0, none⟩ = some (.string y.f0) := (hb2.cell (p := ⟨wr.heap.size, 0, none⟩) (by simp)).trans ((blk_cell (heap_alloc_new wr _) 0).trans rfl)
     have hq1 : w2.cell? ⟨wr.heap.size, 1, none⟩ = some (.string y.f1) := (hb2.cell (p := ⟨wr.heap.size, 1, none⟩) (by simp)).trans ((blk_cell (heap_alloc_new wr _) 1).trans rfl)
     have RO2 : Aside0 (Kd.R k47 47 w2 base (fun _ => True) (.slice (some ⟨gb, 0, none⟩) l0.length c0) cur) := ⟨Kd.R_below (Kd.R_alloc RO.out _) hb2⟩
     have GR2 : Aside0 (w.grownBy w2 (some gb)) := ⟨grown_then_below (World.grownBy.trans GR.out (World.grownBy_alloc _ _ _)) hb2⟩
     clear hb2
     have HQ := Aside0.mk hq
     clear hq
     have hiz : (i : Int) < (l0.length : Int) := by omega
     obtain ⟨c2, hcl2, hM2, hcc2', hff2'⟩ := Kd.R_elem RO2.out z47 (i : Int) (by omega) hiz
     rw [show ((i : Int)).toNat = i from Int.toNat_natCast i] at hM2
     have hcc2 : ∀ q u, c2[q]? = some u → w2.cell? ⟨gb, i * (k47).sz + q, none⟩ = some u := hcc2'
     have hff2 : ∀ q, w2.frozen? ⟨gb, i * (k47).sz + q, none⟩ = false := hff2'
     have hseg := Kd.R_seg RO2.out (i : Int) (by omega) hiz (seg := [.string y.f0, .string y.f1]) (j := 0) (x' := y) (okp := fun _ => False) hcl2 hcc2' (Nat.le_refl _) (by rw [List.take_zero, List.drop_eq_nil_of_le (by rw [hcl2]; exact Nat.le_refl _)]; exact k47_mkM _ _ _ _) (fun _ h => h.elim)
     rw [show ((i : Int)).toNat = i from Int.toNat_natCast i] at hseg
     generalize cur.getD i z47 = yi at hM2
     obtain rfl := k47_openM hM2
     have hy0 := hcc2 0 _ rfl
     have hf0 := hff2 0
     have hy1 := hcc2 1 _ rfl
     have hf1 := hff2 1
     simp only [show (k47).sz = 2 from rfl, Nat.add_zero] at hy0 hf0 hy1 hf1
     have HS := Aside0.mk hseg
     clear hseg hcc2 hff2 hcc2' hff2' hcl2 hM2 HGL hx0 hx1
     go_wp2
     go_roundg (l0.length - (j + 1))
     case measure => omega
     case rel =>
      have hs := del_stepPair p l0 cur i j CL.out hij hlt CE.out.1 CE.out.2 (by rw [← HY.out]; exact HQ.out)
      rw [← HY.out] at hs
      exact ⟨i + 1, j + 1, cur.set i y, by omega, by omega, by omega, by go_num, by go_num, ⟨by rw [List.length_set]; exact CL.out⟩, ⟨hs⟩, ⟨HS.out.1⟩, ⟨World.grownBy.trans GR2.out HS.out.2⟩⟩
   ·have hltz : ¬ (j : Int) < (l0.length : Int) := by omega
    have HJ : Aside0 (j = l0.length) := ⟨by omega⟩
    have hil : i < l0.length := by omega
    have hci : ¬ (c0 = i) := by have := HLC.out; omega
    have hic : i ≤ c0 := by have := HLC.out; omega
    have hicz : (i : Int) ≤ (c0 : Int) := by omega
    go_wp2_with (((with_reducible refine gate_builtin (b := .clear) (xs := #[.tmp 38]) rfl ?_); refine wp_clear flatPair rfl (.tmp 38) 27 _ _ rfl Try.underlying27 info47 rfl (by decide) (i := i) rfl ?hoff ?hm RO.out hil ?_; (case hoff => rfl); (case hm => rfl); intro w3 ho3 hg3; have HO3 := Aside0.mk ho3; have HG3 := Aside0.mk hg3; clear ho3 hg3))
    go_ret
    refine ⟨_, rfl, ?_, World.grownBy.trans GR.out HG3.out, rfl⟩
    have h7 := CE.out.1
    rw [HJ.out, List.take_length] at h7
    rw [← h7]
    exact HO3.out
end Go.Proofs.Ytjamafchmeiifaa.F
/- slices.BinarySearchFunc at []Pair and a string: in a list that is parted by the comparison, the place of the parting. -/
namespace Go.Proofs.Ytjamafchmeiifaa.F
open Go.RowKit Go.Proofs.YtjamafchmeiifaaW.PrintWords Go.Proofs.YtjamafchmeiifaaW.PrintLast Go.Proofs.YtjamafchmeiifaaW.PrintMore
set_option linter.unusedVariables false
set_option linter.unusedSimpArgs false
def CmpPair (g : Nat) (lb : Array Value) (key : ByteArray) (c : S47 → Int) (w : World) : Prop :=
 ∀ (W : World) (x : S47), Below w.heap.size w W → Calls Try.prog g (#[.agg #[.string x.f0, .string x.f1], .string key] ++ lb) W fun e w' => e = .returned (.int .i64 (c x)) ∧ Below W.heap.size W w'
/-- Where the list parts: below it the comparison is negative, from it on it isn't. -/
def Parts (c : S47 → Int) (l : List S47) (i : Nat) : Prop := i ≤ l.length ∧ (∀ a, a < i → c (l.getD a z47) < 0) ∧ (∀ a, i ≤ a → a < l.length → 0 ≤ c (l.getD a z47))
def BinPost (c : S47 → Int) (l : List S47) (w : World) (e : Ending) (w' : World) : Prop := ∃ (i : Nat) (f : Bool), e = .returned (.tuple #[.int .i64 i, .bool f]) ∧ Parts c l i ∧ Below w.heap.size w w'
set_option maxHeartbeats 2000000 in
set_option maxRecDepth 100000 in
theorem slices_BinarySearchFunc_Pair_string.calls (A0 : Option Addr) (c0 : Nat) (l0 : List S47) (key : ByteArray) (c : S47 → Int) (g : Nat) (lb : Array Value) (eg : ∀ args w, (callFunc g args).run Try.prog w = .ok (.enter g args) w) (w : World) (hr0 : Kd.C k47 w A0 l0.length l0) (hl : l0.length ≤ 4398046511104) (hp : CmpPair g lb key c w)
  (hs : ∀ a b, a < b → b < l0.length → c (l0.getD b z47) < 0 → c (l0.getD a z47) < 0) :
  Calls Try.prog 117 #[.slice A0 l0.length c0, .string key, .func (.func g) #[] lb] w (BinPost c l0 w) := by
 have HR0 := Aside0.mk hr0
 have HP := Aside0.mk hp
 have HL := Aside0.mk hl
 have HS := Aside0.mk hs
 clear hr0 hp hs
 go_enter Try.func117, Try.ntmps117
 go_wp2
 go_loopg [9, 10] l0.length (fun gg s9 s10 wr => ∃ i j : Nat, i ≤ j ∧ j ≤ l0.length ∧ j - i ≤ gg ∧ s9 = .int .i64 i ∧ s10 = .int .i64 j ∧ Aside0 (Below w.heap.size w wr) ∧ Aside0 ((∀ a, a < i → c (l0.getD a z47) < 0) ∧ (∀ a, j ≤ a → a < l0.length → 0 ≤ c (l0.getD a z47))))
 case atStart => exact ⟨0, l0.length, Nat.zero_le _, Nat.le_refl _, by omega, rfl, rfl, ⟨Below.refl _ w⟩, ⟨fun a ha => absurd ha (Nat.not_lt_zero _), fun a ha hb => by omega⟩⟩
 case round =>
  obtain ⟨i, j, hij, hjn, hg, rfl, rfl, BW, A⟩ := hrel
  by_cases hlt : i < j
  ·have hltz : (i : Int) < (j : Int) := by omega
   have hm1 : (0 : Int) ≤ ((i : Int) + (j : Int)) / 2 := by omega
   have hm2 : ((i : Int) + (j : Int)) / 2 < (l0.length : Int) := by omega
   have hm3 : (i + j) / 2 < j := by omega
   have hm4 : i ≤ (i + j) / 2 := by omega
   obtain ⟨ad, ead, hx0, hx1⟩ := at_T47 HR0.out (((i + j) / 2 : Nat) : Int) (by omega) (by omega)
   subst ead
   replace hx0 := (BW.out.cell (World.block_lt_of_cell? w _ hx0)).trans hx0
   replace hx1 := (BW.out.cell (World.block_lt_of_cell? w _ hx1)).trans hx1
   have hcall := HP.out wr (rd_T47 l0 (((i + j) / 2 : Nat) : Int)) BW.out
   have hy : rd_T47 l0 (((i + j) / 2 : Nat) : Int) = l0.getD ((i + j) / 2) z47 := by simp only [rd_T47, Int.toNat_natCast]
   simp only [Int.toNat_natCast] at hx0 hx1
   have HY := Aside0.mk hy
   clear hy
   generalize rd_T47 l0 (((i + j) / 2 : Nat) : Int) = y at hx0 hx1 hcall HY
   by_cases hq : c y < 0
   ·have hqb : decide (c y < 0) = true := decide_eq_true hq
    go_wp2_with fail
    refine hcall.mono ?_
    clear hcall
    rintro e w2 ⟨rfl, hb2⟩
    have HB2 := Aside0.mk hb2
    clear hb2
    have HQ := Aside0.mk hq
    clear hq
    go_wp2
    go_roundg (j - ((i + j) / 2 + 1))
    case measure => omega
    case rel =>
     refine ⟨(i + j) / 2 + 1, j, by omega, by omega, by omega, by go_num, by go_num, ⟨below_then BW.out BW.out.size HB2.out⟩, ⟨fun a ha => ?_, A.out.2⟩⟩
     by_cases e : a = (i + j) / 2
     ·rw [e, ← HY.out]; exact HQ.out
     ·exact HS.out a ((i + j) / 2) (by omega) (by omega) (by rw [← HY.out]; exact HQ.out)
   ·have hqb : decide (c y < 0) = false := decide_eq_false hq
    go_wp2_with fail
    refine hcall.mono ?_
    clear hcall
    rintro e w2 ⟨rfl, hb2⟩
    have HB2 := Aside0.mk hb2
    clear hb2
    have HQ := Aside0.mk hq
    clear hq
    go_wp2
    go_roundg ((i + j) / 2 - i)
    case measure => omega
    case rel =>
     refine ⟨i, (i + j) / 2, by omega, by omega, by omega, by go_num, by go_num, ⟨below_then BW.out BW.out.size HB2.out⟩, ⟨A.out.1, fun a ha hb => ?_⟩⟩
     have hq := HQ.out
     by_cases e : a = (i + j) / 2
     ·rw [e, ← HY.out]; omega
     ·rcases Int.lt_or_le (c (l0.getD a z47)) 0 with hc | hc
      ·have hlt := HS.out ((i + j) / 2) a (by omega) hb hc
       rw [← HY.out] at hlt
       omega
      ·exact hc
  ·have hltz : ¬ (i : Int) < (j : Int) := by omega
   have HE : Aside0 (i = j) := ⟨by omega⟩
   by_cases hin : i < l0.length
   ·have hinz : (i : Int) < (l0.length : Int) := by omega
    have hind : decide ((i : Int) < (l0.length : Int)) = true := decide_eq_true hinz
    obtain ⟨ad, ead, hx0, hx1⟩ := at_T47 HR0.out (i : Int) (by omega) hinz
    subst ead
    replace hx0 := (BW.out.cell (World.block_lt_of_cell? w _ hx0)).trans hx0
    replace hx1 := (BW.out.cell (World.block_lt_of_cell? w _ hx1)).trans hx1
    have hcall := HP.out wr (rd_T47 l0 (i : Int)) BW.out
    simp only [Int.toNat_natCast] at hx0 hx1
    generalize rd_T47 l0 (i : Int) = y at hx0 hx1 hcall
    go_wp2_with fail
    refine hcall.mono ?_
    clear hcall
    rintro e w2 ⟨rfl, hb2⟩
    have HB2 := Aside0.mk hb2
    clear hb2
    go_wp2
    go_ret2
    exact ⟨i, _, rfl, ⟨by omega, A.out.1, fun a ha hb => A.out.2 a (by have := HE.out; omega) hb⟩, below_then BW.out BW.out.size HB2.out⟩
   ·have hinz : ¬ (i : Int) < (l0.length : Int) := by omega
    have hind : decide ((i : Int) < (l0.length : Int)) = false := decide_eq_false hinz
    go_wp2_with fail
    go_ret2
    exact ⟨i, _, rfl, ⟨by omega, A.out.1, fun a ha hb => A.out.2 a (by have := HE.out; omega) hb⟩, BW.out⟩
end Go.Proofs.Ytjamafchmeiifaa.F
/-
 DERIVED: THE SHELF's CONTRACTS AT THIS DUMP, IN PLAIN WORDS (tools/lay-plain.mjs out of 'TryShelf.lean', which tools/lay-shelf.mjs wrote): THE SAME DECLARATIONS UNDER THE SAME NAMES: 'import', 'namespace', 'open', 'def', 'theorem' AND NOTHING ELSE: no command of the shelf's: FOR A HAND-IN. Each laying: the table of numbers ('.._ren') and one theorem, a field a fact of the dump's own or the kernel's comparison; each contract: ONE APPLICATION.
-/
namespace Go.Proofs
open Go.Shelf
set_option linter.unusedVariables false
set_option linter.unusedSimpArgs false
def Try.lays213_ren : Go.Shelf.Ren := ⟨fun | 213 => 151 | 265 => 170 | n => n, fun | 9 => 9 | 3 => 3 | n => n, fun | n => n⟩
theorem Try.lays213 : Go.Proofs.Lays.n213 Try.prog Try.lays213_ren := {
 mixed := by kernel_rfl
 f213 := Try.func151.trans (congrArg some (by kernel_rfl))
 f265 := Try.func170.trans (congrArg some (by kernel_rfl))
 t3 := Try.underlying3
 a3 := Try.isAgg3
 z3 := Try.sizeOf3
 v3 := Try.zeroValue3
 t9 := Try.underlying9
 a9 := Try.isAgg9
 z9 := Try.sizeOf9
 v9 := Try.zeroValue9 }
def Try.lays106_ren : Go.Shelf.Ren := ⟨fun | 106 => 119 | 213 => 151 | 265 => 170 | n => n, fun | 9 => 9 | 3 => 3 | n => n, fun | n => n⟩
theorem Try.lays106 : Go.Proofs.Lays.n106 Try.prog Try.lays106_ren := {
 mixed := by kernel_rfl
 f106 := Try.func119.trans (congrArg some (by kernel_rfl))
 f213 := Try.func151.trans (congrArg some (by kernel_rfl))
 f265 := Try.func170.trans (congrArg some (by kernel_rfl))
 t3 := Try.underlying3
 a3 := Try.isAgg3
 z3 := Try.sizeOf3
 v3 := Try.zeroValue3
 t9 := Try.underlying9
 a9 := Try.isAgg9
 z9 := Try.sizeOf9
 v9 := Try.zeroValue9 }
open Go.RowKit in
/-- strings.Compare: "Compare returns an integer comparing two strings lexicographically. The result will be 0 if a == b, -1 if a < b, and +1 if a > b.": IT RETURNS 'Lib.compareBytes a b'; the world is as it was. (LAID: no walk: one application.) -/
theorem Try.strings_Compare (a b : ByteArray) (w : World) :
  Calls Try.prog 119 #[.string a, .string b] w fun e w' => e = .returned (.int .i64 (Lib.compareBytes a.data.toList b.data.toList)) ∧ w' = w := Any.strings_Compare Try.lays106 a b w
end Go.Proofs
/- strings.Compare: the order of the bytes, whatever the strings (off the shelf). -/
namespace Go.Proofs.Ytjamafchmeiifaa.F
open Go.RowKit Go.Proofs.YtjamafchmeiifaaW.PrintWords Go.Proofs.YtjamafchmeiifaaW.PrintLast Go.Proofs.YtjamafchmeiifaaW.PrintMore
set_option linter.unusedVariables false
set_option linter.unusedSimpArgs false
def strings_Compare.f (a0 : ByteArray) (a1 : ByteArray) : Option (Int) := some (Lib.compareBytes a0.data.toList a1.data.toList)
theorem strings_Compare.calls (a0 : ByteArray) (a1 : ByteArray) (r : Int) (w : World) (h : strings_Compare.f a0 a1 = some r) :
  Calls Try.prog 119 #[.string a0, .string a1] w fun e w' => e = .returned (.int .i64 r) ∧ Drawn0 w w' := by
 obtain rfl := Option.some.inj h
 refine (Try.strings_Compare a0 a1 w).mono ?_
 rintro e w' ⟨rfl, rfl⟩
 exact ⟨rfl, Drawn0.refl _⟩
end Go.Proofs.Ytjamafchmeiifaa.F
/- Words of this claim's own: copy into a row of one's own at elements of several cells; an append of zeros that must grow; overlaps of two blocks. -/
namespace Go.Proofs.YtjamafchmeiifaaXO
open Go.RowKit Go.Proofs.YtjamafchmeiifaaW.PrintWords Go.Proofs.YtjamafchmeiifaaW.PrintLast Go.Proofs.YtjamafchmeiifaaW.PrintMore
set_option linter.unusedVariables false
set_option linter.unusedSimpArgs false
theorem splice_get {α : Type} (L : List α) (off : Nat) (cs : List α) (h : off + cs.length ≤ L.length) (q : Nat) : (splice L off cs)[q]? = if q < off then L[q]? else if q < off + cs.length then cs[q - off]? else L[q]? := by
 have := seg_get L cs off h q
 rw [List.append_assoc] at this
 exact this
/-- An element put in by two copies, the hole first. -/
theorem ins_cells {α : Type} (L X Y : List α) (a b n : Nat) (hab : a + X.length = b) (hn : b + Y.length = n) (hL : n ≤ L.length) : (splice (splice L a X) b Y).take n = L.take a ++ X ++ Y := by
 apply List.ext_getElem?
 intro q
 have h1 : a + X.length ≤ L.length := by omega
 rw [List.getElem?_take, splice_get _ _ _ (by rw [length_splice L a X h1]; omega), splice_get L a X h1, List.append_assoc]
 have hl : (L.take a).length = a := by rw [List.length_take]; omega
 by_cases h2 : q < a
 ·rw [if_pos (by omega), if_pos (by omega), if_pos h2, List.getElem?_append_left (by omega), List.getElem?_take, if_pos h2]
 ·rw [List.getElem?_append_right (by omega), hl]
  by_cases h3 : q < b
  ·rw [if_pos (by omega), if_pos h3, if_neg h2, if_pos (by omega), List.getElem?_append_left (by omega)]
  ·rw [List.getElem?_append_right (by omega)]
   by_cases h4 : q < n
   ·rw [if_pos h4, if_neg h3, if_pos (by omega)]
    congr 1
    omega
   ·rw [if_neg h4, List.getElem?_eq_none (by omega)]
theorem ins_cells' {α : Type} (L X Y : List α) (a b n : Nat) (hab : a + X.length = b) (hn : b + Y.length = n) (hL : n ≤ L.length) : (splice (splice L b Y) a X).take n = L.take a ++ X ++ Y := by
 apply List.ext_getElem?
 intro q
 have h1 : b + Y.length ≤ L.length := by omega
 rw [List.getElem?_take, splice_get _ _ _ (by rw [length_splice L b Y h1]; omega), splice_get L b Y h1, List.append_assoc]
 have hl : (L.take a).length = a := by rw [List.length_take]; omega
 by_cases h2 : q < a
 ·rw [if_pos (by omega), if_pos h2, if_pos (by omega), List.getElem?_append_left (by omega), List.getElem?_take, if_pos h2]
 ·rw [List.getElem?_append_right (by omega), hl]
  by_cases h3 : q < b
  ·rw [if_pos (by omega), if_neg h2, if_pos (by omega), List.getElem?_append_left (by omega)]
  ·rw [List.getElem?_append_right (by omega)]
   by_cases h4 : q < n
   ·rw [if_pos h4, if_neg h2, if_neg (by omega), if_neg h3, if_pos (by omega)]
    congr 1
    omega
   ·rw [if_neg h4, List.getElem?_eq_none (by omega)]
section
variable {P : Program} {ops : Array Oper} {rest : List Oper} {o : Oper} {a : Act} {Q : Exit → Act → World → Prop} {w : World}
theorem run_copy_cells (dT sT ty elem : TypeId) (i : TypeInfo) (hu : P.underlying dT = some (.slice elem)) (hi : P.info? elem = some i) (g off dLen dCap : Nat) (ad : Addr) (sLen sCap : Nat) (cur : Array Value) (t : TypeId) (hg : w.heap[g]? = some (.cells cur t (0, 0)))
  (cs : List Value) (hn : cs.length = Nat.min sLen dLen * i.size) (hsrc : ∀ j v, cs[j]? = some v → w.cell? (ad.add j) = some v) (hfit : off + cs.length ≤ cur.size) (h1 : ∀ v ∈ cs, v.oneCell' = true) :
  (Builtin.copy_ #[dT, sT] ty #[.slice (some ⟨g, off, none⟩) dLen dCap, .slice (some ad) sLen sCap]).run P w = .ok (goInt (Nat.min sLen dLen)) (w.setRow g (splice cur.toList off cs).toArray) := by
 have hl := run_firstCells_some (P := P) w i.size (Nat.min sLen dLen) ad sLen sCap cs hn hsrc
 have hst := run_storeCells_at P g off t cs 0 cur w hg (by simpa using hfit) h1
 simp only [Nat.add_zero] at hst
 simp [Builtin.copy_, run_underlying hu, Builtin.lenOf, sizeOf, typeInfo, hi, hl, hst, splice]
theorem wp_copy (hgd : o.guard = none) (d s : Operand) (dT sT elem : TypeId) (i : TypeInfo) (ho : o.op = .call { callee := .builtin .copy, args := #[d, s], argTypes := #[dT, sT] })
  (hu : P.underlying dT = some (.slice elem)) (hi : P.info? elem = some i) {g off dLen dCap : Nat} {ad : Addr} {sLen sCap : Nat} (hd : a.eval d = .slice (some ⟨g, off, none⟩) dLen dCap) (hs : a.eval s = .slice (some ad) sLen sCap) (cur : Array Value) (t : TypeId) (hg : w.heap[g]? = some (.cells cur t (0, 0)))
  (cs : List Value) (hn : cs.length = Nat.min sLen dLen * i.size) (hsrc : ∀ j v, cs[j]? = some v → w.cell? (ad.add j) = some v) (hfit : off + cs.length ≤ cur.size) (h1 : ∀ v ∈ cs, v.oneCell' = true)
  (h : ∀ w1, w1 = w.setRow g (splice cur.toList off cs).toArray → wpList P ops Q rest (a.put o.dst (goInt (Nat.min sLen dLen))) w1) : wpList P ops Q (o :: rest) a w := by
 have hr := run_copy_cells (P := P) dT sT o.type elem i hu hi g off dLen dCap ad sLen sCap cur t hg cs hn hsrc hfit h1
 refine wpList_plain hgd fun K hK => ?_
 unfold Oper.wp execOp
 simp only [ho, resolve, invoke, builtin, Sem.run_bind, Sem.run_pure, Result.andThen_ok, List.map_toArray, List.map_cons, List.map_nil, hd, hs, hr]
 exact hK _ _ (h _ rfl)
theorem run_zeros_grow (t ti ty e : TypeId) (i : TypeInfo) (z : Value) {k : IntKind} (ht : P.underlying t = some (.slice e)) (hti : P.underlying ti = some (.int k)) (hi : P.info? e = some i) (hz : i.zero = some z) (hzs : z.cells.size = i.size) (hs0 : 0 < i.size)
  (b : Addr) (sLen sCap : Nat) (olds : List Value) (hlo : olds.length = sLen * i.size) (holds : ∀ j v, olds[j]? = some v → w.cell? (b.add j) = some v) (n : Nat) (x : Int) (hx : x = (n : Int)) (hn0 : 0 < n)
  (hg : sCap < sLen + n) (hl : (sLen + n) * i.bytes ≤ 140737488355328) (hm : sLen + n ≤ 140737488355328) :
  ∃ (cap : Nat) (cur : Array Value), (Builtin.append_ #[t, ti] ty #[.slice (some b) sLen sCap, .int k x]).run P w = .ok (.slice (some ⟨w.heap.size, 0, none⟩) (sLen + n) cap) (w.drew.alloc (.cells cur e)) ∧ cur.size = cap * i.size ∧ sLen + n ≤ cap ∧ cap ≤ maxLen ∧ cur.toList.take (sLen * i.size) = olds := by
 subst hx
 have hn : ¬ (sLen + n ≤ sCap) := by omega
 have h63' : ¬ (9223372036854775807 < ((sLen : Int) + (n : Int))) := by omega
 have hfit := growslice_fits hg hl
 have h48' : ¬ (281474976710656 < Builtin.nextslicecap (sLen + n) sCap * i.bytes) := by omega
 have hfo := run_firstCells_some (P := P) w.drew i.size sLen b sLen sCap olds hlo (by simpa using holds)
 have hw64 : IntKind.i64.wrap (n : Int) = (n : Int) := by rw [IntKind.wrap_i64]; omega
 have hneg : ¬ ((n : Int) < 0) := by omega
 have hns : ¬ (n * i.size = 0) := by
  have := Nat.mul_pos hn0 hs0
  omega
 have hnb : ¬ (281474976710656 < (n : Int) * (i.bytes : Int)) := by
  have h1 : n * i.bytes ≤ (sLen + n) * i.bytes := Nat.mul_le_mul_right _ (by omega)
  have h2 : ((n * i.bytes : Nat) : Int) ≤ 140737488355328 := by omega
  rw [Int.natCast_mul] at h2
  omega
 refine ⟨grownCap w (sLen + n) sCap e, olds.toArray ++ Builtin.zeroCells z.cells n ++ Builtin.zeroCells z.cells (grownCap w (sLen + n) sCap e - (sLen + n)), ?_, ?_, grownCap_ge _ _ _ _, grownCap_le_maxLen _ _ _ _ (by simp only [maxLen]; omega), ?_⟩
 ·have hmz : ¬ (n * i.size = 0) := hns
  have hsn : i.size ≠ 0 := by omega
  simp [Builtin.append_, run_underlying ht, run_underlying hti, sizeOf, typeInfo, zeroValue, hi, hz, asInt, asIntOf, hw64, hneg, hnb, hn, hmz, hsn, h63', h48', Question.forced, hfo, newRow, grownCap]
 ·have := grownCap_ge w (sLen + n) sCap e
  simp only [Array.size_append, List.size_toArray, size_zeroCells, hzs, hlo, ← Nat.add_mul]
  congr 1
  omega
 ·simp only [Array.toList_append, List.append_assoc]
  rw [List.take_append_of_le_length (by simpa using Nat.le_of_eq hlo.symm), List.take_of_length_le (by simpa using Nat.le_of_eq hlo)]
theorem wp_zeros_grow (hgd : o.guard = none) (s x : Operand) (t ti e : TypeId) (i : TypeInfo) (z : Value) {k : IntKind} (ho : o.op = .call { callee := .builtin .append, args := #[s, x], argTypes := #[t, ti] })
  (ht : P.underlying t = some (.slice e)) (hti : P.underlying ti = some (.int k)) (hi : P.info? e = some i) (hz : i.zero = some z) (hzs : z.cells.size = i.size) (hs0 : 0 < i.size)
  {b : Addr} {sLen sCap : Nat} {y : Int} (hs : a.eval s = .slice (some b) sLen sCap) (hx : a.eval x = .int k y) (olds : List Value) (hlo : olds.length = sLen * i.size) (holds : ∀ j v, olds[j]? = some v → w.cell? (b.add j) = some v) (n tot : Nat) (hy : y = (n : Int)) (hn0 : 0 < n) (htot : sLen + n = tot)
  (hg : sCap < sLen + n) (hl : (sLen + n) * i.bytes ≤ 140737488355328) (hm : sLen + n ≤ 140737488355328)
  (h : ∀ (cap : Nat) (cur : Array Value) (w1 : World), w1 = w.drew.alloc (.cells cur e) → cur.size = cap * i.size → tot ≤ cap → cap ≤ maxLen → cur.toList.take (sLen * i.size) = olds → wpList P ops Q rest (a.put o.dst (.slice (some ⟨w.heap.size, 0, none⟩) tot cap)) w1) :
  wpList P ops Q (o :: rest) a w := by
 subst htot
 obtain ⟨cap, cur, hr, h1, h2, h3, h4⟩ := run_zeros_grow (P := P) (w := w) t ti o.type e i z ht hti hi hz hzs hs0 b sLen sCap olds hlo holds n y hy hn0 hg hl hm
 refine wpList_plain hgd fun K hK => ?_
 unfold Oper.wp execOp
 simp only [ho, resolve, invoke, builtin, Sem.run_bind, Sem.run_pure, Result.andThen_ok, List.map_toArray, List.map_cons, List.map_nil, hs, hx, hr]
 exact hK _ _ (h cap cur _ rfl h1 h2 h3 h4)
end
end Go.Proofs.YtjamafchmeiifaaXO
/- slices.Insert at []Pair, one element into a row of the caller's own. -/
namespace Go.Proofs.Ytjamafchmeiifaa.F
open Go.RowKit Go.Proofs.YtjamafchmeiifaaW.PrintWords Go.Proofs.YtjamafchmeiifaaW.PrintLast Go.Proofs.YtjamafchmeiifaaW.PrintMore Go.Proofs.YtjamafchmeiifaaXO
set_option linter.unusedVariables false
set_option linter.unusedSimpArgs false
def InsPost (l : List S47) (i : Nat) (x : S47) (base : Nat) (row : Option Nat) (w : World) (e : Ending) (w' : World) : Prop := ∃ v' : Value, e = .returned v' ∧ Kd.R k47 47 w' base (fun _ => True) v' (l.take i ++ [x] ++ l.drop i) ∧ w.grownBy w' row
set_option maxHeartbeats 2000000 in
set_option maxRecDepth 100000 in
/-- At the end of the list. -/
theorem insert_end (v : Value) (l0 : List S47) (x : S47) (gx : Nat) (base : Nat) (w : World) (ho : Kd.R k47 47 w base (fun _ => True) v l0) (hb : base ≤ w.heap.size) (hl : l0.length < 4398046511103)
  (hx : w.heap[gx]? = some (.cells #[.string x.f0, .string x.f1] 47 (0, 0))) :
  Calls Try.prog 120 #[v, .int .i64 (l0.length : Int), .slice (some ⟨gx, 0, none⟩) 1 1] w (InsPost l0 l0.length x base v.ownBlock w) := by
 obtain ⟨row, hrow⟩ : ∃ row, row = v.ownBlock := ⟨_, rfl⟩
 rw [← hrow]
 obtain ⟨A0, c0, ev, hlc, hC⟩ := Kd.R_reads ho
 have HC := Aside0.mk hC
 have HO := Aside0.mk ho
 have HL := Aside0.mk hl
 have HLC := Aside0.mk hlc
 have HX := Aside0.mk hx
 have HB := Aside0.mk hb
 clear hC ho hl hlc hx hb
 subst ev
 have HROW := Aside0.mk hrow
 clear hrow
 have hlen := HL.out
 have HXC : Aside0 (Kd.C k47 w (some ⟨gx, 0, none⟩) 1 [x]) := ⟨flat_one_reads flatPair HX.out⟩
 have hneg : ((l0.length : Int) == (l0.length : Int)) = true := by simp
 go_enter Try.func120, Try.ntmps120
 go_wp2_with (((with_reducible refine gate_builtin (b := .append) (xs := #[.tmp 23, .tmp 24]) rfl ?_); at_builtin; refine Kd.R_append_rows k47 (w0 := w) base rfl (.tmp 23) (.tmp 24) 27 47 (.agg #[(.string ⟨#[]⟩), (.string ⟨#[]⟩)]) 32 rfl Try.underlying27 info47 rfl (by decide) (by omega) _ l0 [x] _ _ _ (fun _ => True) (fun _ => False) rfl rfl ?aO ?aR (fun _ _ h => h) (fun _ h => h.elim) (fun _ _ => trivial) ?aB ?aS ?aL ?_; (case aO => exact HO.out); (case aR => exact HXC.out); (case aB => exact Below.refl _ _); (case aS => exact HB.out); (case aL => (have := HL.out; omega)); intro v2 w2 ho2 hb2 hg2 hat2; have HO2 := Aside0.mk ho2; have HG2 : Aside0 (w.grownBy w2 row) := ⟨by rw [HROW.out]; exact hg2⟩; clear ho2 hb2 hg2 hat2))
 all_goals
  go_ret
  refine ⟨_, rfl, ?_, HG2.out⟩
  rw [List.take_length, List.drop_length, List.append_nil]
  exact HO2.out
theorem zPair_cells : ((.agg #[(.string ⟨#[]⟩), (.string ⟨#[]⟩)] : Value)).cells.size = 2 := rfl
theorem pair_split (l0 : List S47) (i : Nat) (hi : i ≤ l0.length) : (l0.flatMap encPair).take (i * 2) = (l0.take i).flatMap encPair ∧ (l0.flatMap encPair).drop (i * 2) = (l0.drop i).flatMap encPair := by
 have h : ((l0.take i).flatMap encPair).length = i * 2 := by
  have := flat_length flatPair (l0.take i)
  rw [List.length_take, Nat.min_eq_left hi] at this
  exact this
 have e : l0.flatMap encPair = (l0.take i).flatMap encPair ++ (l0.drop i).flatMap encPair := by rw [← List.flatMap_append, List.take_append_drop]
 rw [e]
 constructor
 ·rw [List.take_append_of_le_length (by omega), List.take_of_length_le (by omega)]
 ·rw [List.drop_append_of_le_length (by omega), List.drop_eq_nil_of_le (by omega), List.nil_append]
theorem pair_len (l : List S47) : (l.flatMap encPair).length = l.length * 2 := flat_length flatPair l
/-- A row's cells, told by the block. -/
theorem pair_row {w : World} {base g n cap : Nat} {l : List S47} (hb : base ≤ g) (h1 : n ≤ cap) (h2 : cap ≤ maxLen) {cur : Array Value} (hh : w.heap[g]? = some (.cells cur 47 (0, 0))) (h3 : cur.size = cap * 2) (hn : l.length = n) (h4 : cur.toList.take (n * 2) = l.flatMap encPair) : Kd.R k47 47 w base (fun _ => True) (.slice (some ⟨g, 0, none⟩) n cap) l := by
 subst hn
 exact flat_R flatPair (row_of_blk (sz := 2) hb h1 h2 hh h3 h4 (pair_len l)) (fun _ _ => trivial)
set_option maxHeartbeats 4000000 in
set_option maxRecDepth 100000 in
/-- Ahead of the end, the row full. -/
theorem insert_grow (g c0 : Nat) (l0 : List S47) (x : S47) (gx i : Nat) (base : Nat) (w : World) (ho : Kd.R k47 47 w base (fun _ => True) (.slice (some ⟨g, 0, none⟩) l0.length c0) l0) (hb : base ≤ w.heap.size) (hl : l0.length < 4398046511103)
  (hx : w.heap[gx]? = some (.cells #[.string x.f0, .string x.f1] 47 (0, 0))) (hi : i < l0.length) (hc : c0 = l0.length) :
  Calls Try.prog 120 #[.slice (some ⟨g, 0, none⟩) l0.length c0, .int .i64 (i : Int), .slice (some ⟨gx, 0, none⟩) 1 1] w (InsPost l0 i x base (some g) w) := by
 have hown := flat_own flatPair ho
 obtain ⟨hgb, _, hcm, cur0, hh0, hs0, ht0⟩ := row_blk hown
 obtain ⟨ti, hti, hz⟩ := Option.map_eq_some_iff.1 info47
 simp only [Prod.mk.injEq] at hz
 obtain ⟨hz0, hz1, hz2⟩ := hz
 have HO := Aside0.mk ho
 have HX := Aside0.mk hx
 have HB := Aside0.mk hb
 have HGB := Aside0.mk hgb
 have HH0 := Aside0.mk hh0
 have HT0 := Aside0.mk ht0
 have HS0 := Aside0.mk hs0
 have HTI := Aside0.mk hti
 have HZ0 := Aside0.mk hz0
 have HZ1 := Aside0.mk hz1
 have HZ2 := Aside0.mk hz2
 have HC := Aside0.mk hc
 have HGL : Aside0 (g < w.heap.size) := ⟨blk_lt hh0⟩
 have HXL : Aside0 (gx < w.heap.size) := ⟨blk_lt hx⟩
 have h1 : ((i : Int) == (l0.length : Int)) = false := by rw [beq_eq_false_iff_ne]; omega
 have h2 : ¬ (c0 = i) := by omega
 have h3 : (c0 : Int) < (l0.length : Int) + 1 := by omega
 have h4 : i ≤ c0 := by omega
 have h5 : i ≤ l0.length := by omega
 have HCW : Aside0 (∀ j u, (l0.flatMap encPair)[j]? = some u → w.cell? ((⟨g, 0, none⟩ : Addr).add j) = some u) := ⟨hown.cells rfl⟩
 have HOLD : Aside0 (∀ j u, ((l0.take i).flatMap encPair)[j]? = some u → w.cell? ((⟨g, 0, none⟩ : Addr).add j) = some u) := ⟨fun j u hu => HCW.out j u (by
  rw [← (pair_split l0 i h5).1, List.getElem?_take] at hu
  split at hu
  ·exact hu
  ·cases hu)⟩
 have HN1 : Aside0 ((encPair x).length = Nat.min 1 (l0.length + 1 - i) * ti.size) := ⟨by rw [hz1, show Nat.min 1 (l0.length + 1 - i) = 1 from Nat.min_eq_left (by omega)]; rfl⟩
 have HSRC : Aside0 (∀ (cur : Array Value) j u, (encPair x)[j]? = some u → (w.drew.alloc (.cells cur 47)).cell? ((⟨gx, 0, none⟩ : Addr).add j) = some u) := ⟨fun cur j u hu => by
  rw [add_plain]
  have e : (w.drew.alloc (.cells cur 47)).cell? ⟨gx, j, none⟩ = w.cell? ⟨gx, j, none⟩ := (below_alloc (w := w) (W := w.drew) (below_drew (Below.refl _ _)) _).cell (p := ⟨gx, j, none⟩) HXL.out
  rw [e, cell_of_row w gx j _ _ (0, 0) HX.out]
  simpa [encPair] using hu⟩
 clear ho hx hb hgb hh0 ht0 hs0 hti hz0 hz1 hz2 hc hown hcm
 go_enter Try.func120, Try.ntmps120
 go_wp2_with (first | ((with_reducible refine gate_builtin (b := .append) (xs := #[.tmp 34, .tmp 39]) rfl ?_); refine wp_zeros_grow rfl (.tmp 34) (.tmp 39) 27 3 47 ti (.agg #[(.string ⟨#[]⟩), (.string ⟨#[]⟩)]) rfl Try.underlying27 Try.underlying3 HTI.out HZ0.out ?zs ?s0 rfl rfl ((l0.take i).flatMap encPair) ?lo ?ho (l0.length + 1 - i) (l0.length + 1) ?hy ?hn ?htot ?hg ?hl ?hm ?_; (case zs => exact zPair_cells.trans HZ1.out.symm); (case s0 => rw [HZ1.out]; decide); (case lo => rw [HZ1.out, pair_len, List.length_take]; omega); (case ho => exact HOLD.out); (case hy => omega); (case hn => omega); (case htot => omega); (case hg => have := HC.out; omega); (case hl => rw [HZ2.out]; omega); (case hm => omega); intro cap cur w1 hw1 hcs hcap hcm hct; have HW1 := Aside0.mk hw1; have HCS := Aside0.mk hcs; have HCM := Aside0.mk hcm; have HCT := Aside0.mk hct; clear hw1 hcs hcm hct; have h6 : ¬ (cap = i) := (by omega); have h7 : ¬ (cap = i + 1) := (by omega); have h8 : i + 1 ≤ cap := (by omega)) | ((with_reducible refine gate_builtin (b := .copy) (xs := #[.tmp 43, .tmp 44]) rfl ?_); refine wp_copy rfl (.tmp 43) (.tmp 44) 27 27 47 ti rfl Try.underlying27 HTI.out rfl rfl cur 47 ?hg (encPair x) ?hn ?hs ?hf ?h1 ?_; (case hg => rw [HW1.out]; exact heap_alloc_new w.drew _); (case hn => exact HN1.out); (case hs => (rw [HW1.out]; exact HSRC.out cur)); (case hf => (rw [HCS.out, HZ1.out]; have : (i + 1) * 2 ≤ cap * 2 := Nat.mul_le_mul_right _ (by omega); simp [encPair]; omega)); (case h1 => exact flatPair.one x); intro w2 hw2; have HW2 := Aside0.mk hw2; clear hw2))
 have HH1 : Aside0 (w1.heap[w.heap.size]? = some (.cells cur 47 (0, 0))) := ⟨by rw [HW1.out]; exact heap_alloc_new w.drew _⟩
 have hsz : cur.size = cap * 2 := by rw [HCS.out, HZ1.out]
 have hct : cur.toList.take (i * 2) = (l0.take i).flatMap encPair := by
  have := HCT.out
  rw [HZ1.out] at this
  exact this
 have hcap2 : (l0.length + 1) * 2 ≤ cap * 2 := Nat.mul_le_mul_right _ (by omega)
 have hx2 : (encPair x).length = 2 := rfl
 have hy2 : ((l0.drop i).flatMap encPair).length = (l0.length - i) * 2 := by rw [pair_len, List.length_drop]
 have hl1 : (splice cur.toList (i * 2) (encPair x)).length = cap * 2 := by rw [length_splice _ _ _ (by rw [hx2, Array.length_toList]; omega), Array.length_toList, hsz]
 have HH2 : Aside0 (w2.drew.heap[w.heap.size]? = some (.cells (splice cur.toList (i * 2) (encPair x)).toArray 47 (0, 0))) := ⟨by rw [HW2.out]; exact setRow_heap w1 _ _ _ _ (0, 0) HH1.out⟩
 have HG2 : Aside0 (w.grownBy w2.drew none) := ⟨by
  rw [HW2.out, HW1.out]
  refine ⟨rfl, rfl, rfl, ?_, fun k hk _ => ?_⟩
  ·show w.heap.size ≤ ((w.drew.alloc (.cells cur 47)).setRow w.heap.size (splice cur.toList (i * 2) (encPair x)).toArray).heap.size
   rw [size_setRow]
   simp
  have h1' : ((w.drew.alloc (.cells cur 47)).setRow w.heap.size (splice cur.toList (i * 2) (encPair x)).toArray).heap[k]? = (w.drew.alloc (.cells cur 47)).heap[k]? := setRow_other _ _ _ _ (by omega)
  exact h1'.trans (heap_alloc_old w.drew _ hk)⟩
 have HSRC2 : Aside0 (∀ j u, ((l0.drop i).flatMap encPair)[j]? = some u → w2.drew.cell? ((⟨g, i * 2, none⟩ : Addr).add j) = some u) := ⟨fun j u hu => by
  rw [add_at]
  refine HG2.out.cell (a := ⟨g, i * 2 + j, none⟩) ?_ (by simp)
  rw [← add_plain]
  refine HCW.out _ _ ?_
  rw [← (pair_split l0 i h5).2, List.getElem?_drop] at hu
  exact hu⟩
 have HY2 : Aside0 (((l0.drop i).flatMap encPair).length = Nat.min (l0.length - i) (l0.length - i) * ti.size) := ⟨by rw [HZ1.out, hy2, show Nat.min (l0.length - i) (l0.length - i) = l0.length - i from Nat.min_self _]⟩
 have HFIT : Aside0 ((i + 1) * 2 + ((l0.drop i).flatMap encPair).length ≤ (splice cur.toList (i * 2) (encPair x)).toArray.size) := ⟨by rw [List.size_toArray, hl1, hy2]; omega⟩
 have HR : Aside0 (∀ w3, w3 = w2.drew.setRow w.heap.size (splice (splice cur.toList (i * 2) (encPair x)) ((i + 1) * 2) ((l0.drop i).flatMap encPair)).toArray → Kd.R k47 47 w3 base (fun _ => True) (.slice (some ⟨w.heap.size, 0, none⟩) (l0.length + 1) cap) (l0.take i ++ [x] ++ l0.drop i) ∧ w.grownBy w3 (some g)) := ⟨fun w3 hw3 => by
  have hl2 : (splice (splice cur.toList (i * 2) (encPair x)) ((i + 1) * 2) ((l0.drop i).flatMap encPair)).length = cap * 2 := by rw [length_splice _ _ _ (by rw [hl1, hy2]; omega), hl1]
  constructor
  ·rw [hw3]
   refine pair_row HB.out (by omega) HCM.out (setRow_heap w2.drew _ _ _ _ (0, 0) HH2.out) (by rw [List.size_toArray, hl2]) (by simp [List.length_take, List.length_drop]; omega) ?_
   show List.take ((l0.length + 1) * 2) (splice (splice cur.toList (i * 2) (encPair x)) ((i + 1) * 2) ((l0.drop i).flatMap encPair)) = _
   rw [ins_cells cur.toList (encPair x) ((l0.drop i).flatMap encPair) (i * 2) ((i + 1) * 2) ((l0.length + 1) * 2) (by rw [hx2]; omega) (by rw [hy2]; omega) (by have := hsz; simp only [Array.length_toList]; omega), hct]
   simp [List.flatMap_append]
  ·rw [hw3]
   refine ⟨HG2.out.os, HG2.out.tape, HG2.out.output, by rw [size_setRow]; exact HG2.out.size, fun k hk _ => ?_⟩
   rw [setRow_other _ _ _ _ (by omega)]
   exact HG2.out.block k hk (by simp)⟩
 clear hsz hct hcap2 hx2 hy2 hl1
 have n1 : IntKind.i64.wrap ((i : Int) + 1) = (i : Int) + 1 := by rw [IntKind.wrap_i64]; omega
 have n2 : (0 : Int) ≤ (i : Int) + 1 := by omega
 have n3 : ((i : Int) + 1).toNat = i + 1 := by omega
 have n4 : (i : Int) + 1 ≤ (cap : Int) := by omega
 have n5 : (i : Int) + 1 ≤ ((l0.length + 1 : Nat) : Int) := by omega
 have n6 : (i : Int) ≤ (c0 : Int) := by omega
 have n7 : (i : Int) ≤ (l0.length : Int) := by omega
 have n8 : (i : Int) + 1 ≤ (l0.length : Int) + 1 := by omega
 go_still_tail 8, (by kernel_rfl)
 change wpList _ _ _ _ _ w2.drew
 refine wp_copy rfl (.tmp 50) (.tmp 53) 27 27 47 ti rfl Try.underlying27 HTI.out rfl rfl (splice cur.toList (i * 2) (encPair x)).toArray 47 HH2.out ((l0.drop i).flatMap encPair) ?hn HSRC2.out HFIT.out (flat_one flatPair _) ?_
 case hn => exact HY2.out
 intro w3 hw3
 have HR3 := Aside0.mk (HR.out w3 hw3)
 clear hw3
 go_wp2
 go_ret
 exact ⟨_, rfl, HR3.out.1, HR3.out.2⟩
set_option maxHeartbeats 4000000 in
set_option maxRecDepth 100000 in
/-- Ahead of the end, there is room: in place. -/
theorem insert_room (g c0 : Nat) (l0 : List S47) (x : S47) (gx i : Nat) (base : Nat) (w : World) (ho : Kd.R k47 47 w base (fun _ => True) (.slice (some ⟨g, 0, none⟩) l0.length c0) l0) (hl : l0.length < 4398046511103)
  (hx : w.heap[gx]? = some (.cells #[.string x.f0, .string x.f1] 47 (0, 0))) (hgx : gx ≠ g) (hi : i < l0.length) (hc : l0.length + 1 ≤ c0) :
  Calls Try.prog 120 #[.slice (some ⟨g, 0, none⟩) l0.length c0, .int .i64 (i : Int), .slice (some ⟨gx, 0, none⟩) 1 1] w (InsPost l0 i x base (some g) w) := by
 have hown := flat_own flatPair ho
 obtain ⟨hgb, _, hcm, cur0, hh0, hs0, ht0⟩ := row_blk hown
 obtain ⟨ti, hti, hz⟩ := Option.map_eq_some_iff.1 info47
 simp only [Prod.mk.injEq] at hz
 obtain ⟨hz0, hz1, hz2⟩ := hz
 have HO := Aside0.mk ho
 have HX := Aside0.mk hx
 have HGB := Aside0.mk hgb
 have HH0 := Aside0.mk hh0
 have HT0 := Aside0.mk ht0
 have HS0 := Aside0.mk hs0
 have HTI := Aside0.mk hti
 have HZ1 := Aside0.mk hz1
 have HGX := Aside0.mk hgx
 have h1 : ((i : Int) == (l0.length : Int)) = false := by rw [beq_eq_false_iff_ne]; omega
 have h2 : ¬ (c0 = i) := by omega
 have h3 : ¬ (c0 : Int) < (l0.length : Int) + 1 := by omega
 have h4 : i ≤ c0 := by omega
 have h5 : i ≤ l0.length := by omega
 have h6 : ¬ (c0 = i + 1) := by omega
 have h7 : i + 1 ≤ c0 := by omega
 have h8 : l0.length + 1 ≤ c0 := by omega
 have hcs0 : cur0.size = c0 * 2 := hs0
 have hov : ∀ (lb cb off : Nat), (callFunc 152 #[.slice (some ⟨gx, 0, none⟩) 1 1, .slice (some ⟨g, off, none⟩) lb cb]).run Try.prog w = .ok (.value (.bool false)) w := fun lb cb off => by
  rw [run_callFunc_extern Try.func152 (by kernel_rfl) (by kernel_rfl) (by kernel_rfl) (e := Extern.SlicesOverlaps.overlaps #[27, 27] #[4]) (by kernel_rfl),
   Lib.run_overlaps_apart w 27 4 47 Try.underlying27 2 (fun w => by simp [Go.sizeOf, typeInfo, hti, hz1]) ⟨gx, 0, none⟩ ⟨g, off, none⟩ 1 1 lb cb hgx 47 47 2 cur0.size (by simp [World.shape?, hx]) (by simp [World.shape?, hh0]) (by omega) (by simp [World.frozen?, hx]) (by simp [World.frozen?, hx])]
  rfl
 have hcellg : ∀ j u, (l0.flatMap encPair)[j]? = some u → w.cell? ((⟨g, 0, none⟩ : Addr).add j) = some u := hown.cells rfl
 have hx2 : (encPair x).length = 2 := rfl
 have hy2 : ((l0.drop i).flatMap encPair).length = (l0.length - i) * 2 := by rw [pair_len, List.length_drop]
 have hcap2 : (l0.length + 1) * 2 ≤ c0 * 2 := Nat.mul_le_mul_right _ (by omega)
 have hct : cur0.toList.take (i * 2) = (l0.take i).flatMap encPair := by
  rw [← (pair_split l0 i h5).1, ← ht0, List.take_take]
  congr 1
  show i * 2 = min (i * 2) (l0.length * 2)
  omega
 have HY2 : Aside0 (((l0.drop i).flatMap encPair).length = Nat.min (l0.length + 1 - i) (l0.length - i) * ti.size) := ⟨by rw [hz1, hy2, show Nat.min (l0.length + 1 - i) (l0.length - i) = l0.length - i from Nat.min_eq_right (by omega)]⟩
 have HSRC : Aside0 (∀ j u, ((l0.drop i).flatMap encPair)[j]? = some u → w.drew.cell? ((⟨g, i * 2, none⟩ : Addr).add j) = some u) := ⟨fun j u hu => by
  rw [add_at]
  show w.cell? ⟨g, i * 2 + j, none⟩ = some u
  rw [← add_plain]
  refine hcellg _ _ ?_
  rw [← (pair_split l0 i h5).2, List.getElem?_drop] at hu
  exact hu⟩
 have HFIT : Aside0 ((i + 1) * 2 + ((l0.drop i).flatMap encPair).length ≤ cur0.size) := ⟨by rw [hcs0, hy2]; omega⟩
 have HHD : Aside0 (w.drew.heap[g]? = some (.cells cur0 47 (0, 0))) := ⟨hh0⟩
 have hcl : cur0.toList.length = c0 * 2 := by rw [Array.length_toList]; exact hcs0
 have hl1 : (splice cur0.toList ((i + 1) * 2) ((l0.drop i).flatMap encPair)).length = c0 * 2 := by rw [length_splice _ _ _ (by rw [hcl, hy2]; omega), hcl]
 have HH1 : Aside0 (∀ w1, w1 = w.drew.setRow g (splice cur0.toList ((i + 1) * 2) ((l0.drop i).flatMap encPair)).toArray → w1.heap[g]? = some (.cells (splice cur0.toList ((i + 1) * 2) ((l0.drop i).flatMap encPair)).toArray 47 (0, 0)) ∧ w.grownBy w1 (some g) ∧ ∀ j u, (encPair x)[j]? = some u → w1.cell? ((⟨gx, 0, none⟩ : Addr).add j) = some u) := ⟨fun w1 hw1 => by
  subst hw1
  refine ⟨setRow_heap w.drew g _ _ _ (0, 0) hh0, ?_, fun j u hu => ?_⟩
  ·exact ⟨rfl, rfl, rfl, by rw [size_setRow]; exact Nat.le_refl _, fun k _ hk => setRow_other w.drew g k _ (fun e => hk (by rw [e]))⟩
  ·rw [add_plain, cell_setRow_other _ _ _ _ hgx]
   show w.cell? ⟨gx, j, none⟩ = some u
   rw [cell_of_row w gx j _ _ (0, 0) hx]
   simpa [encPair] using hu⟩
 have HX2 : Aside0 ((encPair x).length = Nat.min 1 (l0.length + 1 - i) * ti.size) := ⟨by rw [hz1, show Nat.min 1 (l0.length + 1 - i) = 1 from Nat.min_eq_left (by omega)]; rfl⟩
 have HFIT2 : Aside0 (i * 2 + (encPair x).length ≤ (splice cur0.toList ((i + 1) * 2) ((l0.drop i).flatMap encPair)).toArray.size) := ⟨by rw [List.size_toArray, hl1, hx2]; omega⟩
 have HR : Aside0 (∀ w1 w2, w1 = w.drew.setRow g (splice cur0.toList ((i + 1) * 2) ((l0.drop i).flatMap encPair)).toArray → w2 = w1.setRow g (splice (splice cur0.toList ((i + 1) * 2) ((l0.drop i).flatMap encPair)).toArray.toList (i * 2) (encPair x)).toArray → Kd.R k47 47 w2 base (fun _ => True) (.slice (some ⟨g, 0, none⟩) (l0.length + 1) c0) (l0.take i ++ [x] ++ l0.drop i) ∧ w.grownBy w2 (some g)) := ⟨fun w1 w2 hw1 hw2 => by
  obtain ⟨hh1, hg1, _⟩ := HH1.out w1 hw1
  have hl2 : (splice (splice cur0.toList ((i + 1) * 2) ((l0.drop i).flatMap encPair)) (i * 2) (encPair x)).length = c0 * 2 := by rw [length_splice _ _ _ (by rw [hl1, hx2]; omega), hl1]
  subst hw2
  refine ⟨pair_row hgb h8 hcm (setRow_heap w1 g _ _ _ (0, 0) hh1) (by rw [List.size_toArray, hl2]) (by simp [List.length_take, List.length_drop]; omega) ?_, World.grownBy.trans hg1 grown_setRow⟩
  show List.take ((l0.length + 1) * 2) (splice (splice cur0.toList ((i + 1) * 2) ((l0.drop i).flatMap encPair)) (i * 2) (encPair x)) = _
  rw [ins_cells' cur0.toList (encPair x) ((l0.drop i).flatMap encPair) (i * 2) ((i + 1) * 2) ((l0.length + 1) * 2) (by rw [hx2]; omega) (by rw [hy2]; omega) (by rw [hcl]; omega), hct]
  simp [List.flatMap_append]⟩
 clear ho hx hgb hh0 ht0 hs0 hti hz0 hz1 hz2 hown hcm hgx hcs0 hcellg hx2 hy2 hcap2 hct hcl hl1
 go_enter Try.func120, Try.ntmps120
 go_wp2_with fail
 have n1 : IntKind.i64.wrap ((i : Int) + 1) = (i : Int) + 1 := by rw [IntKind.wrap_i64]; omega
 have n2 : (0 : Int) ≤ (i : Int) + 1 := by omega
 have n3 : ((i : Int) + 1).toNat = i + 1 := by omega
 have n4 : (i : Int) + 1 ≤ (c0 : Int) := by omega
 have n5 : (i : Int) + 1 ≤ ((l0.length + 1 : Nat) : Int) := by omega
 have n6 : (i : Int) ≤ (c0 : Int) := by omega
 have n7 : (i : Int) ≤ (l0.length : Int) := by omega
 have n8 : (i : Int) + 1 ≤ (l0.length : Int) + 1 := by omega
 have n9 : (i : Int) ≤ (l0.length : Int) + 1 := by omega
 have n10 : (i : Int) ≤ ((l0.length + 1 : Nat) : Int) := by omega
 go_still_tail 8, (by kernel_rfl)
 change wpList _ _ _ _ _ w.drew
 refine wp_copy rfl (.tmp 73) (.tmp 76) 27 27 47 ti rfl Try.underlying27 HTI.out rfl rfl cur0 47 HHD.out ((l0.drop i).flatMap encPair) ?hn HSRC.out HFIT.out (flat_one flatPair _) ?_
 case hn => exact HY2.out
 intro w1 hw1
 have HW1 := Aside0.mk hw1
 obtain ⟨hh1, _, hs1⟩ := HH1.out w1 hw1
 have HH1' := Aside0.mk hh1
 have HS1 := Aside0.mk hs1
 clear hw1 hh1 hs1
 go_wp2_with ((with_reducible refine gate_builtin (b := .copy) (xs := #[.tmp 80, .tmp 81]) rfl ?_); refine wp_copy rfl (.tmp 80) (.tmp 81) 27 27 47 ti rfl Try.underlying27 HTI.out rfl rfl _ 47 HH1'.out (encPair x) ?hn HS1.out HFIT2.out (flatPair.one x) ?_; (case hn => exact HX2.out); intro w2 hw2; have HR2 := Aside0.mk (HR.out w1 w2 HW1.out hw2); clear hw2)
 go_ret
 exact ⟨_, rfl, HR2.out.1, HR2.out.2⟩
/-- The three in one. -/
theorem insert_pair (v : Value) (l0 : List S47) (x : S47) (gx i : Nat) (base : Nat) (w : World) (ho : Kd.R k47 47 w base (fun _ => True) v l0) (hb : base ≤ w.heap.size) (hl : l0.length < 4398046511103)
  (hx : w.heap[gx]? = some (.cells #[.string x.f0, .string x.f1] 47 (0, 0))) (hgx : v.ownBlock ≠ some gx) (hi : i ≤ l0.length) :
  Calls Try.prog 120 #[v, .int .i64 (i : Int), .slice (some ⟨gx, 0, none⟩) 1 1] w (InsPost l0 i x base v.ownBlock w) := by
 rcases Nat.lt_or_ge i l0.length with h | h
 ·have hown := flat_own flatPair ho
  rcases hown.2 with ⟨hv, hc⟩ | ⟨g, cap, cur, hv, hb', hh, h1, h2, h3, h4⟩
  ·have h0 := pair_len l0
   rw [hc] at h0
   simp at h0
   omega
  ·subst hv
   have hgx' : gx ≠ g := fun e => hgx (by rw [e]; rfl)
   rcases Nat.lt_or_ge l0.length cap with hc | hc
   ·exact insert_room g cap l0 x gx i base w ho hl hx hgx' h hc
   ·exact insert_grow g cap l0 x gx i base w ho hb hl hx h (by omega)
 ·obtain rfl : i = l0.length := by omega
  exact insert_end v l0 x gx base w ho hb hl hx
/- impl.applied: a record applied to a list of pairs; a list whose keys are not strictly increasing is left out when something is put in. -/
def affB (a0 : ByteArray) (a2 : Int) (a4 : ByteArray) (y : ByteArray) : Bool := if a2 = 3 then (if Op.bytesLess y.toList a0.toList = true then false else Op.bytesLess y.toList a4.toList) else a0.toList == y.toList
theorem affB_spec (a0 : ByteArray) (a1 : Int) (a2 : Int) (a3 a4 y : ByteArray) : impl_Record_affects.f a0 a1 a2 a3 a4 y = some (affB a0 a2 a4 y) := by
 unfold impl_Record_affects.f affB
 repeat' split
 all_goals rfl
def lessK (key : ByteArray) (x : S47) : Bool := Op.bytesLess x.f0.toList key.toList
def lessP (x y : S47) : Prop := Op.bytesLess x.f0.toList y.f0.toList = true
instance : DecidableRel lessP := fun x y => inferInstanceAs (Decidable (_ = true))
def impl_applied.f (l : List S47) (a0 : ByteArray) (a1 a2 : Int) (a3 a4 : ByteArray) : Option (List S47) :=
 if l.length < 4398046511103 then
  if a2 = 1 then
   if l.Pairwise lessP then some ((l.filter (fun x => !affB a0 a2 a4 x.f0)).takeWhile (lessK a0) ++ [⟨a0, a3⟩] ++ (l.filter (fun x => !affB a0 a2 a4 x.f0)).dropWhile (lessK a0)) else none
  else some (l.filter (fun x => !affB a0 a2 a4 x.f0))
 else none
theorem take_while {p : S47 → Bool} : ∀ (l : List S47) (i : Nat), i ≤ l.length → (∀ a, a < i → p (l.getD a z47) = true) → (∀ a, i ≤ a → a < l.length → p (l.getD a z47) = false) → l.take i = l.takeWhile p ∧ l.drop i = l.dropWhile p
 | [], i, hi, _, _ => by simp
 | x :: l, 0, _, _, h2 => by
  have := h2 0 (Nat.le_refl _) (by simp)
  simp only [List.getD_cons_zero] at this
  simp [List.takeWhile_cons, List.dropWhile_cons, this]
 | x :: l, i + 1, hi, h1, h2 => by
  have h0 := h1 0 (by omega)
  simp only [List.getD_cons_zero] at h0
  have ih := take_while (p := p) l i (by simpa using hi) (fun a ha => by simpa using h1 (a + 1) (by omega)) (fun a ha hb => by simpa using h2 (a + 1) (by omega) (by simpa using hb))
  simp [List.takeWhile_cons, List.dropWhile_cons, h0, ih.1, ih.2]
theorem cmp_neg' : ∀ a b : List UInt8, (Lib.compareBytes a b < 0 ↔ Op.bytesLess a b = true)
 | [], [] => by simp [Lib.compareBytes, Op.bytesLess]
 | [], _ :: _ => by simp [Lib.compareBytes, Op.bytesLess]
 | _ :: _, [] => by simp [Lib.compareBytes, Op.bytesLess]
 | a :: xs, b :: ys => by
  have ih := cmp_neg' xs ys
  unfold Lib.compareBytes Op.bytesLess
  by_cases h1 : a < b
  ·simp [h1]
  ·by_cases h2 : b < a
   ·have h3 : ¬ a = b := fun e => by subst e; exact h1 h2
    simp [h1, h2, h3]
   ·have h3 : a = b := by
     apply UInt8.toNat_inj.1
     have h1' : ¬ a.toNat < b.toNat := h1
     have h2' : ¬ b.toNat < a.toNat := h2
     omega
    simp [h1, h2, h3]
    simpa using ih
theorem cmp_neg (a b : ByteArray) : Lib.compareBytes a.data.toList b.data.toList < 0 ↔ Op.bytesLess a.toList b.toList = true := by
 rw [ByteArray.toList_eq, ByteArray.toList_eq]
 exact cmp_neg' _ _
theorem gx_apart {v : Value} {l : List S47} {w3 w4 : World} {base gx : Nat} (h : Kd.R k47 47 w3 base (fun _ => True) v l) (hg : gx = w4.heap.size) (hb : Below w3.heap.size w3 w4) (e : v.ownBlock = some gx) : False := by
 have hown := flat_own flatPair h
 rcases hown.2 with ⟨hv, _⟩ | ⟨g, cap, cur, hv, hb', hh, _⟩
 ·subst hv; cases e
 ·subst hv
  have e1 : g = gx := by simpa [Value.ownBlock] using e
  have := blk_lt hh
  have := hb.size
  omega
set_option maxHeartbeats 2000000 in
set_option maxRecDepth 100000 in
theorem applied_affects (a0 : ByteArray) (a1 a2 : Int) (a3 a4 : ByteArray) (gb : Nat) (x : S47) (W : World) (hbox : W.heap[gb]? = some (.cells #[.string a0, .int .i64 a1, .int .i64 a2, .string a3, .string a4] 39 (0, 0))) :
  Calls Try.prog 115 (#[.agg #[.string x.f0, .string x.f1]] ++ #[.pointer (some ⟨gb, 0, none⟩)]) W fun e w' => e = .returned (.bool (affB a0 a2 a4 x.f0)) ∧ Below W.heap.size W w' := by
 have HBOX := Aside0.mk hbox
 clear hbox
 have hu39 := Try.underlying39
 have HA := Aside0.mk (affB_spec a0 a1 a2 a3 a4 x.f0)
 show Calls Try.prog 115 #[.agg #[.string x.f0, .string x.f1], .pointer (some ⟨gb, 0, none⟩)] W _
 go_enter Try.func115, Try.ntmps115
 go_wp2_with (first | ((with_reducible refine gate_dst (N := 2) rfl ?_); refine box_event ?hg (N := 2) ?hd (cs := #[.string x.f0, .string x.f1]) (t := 47) ?hr ?_; (case hd => rfl); (case hg => rfl); (case hr => first | (go_simp; done) | (go_simp; rfl)); intro g2 hg w2 hbox2 hb; have HB2 := Aside0.mk hb; have hbx := blk_below HBOX.out hb; have HBX := Aside0.mk hbx; have hcz0 : w2.cell? ⟨gb, 0, none⟩ = some (.string a0) := (blk_cell HBX.out 0).trans rfl; have hcz1 : w2.cell? ⟨gb, 1, none⟩ = some (.int .i64 a1) := (blk_cell HBX.out 1).trans rfl; have hcz2 : w2.cell? ⟨gb, 2, none⟩ = some (.int .i64 a2) := (blk_cell HBX.out 2).trans rfl; have hcz3 : w2.cell? ⟨gb, 3, none⟩ = some (.string a3) := (blk_cell HBX.out 3).trans rfl; have hcz4 : w2.cell? ⟨gb, 4, none⟩ = some (.string a4) := (blk_cell HBX.out 4).trans rfl; have hcy0 : w2.cell? ⟨g2, 0, none⟩ = some (.string x.f0) := (blk_cell hbox2 0).trans rfl; clear hg hbox2 hb hbx) | (go_at_call 116; (with_reducible refine (impl_Record_affects.calls a0 a1 a2 a3 a4 x.f0 _ _ HA.out).mono ?_); rintro e w3 ⟨rfl, hb3⟩; have HB3 := Aside0.mk hb3; clear hb3))
 go_ret
 exact ⟨rfl, below_then HB2.out HB2.out.size HB3.out⟩
set_option maxHeartbeats 2000000 in
set_option maxRecDepth 100000 in
theorem applied_cmp (key : ByteArray) (x : S47) (W : World) :
  Calls Try.prog 118 (#[.agg #[.string x.f0, .string x.f1], .string key] ++ #[]) W fun e w' => e = .returned (.int .i64 (Lib.compareBytes x.f0.data.toList key.data.toList)) ∧ Below W.heap.size W w' := by
 show Calls Try.prog 118 #[.agg #[.string x.f0, .string x.f1], .string key] W _
 have hu47 := Try.underlying47
 go_enter Try.func118, Try.ntmps118
 go_wp2_with (first | ((with_reducible refine gate_dst (N := 2) rfl ?_); refine box_event ?hg (N := 2) ?hd (cs := #[.string x.f0, .string x.f1]) (t := 47) ?hr ?_; (case hd => rfl); (case hg => rfl); (case hr => first | (go_simp; done) | (go_simp; rfl)); intro g2 hg w2 hbox2 hb; have HB2 := Aside0.mk hb; have hcy0 : w2.cell? ⟨g2, 0, none⟩ = some (.string x.f0) := (blk_cell hbox2 0).trans rfl; clear hg hbox2 hb) | (go_at_call 119; (with_reducible refine (strings_Compare.calls x.f0 key _ _ rfl).mono ?_); rintro e w3 ⟨rfl, hb3⟩; have HB3 := Aside0.mk hb3; clear hb3))
 go_ret
 exact ⟨rfl, below_then HB2.out HB2.out.size HB3.out.below⟩
theorem R_base {v : Value} {xs : List S47} {w : World} {base : Nat} (h : Kd.R k47 47 w base (fun _ => True) v xs) : ∀ k, v.ownBlock = some k → base ≤ k := by
 intro k hk
 have hown := flat_own flatPair h
 rcases hown.2 with ⟨hv, _⟩ | ⟨g, cap, cur, hv, hb, _⟩
 ·subst hv; cases hk
 ·subst hv
  have : g = k := by simpa [Value.ownBlock] using hk
  omega
theorem R_len {v : Value} {xs : List S47} {w : World} {base : Nat} (h : Kd.R k47 47 w base (fun _ => True) v xs) : ∃ A c, v = .slice A xs.length c ∧ xs.length ≤ c ∧ Kd.C k47 w A xs.length xs := by
 obtain ⟨A0, c0, ev, hlc, hC⟩ := Kd.R_reads h
 exact ⟨A0, c0, ev, hlc, hC⟩
theorem bs_event {P : Program} {ops : Array Oper} {Q : Exit → Act → World → Prop} {rest : List Oper} {o : Oper} {a : Act} {W : World} (hgd : o.guard = none) {N : Tmp} (_hd : o.dst = some N) {cs : Array Value} {t : TypeId}
  (hrun : (execOp a.eval o).run P W = .ok (.value (.slice (some ⟨W.heap.size, 0, none⟩) 1 1)) (W.alloc (.cells cs t (0, 0))))
  (h : ∀ g, g = W.heap.size → ∀ w1, w1.heap[g]? = some (.cells cs t (0, 0)) → Below W.heap.size W w1 → wpList P ops Q rest (a.put o.dst (.slice (some ⟨g, 0, none⟩) 1 1)) w1) : wpList P ops Q (o :: rest) a W :=
 Kd.event_run hgd hrun (h _ rfl _ (blk_new W _) (below_alloc (Below.refl _ _) _))
theorem del_premise {a0 a3 a4 : ByteArray} {a1 a2 : Int} {gb : Nat} {w1 w2 : World} {v2 : Value} {l0 : List S47} (hbk : w1.heap[gb]? = some (.cells #[.string a0, .int .i64 a1, .int .i64 a2, .string a3, .string a4] 39 (0, 0))) (hb : Below w1.heap.size w1 w2) (ho : Kd.R k47 47 w2 w1.heap.size (fun _ => True) v2 l0) :
  PredOverPair 115 #[.pointer (some ⟨gb, 0, none⟩)] (fun x => affB a0 a2 a4 x.f0) w2 v2.ownBlock := by
 intro W x hg
 refine applied_affects a0 a1 a2 a3 a4 gb x W (blk_grown (blk_below hbk hb) hg ?_)
 intro e
 have h1 := R_base ho _ e.symm
 have h2 := blk_lt hbk
 omega
def AppPost (r : List S47) (w : World) (e : Ending) (w' : World) : Prop := ∃ v0_ : Value, e = .returned (v0_) ∧ Kd.R k47 47 w' w.heap.size (fun _ => True) v0_ r ∧ Below w.heap.size w w'
theorem filt_len (p : S47 → Bool) (l : List S47) (n : Nat) (h : l.length < n) : (l.filter p).length < n := by
 have := List.length_filter_le p l
 omega
set_option maxHeartbeats 4000000 in
set_option maxRecDepth 100000 in
theorem applied_other (A0 : Option Addr) (c0 : Nat) (l0 : List S47) (a0 : ByteArray) (a1 a2 : Int) (a3 a4 : ByteArray) (w : World) (hr0 : Kd.C k47 w A0 l0.length l0) (hc0 : l0.length ≤ c0) (hl : l0.length < 4398046511103) (h2 : a2 ≠ 1) :
  Calls Try.prog 66 #[.slice A0 l0.length c0, .agg #[.string a0, .int .i64 a1, .int .i64 a2, .string a3, .string a4]] w (AppPost (l0.filter (fun x => !affB a0 a2 a4 x.f0)) w) := by
 have HR0 := Aside0.mk hr0
 have HC0 := Aside0.mk hc0
 have HCL := Aside0.mk (show slices_Clone_Pair.f l0 = some l0 from if_pos (by omega))
 have hu39 := Try.underlying39
 have h2b : (a2 != 1) = true := by simp [h2]
 clear hr0 hc0 h2
 go_enter Try.func66, Try.ntmps66
 go_wp2_with (first | ((with_reducible refine gate_dst (N := 3) rfl ?_); refine box_event ?hg (N := 3) ?hd (cs := #[.string a0, .int .i64 a1, .int .i64 a2, .string a3, .string a4]) (t := 39) ?hr ?_; (case hd => rfl); (case hg => rfl); (case hr => first | (go_simp; done) | (go_simp; rfl)); intro gb hg w1 hbox hb1; have HG : Aside0 (gb = w.heap.size) := ⟨hg⟩; have HBK := Aside0.mk hbox; have HB1 := Aside0.mk hb1; clear hg hbox hb1) | ((with_reducible refine gate_callee (f := 75) rfl ?_); refine goesL_ (some 9) rfl rfl Try.func75 (by kernel_rfl) rfl #[.slice A0 l0.length c0] rfl (by (try simp only [List.map_toArray, List.map_cons, List.map_nil]); first | done | rfl) ?_; (with_reducible refine (slices_Clone_Pair.calls _ _ l0 l0 _ ?side1 ?side2 HCL.out).mono ?_); (case side1 => exact Kd.C_below HR0.out HB1.out); (case side2 => exact HC0.out); rintro e w2 ⟨v2, rfl, ho2, hb2⟩; refine ⟨_, rfl, ?_⟩; have HO2 := Aside0.mk ho2; have HB2 := Aside0.mk hb2; clear ho2 hb2) | ((with_reducible refine gate_callee (f := 114) rfl ?_); refine goesL_ (some 11) rfl rfl Try.func114 (by kernel_rfl) rfl #[v2, .func (.func 115) #[] #[.pointer (some ⟨gb, 0, none⟩)]] rfl (by (try simp only [List.map_toArray, List.map_cons, List.map_nil]); first | done | rfl) ?_; (with_reducible refine (slices_DeleteFunc_Pair.calls v2 l0 (fun x => affB a0 a2 a4 x.f0) 115 #[.pointer (some ⟨gb, 0, none⟩)] ?eg w1.heap.size _ HO2.out ?hp).mono ?_); (case eg => exact fun args w => enters_ Try.func115 (by kernel_rfl) rfl args w); (case hp => exact del_premise HBK.out HB2.out HO2.out); rintro e w3 ⟨v3, rfl, ho3, hg3, hr3⟩; refine ⟨_, rfl, ?_⟩; have HO3 := Aside0.mk ho3; have HG3 := Aside0.mk hg3; have HR3 := Aside0.mk hr3; have HBK3 : Aside0 (w3.heap[gb]? = some (.cells #[.string a0, .int .i64 a1, .int .i64 a2, .string a3, .string a4] 39 (0, 0))) := ⟨blk_grown (blk_below HBK.out HB2.out) HG3.out (fun e => by have := R_base HO2.out _ e.symm; have := blk_lt HBK.out; omega)⟩; have hcz2 : w3.cell? ⟨gb, 2, none⟩ = some (.int .i64 a2) := (blk_cell HBK3.out 2).trans rfl; clear ho3 hg3 hr3))
 go_ret
 exact ⟨_, rfl, Kd.R_lower HO3.out HB1.out.size, pw_below_grown (below_then HB1.out HB1.out.size HB2.out) _ (Nat.le_trans HB1.out.size HB2.out.size) HG3.out (fun k hk => Nat.le_trans HB1.out.size (R_base HO2.out k hk))⟩
theorem parts_le {c : S47 → Int} {l : List S47} {i : Nat} (h : Parts c l i) : i ≤ l.length := h.1
theorem parts_while {key : ByteArray} {l : List S47} {i : Nat} (h : Parts (fun x => Lib.compareBytes x.f0.data.toList key.data.toList) l i) : l.take i = l.takeWhile (lessK key) ∧ l.drop i = l.dropWhile (lessK key) := by
 refine take_while l i h.1 (fun a ha => ?_) (fun a ha hb => ?_)
 ·exact (cmp_neg _ _).1 (h.2.1 a ha)
 ·have h1 := h.2.2 a ha hb
  cases hq : lessK key (l.getD a z47) with
  | false => rfl
  | true => have := (cmp_neg _ _).2 hq; simp only at h1; omega
theorem sorted_parts (key : ByteArray) (l : List S47) (hs : l.Pairwise lessP) : ∀ a b, a < b → b < l.length → Lib.compareBytes (l.getD b z47).f0.data.toList key.data.toList < 0 → Lib.compareBytes (l.getD a z47).f0.data.toList key.data.toList < 0 := by
 intro a b hab hb h
 rw [cmp_neg] at h ⊢
 have hp := List.pairwise_iff_getElem.1 hs a b (by omega) hb hab
 have ea : l.getD a z47 = l[a] := by simp [List.getD_eq_getElem?_getD, show a < l.length by omega]
 have eb : l.getD b z47 = l[b] := by simp [List.getD_eq_getElem?_getD, hb]
 rw [eb] at h
 rw [ea]
 exact YtjamafchmeiifaaX.bytesLess_trans _ _ _ hp h
set_option maxHeartbeats 4000000 in
set_option maxRecDepth 100000 in
theorem applied_put (A0 : Option Addr) (c0 : Nat) (l0 : List S47) (a0 : ByteArray) (a1 a2 : Int) (a3 a4 : ByteArray) (w : World) (hr0 : Kd.C k47 w A0 l0.length l0) (hc0 : l0.length ≤ c0) (hl : l0.length < 4398046511103) (h2 : a2 = 1) (hs : l0.Pairwise lessP) :
  Calls Try.prog 66 #[.slice A0 l0.length c0, .agg #[.string a0, .int .i64 a1, .int .i64 a2, .string a3, .string a4]] w (AppPost ((l0.filter (fun x => !affB a0 a2 a4 x.f0)).takeWhile (lessK a0) ++ [⟨a0, a3⟩] ++ (l0.filter (fun x => !affB a0 a2 a4 x.f0)).dropWhile (lessK a0)) w) := by
 have HR0 := Aside0.mk hr0
 have HC0 := Aside0.mk hc0
 have HCL := Aside0.mk (show slices_Clone_Pair.f l0 = some l0 from if_pos (by omega))
 have hu39 := Try.underlying39
 have h2b : (a2 != 1) = false := by simp [h2]
 obtain ⟨l1, hl1⟩ : ∃ l1, l1 = l0.filter (fun x => !affB a0 a2 a4 x.f0) := ⟨_, rfl⟩
 rw [← hl1]
 have hs1 : l1.Pairwise lessP := by rw [hl1]; exact hs.filter _
 have hle1 : l1.length < 4398046511103 := by rw [hl1]; exact filt_len _ _ _ hl
 have HL1 := Aside0.mk hl1.symm
 have HS := Aside0.mk (sorted_parts a0 l1 hs1)
 have HLE := Aside0.mk hle1
 clear hr0 hc0 h2 hl1 hs1 hs hle1
 go_enter Try.func66, Try.ntmps66
 go_wp2_with (first | ((with_reducible refine gate_dst (N := 3) rfl ?_); refine box_event ?hg (N := 3) ?hd (cs := #[.string a0, .int .i64 a1, .int .i64 a2, .string a3, .string a4]) (t := 39) ?hr ?_; (case hd => rfl); (case hg => rfl); (case hr => first | (go_simp; done) | (go_simp; rfl)); intro gb hg w1 hbox hb1; have HG : Aside0 (gb = w.heap.size) := ⟨hg⟩; have HBK := Aside0.mk hbox; have HB1 := Aside0.mk hb1; clear hg hbox hb1) | ((with_reducible refine gate_callee (f := 75) rfl ?_); refine goesL_ (some 9) rfl rfl Try.func75 (by kernel_rfl) rfl #[.slice A0 l0.length c0] rfl (by (try simp only [List.map_toArray, List.map_cons, List.map_nil]); first | done | rfl) ?_; (with_reducible refine (slices_Clone_Pair.calls _ _ l0 l0 _ ?side1 ?side2 HCL.out).mono ?_); (case side1 => exact Kd.C_below HR0.out HB1.out); (case side2 => exact HC0.out); rintro e w2 ⟨v2, rfl, ho2, hb2⟩; refine ⟨_, rfl, ?_⟩; have HO2 := Aside0.mk ho2; have HB2 := Aside0.mk hb2; clear ho2 hb2) | ((with_reducible refine gate_callee (f := 114) rfl ?_); refine goesL_ (some 11) rfl rfl Try.func114 (by kernel_rfl) rfl #[v2, .func (.func 115) #[] #[.pointer (some ⟨gb, 0, none⟩)]] rfl (by (try simp only [List.map_toArray, List.map_cons, List.map_nil]); first | done | rfl) ?_; (with_reducible refine (slices_DeleteFunc_Pair.calls v2 l0 (fun x => affB a0 a2 a4 x.f0) 115 #[.pointer (some ⟨gb, 0, none⟩)] ?eg w1.heap.size _ HO2.out ?hp).mono ?_); (case eg => exact fun args w => enters_ Try.func115 (by kernel_rfl) rfl args w); (case hp => exact del_premise HBK.out HB2.out HO2.out); rintro e w3 ⟨v3, rfl, ho3, hg3, hr3⟩; refine ⟨_, rfl, ?_⟩; rw [HL1.out] at ho3; obtain ⟨A3, c3, ev3, hc3, hC3⟩ := R_len ho3; subst ev3; have HC3 := Aside0.mk hC3; clear hc3 hC3; have HO3 := Aside0.mk ho3; have HG3 := Aside0.mk hg3; have HR3 := Aside0.mk hr3; have HBK3 : Aside0 (w3.heap[gb]? = some (.cells #[.string a0, .int .i64 a1, .int .i64 a2, .string a3, .string a4] 39 (0, 0))) := ⟨blk_grown (blk_below HBK.out HB2.out) HG3.out (fun e => by have := R_base HO2.out _ e.symm; have := blk_lt HBK.out; omega)⟩; have hcz0 : w3.cell? ⟨gb, 0, none⟩ = some (.string a0) := (blk_cell HBK3.out 0).trans rfl; have hcz2 : w3.cell? ⟨gb, 2, none⟩ = some (.int .i64 a2) := (blk_cell HBK3.out 2).trans rfl; clear ho3 hg3 hr3) | ((with_reducible refine gate_callee (f := 117) rfl ?_); refine goesL_ (some 20) rfl rfl Try.func117 (by kernel_rfl) rfl #[.slice A3 l1.length c3, .string a0, .func (.func 118) #[] #[]] rfl (by (try simp only [List.map_toArray, List.map_cons, List.map_nil]); first | done | rfl) ?_; (with_reducible refine (slices_BinarySearchFunc_Pair_string.calls A3 c3 l1 a0 (fun x => Lib.compareBytes x.f0.data.toList a0.data.toList) 118 #[] ?eg _ ?hc ?hl ?hp HS.out).mono ?_); (case eg => exact fun args w => enters_ Try.func118 (by kernel_rfl) rfl args w); (case hc => repeat (first | exact HC3.out | (with_reducible refine Kd.C_drewN ?_ _) | (with_reducible refine Kd.C_drew ?_))); (case hl => have := HLE.out; omega); (case hp => exact fun W x _ => applied_cmp a0 x W); rintro e w4 ⟨i, f, rfl, hparts, hb4⟩; refine ⟨_, rfl, ?_⟩; have HPA := Aside0.mk hparts; have HB4 : Aside0 (Below w3.heap.size w3 w4) := ⟨hb4⟩; have HBK4 := Aside0.mk (blk_below HBK3.out HB4.out); have hcw0 : w4.cell? ⟨gb, 0, none⟩ = some (.string a0) := (blk_cell HBK4.out 0).trans rfl; have hcw3 : w4.cell? ⟨gb, 3, none⟩ = some (.string a3) := (blk_cell HBK4.out 3).trans rfl; clear hparts hb4) | ((with_reducible refine gate_dst (N := 30) rfl ?_); refine bs_event ?hg (N := 30) ?hd (cs := #[.string a0, .string a3]) (t := 47) ?hr ?_; (case hd => rfl); (case hg => rfl); (case hr => first | (go_simp; done) | (go_simp; rfl)); intro gx hg5 w5 hx5 hb5; have HG5 : Aside0 (gx = w4.heap.size) := ⟨hg5⟩; have HX5 := Aside0.mk hx5; have HB5 : Aside0 (Below w4.heap.size w4 w5) := ⟨hb5⟩; have HO5 := Aside0.mk (Kd.R_below (Kd.R_below HO3.out HB4.out) HB5.out); clear hg5 hx5 hb5) | ((with_reducible refine gate_callee (f := 120) rfl ?_); refine goesL_ (some 31) rfl rfl Try.func120 (by kernel_rfl) rfl #[.slice A3 l1.length c3, .int .i64 (i : Int), .slice (some ⟨gx, 0, none⟩) 1 1] rfl (by (try simp only [List.map_toArray, List.map_cons, List.map_nil]); first | done | rfl) ?_; (with_reducible refine (insert_pair (.slice A3 l1.length c3) l1 ⟨a0, a3⟩ gx i w1.heap.size _ HO5.out ?hb HLE.out HX5.out ?hgx (parts_le HPA.out)).mono ?_); (case hb => exact Nat.le_trans HB2.out.size (Nat.le_trans HG3.out.size (Nat.le_trans HB4.out.size HB5.out.size))); (case hgx => exact fun e => gx_apart HO3.out HG5.out HB4.out e); rintro e w6 ⟨v6, rfl, ho6, hg6⟩; refine ⟨_, rfl, ?_⟩; have HO6 := Aside0.mk ho6; have HG6 := Aside0.mk hg6; clear ho6 hg6))
 go_ret
 refine ⟨_, rfl, ?_, ?_⟩
 ·have hp := parts_while HPA.out
  rw [← hp.1, ← hp.2]
  exact Kd.R_lower HO6.out HB1.out.size
 ·have k1 : w.heap.size ≤ w2.heap.size := Nat.le_trans HB1.out.size HB2.out.size
  have k3 : w.heap.size ≤ w3.heap.size := Nat.le_trans k1 HG3.out.size
  have b3 : Below w.heap.size w w3 := pw_below_grown (below_then HB1.out HB1.out.size HB2.out) _ k1 HG3.out (fun k hk => Nat.le_trans HB1.out.size (R_base HO2.out k hk))
  have b5 : Below w.heap.size w w5 := below_then (below_then b3 k3 HB4.out) (Nat.le_trans k3 HB4.out.size) HB5.out
  exact pw_below_grown b5 _ (Nat.le_trans k3 (Nat.le_trans HB4.out.size HB5.out.size)) HG6.out (fun k hk => Nat.le_trans HB1.out.size (R_base HO5.out k hk))
theorem impl_applied.calls (A0 : Option Addr) (c0 : Nat) (l0 : List S47) (a0 : ByteArray) (a1 a2 : Int) (a3 a4 : ByteArray) (r : List S47) (w : World) (hr0 : Kd.C k47 w A0 l0.length l0) (hc0 : l0.length ≤ c0) (h : impl_applied.f l0 a0 a1 a2 a3 a4 = some r) :
  Calls Try.prog 66 #[.slice A0 l0.length c0, .agg #[.string a0, .int .i64 a1, .int .i64 a2, .string a3, .string a4]] w fun e w' => ∃ v0_ : Value, e = .returned (v0_) ∧ Kd.R k47 47 w' w.heap.size (fun _ => True) v0_ r ∧ Below w.heap.size w w' := by
 unfold impl_applied.f at h
 by_cases hl : l0.length < 4398046511103
 ·rw [if_pos hl] at h
  by_cases h2 : a2 = 1
  ·rw [if_pos h2] at h
   by_cases hs : l0.Pairwise lessP
   ·rw [if_pos hs] at h
    obtain rfl := Option.some.inj h
    exact applied_put A0 c0 l0 a0 a1 a2 a3 a4 w hr0 hc0 hl h2 hs
   ·rw [if_neg hs] at h
    cases h
  ·rw [if_neg h2] at h
   obtain rfl := Option.some.inj h
   exact applied_other A0 c0 l0 a0 a1 a2 a3 a4 w hr0 hc0 hl h2
 ·rw [if_neg hl] at h
  cases h
end Go.Proofs.Ytjamafchmeiifaa.F
namespace Go.Proofs.Ytjamafchmeiifaa.F
open Go.RowKit Go.Proofs.YtjamafchmeiifaaW.PrintWords Go.Proofs.YtjamafchmeiifaaW.PrintLast Go.Proofs.YtjamafchmeiifaaW.PrintMore
attribute [local go_sem] max2_int min2_int max_two min_two max_three min_three max_four min_four Go.Proofs.YtjamafchmeiifaaX.str_leq Go.Proofs.YtjamafchmeiifaaX.str_gtr Go.Proofs.YtjamafchmeiifaaX.str_geq
set_option linter.unusedVariables false
set_option linter.unusedSimpArgs false
def impl_ApplyRecord.f (k : Nat) (l0 : List (S47)) (a1_0 : ByteArray) (a1_1 : Int) (a1_2 : Int) (a1_3 : ByteArray) (a1_4 : ByteArray) : Option ((List (S47)) × Int) := (impl_pairsOk.f k l0).bind fun t234 => (if t234 = true then ((impl_ValidRecord.f k a1_0 a1_1 a1_2 a1_3 a1_4).bind fun t235 => (if t235 = true then ((impl_applied.f l0 a1_0 a1_1 a1_2 a1_3 a1_4).bind fun t236 => (some (t236, 0))) else (some (([] : List (S47)), 1)))) else (some (([] : List (S47)), 1)))
set_option maxHeartbeats 8000000 in
set_option maxRecDepth 100000 in
theorem impl_ApplyRecord.calls (k : Nat) (A0 : Option Addr) (c0 : Nat) (l0 : List (S47)) (a1_0 : ByteArray) (a1_1 : Int) (a1_2 : Int) (a1_3 : ByteArray) (a1_4 : ByteArray) (r1 : List (S47)) (r2 : Int) (w : World) (hr0 : Kd.C k47 w A0 l0.length l0) (hc0 : l0.length ≤ c0) (h : impl_ApplyRecord.f k l0 a1_0 a1_1 a1_2 a1_3 a1_4 = some (r1, r2)) :
  Calls Try.prog 20 #[.slice A0 l0.length c0, .agg #[.string a1_0, .int .i64 a1_1, .int .i64 a1_2, .string a1_3, .string a1_4]] w fun e w' => ∃ v0_ : Value, e = .returned (.tuple #[v0_, .int .i64 r2]) ∧ Kd.R k47 47 w' w.heap.size (fun _ => True) v0_ r1 ∧ Below w.heap.size w w' := by
 have hu39 := Try.underlying39
 have HR0 := Aside0.mk hr0
 have HC0 := Aside0.mk hc0
 clear hr0 hc0
 have HB := Aside0.mk (Below.refl w.heap.size w)
 have H : ((impl_pairsOk.f k l0).bind fun t234 => (if t234 = true then ((impl_ValidRecord.f k a1_0 a1_1 a1_2 a1_3 a1_4).bind fun t235 => (if t235 = true then ((impl_applied.f l0 a1_0 a1_1 a1_2 a1_3 a1_4).bind fun t236 => (some (t236, 0))) else (some (([] : List (S47)), 1)))) else (some (([] : List (S47)), 1)))) = some (r1, r2) := h
 clear h
 replace H := Option.bind_eq_some_iff.mp H
 obtain ⟨t234, A30, H⟩ := H
 replace H : (if t234 = true then ((impl_ValidRecord.f k a1_0 a1_1 a1_2 a1_3 a1_4).bind fun t235 => (if t235 = true then ((impl_applied.f l0 a1_0 a1_1 a1_2 a1_3 a1_4).bind fun t236 => (some (t236, 0))) else (some (([] : List (S47)), 1)))) else (some (([] : List (S47)), 1))) = some (r1, r2) := H
 have A3 := Aside0.mk A30
 clear A30
 by_cases c4 : t234 = true
 ·subst c4
  have H1 : ((impl_ValidRecord.f k a1_0 a1_1 a1_2 a1_3 a1_4).bind fun t235 => (if t235 = true then ((impl_applied.f l0 a1_0 a1_1 a1_2 a1_3 a1_4).bind fun t236 => (some (t236, 0))) else (some (([] : List (S47)), 1)))) = some (r1, r2) := by rw [if_pos rfl] at H; exact H
  clear H
  have H := H1
  clear H1
  replace H := Option.bind_eq_some_iff.mp H
  obtain ⟨t235, A50, H⟩ := H
  replace H : (if t235 = true then ((impl_applied.f l0 a1_0 a1_1 a1_2 a1_3 a1_4).bind fun t236 => (some (t236, 0))) else (some (([] : List (S47)), 1))) = some (r1, r2) := H
  have A5 := Aside0.mk A50
  clear A50
  by_cases c6 : t235 = true
  ·subst c6
   have H1 : ((impl_applied.f l0 a1_0 a1_1 a1_2 a1_3 a1_4).bind fun t236 => (some (t236, 0))) = some (r1, r2) := by rw [if_pos rfl] at H; exact H
   clear H
   have H := H1
   clear H1
   replace H := Option.bind_eq_some_iff.mp H
   obtain ⟨t236, A70, H⟩ := H
   replace H : (some (t236, 0)) = some (r1, r2) := H
   have A7 := Aside0.mk A70
   clear A70
   simp only [Option.some.injEq, Prod.mk.injEq] at H
   obtain ⟨rfl, rfl⟩ := H
   go_enter Try.func20, Try.ntmps20
   go_wp2_with (first | ((with_reducible refine gate_dst (N := 3) rfl ?_); refine box_event ?hg (N := 3) ?hd (cs := #[.string a1_0, .int .i64 a1_1, .int .i64 a1_2, .string a1_3, .string a1_4]) (t := 39) ?hr ?_; (case hd => rfl); (case hg => rfl); (case hr => first | (go_simp; done) | (go_simp; rfl)); intro gb233 hg w8 hbox hb; have n0_ := Aside0.mk (below_step (by repeat (first | (with_reducible first | exact HB.out | apply below_alloc | apply pw_below_drewN | apply below_drew1) | exact HB.out)) hb); have n1_ := Aside0.mk (hbox); have n2_ := Aside0.mk ((by rw [hg]; exact (below_size (by repeat (first | (with_reducible first | exact HB.out | apply below_alloc | apply pw_below_drewN | apply below_drew1) | exact HB.out))) : w.heap.size ≤ gb233)); have n3_ := Aside0.mk ((by rw [hg]; exact (below_size (by repeat (first | (with_reducible first | exact HB.out | apply below_alloc | apply pw_below_drewN | apply below_drew1) | exact HB.out))) : w.heap.size ≤ gb233)); clear HB; have HB := n0_; have BK233 := n1_; have GW233 := n2_; have GE233 := n3_; clear n0_ n1_ n2_ n3_; clear hb hbox hg) | ((with_reducible refine gate_callee (f := 64) rfl ?_); refine goesL_ (some 7) rfl rfl Try.func64 (by kernel_rfl) rfl #[.slice A0 l0.length c0] rfl (by (try simp only [List.map_toArray, List.map_cons, List.map_nil]); first | done | rfl | (simp only [List.length_drop, List.length_take]; rfl)) ?_; (with_reducible refine (impl_pairsOk.calls k _ _ l0 true _ ?side1 ?side2 A3.out).mono ?_); (case side1 => repeat (first | exact (Kd.C_below HR0.out HB.out) | (with_reducible refine Kd.C_alloc ?_ _) | (with_reducible refine Kd.C_drewN ?_ _) | (with_reducible refine Kd.C_drew ?_))); (case side2 => exact HC0.out); rintro e w9 ⟨rfl, hb⟩; refine ⟨_, rfl, ?_⟩; have n0_ := Aside0.mk (blk_below (g := gb233) (o := .cells #[.string a1_0, .int .i64 a1_1, .int .i64 a1_2, .string a1_3, .string a1_4] 39 (0, 0)) (by (with_reducible repeat (first | refine blk_drewN ?_ _ | refine blk_drew ?_ | refine blk_alloc ?_ _)); exact BK233.out) hb); have n1_ := Aside0.mk (below_step (by repeat (first | (with_reducible first | exact HB.out | apply below_alloc | apply pw_below_drewN | apply below_drew1 | refine below_set ?_ GE233.out) | exact HB.out)) hb); clear BK233; clear HB; have BK233 := n0_; have HB := n1_; clear n0_ n1_; (try clear hb); (try clear hb2); (try clear hk); (try clear hi); have hcz10_0 : w9.cell? ⟨gb233, 0, none⟩ = some (.string a1_0) := (blk_cell BK233.out 0).trans rfl; have hcz10_1 : w9.cell? ⟨gb233, 1, none⟩ = some (.int .i64 a1_1) := (blk_cell BK233.out 1).trans rfl; have hcz10_2 : w9.cell? ⟨gb233, 2, none⟩ = some (.int .i64 a1_2) := (blk_cell BK233.out 2).trans rfl; have hcz10_3 : w9.cell? ⟨gb233, 3, none⟩ = some (.string a1_3) := (blk_cell BK233.out 3).trans rfl; have hcz10_4 : w9.cell? ⟨gb233, 4, none⟩ = some (.string a1_4) := (blk_cell BK233.out 4).trans rfl; have hfz10_0 := blk_frozen BK233.out 0; have hfz10_1 := blk_frozen BK233.out 1; have hfz10_2 := blk_frozen BK233.out 2; have hfz10_3 := blk_frozen BK233.out 3; have hfz10_4 := blk_frozen BK233.out 4) | (go_at_call 65; (with_reducible refine (impl_ValidRecord.calls k a1_0 a1_1 a1_2 a1_3 a1_4 true _ A5.out).mono ?_); rintro e w11 ⟨rfl, hb⟩; have n0_ := Aside0.mk (blk_below (g := gb233) (o := .cells #[.string a1_0, .int .i64 a1_1, .int .i64 a1_2, .string a1_3, .string a1_4] 39 (0, 0)) (by (with_reducible repeat (first | refine blk_drewN ?_ _ | refine blk_drew ?_ | refine blk_alloc ?_ _)); exact BK233.out) hb); have n1_ := Aside0.mk (below_step (by repeat (first | (with_reducible first | exact HB.out | apply below_alloc | apply pw_below_drewN | apply below_drew1 | refine below_set ?_ GE233.out) | exact HB.out)) hb); clear BK233; clear HB; have BK233 := n0_; have HB := n1_; clear n0_ n1_; (try clear hb); (try clear hb2); (try clear hk); (try clear hi); have hcz12_0 : w11.cell? ⟨gb233, 0, none⟩ = some (.string a1_0) := (blk_cell BK233.out 0).trans rfl; have hcz12_1 : w11.cell? ⟨gb233, 1, none⟩ = some (.int .i64 a1_1) := (blk_cell BK233.out 1).trans rfl; have hcz12_2 : w11.cell? ⟨gb233, 2, none⟩ = some (.int .i64 a1_2) := (blk_cell BK233.out 2).trans rfl; have hcz12_3 : w11.cell? ⟨gb233, 3, none⟩ = some (.string a1_3) := (blk_cell BK233.out 3).trans rfl; have hcz12_4 : w11.cell? ⟨gb233, 4, none⟩ = some (.string a1_4) := (blk_cell BK233.out 4).trans rfl; have hfz12_0 := blk_frozen BK233.out 0; have hfz12_1 := blk_frozen BK233.out 1; have hfz12_2 := blk_frozen BK233.out 2; have hfz12_3 := blk_frozen BK233.out 3; have hfz12_4 := blk_frozen BK233.out 4) | ((with_reducible refine gate_callee (f := 66) rfl ?_); refine goesL_ (some 16) rfl rfl Try.func66 (by kernel_rfl) rfl #[.slice A0 l0.length c0, .agg #[.string a1_0, .int .i64 a1_1, .int .i64 a1_2, .string a1_3, .string a1_4]] rfl (by (try simp only [List.map_toArray, List.map_cons, List.map_nil]); first | done | rfl | (simp only [List.length_drop, List.length_take]; rfl)) ?_; (with_reducible refine (impl_applied.calls _ _ l0 a1_0 a1_1 a1_2 a1_3 a1_4 t236 _ ?side1 ?side2 A7.out).mono ?_); (case side1 => repeat (first | exact (Kd.C_below HR0.out HB.out) | (with_reducible refine Kd.C_alloc ?_ _) | (with_reducible refine Kd.C_drewN ?_ _) | (with_reducible refine Kd.C_drew ?_))); (case side2 => exact HC0.out); rintro e w13 ⟨v237, rfl, ho0, hb⟩; refine ⟨_, rfl, ?_⟩; have n0_ := Aside0.mk (Kd.R_lower ho0 (below_size (by repeat (first | (with_reducible first | exact HB.out | apply below_alloc | apply pw_below_drewN | apply below_drew1 | refine below_set ?_ GE233.out) | exact HB.out)))); have n1_ := Aside0.mk (blk_below (g := gb233) (o := .cells #[.string a1_0, .int .i64 a1_1, .int .i64 a1_2, .string a1_3, .string a1_4] 39 (0, 0)) (by (with_reducible repeat (first | refine blk_drewN ?_ _ | refine blk_drew ?_ | refine blk_alloc ?_ _)); exact BK233.out) hb); have n2_ := Aside0.mk (below_step (by repeat (first | (with_reducible first | exact HB.out | apply below_alloc | apply pw_below_drewN | apply below_drew1 | refine below_set ?_ GE233.out) | exact HB.out)) hb); clear BK233; clear HB; have HO238 := n0_; have BK233 := n1_; have HB := n2_; clear n0_ n1_ n2_; (try clear hb); (try clear hb2); (try clear hk); (try clear hi); (try clear ho0)))
   go_ret2
   exact ⟨_, by first | rfl | (simp [errW_none, errW_some] <;> rfl) | (simp [*, errW_none, errW_some] <;> rfl), by (with_reducible repeat (first | apply Kd.R_alloc | apply Kd.R_drewN | apply Kd.R_drew)); exact HO238.out, by repeat (first | (with_reducible first | exact HB.out | apply below_alloc | apply pw_below_drewN | apply below_drew1 | refine below_set ?_ GE233.out) | exact HB.out)⟩
  ·replace c6 := Bool.eq_false_iff.mpr c6
   subst c6
   have H1 : (some (([] : List (S47)), 1)) = some (r1, r2) := by rw [if_neg (show ¬ (false = true) by decide)] at H; exact H
   clear H
   have H := H1
   clear H1
   simp only [Option.some.injEq, Prod.mk.injEq] at H
   obtain ⟨rfl, rfl⟩ := H
   go_enter Try.func20, Try.ntmps20
   go_wp2_with (first | ((with_reducible refine gate_dst (N := 3) rfl ?_); refine box_event ?hg (N := 3) ?hd (cs := #[.string a1_0, .int .i64 a1_1, .int .i64 a1_2, .string a1_3, .string a1_4]) (t := 39) ?hr ?_; (case hd => rfl); (case hg => rfl); (case hr => first | (go_simp; done) | (go_simp; rfl)); intro gb233 hg w14 hbox hb; have n0_ := Aside0.mk (below_step (by repeat (first | (with_reducible first | exact HB.out | apply below_alloc | apply pw_below_drewN | apply below_drew1) | exact HB.out)) hb); have n1_ := Aside0.mk (hbox); have n2_ := Aside0.mk ((by rw [hg]; exact (below_size (by repeat (first | (with_reducible first | exact HB.out | apply below_alloc | apply pw_below_drewN | apply below_drew1) | exact HB.out))) : w.heap.size ≤ gb233)); have n3_ := Aside0.mk ((by rw [hg]; exact (below_size (by repeat (first | (with_reducible first | exact HB.out | apply below_alloc | apply pw_below_drewN | apply below_drew1) | exact HB.out))) : w.heap.size ≤ gb233)); clear HB; have HB := n0_; have BK233 := n1_; have GW233 := n2_; have GE233 := n3_; clear n0_ n1_ n2_ n3_; clear hb hbox hg) | ((with_reducible refine gate_callee (f := 64) rfl ?_); refine goesL_ (some 7) rfl rfl Try.func64 (by kernel_rfl) rfl #[.slice A0 l0.length c0] rfl (by (try simp only [List.map_toArray, List.map_cons, List.map_nil]); first | done | rfl | (simp only [List.length_drop, List.length_take]; rfl)) ?_; (with_reducible refine (impl_pairsOk.calls k _ _ l0 true _ ?side1 ?side2 A3.out).mono ?_); (case side1 => repeat (first | exact (Kd.C_below HR0.out HB.out) | (with_reducible refine Kd.C_alloc ?_ _) | (with_reducible refine Kd.C_drewN ?_ _) | (with_reducible refine Kd.C_drew ?_))); (case side2 => exact HC0.out); rintro e w15 ⟨rfl, hb⟩; refine ⟨_, rfl, ?_⟩; have n0_ := Aside0.mk (blk_below (g := gb233) (o := .cells #[.string a1_0, .int .i64 a1_1, .int .i64 a1_2, .string a1_3, .string a1_4] 39 (0, 0)) (by (with_reducible repeat (first | refine blk_drewN ?_ _ | refine blk_drew ?_ | refine blk_alloc ?_ _)); exact BK233.out) hb); have n1_ := Aside0.mk (below_step (by repeat (first | (with_reducible first | exact HB.out | apply below_alloc | apply pw_below_drewN | apply below_drew1 | refine below_set ?_ GE233.out) | exact HB.out)) hb); clear BK233; clear HB; have BK233 := n0_; have HB := n1_; clear n0_ n1_; (try clear hb); (try clear hb2); (try clear hk); (try clear hi); have hcz16_0 : w15.cell? ⟨gb233, 0, none⟩ = some (.string a1_0) := (blk_cell BK233.out 0).trans rfl; have hcz16_1 : w15.cell? ⟨gb233, 1, none⟩ = some (.int .i64 a1_1) := (blk_cell BK233.out 1).trans rfl; have hcz16_2 : w15.cell? ⟨gb233, 2, none⟩ = some (.int .i64 a1_2) := (blk_cell BK233.out 2).trans rfl; have hcz16_3 : w15.cell? ⟨gb233, 3, none⟩ = some (.string a1_3) := (blk_cell BK233.out 3).trans rfl; have hcz16_4 : w15.cell? ⟨gb233, 4, none⟩ = some (.string a1_4) := (blk_cell BK233.out 4).trans rfl; have hfz16_0 := blk_frozen BK233.out 0; have hfz16_1 := blk_frozen BK233.out 1; have hfz16_2 := blk_frozen BK233.out 2; have hfz16_3 := blk_frozen BK233.out 3; have hfz16_4 := blk_frozen BK233.out 4) | (go_at_call 65; (with_reducible refine (impl_ValidRecord.calls k a1_0 a1_1 a1_2 a1_3 a1_4 false _ A5.out).mono ?_); rintro e w17 ⟨rfl, hb⟩; have n0_ := Aside0.mk (blk_below (g := gb233) (o := .cells #[.string a1_0, .int .i64 a1_1, .int .i64 a1_2, .string a1_3, .string a1_4] 39 (0, 0)) (by (with_reducible repeat (first | refine blk_drewN ?_ _ | refine blk_drew ?_ | refine blk_alloc ?_ _)); exact BK233.out) hb); have n1_ := Aside0.mk (below_step (by repeat (first | (with_reducible first | exact HB.out | apply below_alloc | apply pw_below_drewN | apply below_drew1 | refine below_set ?_ GE233.out) | exact HB.out)) hb); clear BK233; clear HB; have BK233 := n0_; have HB := n1_; clear n0_ n1_; (try clear hb); (try clear hb2); (try clear hk); (try clear hi)))
   go_ret2
   exact ⟨_, by first | rfl | (simp [errW_none, errW_some] <;> rfl) | (simp [*, errW_none, errW_some] <;> rfl), by first | exact Kd.R_nil _ _ _ _ _ | exact Kd.N_nil _ _ _ _ _ | exact Kd.V_nil _ _ _ _ _ | exact Kd.Q_nil _ _ _ _ _ | exact Kd.S_nil _ _ _ _ _, by repeat (first | (with_reducible first | exact HB.out | apply below_alloc | apply pw_below_drewN | apply below_drew1 | refine below_set ?_ GE233.out) | exact HB.out)⟩
 ·replace c4 := Bool.eq_false_iff.mpr c4
  subst c4
  have H1 : (some (([] : List (S47)), 1)) = some (r1, r2) := by rw [if_neg (show ¬ (false = true) by decide)] at H; exact H
  clear H
  have H := H1
  clear H1
  simp only [Option.some.injEq, Prod.mk.injEq] at H
  obtain ⟨rfl, rfl⟩ := H
  go_enter Try.func20, Try.ntmps20
  go_wp2_with (first | ((with_reducible refine gate_dst (N := 3) rfl ?_); refine box_event ?hg (N := 3) ?hd (cs := #[.string a1_0, .int .i64 a1_1, .int .i64 a1_2, .string a1_3, .string a1_4]) (t := 39) ?hr ?_; (case hd => rfl); (case hg => rfl); (case hr => first | (go_simp; done) | (go_simp; rfl)); intro gb233 hg w18 hbox hb; have n0_ := Aside0.mk (below_step (by repeat (first | (with_reducible first | exact HB.out | apply below_alloc | apply pw_below_drewN | apply below_drew1) | exact HB.out)) hb); have n1_ := Aside0.mk (hbox); have n2_ := Aside0.mk ((by rw [hg]; exact (below_size (by repeat (first | (with_reducible first | exact HB.out | apply below_alloc | apply pw_below_drewN | apply below_drew1) | exact HB.out))) : w.heap.size ≤ gb233)); have n3_ := Aside0.mk ((by rw [hg]; exact (below_size (by repeat (first | (with_reducible first | exact HB.out | apply below_alloc | apply pw_below_drewN | apply below_drew1) | exact HB.out))) : w.heap.size ≤ gb233)); clear HB; have HB := n0_; have BK233 := n1_; have GW233 := n2_; have GE233 := n3_; clear n0_ n1_ n2_ n3_; clear hb hbox hg) | ((with_reducible refine gate_callee (f := 64) rfl ?_); refine goesL_ (some 7) rfl rfl Try.func64 (by kernel_rfl) rfl #[.slice A0 l0.length c0] rfl (by (try simp only [List.map_toArray, List.map_cons, List.map_nil]); first | done | rfl | (simp only [List.length_drop, List.length_take]; rfl)) ?_; (with_reducible refine (impl_pairsOk.calls k _ _ l0 false _ ?side1 ?side2 A3.out).mono ?_); (case side1 => repeat (first | exact (Kd.C_below HR0.out HB.out) | (with_reducible refine Kd.C_alloc ?_ _) | (with_reducible refine Kd.C_drewN ?_ _) | (with_reducible refine Kd.C_drew ?_))); (case side2 => exact HC0.out); rintro e w19 ⟨rfl, hb⟩; refine ⟨_, rfl, ?_⟩; have n0_ := Aside0.mk (blk_below (g := gb233) (o := .cells #[.string a1_0, .int .i64 a1_1, .int .i64 a1_2, .string a1_3, .string a1_4] 39 (0, 0)) (by (with_reducible repeat (first | refine blk_drewN ?_ _ | refine blk_drew ?_ | refine blk_alloc ?_ _)); exact BK233.out) hb); have n1_ := Aside0.mk (below_step (by repeat (first | (with_reducible first | exact HB.out | apply below_alloc | apply pw_below_drewN | apply below_drew1 | refine below_set ?_ GE233.out) | exact HB.out)) hb); clear BK233; clear HB; have BK233 := n0_; have HB := n1_; clear n0_ n1_; (try clear hb); (try clear hb2); (try clear hk); (try clear hi)))
  go_ret2
  exact ⟨_, by first | rfl | (simp [errW_none, errW_some] <;> rfl) | (simp [*, errW_none, errW_some] <;> rfl), by first | exact Kd.R_nil _ _ _ _ _ | exact Kd.N_nil _ _ _ _ _ | exact Kd.V_nil _ _ _ _ _ | exact Kd.Q_nil _ _ _ _ _ | exact Kd.S_nil _ _ _ _ _, by repeat (first | (with_reducible first | exact HB.out | apply below_alloc | apply pw_below_drewN | apply below_drew1 | refine below_set ?_ GE233.out) | exact HB.out)⟩
mutual
def impl_StatesAfter.l0 : Nat → List (S47) → List (List (S47)) → List (List (S39)) → Int → Int → Option ((List (List (S47))))
 | 0, _, _, _, _, _ => none
 | k + 1, x0, x5, x15, x16, x17 => if x17 < x16 then (if 0 ≤ x17 then (if x17 < (x15.length : Int) then (impl_StatesAfter.l1 k x0 x5 x15 x16 x17 (rd_L7 x15 x17) ((rd_L7 x15 x17).length : Int) 0) else (none)) else (none)) else (some x5)
def impl_StatesAfter.l1 : Nat → List (S47) → List (List (S47)) → List (List (S39)) → Int → Int → List (S39) → Int → Int → Option ((List (List (S47))))
 | 0, _, _, _, _, _, _, _, _ => none
 | k + 1, x0, x5, x15, x16, x17, x21, x22, x23 => if x23 < x22 then (if 0 ≤ x23 then (if x23 < (x21.length : Int) then ((impl_ApplyRecord.f k x0 ((rd_T39 x21 x23).f0) 1 ((rd_T39 x21 x23).f2) ((rd_T39 x21 x23).f3) ((rd_T39 x21 x23).f4)).bind fun bt248 => (if bt248.2 = 0 then (impl_StatesAfter.l1 k bt248.1 x5 x15 x16 x17 x21 x22 (wrap64 (x23 + 1))) else (some ([] : List (List (S47)))))) else (none)) else (none)) else ((slices_Clone_Pair.f x0).bind fun t252 => (if x5.length < 5864062014805 then (impl_StatesAfter.l0 k x0 (x5 ++ [t252]) x15 x16 (wrap64 (x17 + 1))) else (none)))
end
def impl_StatesAfter.f (k : Nat) (l0 : List (S47)) (l1 : List (List (S39))) : Option ((List (List (S47)))) := (slices_Clone_Pair.f l0).bind fun t239 => (impl_StatesAfter.l0 k l0 (([t239] : List (List (S47)))) l1 (l1.length : Int) 0)
set_option maxHeartbeats 8000000 in
set_option maxRecDepth 100000 in
theorem impl_StatesAfter.calls (k : Nat) (P0_ : Nat → Prop) (A0 : Option Addr) (c0 : Nat) (l0 : List (S47)) (A1 : Option Addr) (c1 : Nat) (l1 : List (List (S39))) (r : List (List (S47))) (w : World) (hs0 : Kd.V k47 47 w w.heap.size (fun k_ => P0_ k_) (.slice A0 l0.length c0) l0) (hr1 : Kd.C (Kd.slice 39 k39) w A1 l1.length l1) (hc1 : l1.length ≤ c1) (h : impl_StatesAfter.f k l0 l1 = some r) :
  Calls Try.prog 28 #[.slice A0 l0.length c0, .slice A1 l1.length c1] w fun e w' => ∃ v0_ : Value, e = .returned (v0_) ∧ Kd.N (Kd.slice 47 k47) 27 w' w.heap.size (fun k_ => (P0_ k_ ∨ w.heap.size ≤ k_)) v0_ r ∧ Below w.heap.size w w' := by
 have hu39 := Try.underlying39
 have HO0 := Aside0.mk (show Kd.V k47 47 w w.heap.size (fun k_ => (P0_ k_ ∨ w.heap.size ≤ k_)) (.slice A0 l0.length c0) l0 from Kd.V_mono hs0 (fun k_ hk => .inl hk))
 have HR1 := Aside0.mk hr1
 have HC1 := Aside0.mk hc1
 clear hr1 hc1
 have HB := Aside0.mk (Below.refl w.heap.size w)
 have H : ((slices_Clone_Pair.f l0).bind fun t239 => (impl_StatesAfter.l0 k l0 (([t239] : List (List (S47)))) l1 (l1.length : Int) 0)) = some r := h
 clear h
 replace H := Option.bind_eq_some_iff.mp H
 obtain ⟨t239, A30, H⟩ := H
 replace H : (impl_StatesAfter.l0 k l0 (([t239] : List (List (S47)))) l1 (l1.length : Int) 0) = some r := H
 have A3 := Aside0.mk A30
 clear A30
 obtain ⟨y242, hy242⟩ : ∃ y_ : List (List (S47)), y_ = (([t239] : List (List (S47)))) := ⟨_, rfl⟩
 replace H : (impl_StatesAfter.l0 k l0 y242 l1 (l1.length : Int) 0) = some r := by first | (rw [hy242]; with_reducible exact H) | (have H2_ := (Option.bind_some _ _).symm.trans H; rw [hy242]; with_reducible exact H2_) | (have H2_ := (Option.bind_some _ _).symm.trans H; with_reducible exact H2_) | with_reducible exact H | (rw [hy242]; exact H) | exact H
 have Ny242 := Aside0.mk hy242
 clear hy242
 have H' := Aside0.mk H
 clear H
 go_enter Try.func28, Try.ntmps28
 go_wp2_with (first | ((with_reducible refine gate_callee (f := 75) rfl ?_); refine goesL_ (some 13) rfl rfl Try.func75 (by kernel_rfl) rfl #[.slice A0 l0.length c0] rfl (by (try simp only [List.map_toArray, List.map_cons, List.map_nil]); first | done | rfl | (simp only [List.length_drop, List.length_take]; rfl)) ?_; (with_reducible refine (slices_Clone_Pair.calls _ _ l0 t239 _ ?side1 ?side2 A3.out).mono ?_); (case side1 => repeat (first | exact (Kd.V_reads' HO0.out).2.2 | (with_reducible refine Kd.C_alloc ?_ _) | (with_reducible refine Kd.C_drewN ?_ _) | (with_reducible refine Kd.C_drew ?_))); (case side2 => exact (Kd.V_reads' HO0.out).2.1); rintro e w4 ⟨v240, rfl, ho0, hb⟩; refine ⟨_, rfl, ?_⟩; have n0_ := Aside0.mk (Kd.V_elder' (by (with_reducible repeat (first | apply Kd.V_alloc | apply Kd.V_drewN | apply Kd.V_drew)); exact HO0.out) (Kd.R_base ho0) hb); have n1_ := Aside0.mk (Kd.R_lower (Kd.R_newM (M := fun k_ => (w.heap.size ≤ k_)) ho0 (below_size (by repeat (first | (with_reducible first | exact HB.out | apply below_alloc | apply pw_below_drewN | apply below_drew1) | exact HB.out))) (fun k_ h_ => h_)) (below_size (by repeat (first | (with_reducible first | exact HB.out | apply below_alloc | apply pw_below_drewN | apply below_drew1) | exact HB.out)))); have n2_ := Aside0.mk (below_step (by repeat (first | (with_reducible first | exact HB.out | apply below_alloc | apply pw_below_drewN | apply below_drew1) | exact HB.out)) hb); clear HO0; clear HB; have HO0 := n0_; have HO241 := n1_; have HB := n2_; clear n0_ n1_ n2_; (try clear hb); (try clear hb2); (try clear hk); (try clear hi); (try clear ho0); obtain ⟨Ao5, co5, eo5⟩ := Kd.R_slice HO241.out; subst eo5) | ((with_reducible refine gate_dst (N := 14) rfl ?_); refine Kd.N_lit (Kd.slice 47 k47) _ 27 ?hg (N' := 14) ?hd (xs := ([t239] : List (List (S47)))) (inner := [.slice Ao5 t239.length co5]) (ok := (fun k_ => (P0_ k_ ∨ w.heap.size ≤ k_))) (okp := (fun k_ => (P0_ k_ ∨ w.heap.size ≤ k_))) ?hr ?hp (fun _ hk => hk) ((show ∀ k_, w4.heap.size ≤ k_ → (fun k_ => (P0_ k_ ∨ w.heap.size ≤ k_)) k_ from fun k_ hk => (.inr (Nat.le_trans (below_size (by repeat (first | (with_reducible first | exact HB.out | apply below_alloc | apply pw_below_drewN | apply below_drew1) | exact HB.out))) hk))) _ (Nat.le_refl _)) (Below.refl _ _) (Nat.le_refl _) (by simp) ?_; (case hd => rfl); (case hg => rfl); (case hr => first | (go_simp; done) | (go_simp; rfl)); (case hp => exact (Reps.one (show Kd.FK (Kd.slice 47 k47) _ _ t239 [.slice Ao5 t239.length co5] from (Kd.FK_slice_mk (Kd.R_reads' (Kd.R_mono (ok' := (fun k_ => (P0_ k_ ∨ w.heap.size ≤ k_))) (HO241.out) (fun k_ hk => (.inr (hk.1))))).2.1 (Kd.R_F (Kd.R_mono (ok' := (fun k_ => (P0_ k_ ∨ w.heap.size ≤ k_))) (HO241.out) (fun k_ hk => (.inr (hk.1))))))) (Reps.none _ _))); intro v243 w6 ho7 hb hg_ hnew_; clear hg_ hnew_; (first | rw [← Ny242.out] at ho7 | (simp only [Int.reduceToNat] at ho7; rw [← Ny242.out] at ho7)); have n0_ := Aside0.mk (Kd.V_elder' (by (with_reducible repeat (first | apply Kd.V_alloc | apply Kd.V_drewN | apply Kd.V_drew)); exact HO0.out) (Kd.N_base ho7) hb); have n1_ := Aside0.mk (Kd.N_lower ho7 (below_size (by repeat (first | (with_reducible first | exact HB.out | apply below_alloc | apply pw_below_drewN | apply below_drew1) | exact HB.out)))); have n2_ := Aside0.mk (below_step (by repeat (first | (with_reducible first | exact HB.out | apply below_alloc | apply pw_below_drewN | apply below_drew1) | exact HB.out)) hb); clear HO0; clear HB; clear HO241; have HO0 := n0_; have HO244 := n1_; have HB := n2_; clear n0_ n1_ n2_; clear hb ho7))
 go_loopg [0, 5, 17] k (fun kq v0 v5 v17 w' => ∃ (x0_1 : List (S47)) (x5_1 : List (List (S47))) (x17_1 : Int), v17 = .int .i64 x17_1 ∧ Aside0 (impl_StatesAfter.l0 kq x0_1 x5_1 l1 (l1.length : Int) x17_1 = some r) ∧ Aside0 (kq ≤ k) ∧ Aside0 (Kd.V k47 47 w' w.heap.size (fun k_ => (P0_ k_ ∨ w.heap.size ≤ k_) ∧ some k_ ≠ (v5 : Value).ownBlock) v0 x0_1) ∧ Aside0 (Kd.N (Kd.slice 47 k47) 27 w' w.heap.size (fun k_ => (P0_ k_ ∨ w.heap.size ≤ k_)) v5 x5_1) ∧ Aside0 (Below w.heap.size w w'))
 case atStart => exact ⟨(l0), (y242), (0), (by first | rfl | (simp; done) | (simp [*]; done)), H', ⟨Nat.le_refl _⟩, ⟨by (with_reducible repeat (first | apply Kd.V_alloc | apply Kd.V_drewN | apply Kd.V_drew)); exact Kd.V_mono HO0.out (fun _ hk => ⟨hk.1.1, hk.2⟩)⟩, ⟨by (with_reducible repeat (first | apply Kd.N_alloc | apply Kd.N_drewN | apply Kd.N_drew)); exact HO244.out⟩, ⟨by repeat (first | (with_reducible first | exact HB.out | apply below_alloc | apply pw_below_drewN | apply below_drew1) | exact HB.out)⟩⟩
 case round =>
  clear H'
  try clear c1
  try clear c2
  try clear p2
  try clear c7
  obtain ⟨x0_1, x5_1, x17_1, rfl, HA, HK1, HO_0, HO_5, HB⟩ := hrel
  cases gk with
  | zero => exact absurd HA.out (by simp [impl_StatesAfter.l0])
  | succ k1 =>
   have H := HA.out
   clear HA
   simp only [impl_StatesAfter.l0] at H
   by_cases c8 : x17_1 < (l1.length : Int)
   ·rw [if_pos c8] at H
    have c8b0 : decide (x17_1 < (l1.length : Int)) = true := decide_eq_true c8
    clear c8
    by_cases c9 : 0 ≤ x17_1
    ·rw [if_pos c9] at H
     have c9b0 : decide (0 ≤ x17_1) = true := decide_eq_true c9
     clear c9
     by_cases c10 : x17_1 < (l1.length : Int)
     ·rw [if_pos c10] at H
      have c10b0 : decide (x17_1 < (l1.length : Int)) = true := decide_eq_true c10
      clear c10
      have H' := Aside0.mk H
      clear H
      have p245 : 0 ≤ (x17_1 : Int) := of_decide_eq_true (by first | (with_reducible assumption) | assumption)
      have q245 : x17_1 < (l1.length : Int) := of_decide_eq_true (by first | (with_reducible assumption) | assumption)
      obtain ⟨ad245, A245_0, c245_0, e245, hx245_0, hl245_0, hi245_0⟩ := at_L7 HR1.out x17_1 p245 q245
      cases e245
      replace hx245_0 := (HB.out.cell (World.block_lt_of_cell? w _ hx245_0)).trans hx245_0
      have HR245_0 := Aside0.mk hi245_0
      have HC245_0 := Aside0.mk hl245_0
      clear hi245_0 hl245_0
      replace p245 := eq_true p245
      replace q245 := eq_true q245
      go_wp2
      go_loopg [0, 23] k1 (fun kq v0 v23 w' => ∃ (x0_2 : List (S47)) (x23_2 : Int), v23 = .int .i64 x23_2 ∧ Aside0 (impl_StatesAfter.l1 kq x0_2 x5_1 l1 (l1.length : Int) x17_1 (rd_L7 l1 x17_1) ((rd_L7 l1 x17_1).length : Int) x23_2 = some r) ∧ Aside0 (kq ≤ k1) ∧ Aside0 (Kd.V k47 47 w' w.heap.size (fun k_ => (P0_ k_ ∨ w.heap.size ≤ k_) ∧ some k_ ≠ (u5 : Value).ownBlock) v0 x0_2) ∧ Aside0 (Kd.N (Kd.slice 47 k47) 27 w' w.heap.size (fun k_ => (P0_ k_ ∨ w.heap.size ≤ k_)) u5 x5_1) ∧ Aside0 (Below w.heap.size w w'))
      case atStart => exact ⟨(x0_1), (0), (by first | rfl | (simp; done) | (simp [*]; done)), H', ⟨Nat.le_refl _⟩, ⟨by (with_reducible repeat (first | apply Kd.V_alloc | apply Kd.V_drewN | apply Kd.V_drew)); exact HO_0.out⟩, ⟨by (with_reducible repeat (first | apply Kd.N_alloc | apply Kd.N_drewN | apply Kd.N_drew)); exact HO_5.out⟩, ⟨by repeat (first | (with_reducible first | exact HB.out | apply below_alloc | apply pw_below_drewN | apply below_drew1) | exact HB.out)⟩⟩
      case round =>
       clear H'
       try clear c1
       try clear c2
       try clear p2
       try clear q2
       try clear hx2
       try clear c7
       try clear c8
       try clear c8b0
       try clear c9
       try clear c9b0
       try clear c10
       try clear c10b0
       try clear hx245_0
       try clear p2
       try clear p245
       try clear q245
       obtain ⟨x0_2, x23_2, rfl, HA, HK2, HO_0, HO_5, HB⟩ := hrel
       cases gk with
       | zero => exact absurd HA.out (by simp [impl_StatesAfter.l1])
       | succ k2 =>
        have H := HA.out
        clear HA
        simp only [impl_StatesAfter.l1] at H
        by_cases c11 : x23_2 < ((rd_L7 l1 x17_1).length : Int)
        ·rw [if_pos c11] at H
         have c11b0 : decide (x23_2 < ((rd_L7 l1 x17_1).length : Int)) = true := decide_eq_true c11
         clear c11
         by_cases c12 : 0 ≤ x23_2
         ·rw [if_pos c12] at H
          have c12b0 : decide (0 ≤ x23_2) = true := decide_eq_true c12
          clear c12
          by_cases c13 : x23_2 < ((rd_L7 l1 x17_1).length : Int)
          ·rw [if_pos c13] at H
           have c13b0 : decide (x23_2 < ((rd_L7 l1 x17_1).length : Int)) = true := decide_eq_true c13
           clear c13
           replace H := Option.bind_eq_some_iff.mp H
           obtain ⟨⟨t248, t251⟩, A140, H⟩ := H
           replace H : (if t251 = 0 then (impl_StatesAfter.l1 k2 t248 x5_1 l1 (l1.length : Int) x17_1 (rd_L7 l1 x17_1) ((rd_L7 l1 x17_1).length : Int) (wrap64 (x23_2 + 1))) else (some ([] : List (List (S47))))) = some r := H
           have A14 := Aside0.mk A140
           clear A140
           by_cases c15 : t251 = 0
           ·rw [if_pos c15] at H
            have c15b0 : (t251 == 0) = true := beq_iff_eq.mpr c15
            have c15b1 : (t251 != 0) = false := bne_eq_false_iff_eq.mpr c15
            clear c15
            have H' := Aside0.mk H
            clear H
            have p246 : 0 ≤ (x23_2 : Int) := of_decide_eq_true (by first | (with_reducible assumption) | assumption)
            have q246 : x23_2 < ((rd_L7 l1 x17_1).length : Int) := of_decide_eq_true (by first | (with_reducible assumption) | assumption)
            obtain ⟨ad246, e246, hx246_0, hx246_1, hx246_2, hx246_3, hx246_4⟩ := at_T39 HR245_0.out x23_2 p246 q246
            cases e246
            replace hx246_0 := (HB.out.cell (World.block_lt_of_cell? w _ hx246_0)).trans hx246_0
            replace hx246_1 := (HB.out.cell (World.block_lt_of_cell? w _ hx246_1)).trans hx246_1
            replace hx246_2 := (HB.out.cell (World.block_lt_of_cell? w _ hx246_2)).trans hx246_2
            replace hx246_3 := (HB.out.cell (World.block_lt_of_cell? w _ hx246_3)).trans hx246_3
            replace hx246_4 := (HB.out.cell (World.block_lt_of_cell? w _ hx246_4)).trans hx246_4
            replace p246 := eq_true p246
            replace q246 := eq_true q246
            obtain ⟨Ao18, co18, eo18⟩ := Kd.V_slice HO_0.out
            subst eo18
            go_wp2_with (first | ((with_reducible refine gate_callee (f := 20) rfl ?_); refine goesL_ (some 31) rfl rfl Try.func20 (by kernel_rfl) rfl #[.slice Ao18 x0_2.length co18, .agg #[.string ((rd_T39 (rd_L7 l1 x17_1) x23_2).f0), .int .i64 1, .int .i64 ((rd_T39 (rd_L7 l1 x17_1) x23_2).f2), .string ((rd_T39 (rd_L7 l1 x17_1) x23_2).f3), .string ((rd_T39 (rd_L7 l1 x17_1) x23_2).f4)]] rfl (by (try simp only [List.map_toArray, List.map_cons, List.map_nil]); first | done | rfl | (simp only [List.length_drop, List.length_take]; rfl)) ?_; (with_reducible refine (impl_ApplyRecord.calls k2 _ _ x0_2 ((rd_T39 (rd_L7 l1 x17_1) x23_2).f0) 1 ((rd_T39 (rd_L7 l1 x17_1) x23_2).f2) ((rd_T39 (rd_L7 l1 x17_1) x23_2).f3) ((rd_T39 (rd_L7 l1 x17_1) x23_2).f4) t248 t251 _ ?side1 ?side2 A14.out).mono ?_); (case side1 => refine (Kd.V_reads' (e := 47) (base := w.heap.size) (ok := fun k_ => (((P0_ k_ ∨ w.heap.size ≤ k_) ∧ some k_ ≠ (u5 : Value).ownBlock))) (n := x0_2.length) (c := co18) ?_).2.2; exact (by (with_reducible repeat (first | apply Kd.V_alloc | apply Kd.V_drewN | apply Kd.V_drew)); exact HO_0.out)); (case side2 => exact (Kd.V_reads' HO_0.out).2.1); rintro e w19 ⟨v249, rfl, ho0, hb⟩; refine ⟨_, rfl, ?_⟩; have n0_ := Aside0.mk (Kd.V_elder' (by (with_reducible repeat (first | apply Kd.V_alloc | apply Kd.V_drewN | apply Kd.V_drew)); exact HO_0.out) (Kd.R_base ho0) hb); have n1_ := Aside0.mk (Kd.N_elder' (by (with_reducible repeat (first | apply Kd.N_alloc | apply Kd.N_drewN | apply Kd.N_drew)); exact HO_5.out) (Kd.R_base ho0) hb); have n2_ := Aside0.mk (Kd.R_lower (Kd.R_newM (M := fun k_ => (w.heap.size ≤ k_)) ho0 (below_size (by repeat (first | (with_reducible first | exact HB.out | apply below_alloc | apply pw_below_drewN | apply below_drew1) | exact HB.out))) (fun k_ h_ => h_)) (below_size (by repeat (first | (with_reducible first | exact HB.out | apply below_alloc | apply pw_below_drewN | apply below_drew1) | exact HB.out)))); have n4_ := Aside0.mk (below_step (by repeat (first | (with_reducible first | exact HB.out | apply below_alloc | apply pw_below_drewN | apply below_drew1) | exact HB.out)) hb); clear HO_0; clear HO_5; clear HB; have HO_0 := n0_; have HO_5 := n1_; have HO250 := n2_; have HB := n4_; clear n0_ n1_ n2_ n4_; (try clear hb); (try clear hb2); (try clear hk); (try clear hi); (try clear ho0)))
            go_roundg k2
            case measure => have := HK1.out; have := HK2.out; omega
            case rel => exact ⟨(t248), (wrap64 (x23_2 + 1)), (by first | rfl | (simp; done) | (simp [*]; done)), H', ⟨by have := HK1.out; have := HK2.out; omega⟩, ⟨Kd.V_mono (Kd.R_V (by (with_reducible repeat (first | apply Kd.R_alloc | apply Kd.R_drewN | apply Kd.R_drew)); exact (show Kd.R k47 47 _ w.heap.size (fun k_ => w.heap.size ≤ k_ ∧ some k_ ≠ (u5 : Value).ownBlock) _ _ from Kd.R_mono (Kd.R_apart' HO250.out (Kd.N_typed HO_5.out) (by decide)) (fun _ hk => ⟨hk.1.1, hk.2⟩)))) (fun k_ hk => by first | exact ⟨(.inr (hk.1)), hk.2⟩ | exact (.inr (hk)))⟩, ⟨by (with_reducible repeat (first | apply Kd.N_alloc | apply Kd.N_drewN | apply Kd.N_drew)); exact Kd.N_mono HO_5.out (fun _ hk => hk.1)⟩, ⟨by repeat (first | (with_reducible first | exact HB.out | apply below_alloc | apply pw_below_drewN | apply below_drew1) | exact HB.out)⟩⟩
           ·rw [if_neg c15] at H
            have c15b0 : (t251 == 0) = false := beq_eq_false_iff_ne.mpr c15
            have c15b1 : (t251 != 0) = true := bne_iff_ne.mpr c15
            obtain rfl := Option.some.inj H
            have p246 : 0 ≤ (x23_2 : Int) := of_decide_eq_true (by first | (with_reducible assumption) | assumption)
            have q246 : x23_2 < ((rd_L7 l1 x17_1).length : Int) := of_decide_eq_true (by first | (with_reducible assumption) | assumption)
            obtain ⟨ad246, e246, hx246_0, hx246_1, hx246_2, hx246_3, hx246_4⟩ := at_T39 HR245_0.out x23_2 p246 q246
            cases e246
            replace hx246_0 := (HB.out.cell (World.block_lt_of_cell? w _ hx246_0)).trans hx246_0
            replace hx246_1 := (HB.out.cell (World.block_lt_of_cell? w _ hx246_1)).trans hx246_1
            replace hx246_2 := (HB.out.cell (World.block_lt_of_cell? w _ hx246_2)).trans hx246_2
            replace hx246_3 := (HB.out.cell (World.block_lt_of_cell? w _ hx246_3)).trans hx246_3
            replace hx246_4 := (HB.out.cell (World.block_lt_of_cell? w _ hx246_4)).trans hx246_4
            replace p246 := eq_true p246
            replace q246 := eq_true q246
            obtain ⟨Ao22, co22, eo22⟩ := Kd.V_slice HO_0.out
            subst eo22
            go_wp2_with (first | ((with_reducible refine gate_callee (f := 20) rfl ?_); refine goesL_ (some 31) rfl rfl Try.func20 (by kernel_rfl) rfl #[.slice Ao22 x0_2.length co22, .agg #[.string ((rd_T39 (rd_L7 l1 x17_1) x23_2).f0), .int .i64 1, .int .i64 ((rd_T39 (rd_L7 l1 x17_1) x23_2).f2), .string ((rd_T39 (rd_L7 l1 x17_1) x23_2).f3), .string ((rd_T39 (rd_L7 l1 x17_1) x23_2).f4)]] rfl (by (try simp only [List.map_toArray, List.map_cons, List.map_nil]); first | done | rfl | (simp only [List.length_drop, List.length_take]; rfl)) ?_; (with_reducible refine (impl_ApplyRecord.calls k2 _ _ x0_2 ((rd_T39 (rd_L7 l1 x17_1) x23_2).f0) 1 ((rd_T39 (rd_L7 l1 x17_1) x23_2).f2) ((rd_T39 (rd_L7 l1 x17_1) x23_2).f3) ((rd_T39 (rd_L7 l1 x17_1) x23_2).f4) t248 t251 _ ?side1 ?side2 A14.out).mono ?_); (case side1 => refine (Kd.V_reads' (e := 47) (base := w.heap.size) (ok := fun k_ => (((P0_ k_ ∨ w.heap.size ≤ k_) ∧ some k_ ≠ (u5 : Value).ownBlock))) (n := x0_2.length) (c := co22) ?_).2.2; exact (by (with_reducible repeat (first | apply Kd.V_alloc | apply Kd.V_drewN | apply Kd.V_drew)); exact HO_0.out)); (case side2 => exact (Kd.V_reads' HO_0.out).2.1); rintro e w23 ⟨v249, rfl, ho0, hb⟩; refine ⟨_, rfl, ?_⟩; have n0_ := Aside0.mk (Kd.V_elder' (by (with_reducible repeat (first | apply Kd.V_alloc | apply Kd.V_drewN | apply Kd.V_drew)); exact HO_0.out) (Kd.R_base ho0) hb); have n1_ := Aside0.mk (Kd.N_elder' (by (with_reducible repeat (first | apply Kd.N_alloc | apply Kd.N_drewN | apply Kd.N_drew)); exact HO_5.out) (Kd.R_base ho0) hb); have n2_ := Aside0.mk (Kd.R_lower (Kd.R_newM (M := fun k_ => (w.heap.size ≤ k_)) ho0 (below_size (by repeat (first | (with_reducible first | exact HB.out | apply below_alloc | apply pw_below_drewN | apply below_drew1) | exact HB.out))) (fun k_ h_ => h_)) (below_size (by repeat (first | (with_reducible first | exact HB.out | apply below_alloc | apply pw_below_drewN | apply below_drew1) | exact HB.out)))); have n4_ := Aside0.mk (below_step (by repeat (first | (with_reducible first | exact HB.out | apply below_alloc | apply pw_below_drewN | apply below_drew1) | exact HB.out)) hb); clear HO_0; clear HO_5; clear HB; have HO_0 := n0_; have HO_5 := n1_; have HO250 := n2_; have HB := n4_; clear n0_ n1_ n2_ n4_; (try clear hb); (try clear hb2); (try clear hk); (try clear hi); (try clear ho0)))
            go_ret
            exact ⟨_, by first | rfl | (simp [errW_none, errW_some] <;> rfl) | (simp [*, errW_none, errW_some] <;> rfl), by first | exact Kd.S_nil _ _ _ _ _ | exact Kd.N_nil _ _ _ _ _ | exact Kd.V_nil _ _ _ _ _ | exact Kd.Q_nil _ _ _ _ _ | exact Kd.R_nil _ _ _ _ _, by repeat (first | (with_reducible first | exact HB.out | apply below_alloc | apply pw_below_drewN | apply below_drew1) | exact HB.out)⟩
          ·rw [if_neg c13] at H
           exact absurd H (by simp)
         ·rw [if_neg c12] at H
          exact absurd H (by simp)
        ·rw [if_neg c11] at H
         have c11b0 : decide (x23_2 < ((rd_L7 l1 x17_1).length : Int)) = false := decide_eq_false c11
         clear c11
         replace H := Option.bind_eq_some_iff.mp H
         obtain ⟨t252, A240, H⟩ := H
         replace H : (if x5_1.length < 5864062014805 then (impl_StatesAfter.l0 k2 x0_2 (x5_1 ++ [t252]) l1 (l1.length : Int) (wrap64 (x17_1 + 1))) else (none)) = some r := H
         have A24 := Aside0.mk A240
         clear A240
         by_cases c25 : x5_1.length < 5864062014805
         ·rw [if_pos c25] at H
          have LMc25 := Aside0.mk c25
          clear c25
          obtain ⟨y255, hy255⟩ : ∃ y_ : List (List (S47)), y_ = (x5_1 ++ [t252]) := ⟨_, rfl⟩
          replace H : (impl_StatesAfter.l0 k2 x0_2 y255 l1 (l1.length : Int) (wrap64 (x17_1 + 1))) = some r := by first | (rw [hy255]; with_reducible exact H) | (have H2_ := (Option.bind_some _ _).symm.trans H; rw [hy255]; with_reducible exact H2_) | (have H2_ := (Option.bind_some _ _).symm.trans H; with_reducible exact H2_) | with_reducible exact H | (rw [hy255]; exact H) | exact H
          have Ny255 := Aside0.mk hy255
          clear hy255
          have H' := Aside0.mk H
          clear H
          obtain ⟨Ao26, co26, eo26⟩ := Kd.V_slice HO_0.out
          subst eo26
          go_wp2_with (first | ((with_reducible refine gate_callee (f := 75) rfl ?_); refine goesL_ (some 40) rfl rfl Try.func75 (by kernel_rfl) rfl #[.slice Ao26 x0_2.length co26] rfl (by (try simp only [List.map_toArray, List.map_cons, List.map_nil]); first | done | rfl | (simp only [List.length_drop, List.length_take]; rfl)) ?_; (with_reducible refine (slices_Clone_Pair.calls _ _ x0_2 t252 _ ?side1 ?side2 A24.out).mono ?_); (case side1 => repeat (first | exact (Kd.V_reads' HO_0.out).2.2 | (with_reducible refine Kd.C_alloc ?_ _) | (with_reducible refine Kd.C_drewN ?_ _) | (with_reducible refine Kd.C_drew ?_))); (case side2 => exact (Kd.V_reads' HO_0.out).2.1); rintro e w27 ⟨v253, rfl, ho0, hb⟩; refine ⟨_, rfl, ?_⟩; have n0_ := Aside0.mk (Kd.V_elder' (by (with_reducible repeat (first | apply Kd.V_alloc | apply Kd.V_drewN | apply Kd.V_drew)); exact HO_0.out) (Kd.R_base ho0) hb); have n1_ := Aside0.mk (Kd.N_elder' (by (with_reducible repeat (first | apply Kd.N_alloc | apply Kd.N_drewN | apply Kd.N_drew)); exact HO_5.out) (Kd.R_base ho0) hb); have n2_ := Aside0.mk (Kd.R_lower (Kd.R_newM (M := fun k_ => (w.heap.size ≤ k_)) ho0 (below_size (by repeat (first | (with_reducible first | exact HB.out | apply below_alloc | apply pw_below_drewN | apply below_drew1) | exact HB.out))) (fun k_ h_ => h_)) (below_size (by repeat (first | (with_reducible first | exact HB.out | apply below_alloc | apply pw_below_drewN | apply below_drew1) | exact HB.out)))); have n3_ := Aside0.mk (below_step (by repeat (first | (with_reducible first | exact HB.out | apply below_alloc | apply pw_below_drewN | apply below_drew1) | exact HB.out)) hb); clear HO_0; clear HO_5; clear HB; have HO_0 := n0_; have HO_5 := n1_; have HO254 := n2_; have HB := n3_; clear n0_ n1_ n2_ n3_; (try clear hb); (try clear hb2); (try clear hk); (try clear hi); (try clear ho0); obtain ⟨Ao29, co29, eo29⟩ := Kd.R_slice HO254.out; subst eo29) | ((with_reducible refine gate_builtin (b := .append) (xs := #[.tmp 38, .tmp 41]) rfl ?_); at_builtin; refine Kd.N_append (Kd.slice 47 k47) (w0 := w) w.heap.size rfl (.tmp 38) (.tmp 41) 49 27 (.slice none 0 0) 24 rfl Try.underlying49 info27 rfl (by decide) (by omega) u5 x5_1 t252 [.slice Ao29 t252.length co29] (fun k_ => (P0_ k_ ∨ w.heap.size ≤ k_)) (fun k_ => ((fun k_ => (P0_ k_ ∨ w.heap.size ≤ k_))) k_ ∧ some k_ ≠ (u5 : Value).ownBlock) rfl rfl ?aP (fun _ hk => hk) ?aF ?aO ?aB ?aS ?aL ?_; (case aP => exact (Kd.FK_slice_mk (Kd.R_reads' (Kd.R_mono (ok' := (fun k_ => ((fun k_ => (P0_ k_ ∨ w.heap.size ≤ k_))) k_ ∧ some k_ ≠ (u5 : Value).ownBlock)) (Kd.R_apart' (HO254.out) (Kd.N_typed HO_5.out) (by decide)) (fun k_ hk => ⟨(.inr (hk.1.1)), hk.2⟩))).2.1 (Kd.R_F (Kd.R_mono (ok' := (fun k_ => ((fun k_ => (P0_ k_ ∨ w.heap.size ≤ k_))) k_ ∧ some k_ ≠ (u5 : Value).ownBlock)) (Kd.R_apart' (HO254.out) (Kd.N_typed HO_5.out) (by decide)) (fun k_ hk => ⟨(.inr (hk.1.1)), hk.2⟩))))); (case aB => exact (by repeat (first | (with_reducible first | exact HB.out | apply below_alloc | apply pw_below_drewN | apply below_drew1) | exact HB.out))); (case aF => exact (fun k_ hk => (.inr (Nat.le_trans (below_size (by repeat (first | (with_reducible first | exact HB.out | apply below_alloc | apply pw_below_drewN | apply below_drew1) | exact HB.out))) hk)))); (case aO => exact (by (with_reducible repeat (first | apply Kd.N_alloc | apply Kd.N_drewN | apply Kd.N_drew)); exact Kd.N_mono HO_5.out (fun _ hk => hk.1))); (case aS => exact (below_size (by repeat (first | (with_reducible first | exact HB.out | apply below_alloc | apply pw_below_drewN | apply below_drew1) | exact HB.out)))); (case aL => have := LMc25.out; omega); intro v256 w28 ho hb hg hat; rw [← Ny255.out] at ho; have n0_ := Aside0.mk (Kd.V_afterv (ok := (fun k_ => (P0_ k_ ∨ w.heap.size ≤ k_) ∧ some k_ ≠ (.slice Ao29 t252.length co29 : Value).ownBlock)) (by (with_reducible repeat (first | apply Kd.V_alloc | apply Kd.V_drewN | apply Kd.V_drew)); exact Kd.V_mono HO_0.out (fun _ hk => ⟨⟨hk.1.1, hk.2⟩, hk.1.2⟩)) hg hat); have n1_ := Aside0.mk (hb); have n2_ := Aside0.mk (ho); clear HO_0; clear HB; clear HO_5; clear HO254; have HO_0 := n0_; have HB := n1_; have HO257 := n2_; clear n0_ n1_ n2_; clear ho hb hg hat))
          go_roundg k2
          case measure => have := HK1.out; have := HK2.out; omega
          case rel => exact ⟨(x0_2), (y255), (wrap64 (x17_1 + 1)), (by first | rfl | (simp; done) | (simp [*]; done)), H', ⟨by have := HK1.out; have := HK2.out; omega⟩, ⟨by (with_reducible repeat (first | apply Kd.V_alloc | apply Kd.V_drewN | apply Kd.V_drew)); exact Kd.V_mono HO_0.out (fun _ hk => ⟨hk.1.1, hk.2⟩)⟩, ⟨by (with_reducible repeat (first | apply Kd.N_alloc | apply Kd.N_drewN | apply Kd.N_drew)); exact HO257.out⟩, ⟨by repeat (first | (with_reducible first | exact HB.out | apply below_alloc | apply pw_below_drewN | apply below_drew1) | exact HB.out)⟩⟩
         ·rw [if_neg c25] at H
          exact absurd H (by simp)
     ·rw [if_neg c10] at H
      exact absurd H (by simp)
    ·rw [if_neg c9] at H
     exact absurd H (by simp)
   ·rw [if_neg c8] at H
    have c8b0 : decide (x17_1 < (l1.length : Int)) = false := decide_eq_false c8
    clear c8
    obtain rfl := Option.some.inj H
    go_wp2
    go_ret
    exact ⟨_, by first | rfl | (simp [errW_none, errW_some] <;> rfl) | (simp [*, errW_none, errW_some] <;> rfl), by (with_reducible repeat (first | apply Kd.N_alloc | apply Kd.N_drewN | apply Kd.N_drew)); exact HO_5.out, by repeat (first | (with_reducible first | exact HB.out | apply below_alloc | apply pw_below_drewN | apply below_drew1) | exact HB.out)⟩
section
attribute [local go_sem high] eqA47
def slices_Equal_Pair.l0 : Nat → List (S47) → List (S47) → Int → Int → Option (Bool)
 | 0, _, _, _, _ => none
 | k + 1, x0, x1, x12, x13 => if x13 < x12 then (if 0 ≤ x13 then (if x13 < (x0.length : Int) then (if x13 < (x1.length : Int) then (if (!((((rd_T47 x0 x13).f0).toList) == (((rd_T47 x1 x13).f0).toList)) || (!((((rd_T47 x0 x13).f1).toList) == (((rd_T47 x1 x13).f1).toList)))) = true then (some false) else (slices_Equal_Pair.l0 k x0 x1 x12 (wrap64 (x13 + 1)))) else (none)) else (none)) else (none)) else (some true)
def slices_Equal_Pair.f (k : Nat) (l0 : List (S47)) (l1 : List (S47)) : Option (Bool) := if (l0.length : Int) = (l1.length : Int) then (slices_Equal_Pair.l0 k l0 l1 (l0.length : Int) 0) else (some false)
set_option maxHeartbeats 8000000 in
set_option maxRecDepth 100000 in
theorem slices_Equal_Pair.calls (k : Nat) (A0 : Option Addr) (c0 : Nat) (l0 : List (S47)) (A1 : Option Addr) (c1 : Nat) (l1 : List (S47)) (r : Bool) (w : World) (hr0 : Kd.C k47 w A0 l0.length l0) (hc0 : l0.length ≤ c0) (hr1 : Kd.C k47 w A1 l1.length l1) (hc1 : l1.length ≤ c1) (h : slices_Equal_Pair.f k l0 l1 = some r) :
  Calls Try.prog 67 #[.slice A0 l0.length c0, .slice A1 l1.length c1] w fun e w' => e = .returned (.bool r) ∧ Drawn0 w w' := by
 have hu47 := Try.underlying47
 have HR0 := Aside0.mk hr0
 have HC0 := Aside0.mk hc0
 clear hr0 hc0
 have HR1 := Aside0.mk hr1
 have HC1 := Aside0.mk hc1
 clear hr1 hc1
 have H : (if (l0.length : Int) = (l1.length : Int) then (slices_Equal_Pair.l0 k l0 l1 (l0.length : Int) 0) else (some false)) = some r := h
 clear h
 by_cases c3 : (l0.length : Int) = (l1.length : Int)
 ·rw [if_pos c3] at H
  have c3b0 : ((l0.length : Int) == (l1.length : Int)) = true := beq_iff_eq.mpr c3
  have c3b1 : ((l0.length : Int) != (l1.length : Int)) = false := bne_eq_false_iff_eq.mpr c3
  have c3b2 : (l0.length == l1.length) = true := by first | simpa using c3 | (simp at c3 ⊢; omega)
  clear c3
  have H' := Aside0.mk H
  clear H
  go_enter Try.func67, Try.ntmps67
  go_wp2
  repeat (go_quiet (fail); try go_wp2)
  go_loopg [13] k (fun kq v13 w' => ∃ (x13_1 : Int), v13 = .int .i64 x13_1 ∧ Aside0 (slices_Equal_Pair.l0 kq l0 l1 (l0.length : Int) x13_1 = some r) ∧ Aside0 (kq ≤ k) ∧ Drawn0 w w')
  case atStart => exact ⟨(0), (by first | rfl | (simp; done) | (simp [*]; done)), H', ⟨Nat.le_refl _⟩, by repeat (first | exact Drawn0.refl _ | apply Drawn0.step)⟩
  case round =>
   clear H'
   try clear c1
   try clear p2
   try clear c3
   try clear c3b0
   try clear c3b1
   try clear c3b2
   obtain ⟨x13_1, rfl, HA, HK1, ⟨m1, rfl⟩⟩ := hrel
   cases gk with
   | zero => exact absurd HA.out (by simp [slices_Equal_Pair.l0])
   | succ k1 =>
    have H := HA.out
    clear HA
    simp only [slices_Equal_Pair.l0] at H
    by_cases c4 : x13_1 < (l0.length : Int)
    ·rw [if_pos c4] at H
     have c4b0 : decide (x13_1 < (l0.length : Int)) = true := decide_eq_true c4
     clear c4
     by_cases c5 : 0 ≤ x13_1
     ·rw [if_pos c5] at H
      have c5b0 : decide (0 ≤ x13_1) = true := decide_eq_true c5
      clear c5
      by_cases c6 : x13_1 < (l0.length : Int)
      ·rw [if_pos c6] at H
       have c6b0 : decide (x13_1 < (l0.length : Int)) = true := decide_eq_true c6
       clear c6
       by_cases c7 : x13_1 < (l1.length : Int)
       ·rw [if_pos c7] at H
        have c7b0 : decide (x13_1 < (l1.length : Int)) = true := decide_eq_true c7
        clear c7
        by_cases c8 : (!((((rd_T47 l0 x13_1).f0).toList) == (((rd_T47 l1 x13_1).f0).toList)) || (!((((rd_T47 l0 x13_1).f1).toList) == (((rd_T47 l1 x13_1).f1).toList)))) = true
        ·rw [if_pos c8] at H
         have c8b0 : (!((((rd_T47 l0 x13_1).f0).toList) == (((rd_T47 l1 x13_1).f0).toList)) || (!((((rd_T47 l0 x13_1).f1).toList) == (((rd_T47 l1 x13_1).f1).toList)))) = true := c8
         clear c8
         obtain rfl := Option.some.inj H
         have p220 : 0 ≤ (x13_1 : Int) := of_decide_eq_true (by first | (with_reducible assumption) | assumption)
         have q220 : x13_1 < (l0.length : Int) := of_decide_eq_true (by first | (with_reducible assumption) | assumption)
         obtain ⟨ad220, e220, hx220_0, hx220_1⟩ := at_T47 HR0.out x13_1 p220 q220
         cases e220
         replace p220 := eq_true p220
         replace q220 := eq_true q220
         have p221 : 0 ≤ (x13_1 : Int) := of_decide_eq_true (by first | (with_reducible assumption) | assumption)
         have q221 : x13_1 < (l1.length : Int) := of_decide_eq_true (by first | (with_reducible assumption) | assumption)
         obtain ⟨ad221, e221, hx221_0, hx221_1⟩ := at_T47 HR1.out x13_1 p221 q221
         cases e221
         replace p221 := eq_true p221
         replace q221 := eq_true q221
         go_wp2
         repeat (go_quiet (fail); try go_wp2)
         go_ret
         exact ⟨by first | rfl | (simp; done) | (simp [*]; done), by repeat (first | exact Drawn0.refl _ | apply Drawn0.step)⟩
        ·rw [if_neg c8] at H
         have c8b0 : (!((((rd_T47 l0 x13_1).f0).toList) == (((rd_T47 l1 x13_1).f0).toList)) || (!((((rd_T47 l0 x13_1).f1).toList) == (((rd_T47 l1 x13_1).f1).toList)))) = false := by simpa using c8
         clear c8
         have H' := Aside0.mk H
         clear H
         have p220 : 0 ≤ (x13_1 : Int) := of_decide_eq_true (by first | (with_reducible assumption) | assumption)
         have q220 : x13_1 < (l0.length : Int) := of_decide_eq_true (by first | (with_reducible assumption) | assumption)
         obtain ⟨ad220, e220, hx220_0, hx220_1⟩ := at_T47 HR0.out x13_1 p220 q220
         cases e220
         replace p220 := eq_true p220
         replace q220 := eq_true q220
         have p221 : 0 ≤ (x13_1 : Int) := of_decide_eq_true (by first | (with_reducible assumption) | assumption)
         have q221 : x13_1 < (l1.length : Int) := of_decide_eq_true (by first | (with_reducible assumption) | assumption)
         obtain ⟨ad221, e221, hx221_0, hx221_1⟩ := at_T47 HR1.out x13_1 p221 q221
         cases e221
         replace p221 := eq_true p221
         replace q221 := eq_true q221
         go_wp2
         repeat (go_quiet (fail); try go_wp2)
         go_roundg k1
         case measure => have := HK1.out; omega
         case rel => exact ⟨(wrap64 (x13_1 + 1)), (by first | rfl | (simp; done) | (simp [*]; done)), H', ⟨by have := HK1.out; omega⟩, by repeat (first | exact Drawn0.refl _ | apply Drawn0.step)⟩
       ·rw [if_neg c7] at H
        exact absurd H (by simp)
      ·rw [if_neg c6] at H
       exact absurd H (by simp)
     ·rw [if_neg c5] at H
      exact absurd H (by simp)
    ·rw [if_neg c4] at H
     have c4b0 : decide (x13_1 < (l0.length : Int)) = false := decide_eq_false c4
     clear c4
     obtain rfl := Option.some.inj H
     go_wp2
     repeat (go_quiet (fail); try go_wp2)
     go_ret
     exact ⟨by first | rfl | (simp; done) | (simp [*]; done), by repeat (first | exact Drawn0.refl _ | apply Drawn0.step)⟩
 ·rw [if_neg c3] at H
  have c3b0 : ((l0.length : Int) == (l1.length : Int)) = false := beq_eq_false_iff_ne.mpr c3
  have c3b1 : ((l0.length : Int) != (l1.length : Int)) = true := bne_iff_ne.mpr c3
  have c3b2 : (l0.length == l1.length) = false := by first | simpa using c3 | (simp at c3 ⊢; omega)
  obtain rfl := Option.some.inj H
  go_enter Try.func67, Try.ntmps67
  go_wp2
  repeat (go_quiet (fail); try go_wp2)
  go_ret
  exact ⟨by first | rfl | (simp; done) | (simp [*]; done), by repeat (first | exact Drawn0.refl _ | apply Drawn0.step)⟩
end
def impl_SamePairs.f (k : Nat) (l0 : List (S47)) (l1 : List (S47)) : Option (Bool) := (slices_Equal_Pair.f k l0 l1).bind fun t222 => (some t222)
set_option maxHeartbeats 8000000 in
set_option maxRecDepth 100000 in
theorem impl_SamePairs.calls (k : Nat) (A0 : Option Addr) (c0 : Nat) (l0 : List (S47)) (A1 : Option Addr) (c1 : Nat) (l1 : List (S47)) (r : Bool) (w : World) (hr0 : Kd.C k47 w A0 l0.length l0) (hc0 : l0.length ≤ c0) (hr1 : Kd.C k47 w A1 l1.length l1) (hc1 : l1.length ≤ c1) (h : impl_SamePairs.f k l0 l1 = some r) :
  Calls Try.prog 22 #[.slice A0 l0.length c0, .slice A1 l1.length c1] w fun e w' => e = .returned (.bool r) ∧ Drawn0 w w' := by
 have HR0 := Aside0.mk hr0
 have HC0 := Aside0.mk hc0
 clear hr0 hc0
 have HR1 := Aside0.mk hr1
 have HC1 := Aside0.mk hc1
 clear hr1 hc1
 have H : ((slices_Equal_Pair.f k l0 l1).bind fun t222 => (some t222)) = some r := h
 clear h
 replace H := Option.bind_eq_some_iff.mp H
 obtain ⟨t222, A30, H⟩ := H
 replace H : (some t222) = some r := H
 have A3 := Aside0.mk A30
 clear A30
 obtain rfl := Option.some.inj H
 go_enter Try.func22, Try.ntmps22
 go_wp2_with (first | ((with_reducible refine gate_callee (f := 67) rfl ?_); refine goesL_ (some 7) rfl rfl Try.func67 (by kernel_rfl) rfl #[.slice A0 l0.length c0, .slice A1 l1.length c1] rfl (by (try simp only [List.map_toArray, List.map_cons, List.map_nil]); first | done | rfl | (simp only [List.length_drop, List.length_take]; rfl)) ?_; (with_reducible refine (slices_Equal_Pair.calls k _ _ l0 _ _ l1 t222 _ ?side1 ?side2 ?side3 ?side4 A3.out).mono ?_); (case side1 => repeat (first | exact HR0.out | (with_reducible refine Kd.C_alloc ?_ _) | (with_reducible refine Kd.C_drewN ?_ _) | (with_reducible refine Kd.C_drew ?_))); (case side2 => exact HC0.out); (case side3 => repeat (first | exact HR1.out | (with_reducible refine Kd.C_alloc ?_ _) | (with_reducible refine Kd.C_drewN ?_ _) | (with_reducible refine Kd.C_drew ?_))); (case side4 => exact HC1.out); rintro e w' ⟨rfl, ⟨nd, rfl⟩⟩; refine ⟨_, rfl, ?_⟩))
 go_ret
 exact ⟨by first | rfl | (simp; done) | (simp [*]; done), by repeat (first | exact Drawn0.refl _ | apply Drawn0.step)⟩
end Go.Proofs.Ytjamafchmeiifaa.F
/- impl.PrefixOf: the last state that is the given one. -/
namespace Go.Proofs.Ytjamafchmeiifaa.F
open Go.RowKit Go.Shelf Go.Proofs.YtjamafchmeiifaaW.PrintWords Go.Proofs.YtjamafchmeiifaaW.PrintLast Go.Proofs.YtjamafchmeiifaaW.PrintMore
set_option linter.unusedVariables false
set_option linter.unusedSimpArgs false
section
def sames (k : Nat) (st : List S47) : List (List S47) → Option (List Bool)
 | [] => some []
 | s :: ss => (impl_SamePairs.f k s st).bind fun b => (sames k st ss).bind fun bs => some (b :: bs)
def lastAt (bs : List Bool) : Nat → Int
 | 0 => -1
 | j + 1 => if bs.getD j false = true then (j : Int) else lastAt bs j
def impl_PrefixOf.f (k : Nat) (l0 : List S47) (l1 : List (List S39)) : Option Int :=
 (impl_StatesAfter.f k [] l1).bind fun sts => (sames k l0 sts).bind fun bs => some (lastAt bs sts.length)
theorem sames_at {k : Nat} {st : List S47} : ∀ {ss : List (List S47)} {bs : List Bool}, sames k st ss = some bs → ∀ j, j < ss.length → impl_SamePairs.f k (ss.getD j []) st = some (bs.getD j false)
 | [], bs, h, j, hj => by simp at hj
 | s :: ss, bs, h, j, hj => by
  obtain ⟨b, hb, h⟩ := Option.bind_eq_some_iff.1 h
  obtain ⟨bs', hbs, h⟩ := Option.bind_eq_some_iff.1 h
  obtain rfl := Option.some.inj h
  cases j with
  | zero => simpa using hb
  | succ j => simpa using sames_at hbs j (by simpa using hj)
theorem lastAt_none {bs : List Bool} : ∀ {n : Nat}, (∀ j, j < n → bs.getD j false = false) → lastAt bs n = -1
 | 0, _ => rfl
 | n + 1, h => by
  unfold lastAt
  rw [h n (by omega), if_neg (by simp)]
  exact lastAt_none (fun j hj => h j (by omega))
theorem lastAt_at {bs : List Bool} {j : Nat} (hj : bs.getD j false = true) : ∀ {n : Nat}, j < n → (∀ i, j < i → i < n → bs.getD i false = false) → lastAt bs n = (j : Int)
 | n + 1, hn, h => by
  unfold lastAt
  by_cases e : j = n
  ·subst e; rw [if_pos hj]
  ·rw [h n (by omega) (by omega), if_neg (by simp)]
   exact lastAt_at hj (by omega) (fun i h1 h2 => h i h1 (by omega))
/-- The slices that a list of lists is read through. -/
theorem slices_of {w : World} {A : Option Addr} {sts : List (List S47)} (ge : Nat → List S47) (hge : ∀ j, ge j = sts.getD j []) (h : Kd.C (Kd.slice 47 k47) w A sts.length sts) :
  ∃ sa : Nat → Option Addr, ∃ sc : Nat → Nat, (∀ j, j < sts.length → (ge j).length ≤ sc j ∧ k47.C w (sa j) (ge j).length (ge j)) ∧ (0 < sts.length → ∃ ad, A = some ad ∧ ∀ j, j < sts.length → w.cell? (ad.add j) = some (.slice (sa j) (ge j).length (sc j))) := by
 simp only [hge]
 have hg : ∀ j : Nat, ∃ (a : Option Addr) (c : Nat), j < sts.length → ∃ ad, A = some ad ∧ w.cell? (ad.add j) = some (.slice a (sts.getD j []).length c) ∧ (sts.getD j []).length ≤ c ∧ k47.C w a (sts.getD j []).length (sts.getD j []) := by
  intro j
  by_cases hj : j < sts.length
  ·obtain ⟨ad, c, e, _, hK, hc0⟩ := Kd.C_get h ([] : List S47) (j : Int) (by omega) (by omega)
   obtain ⟨A0, c0, rfl, l0, g0⟩ := hK
   refine ⟨A0, c0, fun _ => ⟨ad, e, ?_, l0, g0⟩⟩
   have hq := hc0 0 _ rfl
   simpa [Kd.slice] using hq
  ·exact ⟨none, 0, fun h => absurd h hj⟩
 refine ⟨fun j => (hg j).choose, fun j => (hg j).choose_spec.choose, fun j hj => ?_, fun h0 => ?_⟩
 ·obtain ⟨_, _, _, h3, h4⟩ := (hg j).choose_spec.choose_spec hj
  exact ⟨h3, h4⟩
 ·obtain ⟨ad, e, _⟩ := (hg 0).choose_spec.choose_spec h0
  refine ⟨ad, e, fun j hj => ?_⟩
  obtain ⟨ad', e', h2, _⟩ := (hg j).choose_spec.choose_spec hj
  rw [e] at e'
  cases e'
  exact h2
theorem N_ad {w : World} {base n c : Nat} {ok : Nat → Prop} {A : Option Addr} {xs : List (List S47)} (h : Kd.N (Kd.slice 47 k47) 27 w base ok (.slice A n c) xs) (hn : 0 < n) : ∃ g, A = some ⟨g, 0, none⟩ := by
 obtain ⟨_, rows, hl, hR, hf⟩ := h
 obtain ⟨_, inner, ho, hr⟩ := hR
 rcases ho.2 with ⟨hv, _⟩ | ⟨g, cap, cur, hv, _⟩
 ·cases hv; omega
 ·injection hv with ha _ _
  exact ⟨g, ha⟩
section
attribute [local go_sem] Oper.semAt_some
set_option maxRecDepth 100000 in
set_option maxHeartbeats 4000000 in
theorem impl_PrefixOf.calls (k : Nat) (A0 : Option Addr) (c0 : Nat) (l0 : List S47) (A1 : Option Addr) (c1 : Nat) (l1 : List (List S39)) (r : Int) (w : World) (hr0 : Kd.C k47 w A0 l0.length l0) (hc0 : l0.length ≤ c0) (hr1 : Kd.C (Kd.slice 39 k39) w A1 l1.length l1) (hc1 : l1.length ≤ c1) (h : impl_PrefixOf.f k l0 l1 = some r) :
  Calls Try.prog 15 #[.slice A0 l0.length c0, .slice A1 l1.length c1] w fun e w' => e = .returned (.int .i64 r) ∧ Below w.heap.size w w' := by
 obtain ⟨sts, hst, h⟩ := Option.bind_eq_some_iff.1 h
 obtain ⟨bs, hbs, h⟩ := Option.bind_eq_some_iff.1 h
 obtain rfl := Option.some.inj h
 clear h
 have HR0 := Aside0.mk hr0
 have HC0 := Aside0.mk hc0
 have HR1 := Aside0.mk hr1
 have HC1 := Aside0.mk hc1
 have HST := Aside0.mk hst
 obtain ⟨ge, hge⟩ : ∃ ge : Nat → List S47, ∀ j, ge j = sts.getD j [] := ⟨fun j => sts.getD j [], fun _ => rfl⟩
 obtain ⟨be, hbe⟩ : ∃ be : Nat → Bool, ∀ j, be j = bs.getD j false := ⟨fun j => bs.getD j false, fun _ => rfl⟩
 have HBS : Aside0 (∀ j, j < sts.length → impl_SamePairs.f k (ge j) l0 = some (be j)) := ⟨fun j hj => by rw [hge, hbe]; exact sames_at hbs j hj⟩
 have HBE := Aside0.mk hbe
 have HGE := Aside0.mk hge
 clear hbe hge
 clear hr0 hc0 hr1 hc1 hst hbs
 refine (callsIn_wide (n := 9)).1 ?_
 refine callsIn_of_wp_marks Try.func15 rfl trivial ?_ rfl
 simp only [Try.ntmps15, List.size_toArray, List.length_cons, List.length_nil, Nat.reduceAdd, Nat.reduceSub, Array.replicate_succ, Array.replicate_zero, List.push_toArray, List.append_toArray, List.nil_append, List.cons_append]
 have hB0 : Below w.heap.size w (w.alloc (.cells #[.slice A0 l0.length c0] 27)) := (Below.refl _ w).alloc (Nat.le_refl _) _
 have HB0 : Aside0 (Below w.heap.size w ((w.alloc (.cells #[.slice A0 l0.length c0] 27)).alloc (.cells #[.int .i64 0] 2))) := ⟨hB0.alloc (by simp) _⟩
 clear hB0
 gi_wp2_with (first | (refine ⟨trivial, ?_⟩; gi_at_call 28; refine (callsIn_wide.2 (impl_StatesAfter.calls k (fun _ => False) none 0 [] A1 c1 l1 sts _ (Kd.V_nil _ _ _ _ _) (Kd.C_below HR1.out HB0.out) HC1.out HST.out)).mono ?_; rintro e w3 ⟨v3, rfl, hn3, hb3⟩; obtain ⟨A3, c3, rfl, hc3, hC3⟩ := Kd.N_reads hn3; have HB3 := Aside0.mk hb3; have HC3 := Aside0.mk hc3; have HR3 := Aside0.mk hC3; have HAD := Aside0.mk (fun h => N_ad hn3 h); clear hn3 hb3 hc3 hC3) | (refine ⟨trivial, ?_⟩; gi_at_call 59; refine (backward_in Fence.wide 8 trivial rfl A3 sts.length c3 _).mono ?_; rintro e w4 ⟨rfl, hw4⟩; have HW4 := Aside0.mk hw4; clear hw4))
 have hs2 : w.heap.size + 2 ≤ w3.heap.size := by have := HB3.out.size; simp at this; omega
 have hs4 : w4.heap.size = w3.heap.size + 1 := by rw [HW4.out]; simp
 have hB34 : Below w3.heap.size w3 w4 := by rw [HW4.out]; exact (Below.refl _ _).alloc (Nat.le_refl _) _
 have hB24 : Below (w.heap.size + 2) ((w.alloc (.cells #[.slice A0 l0.length c0] 27)).alloc (.cells #[.int .i64 0] 2)) w4 := by
  have h3 := HB3.out
  simp only [World.size_alloc] at h3
  exact h3.trans (hB34.mono hs2)
 have hB4 : Below w.heap.size w w4 := HB0.out.trans (hB24.mono (by omega))
 have hbS : w4.heap[w.heap.size]? = some (.cells #[.slice A0 l0.length c0] 27 (0, 0)) := (hB24.block _ (by omega)).trans ((Below.heap_alloc _ _ _ (by simp)).trans (World.alloc_heap_new w _))
 have hbR : w4.heap[w.heap.size + 1]? = some (.cells #[.int .i64 0] 2 (0, 0)) := (hB24.block _ (by omega)).trans (by have := World.alloc_heap_new (w.alloc (.cells #[.slice A0 l0.length c0] 27)) (.cells #[.int .i64 0] 2); rwa [World.size_alloc] at this)
 have hbB : w4.heap[w3.heap.size]? = some (.cells #[.slice A3 sts.length c3] 49 (0, 0)) := by rw [HW4.out]; exact World.alloc_heap_new w3 _
 obtain ⟨sa, sc, hel, hce⟩ := slices_of ge HGE.out HR3.out
 have hcL : 0 < sts.length → ∃ b off, A3 = some ⟨b, off, none⟩ ∧ b < w4.heap.size ∧ ∀ j, j < sts.length → w4.cell? ⟨b, off + j, none⟩ = some (.slice (sa j) (ge j).length (sc j)) := by
  intro h0
  obtain ⟨g, eg⟩ := HAD.out h0
  obtain ⟨ad, ea, hcc⟩ := hce h0
  rw [eg] at ea
  cases ea
  have hlt : g < w3.heap.size := World.block_lt_of_cell? w3 _ (hcc 0 h0)
  refine ⟨g, 0, eg, by omega, fun j hj => ?_⟩
  have := hcc j hj
  rw [add_plain] at this
  rw [Nat.zero_add]
  exact (hB34.cell (p := ⟨g, j, none⟩) hlt).trans this
 have HEL : Aside0 (∀ j, j < sts.length → (ge j).length ≤ sc j ∧ k47.C w4 (sa j) (ge j).length (ge j)) := ⟨fun j hj => ⟨(hel j hj).1, Kd.C_below (hel j hj).2 hB34⟩⟩
 have HST0 : Aside0 (k47.C w4 A0 l0.length l0) := ⟨Kd.C_below HR0.out hB4⟩
 have hmax : sts.length ≤ 9223372036854775807 := by have := HR3.out.2.1; omega
 refine wpIn_rangeFunc_ownG rfl (by omega) (gf := 110) (lb := #[.pointer (some ⟨w3.heap.size, 0, none⟩)]) rfl trivial (enters_of Try.func110 (by kernel_rfl) rfl)
  (back_stops Fence.wide 8 trivial rfl (by omega) w3.heap.size w4.heap.size sts.length c3 A3 (fun j => .slice (sa j) (ge j).length (sc j)) hmax w4 (by omega) (by omega) (Nat.le_refl _) ((blk_cell hbB 0).trans rfl) hcL) belowK_t (belowK_b (Nat.le_refl _)) (Below.refl _ _) (fun _ => rfl)
  (fun pre W => (∀ p ∈ pre, be p.1 = false) ∧ Below w4.heap.size w4 W)
  (fun c pre W => (c = .ret ∧ ∃ ini last, pre = ini ++ [last] ∧ (∀ p ∈ ini, be p.1 = false) ∧ be last.1 = true ∧ W.cell? ⟨w.heap.size + 1, 0, none⟩ = some (.int .i64 (last.1 : Int))) ∧ Below w.heap.size w W)
  (OwnFrom.and (Own.from (fun s A B row hs hg hr => hs) _) (ownFrom_below (Nat.le_refl _) (Nat.le_refl _)))
  (fun c => OwnFrom.and (Own.from (fun s A B row hs hg hr => by obtain ⟨hc, ini, last, e1, e2, e3, e4⟩ := hs; exact ⟨hc, ini, last, e1, e2, e3, cell_kept e4 hg hr⟩) _) (ownFrom_below (Nat.le_refl _) (by omega)))
  ⟨by simp, Below.refl _ _⟩
  (fun x => { tmps := #[.slice A0 l0.length c0, .slice A1 l1.length c1, .pointer (some ⟨w.heap.size, 0, none⟩), undef, .pointer (some ⟨w.heap.size + 1, 0, none⟩), .int .i64 (x.1 : Int), .slice (sa x.1) (ge x.1).length (sc x.1), .slice A1 l1.length c1, .slice A3 sts.length c3, .func (.func 110) #[] #[.pointer (some ⟨w3.heap.size, 0, none⟩)], .int .i64 (x.1 : Int), .slice (sa x.1) (ge x.1).length (sc x.1), undef, undef, undef, undef], defers := [] }) ?assign ?body ?done ?stop
 case assign =>
  intro l x W K hK
  gi_wp2
  exact hK
 case body =>
  rintro l pre x W ⟨hp, hB⟩ _
  have hS := (hB.block _ (by omega)).trans hbS
  have hR := (hB.block _ (by omega)).trans hbR
  have hcs := (blk_cell hS 0).trans rfl
  have HEX := Aside0.mk (HEL.out x.1 x.2)
  have HC1' := Aside0.mk (Kd.C_below HEX.out.2 hB)
  have HC0' := Aside0.mk (Kd.C_below HST0.out hB)
  have HBX := Aside0.mk (HBS.out x.1 x.2)
  have HP := Aside0.mk hp
  have HB := Aside0.mk hB
  have HR := Aside0.mk hR
  have HB4 := Aside0.mk hB4
  clear hS hR hp hB hbS hbR hbB hcL hel hce hB34 hB24 hB4
  have hsz : w.heap.size + 1 < w4.heap.size := by omega
  have hsz' := HB.out.size
  cases hb : be x.1 with
  | true =>
   rw [hb] at HBX
   gi_wp2_with (refine ⟨trivial, ?_⟩; gi_at_call 22; refine (CallsIn.inRound l (callsIn_wide.2 (impl_SamePairs.calls k (sa x.1) (sc x.1) (ge x.1) A0 c0 l0 true _ HC1'.out HEX.out.1 HC0'.out HC0.out HBX.out))).mono ?_; rintro e W2 ⟨rfl, hd⟩; have HD := Aside0.mk hd.below; have hcr : W2.cell? ⟨w.heap.size + 1, 0, none⟩ = some (.int .i64 0) := (blk_cell (blk_below HR.out HD.out) 0).trans rfl; have hfr := blk_frozen (blk_below HR.out HD.out) 0; clear hd)
   have hg : KeepsFrom w4.heap.size W W2 := (KeepsOthers.of_grownBy (grown_of_below HD.out none) (fun j o e => by cases e)).from _
   refine ⟨hg.trans ((KeepsOthers.setCell _ _ _).from _), ⟨rfl, pre, x, rfl, HP.out, hb, World.cell?_setCell_same' _ _ _ (by rw [hcr]; rfl)⟩, ?_⟩
   have h1 : Below w.heap.size w W2 := (HB4.out.trans (HB.out.mono (by omega))).trans (HD.out.mono (by omega))
   exact h1.setCell (p := ⟨w.heap.size + 1, 0, none⟩) (by simp) _
  | false =>
   rw [hb] at HBX
   gi_wp2_with (refine ⟨trivial, ?_⟩; gi_at_call 22; refine (CallsIn.inRound l (callsIn_wide.2 (impl_SamePairs.calls k (sa x.1) (sc x.1) (ge x.1) A0 c0 l0 false _ HC1'.out HEX.out.1 HC0'.out HC0.out HBX.out))).mono ?_; rintro e W2 ⟨rfl, hd⟩; have HD := Aside0.mk hd.below; clear hd)
   have hg : KeepsFrom w4.heap.size W W2 := (KeepsOthers.of_grownBy (grown_of_below HD.out none) (fun j o e => by cases e)).from _
   refine ⟨hg, HD.out.mono hsz', fun p hp' => (List.mem_append.1 hp').elim (HP.out p) (fun e => by simp at e; subst e; exact hb), HB.out.trans (HD.out.mono hsz')⟩
 case done =>
  rintro D ys W hD hys ⟨hp, hB⟩ hK
  have hR := (hB.block _ (by omega)).trans hbR
  have hcr : W.cell? ⟨w.heap.size + 1, 0, none⟩ = some (.int .i64 0) := (blk_cell hR 0).trans rfl
  have hfr := blk_frozen hR 0
  gi_wp2
  have hK' := (KeepsOthers.setCell W ⟨w.heap.size + 1, 0, none⟩ (.int .i64 (-1))).same D _ hK rfl
  refine ⟨by simp, .inl ⟨_, _, rfl, run_takeDeferred hK', ?_⟩⟩
  have hc5 := cell_kept (World.cell?_setCell_same' W ⟨w.heap.size + 1, 0, none⟩ (.int .i64 (-1)) (by rw [hcr]; rfl)) (grownBy_putObj' _ D (.deferred none)) (fun r e => by cases e; exact ⟨_, hK', rfl⟩)
  have hall : lastAt bs sts.length = -1 := lastAt_none (fun j hj => by
   rw [← HBE.out]
   have hm : j ∈ ys.map (·.1) := by rw [hys]; simp only [uptoD, List.mem_map, List.mem_range]; exact ⟨sts.length - 1 - j, by omega, by omega⟩
   obtain ⟨p, hp1, rfl⟩ := List.mem_map.1 hm
   exact hp p hp1)
  rw [hall]
  refine ⟨.int .i64 (-1), ?_, rfl, ((hB4.trans (hB.mono (by omega))).setCell (p := ⟨w.heap.size + 1, 0, none⟩) (by simp) _).trans (belowK_b (w := w) (Nat.le_refl _) _ D _ _ (by omega) hK' rfl rfl)⟩
  simp [results, Try.f15, go_sem, hc5]
 case stop =>
  rintro D c pre W hD ⟨kk, hk, hpre⟩ ⟨⟨rfl, ini, last, e1, e2, e3a, hcr⟩, hB⟩ hK
  gi_wp2
  refine ⟨by simp, .inl ⟨_, _, rfl, run_takeDeferred hK, ?_⟩⟩
  have hc5 := cell_kept hcr (grownBy_putObj' _ D (.deferred none)) (fun r e => by cases e; exact ⟨_, hK, rfl⟩)
  have hat : lastAt bs sts.length = (last.1 : Int) := by
   refine lastAt_at (by rw [← HBE.out]; exact e3a) last.2 (fun i h1 h2 => ?_)
   rw [← HBE.out]
   obtain ⟨k', rfl⟩ : ∃ k', kk = k' + 1 := by
    cases kk with
    | zero => rw [e1] at hpre; simp [uptoD] at hpre
    | succ k' => exact ⟨k', rfl⟩
   rw [e1, uptoD_succ, List.map_append] at hpre
   obtain ⟨h5, h6⟩ := List.append_inj' hpre rfl
   have h7 : last.1 = sts.length - 1 - k' := by simpa using h6
   have hm : i ∈ ini.map (·.1) := by rw [h5]; simp only [uptoD, List.mem_map, List.mem_range]; exact ⟨sts.length - 1 - i, by omega, by omega⟩
   obtain ⟨p, hp1, rfl⟩ := List.mem_map.1 hm
   exact e2 p hp1
  rw [hat]
  refine ⟨.int .i64 (last.1 : Int), ?_, rfl, hB.trans (belowK_b (w := w) (Nat.le_refl _) W D _ _ (by omega) hK rfl rfl)⟩
  simp [results, Try.f15, go_sem, hc5]
end
end
end Go.Proofs.Ytjamafchmeiifaa.F
