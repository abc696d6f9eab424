/- For every input, lockagelaw16.KeyMade returns true (the tied card). No conditions. -/
import Derived.Test.YtalafpigfeiaiaaGreatDoorKU12
import Derived.Test.YtalafpigfeiaiaaGreatDoorProg
import Derived.WalkKit
import Derived.ProofKit
import Derived.OpenShut
import Derived.ShutString
import Derived.ChangeOld
import Derived.Below
import Derived.Deep.DeepHandedRow
import Derived.Test.YtalafpigfeiaiaaGreatDoorCards
import Derived.Test.YtalafpigfeiaiaaGreatDoorTie
section
namespace Go.Proofs.YtalafpigfeiaiaaGreatDoor.Q
open Go.RowKit Go.Proofs.YtalafpigfeiaiaaGreatDoor.H Go.Proofs.YtalafpigfeiaiaaGreatDoorW.PrintWords
set_option linter.unusedVariables false
set_option linter.unusedSimpArgs false
theorem ints_cells {w : World} {A : Option Addr} {n : Nat} {xs : List Int} (h : Kd.C (Kd.int .u8) w A n xs) (h0 : 0 < n) :
    ∃ b o, A = some ⟨b, o, none⟩ ∧ b < w.heap.size ∧ ∀ (j : Nat) x, xs[j]? = some x → w.cell? ⟨b, o + j, none⟩ = some (.int .u8 x) := by
  obtain ⟨hl, _, hc⟩ := h
  obtain ⟨ad, rfl, hd⟩ := hc h0
  have hcell : ∀ (j : Nat) x, xs[j]? = some x → w.cell? (ad.add j) = some (.int .u8 x) := by
    intro j x hj
    obtain ⟨c, _, hr, hu⟩ := hd j x hj
    obtain rfl : c = [.int .u8 x] := hr
    have := hu 0 (.int .u8 x) rfl
    simpa [Kd.int, Kd.scalar] using this
  have h1 := hcell 0 xs[0] (List.getElem?_eq_getElem (by omega))
  have hs : ad.spot = none := by
    have e : ad.add 0 = ad := by simp [Addr.add]
    rw [e] at h1
    unfold World.cell? at h1
    split at h1
    · split at h1
      · cases h1
      · rename_i hq; cases hz : ad.spot with
        | none => rfl
        | some q => rw [hz] at hq; exact absurd rfl hq
    · cases h1
  obtain ⟨b, o, sp⟩ := ad
  obtain rfl : sp = none := hs
  refine ⟨b, o, rfl, World.block_lt_of_cell? w ⟨b, o, none⟩ (u := .int .u8 xs[0]) (by simpa [Addr.add] using h1), fun j x hj => ?_⟩
  have := hcell j x hj
  have e : (⟨b, o, none⟩ : Addr).add j = ⟨b, o + j, none⟩ := by unfold Addr.add; split <;> simp_all
  rwa [e] at this
def nameT : List ByteArray := [⟨#[72, 111, 115, 116]⟩, ⟨#[97, 99, 99, 101, 112, 116]⟩, ⟨#[65]⟩, ⟨#[67, 111, 111, 107, 105, 101]⟩, ⟨#[120]⟩]
theorem nameT_small (r : Nat) : (nameT.getD r ByteArray.empty).size ≤ 30 := by
  rw [List.getD_eq_getElem?_getD]
  cases hg : nameT[r]? with
  | none => decide
  | some y => exact of_decide_eq_true (List.all_eq_true.1 (show nameT.all (fun y => decide (y.size ≤ 30)) = true by decide +kernel) y (List.mem_of_getElem? hg))
theorem nameT_cell (W : World) (r : Nat) (h : r < 5) : (W.alloc (.cells #[.string ⟨#[72, 111, 115, 116]⟩, .string ⟨#[97, 99, 99, 101, 112, 116]⟩, .string ⟨#[65]⟩, .string ⟨#[67, 111, 111, 107, 105, 101]⟩, .string ⟨#[120]⟩] 9)).cell? ⟨W.heap.size, r, none⟩ = some (.string (nameT.getD r ByteArray.empty)) := by
  rw [cell_of_row _ _ r _ 9 (0, 0) (heap_alloc_new W _)]
  have : r = 0 ∨ r = 1 ∨ r = 2 ∨ r = 3 ∨ r = 4 := by omega
  rcases this with rfl | rfl | rfl | rfl | rfl <;> rfl
theorem small_snoc {ns : List ByteArray} {y : ByteArray} (h : ∀ n ∈ ns, n.size ≤ 30) (hy : y.size ≤ 30) : ∀ n ∈ ns ++ [y], n.size ≤ 30 := fun n hn => by
  rcases List.mem_append.1 hn with h' | h'
  · exact h n h'
  · rw [List.mem_singleton.1 h']; exact hy
theorem OwnHd.set {w0 W : World} {x : Hd} (h : OwnHd w0 x W) {p : Addr} (hp : p.block < w0.heap.size) (u : Value) : OwnHd w0 x (W.setCell p u) :=
  ⟨Kd.R_mono (Kd.R_far (Kd.R_bound h.row) (fun k hk => by have := hk.2.1; omega) u) (fun _ _ => trivial), h.few, h.len, h.m, h.t⟩
set_option maxHeartbeats 4000000 in
set_option maxRecDepth 100000 in
theorem keyMade_walk {w : World} (A0 : Option Addr) (c0 : Nat) (l0 : List Int) (hr0 : Kd.C (Kd.int .u8) w A0 l0.length l0) (hc0 : l0.length ≤ c0) (hb0 : Bytes l0) (A1 : Option Addr) (c1 : Nat) (l1 : List Int) (hr1 : Kd.C (Kd.int .u8) w A1 l1.length l1) (hc1 : l1.length ≤ c1) (hb1 : Bytes l1) (A2 : Option Addr) (c2 : Nat) (l2 : List Int) (hr2 : Kd.C (Kd.int .u8) w A2 l2.length l2) (hc2 : l2.length ≤ c2) (hb2 : Bytes l2) (A3 : Option Addr) (c3 : Nat) (l3 : List Int) (hr3 : Kd.C (Kd.int .u8) w A3 l3.length l3) (hc3 : l3.length ≤ c3) (hb3 : Bytes l3) (A4 : Option Addr) (c4 : Nat) (l4 : List Int) (hr4 : Kd.C (Kd.int .u8) w A4 l4.length l4) (hc4 : l4.length ≤ c4) (hb4 : Bytes l4) : Calls Tryz.prog 3 #[.slice A0 l0.length c0, .slice A1 l1.length c1, .slice A2 l2.length c2, .slice A3 l3.length c3, .slice A4 l4.length c4] w fun e w' => e = .returned (.bool true) ∧ Below w.heap.size w w' := by
  have HC0 := Aside0.mk (fun (W : World) (h : Below w.heap.size w W) => request_calls A0 c0 l0 W (Kd.C_below hr0 h) hb0)
  have HC1 := Aside0.mk (fun (W : World) (h : Below w.heap.size w W) => request_calls A1 c1 l1 W (Kd.C_below hr1 h) hb1)
  have HC2 := Aside0.mk (fun (W : World) (h : Below w.heap.size w W) => made_calls A2 c2 l2 true W (Kd.C_below hr2 h) hb2)
  have HC3 := Aside0.mk (fun (W : World) (h : Below w.heap.size w W) => pieces_calls A3 c3 l3 W (Kd.C_below hr3 h) hc3 hb3)
  have HR4 := Aside0.mk hr4
  have HY4 := Aside0.mk hb4
  clear hr0 hr1 hr2 hr3 hr4 hb0 hb1 hb2 hb3 hb4
  go_enter Tryz.func3, Tryz.ntmps3
  have HB0 := Aside0.mk (Below.refl w.heap.size w)
  go_wp2_with fail
  with_reducible refine (HC0.out _ HB0.out).mono ?_
  rintro e w1 ⟨⟨m0, t0, s0, r0, mi0, A0', c0', L0⟩, bx0, rfl, _, ho, hb⟩
  simp only [Hd.mv]
  have HB1 := Aside0.mk (HB0.out.trans (hb.mono HB0.out.size))
  have HM0 := Aside0.mk (And.intro ho.m ho.t)
  have HI0 := Aside0.mk ho.in_
  clear ho hb
  go_wp2_with fail
  with_reducible refine (HC1.out _ HB1.out).mono ?_
  rintro e w2 ⟨⟨m1, t1, s1, r1, mi1, A1', c1', L1⟩, bx1, rfl, _, ho, hb⟩
  simp only [Hd.mv]
  have HB2 := Aside0.mk (HB1.out.trans (hb.mono HB1.out.size))
  have HM1 := Aside0.mk (And.intro ho.m ho.t)
  have HI1 := Aside0.mk ho.in_
  replace HI0 := Aside0.mk (HI0.out.below hb)
  clear ho hb
  go_wp2_with fail
  generalize hw5 : (w2.alloc (.cells #[.string m0, .string t0, .int .i64 s0, .string r0, .int .i64 mi0, .slice A0' L0.length c0', .string bx0] 27)).alloc (.cells #[.string m1, .string t1, .int .i64 s1, .string r1, .int .i64 mi1, .slice A1' L1.length c1', .string bx1] 27) = w5
  have hb5 : Below w2.heap.size w2 w5 := by rw [← hw5]; exact below_alloc (below_alloc (Below.refl _ _) _) _
  have hs5 : w2.heap.size + 2 ≤ w5.heap.size := by rw [← hw5]; simp
  have HX0 := Aside0.mk ((by rw [← hw5]; (repeat' first | exact at_new (by first | rfl | (simp; done)) | (refine at_old (by first | (simp; done) | (simp; omega)) ?_))) : w5.heap[w2.heap.size]? = some (.cells #[.string m0, .string t0, .int .i64 s0, .string r0, .int .i64 mi0, .slice A0' L0.length c0', .string bx0] 27 (0, 0)))
  have HX1 := Aside0.mk ((by rw [← hw5]; (repeat' first | exact at_new (by first | rfl | (simp; done)) | (refine at_old (by first | (simp; done) | (simp; omega)) ?_))) : w5.heap[w2.heap.size + 1]? = some (.cells #[.string m1, .string t1, .int .i64 s1, .string r1, .int .i64 mi1, .slice A1' L1.length c1', .string bx1] 27 (0, 0)))
  have HB25 := Aside0.mk hb5
  have HS5 := Aside0.mk hs5
  have HB5 := Aside0.mk (HB2.out.trans (hb5.mono HB2.out.size))
  clear hb5 hs5 hw5
  go_loopw [13, 14] (fun v13 v14 wr => ∃ (i : Nat) (ns : List ByteArray), i ≤ 5 ∧ v14 = .int .i64 i ∧ ns.length ≤ i ∧ (∀ n ∈ ns, n.size ≤ 30) ∧ Kd.R Kd.string 9 wr w5.heap.size (fun _ => True) v13 ns ∧ Below w5.heap.size w5 wr) (fun _ v14 _ => 5 - (intOf v14).toNat)
  case atStart => exact ⟨0, [], by omega, rfl, by simp, (fun n hn => by cases hn), Kd.R_nil _ _ _ _ _, Below.refl _ _⟩
  case round =>
    obtain ⟨i, ns, hi, rfl, hns, hsm, hrow, hbr⟩ := hrel
    have HN := Aside0.mk hns
    have HSM := Aside0.mk hsm
    have HROW := Aside0.mk hrow
    have HBR := Aside0.mk hbr
    clear hns hsm hrow hbr
    by_cases h1 : i < l4.length
    · by_cases h2 : i < 5
      · obtain ⟨b, o, hA, hbs, hcell⟩ := ints_cells HR4.out (by omega)
        subst hA
        have hx := HY4.out l4[i] (List.getElem_mem h1)
        have HCX := Aside0.mk (hcell i _ (List.getElem?_eq_getElem h1))
        clear hcell
        generalize l4[i] = x at *
        obtain ⟨r, hr⟩ : ∃ r : Nat, x % 5 = (r : Int) := ⟨(x % 5).toNat, by omega⟩
        have hr5 : r < 5 := by omega
        have hr0 : (0 : Int) ≤ (r : Int) := by omega
        have hx0 := hx.1
        have hx1 := hx.2
        clear hx
        have hcx : ∀ o1 : Obj, (wr.alloc o1).cell? ⟨b, o + i, none⟩ = some (.int .u8 x) := fun o1 => ((below_alloc HBR.out o1).cell (p := ⟨b, o + i, none⟩) (by have := HB5.out.size; show b < _; omega)).trans ((HB5.out.cell (p := ⟨b, o + i, none⟩) hbs).trans HCX.out)
        have hnm := nameT_cell wr r hr5
        have HY := Aside0.mk (nameT_small r)
        generalize nameT.getD r ByteArray.empty = y at *
        go_wp2_with (at_builtin; refine Kd.R_append Kd.string (w0 := w5) w5.heap.size rfl (.tmp 30) (.tmp 40) 29 9 (.string ⟨#[]⟩) 16 rfl Tryz.underlying29 info9 rfl (by decide) (by omega) _ ns y [.string y] (fun _ => True) (fun _ => False) rfl (by show Value.slice (some ⟨wr.heap.size + 1, 0, none⟩) 1 1 = _; simp) ?aP (fun _ hk => hk.elim) ?aF ?aO ?aB ?aS ?aL ?_; (case aP => exact rfl); (case aB => exact below_alloc HBR.out _); (case aF => exact (fun _ _ => trivial)); (case aO => exact Kd.R_alloc HROW.out _); (case aS => have := HBR.out.size; simp; omega); (case aL => have := HN.out; omega); intro v1 w9 ho hb hg hat; have HO := Aside0.mk ho; have HB9 := Aside0.mk hb; clear ho hb hg hat)
        go_roundw
        case rel => exact ⟨i + 1, ns ++ [y], by omega, by go_num, by have := HN.out; simp; omega, small_snoc HSM.out HY.out, HO.out, HB9.out⟩
        case measure => simp [intOf]; omega
      · have HBW := Aside0.mk (HB5.out.trans (HBR.out.mono HB5.out.size))
        have HB2R := Aside0.mk (HB25.out.trans (HBR.out.mono HB25.out.size))
        obtain ⟨AN, cN, rfl, hlN, _⟩ := Kd.R_reads HROW.out
        go_wp2_with fail
        with_reducible refine (HC2.out _ HBW.out).mono ?_
        rintro e w7 ⟨⟨m2, t2, s2, r2, mi2, A2', c2', L2⟩, rfl, ho, hb⟩
        simp only [Hd.v]
        have HO := Aside0.mk ho
        have HB7 := Aside0.mk hb
        clear ho hb
        have hzs : w2.heap.size + 2 ≤ wr.heap.size := by have := HS5.out; have := HBR.out.size; omega
        have HZS := Aside0.mk hzs
        clear hzs
        have HX07 := Aside0.mk ((HB7.out.block _ (by have := HZS.out; omega)).trans ((HBR.out.block _ (by have := HS5.out; omega)).trans HX0.out))
        have HX17 := Aside0.mk ((HB7.out.block _ (by have := HZS.out; omega)).trans ((HBR.out.block _ (by have := HS5.out; omega)).trans HX1.out))
        have hsz7 := HB7.out.size
        have HQ := Aside0.mk (fun (o1 : Obj) => And.intro (seven_cells (W := w7.alloc o1) ((Below.heap_alloc _ _ _ (by have := HZS.out; omega)).trans HX07.out)) (seven_cells (W := w7.alloc o1) ((Below.heap_alloc _ _ _ (by have := HZS.out; omega)).trans HX17.out)))
        have x0 := fun (o1 : Obj) => (HQ.out o1).1.1
        have y0 := fun (o1 : Obj) => (HQ.out o1).2.1
        have x1 := fun (o1 : Obj) => (HQ.out o1).1.2.1
        have y1 := fun (o1 : Obj) => (HQ.out o1).2.2.1
        have x2 := fun (o1 : Obj) => (HQ.out o1).1.2.2.1
        have y2 := fun (o1 : Obj) => (HQ.out o1).2.2.2.1
        have x3 := fun (o1 : Obj) => (HQ.out o1).1.2.2.2.1
        have y3 := fun (o1 : Obj) => (HQ.out o1).2.2.2.2.1
        have x4 := fun (o1 : Obj) => (HQ.out o1).1.2.2.2.2.1
        have y4 := fun (o1 : Obj) => (HQ.out o1).2.2.2.2.2.1
        have x5 := fun (o1 : Obj) => (HQ.out o1).1.2.2.2.2.2.1
        have y5 := fun (o1 : Obj) => (HQ.out o1).2.2.2.2.2.2.1
        have x6 := fun (o1 : Obj) => (HQ.out o1).1.2.2.2.2.2.2
        have y6 := fun (o1 : Obj) => (HQ.out o1).2.2.2.2.2.2.2
        clear hsz7
        go_wp2_with fail
        clear x0 x1 x2 x3 x4 x5 x6 y0 y1 y2 y3 y4 y5 y6
        generalize hw8 : w7.alloc (.cells #[.string m2, .string t2, .int .i64 s2, .string r2, .int .i64 mi2, .slice A2' L2.length c2'] 25) = w8
        have hb8 : Below w7.heap.size w7 w8 := by rw [← hw8]; exact below_alloc (Below.refl _ _) _
        have hs8 : w8.heap.size = w7.heap.size + 1 := by rw [← hw8]; simp
        have HH8 := Aside0.mk ((by rw [← hw8]; exact heap_alloc_new w7 _) : w8.heap[w7.heap.size]? = some (.cells #[.string m2, .string t2, .int .i64 s2, .string r2, .int .i64 mi2, .slice A2' L2.length c2'] 25 (0, 0)))
        have HX08 := Aside0.mk ((hb8.block _ (by have := HZS.out; have := HB7.out.size; omega)).trans HX07.out)
        have HX18 := Aside0.mk ((hb8.block _ (by have := HZS.out; have := HB7.out.size; omega)).trans HX17.out)
        have HR8 := Aside0.mk (HB7.out.trans (hb8.mono HB7.out.size))
        have HB28 := Aside0.mk (HB2R.out.trans (HR8.out.mono HB2R.out.size))
        have HB8 := Aside0.mk (HBW.out.trans (HR8.out.mono HBW.out.size))
        have HO8 := Aside0.mk (HO.out.below hb8)
        have HROW8 := Aside0.mk (Kd.R_below HROW.out HR8.out)
        have HS8 := Aside0.mk hs8
        have HSR := Aside0.mk HB7.out.size
        clear hb8 hw8 hs8
        have HFN := Aside0.mk (⟨by have := HN.out; omega, fun n hn => by have := HSM.out n hn; omega⟩ : FewN ns)
        have h17 := same_calls ⟨m0, t0, s0, r0, mi0, A0', c0', L0⟩ bx0 ⟨m1, t1, s1, r1, mi1, A1', c1', L1⟩ bx1 ⟨m2, t2, s2, r2, mi2, A2', c2', L2⟩ AN cN ns w8 (HI0.out.below HB28.out) (HI1.out.below HB28.out) HO8.out.in_ (by have := HM0.out.1; simp only at this ⊢; omega) (by have := HM0.out.2; simp only at this ⊢; omega) (Kd.R_reads' HROW8.out).2.2 hlN HFN.out
        simp only [Hd.mv, Hd.v] at h17
        with_reducible refine h17.mono ?_
        clear h17
        rintro e w9 ⟨rfl, hb9⟩
        have HB9 := Aside0.mk hb9
        clear hb9
        go_wp2_with fail
        obtain ⟨sT, hsT, h18⟩ := HC3.out w9 (HB8.out.trans (HB9.out.mono HB8.out.size))
        with_reducible refine h18.mono ?_
        clear h18
        rintro e w10 ⟨rfl, hb10⟩
        have HB10 := Aside0.mk (belTrans hb10 HB9.out)
        have HT := Aside0.mk hsT
        clear hb10 hsT
        have hq0 := (HB10.out.block _ (by have := HS8.out; have := HZS.out; have := HSR.out; omega)).trans HX08.out
        obtain ⟨x0, x1, x2, x3, x4, x5, x6⟩ := seven_cells hq0
        have f1 := blk_frozen hq0 1
        have HQ0 := Aside0.mk hq0
        clear hq0
        go_wp2_with fail
        clear x0 x1 x2 x3 x4 x5 x6 f1
        generalize hw11 : w10.setCell ⟨w2.heap.size, 1, none⟩ (.string sT) = w11
        have HX011 := Aside0.mk ((by rw [← hw11]; exact blk_put HQ0.out 1 _ rfl) : w11.heap[w2.heap.size]? = some (.cells #[.string m0, .string sT, .int .i64 s0, .string r0, .int .i64 mi0, .slice A0' L0.length c0', .string bx0] 27 (0, 0)))
        have HH11 := Aside0.mk ((by rw [← hw11]; exact (Below.heap_setCell _ _ _ _ (by have := HZS.out; have := HSR.out; show _ ≠ w2.heap.size; omega)).trans ((HB10.out.block _ (by have := HS8.out; omega)).trans HH8.out)) : w11.heap[w7.heap.size]? = some (.cells #[.string m2, .string t2, .int .i64 s2, .string r2, .int .i64 mi2, .slice A2' L2.length c2'] 25 (0, 0)))
        have HB211 := Aside0.mk ((by rw [← hw11]; exact (HB28.out.trans (HB10.out.mono HB28.out.size)).setCell (Nat.le_refl _) _) : Below w2.heap.size w2 w11)
        have HB11 := Aside0.mk ((by rw [← hw11]; exact (HB8.out.trans (HB10.out.mono HB8.out.size)).setCell (by have := HB2.out.size; exact this) _) : Below w.heap.size w w11)
        have HO11 := Aside0.mk ((by rw [← hw11]; exact (HO8.out.below HB10.out).set (by have := HZS.out; show w2.heap.size < _; omega) _) : OwnHd wr ⟨m2, t2, s2, r2, mi2, A2', c2', L2⟩ w11)
        have HROW11 := Aside0.mk ((by rw [← hw11]; exact Kd.R_mono (Kd.R_far (p := ⟨w2.heap.size, 1, none⟩) (Kd.R_bound (Kd.R_below HROW8.out HB10.out)) (fun k hk => by have := hk.2.1; have := HS5.out; show k ≠ w2.heap.size; omega) _) (fun _ _ => trivial)) : Kd.R Kd.string 9 w11 w5.heap.size (fun _ => True) (.slice AN ns.length cN) ns)
        have HS11 := Aside0.mk ((by rw [← hw11]; have := HB10.out.size; simp [World.setCell]; have := HS8.out; omega) : w7.heap.size < w11.heap.size)
        clear hw11
        with_reducible refine (awake_calls _).mono ?_
        rintro e w12 ⟨rfl, hb12⟩
        have HB12 := Aside0.mk hb12
        clear hb12
        obtain ⟨x0, x1, x2, x3, x4, x5, x6⟩ := seven_cells ((HB12.out.block _ (by have := HS11.out; have := HZS.out; have := HSR.out; omega)).trans HX011.out)
        obtain ⟨z0, z1, z2, z3, z4, z5⟩ := six_cells ((HB12.out.block _ HS11.out).trans HH11.out)
        go_wp2_with fail
        clear x0 x1 x2 x3 x4 x5 x6 z0 z1 z2 z3 z4 z5
        have HI0' := Aside0.mk (⟨HI0.out.rd, HI0.out.cap, HI0.out.few⟩ : Hd.In ⟨m0, sT, s0, r0, mi0, A0', c0', L0⟩ w2)
        have HB212 := Aside0.mk (HB211.out.trans (HB12.out.mono HB211.out.size))
        have h17 := same_calls ⟨m0, sT, s0, r0, mi0, A0', c0', L0⟩ bx0 ⟨m0, sT, s0, r0, mi0, A0', c0', L0⟩ bx0 ⟨m2, t2, s2, r2, mi2, A2', c2', L2⟩ AN cN ns w12 (HI0'.out.below HB212.out) (HI0'.out.below HB212.out) (HO11.out.below HB12.out).in_ (by have := HM0.out.1; simp only at this ⊢; omega) (by have := HT.out; simp only; omega) (Kd.R_reads' (Kd.R_below HROW11.out HB12.out)).2.2 hlN HFN.out
        simp only [Hd.mv, Hd.v] at h17
        with_reducible refine h17.mono ?_
        clear h17
        rintro e w13 ⟨rfl, hb13⟩
        go_wp2_with fail
        go_ret
        exact ⟨rfl, HB11.out.trans ((belTrans hb13 HB12.out).mono HB11.out.size)⟩
    · have HBW := Aside0.mk (HB5.out.trans (HBR.out.mono HB5.out.size))
      have HB2R := Aside0.mk (HB25.out.trans (HBR.out.mono HB25.out.size))
      obtain ⟨AN, cN, rfl, hlN, _⟩ := Kd.R_reads HROW.out
      go_wp2_with fail
      with_reducible refine (HC2.out _ HBW.out).mono ?_
      rintro e w7 ⟨⟨m2, t2, s2, r2, mi2, A2', c2', L2⟩, rfl, ho, hb⟩
      simp only [Hd.v]
      have HO := Aside0.mk ho
      have HB7 := Aside0.mk hb
      clear ho hb
      have hzs : w2.heap.size + 2 ≤ wr.heap.size := by have := HS5.out; have := HBR.out.size; omega
      have HZS := Aside0.mk hzs
      clear hzs
      have HX07 := Aside0.mk ((HB7.out.block _ (by have := HZS.out; omega)).trans ((HBR.out.block _ (by have := HS5.out; omega)).trans HX0.out))
      have HX17 := Aside0.mk ((HB7.out.block _ (by have := HZS.out; omega)).trans ((HBR.out.block _ (by have := HS5.out; omega)).trans HX1.out))
      have hsz7 := HB7.out.size
      have HQ := Aside0.mk (fun (o1 : Obj) => And.intro (seven_cells (W := w7.alloc o1) ((Below.heap_alloc _ _ _ (by have := HZS.out; omega)).trans HX07.out)) (seven_cells (W := w7.alloc o1) ((Below.heap_alloc _ _ _ (by have := HZS.out; omega)).trans HX17.out)))
      have x0 := fun (o1 : Obj) => (HQ.out o1).1.1
      have y0 := fun (o1 : Obj) => (HQ.out o1).2.1
      have x1 := fun (o1 : Obj) => (HQ.out o1).1.2.1
      have y1 := fun (o1 : Obj) => (HQ.out o1).2.2.1
      have x2 := fun (o1 : Obj) => (HQ.out o1).1.2.2.1
      have y2 := fun (o1 : Obj) => (HQ.out o1).2.2.2.1
      have x3 := fun (o1 : Obj) => (HQ.out o1).1.2.2.2.1
      have y3 := fun (o1 : Obj) => (HQ.out o1).2.2.2.2.1
      have x4 := fun (o1 : Obj) => (HQ.out o1).1.2.2.2.2.1
      have y4 := fun (o1 : Obj) => (HQ.out o1).2.2.2.2.2.1
      have x5 := fun (o1 : Obj) => (HQ.out o1).1.2.2.2.2.2.1
      have y5 := fun (o1 : Obj) => (HQ.out o1).2.2.2.2.2.2.1
      have x6 := fun (o1 : Obj) => (HQ.out o1).1.2.2.2.2.2.2
      have y6 := fun (o1 : Obj) => (HQ.out o1).2.2.2.2.2.2.2
      clear hsz7
      go_wp2_with fail
      clear x0 x1 x2 x3 x4 x5 x6 y0 y1 y2 y3 y4 y5 y6
      generalize hw8 : w7.alloc (.cells #[.string m2, .string t2, .int .i64 s2, .string r2, .int .i64 mi2, .slice A2' L2.length c2'] 25) = w8
      have hb8 : Below w7.heap.size w7 w8 := by rw [← hw8]; exact below_alloc (Below.refl _ _) _
      have hs8 : w8.heap.size = w7.heap.size + 1 := by rw [← hw8]; simp
      have HH8 := Aside0.mk ((by rw [← hw8]; exact heap_alloc_new w7 _) : w8.heap[w7.heap.size]? = some (.cells #[.string m2, .string t2, .int .i64 s2, .string r2, .int .i64 mi2, .slice A2' L2.length c2'] 25 (0, 0)))
      have HX08 := Aside0.mk ((hb8.block _ (by have := HZS.out; have := HB7.out.size; omega)).trans HX07.out)
      have HX18 := Aside0.mk ((hb8.block _ (by have := HZS.out; have := HB7.out.size; omega)).trans HX17.out)
      have HR8 := Aside0.mk (HB7.out.trans (hb8.mono HB7.out.size))
      have HB28 := Aside0.mk (HB2R.out.trans (HR8.out.mono HB2R.out.size))
      have HB8 := Aside0.mk (HBW.out.trans (HR8.out.mono HBW.out.size))
      have HO8 := Aside0.mk (HO.out.below hb8)
      have HROW8 := Aside0.mk (Kd.R_below HROW.out HR8.out)
      have HS8 := Aside0.mk hs8
      have HSR := Aside0.mk HB7.out.size
      clear hb8 hw8 hs8
      have HFN := Aside0.mk (⟨by have := HN.out; omega, fun n hn => by have := HSM.out n hn; omega⟩ : FewN ns)
      have h17 := same_calls ⟨m0, t0, s0, r0, mi0, A0', c0', L0⟩ bx0 ⟨m1, t1, s1, r1, mi1, A1', c1', L1⟩ bx1 ⟨m2, t2, s2, r2, mi2, A2', c2', L2⟩ AN cN ns w8 (HI0.out.below HB28.out) (HI1.out.below HB28.out) HO8.out.in_ (by have := HM0.out.1; simp only at this ⊢; omega) (by have := HM0.out.2; simp only at this ⊢; omega) (Kd.R_reads' HROW8.out).2.2 hlN HFN.out
      simp only [Hd.mv, Hd.v] at h17
      with_reducible refine h17.mono ?_
      clear h17
      rintro e w9 ⟨rfl, hb9⟩
      have HB9 := Aside0.mk hb9
      clear hb9
      go_wp2_with fail
      obtain ⟨sT, hsT, h18⟩ := HC3.out w9 (HB8.out.trans (HB9.out.mono HB8.out.size))
      with_reducible refine h18.mono ?_
      clear h18
      rintro e w10 ⟨rfl, hb10⟩
      have HB10 := Aside0.mk (belTrans hb10 HB9.out)
      have HT := Aside0.mk hsT
      clear hb10 hsT
      have hq0 := (HB10.out.block _ (by have := HS8.out; have := HZS.out; have := HSR.out; omega)).trans HX08.out
      obtain ⟨x0, x1, x2, x3, x4, x5, x6⟩ := seven_cells hq0
      have f1 := blk_frozen hq0 1
      have HQ0 := Aside0.mk hq0
      clear hq0
      go_wp2_with fail
      clear x0 x1 x2 x3 x4 x5 x6 f1
      generalize hw11 : w10.setCell ⟨w2.heap.size, 1, none⟩ (.string sT) = w11
      have HX011 := Aside0.mk ((by rw [← hw11]; exact blk_put HQ0.out 1 _ rfl) : w11.heap[w2.heap.size]? = some (.cells #[.string m0, .string sT, .int .i64 s0, .string r0, .int .i64 mi0, .slice A0' L0.length c0', .string bx0] 27 (0, 0)))
      have HH11 := Aside0.mk ((by rw [← hw11]; exact (Below.heap_setCell _ _ _ _ (by have := HZS.out; have := HSR.out; show _ ≠ w2.heap.size; omega)).trans ((HB10.out.block _ (by have := HS8.out; omega)).trans HH8.out)) : w11.heap[w7.heap.size]? = some (.cells #[.string m2, .string t2, .int .i64 s2, .string r2, .int .i64 mi2, .slice A2' L2.length c2'] 25 (0, 0)))
      have HB211 := Aside0.mk ((by rw [← hw11]; exact (HB28.out.trans (HB10.out.mono HB28.out.size)).setCell (Nat.le_refl _) _) : Below w2.heap.size w2 w11)
      have HB11 := Aside0.mk ((by rw [← hw11]; exact (HB8.out.trans (HB10.out.mono HB8.out.size)).setCell (by have := HB2.out.size; exact this) _) : Below w.heap.size w w11)
      have HO11 := Aside0.mk ((by rw [← hw11]; exact (HO8.out.below HB10.out).set (by have := HZS.out; show w2.heap.size < _; omega) _) : OwnHd wr ⟨m2, t2, s2, r2, mi2, A2', c2', L2⟩ w11)
      have HROW11 := Aside0.mk ((by rw [← hw11]; exact Kd.R_mono (Kd.R_far (p := ⟨w2.heap.size, 1, none⟩) (Kd.R_bound (Kd.R_below HROW8.out HB10.out)) (fun k hk => by have := hk.2.1; have := HS5.out; show k ≠ w2.heap.size; omega) _) (fun _ _ => trivial)) : Kd.R Kd.string 9 w11 w5.heap.size (fun _ => True) (.slice AN ns.length cN) ns)
      have HS11 := Aside0.mk ((by rw [← hw11]; have := HB10.out.size; simp [World.setCell]; have := HS8.out; omega) : w7.heap.size < w11.heap.size)
      clear hw11
      with_reducible refine (awake_calls _).mono ?_
      rintro e w12 ⟨rfl, hb12⟩
      have HB12 := Aside0.mk hb12
      clear hb12
      obtain ⟨x0, x1, x2, x3, x4, x5, x6⟩ := seven_cells ((HB12.out.block _ (by have := HS11.out; have := HZS.out; have := HSR.out; omega)).trans HX011.out)
      obtain ⟨z0, z1, z2, z3, z4, z5⟩ := six_cells ((HB12.out.block _ HS11.out).trans HH11.out)
      go_wp2_with fail
      clear x0 x1 x2 x3 x4 x5 x6 z0 z1 z2 z3 z4 z5
      have HI0' := Aside0.mk (⟨HI0.out.rd, HI0.out.cap, HI0.out.few⟩ : Hd.In ⟨m0, sT, s0, r0, mi0, A0', c0', L0⟩ w2)
      have HB212 := Aside0.mk (HB211.out.trans (HB12.out.mono HB211.out.size))
      have h17 := same_calls ⟨m0, sT, s0, r0, mi0, A0', c0', L0⟩ bx0 ⟨m0, sT, s0, r0, mi0, A0', c0', L0⟩ bx0 ⟨m2, t2, s2, r2, mi2, A2', c2', L2⟩ AN cN ns w12 (HI0'.out.below HB212.out) (HI0'.out.below HB212.out) (HO11.out.below HB12.out).in_ (by have := HM0.out.1; simp only at this ⊢; omega) (by have := HT.out; simp only; omega) (Kd.R_reads' (Kd.R_below HROW11.out HB12.out)).2.2 hlN HFN.out
      simp only [Hd.mv, Hd.v] at h17
      with_reducible refine h17.mono ?_
      clear h17
      rintro e w13 ⟨rfl, hb13⟩
      go_wp2_with fail
      go_ret
      exact ⟨rfl, HB11.out.trans ((belTrans hb13 HB12.out).mono HB11.out.size)⟩
end Go.Proofs.YtalafpigfeiaiaaGreatDoor.Q
end
section
namespace Go.Proofs.YtalafpigfeiaiaaGreatDoor.keyMade
open Go.ChangeShapes Go.WideShapes Go.ChangeAt Go.RowKit
open Go.ChangeMaps (open_string shut_string)
set_option linter.unusedVariables false
theorem own : ownKnob Tryz.prog.godebug = none := by kernel_rfl
theorem laidOut : laidOutB Tryz.prog = true := by kernel_rfl
def IsRow (k : IntKind) (w : World) (a : Option Addr) (len cap : Nat) (zs : List Int) : Prop :=
  (a = none ∧ len = 0 ∧ cap = 0 ∧ zs = []) ∨
  ∃ x, a = some x ∧ len ≤ cap ∧ cap ≤ maxLen ∧ zs.length = cap ∧ (∀ i, i < zs.length → w.cell? (x.add i) = some (.int k (zs.getD i 0))) ∧ ∀ n ∈ zs, (Lit.int k n).wf = true
theorem bytes_of {l : List Int} (h : ∀ x ∈ l, (Lit.int .u8 x).wf = true) : ∀ x ∈ l, 0 ≤ x ∧ x < 256 := fun x hx => by
  have := h x hx
  have h2 : 0 ≤ x ∧ x ≤ 255 := by simpa [Lit.wf, IntKind.min, IntKind.max, IntKind.signed, IntKind.bits] using this
  omega
set_option maxRecDepth 100000 in
theorem contract (H : Type) (enc : TypeId × Value → H) (W : World) (base : Nat) (args : Array Value) (ds gs : List (DataW H)) (before : List MemPlace)
    (hval0 : ∀ (j : Nat) t v, Tryz.f3.params[j]? = some t → args[j]? = some v → Value.okWide Tryz.prog W .any base t v)
    (hW : DataW.Whole enc Tryz.prog Tryz.f3.params.toList Rows.keyMadeSpec.vars false W args.toList ds gs before) :
    Calls Tryz.prog 3 args W fun e W' => ∃ v, e = .returned v ∧ Rows.keyMadeSpec.post enc Tryz.prog Tryz.f3 false true false false W args v W' := by
  have hval : ∀ (j : Nat) t v, Tryz.f3.params[j]? = some t → args[j]? = some v → Value.okWide Tryz.prog W .any base t v := hval0
  have hW' := hW
  obtain ⟨p, q, hA0, hV, rfl, hfz, hnd⟩ := hW
  have hA : DataW.TrodAll enc Tryz.prog W 0 (fun _ => true) true Tryz.f3.params.toList args.toList ds p := hA0
  rw [Tryz.params3] at hA hval
  obtain ⟨v0, vs0, d0, ds0, p0, q0, hargs, rfl, rfl, h0, r0⟩ := trodAll_cons hA
  obtain ⟨v1, vs1, d1, ds1, p1, q1, rfl, rfl, rfl, h1, r1⟩ := trodAll_cons r0
  obtain ⟨v2, vs2, d2, ds2, p2, q2, rfl, rfl, rfl, h2, r2⟩ := trodAll_cons r1
  obtain ⟨v3, vs3, d3, ds3, p3, q3, rfl, rfl, rfl, h3, r3⟩ := trodAll_cons r2
  obtain ⟨v4, vs4, d4, ds4, p4, q4, rfl, rfl, rfl, h4, r4⟩ := trodAll_cons r3
  obtain ⟨rfl, rfl, rfl⟩ := trodAll_nil r4
  obtain rfl : args = #[v0, v1, v2, v3, v4] := by cases args; simp_all
  obtain ⟨rfl, rfl⟩ := trodVars_none hV
  obtain ⟨a0, len0, cap0, rfl⟩ := okWide_slice Tryz.underlying22 (hval 0 22 v0 rfl rfl)
  have k0 := h0
  have lt0 : ∀ x ∈ p0, x.block < W.heap.size := by obtain ⟨m, hm⟩ := k0; exact DataW.trod_lt m _ _ _ hm
  obtain ⟨z0, w0⟩ : ∃ zs, IsRow .u8 W a0 len0 cap0 zs := by
    obtain ⟨fuel, hf⟩ := h0
    rcases open_ints Tryz.underlying22 Tryz.underlying5 (by kernel_rfl) hf with ⟨hcs, _⟩ | ⟨x, l, c, zs, hcs, _, hl, hm, hz, _, hcell, hwz⟩
    · simp [Value.cells] at hcs
      obtain ⟨rfl, rfl, rfl⟩ := hcs
      exact ⟨[], .inl ⟨rfl, rfl, rfl, rfl⟩⟩
    · simp [Value.cells] at hcs
      obtain ⟨rfl, rfl, rfl⟩ := hcs
      exact ⟨zs, .inr ⟨_, rfl, hl, hm, by simpa using hz, hcell, hwz⟩⟩
  obtain ⟨l0, rfl, hr0, hm0, hw0, hc0⟩ := Go.Proofs.YtalafpigfeiaiaaGreatDoorW.PrintWords.ReadsInt.ofRowC w0
  obtain ⟨a1, len1, cap1, rfl⟩ := okWide_slice Tryz.underlying22 (hval 1 22 v1 rfl rfl)
  have k1 := h1
  have lt1 : ∀ x ∈ p1, x.block < W.heap.size := by obtain ⟨m, hm⟩ := k1; exact DataW.trod_lt m _ _ _ hm
  obtain ⟨z1, w1⟩ : ∃ zs, IsRow .u8 W a1 len1 cap1 zs := by
    obtain ⟨fuel, hf⟩ := h1
    rcases open_ints Tryz.underlying22 Tryz.underlying5 (by kernel_rfl) hf with ⟨hcs, _⟩ | ⟨x, l, c, zs, hcs, _, hl, hm, hz, _, hcell, hwz⟩
    · simp [Value.cells] at hcs
      obtain ⟨rfl, rfl, rfl⟩ := hcs
      exact ⟨[], .inl ⟨rfl, rfl, rfl, rfl⟩⟩
    · simp [Value.cells] at hcs
      obtain ⟨rfl, rfl, rfl⟩ := hcs
      exact ⟨zs, .inr ⟨_, rfl, hl, hm, by simpa using hz, hcell, hwz⟩⟩
  obtain ⟨l1, rfl, hr1, hm1, hw1, hc1⟩ := Go.Proofs.YtalafpigfeiaiaaGreatDoorW.PrintWords.ReadsInt.ofRowC w1
  obtain ⟨a2, len2, cap2, rfl⟩ := okWide_slice Tryz.underlying22 (hval 2 22 v2 rfl rfl)
  have k2 := h2
  have lt2 : ∀ x ∈ p2, x.block < W.heap.size := by obtain ⟨m, hm⟩ := k2; exact DataW.trod_lt m _ _ _ hm
  obtain ⟨z2, w2⟩ : ∃ zs, IsRow .u8 W a2 len2 cap2 zs := by
    obtain ⟨fuel, hf⟩ := h2
    rcases open_ints Tryz.underlying22 Tryz.underlying5 (by kernel_rfl) hf with ⟨hcs, _⟩ | ⟨x, l, c, zs, hcs, _, hl, hm, hz, _, hcell, hwz⟩
    · simp [Value.cells] at hcs
      obtain ⟨rfl, rfl, rfl⟩ := hcs
      exact ⟨[], .inl ⟨rfl, rfl, rfl, rfl⟩⟩
    · simp [Value.cells] at hcs
      obtain ⟨rfl, rfl, rfl⟩ := hcs
      exact ⟨zs, .inr ⟨_, rfl, hl, hm, by simpa using hz, hcell, hwz⟩⟩
  obtain ⟨l2, rfl, hr2, hm2, hw2, hc2⟩ := Go.Proofs.YtalafpigfeiaiaaGreatDoorW.PrintWords.ReadsInt.ofRowC w2
  obtain ⟨a3, len3, cap3, rfl⟩ := okWide_slice Tryz.underlying22 (hval 3 22 v3 rfl rfl)
  have k3 := h3
  have lt3 : ∀ x ∈ p3, x.block < W.heap.size := by obtain ⟨m, hm⟩ := k3; exact DataW.trod_lt m _ _ _ hm
  obtain ⟨z3, w3⟩ : ∃ zs, IsRow .u8 W a3 len3 cap3 zs := by
    obtain ⟨fuel, hf⟩ := h3
    rcases open_ints Tryz.underlying22 Tryz.underlying5 (by kernel_rfl) hf with ⟨hcs, _⟩ | ⟨x, l, c, zs, hcs, _, hl, hm, hz, _, hcell, hwz⟩
    · simp [Value.cells] at hcs
      obtain ⟨rfl, rfl, rfl⟩ := hcs
      exact ⟨[], .inl ⟨rfl, rfl, rfl, rfl⟩⟩
    · simp [Value.cells] at hcs
      obtain ⟨rfl, rfl, rfl⟩ := hcs
      exact ⟨zs, .inr ⟨_, rfl, hl, hm, by simpa using hz, hcell, hwz⟩⟩
  obtain ⟨l3, rfl, hr3, hm3, hw3, hc3⟩ := Go.Proofs.YtalafpigfeiaiaaGreatDoorW.PrintWords.ReadsInt.ofRowC w3
  obtain ⟨a4, len4, cap4, rfl⟩ := okWide_slice Tryz.underlying22 (hval 4 22 v4 rfl rfl)
  have k4 := h4
  have lt4 : ∀ x ∈ p4, x.block < W.heap.size := by obtain ⟨m, hm⟩ := k4; exact DataW.trod_lt m _ _ _ hm
  obtain ⟨z4, w4⟩ : ∃ zs, IsRow .u8 W a4 len4 cap4 zs := by
    obtain ⟨fuel, hf⟩ := h4
    rcases open_ints Tryz.underlying22 Tryz.underlying5 (by kernel_rfl) hf with ⟨hcs, _⟩ | ⟨x, l, c, zs, hcs, _, hl, hm, hz, _, hcell, hwz⟩
    · simp [Value.cells] at hcs
      obtain ⟨rfl, rfl, rfl⟩ := hcs
      exact ⟨[], .inl ⟨rfl, rfl, rfl, rfl⟩⟩
    · simp [Value.cells] at hcs
      obtain ⟨rfl, rfl, rfl⟩ := hcs
      exact ⟨zs, .inr ⟨_, rfl, hl, hm, by simpa using hz, hcell, hwz⟩⟩
  obtain ⟨l4, rfl, hr4, hm4, hw4, hc4⟩ := Go.Proofs.YtalafpigfeiaiaaGreatDoorW.PrintWords.ReadsInt.ofRowC w4
  clear hA0 hval0
  refine (Q.keyMade_walk a0 cap0 l0 (Go.Proofs.YtalafpigfeiaiaaGreatDoorW.PrintWords.Kd.C_of_reads (d := (0 : Int)) (h1 := fun _ => rfl) hr0) hc0 (bytes_of hw0) a1 cap1 l1 (Go.Proofs.YtalafpigfeiaiaaGreatDoorW.PrintWords.Kd.C_of_reads (d := (0 : Int)) (h1 := fun _ => rfl) hr1) hc1 (bytes_of hw1) a2 cap2 l2 (Go.Proofs.YtalafpigfeiaiaaGreatDoorW.PrintWords.Kd.C_of_reads (d := (0 : Int)) (h1 := fun _ => rfl) hr2) hc2 (bytes_of hw2) a3 cap3 l3 (Go.Proofs.YtalafpigfeiaiaaGreatDoorW.PrintWords.Kd.C_of_reads (d := (0 : Int)) (h1 := fun _ => rfl) hr3) hc3 (bytes_of hw3) a4 cap4 l4 (Go.Proofs.YtalafpigfeiaiaaGreatDoorW.PrintWords.Kd.C_of_reads (d := (0 : Int)) (h1 := fun _ => rfl) hr4) hc4 (bytes_of hw4)).mono fun e W' ⟨he, bel⟩ => ?_
  subst he
  exact ⟨_, rfl, _, _, _, [], _, [], hW', trodAll_mk1 (shut_bool Tryz.underlying4 _), (trodAll_cons_mk (Below.trod laidOut (by kernel_rfl) (of_decide_eq_true (by kernel_rfl)) k0 bel lt0) (trodAll_cons_mk (Below.trod laidOut (by kernel_rfl) (of_decide_eq_true (by kernel_rfl)) k1 bel lt1) (trodAll_cons_mk (Below.trod laidOut (by kernel_rfl) (of_decide_eq_true (by kernel_rfl)) k2 bel lt2) (trodAll_cons_mk (Below.trod laidOut (by kernel_rfl) (of_decide_eq_true (by kernel_rfl)) k3 bel lt3) (trodAll_cons_mk (Below.trod laidOut (by kernel_rfl) (of_decide_eq_true (by kernel_rfl)) k4 bel lt4) trodAll_mk0))))), rfl, bel.frame _, fun h => by cases h⟩
def numsOf : DataW Unit → Array Value
  | .agg l => (l.map fun | .lit (.int k z) => Value.int k z | _ => .nilIface).toArray
  | _ => #[]
def ranges : Array Value := #[.int .u8 128, .int .u8 191, .int .u8 160, .int .u8 191, .int .u8 128, .int .u8 159, .int .u8 144, .int .u8 191, .int .u8 128, .int .u8 143, .int .u8 0, .int .u8 0, .int .u8 0, .int .u8 0, .int .u8 0, .int .u8 0, .int .u8 0, .int .u8 0, .int .u8 0, .int .u8 0, .int .u8 0, .int .u8 0, .int .u8 0, .int .u8 0, .int .u8 0, .int .u8 0, .int .u8 0, .int .u8 0, .int .u8 0, .int .u8 0, .int .u8 0, .int .u8 0]
def laidAt (h : Array Obj) (i : Nat) (cs : Array Value) : Array Obj := h.modify i fun
  | .cells _ t frozen => .cells cs t frozen
  | o => o
noncomputable def laidWorld (os : Os) : World :=
  { World.holding Tryz.prog os ⟨#[], #[], []⟩ with heap := laidAt (laidAt (World.holding Tryz.prog os ⟨#[], #[], []⟩).heap 2 (numsOf Go.Pinned.utf8First)) 3 ranges }
theorem laid_met (os : Os) : laidMet Tryz.prog Rows.keyMadeRow.laid ((laidWorld os).forCall (fun _ _ => 0) ⟨#[], #[.slice none 0 0, .slice none 0 0, .slice none 0 0, .slice none 0 0, .slice none 0 0], []⟩).memory :=
  laidMet_of_run' 8 (by kernel_rfl) (by kernel_rfl)
theorem reads (os : Os) {H : Type} (enc : TypeId × Value → H) : ∃ places, DataW.whole enc Tryz.prog ((laidWorld os).forCall (fun _ _ => 0) ⟨#[], #[.slice none 0 0, .slice none 0 0, .slice none 0 0, .slice none 0 0, .slice none 0 0], []⟩).memory Tryz.f3.params.toList Rows.keyMadeSpec.vars false (#[Value.slice none 0 0, .slice none 0 0, .slice none 0 0, .slice none 0 0, .slice none 0 0] : Array Value).toList 8 = some ([.nil, .nil, .nil, .nil, .nil], [], places) :=
  ⟨[], by kernel_rfl⟩
set_option maxRecDepth 100000 in
theorem lifted (os : Os) (started : os.Started) (H : Type) (enc : TypeId × Value → H) (F : Stop.Interp) :
    ReturnsInHanded {} Tryz.checked os 3 .any ((OpenSpec.ofChange Rows.keyMadeSpec).preRow enc Tryz.prog Tryz.f3 Rows.keyMadeRow.domain false Rows.keyMadeRow.laid) (((OpenSpec.ofChange Rows.keyMadeSpec).at F).post enc Tryz.prog Tryz.f3 false true false false) := by
  obtain ⟨places, hx⟩ := reads os enc
  refine returnsInHanded_of_row (C := Tryz.checked) (s := OpenSpec.ofChange Rows.keyMadeSpec) own started (by kernel_rfl) Tryz.func3
    (witness_row_at (enc := enc) (C := Tryz.checked) false (laidWorld os) #[.slice none 0 0, .slice none 0 0, .slice none 0 0, .slice none 0 0, .slice none 0 0] rfl (by kernel_rfl) (by kernel_rfl) (by kernel_rfl)
      (OpenSpec.preRow_of_cond 8 hx (by kernel_rfl) (fun k hk => by cases hk) (by kernel_rfl) (laid_met os))) ?_
  intro W base args ds gs before hval hW _ _ _ hL _ _
  exact contract H enc W base args ds gs before hval hW
set_option maxHeartbeats 8000000 in
theorem said : Rows.KeyMadeSaid :=
  OpenClaim.holds_of_cond 3 Tryz.f3 rfl rfl rfl rfl rfl rfl rfl ⟨rfl, rfl, rfl, rfl, rfl⟩ rfl rfl rfl rfl rfl (by as_aux_lemma => kernel_rfl) Tryz.func3 (by as_aux_lemma => kernel_rfl)
    (of_decide_eq_true (by as_aux_lemma => kernel_rfl)) (by unfold Func.isWrapper; first | (rw [if_pos (by decide +kernel)]; kernel_rfl) | (rw [if_neg (by decide +kernel)]; exact ⟨rfl, rfl⟩))
    (fun os started H enc _ F => by rw [OpenClaim.pre_eq_preRow]; exact lifted os started H enc F)
theorem plain (f : FuncId) (fn : Func) (hf : Tryz.pinned.checked.prog.funcNamed "lockage/lockagelaw16.KeyMade" = some f) (hfn : Tryz.pinned.checked.prog.funcs[f]? = some fn) :
    false = Tryz.pinned.checked.prog.looks [] ∧ ∀ (j : Nat) t, fn.params[j]? = some t → Tryz.pinned.checked.prog.wantsStandIn t = false := by
  obtain rfl : f = 3 := Option.some.inj ((show Tryz.prog.funcNamed "lockage/lockagelaw16.KeyMade" = some 3 by kernel_rfl).symm.trans hf) |>.symm
  obtain rfl : fn = Tryz.f3 := (Option.some.inj (Tryz.func3.symm.trans hfn)).symm
  refine ⟨by kernel_rfl, fun j t ht => ?_⟩
  rw [Tryz.params3] at ht
  obtain rfl : t = 22 := by simpa using Array.mem_of_getElem? ht
  exact (show Tryz.prog.wantsStandIn 22 = false by kernel_rfl)
set_option maxHeartbeats 8000000 in
theorem card : Rows.KeyMadeCardSaid :=
  Claim7.holds_tied_plain_at .later [] _ _ _ _ said (fun _ h => by cases h) (by as_aux_lemma => kernel_rfl) (fun _ h => by cases h) keyMade_row_tie rfl ⟨rfl, rfl⟩ (by as_aux_lemma => kernel_rfl) rfl plain (by as_aux_lemma => kernel_rfl)
end Go.Proofs.YtalafpigfeiaiaaGreatDoor.keyMade
namespace Go.Proofs.YtalafpigfeiaiaaGreatDoor
theorem keyMade_card : Rows.KeyMadeCardSaid := keyMade.card
#print axioms keyMade_card
end Go.Proofs.YtalafpigfeiaiaaGreatDoor
end
