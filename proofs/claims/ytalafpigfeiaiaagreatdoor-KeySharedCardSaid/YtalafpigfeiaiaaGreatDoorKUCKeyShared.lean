/- For every input, lockagelaw16.KeyShared returns true (the tied card). No conditions. -/
import Derived.Test.YtalafpigfeiaiaaGreatDoorKU12
import Derived.Test.YtalafpigfeiaiaaGreatDoorProg
import Derived.BigRegion
import Derived.WalkKit
import Derived.ProofKit
import Derived.OpenShut
import Derived.ShutString
import Derived.ChangeOld
import Derived.Below
import Derived.Deep.DeepHandedRow
import Derived.Test.YtalafpigfeiaiaaGreatDoorCards
import Derived.Test.YtalafpigfeiaiaaGreatDoorTie
section
namespace Go.Proofs.YtalafpigfeiaiaaGreatDoor.Q
open Go.RowKit Go.Proofs.YtalafpigfeiaiaaGreatDoor.H Go.Proofs.YtalafpigfeiaiaaGreatDoorW.PrintWords Go.Proofs.YtalafpigfeiaiaaGreatDoorW.PrintLast Go.Proofs.YtalafpigfeiaiaaGreatDoorW.PrintMore
set_option linter.unusedVariables false
set_option linter.unusedSimpArgs false
def shN : List ByteArray := [⟨#[65, 117, 116, 104, 111, 114, 105, 122, 97, 116, 105, 111, 110]⟩, ⟨#[67, 79, 79, 75, 73, 69]⟩, ⟨#[114, 97, 110, 103, 101]⟩, ⟨#[67, 97, 99, 104, 101, 45, 67, 111, 110, 116, 114, 111, 108]⟩, ⟨#[99, 97, 99, 104, 101, 45, 99, 111, 110, 116, 114, 111, 108]⟩, ⟨#[88]⟩]
def shV : List ByteArray := [⟨#[]⟩, ⟨#[110, 111, 45, 115, 116, 111, 114, 101]⟩, ⟨#[97, 44, 32, 78, 111, 45, 83, 116, 111, 114, 101]⟩, ⟨#[110, 111, 45, 99, 97, 99, 104, 101]⟩, ⟨#[110, 111, 45, 115, 116, 111, 114, 101, 61, 49]⟩]
theorem getD_small (ys : List ByteArray) (h : ys.all (fun y => decide (y.size ≤ 30)) = true) (r : Nat) : (ys.getD r ByteArray.empty).size ≤ 30 := rdOf_small ys h (r : Int)
theorem lit_cell (W : World) (ys : List ByteArray) (cs : Array Value) (hc : cs.toList = ys.map Value.string) (t r : Nat) (h : r < ys.length) : (W.alloc (.cells cs t)).cell? ⟨W.heap.size, r, none⟩ = some (.string (ys.getD r ByteArray.empty)) := by
  rw [cell_of_row _ _ r _ t (0, 0) (heap_alloc_new W _), ← Array.getElem?_toList, hc, List.getElem?_map, List.getElem?_eq_getElem h, List.getD_eq_getElem?_getD, List.getElem?_eq_getElem h]
  rfl
theorem six_facts (W : World) (O : Obj) (r : Nat) (v : Value) (h : ∀ X : World, (X.alloc O).cell? ⟨X.heap.size, r, none⟩ = some v) :
    (W.alloc O).cell? ⟨W.heap.size, r, none⟩ = some v ∧ (∀ o : Obj, ((W.alloc O).alloc o).cell? ⟨W.heap.size, r, none⟩ = some v) ∧ (∀ o o2 : Obj, (((W.alloc O).alloc o).alloc o2).cell? ⟨W.heap.size, r, none⟩ = some v) ∧
    (∀ o : Obj, ((W.alloc o).alloc O).cell? ⟨W.heap.size + 1, r, none⟩ = some v) ∧ (∀ o o2 : Obj, (((W.alloc o).alloc O).alloc o2).cell? ⟨W.heap.size + 1, r, none⟩ = some v) ∧ (∀ o o2 : Obj, (((W.alloc o).alloc o2).alloc O).cell? ⟨W.heap.size + 1 + 1, r, none⟩ = some v) := by
  have k : ∀ (X : World) (o : Obj) (q : Addr), q.block < X.heap.size → (X.alloc o).cell? q = X.cell? q := fun X o q hq => (below_alloc (Below.refl _ X) o).cell hq
  have e1 : ∀ (X : World) (o : Obj), (X.alloc o).heap.size = X.heap.size + 1 := fun X o => by simp
  have g1 : ∀ o : Obj, ((W.alloc o).alloc O).cell? ⟨W.heap.size + 1, r, none⟩ = some v := fun o => by rw [← e1 W o]; exact h _
  refine ⟨h W, fun o => ?_, fun o o2 => ?_, g1, fun o o2 => ?_, fun o o2 => ?_⟩
  · rw [k _ _ _ (by simp)]; exact h W
  · rw [k _ _ _ (by simp; omega), k _ _ _ (by simp)]; exact h W
  · rw [k _ _ _ (by simp)]; exact g1 o
  · rw [← e1 W o, ← e1 (W.alloc o) o2]; exact h _
set_option maxHeartbeats 4000000 in
set_option maxRecDepth 100000 in
theorem keyShared_walk {w : World} (A0 : Option Addr) (c0 : Nat) (l0 : List Int) (hr0 : Kd.C (Kd.int .u8) w A0 l0.length l0) (hc0 : l0.length ≤ c0) (hb0 : Bytes l0) (a1 : Int) (h1 : 0 ≤ a1 ∧ a1 < 256) (a2 : Int) (h2 : 0 ≤ a2 ∧ a2 < 256) :
    Calls Tryz.prog 4 #[.slice A0 l0.length c0, .int .u8 a1, .int .u8 a2] w fun e w' => e = .returned (.bool true) ∧ Below w.heap.size w w' := by
  have HC0 := Aside0.mk (request_calls A0 c0 l0 w hr0 hb0)
  clear hr0 hb0
  obtain ⟨ra, hra⟩ : ∃ r : Nat, a1 % 6 = (r : Int) := ⟨(a1 % 6).toNat, by omega⟩
  obtain ⟨rb, hrb⟩ : ∃ r : Nat, a2 % 5 = (r : Int) := ⟨(a2 % 5).toNat, by omega⟩
  have ha6 : ra < 6 := by omega
  have hb5 : rb < 5 := by omega
  have ha1 := h1.1
  have ha2 := h1.2
  have hb1 := h2.1
  have hb2 := h2.2
  clear h1 h2
  have HYA := Aside0.mk (getD_small shN (by decide +kernel) ra)
  have HYB := Aside0.mk (getD_small shV (by decide +kernel) rb)
  have HFA := Aside0.mk (fun X : World => lit_cell X shN #[.string ⟨#[65, 117, 116, 104, 111, 114, 105, 122, 97, 116, 105, 111, 110]⟩, .string ⟨#[67, 79, 79, 75, 73, 69]⟩, .string ⟨#[114, 97, 110, 103, 101]⟩, .string ⟨#[67, 97, 99, 104, 101, 45, 67, 111, 110, 116, 114, 111, 108]⟩, .string ⟨#[99, 97, 99, 104, 101, 45, 99, 111, 110, 116, 114, 111, 108]⟩, .string ⟨#[88]⟩] rfl 9 ra ha6)
  have HFB := Aside0.mk (fun X : World => lit_cell X shV #[.string ⟨#[]⟩, .string ⟨#[110, 111, 45, 115, 116, 111, 114, 101]⟩, .string ⟨#[97, 44, 32, 78, 111, 45, 83, 116, 111, 114, 101]⟩, .string ⟨#[110, 111, 45, 99, 97, 99, 104, 101]⟩, .string ⟨#[110, 111, 45, 115, 116, 111, 114, 101, 61, 49]⟩] rfl 9 rb hb5)
  generalize shN.getD ra ByteArray.empty = ya at *
  generalize shV.getD rb ByteArray.empty = yb at *
  go_enter Tryz.func4, Tryz.ntmps4
  go_wp2_with fail
  with_reducible refine HC0.out.mono ?_
  rintro e w1 ⟨⟨m0, t0, s0, r0, mi0, A0', c0', L0⟩, bx0, rfl, _, ho, hb⟩
  simp only [Hd.mv]
  have HO := Aside0.mk ho
  have HR1 := Aside0.mk (Kd.R_mono (Kd.R_bound ho.row) (fun k hk => (by have := hk.2.2.1; omega : k ≠ w1.heap.size)))
  have HB1 := Aside0.mk hb
  clear ho hb
  go_upto_region 3 with fail
  generalize hw5 : w1.alloc (.cells #[.string ⟨#[71, 69, 84]⟩, .string t0, .int .i64 s0, .string r0, .int .i64 mi0, .slice A0' L0.length c0', .string bx0] 27) = w5
  have hb5' : Below w1.heap.size w1 w5 := by rw [← hw5]; exact below_alloc (Below.refl _ _) _
  have hs5 : w5.heap.size = w1.heap.size + 1 := by rw [← hw5]; simp
  have HX := Aside0.mk ((by rw [← hw5]; exact heap_alloc_new w1 _) : w5.heap[w1.heap.size]? = some (.cells #[.string ⟨#[71, 69, 84]⟩, .string t0, .int .i64 s0, .string r0, .int .i64 mi0, .slice A0' L0.length c0', .string bx0] 27 (0, 0)))
  have HB5 := Aside0.mk (HB1.out.trans (hb5'.mono HB1.out.size))
  have HO5 := Aside0.mk (HO.out.below hb5')
  have HS5 := Aside0.mk hs5
  have HB15 := Aside0.mk hb5'
  clear hb5' hs5 hw5
  go_cut [8] from 13 to 25 (fun v8 wx => ∃ z : Nat, v8 = .pointer (some ⟨z, 0, none⟩) ∧ Below w5.heap.size w5 wx ∧ w5.heap.size ≤ z ∧ wx.heap[z]? = some (.cells #[.string ya, .string yb] 36 (0, 0)))
  case first =>
    obtain ⟨a1_, a2_, a3_, a4_, a5_, a6_⟩ := six_facts w5 (.cells #[.string ⟨#[65, 117, 116, 104, 111, 114, 105, 122, 97, 116, 105, 111, 110]⟩, .string ⟨#[67, 79, 79, 75, 73, 69]⟩, .string ⟨#[114, 97, 110, 103, 101]⟩, .string ⟨#[67, 97, 99, 104, 101, 45, 67, 111, 110, 116, 114, 111, 108]⟩, .string ⟨#[99, 97, 99, 104, 101, 45, 99, 111, 110, 116, 114, 111, 108]⟩, .string ⟨#[88]⟩] 9) ra _ HFA.out
    obtain ⟨b1_, b2_, b3_, b4_, b5_, b6_⟩ := six_facts w5 (.cells #[.string ⟨#[]⟩, .string ⟨#[110, 111, 45, 115, 116, 111, 114, 101]⟩, .string ⟨#[97, 44, 32, 78, 111, 45, 83, 116, 111, 114, 101]⟩, .string ⟨#[110, 111, 45, 99, 97, 99, 104, 101]⟩, .string ⟨#[110, 111, 45, 115, 116, 111, 114, 101, 61, 49]⟩] 9) rb _ HFB.out
    go_region
    all_goals (go_wp2_with fail; go_meet; exact ⟨_, rfl, below_drew1 (by (repeat' first | exact Below.refl _ _ | (refine Below.alloc ?_ (by first | (simp; done) | (simp; omega)) _))), (by omega), blk_drew (by (repeat' first | exact at_new (by first | rfl | (simp; done)) | (refine at_old (by first | (simp; done) | (simp; omega)) ?_)))⟩)
  case rest =>
    obtain ⟨z, rfl, hbz, hz0, hzb⟩ := hcut
    have HBC := Aside0.mk hbz
    have HZC := Aside0.mk hzb
    have hzc := HS5.out
    have HXC := Aside0.mk ((hbz.block _ (by omega)).trans HX.out)
    have HRC := Aside0.mk (Kd.R_below HR1.out (by have q : Below w1.heap.size w1 w5 := HB15.out; exact q.trans (hbz.mono q.size)))
    have hlt : w1.heap.size < wc.heap.size := by have := hbz.size; omega
    have HLT := Aside0.mk hlt
    clear hbz hzb hzc hlt
    obtain ⟨x0, x1, x2, x3, x4, x5, x6⟩ := seven_cells HXC.out
    have f5 := blk_frozen HXC.out 5
    have y0 := (blk_cell HZC.out 0).trans rfl
    have y1 := (blk_cell HZC.out 1).trans rfl
    have HF6 := Aside0.mk (And.intro HO.out.few HO.out.len)
    go_wp2_with (at_builtin; refine Kd.R_append k36 (w0 := w) w.heap.size rfl (.tmp 28) (.tmp 30) 23 36 (.agg #[(.string ⟨#[]⟩), (.string ⟨#[]⟩)]) 32 rfl Tryz.underlying23 info36 rfl (by decide) (by omega) (.slice A0' L0.length c0') L0 (⟨ya, yb⟩ : S36) [.string ya, .string yb] (fun k => k ≠ w1.heap.size) (fun _ => False) rfl rfl ?aP (fun _ hk => hk.elim) ?aF ?aO ?aB ?aS ?aL ?_; (case aP => exact k36_mkM _ _ _ (⟨ya, yb⟩ : S36)); (case aF => exact (fun k hk => by have := HLT.out; omega)); (case aO => exact HRC.out); (case aB => exact HB5.out.trans (HBC.out.mono HB5.out.size)); (case aS => have := (HB5.out.trans (HBC.out.mono HB5.out.size)).size; exact this); (case aL => have := HF6.out.2; simp only at this; omega); intro v1 w9 ho hb hg hat; obtain ⟨AF, cF, rfl, hlF, _⟩ := Kd.R_reads ho; have HO9 := Aside0.mk ho; have HB9 := Aside0.mk hb; have HX9 := Aside0.mk ((hg.block _ HLT.out (fun e => by have := HRC.out.1 _ e.symm; exact this rfl)).trans HXC.out); clear ho hb hg hat x0 x1 x2 x3 x4 x5 x6 f5; obtain ⟨x0, x1, x2, x3, x4, x5, x6⟩ := seven_cells HX9.out; have f5 := blk_frozen HX9.out 5)
    generalize hw10 : w9.setCell ⟨w1.heap.size, 5, none⟩ (.slice AF (L0.length + 1) cF) = w10
    obtain ⟨LF, hLF⟩ : ∃ LF, L0 ++ [(⟨ya, yb⟩ : S36)] = LF := ⟨_, rfl⟩
    have hlen : L0.length + 1 = LF.length := by rw [← hLF]; simp
    have HX10 := Aside0.mk ((by rw [← hw10, ← hlen]; exact blk_put HX9.out 5 _ rfl) : w10.heap[w1.heap.size]? = some (.cells #[.string ⟨#[71, 69, 84]⟩, .string t0, .int .i64 s0, .string r0, .int .i64 mi0, .slice AF LF.length cF, .string bx0] 27 (0, 0)))
    have HR10 := Aside0.mk ((by rw [← hw10, ← hLF]; exact Kd.R_far (p := ⟨w1.heap.size, 5, none⟩) HO9.out (fun k hk => hk) _) : Kd.R k36 36 w10 w.heap.size (fun k => k ≠ w1.heap.size) (.slice AF LF.length cF) LF)
    have HB10 := Aside0.mk ((by rw [← hw10]; exact HB9.out.setCell (by have := HB1.out.size; exact this) _) : Below w.heap.size w w10)
    have HL10 := Aside0.mk ((by rw [← hw10]; have := blk_lt HX9.out; simpa [World.setCell] using this) : w1.heap.size < w10.heap.size)
    have HFW := Aside0.mk ((by rw [← hLF]; exact ⟨by have q : L0.length ≤ 6 := HF6.out.2; simp; omega, fun f hf => by have := (FewS.snoc HF6.out.1 HYA.out HYB.out) f hf; omega⟩) : Few LF)
    have HT := Aside0.mk HO.out.t
    rw [hlen]
    clear hw10 hLF hlen x0 x1 x2 x3 x4 x5 x6 f5 y0 y1
    have HXI := Aside0.mk (⟨(Kd.R_reads' HR10.out).2.2, (Kd.R_reads' HR10.out).2.1, HFW.out⟩ : Hd.In ⟨⟨#[71, 69, 84]⟩, t0, s0, r0, mi0, AF, cF, LF⟩ w10)
    have HHI := Aside0.mk (⟨(Kd.R_reads' HR10.out).2.2, (Kd.R_reads' HR10.out).2.1, HFW.out⟩ : Hd.In ⟨⟨#[]⟩, ⟨#[]⟩, 0, ⟨#[]⟩, 0, AF, cF, LF⟩ w10)
    have H1 := Aside0.mk (fun (W : World) (h : Below w10.heap.size w10 W) => shared_calls ⟨⟨#[71, 69, 84]⟩, t0, s0, r0, mi0, AF, cF, LF⟩ bx0 W (HXI.out.below h))
    have H2 := Aside0.mk (fun (W : World) (h : Below w10.heap.size w10 W) => refShared_calls ⟨⟨#[71, 69, 84]⟩, t0, s0, r0, mi0, AF, cF, LF⟩ bx0 W (HXI.out.below h))
    have H3 := Aside0.mk (fun (W : World) (h : Below w10.heap.size w10 W) => same_calls ⟨⟨#[71, 69, 84]⟩, t0, s0, r0, mi0, AF, cF, LF⟩ bx0 ⟨⟨#[71, 69, 84]⟩, t0, s0, r0, mi0, AF, cF, LF⟩ bx0 ⟨⟨#[]⟩, ⟨#[]⟩, 0, ⟨#[]⟩, 0, AF, cF, LF⟩ none 0 [] W (HXI.out.below h) (HXI.out.below h) (HHI.out.below h) (by decide : (⟨#[71, 69, 84]⟩ : ByteArray).size ≤ 1000000000) (by have := HT.out; simp only at this ⊢; omega) ⟨rfl, by decide, fun h => absurd h (by decide)⟩ (Nat.le_refl _) ⟨by decide, fun n hn => by cases hn⟩)
    simp only [Hd.mv, Hd.v, List.length_nil] at H1 H2 H3
    generalize sharedS ⟨#[71, 69, 84]⟩ bx0 LF = sh at *
    have HS := Aside0.mk (fun (W : World) (h : Below w10.heap.size w10 W) => And.intro h ((seven_cells ((h.block _ HL10.out).trans HX10.out)) : Seven W w1.heap.size (.string ⟨#[71, 69, 84]⟩) (.string t0) (.int .i64 s0) (.string r0) (.int .i64 mi0) (.slice AF LF.length cF) (.string bx0)))
    refine be (S := (fun w' => Below w10.heap.size w10 w' ∧ Seven w' w1.heap.size (.string ⟨#[71, 69, 84]⟩) (.string t0) (.int .i64 s0) (.string r0) (.int .i64 mi0) (.slice AF LF.length cF) (.string bx0))) (ds := []) 18 (by kernel_rfl) rfl (HS.out _ (Below.refl _ _).drew) (fun hHeld => ?_)
    generalize w10.drew = wd at hHeld ⊢
    refine on 0 (some 34) rfl rfl (by kernel_rfl) (by decide) (fun K hK => ?_)
    refine goes_ Tryz.func19 (by kernel_rfl) rfl #[] (by rfl) rfl rfl (by (try simp only [List.map_toArray, List.map_cons, List.map_nil]); first | done | rfl) ?_
    with_reducible refine (awake_calls _).mono ?_
    rintro e w5 ⟨rfl, hb5⟩
    refine ⟨_, rfl, ?_⟩
    replace hHeld := HS.out _ (belTrans hb5 hHeld.1)
    clear hb5
    refine hK.out _ _ hHeld (fun _ => ?_)
    clear hK K
    refine norm_ (a' := ?_) ?_ ?_
    rotate_left; (show Act.put _ (some 34) _ = _; simp only [Act.put, List.setIfInBounds_toArray, List.set_cons_zero, List.set_cons_succ, i64_w, i32_w]; rfl)
    refine pu 1 (some 35) (v := ?_) (a' := ?_) rfl rfl (by kernel_rfl) (fun _ _ _ h => h) (Or.inl ⟨by rfl, ?_⟩) ?_ ?_
    rotate_left; (intro w'; go_simp; with_reducible rfl)
    rotate_left; (simp only [Act.put, List.setIfInBounds_toArray, List.set_cons_zero, List.set_cons_succ, i64_w, i32_w]; rfl)
    refine tk 2 (some 36) (v := ?_) (a' := ?_) rfl rfl (by kernel_rfl) (fun _ _ _ h => h) (Or.inl ⟨by rfl, ?_⟩) hHeld ?_ ?_
    rotate_left; (rintro w' ⟨_, ⟨x0, x1, x2, x3, x4, x5, x6⟩⟩; go_simp; with_reducible rfl)
    rotate_left; (simp only [Act.put, List.setIfInBounds_toArray, List.set_cons_zero, List.set_cons_succ, i64_w, i32_w]; rfl)
    refine tk 4 (some 38) (v := ?_) (a' := ?_) rfl rfl (by kernel_rfl) (fun _ _ _ h => h) (Or.inl ⟨by rfl, ?_⟩) hHeld ?_ ?_
    rotate_left; (rintro w' ⟨_, ⟨x0, x1, x2, x3, x4, x5, x6⟩⟩; go_simp; with_reducible rfl)
    rotate_left; (simp only [Act.put, List.setIfInBounds_toArray, List.set_cons_zero, List.set_cons_succ, i64_w, i32_w]; rfl)
    refine on 3 (some 37) rfl rfl (by kernel_rfl) (by decide) (fun K hK => ?_)
    refine goes_ Tryz.func20 (by kernel_rfl) rfl #[.agg #[.string ⟨#[71, 69, 84]⟩, .string t0, .int .i64 s0, .string r0, .int .i64 mi0, .slice AF LF.length cF, .string bx0]] (by rfl) rfl rfl (by (try simp only [List.map_toArray, List.map_cons, List.map_nil]); first | done | rfl) ?_
    with_reducible refine (H1.out _ hHeld.1).mono ?_
    rintro e w5 ⟨rfl, hb5⟩
    refine ⟨_, rfl, ?_⟩
    replace hHeld := HS.out _ (belTrans hb5 hHeld.1)
    clear hb5
    refine hK.out _ _ hHeld (fun _ => ?_)
    clear hK K
    refine norm_ (a' := ?_) ?_ ?_
    rotate_left; (show Act.put _ (some 37) _ = _; simp only [Act.put, List.setIfInBounds_toArray, List.set_cons_zero, List.set_cons_succ, i64_w, i32_w]; rfl)
    refine on 5 (some 39) rfl rfl (by kernel_rfl) (by decide) (fun K hK => ?_)
    refine goes_ Tryz.func21 (by kernel_rfl) rfl #[.agg #[.string ⟨#[71, 69, 84]⟩, .string t0, .int .i64 s0, .string r0, .int .i64 mi0, .slice AF LF.length cF, .string bx0]] (by rfl) rfl rfl (by (try simp only [List.map_toArray, List.map_cons, List.map_nil]); first | done | rfl) ?_
    with_reducible refine (H2.out _ hHeld.1).mono ?_
    rintro e w5 ⟨rfl, hb5⟩
    refine ⟨_, rfl, ?_⟩
    replace hHeld := HS.out _ (belTrans hb5 hHeld.1)
    clear hb5
    refine hK.out _ _ hHeld (fun _ => ?_)
    clear hK K
    refine norm_ (a' := ?_) ?_ ?_
    rotate_left; (show Act.put _ (some 39) _ = _; simp only [Act.put, List.setIfInBounds_toArray, List.set_cons_zero, List.set_cons_succ, i64_w, i32_w]; rfl)
    refine pu 6 (some 40) (v := ?_) (a' := ?_) rfl rfl (by kernel_rfl) (fun _ _ _ h => h) (Or.inl ⟨by rfl, ?_⟩) ?_ ?_
    rotate_left; (intro w'; go_simp; with_reducible rfl)
    rotate_left; (simp only [Act.put, List.setIfInBounds_toArray, List.set_cons_zero, List.set_cons_succ, i64_w, i32_w]; rfl)
    refine pu 7 (some 41) (v := ?_) (a' := ?_) rfl rfl (by kernel_rfl) (fun _ _ _ h => h) (Or.inl ⟨by rfl, ?_⟩) ?_ ?_
    rotate_left; (intro w'; go_simp; with_reducible rfl)
    rotate_left; (simp only [Act.put, List.setIfInBounds_toArray, List.set_cons_zero, List.set_cons_succ, i64_w, i32_w]; rfl)
    refine pu 8 (some 42) (v := ?_) (a' := ?_) rfl rfl (by kernel_rfl) (fun _ _ _ h => h) (Or.inl ⟨by rfl, ?_⟩) ?_ ?_
    rotate_left; (intro w'; go_simp; with_reducible rfl)
    rotate_left; (simp only [Act.put, List.setIfInBounds_toArray, List.set_cons_zero, List.set_cons_succ, i64_w, i32_w]; rfl)
    refine tk 9 (some 43) (v := ?_) (a' := ?_) rfl rfl (by kernel_rfl) (fun _ _ _ h => h) (Or.inl ⟨by rfl, ?_⟩) hHeld ?_ ?_
    rotate_left; (rintro w' ⟨_, ⟨x0, x1, x2, x3, x4, x5, x6⟩⟩; go_simp; with_reducible rfl)
    rotate_left; (simp only [Act.put, List.setIfInBounds_toArray, List.set_cons_zero, List.set_cons_succ, i64_w, i32_w]; rfl)
    refine tk 10 (some 44) (v := ?_) (a' := ?_) rfl rfl (by kernel_rfl) (fun _ _ _ h => h) (Or.inl ⟨by rfl, ?_⟩) hHeld ?_ ?_
    rotate_left; (rintro w' ⟨_, ⟨x0, x1, x2, x3, x4, x5, x6⟩⟩; go_simp; with_reducible rfl)
    rotate_left; (simp only [Act.put, List.setIfInBounds_toArray, List.set_cons_zero, List.set_cons_succ, i64_w, i32_w]; rfl)
    refine pu 11 (some 45) (v := ?_) (a' := ?_) rfl rfl (by kernel_rfl) (fun _ _ _ h => h) (Or.inl ⟨by rfl, ?_⟩) ?_ ?_
    rotate_left; (intro w'; go_simp; with_reducible rfl)
    rotate_left; (simp only [Act.put, List.setIfInBounds_toArray, List.set_cons_zero, List.set_cons_succ, i64_w, i32_w]; rfl)
    refine pu 12 (some 46) (v := ?_) (a' := ?_) rfl rfl (by kernel_rfl) (fun _ _ _ h => h) (Or.inl ⟨by rfl, ?_⟩) ?_ ?_
    rotate_left; (intro w'; go_simp; with_reducible rfl)
    rotate_left; (simp only [Act.put, List.setIfInBounds_toArray, List.set_cons_zero, List.set_cons_succ, i64_w, i32_w]; rfl)
    refine tk 13 (some 47) (v := ?_) (a' := ?_) rfl rfl (by kernel_rfl) (fun _ _ _ h => h) (Or.inl ⟨by rfl, ?_⟩) hHeld ?_ ?_
    rotate_left; (rintro w' ⟨_, ⟨x0, x1, x2, x3, x4, x5, x6⟩⟩; go_simp; with_reducible rfl)
    rotate_left; (simp only [Act.put, List.setIfInBounds_toArray, List.set_cons_zero, List.set_cons_succ, i64_w, i32_w]; rfl)
    refine pu 14 (some 48) (v := ?_) (a' := ?_) rfl rfl (by kernel_rfl) (fun _ _ _ h => h) (Or.inl ⟨by rfl, ?_⟩) ?_ ?_
    rotate_left; (intro w'; go_simp; with_reducible rfl)
    rotate_left; (simp only [Act.put, List.setIfInBounds_toArray, List.set_cons_zero, List.set_cons_succ, i64_w, i32_w]; rfl)
    refine on 15 (some 49) rfl rfl (by kernel_rfl) (by decide) (fun K hK => ?_)
    refine goes_ Tryz.func17 (by kernel_rfl) rfl #[.agg #[.string ⟨#[71, 69, 84]⟩, .string t0, .int .i64 s0, .string r0, .int .i64 mi0, .slice AF LF.length cF, .string bx0], .agg #[.string ⟨#[71, 69, 84]⟩, .string t0, .int .i64 s0, .string r0, .int .i64 mi0, .slice AF LF.length cF, .string bx0], .agg #[.string ⟨#[]⟩, .string ⟨#[]⟩, .int .i64 0, .string ⟨#[]⟩, .int .i64 0, .slice AF LF.length cF], .slice none 0 0] (by rfl) rfl rfl (by (try simp only [List.map_toArray, List.map_cons, List.map_nil]); first | done | rfl) ?_
    with_reducible refine (H3.out _ hHeld.1).mono ?_
    rintro e w5 ⟨rfl, hb5⟩
    refine ⟨_, rfl, ?_⟩
    replace hHeld := HS.out _ (belTrans hb5 hHeld.1)
    clear hb5
    refine hK.out _ _ hHeld (fun _ => ?_)
    clear hK K
    refine norm_ (a' := ?_) ?_ ?_
    rotate_left; (show Act.put _ (some 49) _ = _; simp only [Act.put, List.setIfInBounds_toArray, List.set_cons_zero, List.set_cons_succ, i64_w, i32_w]; rfl)
    refine pu 16 (some 50) (v := ?_) (a' := ?_) rfl rfl (by kernel_rfl) (fun _ _ _ h => h) (Or.inl ⟨by rfl, ?_⟩) ?_ ?_
    rotate_left; (intro w'; go_simp; with_reducible rfl)
    rotate_left; (simp only [Act.put, List.setIfInBounds_toArray, List.set_cons_zero, List.set_cons_succ, i64_w, i32_w]; rfl)
    refine pu 17 (some 6) (v := ?_) (a' := ?_) rfl rfl (by kernel_rfl) (fun _ _ _ h => h) (Or.inl ⟨by rfl, ?_⟩) ?_ ?_
    rotate_left; (intro w'; go_simp; with_reducible rfl)
    rotate_left; (simp only [Act.put, List.setIfInBounds_toArray, List.set_cons_zero, List.set_cons_succ, i64_w, i32_w]; rfl)
    refine done_ (by kernel_rfl) ?_
    go_wp2
    go_ret
    exact ⟨rfl, HB10.out.trans (hHeld.1.mono HB10.out.size)⟩
end Go.Proofs.YtalafpigfeiaiaaGreatDoor.Q
end
section
namespace Go.Proofs.YtalafpigfeiaiaaGreatDoor.keyShared
open Go.ChangeShapes Go.WideShapes Go.ChangeAt Go.RowKit
open Go.ChangeMaps (open_string shut_string)
set_option linter.unusedVariables false
theorem own : ownKnob Tryz.prog.godebug = none := by kernel_rfl
theorem laidOut : laidOutB Tryz.prog = true := by kernel_rfl
def IsRow (k : IntKind) (w : World) (a : Option Addr) (len cap : Nat) (zs : List Int) : Prop :=
  (a = none ∧ len = 0 ∧ cap = 0 ∧ zs = []) ∨
  ∃ x, a = some x ∧ len ≤ cap ∧ cap ≤ maxLen ∧ zs.length = cap ∧ (∀ i, i < zs.length → w.cell? (x.add i) = some (.int k (zs.getD i 0))) ∧ ∀ n ∈ zs, (Lit.int k n).wf = true
theorem bytes_of {l : List Int} (h : ∀ x ∈ l, (Lit.int .u8 x).wf = true) : ∀ x ∈ l, 0 ≤ x ∧ x < 256 := fun x hx => by
  have := h x hx
  have h2 : 0 ≤ x ∧ x ≤ 255 := by simpa [Lit.wf, IntKind.min, IntKind.max, IntKind.signed, IntKind.bits] using this
  omega
set_option maxRecDepth 100000 in
theorem contract (H : Type) (enc : TypeId × Value → H) (W : World) (base : Nat) (args : Array Value) (ds gs : List (DataW H)) (before : List MemPlace)
    (hval0 : ∀ (j : Nat) t v, Tryz.f4.params[j]? = some t → args[j]? = some v → Value.okWide Tryz.prog W .any base t v)
    (hW : DataW.Whole enc Tryz.prog Tryz.f4.params.toList Rows.keySharedSpec.vars false W args.toList ds gs before) :
    Calls Tryz.prog 4 args W fun e W' => ∃ v, e = .returned v ∧ Rows.keySharedSpec.post enc Tryz.prog Tryz.f4 false true false false W args v W' := by
  have hval : ∀ (j : Nat) t v, Tryz.f4.params[j]? = some t → args[j]? = some v → Value.okWide Tryz.prog W .any base t v := hval0
  have hW' := hW
  obtain ⟨p, q, hA0, hV, rfl, hfz, hnd⟩ := hW
  have hA : DataW.TrodAll enc Tryz.prog W 0 (fun _ => true) true Tryz.f4.params.toList args.toList ds p := hA0
  rw [Tryz.params4] at hA hval
  obtain ⟨v0, vs0, d0, ds0, p0, q0, hargs, rfl, rfl, h0, r0⟩ := trodAll_cons hA
  obtain ⟨v1, vs1, d1, ds1, p1, q1, rfl, rfl, rfl, h1, r1⟩ := trodAll_cons r0
  obtain ⟨v2, vs2, d2, ds2, p2, q2, rfl, rfl, rfl, h2, r2⟩ := trodAll_cons r1
  obtain ⟨rfl, rfl, rfl⟩ := trodAll_nil r2
  obtain rfl : args = #[v0, v1, v2] := by cases args; simp_all
  obtain ⟨rfl, rfl⟩ := trodVars_none hV
  obtain ⟨a0, len0, cap0, rfl⟩ := okWide_slice Tryz.underlying22 (hval 0 22 v0 rfl rfl)
  have k0 := h0
  have lt0 : ∀ x ∈ p0, x.block < W.heap.size := by obtain ⟨m, hm⟩ := k0; exact DataW.trod_lt m _ _ _ hm
  obtain ⟨z0, w0⟩ : ∃ zs, IsRow .u8 W a0 len0 cap0 zs := by
    obtain ⟨fuel, hf⟩ := h0
    rcases open_ints Tryz.underlying22 Tryz.underlying5 (by kernel_rfl) hf with ⟨hcs, _⟩ | ⟨x, l, c, zs, hcs, _, hl, hm, hz, _, hcell, hwz⟩
    · simp [Value.cells] at hcs
      obtain ⟨rfl, rfl, rfl⟩ := hcs
      exact ⟨[], .inl ⟨rfl, rfl, rfl, rfl⟩⟩
    · simp [Value.cells] at hcs
      obtain ⟨rfl, rfl, rfl⟩ := hcs
      exact ⟨zs, .inr ⟨_, rfl, hl, hm, by simpa using hz, hcell, hwz⟩⟩
  obtain ⟨l0, rfl, hr0, hm0, hw0, hc0⟩ := Go.Proofs.YtalafpigfeiaiaaGreatDoorW.PrintWords.ReadsInt.ofRowC w0
  obtain ⟨a1, rfl, rfl, rfl, w1⟩ := open_int Tryz.underlying5 (hval 1 5 v1 rfl rfl) h1
  have b1 := bytes_of (l := [a1]) (fun x hx => by rw [List.mem_singleton.1 hx]; exact w1) a1 (List.mem_singleton.2 rfl)
  obtain ⟨a2, rfl, rfl, rfl, w2⟩ := open_int Tryz.underlying5 (hval 2 5 v2 rfl rfl) h2
  have b2 := bytes_of (l := [a2]) (fun x hx => by rw [List.mem_singleton.1 hx]; exact w2) a2 (List.mem_singleton.2 rfl)
  clear hA0 hval0
  refine (Q.keyShared_walk a0 cap0 l0 (Go.Proofs.YtalafpigfeiaiaaGreatDoorW.PrintWords.Kd.C_of_reads (d := (0 : Int)) (h1 := fun _ => rfl) hr0) hc0 (bytes_of hw0) a1 b1 a2 b2).mono fun e W' ⟨he, bel⟩ => ?_
  subst he
  exact ⟨_, rfl, _, _, _, [], _, [], hW', trodAll_mk1 (shut_bool Tryz.underlying4 _), (trodAll_cons_mk (Below.trod laidOut (by kernel_rfl) (of_decide_eq_true (by kernel_rfl)) k0 bel lt0) (trodAll_cons_mk (shut_int Tryz.underlying5 w1) (trodAll_cons_mk (shut_int Tryz.underlying5 w2) trodAll_mk0))), rfl, bel.frame _, fun h => by cases h⟩
def numsOf : DataW Unit → Array Value
  | .agg l => (l.map fun | .lit (.int k z) => Value.int k z | _ => .nilIface).toArray
  | _ => #[]
def ranges : Array Value := #[.int .u8 128, .int .u8 191, .int .u8 160, .int .u8 191, .int .u8 128, .int .u8 159, .int .u8 144, .int .u8 191, .int .u8 128, .int .u8 143, .int .u8 0, .int .u8 0, .int .u8 0, .int .u8 0, .int .u8 0, .int .u8 0, .int .u8 0, .int .u8 0, .int .u8 0, .int .u8 0, .int .u8 0, .int .u8 0, .int .u8 0, .int .u8 0, .int .u8 0, .int .u8 0, .int .u8 0, .int .u8 0, .int .u8 0, .int .u8 0, .int .u8 0, .int .u8 0]
def laidAt (h : Array Obj) (i : Nat) (cs : Array Value) : Array Obj := h.modify i fun
  | .cells _ t frozen => .cells cs t frozen
  | o => o
noncomputable def laidWorld (os : Os) : World :=
  { World.holding Tryz.prog os ⟨#[], #[], []⟩ with heap := laidAt (laidAt (World.holding Tryz.prog os ⟨#[], #[], []⟩).heap 2 (numsOf Go.Pinned.utf8First)) 3 ranges }
theorem laid_met (os : Os) : laidMet Tryz.prog Rows.keySharedRow.laid ((laidWorld os).forCall (fun _ _ => 0) ⟨#[], #[.slice none 0 0, .int .u8 0, .int .u8 0], []⟩).memory :=
  laidMet_of_run' 8 (by kernel_rfl) (by kernel_rfl)
theorem reads (os : Os) {H : Type} (enc : TypeId × Value → H) : ∃ places, DataW.whole enc Tryz.prog ((laidWorld os).forCall (fun _ _ => 0) ⟨#[], #[.slice none 0 0, .int .u8 0, .int .u8 0], []⟩).memory Tryz.f4.params.toList Rows.keySharedSpec.vars false (#[Value.slice none 0 0, .int .u8 0, .int .u8 0] : Array Value).toList 8 = some ([.nil, .lit (.int .u8 0), .lit (.int .u8 0)], [], places) :=
  ⟨[], by kernel_rfl⟩
set_option maxRecDepth 100000 in
theorem lifted (os : Os) (started : os.Started) (H : Type) (enc : TypeId × Value → H) (F : Stop.Interp) :
    ReturnsInHanded {} Tryz.checked os 4 .any ((OpenSpec.ofChange Rows.keySharedSpec).preRow enc Tryz.prog Tryz.f4 Rows.keySharedRow.domain false Rows.keySharedRow.laid) (((OpenSpec.ofChange Rows.keySharedSpec).at F).post enc Tryz.prog Tryz.f4 false true false false) := by
  obtain ⟨places, hx⟩ := reads os enc
  refine returnsInHanded_of_row (C := Tryz.checked) (s := OpenSpec.ofChange Rows.keySharedSpec) own started (by kernel_rfl) Tryz.func4
    (witness_row_at (enc := enc) (C := Tryz.checked) false (laidWorld os) #[.slice none 0 0, .int .u8 0, .int .u8 0] rfl (by kernel_rfl) (by kernel_rfl) (by kernel_rfl)
      (OpenSpec.preRow_of_cond 8 hx (by kernel_rfl) (fun k hk => by cases hk) (by kernel_rfl) (laid_met os))) ?_
  intro W base args ds gs before hval hW _ _ _ hL _ _
  exact contract H enc W base args ds gs before hval hW
set_option maxHeartbeats 8000000 in
theorem said : Rows.KeySharedSaid :=
  OpenClaim.holds_of_cond 4 Tryz.f4 rfl rfl rfl rfl rfl rfl rfl ⟨rfl, rfl, rfl, rfl, rfl⟩ rfl rfl rfl rfl rfl (by as_aux_lemma => kernel_rfl) Tryz.func4 (by as_aux_lemma => kernel_rfl)
    (of_decide_eq_true (by as_aux_lemma => kernel_rfl)) (by unfold Func.isWrapper; first | (rw [if_pos (by decide +kernel)]; kernel_rfl) | (rw [if_neg (by decide +kernel)]; exact ⟨rfl, rfl⟩))
    (fun os started H enc _ F => by rw [OpenClaim.pre_eq_preRow]; exact lifted os started H enc F)
theorem plain (f : FuncId) (fn : Func) (hf : Tryz.pinned.checked.prog.funcNamed "lockage/lockagelaw16.KeyShared" = some f) (hfn : Tryz.pinned.checked.prog.funcs[f]? = some fn) :
    false = Tryz.pinned.checked.prog.looks [] ∧ ∀ (j : Nat) t, fn.params[j]? = some t → Tryz.pinned.checked.prog.wantsStandIn t = false := by
  obtain rfl : f = 4 := Option.some.inj ((show Tryz.prog.funcNamed "lockage/lockagelaw16.KeyShared" = some 4 by kernel_rfl).symm.trans hf) |>.symm
  obtain rfl : fn = Tryz.f4 := (Option.some.inj (Tryz.func4.symm.trans hfn)).symm
  refine ⟨by kernel_rfl, fun j t ht => ?_⟩
  rw [Tryz.params4] at ht
  have hm : t = 22 ∨ t = 5 := by simpa using Array.mem_of_getElem? ht
  rcases hm with rfl | rfl
  · exact (show Tryz.prog.wantsStandIn 22 = false by kernel_rfl)
  · exact (show Tryz.prog.wantsStandIn 5 = false by kernel_rfl)
set_option maxHeartbeats 8000000 in
theorem card : Rows.KeySharedCardSaid :=
  Claim7.holds_tied_plain_at .later [] _ _ _ _ said (fun _ h => by cases h) (by as_aux_lemma => kernel_rfl) (fun _ h => by cases h) keyShared_row_tie rfl ⟨rfl, rfl⟩ (by as_aux_lemma => kernel_rfl) rfl plain (by as_aux_lemma => kernel_rfl)
end Go.Proofs.YtalafpigfeiaiaaGreatDoor.keyShared
namespace Go.Proofs.YtalafpigfeiaiaaGreatDoor
theorem keyShared_card : Rows.KeySharedCardSaid := keyShared.card
#print axioms keyShared_card
end Go.Proofs.YtalafpigfeiaiaaGreatDoor
end
