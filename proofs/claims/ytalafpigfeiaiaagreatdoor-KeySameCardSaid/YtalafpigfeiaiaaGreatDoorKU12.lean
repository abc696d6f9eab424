/- Contracts of functions and plain laws, part 12. -/
import Derived.Test.YtalafpigfeiaiaaGreatDoorKU11
import Derived.Test.YtalafpigfeiaiaaGreatDoorProg
section
namespace Go.Proofs.YtalafpigfeiaiaaGreatDoor.Q
open Go.RowKit Go.Proofs.YtalafpigfeiaiaaGreatDoor.H Go.Proofs.YtalafpigfeiaiaaGreatDoorW.PrintWords Go.Proofs.YtalafpigfeiaiaaGreatDoorW.PrintLast Go.Proofs.YtalafpigfeiaiaaGreatDoorW.PrintMore
set_option linter.unusedVariables false
set_option linter.unusedSimpArgs false
theorem strings_same (A0 : Option Addr) (c0 : Nat) (a : List ByteArray) (A1 : Option Addr) (c1 : Nat) (w : World) (hr0 : Kd.C Kd.string w A0 a.length a) (hc0 : a.length ≤ c0) (hr1 : Kd.C Kd.string w A1 a.length a) (hc1 : a.length ≤ c1) (hs : a.length ≤ 1000000000) :
  Calls Tryz.prog 25 #[.slice A0 a.length c0, .slice A1 a.length c1] w fun e w' => e = .returned (.bool true) ∧ Below w.heap.size w w' := by
 refine (strings_calls A0 c0 a A1 c1 a w hr0 hc0 hr1 hc1 hs).mono ?_
 rintro e w' ⟨rfl, n, rfl⟩
 exact ⟨by simp, pw_below_drewN (Below.refl _ _) n⟩
def Seven (W : World) (z : Nat) (a b c d e f g : Value) : Prop := W.cell? ⟨z, 0, none⟩ = some a ∧ W.cell? ⟨z, 1, none⟩ = some b ∧ W.cell? ⟨z, 2, none⟩ = some c ∧ W.cell? ⟨z, 3, none⟩ = some d ∧ W.cell? ⟨z, 4, none⟩ = some e ∧ W.cell? ⟨z, 5, none⟩ = some f ∧ W.cell? ⟨z, 6, none⟩ = some g
def Six (W : World) (z : Nat) (a b c d e f : Value) : Prop := W.cell? ⟨z, 0, none⟩ = some a ∧ W.cell? ⟨z, 1, none⟩ = some b ∧ W.cell? ⟨z, 2, none⟩ = some c ∧ W.cell? ⟨z, 3, none⟩ = some d ∧ W.cell? ⟨z, 4, none⟩ = some e ∧ W.cell? ⟨z, 5, none⟩ = some f
set_option maxHeartbeats 4000000 in
set_option maxRecDepth 100000 in
theorem same_calls (x : Hd) (bx : ByteArray) (y : Hd) (by' : ByteArray) (z : Hd) (AN : Option Addr) (cN : Nat) (ns : List ByteArray) (w : World) (hx : x.In w) (hy : y.In w) (hz : z.In w) (hm : x.m.size ≤ 1000000000) (ht : x.t.size ≤ 1000000000)
  (hrn : Kd.C Kd.string w AN ns.length ns) (hcn : ns.length ≤ cN) (hn : FewN ns) :
  Calls Tryz.prog 17 #[x.mv bx, y.mv by', z.v, .slice AN ns.length cN] w fun e w' => e = .returned (.bool true) ∧ Below w.heap.size w w' := by
 have HK1 := Aside0.mk (fun (W : World) (hW : Below w.heap.size w W) => key_calls x bx W (hx.below hW) hm ht)
 have HK2 := Aside0.mk (fun (W : World) (hW : Below w.heap.size w W) => refKey_calls x bx W (hx.below hW) hm ht)
 have HV1 := Aside0.mk (fun (W : World) (hW : Below w.heap.size w W) => vary_calls z.A z.c z.l W (hz.below hW).rd hz.cap hz.few)
 have HV2 := Aside0.mk (fun (W : World) (hW : Below w.heap.size w W) => refVary_calls z.A z.c z.l W (hz.below hW).rd hz.cap hz.few)
 have HS1 := Aside0.mk (fun (W : World) (hW : Below w.heap.size w W) => shared_calls x bx W (hx.below hW))
 have HS2 := Aside0.mk (fun (W : World) (hW : Below w.heap.size w W) => refShared_calls x bx W (hx.below hW))
 have HP1 := Aside0.mk (fun (W : World) (hW : Below w.heap.size w W) => split_calls AN cN ns x.A x.c x.l W (Kd.C_below hrn hW) hcn (hx.below hW).rd hx.cap hx.few hn)
 have HP2 := Aside0.mk (fun (W : World) (hW : Below w.heap.size w W) => refSplit_calls AN cN ns x.A x.c x.l W (Kd.C_below hrn hW) hcn (hx.below hW).rd hx.cap hx.few hn)
 have HF1 := Aside0.mk (fun (W : World) (hW : Below w.heap.size w W) => fits_calls x bx y by' z W (hx.below hW) (hy.below hW) (hz.below hW))
 have HF2 := Aside0.mk (fun (W : World) (hW : Below w.heap.size w W) => refFits_calls x bx y by' z W (hx.below hW) (hy.below hW) (hz.below hW))
 have HVL := Aside0.mk (Nat.le_trans (varyS_few hz.few).1 (by omega) : (varyS z.l).1.length ≤ 1000000000)
 clear hx hy hz hrn hcn hn hm ht
 obtain ⟨m, t, s, r, mi, A, c, l⟩ := x
 obtain ⟨m1, t1, s1, r1, mi1, A1, c1, l1⟩ := y
 obtain ⟨m2, t2, s2, r2, mi2, A2, c2, l2⟩ := z
 simp only [Hd.mv, Hd.v] at HK1 HK2 HV1 HV2 HS1 HS2 HP1 HP2 HF1 HF2 HVL ⊢
 generalize (keyS m t l).1 = k1 at *
 generalize (keyS m t l).2 = k2 at *
 generalize (varyS l2).1 = vs at *
 generalize (varyS l2).2 = vb at *
 generalize sharedS m bx l = sh at *
 generalize splitS ns l = sp at *
 generalize fitsS l l1 l2 = fi at *
 have hB0 : Below w.heap.size w (((w.alloc (.cells #[.string m, .string t, .int .i64 s, .string r, .int .i64 mi, .slice A l.length c, .string bx] 27)).alloc (.cells #[.string m1, .string t1, .int .i64 s1, .string r1, .int .i64 mi1, .slice A1 l1.length c1, .string by'] 27)).alloc (.cells #[.string m2, .string t2, .int .i64 s2, .string r2, .int .i64 mi2, .slice A2 l2.length c2] 25)) := below_alloc (below_alloc (below_alloc (Below.refl _ _) _) _) _
 obtain ⟨W0, hW0⟩ : ∃ W0, ((w.alloc (.cells #[.string m, .string t, .int .i64 s, .string r, .int .i64 mi, .slice A l.length c, .string bx] 27)).alloc (.cells #[.string m1, .string t1, .int .i64 s1, .string r1, .int .i64 mi1, .slice A1 l1.length c1, .string by'] 27)).alloc (.cells #[.string m2, .string t2, .int .i64 s2, .string r2, .int .i64 mi2, .slice A2 l2.length c2] 25) = W0 := ⟨_, rfl⟩
 have hs0 : w.heap.size + 3 ≤ W0.heap.size := by rw [← hW0]; simp
 have hk0 : W0.heap[w.heap.size]? = some (.cells #[.string m, .string t, .int .i64 s, .string r, .int .i64 mi, .slice A l.length c, .string bx] 27 (0, 0)) := by rw [← hW0]; (repeat' first | exact at_new (by first | rfl | (simp; done)) | (refine at_old (by first | (simp; done) | (simp; omega)) ?_))
 have hk1 : W0.heap[w.heap.size + 1]? = some (.cells #[.string m1, .string t1, .int .i64 s1, .string r1, .int .i64 mi1, .slice A1 l1.length c1, .string by'] 27 (0, 0)) := by rw [← hW0]; (repeat' first | exact at_new (by first | rfl | (simp; done)) | (refine at_old (by first | (simp; done) | (simp; omega)) ?_))
 have hk2 : W0.heap[w.heap.size + 1 + 1]? = some (.cells #[.string m2, .string t2, .int .i64 s2, .string r2, .int .i64 mi2, .slice A2 l2.length c2] 25 (0, 0)) := by rw [← hW0]; (repeat' first | exact at_new (by first | rfl | (simp; done)) | (refine at_old (by first | (simp; done) | (simp; omega)) ?_))
 rw [hW0] at hB0
 have HB0 := Aside0.mk hB0
 have HW0 := Aside0.mk hW0
 have HSZ := Aside0.mk hs0
 have HH := Aside0.mk (fun (W : World) (h : Below W0.heap.size W0 W) => (⟨hB0.trans (h.mono hB0.size), seven_cells ((h.block _ (by omega)).trans hk0), seven_cells ((h.block _ (by omega)).trans hk1), six_cells ((h.block _ (by omega)).trans hk2)⟩ : Below w.heap.size w W ∧
  Seven W w.heap.size (.string m) (.string t) (.int .i64 s) (.string r) (.int .i64 mi) (.slice A l.length c) (.string bx) ∧ Seven W (w.heap.size + 1) (.string m1) (.string t1) (.int .i64 s1) (.string r1) (.int .i64 mi1) (.slice A1 l1.length c1) (.string by') ∧
  Six W (w.heap.size + 1 + 1) (.string m2) (.string t2) (.int .i64 s2) (.string r2) (.int .i64 mi2) (.slice A2 l2.length c2)))
 clear hk0 hk1 hk2 hB0 hs0 hW0
 go_enter Tryz.func17, Tryz.ntmps17
 go_wp2_with fail
 simp only [HW0.out]
 refine (HK1.out _ HB0.out).mono ?_
 rintro e w1 ⟨rfl, hb1⟩
 have HB1 := Aside0.mk hb1
 clear hb1
 obtain ⟨_, ⟨x0, x1, x2, x3, x4, x5, x6⟩, _, _⟩ := HH.out _ HB1.out
 go_wp2_with fail
 clear x0 x1 x2 x3 x4 x5 x6
 with_reducible refine (HK2.out _ (HH.out _ HB1.out).1).mono ?_
 rintro e w2 ⟨rfl, hb2⟩
 have HB2 := Aside0.mk (belTrans hb2 HB1.out)
 clear hb2
 obtain ⟨_, _, _, ⟨x0, x1, x2, x3, x4, x5⟩⟩ := HH.out _ HB2.out
 go_wp2_with fail
 clear x0 x1 x2 x3 x4 x5
 with_reducible refine (HV1.out _ (HH.out _ HB2.out).1).mono ?_
 rintro e w3 ⟨v1, rfl, hv1, hb3⟩
 obtain ⟨AV, cV, rfl, hlV, hvV⟩ := Kd.R_reads hv1
 have HVV := Aside0.mk hvV
 have HB3 := Aside0.mk (belTrans hb3 HB2.out)
 clear hb3 hv1 hvV
 obtain ⟨_, _, _, ⟨x0, x1, x2, x3, x4, x5⟩⟩ := HH.out _ HB3.out
 go_wp2_with fail
 clear x0 x1 x2 x3 x4 x5
 with_reducible refine (HV2.out _ (HH.out _ HB3.out).1).mono ?_
 rintro e w4 ⟨v2, rfl, hv2, hb4⟩
 obtain ⟨AU, cU, rfl, hlU, hvU⟩ := Kd.R_reads hv2
 have HVU := Aside0.mk hvU
 have HVV4 := Aside0.mk (Kd.C_below HVV.out hb4)
 have HB4 := Aside0.mk (belTrans hb4 HB3.out)
 clear hb4 hv2 hvU
 have HS := Aside0.mk (fun (W : World) (h : Below w4.heap.size w4 W) => And.intro h (HH.out _ (belTrans h HB4.out)))
 go_wp2_with fail
 refine be (S := (fun w' => Below w4.heap.size w4 w' ∧ Below w.heap.size w w' ∧ Seven w' w.heap.size (.string m) (.string t) (.int .i64 s) (.string r) (.int .i64 mi) (.slice A l.length c) (.string bx) ∧ Seven w' (w.heap.size + 1) (.string m1) (.string t1) (.int .i64 s1) (.string r1) (.int .i64 mi1) (.slice A1 l1.length c1) (.string by') ∧ Six w' (w.heap.size + 1 + 1) (.string m2) (.string t2) (.int .i64 s2) (.string r2) (.int .i64 mi2) (.slice A2 l2.length c2))) (ds := []) 50 (by kernel_rfl) rfl (HS.out _ (Below.refl _ _).drew) (fun hHeld => ?_)
 generalize w4.drew = wd at hHeld ⊢
 refine tk 0 (some 39) (v := ?_) (a' := ?_) rfl rfl (by kernel_rfl) (fun _ _ _ h => h) (Or.inl ⟨by rfl, ?_⟩) hHeld ?_ ?_
 rotate_left; (rintro w' ⟨_, _, ⟨x0, x1, x2, x3, x4, x5, x6⟩, ⟨y0, y1, y2, y3, y4, y5, y6⟩, ⟨z0, z1, z2, z3, z4, z5⟩⟩; go_simp; with_reducible rfl)
 rotate_left; (simp only [Act.put, List.setIfInBounds_toArray, List.set_cons_zero, List.set_cons_succ, i64_w, i32_w]; rfl)
 refine tk 2 (some 41) (v := ?_) (a' := ?_) rfl rfl (by kernel_rfl) (fun _ _ _ h => h) (Or.inl ⟨by rfl, ?_⟩) hHeld ?_ ?_
 rotate_left; (rintro w' ⟨_, _, ⟨x0, x1, x2, x3, x4, x5, x6⟩, ⟨y0, y1, y2, y3, y4, y5, y6⟩, ⟨z0, z1, z2, z3, z4, z5⟩⟩; go_simp; with_reducible rfl)
 rotate_left; (simp only [Act.put, List.setIfInBounds_toArray, List.set_cons_zero, List.set_cons_succ, i64_w, i32_w]; rfl)
 refine on 1 (some 40) rfl rfl (by kernel_rfl) (by decide) (fun K hK => ?_)
 refine goes_ Tryz.func20 (by kernel_rfl) rfl #[.agg #[.string m, .string t, .int .i64 s, .string r, .int .i64 mi, .slice A l.length c, .string bx]] (by rfl) rfl rfl (by (try simp only [List.map_toArray, List.map_cons, List.map_nil]); first | done | rfl) ?_
 with_reducible refine (HS1.out _ hHeld.2.1).mono ?_
 rintro e w5 ⟨rfl, hb5⟩
 refine ⟨_, rfl, ?_⟩
 replace hHeld := HS.out _ (belTrans hb5 hHeld.1)
 clear hb5
 refine hK.out _ _ hHeld (fun _ => ?_)
 clear hK K
 refine norm_ (a' := ?_) ?_ ?_
 rotate_left; (show Act.put _ (some 40) _ = _; simp only [Act.put, List.setIfInBounds_toArray, List.set_cons_zero, List.set_cons_succ, i64_w, i32_w]; rfl)
 refine on 3 (some 42) rfl rfl (by kernel_rfl) (by decide) (fun K hK => ?_)
 refine goes_ Tryz.func21 (by kernel_rfl) rfl #[.agg #[.string m, .string t, .int .i64 s, .string r, .int .i64 mi, .slice A l.length c, .string bx]] (by rfl) rfl rfl (by (try simp only [List.map_toArray, List.map_cons, List.map_nil]); first | done | rfl) ?_
 with_reducible refine (HS2.out _ hHeld.2.1).mono ?_
 rintro e w5 ⟨rfl, hb5⟩
 refine ⟨_, rfl, ?_⟩
 replace hHeld := HS.out _ (belTrans hb5 hHeld.1)
 clear hb5
 refine hK.out _ _ hHeld (fun _ => ?_)
 clear hK K
 refine norm_ (a' := ?_) ?_ ?_
 rotate_left; (show Act.put _ (some 42) _ = _; simp only [Act.put, List.setIfInBounds_toArray, List.set_cons_zero, List.set_cons_succ, i64_w, i32_w]; rfl)
 refine pu 4 (some 43) (v := ?_) (a' := ?_) rfl rfl (by kernel_rfl) (fun _ _ _ h => h) (Or.inl ⟨by rfl, ?_⟩) ?_ ?_
 rotate_left; (intro w'; go_simp; with_reducible rfl)
 rotate_left; (simp only [Act.put, List.setIfInBounds_toArray, List.set_cons_zero, List.set_cons_succ, i64_w, i32_w]; rfl)
 refine pu 5 (some 44) (v := ?_) (a' := ?_) rfl rfl (by kernel_rfl) (fun _ _ _ h => h) (Or.inl ⟨by rfl, ?_⟩) ?_ ?_
 rotate_left; (intro w'; go_simp; with_reducible rfl)
 rotate_left; (simp only [Act.put, List.setIfInBounds_toArray, List.set_cons_zero, List.set_cons_succ, i64_w, i32_w]; rfl)
 refine pu 6 (some 45) (v := ?_) (a' := ?_) rfl rfl (by kernel_rfl) (fun _ _ _ h => h) (Or.inl ⟨by rfl, ?_⟩) ?_ ?_
 rotate_left; (intro w'; go_simp; with_reducible rfl)
 rotate_left; (simp only [Act.put, List.setIfInBounds_toArray, List.set_cons_zero, List.set_cons_succ, i64_w, i32_w]; rfl)
 refine pu 7 (some 46) (v := ?_) (a' := ?_) rfl rfl (by kernel_rfl) (fun _ _ _ h => h) (Or.inl ⟨by rfl, ?_⟩) ?_ ?_
 rotate_left; (intro w'; go_simp; with_reducible rfl)
 rotate_left; (simp only [Act.put, List.setIfInBounds_toArray, List.set_cons_zero, List.set_cons_succ, i64_w, i32_w]; rfl)
 refine pu 8 (some 47) (v := ?_) (a' := ?_) rfl rfl (by kernel_rfl) (fun _ _ _ h => h) (Or.inl ⟨by rfl, ?_⟩) ?_ ?_
 rotate_left; (intro w'; go_simp; with_reducible rfl)
 rotate_left; (simp only [Act.put, List.setIfInBounds_toArray, List.set_cons_zero, List.set_cons_succ, i64_w, i32_w]; rfl)
 refine pu 9 (some 48) (v := ?_) (a' := ?_) rfl rfl (by kernel_rfl) (fun _ _ _ h => h) (Or.inl ⟨by rfl, ?_⟩) ?_ ?_
 rotate_left; (intro w'; go_simp; with_reducible rfl)
 rotate_left; (simp only [Act.put, List.setIfInBounds_toArray, List.set_cons_zero, List.set_cons_succ, i64_w, i32_w]; rfl)
 refine pu 10 (some 49) (v := ?_) (a' := ?_) rfl rfl (by kernel_rfl) (fun _ _ _ h => h) (Or.inl ⟨by rfl, ?_⟩) ?_ ?_
 rotate_left; (intro w'; go_simp; with_reducible rfl)
 rotate_left; (simp only [Act.put, List.setIfInBounds_toArray, List.set_cons_zero, List.set_cons_succ, i64_w, i32_w]; rfl)
 refine pu 11 (some 50) (v := ?_) (a' := ?_) rfl rfl (by kernel_rfl) (fun _ _ _ h => h) (Or.inl ⟨by rfl, ?_⟩) ?_ ?_
 rotate_left; (intro w'; go_simp; with_reducible rfl)
 rotate_left; (simp only [Act.put, List.setIfInBounds_toArray, List.set_cons_zero, List.set_cons_succ, i64_w, i32_w]; rfl)
 refine pu 12 (some 51) (v := ?_) (a' := ?_) rfl rfl (by kernel_rfl) (fun _ _ _ h => h) (Or.inl ⟨by rfl, ?_⟩) ?_ ?_
 rotate_left; (intro w'; go_simp; with_reducible rfl)
 rotate_left; (simp only [Act.put, List.setIfInBounds_toArray, List.set_cons_zero, List.set_cons_succ, i64_w, i32_w]; rfl)
 refine pu 13 (some 52) (v := ?_) (a' := ?_) rfl rfl (by kernel_rfl) (fun _ _ _ h => h) (Or.inl ⟨by rfl, ?_⟩) ?_ ?_
 rotate_left; (intro w'; go_simp; with_reducible rfl)
 rotate_left; (simp only [Act.put, List.setIfInBounds_toArray, List.set_cons_zero, List.set_cons_succ, i64_w, i32_w]; rfl)
 refine pu 14 (some 53) (v := ?_) (a' := ?_) rfl rfl (by kernel_rfl) (fun _ _ _ h => h) (Or.inl ⟨by rfl, ?_⟩) ?_ ?_
 rotate_left; (intro w'; go_simp; with_reducible rfl)
 rotate_left; (simp only [Act.put, List.setIfInBounds_toArray, List.set_cons_zero, List.set_cons_succ, i64_w, i32_w]; rfl)
 refine pu 15 (some 54) (v := ?_) (a' := ?_) rfl rfl (by kernel_rfl) (fun _ _ _ h => h) (Or.inl ⟨by rfl, ?_⟩) ?_ ?_
 rotate_left; (intro w'; go_simp; with_reducible rfl)
 rotate_left; (simp only [Act.put, List.setIfInBounds_toArray, List.set_cons_zero, List.set_cons_succ, i64_w, i32_w]; rfl)
 refine pu 16 (some 55) (v := ?_) (a' := ?_) rfl rfl (by kernel_rfl) (fun _ _ _ h => h) (Or.inl ⟨by rfl, ?_⟩) ?_ ?_
 rotate_left; (intro w'; go_simp; with_reducible rfl)
 rotate_left; (simp only [Act.put, List.setIfInBounds_toArray, List.set_cons_zero, List.set_cons_succ, i64_w, i32_w]; rfl)
 refine pu 17 (some 56) (v := ?_) (a' := ?_) rfl rfl (by kernel_rfl) (fun _ _ _ h => h) (Or.inl ⟨by rfl, ?_⟩) ?_ ?_
 rotate_left; (intro w'; go_simp; with_reducible rfl)
 rotate_left; (simp only [Act.put, List.setIfInBounds_toArray, List.set_cons_zero, List.set_cons_succ, i64_w, i32_w]; rfl)
 refine on 18 (some 57) rfl rfl (by kernel_rfl) (by decide) (fun K hK => ?_)
 refine goes_ Tryz.func25 (by kernel_rfl) rfl #[.slice AV vs.length cV, .slice AU vs.length cU] (by rfl) rfl rfl (by (try simp only [List.map_toArray, List.map_cons, List.map_nil]); first | done | rfl) ?_
 with_reducible refine (strings_same AV cV vs AU cU _ (Kd.C_below HVV4.out hHeld.1) hlV (Kd.C_below HVU.out hHeld.1) hlU HVL.out).mono ?_
 rintro e w5 ⟨rfl, hb5⟩
 refine ⟨_, rfl, ?_⟩
 replace hHeld := HS.out _ (belTrans hb5 hHeld.1)
 clear hb5
 refine hK.out _ _ hHeld (fun _ => ?_)
 clear hK K
 refine norm_ (a' := ?_) ?_ ?_
 rotate_left; (show Act.put _ (some 57) _ = _; simp only [Act.put, List.setIfInBounds_toArray, List.set_cons_zero, List.set_cons_succ, i64_w, i32_w]; rfl)
 refine pu 19 (some 58) (v := ?_) (a' := ?_) rfl rfl (by kernel_rfl) (fun _ _ _ h => h) (Or.inl ⟨by rfl, ?_⟩) ?_ ?_
 rotate_left; (intro w'; go_simp; with_reducible rfl)
 rotate_left; (simp only [Act.put, List.setIfInBounds_toArray, List.set_cons_zero, List.set_cons_succ, i64_w, i32_w]; rfl)
 refine pu 20 (some 59) (v := ?_) (a' := ?_) rfl rfl (by kernel_rfl) (fun _ _ _ h => h) (Or.inl ⟨by rfl, ?_⟩) ?_ ?_
 rotate_left; (intro w'; go_simp; with_reducible rfl)
 rotate_left; (simp only [Act.put, List.setIfInBounds_toArray, List.set_cons_zero, List.set_cons_succ, i64_w, i32_w]; rfl)
 refine pu 21 (some 60) (v := ?_) (a' := ?_) rfl rfl (by kernel_rfl) (fun _ _ _ h => h) (Or.inl ⟨by rfl, ?_⟩) ?_ ?_
 rotate_left; (intro w'; go_simp; with_reducible rfl)
 rotate_left; (simp only [Act.put, List.setIfInBounds_toArray, List.set_cons_zero, List.set_cons_succ, i64_w, i32_w]; rfl)
 refine pu 22 (some 61) (v := ?_) (a' := ?_) rfl rfl (by kernel_rfl) (fun _ _ _ h => h) (Or.inl ⟨by rfl, ?_⟩) ?_ ?_
 rotate_left; (intro w'; go_simp; with_reducible rfl)
 rotate_left; (simp only [Act.put, List.setIfInBounds_toArray, List.set_cons_zero, List.set_cons_succ, i64_w, i32_w]; rfl)
 refine pu 23 (some 62) (v := ?_) (a' := ?_) rfl rfl (by kernel_rfl) (fun _ _ _ h => h) (Or.inl ⟨by rfl, ?_⟩) ?_ ?_
 rotate_left; (intro w'; go_simp; with_reducible rfl)
 rotate_left; (simp only [Act.put, List.setIfInBounds_toArray, List.set_cons_zero, List.set_cons_succ, i64_w, i32_w]; rfl)
 refine pu 24 (some 63) (v := ?_) (a' := ?_) rfl rfl (by kernel_rfl) (fun _ _ _ h => h) (Or.inl ⟨by rfl, ?_⟩) ?_ ?_
 rotate_left; (intro w'; go_simp; with_reducible rfl)
 rotate_left; (simp only [Act.put, List.setIfInBounds_toArray, List.set_cons_zero, List.set_cons_succ, i64_w, i32_w]; rfl)
 refine pu 25 (some 64) (v := ?_) (a' := ?_) rfl rfl (by kernel_rfl) (fun _ _ _ h => h) (Or.inl ⟨by rfl, ?_⟩) ?_ ?_
 rotate_left; (intro w'; go_simp; with_reducible rfl)
 rotate_left; (simp only [Act.put, List.setIfInBounds_toArray, List.set_cons_zero, List.set_cons_succ, i64_w, i32_w]; rfl)
 refine pu 26 (some 65) (v := ?_) (a' := ?_) rfl rfl (by kernel_rfl) (fun _ _ _ h => h) (Or.inl ⟨by rfl, ?_⟩) ?_ ?_
 rotate_left; (intro w'; go_simp; with_reducible rfl)
 rotate_left; (simp only [Act.put, List.setIfInBounds_toArray, List.set_cons_zero, List.set_cons_succ, i64_w, i32_w]; rfl)
 refine pu 27 (some 66) (v := ?_) (a' := ?_) rfl rfl (by kernel_rfl) (fun _ _ _ h => h) (Or.inl ⟨by rfl, ?_⟩) ?_ ?_
 rotate_left; (intro w'; go_simp; with_reducible rfl)
 rotate_left; (simp only [Act.put, List.setIfInBounds_toArray, List.set_cons_zero, List.set_cons_succ, i64_w, i32_w]; rfl)
 refine pu 28 (some 67) (v := ?_) (a' := ?_) rfl rfl (by kernel_rfl) (fun _ _ _ h => h) (Or.inl ⟨by rfl, ?_⟩) ?_ ?_
 rotate_left; (intro w'; go_simp; with_reducible rfl)
 rotate_left; (simp only [Act.put, List.setIfInBounds_toArray, List.set_cons_zero, List.set_cons_succ, i64_w, i32_w]; rfl)
 refine tk 29 (some 68) (v := ?_) (a' := ?_) rfl rfl (by kernel_rfl) (fun _ _ _ h => h) (Or.inl ⟨by rfl, ?_⟩) hHeld ?_ ?_
 rotate_left; (rintro w' ⟨_, _, ⟨x0, x1, x2, x3, x4, x5, x6⟩, ⟨y0, y1, y2, y3, y4, y5, y6⟩, ⟨z0, z1, z2, z3, z4, z5⟩⟩; go_simp; with_reducible rfl)
 rotate_left; (simp only [Act.put, List.setIfInBounds_toArray, List.set_cons_zero, List.set_cons_succ, i64_w, i32_w]; rfl)
 refine pu 31 (some 70) (v := ?_) (a' := ?_) rfl rfl (by kernel_rfl) (fun _ _ _ h => h) (Or.inl ⟨by rfl, ?_⟩) ?_ ?_
 rotate_left; (intro w'; go_simp; with_reducible rfl)
 rotate_left; (simp only [Act.put, List.setIfInBounds_toArray, List.set_cons_zero, List.set_cons_succ, i64_w, i32_w]; rfl)
 refine pu 32 (some 71) (v := ?_) (a' := ?_) rfl rfl (by kernel_rfl) (fun _ _ _ h => h) (Or.inl ⟨by rfl, ?_⟩) ?_ ?_
 rotate_left; (intro w'; go_simp; with_reducible rfl)
 rotate_left; (simp only [Act.put, List.setIfInBounds_toArray, List.set_cons_zero, List.set_cons_succ, i64_w, i32_w]; rfl)
 refine pu 33 (some 72) (v := ?_) (a' := ?_) rfl rfl (by kernel_rfl) (fun _ _ _ h => h) (Or.inl ⟨by rfl, ?_⟩) ?_ ?_
 rotate_left; (intro w'; go_simp; with_reducible rfl)
 rotate_left; (simp only [Act.put, List.setIfInBounds_toArray, List.set_cons_zero, List.set_cons_succ, i64_w, i32_w]; rfl)
 refine tk 34 (some 73) (v := ?_) (a' := ?_) rfl rfl (by kernel_rfl) (fun _ _ _ h => h) (Or.inl ⟨by rfl, ?_⟩) hHeld ?_ ?_
 rotate_left; (rintro w' ⟨_, _, ⟨x0, x1, x2, x3, x4, x5, x6⟩, ⟨y0, y1, y2, y3, y4, y5, y6⟩, ⟨z0, z1, z2, z3, z4, z5⟩⟩; go_simp; with_reducible rfl)
 rotate_left; (simp only [Act.put, List.setIfInBounds_toArray, List.set_cons_zero, List.set_cons_succ, i64_w, i32_w]; rfl)
 refine on 30 (some 69) rfl rfl (by kernel_rfl) (by decide) (fun K hK => ?_)
 refine goes_ Tryz.func27 (by kernel_rfl) rfl #[.slice AN ns.length cN, .slice A l.length c] (by rfl) rfl rfl (by (try simp only [List.map_toArray, List.map_cons, List.map_nil]); first | done | rfl) ?_
 with_reducible refine (HP1.out _ hHeld.2.1).mono ?_
 rintro e w5 ⟨rfl, hb5⟩
 refine ⟨_, rfl, ?_⟩
 replace hHeld := HS.out _ (belTrans hb5 hHeld.1)
 clear hb5
 refine hK.out _ _ hHeld (fun _ => ?_)
 clear hK K
 refine norm_ (a' := ?_) ?_ ?_
 rotate_left; (show Act.put _ (some 69) _ = _; simp only [Act.put, List.setIfInBounds_toArray, List.set_cons_zero, List.set_cons_succ, i64_w, i32_w]; rfl)
 refine on 35 (some 74) rfl rfl (by kernel_rfl) (by decide) (fun K hK => ?_)
 refine goes_ Tryz.func48 (by kernel_rfl) rfl #[.slice AN ns.length cN, .slice A l.length c] (by rfl) rfl rfl (by (try simp only [List.map_toArray, List.map_cons, List.map_nil]); first | done | rfl) ?_
 with_reducible refine (HP2.out _ hHeld.2.1).mono ?_
 rintro e w5 ⟨rfl, hb5⟩
 refine ⟨_, rfl, ?_⟩
 replace hHeld := HS.out _ (belTrans hb5 hHeld.1)
 clear hb5
 refine hK.out _ _ hHeld (fun _ => ?_)
 clear hK K
 refine norm_ (a' := ?_) ?_ ?_
 rotate_left; (show Act.put _ (some 74) _ = _; simp only [Act.put, List.setIfInBounds_toArray, List.set_cons_zero, List.set_cons_succ, i64_w, i32_w]; rfl)
 refine pu 36 (some 75) (v := ?_) (a' := ?_) rfl rfl (by kernel_rfl) (fun _ _ _ h => h) (Or.inl ⟨by rfl, ?_⟩) ?_ ?_
 rotate_left; (intro w'; go_simp; with_reducible rfl)
 rotate_left; (simp only [Act.put, List.setIfInBounds_toArray, List.set_cons_zero, List.set_cons_succ, i64_w, i32_w]; rfl)
 refine pu 37 (some 76) (v := ?_) (a' := ?_) rfl rfl (by kernel_rfl) (fun _ _ _ h => h) (Or.inl ⟨by rfl, ?_⟩) ?_ ?_
 rotate_left; (intro w'; go_simp; with_reducible rfl)
 rotate_left; (simp only [Act.put, List.setIfInBounds_toArray, List.set_cons_zero, List.set_cons_succ, i64_w, i32_w]; rfl)
 refine pu 38 (some 77) (v := ?_) (a' := ?_) rfl rfl (by kernel_rfl) (fun _ _ _ h => h) (Or.inl ⟨by rfl, ?_⟩) ?_ ?_
 rotate_left; (intro w'; go_simp; with_reducible rfl)
 rotate_left; (simp only [Act.put, List.setIfInBounds_toArray, List.set_cons_zero, List.set_cons_succ, i64_w, i32_w]; rfl)
 refine tk 39 (some 78) (v := ?_) (a' := ?_) rfl rfl (by kernel_rfl) (fun _ _ _ h => h) (Or.inl ⟨by rfl, ?_⟩) hHeld ?_ ?_
 rotate_left; (rintro w' ⟨_, _, ⟨x0, x1, x2, x3, x4, x5, x6⟩, ⟨y0, y1, y2, y3, y4, y5, y6⟩, ⟨z0, z1, z2, z3, z4, z5⟩⟩; go_simp; with_reducible rfl)
 rotate_left; (simp only [Act.put, List.setIfInBounds_toArray, List.set_cons_zero, List.set_cons_succ, i64_w, i32_w]; rfl)
 refine tk 40 (some 79) (v := ?_) (a' := ?_) rfl rfl (by kernel_rfl) (fun _ _ _ h => h) (Or.inl ⟨by rfl, ?_⟩) hHeld ?_ ?_
 rotate_left; (rintro w' ⟨_, _, ⟨x0, x1, x2, x3, x4, x5, x6⟩, ⟨y0, y1, y2, y3, y4, y5, y6⟩, ⟨z0, z1, z2, z3, z4, z5⟩⟩; go_simp; with_reducible rfl)
 rotate_left; (simp only [Act.put, List.setIfInBounds_toArray, List.set_cons_zero, List.set_cons_succ, i64_w, i32_w]; rfl)
 refine tk 41 (some 80) (v := ?_) (a' := ?_) rfl rfl (by kernel_rfl) (fun _ _ _ h => h) (Or.inl ⟨by rfl, ?_⟩) hHeld ?_ ?_
 rotate_left; (rintro w' ⟨_, _, ⟨x0, x1, x2, x3, x4, x5, x6⟩, ⟨y0, y1, y2, y3, y4, y5, y6⟩, ⟨z0, z1, z2, z3, z4, z5⟩⟩; go_simp; with_reducible rfl)
 rotate_left; (simp only [Act.put, List.setIfInBounds_toArray, List.set_cons_zero, List.set_cons_succ, i64_w, i32_w]; rfl)
 refine tk 43 (some 82) (v := ?_) (a' := ?_) rfl rfl (by kernel_rfl) (fun _ _ _ h => h) (Or.inl ⟨by rfl, ?_⟩) hHeld ?_ ?_
 rotate_left; (rintro w' ⟨_, _, ⟨x0, x1, x2, x3, x4, x5, x6⟩, ⟨y0, y1, y2, y3, y4, y5, y6⟩, ⟨z0, z1, z2, z3, z4, z5⟩⟩; go_simp; with_reducible rfl)
 rotate_left; (simp only [Act.put, List.setIfInBounds_toArray, List.set_cons_zero, List.set_cons_succ, i64_w, i32_w]; rfl)
 refine tk 44 (some 83) (v := ?_) (a' := ?_) rfl rfl (by kernel_rfl) (fun _ _ _ h => h) (Or.inl ⟨by rfl, ?_⟩) hHeld ?_ ?_
 rotate_left; (rintro w' ⟨_, _, ⟨x0, x1, x2, x3, x4, x5, x6⟩, ⟨y0, y1, y2, y3, y4, y5, y6⟩, ⟨z0, z1, z2, z3, z4, z5⟩⟩; go_simp; with_reducible rfl)
 rotate_left; (simp only [Act.put, List.setIfInBounds_toArray, List.set_cons_zero, List.set_cons_succ, i64_w, i32_w]; rfl)
 refine tk 45 (some 84) (v := ?_) (a' := ?_) rfl rfl (by kernel_rfl) (fun _ _ _ h => h) (Or.inl ⟨by rfl, ?_⟩) hHeld ?_ ?_
 rotate_left; (rintro w' ⟨_, _, ⟨x0, x1, x2, x3, x4, x5, x6⟩, ⟨y0, y1, y2, y3, y4, y5, y6⟩, ⟨z0, z1, z2, z3, z4, z5⟩⟩; go_simp; with_reducible rfl)
 rotate_left; (simp only [Act.put, List.setIfInBounds_toArray, List.set_cons_zero, List.set_cons_succ, i64_w, i32_w]; rfl)
 refine on 42 (some 81) rfl rfl (by kernel_rfl) (by decide) (fun K hK => ?_)
 refine goes_ Tryz.func22 (by kernel_rfl) rfl #[.agg #[.string m, .string t, .int .i64 s, .string r, .int .i64 mi, .slice A l.length c, .string bx], .agg #[.string m1, .string t1, .int .i64 s1, .string r1, .int .i64 mi1, .slice A1 l1.length c1, .string by'], .agg #[.string m2, .string t2, .int .i64 s2, .string r2, .int .i64 mi2, .slice A2 l2.length c2]] (by rfl) rfl rfl (by (try simp only [List.map_toArray, List.map_cons, List.map_nil]); first | done | rfl) ?_
 with_reducible refine (HF1.out _ hHeld.2.1).mono ?_
 rintro e w5 ⟨rfl, hb5⟩
 refine ⟨_, rfl, ?_⟩
 replace hHeld := HS.out _ (belTrans hb5 hHeld.1)
 clear hb5
 refine hK.out _ _ hHeld (fun _ => ?_)
 clear hK K
 refine norm_ (a' := ?_) ?_ ?_
 rotate_left; (show Act.put _ (some 81) _ = _; simp only [Act.put, List.setIfInBounds_toArray, List.set_cons_zero, List.set_cons_succ, i64_w, i32_w]; rfl)
 refine on 46 (some 85) rfl rfl (by kernel_rfl) (by decide) (fun K hK => ?_)
 refine goes_ Tryz.func49 (by kernel_rfl) rfl #[.agg #[.string m, .string t, .int .i64 s, .string r, .int .i64 mi, .slice A l.length c, .string bx], .agg #[.string m1, .string t1, .int .i64 s1, .string r1, .int .i64 mi1, .slice A1 l1.length c1, .string by'], .agg #[.string m2, .string t2, .int .i64 s2, .string r2, .int .i64 mi2, .slice A2 l2.length c2]] (by rfl) rfl rfl (by (try simp only [List.map_toArray, List.map_cons, List.map_nil]); first | done | rfl) ?_
 with_reducible refine (HF2.out _ hHeld.2.1).mono ?_
 rintro e w5 ⟨rfl, hb5⟩
 refine ⟨_, rfl, ?_⟩
 replace hHeld := HS.out _ (belTrans hb5 hHeld.1)
 clear hb5
 refine hK.out _ _ hHeld (fun _ => ?_)
 clear hK K
 refine norm_ (a' := ?_) ?_ ?_
 rotate_left; (show Act.put _ (some 85) _ = _; simp only [Act.put, List.setIfInBounds_toArray, List.set_cons_zero, List.set_cons_succ, i64_w, i32_w]; rfl)
 refine pu 47 (some 86) (v := ?_) (a' := ?_) rfl rfl (by kernel_rfl) (fun _ _ _ h => h) (Or.inl ⟨by rfl, ?_⟩) ?_ ?_
 rotate_left; (intro w'; go_simp; with_reducible rfl)
 rotate_left; (simp only [Act.put, List.setIfInBounds_toArray, List.set_cons_zero, List.set_cons_succ, i64_w, i32_w]; rfl)
 refine pu 48 (some 87) (v := ?_) (a' := ?_) rfl rfl (by kernel_rfl) (fun _ _ _ h => h) (Or.inl ⟨by rfl, ?_⟩) ?_ ?_
 rotate_left; (intro w'; go_simp; with_reducible rfl)
 rotate_left; (simp only [Act.put, List.setIfInBounds_toArray, List.set_cons_zero, List.set_cons_succ, i64_w, i32_w]; rfl)
 refine pu 49 (some 8) (v := ?_) (a' := ?_) rfl rfl (by kernel_rfl) (fun _ _ _ h => h) (Or.inl ⟨by rfl, ?_⟩) ?_ ?_
 rotate_left; (intro w'; go_simp; with_reducible rfl)
 rotate_left; (simp only [Act.put, List.setIfInBounds_toArray, List.set_cons_zero, List.set_cons_succ, i64_w, i32_w]; rfl)
 refine done_ (by kernel_rfl) ?_
 go_wp2
 go_ret
 exact ⟨rfl, hHeld.2.1⟩
end Go.Proofs.YtalafpigfeiaiaaGreatDoor.Q
end
section
namespace Go.Proofs.YtalafpigfeiaiaaGreatDoor.Q
open Go.RowKit Go.Proofs.YtalafpigfeiaiaaGreatDoor.H Go.Proofs.YtalafpigfeiaiaaGreatDoorW.PrintWords Go.Proofs.YtalafpigfeiaiaaGreatDoorW.PrintLast Go.Proofs.YtalafpigfeiaiaaGreatDoorW.PrintMore
set_option linter.unusedVariables false
set_option linter.unusedSimpArgs false
abbrev aX : FieldL := [⟨⟨#[104, 111, 115, 116]⟩, ⟨#[88]⟩⟩]
abbrev aN : FieldL := [⟨⟨#[67, 111, 111, 107, 105, 101]⟩, ⟨#[]⟩⟩]
abbrev aV1 : FieldL := [⟨⟨#[86, 97, 114, 121]⟩, ⟨#[98, 44, 32, 65]⟩⟩, ⟨⟨#[118, 97, 114, 121]⟩, ⟨#[97]⟩⟩]
abbrev aV2 : FieldL := [⟨⟨#[86, 97, 114, 121]⟩, ⟨#[97, 44, 32, 42]⟩⟩]
abbrev aH : FieldL := [⟨⟨#[86, 97, 114, 121]⟩, ⟨#[72, 111, 115, 116]⟩⟩]
theorem a_key : keyS ⟨#[71, 69, 84]⟩ ⟨#[47, 97, 47, 46, 46, 47, 98]⟩ aX = (⟨#[71, 69, 84, 32, 120, 32, 47, 98]⟩, 0) := by decide +kernel
theorem a_shX : sharedS ⟨#[71, 69, 84]⟩ ⟨#[]⟩ aX = true := by decide +kernel
theorem a_shN : sharedS ⟨#[71, 69, 84]⟩ ⟨#[]⟩ aN = false := by decide +kernel
theorem a_v1 : varyS aV1 = ([⟨#[97]⟩, ⟨#[98]⟩], true) := by decide +kernel
theorem a_v2 : (varyS aV2).2 = false := by decide +kernel
theorem a_sp : splitS [⟨#[72, 79, 83, 84]⟩] aX = ⟨#[104, 111, 115, 116, 58, 88, 10, 10]⟩ := by decide +kernel
theorem a_f1 : fitsS aX aX aH = true := by decide +kernel
theorem a_f2 : fitsS aX aN aH = false := by decide +kernel
abbrev enc2 (f : S36) : List Value := [.string f.f0, .string f.f1]
theorem flat2_get : ∀ (xs : FieldL) (j i : Nat) (f : S36) (u : Value), xs[j]? = some f → (enc2 f)[i]? = some u → (xs.flatMap enc2)[j * 2 + i]? = some u
  | [], j, i, f, u, hj, _ => by simp at hj
  | x :: xs, 0, i, f, u, hj, hi => by
    have e : x = f := by simpa using hj
    subst e
    have hlt : i < (enc2 x).length := (List.getElem?_eq_some_iff.1 hi).1
    rw [List.flatMap_cons, Nat.zero_mul, Nat.zero_add, List.getElem?_append_left hlt]
    exact hi
  | x :: xs, j + 1, i, f, u, hj, hi => by
    have hj' : xs[j]? = some f := by simpa using hj
    rw [List.flatMap_cons, List.getElem?_append_right (by show 2 ≤ _; omega)]
    have e : (j + 1) * 2 + i - (enc2 x).length = j * 2 + i := by simp; omega
    rw [e]
    exact flat2_get xs j i f u hj' hi
theorem lit36_C (W : World) (g : Nat) (cur : Array Value) (xs : FieldL) (hg : W.heap[g]? = some (.cells cur 36 (0, 0))) (hx : cur.toList = xs.flatMap enc2) (hl : xs.length ≤ 1000) : Kd.C k36 W (some ⟨g, 0, none⟩) xs.length xs := by
  refine ⟨rfl, by omega, fun _ => ⟨_, rfl, fun j f hj => ⟨enc2 f, rfl, k36_mk W f, fun i u hu => ?_⟩⟩⟩
  have e : (⟨g, 0, none⟩ : Addr).add (j * k36.sz + i) = ⟨g, j * 2 + i, none⟩ := by rw [show k36.sz = 2 from rfl]; unfold Addr.add; simp; intros; omega
  rw [e]
  simp only [World.cell?, hg]
  rw [← Array.getElem?_toList, hx]
  exact flat2_get xs j i f u hj hu
abbrev aMX (g : Nat) (l : FieldL) : Hd := ⟨⟨#[71, 69, 84]⟩, ⟨#[47, 97, 47, 46, 46, 47, 98]⟩, 0, ⟨#[]⟩, 0, some ⟨g, 0, none⟩, l.length, l⟩
abbrev aMH (g : Nat) (l : FieldL) : Hd := ⟨⟨#[]⟩, ⟨#[]⟩, 0, ⟨#[]⟩, 0, some ⟨g, 0, none⟩, l.length, l⟩
theorem aX_few : Few aX := ⟨by decide, by decide⟩
theorem aN_few : Few aN := ⟨by decide, by decide⟩
theorem aV1_few : Few aV1 := ⟨by decide, by decide⟩
theorem aV2_few : Few aV2 := ⟨by decide, by decide⟩
theorem aH_few : Few aH := ⟨by decide, by decide⟩
def Lies (W : World) (g : Nat) (l : FieldL) : Prop := Kd.C k36 W (some ⟨g, 0, none⟩) l.length l
theorem Lies.below {W W' : World} {g : Nat} {l : FieldL} (h : Lies W g l) (hb : Below W.heap.size W W') : Lies W' g l := Kd.C_below h hb
theorem Lies.lit {W : World} {g : Nat} {cur : Array Value} {xs : FieldL} (hg : W.heap[g]? = some (.cells cur 36 (0, 0))) (hx : cur.toList = xs.flatMap enc2) (hl : xs.length ≤ 1000) : Lies W g xs := lit36_C W g cur xs hg hx hl
theorem aw_key (g : Nat) (W : World) (h : Lies W g aX) :
    Calls Tryz.prog 29 #[.agg #[.string ⟨#[71, 69, 84]⟩, .string ⟨#[47, 97, 47, 46, 46, 47, 98]⟩, .int .i64 0, .string ⟨#[]⟩, .int .i64 0, .slice (some ⟨g, 0, none⟩) 1 1, .string ⟨#[]⟩]] W fun e w' => e = .returned (.tuple #[.string ⟨#[71, 69, 84, 32, 120, 32, 47, 98]⟩, .int .i64 0]) ∧ Below W.heap.size W w' :=
  (key_calls (aMX g aX) ⟨#[]⟩ W ⟨h, Nat.le_refl _, aX_few⟩ (by decide : (⟨#[71, 69, 84]⟩ : ByteArray).size ≤ 1000000000) (by decide : (⟨#[47, 97, 47, 46, 46, 47, 98]⟩ : ByteArray).size ≤ 1000000000)).mono fun e w' ⟨he, hb⟩ => ⟨he.trans (by rw [a_key]), hb⟩
theorem aw_shX (g : Nat) (W : World) (h : Lies W g aX) :
    Calls Tryz.prog 20 #[.agg #[.string ⟨#[71, 69, 84]⟩, .string ⟨#[47, 97, 47, 46, 46, 47, 98]⟩, .int .i64 0, .string ⟨#[]⟩, .int .i64 0, .slice (some ⟨g, 0, none⟩) 1 1, .string ⟨#[]⟩]] W fun e w' => e = .returned (.bool true) ∧ Below W.heap.size W w' :=
  (shared_calls (aMX g aX) ⟨#[]⟩ W ⟨h, Nat.le_refl _, aX_few⟩).mono fun e w' ⟨he, hb⟩ => ⟨he.trans (by rw [a_shX]), hb⟩
theorem aw_shN (g : Nat) (W : World) (h : Lies W g aN) :
    Calls Tryz.prog 20 #[.agg #[.string ⟨#[71, 69, 84]⟩, .string ⟨#[47, 97, 47, 46, 46, 47, 98]⟩, .int .i64 0, .string ⟨#[]⟩, .int .i64 0, .slice (some ⟨g, 0, none⟩) 1 1, .string ⟨#[]⟩]] W fun e w' => e = .returned (.bool false) ∧ Below W.heap.size W w' :=
  (shared_calls (aMX g aN) ⟨#[]⟩ W ⟨h, Nat.le_refl _, aN_few⟩).mono fun e w' ⟨he, hb⟩ => ⟨he.trans (by rw [a_shN]), hb⟩
theorem aw_sp (q g : Nat) (W : World) (hq : W.heap[q]? = some (.cells #[.string ⟨#[72, 79, 83, 84]⟩] 9 (0, 0))) (h : Lies W g aX) :
    Calls Tryz.prog 27 #[.slice (some ⟨q, 0, none⟩) 1 1, .slice (some ⟨g, 0, none⟩) 1 1] W fun e w' => e = .returned (.string ⟨#[104, 111, 115, 116, 58, 88, 10, 10]⟩) ∧ Below W.heap.size W w' :=
  (split_calls (some ⟨q, 0, none⟩) 1 [⟨#[72, 79, 83, 84]⟩] (some ⟨g, 0, none⟩) 1 aX W (lit_C W q 9 _ [⟨#[72, 79, 83, 84]⟩] hq rfl (by decide)) (by decide) h (by decide) aX_few ⟨by decide, by decide⟩).mono fun e w' ⟨he, hb⟩ => ⟨he.trans (by rw [a_sp]), hb⟩
theorem aw_f1 (g q : Nat) (W : World) (h : Lies W g aX) (hq : Lies W q aH) :
    Calls Tryz.prog 22 #[.agg #[.string ⟨#[71, 69, 84]⟩, .string ⟨#[47, 97, 47, 46, 46, 47, 98]⟩, .int .i64 0, .string ⟨#[]⟩, .int .i64 0, .slice (some ⟨g, 0, none⟩) 1 1, .string ⟨#[]⟩], .agg #[.string ⟨#[71, 69, 84]⟩, .string ⟨#[47, 97, 47, 46, 46, 47, 98]⟩, .int .i64 0, .string ⟨#[]⟩, .int .i64 0, .slice (some ⟨g, 0, none⟩) 1 1, .string ⟨#[]⟩], .agg #[.string ⟨#[]⟩, .string ⟨#[]⟩, .int .i64 0, .string ⟨#[]⟩, .int .i64 0, .slice (some ⟨q, 0, none⟩) 1 1]] W fun e w' => e = .returned (.bool true) ∧ Below W.heap.size W w' :=
  (fits_calls (aMX g aX) ⟨#[]⟩ (aMX g aX) ⟨#[]⟩ (aMH q aH) W ⟨h, Nat.le_refl _, aX_few⟩ ⟨h, Nat.le_refl _, aX_few⟩ ⟨hq, Nat.le_refl _, aH_few⟩).mono fun e w' ⟨he, hb⟩ => ⟨he.trans (by rw [a_f1]), hb⟩
theorem aw_f2 (g i q : Nat) (W : World) (h : Lies W g aX) (hi : Lies W i aN) (hq : Lies W q aH) :
    Calls Tryz.prog 22 #[.agg #[.string ⟨#[71, 69, 84]⟩, .string ⟨#[47, 97, 47, 46, 46, 47, 98]⟩, .int .i64 0, .string ⟨#[]⟩, .int .i64 0, .slice (some ⟨g, 0, none⟩) 1 1, .string ⟨#[]⟩], .agg #[.string ⟨#[71, 69, 84]⟩, .string ⟨#[47, 97, 47, 46, 46, 47, 98]⟩, .int .i64 0, .string ⟨#[]⟩, .int .i64 0, .slice (some ⟨i, 0, none⟩) 1 1, .string ⟨#[]⟩], .agg #[.string ⟨#[]⟩, .string ⟨#[]⟩, .int .i64 0, .string ⟨#[]⟩, .int .i64 0, .slice (some ⟨q, 0, none⟩) 1 1]] W fun e w' => e = .returned (.bool false) ∧ Below W.heap.size W w' :=
  (fits_calls (aMX g aX) ⟨#[]⟩ (aMX i aN) ⟨#[]⟩ (aMH q aH) W ⟨h, Nat.le_refl _, aX_few⟩ ⟨hi, Nat.le_refl _, aN_few⟩ ⟨hq, Nat.le_refl _, aH_few⟩).mono fun e w' ⟨he, hb⟩ => ⟨he.trans (by rw [a_f2]), hb⟩
theorem aw_str (AV : Option Addr) (cV q : Nat) (W : World) (h : Kd.C Kd.string W AV 2 [⟨#[97]⟩, ⟨#[98]⟩]) (hc : 2 ≤ cV) (hq : W.heap[q]? = some (.cells #[.string ⟨#[97]⟩, .string ⟨#[98]⟩] 9 (0, 0))) :
    Calls Tryz.prog 25 #[.slice AV 2 cV, .slice (some ⟨q, 0, none⟩) 2 2] W fun e w' => e = .returned (.bool true) ∧ Below W.heap.size W w' :=
  strings_same AV cV [⟨#[97]⟩, ⟨#[98]⟩] (some ⟨q, 0, none⟩) 2 W h hc (lit_C W q 9 _ [⟨#[97]⟩, ⟨#[98]⟩] hq rfl (by decide)) (by decide) (by decide)
theorem aw_v1 (g : Nat) (W : World) (h : Lies W g aV1) :
    Calls Tryz.prog 23 #[.slice (some ⟨g, 0, none⟩) 2 2] W fun e w' => ∃ A c, e = .returned (.tuple #[.slice A 2 c, .bool true]) ∧ 2 ≤ c ∧ Kd.C Kd.string w' A 2 [⟨#[97]⟩, ⟨#[98]⟩] ∧ Below W.heap.size W w' := by
  refine (vary_calls (some ⟨g, 0, none⟩) 2 aV1 W h (by decide) aV1_few).mono ?_
  rintro e w' ⟨v, he, hv, hb⟩
  rw [a_v1] at hv he
  obtain ⟨A, c, rfl, hlc, hr⟩ := Kd.R_reads hv
  exact ⟨A, c, he, hlc, hr, hb⟩
theorem aw_v2 (g : Nat) (W : World) (h : Lies W g aV2) :
    Calls Tryz.prog 23 #[.slice (some ⟨g, 0, none⟩) 1 1] W fun e w' => ∃ v, e = .returned (.tuple #[v, .bool false]) ∧ Below W.heap.size W w' := by
  refine (vary_calls (some ⟨g, 0, none⟩) 1 aV2 W h (by decide) aV2_few).mono ?_
  rintro e w' ⟨v, he, hv, hb⟩
  rw [a_v2] at he
  exact ⟨v, he, hb⟩
set_option maxHeartbeats 4000000 in
set_option maxRecDepth 100000 in
theorem awake_calls (w : World) : Calls Tryz.prog 19 #[] w fun e w' => e = .returned (.bool true) ∧ Below w.heap.size w w' := by
  go_enter Tryz.func19, Tryz.ntmps19
  go_wp2_with fail
  with_reducible refine (aw_key w.heap.size _ (Lies.lit (cur := #[.string ⟨#[104, 111, 115, 116]⟩, .string ⟨#[88]⟩]) (by (repeat' first | exact at_new (by first | rfl | (simp; done)) | (refine at_old (by first | (simp; done) | (simp; omega)) ?_))) rfl (by decide))).mono ?_
  rintro e w1 ⟨rfl, hb1⟩
  have HX1 := Aside0.mk ((hb1.block (w.heap.size + 1) (by simp)).trans (by (repeat' first | exact at_new (by first | rfl | (simp; done)) | (refine at_old (by first | (simp; done) | (simp; omega)) ?_))) : w1.heap[w.heap.size + 1]? = some (.cells #[.string ⟨#[71, 69, 84]⟩, .string ⟨#[47, 97, 47, 46, 46, 47, 98]⟩, .int .i64 0, .string ⟨#[]⟩, .int .i64 0, .slice (some ⟨w.heap.size, 0, none⟩) 1 1, .string ⟨#[]⟩] 27 (0, 0)))
  have HLX := Aside0.mk (Lies.below (Lies.lit (cur := #[.string ⟨#[104, 111, 115, 116]⟩, .string ⟨#[88]⟩]) (xs := aX) (by (repeat' first | exact at_new (by first | rfl | (simp; done)) | (refine at_old (by first | (simp; done) | (simp; omega)) ?_))) rfl (by decide)) hb1 : Lies w1 w.heap.size aX)
  have hs1 : w.heap.size + 2 ≤ w1.heap.size := Nat.le_trans (by simp) hb1.size
  have HB1 := Aside0.mk ((below_alloc (below_alloc (Below.refl w.heap.size w) _) _).trans (hb1.mono (by simp; omega)))
  have HS1 := Aside0.mk hs1
  clear hb1 hs1
  obtain ⟨x0, x1, x2, x3, x4, x5, x6⟩ := seven_cells HX1.out
  go_wp2_with fail
  clear x0 x1 x2 x3 x4 x5 x6
  with_reducible refine (aw_v1 (w1.heap.size + 1 + 1) _ (Lies.lit (cur := #[.string ⟨#[86, 97, 114, 121]⟩, .string ⟨#[98, 44, 32, 65]⟩, .string ⟨#[118, 97, 114, 121]⟩, .string ⟨#[97]⟩]) (by (repeat' first | exact at_new (by first | rfl | (simp; done)) | (refine at_old (by first | (simp; done) | (simp; omega)) ?_))) rfl (by decide))).mono ?_
  rintro e w2 ⟨AV, cV, rfl, hcV, hvV, hb2⟩
  have HVV := Aside0.mk hvV
  have HX2 := Aside0.mk ((hb2.block (w.heap.size + 1) (by have := HS1.out; simp; omega)).trans ((((below_alloc (below_alloc (below_alloc (Below.refl w1.heap.size w1) _) _) _)).block _ (by have := HS1.out; omega)).trans HX1.out))
  have HN2 := Aside0.mk ((hb2.block (w1.heap.size) (by simp; omega)).trans (by (repeat' first | exact at_new (by first | rfl | (simp; done)) | (refine at_old (by first | (simp; done) | (simp; omega)) ?_))) : w2.heap[w1.heap.size]? = some (.cells #[.string ⟨#[71, 69, 84]⟩, .string ⟨#[47, 97, 47, 46, 46, 47, 98]⟩, .int .i64 0, .string ⟨#[]⟩, .int .i64 0, .slice (some ⟨w1.heap.size + 1, 0, none⟩) 1 1, .string ⟨#[]⟩] 27 (0, 0)))
  have HLX2 := Aside0.mk (HLX.out.below ((below_alloc (below_alloc (below_alloc (Below.refl w1.heap.size w1) _) _) _).trans (hb2.mono (by simp; omega))))
  have HLN2 := Aside0.mk (Lies.below (Lies.lit (cur := #[.string ⟨#[67, 111, 111, 107, 105, 101]⟩, .string ⟨#[]⟩]) (xs := aN) (by (repeat' first | exact at_new (by first | rfl | (simp; done)) | (refine at_old (by first | (simp; done) | (simp; omega)) ?_))) rfl (by decide)) hb2 : Lies w2 (w1.heap.size + 1) aN)
  have hs2 : w1.heap.size + 3 ≤ w2.heap.size := Nat.le_trans (by simp) hb2.size
  have HB2 := Aside0.mk ((below_alloc (below_alloc (below_alloc HB1.out _) _) _).trans (hb2.mono (by have := HS1.out; simp; omega)))
  have HS2 := Aside0.mk hs2
  clear hb2 hs2 hvV
  go_wp2_with fail
  with_reducible refine (aw_v2 w2.heap.size _ (Lies.lit (cur := #[.string ⟨#[86, 97, 114, 121]⟩, .string ⟨#[97, 44, 32, 42]⟩]) (by (repeat' first | exact at_new (by first | rfl | (simp; done)) | (refine at_old (by first | (simp; done) | (simp; omega)) ?_))) rfl (by decide))).mono ?_
  rintro e w3 ⟨v3, rfl, hb3⟩
  have hb3' := (below_alloc (Below.refl w2.heap.size w2) (.cells #[.string ⟨#[86, 97, 114, 121]⟩, .string ⟨#[97, 44, 32, 42]⟩] 36)).trans (hb3.mono (by simp))
  have hs3 : w2.heap.size + 1 ≤ w3.heap.size := Nat.le_trans (by simp) hb3.size
  have HS3 := Aside0.mk hs3
  have HB3' := Aside0.mk hb3'
  clear hb3 hb3' hs3
  have HX := Aside0.mk (fun (o1 o2 : Obj) => seven_cells (W := (w3.alloc o1).alloc o2) (((below_alloc (below_alloc (Below.refl w3.heap.size w3) o1) o2).block _ (by have := HS1.out; have := HS2.out; have := HS3.out; omega)).trans ((HB3'.out.block _ (by have := HS1.out; have := HS2.out; omega)).trans HX2.out)))
  have x0 := fun (o1 o2 : Obj) => (HX.out o1 o2).1
  have x1 := fun (o1 o2 : Obj) => (HX.out o1 o2).2.1
  have x2 := fun (o1 o2 : Obj) => (HX.out o1 o2).2.2.1
  have x3 := fun (o1 o2 : Obj) => (HX.out o1 o2).2.2.2.1
  have x4 := fun (o1 o2 : Obj) => (HX.out o1 o2).2.2.2.2.1
  have x5 := fun (o1 o2 : Obj) => (HX.out o1 o2).2.2.2.2.2.1
  have x6 := fun (o1 o2 : Obj) => (HX.out o1 o2).2.2.2.2.2.2
  go_wp2_with fail
  clear x0 x1 x2 x3 x4 x5 x6
  generalize hw4 : (w3.alloc (.cells #[.string ⟨#[86, 97, 114, 121]⟩, .string ⟨#[72, 111, 115, 116]⟩] 36)).alloc (.cells #[.string ⟨#[]⟩, .string ⟨#[]⟩, .int .i64 0, .string ⟨#[]⟩, .int .i64 0, .slice (some ⟨w3.heap.size, 0, none⟩) 1 1] 25) = w4
  have hb4 : Below w3.heap.size w3 w4 := by rw [← hw4]; exact below_alloc (below_alloc (Below.refl _ _) _) _
  have hs4 : w3.heap.size + 2 ≤ w4.heap.size := by rw [← hw4]; simp
  have HX4 := Aside0.mk ((hb4.block (w.heap.size + 1) (by have := HS1.out; have := HS2.out; have := HS3.out; omega)).trans ((HB3'.out.block _ (by have := HS1.out; have := HS2.out; omega)).trans HX2.out))
  have HN4 := Aside0.mk ((hb4.block w1.heap.size (by have := HS2.out; have := HS3.out; omega)).trans ((HB3'.out.block _ (by have := HS2.out; omega)).trans HN2.out))
  have HH4 := Aside0.mk ((by rw [← hw4]; (repeat' first | exact at_new (by first | rfl | (simp; done)) | (refine at_old (by first | (simp; done) | (simp; omega)) ?_))) : w4.heap[w3.heap.size + 1]? = some (.cells #[.string ⟨#[]⟩, .string ⟨#[]⟩, .int .i64 0, .string ⟨#[]⟩, .int .i64 0, .slice (some ⟨w3.heap.size, 0, none⟩) 1 1] 25 (0, 0)))
  have HLX4 := Aside0.mk ((HLX2.out.below HB3'.out).below hb4)
  have HLN4 := Aside0.mk ((HLN2.out.below HB3'.out).below hb4)
  have HLH4 := Aside0.mk (Lies.lit (W := w4) (g := w3.heap.size) (cur := #[.string ⟨#[86, 97, 114, 121]⟩, .string ⟨#[72, 111, 115, 116]⟩]) (xs := aH) (by rw [← hw4]; (repeat' first | exact at_new (by first | rfl | (simp; done)) | (refine at_old (by first | (simp; done) | (simp; omega)) ?_))) rfl (by decide))
  have HVV4 := Aside0.mk (Kd.C_below (Kd.C_below HVV.out HB3'.out) hb4)
  have HB4 := Aside0.mk (HB2.out.trans ((HB3'.out.trans (hb4.mono HB3'.out.size)).mono HB2.out.size))
  have HS := Aside0.mk (fun (W : World) (h : Below w4.heap.size w4 W) => (⟨h, seven_cells ((h.block _ (by have := HS1.out; have := HS2.out; have := HS3.out; omega)).trans HX4.out), seven_cells ((h.block _ (by have := HS2.out; have := HS3.out; omega)).trans HN4.out), six_cells ((h.block _ (by omega)).trans HH4.out)⟩ : Below w4.heap.size w4 W ∧ Seven W (w.heap.size + 1) (.string ⟨#[71, 69, 84]⟩) (.string ⟨#[47, 97, 47, 46, 46, 47, 98]⟩) (.int .i64 0) (.string ⟨#[]⟩) (.int .i64 0) (.slice (some ⟨w.heap.size, 0, none⟩) 1 1) (.string ⟨#[]⟩) ∧ Seven W w1.heap.size (.string ⟨#[71, 69, 84]⟩) (.string ⟨#[47, 97, 47, 46, 46, 47, 98]⟩) (.int .i64 0) (.string ⟨#[]⟩) (.int .i64 0) (.slice (some ⟨w1.heap.size + 1, 0, none⟩) 1 1) (.string ⟨#[]⟩) ∧ Six W (w3.heap.size + 1) (.string ⟨#[]⟩) (.string ⟨#[]⟩) (.int .i64 0) (.string ⟨#[]⟩) (.int .i64 0) (.slice (some ⟨w3.heap.size, 0, none⟩) 1 1)))
  clear hb4 hs4 hw4
  have hB := Below.refl w4.heap.size w4
  with_reducible refine (aw_shX w.heap.size _ (HLX4.out.below hB)).mono ?_
  rintro e w5 ⟨rfl, hb5⟩
  replace hB := belTrans hb5 hB
  clear hb5
  obtain ⟨_, ⟨x0, x1, x2, x3, x4, x5, x6⟩, ⟨y0, y1, y2, y3, y4, y5, y6⟩, ⟨z0, z1, z2, z3, z4, z5⟩⟩ := HS.out _ hB
  have hB' := Aside0.mk hB
  clear hB
  go_wp2_with fail
  clear x0 x1 x2 x3 x4 x5 x6 y0 y1 y2 y3 y4 y5 y6 z0 z1 z2 z3 z4 z5
  have hB := hB'.out
  clear hB'
  with_reducible refine (aw_shN (w1.heap.size + 1) _ (HLN4.out.below hB)).mono ?_
  rintro e w5 ⟨rfl, hb5⟩
  replace hB := belTrans hb5 hB
  clear hb5
  obtain ⟨_, ⟨x0, x1, x2, x3, x4, x5, x6⟩, ⟨y0, y1, y2, y3, y4, y5, y6⟩, ⟨z0, z1, z2, z3, z4, z5⟩⟩ := HS.out _ hB
  have hB' := Aside0.mk hB
  clear hB
  go_wp2_with fail
  clear x0 x1 x2 x3 x4 x5 x6 y0 y1 y2 y3 y4 y5 y6 z0 z1 z2 z3 z4 z5
  have hB := hB'.out
  clear hB'
  with_reducible refine (aw_str AV cV w5.heap.size _ (Kd.C_below HVV4.out (below_alloc hB _)) hcV (heap_alloc_new w5 _)).mono ?_
  rintro e w5 ⟨rfl, hb5⟩
  replace hB := belTrans hb5 (below_alloc hB _)
  clear hb5
  have HX := Aside0.mk (fun (o : Obj) => HS.out _ (below_alloc hB o))
  have x5 := fun (o : Obj) => (HX.out o).2.1.2.2.2.2.2.1
  have hB' := Aside0.mk hB
  clear hB
  go_wp2_with fail
  clear x5
  have hB := hB'.out
  clear hB'
  with_reducible refine (aw_sp w5.heap.size w.heap.size _ (heap_alloc_new w5 _) (HLX4.out.below (below_alloc hB _))).mono ?_
  rintro e w5 ⟨rfl, hb5⟩
  replace hB := belTrans hb5 (below_alloc hB _)
  clear hb5
  obtain ⟨_, ⟨x0, x1, x2, x3, x4, x5, x6⟩, ⟨y0, y1, y2, y3, y4, y5, y6⟩, ⟨z0, z1, z2, z3, z4, z5⟩⟩ := HS.out _ hB
  have hB' := Aside0.mk hB
  clear hB
  go_wp2_with fail
  clear x0 x1 x2 x3 x4 x5 x6 y0 y1 y2 y3 y4 y5 y6 z0 z1 z2 z3 z4 z5
  have hB := hB'.out
  clear hB'
  with_reducible refine (aw_f1 w.heap.size w3.heap.size _ (HLX4.out.below hB) (HLH4.out.below hB)).mono ?_
  rintro e w5 ⟨rfl, hb5⟩
  replace hB := belTrans hb5 hB
  clear hb5
  obtain ⟨_, ⟨x0, x1, x2, x3, x4, x5, x6⟩, ⟨y0, y1, y2, y3, y4, y5, y6⟩, ⟨z0, z1, z2, z3, z4, z5⟩⟩ := HS.out _ hB
  have hB' := Aside0.mk hB
  clear hB
  go_wp2_with fail
  clear x0 x1 x2 x3 x4 x5 x6 y0 y1 y2 y3 y4 y5 y6 z0 z1 z2 z3 z4 z5
  have hB := hB'.out
  clear hB'
  with_reducible refine (aw_f2 w.heap.size (w1.heap.size + 1) w3.heap.size _ (HLX4.out.below hB) (HLN4.out.below hB) (HLH4.out.below hB)).mono ?_
  rintro e w5 ⟨rfl, hb5⟩
  replace hB := belTrans hb5 hB
  clear hb5
  obtain ⟨_, ⟨x0, x1, x2, x3, x4, x5, x6⟩, ⟨y0, y1, y2, y3, y4, y5, y6⟩, ⟨z0, z1, z2, z3, z4, z5⟩⟩ := HS.out _ hB
  have hB' := Aside0.mk hB
  clear hB
  go_wp2_with fail
  clear x0 x1 x2 x3 x4 x5 x6 y0 y1 y2 y3 y4 y5 y6 z0 z1 z2 z3 z4 z5
  have hB := hB'.out
  clear hB'
  go_ret
  exact ⟨rfl, HB4.out.trans (hB.mono HB4.out.size)⟩
end Go.Proofs.YtalafpigfeiaiaaGreatDoor.Q
end
