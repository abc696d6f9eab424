/- Contracts of functions and plain laws, part 11. -/
import Derived.Test.YtalafpigfeiaiaaGreatDoorKU10
import Derived.Test.YtalafpigfeiaiaaGreatDoorProg
section
namespace Go.Proofs.YtalafpigfeiaiaaGreatDoor.Q
open Go.RowKit Go.Proofs.YtalafpigfeiaiaaGreatDoor.H Go.Proofs.YtalafpigfeiaiaaGreatDoorW.PrintWords Go.Proofs.YtalafpigfeiaiaaGreatDoorW.PrintLast Go.Proofs.YtalafpigfeiaiaaGreatDoorW.PrintMore
set_option linter.unusedVariables false
set_option linter.unusedSimpArgs false
theorem any_two (l : FieldL) : (itemsF l ccontrol).any (Lib.containsS [sPrivate, sNoStore]) = ((itemsF l lccontrol).any (fun x => decide (ul x = ul sPrivate)) || (itemsF l lccontrol).any (fun x => decide (ul x = ul sNoStore))) := by
 rw [itemsF_name l (a := lccontrol) (b := ccontrol) rfl]
 generalize itemsF l ccontrol = its
 have h : Lib.containsS [sPrivate, sNoStore] = fun x => decide (ul x = ul sPrivate) || decide (ul x = ul sNoStore) := by
  funext x
  have h : Lib.containsS [sPrivate, sNoStore] x = true ↔ (decide (ul x = ul sPrivate) || decide (ul x = ul sNoStore)) = true := by
   rw [Lib.containsS_iff, Bool.or_eq_true, decide_eq_true_eq, decide_eq_true_eq]
   simp only [List.mem_cons, List.not_mem_nil, or_false]
   exact ⟨fun e => e.imp (fun e => by rw [e]) (fun e => by rw [e]), fun e => e.imp ul_inj ul_inj⟩
  exact Bool.eq_iff_iff.2 h
 rw [h]
 induction its with
 | nil => rfl
 | cons x its ih => simp only [List.any_cons]; rw [ih]; cases decide (ul x = ul sPrivate) <;> cases decide (ul x = ul sNoStore) <;> simp
theorem keep4 {w1 w' : World} {a b d : Addr} {u v x : Value} (h : Below w1.heap.size w1 w') (ha : a.block < w1.heap.size) (hb : b.block < w1.heap.size) (hd : d.block < w1.heap.size) (h0 : w1.cell? a = some u) (h1 : w1.cell? b = some v) (h2 : w1.cell? d = some x) : Below w1.heap.size w1 w' ∧ w'.cell? a = some u ∧ w'.cell? b = some v ∧ w'.cell? d = some x := ⟨h, (h.cell ha).trans h0, (h.cell hb).trans h1, (h.cell hd).trans h2⟩
set_option maxHeartbeats 1000000 in
set_option maxRecDepth 100000 in
theorem refFits_calls (x : Hd) (bx : ByteArray) (y : Hd) (by' : ByteArray) (z : Hd) (w : World) (hx : x.In w) (hy : y.In w) (hz : z.In w) :
  Calls Tryz.prog 49 #[x.mv bx, y.mv by', z.v] w fun e w' => e = .returned (.bool (fitsS x.l y.l z.l)) ∧ Below w.heap.size w w' := by
 obtain ⟨m, t, s, r, mi, A, c, l⟩ := x
 obtain ⟨m1, t1, s1, r1, mi1, A1, c1, l1⟩ := y
 obtain ⟨m2, t2, s2, r2, mi2, A2, c2, l2⟩ := z
 simp only [Hd.mv, Hd.v]
 have HV := Aside0.mk (fun (W : World) (hW : Below w.heap.size w W) => refVary_calls A2 c2 l2 W (Kd.C_below hz.rd hW) hz.cap hz.few)
 have HP := Aside0.mk (fun (W W0 : World) (hW0 : Below w.heap.size w W0) (hW : Below W0.heap.size W0 W) => refDirects_calls A2 c2 l2 sPrivate W (Kd.C_below hz.rd (hW0.trans (hW.mono hW0.size))) hz.cap hz.few)
 have HD := Aside0.mk (fun (W W0 : World) (hW0 : Below w.heap.size w W0) (hW : Below W0.heap.size W0 W) => refDirects_calls A2 c2 l2 sNoStore W (Kd.C_below hz.rd (hW0.trans (hW.mono hW0.size))) hz.cap hz.few)
 have HG := Aside0.mk (fun (W W0 : World) (hW0 : Below w.heap.size w W0) (hW : Below W0.heap.size W0 W) => refGet_calls A2 c2 l2 lsetCookie W (Kd.C_below hz.rd (hW0.trans (hW.mono hW0.size))) hz.cap hz.few (by decide))
 have HGL := Aside0.mk ((getF_few hz.few lsetCookie).1)
 have HN := Aside0.mk (varyS_few hz.few)
 have HS := Aside0.mk (fun (W W0 : World) (hW0 : Below w.heap.size w W0) (hW : Below W0.heap.size W0 W) (AN : Option Addr) (cN : Nat) (h0 : Kd.C Kd.string W0 AN (varyS l2).1.length (varyS l2).1) (h1 : (varyS l2).1.length ≤ cN) =>
  refSplit_calls AN cN (varyS l2).1 A c l W (Kd.C_below h0 hW) h1 (Kd.C_below hx.rd (hW0.trans (hW.mono hW0.size))) hx.cap hx.few HN.out)
 have HS1 := Aside0.mk (fun (W W0 : World) (hW0 : Below w.heap.size w W0) (hW : Below W0.heap.size W0 W) (AN : Option Addr) (cN : Nat) (h0 : Kd.C Kd.string W0 AN (varyS l2).1.length (varyS l2).1) (h1 : (varyS l2).1.length ≤ cN) =>
  refSplit_calls AN cN (varyS l2).1 A1 c1 l1 W (Kd.C_below h0 hW) h1 (Kd.C_below hy.rd (hW0.trans (hW.mono hW0.size))) hy.cap hy.few HN.out)
 have HF := Aside0.mk (show fitsS l l1 l2 = ((varyS l2).2 && !((itemsF l2 lccontrol).any (fun x => decide (ul x = ul sPrivate)) || (itemsF l2 lccontrol).any (fun x => decide (ul x = ul sNoStore))) && !(hasF l2 lsetCookie) && ((ul (splitS (varyS l2).1 l)) == (ul (splitS (varyS l2).1 l1)))) by rw [← any_two, hasF_name l2 (a := lsetCookie) (b := sSetCookie) rfl]; rfl)
 clear hx hy hz HN
 simp only [hasF] at HF
 generalize fitsS l l1 l2 = res at *
 generalize hok : (varyS l2).2 = ok at *
 generalize hns : (varyS l2).1 = ns at *
 generalize hpp : (itemsF l2 lccontrol).any (fun x => decide (ul x = ul sPrivate)) = pp at *
 generalize hdd : (itemsF l2 lccontrol).any (fun x => decide (ul x = ul sNoStore)) = dd at *
 generalize hgl : (getF l2 lsetCookie).length = gl at *
 generalize hs0 : splitS ns l = q0 at *
 generalize hs1 : splitS ns l1 = q1 at *
 clear hok hns hpp hdd hs0 hs1
 have HGL' := Aside0.mk hgl
 clear hgl
 have hk0 : (((w.alloc (.cells #[.string m, .string t, .int .i64 s, .string r, .int .i64 mi, .slice A l.length c, .string bx] 27)).alloc (.cells #[.string m1, .string t1, .int .i64 s1, .string r1, .int .i64 mi1, .slice A1 l1.length c1, .string by'] 27)).alloc (.cells #[.string m2, .string t2, .int .i64 s2, .string r2, .int .i64 mi2, .slice A2 l2.length c2] 25)).heap[w.heap.size]? = some (.cells #[.string m, .string t, .int .i64 s, .string r, .int .i64 mi, .slice A l.length c, .string bx] 27 (0, 0)) := by (repeat' first | exact at_new (by first | rfl | (simp; done)) | (refine at_old (by first | (simp; done) | (simp; omega)) ?_))
 have hk1 : (((w.alloc (.cells #[.string m, .string t, .int .i64 s, .string r, .int .i64 mi, .slice A l.length c, .string bx] 27)).alloc (.cells #[.string m1, .string t1, .int .i64 s1, .string r1, .int .i64 mi1, .slice A1 l1.length c1, .string by'] 27)).alloc (.cells #[.string m2, .string t2, .int .i64 s2, .string r2, .int .i64 mi2, .slice A2 l2.length c2] 25)).heap[w.heap.size + 1]? = some (.cells #[.string m1, .string t1, .int .i64 s1, .string r1, .int .i64 mi1, .slice A1 l1.length c1, .string by'] 27 (0, 0)) := by (repeat' first | exact at_new (by first | rfl | (simp; done)) | (refine at_old (by first | (simp; done) | (simp; omega)) ?_))
 have hk2 : (((w.alloc (.cells #[.string m, .string t, .int .i64 s, .string r, .int .i64 mi, .slice A l.length c, .string bx] 27)).alloc (.cells #[.string m1, .string t1, .int .i64 s1, .string r1, .int .i64 mi1, .slice A1 l1.length c1, .string by'] 27)).alloc (.cells #[.string m2, .string t2, .int .i64 s2, .string r2, .int .i64 mi2, .slice A2 l2.length c2] 25)).heap[w.heap.size + 1 + 1]? = some (.cells #[.string m2, .string t2, .int .i64 s2, .string r2, .int .i64 mi2, .slice A2 l2.length c2] 25 (0, 0)) := by (repeat' first | exact at_new (by first | rfl | (simp; done)) | (refine at_old (by first | (simp; done) | (simp; omega)) ?_))
 cases ok with
 | false =>
  go_enter Tryz.func49, Tryz.ntmps49
  go_wp2_with (go_at_call 47; refine (HV.out _ (by (repeat' first | exact Below.refl _ _ | (refine Below.alloc ?_ (by first | (simp; done) | (simp; omega)) _)))).mono ?_; rintro e w1 ⟨v, rfl, hv, hb1⟩; obtain ⟨AN, cN, rfl, hlc, hvr⟩ := Kd.R_reads hv; have HZ0 := Aside0.mk ((hb1.cell (p := ⟨w.heap.size, 5, none⟩) (by (first | (simp; done) | (simp; omega)))).trans (cell_of hk0 rfl) : w1.cell? ⟨w.heap.size, 5, none⟩ = some (.slice A l.length c)); have HZ1 := Aside0.mk ((hb1.cell (p := ⟨w.heap.size + 1, 5, none⟩) (by (first | (simp; done) | (simp; omega)))).trans (cell_of hk1 rfl) : w1.cell? ⟨w.heap.size + 1, 5, none⟩ = some (.slice A1 l1.length c1)); have HZ2 := Aside0.mk ((hb1.cell (p := ⟨w.heap.size + 1 + 1, 5, none⟩) (by (first | (simp; done) | (simp; omega)))).trans (cell_of hk2 rfl) : w1.cell? ⟨w.heap.size + 1 + 1, 5, none⟩ = some (.slice A2 l2.length c2)); have hB1 := (by (repeat' first | exact Below.refl _ _ | (refine Below.alloc ?_ (by first | (simp; done) | (simp; omega)) _)) : Below w.heap.size w _).trans (hb1.mono (by (first | (simp; done) | (simp; omega)))); have hs1 : w.heap.size + 3 ≤ w1.heap.size := Nat.le_trans (by (first | (simp; done) | (simp; omega))) hb1.size; clear hb1 hv hk0 hk1 hk2)
  have hB3d := (Below.refl w1.heap.size w1).drew
  have HK := Aside0.mk (fun (w' : World) (h : Below w1.heap.size w1 w') => keep4 (a := ⟨w.heap.size, 5, none⟩) (b := ⟨w.heap.size + 1, 5, none⟩) (d := ⟨w.heap.size + 1 + 1, 5, none⟩) h (by show w.heap.size < _; omega) (by show w.heap.size + 1 < _; omega) (by show w.heap.size + 1 + 1 < _; omega) HZ0.out HZ1.out HZ2.out)
  refine be (S := (fun w' => Below w1.heap.size w1 w' ∧ w'.cell? ⟨w.heap.size, 5, none⟩ = some (.slice A l.length c) ∧ w'.cell? ⟨w.heap.size + 1, 5, none⟩ = some (.slice A1 l1.length c1) ∧ w'.cell? ⟨w.heap.size + 1 + 1, 5, none⟩ = some (.slice A2 l2.length c2))) (ds := []) 34 (by kernel_rfl) rfl (HK.out _ hB3d) (fun hHeld => ?_)
  generalize w1.drew = wd at hHeld ⊢
  refine pu 0 (some 15) (v := ?_) (a' := ?_) rfl rfl (by kernel_rfl) (fun _ _ _ h => h) (Or.inl ⟨by rfl, ?_⟩) ?_ ?_
  rotate_left; (intro w'; go_simp; with_reducible rfl)
  rotate_left; (simp only [Act.put, List.setIfInBounds_toArray, List.set_cons_zero, List.set_cons_succ, i64_w, i32_w]; rfl)
  refine pu 1 (some 16) (v := ?_) (a' := ?_) rfl rfl (by kernel_rfl) (fun _ _ _ h => h) (Or.inl ⟨by rfl, ?_⟩) ?_ ?_
  rotate_left; (intro w'; go_simp; with_reducible rfl)
  rotate_left; (simp only [Act.put, List.setIfInBounds_toArray, List.set_cons_zero, List.set_cons_succ, i64_w, i32_w]; rfl)
  refine pu 2 (some 17) (v := undef) rfl rfl (by kernel_rfl) (fun _ _ _ h => h) (Or.inr ⟨by rfl, rfl⟩) (a' := ?_) ?_ ?_
  rotate_left; (simp only [Act.put, List.setIfInBounds_toArray, List.set_cons_zero, List.set_cons_succ, i64_w, i32_w]; rfl)
  refine pu 3 (some 18) (v := undef) rfl rfl (by kernel_rfl) (fun _ _ _ h => h) (Or.inr ⟨by rfl, rfl⟩) (a' := ?_) ?_ ?_
  rotate_left; (simp only [Act.put, List.setIfInBounds_toArray, List.set_cons_zero, List.set_cons_succ, i64_w, i32_w]; rfl)
  refine pu 4 (some 19) (v := undef) rfl rfl (by kernel_rfl) (fun _ _ _ h => h) (Or.inr ⟨by rfl, rfl⟩) (a' := ?_) ?_ ?_
  rotate_left; (simp only [Act.put, List.setIfInBounds_toArray, List.set_cons_zero, List.set_cons_succ, i64_w, i32_w]; rfl)
  refine pu 5 (some 20) (v := undef) rfl rfl (by kernel_rfl) (fun _ _ _ h => h) (Or.inr ⟨by rfl, rfl⟩) (a' := ?_) ?_ ?_
  rotate_left; (simp only [Act.put, List.setIfInBounds_toArray, List.set_cons_zero, List.set_cons_succ, i64_w, i32_w]; rfl)
  refine pu 6 (some 21) (v := ?_) (a' := ?_) rfl rfl (by kernel_rfl) (fun _ _ _ h => h) (Or.inl ⟨by rfl, ?_⟩) ?_ ?_
  rotate_left; (intro w'; go_simp; with_reducible rfl)
  rotate_left; (simp only [Act.put, List.setIfInBounds_toArray, List.set_cons_zero, List.set_cons_succ, i64_w, i32_w]; rfl)
  refine pu 7 (some 22) (v := ?_) (a' := ?_) rfl rfl (by kernel_rfl) (fun _ _ _ h => h) (Or.inl ⟨by rfl, ?_⟩) ?_ ?_
  rotate_left; (intro w'; go_simp; with_reducible rfl)
  rotate_left; (simp only [Act.put, List.setIfInBounds_toArray, List.set_cons_zero, List.set_cons_succ, i64_w, i32_w]; rfl)
  refine pu 8 (some 23) (v := undef) rfl rfl (by kernel_rfl) (fun _ _ _ h => h) (Or.inr ⟨by rfl, rfl⟩) (a' := ?_) ?_ ?_
  rotate_left; (simp only [Act.put, List.setIfInBounds_toArray, List.set_cons_zero, List.set_cons_succ, i64_w, i32_w]; rfl)
  refine pu 9 (some 24) (v := undef) rfl rfl (by kernel_rfl) (fun _ _ _ h => h) (Or.inr ⟨by rfl, rfl⟩) (a' := ?_) ?_ ?_
  rotate_left; (simp only [Act.put, List.setIfInBounds_toArray, List.set_cons_zero, List.set_cons_succ, i64_w, i32_w]; rfl)
  refine pu 10 (some 25) (v := undef) rfl rfl (by kernel_rfl) (fun _ _ _ h => h) (Or.inr ⟨by rfl, rfl⟩) (a' := ?_) ?_ ?_
  rotate_left; (simp only [Act.put, List.setIfInBounds_toArray, List.set_cons_zero, List.set_cons_succ, i64_w, i32_w]; rfl)
  refine pu 11 (some 26) (v := undef) rfl rfl (by kernel_rfl) (fun _ _ _ h => h) (Or.inr ⟨by rfl, rfl⟩) (a' := ?_) ?_ ?_
  rotate_left; (simp only [Act.put, List.setIfInBounds_toArray, List.set_cons_zero, List.set_cons_succ, i64_w, i32_w]; rfl)
  refine pu 12 (some 27) (v := ?_) (a' := ?_) rfl rfl (by kernel_rfl) (fun _ _ _ h => h) (Or.inl ⟨by rfl, ?_⟩) ?_ ?_
  rotate_left; (intro w'; go_simp; with_reducible rfl)
  rotate_left; (simp only [Act.put, List.setIfInBounds_toArray, List.set_cons_zero, List.set_cons_succ, i64_w, i32_w]; rfl)
  refine pu 13 (some 28) (v := ?_) (a' := ?_) rfl rfl (by kernel_rfl) (fun _ _ _ h => h) (Or.inl ⟨by rfl, ?_⟩) ?_ ?_
  rotate_left; (intro w'; go_simp; with_reducible rfl)
  rotate_left; (simp only [Act.put, List.setIfInBounds_toArray, List.set_cons_zero, List.set_cons_succ, i64_w, i32_w]; rfl)
  refine pu 14 (some 29) (v := undef) rfl rfl (by kernel_rfl) (fun _ _ _ h => h) (Or.inr ⟨by rfl, rfl⟩) (a' := ?_) ?_ ?_
  rotate_left; (simp only [Act.put, List.setIfInBounds_toArray, List.set_cons_zero, List.set_cons_succ, i64_w, i32_w]; rfl)
  refine pu 15 (some 30) (v := undef) rfl rfl (by kernel_rfl) (fun _ _ _ h => h) (Or.inr ⟨by rfl, rfl⟩) (a' := ?_) ?_ ?_
  rotate_left; (simp only [Act.put, List.setIfInBounds_toArray, List.set_cons_zero, List.set_cons_succ, i64_w, i32_w]; rfl)
  refine pu 16 (some 31) (v := undef) rfl rfl (by kernel_rfl) (fun _ _ _ h => h) (Or.inr ⟨by rfl, rfl⟩) (a' := ?_) ?_ ?_
  rotate_left; (simp only [Act.put, List.setIfInBounds_toArray, List.set_cons_zero, List.set_cons_succ, i64_w, i32_w]; rfl)
  refine pu 17 (some 32) (v := undef) rfl rfl (by kernel_rfl) (fun _ _ _ h => h) (Or.inr ⟨by rfl, rfl⟩) (a' := ?_) ?_ ?_
  rotate_left; (simp only [Act.put, List.setIfInBounds_toArray, List.set_cons_zero, List.set_cons_succ, i64_w, i32_w]; rfl)
  refine pu 18 (some 33) (v := undef) rfl rfl (by kernel_rfl) (fun _ _ _ h => h) (Or.inr ⟨by rfl, rfl⟩) (a' := ?_) ?_ ?_
  rotate_left; (simp only [Act.put, List.setIfInBounds_toArray, List.set_cons_zero, List.set_cons_succ, i64_w, i32_w]; rfl)
  refine pu 19 (some 34) (v := ?_) (a' := ?_) rfl rfl (by kernel_rfl) (fun _ _ _ h => h) (Or.inl ⟨by rfl, ?_⟩) ?_ ?_
  rotate_left; (intro w'; go_simp; with_reducible rfl)
  rotate_left; (simp only [Act.put, List.setIfInBounds_toArray, List.set_cons_zero, List.set_cons_succ, i64_w, i32_w]; rfl)
  refine pu 20 (some 35) (v := ?_) (a' := ?_) rfl rfl (by kernel_rfl) (fun _ _ _ h => h) (Or.inl ⟨by rfl, ?_⟩) ?_ ?_
  rotate_left; (intro w'; go_simp; with_reducible rfl)
  rotate_left; (simp only [Act.put, List.setIfInBounds_toArray, List.set_cons_zero, List.set_cons_succ, i64_w, i32_w]; rfl)
  refine pu 21 (some 36) (v := undef) rfl rfl (by kernel_rfl) (fun _ _ _ h => h) (Or.inr ⟨by rfl, rfl⟩) (a' := ?_) ?_ ?_
  rotate_left; (simp only [Act.put, List.setIfInBounds_toArray, List.set_cons_zero, List.set_cons_succ, i64_w, i32_w]; rfl)
  refine pu 22 (some 37) (v := undef) rfl rfl (by kernel_rfl) (fun _ _ _ h => h) (Or.inr ⟨by rfl, rfl⟩) (a' := ?_) ?_ ?_
  rotate_left; (simp only [Act.put, List.setIfInBounds_toArray, List.set_cons_zero, List.set_cons_succ, i64_w, i32_w]; rfl)
  refine pu 23 (some 38) (v := undef) rfl rfl (by kernel_rfl) (fun _ _ _ h => h) (Or.inr ⟨by rfl, rfl⟩) (a' := ?_) ?_ ?_
  rotate_left; (simp only [Act.put, List.setIfInBounds_toArray, List.set_cons_zero, List.set_cons_succ, i64_w, i32_w]; rfl)
  refine pu 24 (some 39) (v := undef) rfl rfl (by kernel_rfl) (fun _ _ _ h => h) (Or.inr ⟨by rfl, rfl⟩) (a' := ?_) ?_ ?_
  rotate_left; (simp only [Act.put, List.setIfInBounds_toArray, List.set_cons_zero, List.set_cons_succ, i64_w, i32_w]; rfl)
  refine pu 25 (some 40) (v := undef) rfl rfl (by kernel_rfl) (fun _ _ _ h => h) (Or.inr ⟨by rfl, rfl⟩) (a' := ?_) ?_ ?_
  rotate_left; (simp only [Act.put, List.setIfInBounds_toArray, List.set_cons_zero, List.set_cons_succ, i64_w, i32_w]; rfl)
  refine pu 26 (some 41) (v := undef) rfl rfl (by kernel_rfl) (fun _ _ _ h => h) (Or.inr ⟨by rfl, rfl⟩) (a' := ?_) ?_ ?_
  rotate_left; (simp only [Act.put, List.setIfInBounds_toArray, List.set_cons_zero, List.set_cons_succ, i64_w, i32_w]; rfl)
  refine pu 27 (some 42) (v := undef) rfl rfl (by kernel_rfl) (fun _ _ _ h => h) (Or.inr ⟨by rfl, rfl⟩) (a' := ?_) ?_ ?_
  rotate_left; (simp only [Act.put, List.setIfInBounds_toArray, List.set_cons_zero, List.set_cons_succ, i64_w, i32_w]; rfl)
  refine pu 28 (some 43) (v := undef) rfl rfl (by kernel_rfl) (fun _ _ _ h => h) (Or.inr ⟨by rfl, rfl⟩) (a' := ?_) ?_ ?_
  rotate_left; (simp only [Act.put, List.setIfInBounds_toArray, List.set_cons_zero, List.set_cons_succ, i64_w, i32_w]; rfl)
  refine pu 29 (some 44) (v := undef) rfl rfl (by kernel_rfl) (fun _ _ _ h => h) (Or.inr ⟨by rfl, rfl⟩) (a' := ?_) ?_ ?_
  rotate_left; (simp only [Act.put, List.setIfInBounds_toArray, List.set_cons_zero, List.set_cons_succ, i64_w, i32_w]; rfl)
  refine pu 30 (some 45) (v := undef) rfl rfl (by kernel_rfl) (fun _ _ _ h => h) (Or.inr ⟨by rfl, rfl⟩) (a' := ?_) ?_ ?_
  rotate_left; (simp only [Act.put, List.setIfInBounds_toArray, List.set_cons_zero, List.set_cons_succ, i64_w, i32_w]; rfl)
  refine pu 31 (some 46) (v := undef) rfl rfl (by kernel_rfl) (fun _ _ _ h => h) (Or.inr ⟨by rfl, rfl⟩) (a' := ?_) ?_ ?_
  rotate_left; (simp only [Act.put, List.setIfInBounds_toArray, List.set_cons_zero, List.set_cons_succ, i64_w, i32_w]; rfl)
  refine pu 32 (some 47) (v := ?_) (a' := ?_) rfl rfl (by kernel_rfl) (fun _ _ _ h => h) (Or.inl ⟨by rfl, ?_⟩) ?_ ?_
  rotate_left; (intro w'; go_simp; with_reducible rfl)
  rotate_left; (simp only [Act.put, List.setIfInBounds_toArray, List.set_cons_zero, List.set_cons_succ, i64_w, i32_w]; rfl)
  refine pu 33 (some 6) (v := ?_) (a' := ?_) rfl rfl (by kernel_rfl) (fun _ _ _ h => h) (Or.inl ⟨by rfl, ?_⟩) ?_ ?_
  rotate_left; (intro w'; go_simp; with_reducible rfl)
  rotate_left; (simp only [Act.put, List.setIfInBounds_toArray, List.set_cons_zero, List.set_cons_succ, i64_w, i32_w]; rfl)
  refine done_ (by kernel_rfl) ?_
  go_wp2
  go_ret
  exact ⟨by rw [HF.out]; simp, hB1.trans (hHeld.1.mono hB1.size)⟩
 | true =>
  cases pp with
  | true =>
   go_enter Tryz.func49, Tryz.ntmps49
   go_wp2_with (go_at_call 47; refine (HV.out _ (by (repeat' first | exact Below.refl _ _ | (refine Below.alloc ?_ (by first | (simp; done) | (simp; omega)) _)))).mono ?_; rintro e w1 ⟨v, rfl, hv, hb1⟩; obtain ⟨AN, cN, rfl, hlc, hvr⟩ := Kd.R_reads hv; have HZ0 := Aside0.mk ((hb1.cell (p := ⟨w.heap.size, 5, none⟩) (by (first | (simp; done) | (simp; omega)))).trans (cell_of hk0 rfl) : w1.cell? ⟨w.heap.size, 5, none⟩ = some (.slice A l.length c)); have HZ1 := Aside0.mk ((hb1.cell (p := ⟨w.heap.size + 1, 5, none⟩) (by (first | (simp; done) | (simp; omega)))).trans (cell_of hk1 rfl) : w1.cell? ⟨w.heap.size + 1, 5, none⟩ = some (.slice A1 l1.length c1)); have HZ2 := Aside0.mk ((hb1.cell (p := ⟨w.heap.size + 1 + 1, 5, none⟩) (by (first | (simp; done) | (simp; omega)))).trans (cell_of hk2 rfl) : w1.cell? ⟨w.heap.size + 1 + 1, 5, none⟩ = some (.slice A2 l2.length c2)); have hB1 := (by (repeat' first | exact Below.refl _ _ | (refine Below.alloc ?_ (by first | (simp; done) | (simp; omega)) _)) : Below w.heap.size w _).trans (hb1.mono (by (first | (simp; done) | (simp; omega)))); have hs1 : w.heap.size + 3 ≤ w1.heap.size := Nat.le_trans (by (first | (simp; done) | (simp; omega))) hb1.size; clear hb1 hv hk0 hk1 hk2)
   have hB3d := (Below.refl w1.heap.size w1).drew
   have HK := Aside0.mk (fun (w' : World) (h : Below w1.heap.size w1 w') => keep4 (a := ⟨w.heap.size, 5, none⟩) (b := ⟨w.heap.size + 1, 5, none⟩) (d := ⟨w.heap.size + 1 + 1, 5, none⟩) h (by show w.heap.size < _; omega) (by show w.heap.size + 1 < _; omega) (by show w.heap.size + 1 + 1 < _; omega) HZ0.out HZ1.out HZ2.out)
   refine be (S := (fun w' => Below w1.heap.size w1 w' ∧ w'.cell? ⟨w.heap.size, 5, none⟩ = some (.slice A l.length c) ∧ w'.cell? ⟨w.heap.size + 1, 5, none⟩ = some (.slice A1 l1.length c1) ∧ w'.cell? ⟨w.heap.size + 1 + 1, 5, none⟩ = some (.slice A2 l2.length c2))) (ds := []) 34 (by kernel_rfl) rfl (HK.out _ hB3d) (fun hHeld => ?_)
   generalize w1.drew = wd at hHeld ⊢
   refine pu 0 (some 15) (v := ?_) (a' := ?_) rfl rfl (by kernel_rfl) (fun _ _ _ h => h) (Or.inl ⟨by rfl, ?_⟩) ?_ ?_
   rotate_left; (intro w'; go_simp; with_reducible rfl)
   rotate_left; (simp only [Act.put, List.setIfInBounds_toArray, List.set_cons_zero, List.set_cons_succ, i64_w, i32_w]; rfl)
   refine pu 1 (some 16) (v := ?_) (a' := ?_) rfl rfl (by kernel_rfl) (fun _ _ _ h => h) (Or.inl ⟨by rfl, ?_⟩) ?_ ?_
   rotate_left; (intro w'; go_simp; with_reducible rfl)
   rotate_left; (simp only [Act.put, List.setIfInBounds_toArray, List.set_cons_zero, List.set_cons_succ, i64_w, i32_w]; rfl)
   refine pu 2 (some 17) (v := ?_) (a' := ?_) rfl rfl (by kernel_rfl) (fun _ _ _ h => h) (Or.inl ⟨by rfl, ?_⟩) ?_ ?_
   rotate_left; (intro w'; go_simp; with_reducible rfl)
   rotate_left; (simp only [Act.put, List.setIfInBounds_toArray, List.set_cons_zero, List.set_cons_succ, i64_w, i32_w]; rfl)
   refine tk 3 (some 18) (v := ?_) (a' := ?_) rfl rfl (by kernel_rfl) (fun _ _ _ h => h) (Or.inl ⟨by rfl, ?_⟩) hHeld ?_ ?_
   rotate_left; (rintro w' ⟨s0_, s1_, s2_, s3_⟩; go_simp; with_reducible rfl)
   rotate_left; (simp only [Act.put, List.setIfInBounds_toArray, List.set_cons_zero, List.set_cons_succ, i64_w, i32_w]; rfl)
   refine on 4 (some 19) rfl rfl (by kernel_rfl) (by decide) (fun K hK => ?_)
   refine goes_ Tryz.func54 (by kernel_rfl) rfl #[.slice A2 l2.length c2, .string sPrivate] (by rfl) rfl rfl (by (try simp only [List.map_toArray, List.map_cons, List.map_nil]); first | done | rfl) ?_
   with_reducible refine (HP.out _ w1 hB1 hHeld.1).mono ?_
   rintro e w5 ⟨rfl, hb5⟩
   refine ⟨_, rfl, ?_⟩
   replace hHeld := HK.out _ (belTrans hb5 hHeld.1)
   clear hb5
   refine hK.out _ _ hHeld (fun _ => ?_)
   clear hK K
   refine norm_ (a' := ?_) ?_ ?_
   rotate_left; (show Act.put _ (some 19) _ = _; simp only [Act.put, List.setIfInBounds_toArray, List.set_cons_zero, List.set_cons_succ, i64_w, i32_w]; rfl)
   refine pu 5 (some 20) (v := ?_) (a' := ?_) rfl rfl (by kernel_rfl) (fun _ _ _ h => h) (Or.inl ⟨by rfl, ?_⟩) ?_ ?_
   rotate_left; (intro w'; go_simp; with_reducible rfl)
   rotate_left; (simp only [Act.put, List.setIfInBounds_toArray, List.set_cons_zero, List.set_cons_succ, i64_w, i32_w]; rfl)
   refine pu 6 (some 21) (v := ?_) (a' := ?_) rfl rfl (by kernel_rfl) (fun _ _ _ h => h) (Or.inl ⟨by rfl, ?_⟩) ?_ ?_
   rotate_left; (intro w'; go_simp; with_reducible rfl)
   rotate_left; (simp only [Act.put, List.setIfInBounds_toArray, List.set_cons_zero, List.set_cons_succ, i64_w, i32_w]; rfl)
   refine pu 7 (some 22) (v := ?_) (a' := ?_) rfl rfl (by kernel_rfl) (fun _ _ _ h => h) (Or.inl ⟨by rfl, ?_⟩) ?_ ?_
   rotate_left; (intro w'; go_simp; with_reducible rfl)
   rotate_left; (simp only [Act.put, List.setIfInBounds_toArray, List.set_cons_zero, List.set_cons_succ, i64_w, i32_w]; rfl)
   refine pu 8 (some 23) (v := undef) rfl rfl (by kernel_rfl) (fun _ _ _ h => h) (Or.inr ⟨by rfl, rfl⟩) (a' := ?_) ?_ ?_
   rotate_left; (simp only [Act.put, List.setIfInBounds_toArray, List.set_cons_zero, List.set_cons_succ, i64_w, i32_w]; rfl)
   refine pu 9 (some 24) (v := undef) rfl rfl (by kernel_rfl) (fun _ _ _ h => h) (Or.inr ⟨by rfl, rfl⟩) (a' := ?_) ?_ ?_
   rotate_left; (simp only [Act.put, List.setIfInBounds_toArray, List.set_cons_zero, List.set_cons_succ, i64_w, i32_w]; rfl)
   refine pu 10 (some 25) (v := undef) rfl rfl (by kernel_rfl) (fun _ _ _ h => h) (Or.inr ⟨by rfl, rfl⟩) (a' := ?_) ?_ ?_
   rotate_left; (simp only [Act.put, List.setIfInBounds_toArray, List.set_cons_zero, List.set_cons_succ, i64_w, i32_w]; rfl)
   refine pu 11 (some 26) (v := undef) rfl rfl (by kernel_rfl) (fun _ _ _ h => h) (Or.inr ⟨by rfl, rfl⟩) (a' := ?_) ?_ ?_
   rotate_left; (simp only [Act.put, List.setIfInBounds_toArray, List.set_cons_zero, List.set_cons_succ, i64_w, i32_w]; rfl)
   refine pu 12 (some 27) (v := ?_) (a' := ?_) rfl rfl (by kernel_rfl) (fun _ _ _ h => h) (Or.inl ⟨by rfl, ?_⟩) ?_ ?_
   rotate_left; (intro w'; go_simp; with_reducible rfl)
   rotate_left; (simp only [Act.put, List.setIfInBounds_toArray, List.set_cons_zero, List.set_cons_succ, i64_w, i32_w]; rfl)
   refine pu 13 (some 28) (v := ?_) (a' := ?_) rfl rfl (by kernel_rfl) (fun _ _ _ h => h) (Or.inl ⟨by rfl, ?_⟩) ?_ ?_
   rotate_left; (intro w'; go_simp; with_reducible rfl)
   rotate_left; (simp only [Act.put, List.setIfInBounds_toArray, List.set_cons_zero, List.set_cons_succ, i64_w, i32_w]; rfl)
   refine pu 14 (some 29) (v := undef) rfl rfl (by kernel_rfl) (fun _ _ _ h => h) (Or.inr ⟨by rfl, rfl⟩) (a' := ?_) ?_ ?_
   rotate_left; (simp only [Act.put, List.setIfInBounds_toArray, List.set_cons_zero, List.set_cons_succ, i64_w, i32_w]; rfl)
   refine pu 15 (some 30) (v := undef) rfl rfl (by kernel_rfl) (fun _ _ _ h => h) (Or.inr ⟨by rfl, rfl⟩) (a' := ?_) ?_ ?_
   rotate_left; (simp only [Act.put, List.setIfInBounds_toArray, List.set_cons_zero, List.set_cons_succ, i64_w, i32_w]; rfl)
   refine pu 16 (some 31) (v := undef) rfl rfl (by kernel_rfl) (fun _ _ _ h => h) (Or.inr ⟨by rfl, rfl⟩) (a' := ?_) ?_ ?_
   rotate_left; (simp only [Act.put, List.setIfInBounds_toArray, List.set_cons_zero, List.set_cons_succ, i64_w, i32_w]; rfl)
   refine pu 17 (some 32) (v := undef) rfl rfl (by kernel_rfl) (fun _ _ _ h => h) (Or.inr ⟨by rfl, rfl⟩) (a' := ?_) ?_ ?_
   rotate_left; (simp only [Act.put, List.setIfInBounds_toArray, List.set_cons_zero, List.set_cons_succ, i64_w, i32_w]; rfl)
   refine pu 18 (some 33) (v := undef) rfl rfl (by kernel_rfl) (fun _ _ _ h => h) (Or.inr ⟨by rfl, rfl⟩) (a' := ?_) ?_ ?_
   rotate_left; (simp only [Act.put, List.setIfInBounds_toArray, List.set_cons_zero, List.set_cons_succ, i64_w, i32_w]; rfl)
   refine pu 19 (some 34) (v := ?_) (a' := ?_) rfl rfl (by kernel_rfl) (fun _ _ _ h => h) (Or.inl ⟨by rfl, ?_⟩) ?_ ?_
   rotate_left; (intro w'; go_simp; with_reducible rfl)
   rotate_left; (simp only [Act.put, List.setIfInBounds_toArray, List.set_cons_zero, List.set_cons_succ, i64_w, i32_w]; rfl)
   refine pu 20 (some 35) (v := ?_) (a' := ?_) rfl rfl (by kernel_rfl) (fun _ _ _ h => h) (Or.inl ⟨by rfl, ?_⟩) ?_ ?_
   rotate_left; (intro w'; go_simp; with_reducible rfl)
   rotate_left; (simp only [Act.put, List.setIfInBounds_toArray, List.set_cons_zero, List.set_cons_succ, i64_w, i32_w]; rfl)
   refine pu 21 (some 36) (v := undef) rfl rfl (by kernel_rfl) (fun _ _ _ h => h) (Or.inr ⟨by rfl, rfl⟩) (a' := ?_) ?_ ?_
   rotate_left; (simp only [Act.put, List.setIfInBounds_toArray, List.set_cons_zero, List.set_cons_succ, i64_w, i32_w]; rfl)
   refine pu 22 (some 37) (v := undef) rfl rfl (by kernel_rfl) (fun _ _ _ h => h) (Or.inr ⟨by rfl, rfl⟩) (a' := ?_) ?_ ?_
   rotate_left; (simp only [Act.put, List.setIfInBounds_toArray, List.set_cons_zero, List.set_cons_succ, i64_w, i32_w]; rfl)
   refine pu 23 (some 38) (v := undef) rfl rfl (by kernel_rfl) (fun _ _ _ h => h) (Or.inr ⟨by rfl, rfl⟩) (a' := ?_) ?_ ?_
   rotate_left; (simp only [Act.put, List.setIfInBounds_toArray, List.set_cons_zero, List.set_cons_succ, i64_w, i32_w]; rfl)
   refine pu 24 (some 39) (v := undef) rfl rfl (by kernel_rfl) (fun _ _ _ h => h) (Or.inr ⟨by rfl, rfl⟩) (a' := ?_) ?_ ?_
   rotate_left; (simp only [Act.put, List.setIfInBounds_toArray, List.set_cons_zero, List.set_cons_succ, i64_w, i32_w]; rfl)
   refine pu 25 (some 40) (v := undef) rfl rfl (by kernel_rfl) (fun _ _ _ h => h) (Or.inr ⟨by rfl, rfl⟩) (a' := ?_) ?_ ?_
   rotate_left; (simp only [Act.put, List.setIfInBounds_toArray, List.set_cons_zero, List.set_cons_succ, i64_w, i32_w]; rfl)
   refine pu 26 (some 41) (v := undef) rfl rfl (by kernel_rfl) (fun _ _ _ h => h) (Or.inr ⟨by rfl, rfl⟩) (a' := ?_) ?_ ?_
   rotate_left; (simp only [Act.put, List.setIfInBounds_toArray, List.set_cons_zero, List.set_cons_succ, i64_w, i32_w]; rfl)
   refine pu 27 (some 42) (v := undef) rfl rfl (by kernel_rfl) (fun _ _ _ h => h) (Or.inr ⟨by rfl, rfl⟩) (a' := ?_) ?_ ?_
   rotate_left; (simp only [Act.put, List.setIfInBounds_toArray, List.set_cons_zero, List.set_cons_succ, i64_w, i32_w]; rfl)
   refine pu 28 (some 43) (v := undef) rfl rfl (by kernel_rfl) (fun _ _ _ h => h) (Or.inr ⟨by rfl, rfl⟩) (a' := ?_) ?_ ?_
   rotate_left; (simp only [Act.put, List.setIfInBounds_toArray, List.set_cons_zero, List.set_cons_succ, i64_w, i32_w]; rfl)
   refine pu 29 (some 44) (v := undef) rfl rfl (by kernel_rfl) (fun _ _ _ h => h) (Or.inr ⟨by rfl, rfl⟩) (a' := ?_) ?_ ?_
   rotate_left; (simp only [Act.put, List.setIfInBounds_toArray, List.set_cons_zero, List.set_cons_succ, i64_w, i32_w]; rfl)
   refine pu 30 (some 45) (v := undef) rfl rfl (by kernel_rfl) (fun _ _ _ h => h) (Or.inr ⟨by rfl, rfl⟩) (a' := ?_) ?_ ?_
   rotate_left; (simp only [Act.put, List.setIfInBounds_toArray, List.set_cons_zero, List.set_cons_succ, i64_w, i32_w]; rfl)
   refine pu 31 (some 46) (v := undef) rfl rfl (by kernel_rfl) (fun _ _ _ h => h) (Or.inr ⟨by rfl, rfl⟩) (a' := ?_) ?_ ?_
   rotate_left; (simp only [Act.put, List.setIfInBounds_toArray, List.set_cons_zero, List.set_cons_succ, i64_w, i32_w]; rfl)
   refine pu 32 (some 47) (v := ?_) (a' := ?_) rfl rfl (by kernel_rfl) (fun _ _ _ h => h) (Or.inl ⟨by rfl, ?_⟩) ?_ ?_
   rotate_left; (intro w'; go_simp; with_reducible rfl)
   rotate_left; (simp only [Act.put, List.setIfInBounds_toArray, List.set_cons_zero, List.set_cons_succ, i64_w, i32_w]; rfl)
   refine pu 33 (some 6) (v := ?_) (a' := ?_) rfl rfl (by kernel_rfl) (fun _ _ _ h => h) (Or.inl ⟨by rfl, ?_⟩) ?_ ?_
   rotate_left; (intro w'; go_simp; with_reducible rfl)
   rotate_left; (simp only [Act.put, List.setIfInBounds_toArray, List.set_cons_zero, List.set_cons_succ, i64_w, i32_w]; rfl)
   refine done_ (by kernel_rfl) ?_
   go_wp2
   go_ret
   exact ⟨by rw [HF.out]; simp, hB1.trans (hHeld.1.mono hB1.size)⟩
  | false =>
   cases dd with
   | true =>
    go_enter Tryz.func49, Tryz.ntmps49
    go_wp2_with (go_at_call 47; refine (HV.out _ (by (repeat' first | exact Below.refl _ _ | (refine Below.alloc ?_ (by first | (simp; done) | (simp; omega)) _)))).mono ?_; rintro e w1 ⟨v, rfl, hv, hb1⟩; obtain ⟨AN, cN, rfl, hlc, hvr⟩ := Kd.R_reads hv; have HZ0 := Aside0.mk ((hb1.cell (p := ⟨w.heap.size, 5, none⟩) (by (first | (simp; done) | (simp; omega)))).trans (cell_of hk0 rfl) : w1.cell? ⟨w.heap.size, 5, none⟩ = some (.slice A l.length c)); have HZ1 := Aside0.mk ((hb1.cell (p := ⟨w.heap.size + 1, 5, none⟩) (by (first | (simp; done) | (simp; omega)))).trans (cell_of hk1 rfl) : w1.cell? ⟨w.heap.size + 1, 5, none⟩ = some (.slice A1 l1.length c1)); have HZ2 := Aside0.mk ((hb1.cell (p := ⟨w.heap.size + 1 + 1, 5, none⟩) (by (first | (simp; done) | (simp; omega)))).trans (cell_of hk2 rfl) : w1.cell? ⟨w.heap.size + 1 + 1, 5, none⟩ = some (.slice A2 l2.length c2)); have hB1 := (by (repeat' first | exact Below.refl _ _ | (refine Below.alloc ?_ (by first | (simp; done) | (simp; omega)) _)) : Below w.heap.size w _).trans (hb1.mono (by (first | (simp; done) | (simp; omega)))); have hs1 : w.heap.size + 3 ≤ w1.heap.size := Nat.le_trans (by (first | (simp; done) | (simp; omega))) hb1.size; clear hb1 hv hk0 hk1 hk2)
    have hB3d := (Below.refl w1.heap.size w1).drew
    have HK := Aside0.mk (fun (w' : World) (h : Below w1.heap.size w1 w') => keep4 (a := ⟨w.heap.size, 5, none⟩) (b := ⟨w.heap.size + 1, 5, none⟩) (d := ⟨w.heap.size + 1 + 1, 5, none⟩) h (by show w.heap.size < _; omega) (by show w.heap.size + 1 < _; omega) (by show w.heap.size + 1 + 1 < _; omega) HZ0.out HZ1.out HZ2.out)
    refine be (S := (fun w' => Below w1.heap.size w1 w' ∧ w'.cell? ⟨w.heap.size, 5, none⟩ = some (.slice A l.length c) ∧ w'.cell? ⟨w.heap.size + 1, 5, none⟩ = some (.slice A1 l1.length c1) ∧ w'.cell? ⟨w.heap.size + 1 + 1, 5, none⟩ = some (.slice A2 l2.length c2))) (ds := []) 34 (by kernel_rfl) rfl (HK.out _ hB3d) (fun hHeld => ?_)
    generalize w1.drew = wd at hHeld ⊢
    refine pu 0 (some 15) (v := ?_) (a' := ?_) rfl rfl (by kernel_rfl) (fun _ _ _ h => h) (Or.inl ⟨by rfl, ?_⟩) ?_ ?_
    rotate_left; (intro w'; go_simp; with_reducible rfl)
    rotate_left; (simp only [Act.put, List.setIfInBounds_toArray, List.set_cons_zero, List.set_cons_succ, i64_w, i32_w]; rfl)
    refine pu 1 (some 16) (v := ?_) (a' := ?_) rfl rfl (by kernel_rfl) (fun _ _ _ h => h) (Or.inl ⟨by rfl, ?_⟩) ?_ ?_
    rotate_left; (intro w'; go_simp; with_reducible rfl)
    rotate_left; (simp only [Act.put, List.setIfInBounds_toArray, List.set_cons_zero, List.set_cons_succ, i64_w, i32_w]; rfl)
    refine pu 2 (some 17) (v := ?_) (a' := ?_) rfl rfl (by kernel_rfl) (fun _ _ _ h => h) (Or.inl ⟨by rfl, ?_⟩) ?_ ?_
    rotate_left; (intro w'; go_simp; with_reducible rfl)
    rotate_left; (simp only [Act.put, List.setIfInBounds_toArray, List.set_cons_zero, List.set_cons_succ, i64_w, i32_w]; rfl)
    refine tk 3 (some 18) (v := ?_) (a' := ?_) rfl rfl (by kernel_rfl) (fun _ _ _ h => h) (Or.inl ⟨by rfl, ?_⟩) hHeld ?_ ?_
    rotate_left; (rintro w' ⟨s0_, s1_, s2_, s3_⟩; go_simp; with_reducible rfl)
    rotate_left; (simp only [Act.put, List.setIfInBounds_toArray, List.set_cons_zero, List.set_cons_succ, i64_w, i32_w]; rfl)
    refine on 4 (some 19) rfl rfl (by kernel_rfl) (by decide) (fun K hK => ?_)
    refine goes_ Tryz.func54 (by kernel_rfl) rfl #[.slice A2 l2.length c2, .string sPrivate] (by rfl) rfl rfl (by (try simp only [List.map_toArray, List.map_cons, List.map_nil]); first | done | rfl) ?_
    with_reducible refine (HP.out _ w1 hB1 hHeld.1).mono ?_
    rintro e w5 ⟨rfl, hb5⟩
    refine ⟨_, rfl, ?_⟩
    replace hHeld := HK.out _ (belTrans hb5 hHeld.1)
    clear hb5
    refine hK.out _ _ hHeld (fun _ => ?_)
    clear hK K
    refine norm_ (a' := ?_) ?_ ?_
    rotate_left; (show Act.put _ (some 19) _ = _; simp only [Act.put, List.setIfInBounds_toArray, List.set_cons_zero, List.set_cons_succ, i64_w, i32_w]; rfl)
    refine pu 5 (some 20) (v := ?_) (a' := ?_) rfl rfl (by kernel_rfl) (fun _ _ _ h => h) (Or.inl ⟨by rfl, ?_⟩) ?_ ?_
    rotate_left; (intro w'; go_simp; with_reducible rfl)
    rotate_left; (simp only [Act.put, List.setIfInBounds_toArray, List.set_cons_zero, List.set_cons_succ, i64_w, i32_w]; rfl)
    refine pu 6 (some 21) (v := ?_) (a' := ?_) rfl rfl (by kernel_rfl) (fun _ _ _ h => h) (Or.inl ⟨by rfl, ?_⟩) ?_ ?_
    rotate_left; (intro w'; go_simp; with_reducible rfl)
    rotate_left; (simp only [Act.put, List.setIfInBounds_toArray, List.set_cons_zero, List.set_cons_succ, i64_w, i32_w]; rfl)
    refine pu 7 (some 22) (v := ?_) (a' := ?_) rfl rfl (by kernel_rfl) (fun _ _ _ h => h) (Or.inl ⟨by rfl, ?_⟩) ?_ ?_
    rotate_left; (intro w'; go_simp; with_reducible rfl)
    rotate_left; (simp only [Act.put, List.setIfInBounds_toArray, List.set_cons_zero, List.set_cons_succ, i64_w, i32_w]; rfl)
    refine pu 8 (some 23) (v := ?_) (a' := ?_) rfl rfl (by kernel_rfl) (fun _ _ _ h => h) (Or.inl ⟨by rfl, ?_⟩) ?_ ?_
    rotate_left; (intro w'; go_simp; with_reducible rfl)
    rotate_left; (simp only [Act.put, List.setIfInBounds_toArray, List.set_cons_zero, List.set_cons_succ, i64_w, i32_w]; rfl)
    refine tk 9 (some 24) (v := ?_) (a' := ?_) rfl rfl (by kernel_rfl) (fun _ _ _ h => h) (Or.inl ⟨by rfl, ?_⟩) hHeld ?_ ?_
    rotate_left; (rintro w' ⟨s0_, s1_, s2_, s3_⟩; go_simp; with_reducible rfl)
    rotate_left; (simp only [Act.put, List.setIfInBounds_toArray, List.set_cons_zero, List.set_cons_succ, i64_w, i32_w]; rfl)
    refine on 10 (some 25) rfl rfl (by kernel_rfl) (by decide) (fun K hK => ?_)
    refine goes_ Tryz.func54 (by kernel_rfl) rfl #[.slice A2 l2.length c2, .string sNoStore] (by rfl) rfl rfl (by (try simp only [List.map_toArray, List.map_cons, List.map_nil]); first | done | rfl) ?_
    with_reducible refine (HD.out _ w1 hB1 hHeld.1).mono ?_
    rintro e w5 ⟨rfl, hb5⟩
    refine ⟨_, rfl, ?_⟩
    replace hHeld := HK.out _ (belTrans hb5 hHeld.1)
    clear hb5
    refine hK.out _ _ hHeld (fun _ => ?_)
    clear hK K
    refine norm_ (a' := ?_) ?_ ?_
    rotate_left; (show Act.put _ (some 25) _ = _; simp only [Act.put, List.setIfInBounds_toArray, List.set_cons_zero, List.set_cons_succ, i64_w, i32_w]; rfl)
    refine pu 11 (some 26) (v := ?_) (a' := ?_) rfl rfl (by kernel_rfl) (fun _ _ _ h => h) (Or.inl ⟨by rfl, ?_⟩) ?_ ?_
    rotate_left; (intro w'; go_simp; with_reducible rfl)
    rotate_left; (simp only [Act.put, List.setIfInBounds_toArray, List.set_cons_zero, List.set_cons_succ, i64_w, i32_w]; rfl)
    refine pu 12 (some 27) (v := ?_) (a' := ?_) rfl rfl (by kernel_rfl) (fun _ _ _ h => h) (Or.inl ⟨by rfl, ?_⟩) ?_ ?_
    rotate_left; (intro w'; go_simp; with_reducible rfl)
    rotate_left; (simp only [Act.put, List.setIfInBounds_toArray, List.set_cons_zero, List.set_cons_succ, i64_w, i32_w]; rfl)
    refine pu 13 (some 28) (v := ?_) (a' := ?_) rfl rfl (by kernel_rfl) (fun _ _ _ h => h) (Or.inl ⟨by rfl, ?_⟩) ?_ ?_
    rotate_left; (intro w'; go_simp; with_reducible rfl)
    rotate_left; (simp only [Act.put, List.setIfInBounds_toArray, List.set_cons_zero, List.set_cons_succ, i64_w, i32_w]; rfl)
    refine pu 14 (some 29) (v := undef) rfl rfl (by kernel_rfl) (fun _ _ _ h => h) (Or.inr ⟨by rfl, rfl⟩) (a' := ?_) ?_ ?_
    rotate_left; (simp only [Act.put, List.setIfInBounds_toArray, List.set_cons_zero, List.set_cons_succ, i64_w, i32_w]; rfl)
    refine pu 15 (some 30) (v := undef) rfl rfl (by kernel_rfl) (fun _ _ _ h => h) (Or.inr ⟨by rfl, rfl⟩) (a' := ?_) ?_ ?_
    rotate_left; (simp only [Act.put, List.setIfInBounds_toArray, List.set_cons_zero, List.set_cons_succ, i64_w, i32_w]; rfl)
    refine pu 16 (some 31) (v := undef) rfl rfl (by kernel_rfl) (fun _ _ _ h => h) (Or.inr ⟨by rfl, rfl⟩) (a' := ?_) ?_ ?_
    rotate_left; (simp only [Act.put, List.setIfInBounds_toArray, List.set_cons_zero, List.set_cons_succ, i64_w, i32_w]; rfl)
    refine pu 17 (some 32) (v := undef) rfl rfl (by kernel_rfl) (fun _ _ _ h => h) (Or.inr ⟨by rfl, rfl⟩) (a' := ?_) ?_ ?_
    rotate_left; (simp only [Act.put, List.setIfInBounds_toArray, List.set_cons_zero, List.set_cons_succ, i64_w, i32_w]; rfl)
    refine pu 18 (some 33) (v := undef) rfl rfl (by kernel_rfl) (fun _ _ _ h => h) (Or.inr ⟨by rfl, rfl⟩) (a' := ?_) ?_ ?_
    rotate_left; (simp only [Act.put, List.setIfInBounds_toArray, List.set_cons_zero, List.set_cons_succ, i64_w, i32_w]; rfl)
    refine pu 19 (some 34) (v := ?_) (a' := ?_) rfl rfl (by kernel_rfl) (fun _ _ _ h => h) (Or.inl ⟨by rfl, ?_⟩) ?_ ?_
    rotate_left; (intro w'; go_simp; with_reducible rfl)
    rotate_left; (simp only [Act.put, List.setIfInBounds_toArray, List.set_cons_zero, List.set_cons_succ, i64_w, i32_w]; rfl)
    refine pu 20 (some 35) (v := ?_) (a' := ?_) rfl rfl (by kernel_rfl) (fun _ _ _ h => h) (Or.inl ⟨by rfl, ?_⟩) ?_ ?_
    rotate_left; (intro w'; go_simp; with_reducible rfl)
    rotate_left; (simp only [Act.put, List.setIfInBounds_toArray, List.set_cons_zero, List.set_cons_succ, i64_w, i32_w]; rfl)
    refine pu 21 (some 36) (v := undef) rfl rfl (by kernel_rfl) (fun _ _ _ h => h) (Or.inr ⟨by rfl, rfl⟩) (a' := ?_) ?_ ?_
    rotate_left; (simp only [Act.put, List.setIfInBounds_toArray, List.set_cons_zero, List.set_cons_succ, i64_w, i32_w]; rfl)
    refine pu 22 (some 37) (v := undef) rfl rfl (by kernel_rfl) (fun _ _ _ h => h) (Or.inr ⟨by rfl, rfl⟩) (a' := ?_) ?_ ?_
    rotate_left; (simp only [Act.put, List.setIfInBounds_toArray, List.set_cons_zero, List.set_cons_succ, i64_w, i32_w]; rfl)
    refine pu 23 (some 38) (v := undef) rfl rfl (by kernel_rfl) (fun _ _ _ h => h) (Or.inr ⟨by rfl, rfl⟩) (a' := ?_) ?_ ?_
    rotate_left; (simp only [Act.put, List.setIfInBounds_toArray, List.set_cons_zero, List.set_cons_succ, i64_w, i32_w]; rfl)
    refine pu 24 (some 39) (v := undef) rfl rfl (by kernel_rfl) (fun _ _ _ h => h) (Or.inr ⟨by rfl, rfl⟩) (a' := ?_) ?_ ?_
    rotate_left; (simp only [Act.put, List.setIfInBounds_toArray, List.set_cons_zero, List.set_cons_succ, i64_w, i32_w]; rfl)
    refine pu 25 (some 40) (v := undef) rfl rfl (by kernel_rfl) (fun _ _ _ h => h) (Or.inr ⟨by rfl, rfl⟩) (a' := ?_) ?_ ?_
    rotate_left; (simp only [Act.put, List.setIfInBounds_toArray, List.set_cons_zero, List.set_cons_succ, i64_w, i32_w]; rfl)
    refine pu 26 (some 41) (v := undef) rfl rfl (by kernel_rfl) (fun _ _ _ h => h) (Or.inr ⟨by rfl, rfl⟩) (a' := ?_) ?_ ?_
    rotate_left; (simp only [Act.put, List.setIfInBounds_toArray, List.set_cons_zero, List.set_cons_succ, i64_w, i32_w]; rfl)
    refine pu 27 (some 42) (v := undef) rfl rfl (by kernel_rfl) (fun _ _ _ h => h) (Or.inr ⟨by rfl, rfl⟩) (a' := ?_) ?_ ?_
    rotate_left; (simp only [Act.put, List.setIfInBounds_toArray, List.set_cons_zero, List.set_cons_succ, i64_w, i32_w]; rfl)
    refine pu 28 (some 43) (v := undef) rfl rfl (by kernel_rfl) (fun _ _ _ h => h) (Or.inr ⟨by rfl, rfl⟩) (a' := ?_) ?_ ?_
    rotate_left; (simp only [Act.put, List.setIfInBounds_toArray, List.set_cons_zero, List.set_cons_succ, i64_w, i32_w]; rfl)
    refine pu 29 (some 44) (v := undef) rfl rfl (by kernel_rfl) (fun _ _ _ h => h) (Or.inr ⟨by rfl, rfl⟩) (a' := ?_) ?_ ?_
    rotate_left; (simp only [Act.put, List.setIfInBounds_toArray, List.set_cons_zero, List.set_cons_succ, i64_w, i32_w]; rfl)
    refine pu 30 (some 45) (v := undef) rfl rfl (by kernel_rfl) (fun _ _ _ h => h) (Or.inr ⟨by rfl, rfl⟩) (a' := ?_) ?_ ?_
    rotate_left; (simp only [Act.put, List.setIfInBounds_toArray, List.set_cons_zero, List.set_cons_succ, i64_w, i32_w]; rfl)
    refine pu 31 (some 46) (v := undef) rfl rfl (by kernel_rfl) (fun _ _ _ h => h) (Or.inr ⟨by rfl, rfl⟩) (a' := ?_) ?_ ?_
    rotate_left; (simp only [Act.put, List.setIfInBounds_toArray, List.set_cons_zero, List.set_cons_succ, i64_w, i32_w]; rfl)
    refine pu 32 (some 47) (v := ?_) (a' := ?_) rfl rfl (by kernel_rfl) (fun _ _ _ h => h) (Or.inl ⟨by rfl, ?_⟩) ?_ ?_
    rotate_left; (intro w'; go_simp; with_reducible rfl)
    rotate_left; (simp only [Act.put, List.setIfInBounds_toArray, List.set_cons_zero, List.set_cons_succ, i64_w, i32_w]; rfl)
    refine pu 33 (some 6) (v := ?_) (a' := ?_) rfl rfl (by kernel_rfl) (fun _ _ _ h => h) (Or.inl ⟨by rfl, ?_⟩) ?_ ?_
    rotate_left; (intro w'; go_simp; with_reducible rfl)
    rotate_left; (simp only [Act.put, List.setIfInBounds_toArray, List.set_cons_zero, List.set_cons_succ, i64_w, i32_w]; rfl)
    refine done_ (by kernel_rfl) ?_
    go_wp2
    go_ret
    exact ⟨by rw [HF.out]; simp, hB1.trans (hHeld.1.mono hB1.size)⟩
   | false =>
    by_cases hq : gl = 0
    ·subst hq
     go_enter Tryz.func49, Tryz.ntmps49
     go_wp2_with (go_at_call 47; refine (HV.out _ (by (repeat' first | exact Below.refl _ _ | (refine Below.alloc ?_ (by first | (simp; done) | (simp; omega)) _)))).mono ?_; rintro e w1 ⟨v, rfl, hv, hb1⟩; obtain ⟨AN, cN, rfl, hlc, hvr⟩ := Kd.R_reads hv; have HZ0 := Aside0.mk ((hb1.cell (p := ⟨w.heap.size, 5, none⟩) (by (first | (simp; done) | (simp; omega)))).trans (cell_of hk0 rfl) : w1.cell? ⟨w.heap.size, 5, none⟩ = some (.slice A l.length c)); have HZ1 := Aside0.mk ((hb1.cell (p := ⟨w.heap.size + 1, 5, none⟩) (by (first | (simp; done) | (simp; omega)))).trans (cell_of hk1 rfl) : w1.cell? ⟨w.heap.size + 1, 5, none⟩ = some (.slice A1 l1.length c1)); have HZ2 := Aside0.mk ((hb1.cell (p := ⟨w.heap.size + 1 + 1, 5, none⟩) (by (first | (simp; done) | (simp; omega)))).trans (cell_of hk2 rfl) : w1.cell? ⟨w.heap.size + 1 + 1, 5, none⟩ = some (.slice A2 l2.length c2)); have hB1 := (by (repeat' first | exact Below.refl _ _ | (refine Below.alloc ?_ (by first | (simp; done) | (simp; omega)) _)) : Below w.heap.size w _).trans (hb1.mono (by (first | (simp; done) | (simp; omega)))); have hs1 : w.heap.size + 3 ≤ w1.heap.size := Nat.le_trans (by (first | (simp; done) | (simp; omega))) hb1.size; clear hb1 hv hk0 hk1 hk2)
     have hB3d := (Below.refl w1.heap.size w1).drew
     have HK := Aside0.mk (fun (w' : World) (h : Below w1.heap.size w1 w') => keep4 (a := ⟨w.heap.size, 5, none⟩) (b := ⟨w.heap.size + 1, 5, none⟩) (d := ⟨w.heap.size + 1 + 1, 5, none⟩) h (by show w.heap.size < _; omega) (by show w.heap.size + 1 < _; omega) (by show w.heap.size + 1 + 1 < _; omega) HZ0.out HZ1.out HZ2.out)
     refine be (S := (fun w' => Below w1.heap.size w1 w' ∧ w'.cell? ⟨w.heap.size, 5, none⟩ = some (.slice A l.length c) ∧ w'.cell? ⟨w.heap.size + 1, 5, none⟩ = some (.slice A1 l1.length c1) ∧ w'.cell? ⟨w.heap.size + 1 + 1, 5, none⟩ = some (.slice A2 l2.length c2))) (ds := []) 34 (by kernel_rfl) rfl (HK.out _ hB3d) (fun hHeld => ?_)
     generalize w1.drew = wd at hHeld ⊢
     refine pu 0 (some 15) (v := ?_) (a' := ?_) rfl rfl (by kernel_rfl) (fun _ _ _ h => h) (Or.inl ⟨by rfl, ?_⟩) ?_ ?_
     rotate_left; (intro w'; go_simp; with_reducible rfl)
     rotate_left; (simp only [Act.put, List.setIfInBounds_toArray, List.set_cons_zero, List.set_cons_succ, i64_w, i32_w]; rfl)
     refine pu 1 (some 16) (v := ?_) (a' := ?_) rfl rfl (by kernel_rfl) (fun _ _ _ h => h) (Or.inl ⟨by rfl, ?_⟩) ?_ ?_
     rotate_left; (intro w'; go_simp; with_reducible rfl)
     rotate_left; (simp only [Act.put, List.setIfInBounds_toArray, List.set_cons_zero, List.set_cons_succ, i64_w, i32_w]; rfl)
     refine pu 2 (some 17) (v := ?_) (a' := ?_) rfl rfl (by kernel_rfl) (fun _ _ _ h => h) (Or.inl ⟨by rfl, ?_⟩) ?_ ?_
     rotate_left; (intro w'; go_simp; with_reducible rfl)
     rotate_left; (simp only [Act.put, List.setIfInBounds_toArray, List.set_cons_zero, List.set_cons_succ, i64_w, i32_w]; rfl)
     refine tk 3 (some 18) (v := ?_) (a' := ?_) rfl rfl (by kernel_rfl) (fun _ _ _ h => h) (Or.inl ⟨by rfl, ?_⟩) hHeld ?_ ?_
     rotate_left; (rintro w' ⟨s0_, s1_, s2_, s3_⟩; go_simp; with_reducible rfl)
     rotate_left; (simp only [Act.put, List.setIfInBounds_toArray, List.set_cons_zero, List.set_cons_succ, i64_w, i32_w]; rfl)
     refine on 4 (some 19) rfl rfl (by kernel_rfl) (by decide) (fun K hK => ?_)
     refine goes_ Tryz.func54 (by kernel_rfl) rfl #[.slice A2 l2.length c2, .string sPrivate] (by rfl) rfl rfl (by (try simp only [List.map_toArray, List.map_cons, List.map_nil]); first | done | rfl) ?_
     with_reducible refine (HP.out _ w1 hB1 hHeld.1).mono ?_
     rintro e w5 ⟨rfl, hb5⟩
     refine ⟨_, rfl, ?_⟩
     replace hHeld := HK.out _ (belTrans hb5 hHeld.1)
     clear hb5
     refine hK.out _ _ hHeld (fun _ => ?_)
     clear hK K
     refine norm_ (a' := ?_) ?_ ?_
     rotate_left; (show Act.put _ (some 19) _ = _; simp only [Act.put, List.setIfInBounds_toArray, List.set_cons_zero, List.set_cons_succ, i64_w, i32_w]; rfl)
     refine pu 5 (some 20) (v := ?_) (a' := ?_) rfl rfl (by kernel_rfl) (fun _ _ _ h => h) (Or.inl ⟨by rfl, ?_⟩) ?_ ?_
     rotate_left; (intro w'; go_simp; with_reducible rfl)
     rotate_left; (simp only [Act.put, List.setIfInBounds_toArray, List.set_cons_zero, List.set_cons_succ, i64_w, i32_w]; rfl)
     refine pu 6 (some 21) (v := ?_) (a' := ?_) rfl rfl (by kernel_rfl) (fun _ _ _ h => h) (Or.inl ⟨by rfl, ?_⟩) ?_ ?_
     rotate_left; (intro w'; go_simp; with_reducible rfl)
     rotate_left; (simp only [Act.put, List.setIfInBounds_toArray, List.set_cons_zero, List.set_cons_succ, i64_w, i32_w]; rfl)
     refine pu 7 (some 22) (v := ?_) (a' := ?_) rfl rfl (by kernel_rfl) (fun _ _ _ h => h) (Or.inl ⟨by rfl, ?_⟩) ?_ ?_
     rotate_left; (intro w'; go_simp; with_reducible rfl)
     rotate_left; (simp only [Act.put, List.setIfInBounds_toArray, List.set_cons_zero, List.set_cons_succ, i64_w, i32_w]; rfl)
     refine pu 8 (some 23) (v := ?_) (a' := ?_) rfl rfl (by kernel_rfl) (fun _ _ _ h => h) (Or.inl ⟨by rfl, ?_⟩) ?_ ?_
     rotate_left; (intro w'; go_simp; with_reducible rfl)
     rotate_left; (simp only [Act.put, List.setIfInBounds_toArray, List.set_cons_zero, List.set_cons_succ, i64_w, i32_w]; rfl)
     refine tk 9 (some 24) (v := ?_) (a' := ?_) rfl rfl (by kernel_rfl) (fun _ _ _ h => h) (Or.inl ⟨by rfl, ?_⟩) hHeld ?_ ?_
     rotate_left; (rintro w' ⟨s0_, s1_, s2_, s3_⟩; go_simp; with_reducible rfl)
     rotate_left; (simp only [Act.put, List.setIfInBounds_toArray, List.set_cons_zero, List.set_cons_succ, i64_w, i32_w]; rfl)
     refine on 10 (some 25) rfl rfl (by kernel_rfl) (by decide) (fun K hK => ?_)
     refine goes_ Tryz.func54 (by kernel_rfl) rfl #[.slice A2 l2.length c2, .string sNoStore] (by rfl) rfl rfl (by (try simp only [List.map_toArray, List.map_cons, List.map_nil]); first | done | rfl) ?_
     with_reducible refine (HD.out _ w1 hB1 hHeld.1).mono ?_
     rintro e w5 ⟨rfl, hb5⟩
     refine ⟨_, rfl, ?_⟩
     replace hHeld := HK.out _ (belTrans hb5 hHeld.1)
     clear hb5
     refine hK.out _ _ hHeld (fun _ => ?_)
     clear hK K
     refine norm_ (a' := ?_) ?_ ?_
     rotate_left; (show Act.put _ (some 25) _ = _; simp only [Act.put, List.setIfInBounds_toArray, List.set_cons_zero, List.set_cons_succ, i64_w, i32_w]; rfl)
     refine pu 11 (some 26) (v := ?_) (a' := ?_) rfl rfl (by kernel_rfl) (fun _ _ _ h => h) (Or.inl ⟨by rfl, ?_⟩) ?_ ?_
     rotate_left; (intro w'; go_simp; with_reducible rfl)
     rotate_left; (simp only [Act.put, List.setIfInBounds_toArray, List.set_cons_zero, List.set_cons_succ, i64_w, i32_w]; rfl)
     refine pu 12 (some 27) (v := ?_) (a' := ?_) rfl rfl (by kernel_rfl) (fun _ _ _ h => h) (Or.inl ⟨by rfl, ?_⟩) ?_ ?_
     rotate_left; (intro w'; go_simp; with_reducible rfl)
     rotate_left; (simp only [Act.put, List.setIfInBounds_toArray, List.set_cons_zero, List.set_cons_succ, i64_w, i32_w]; rfl)
     refine pu 13 (some 28) (v := ?_) (a' := ?_) rfl rfl (by kernel_rfl) (fun _ _ _ h => h) (Or.inl ⟨by rfl, ?_⟩) ?_ ?_
     rotate_left; (intro w'; go_simp; with_reducible rfl)
     rotate_left; (simp only [Act.put, List.setIfInBounds_toArray, List.set_cons_zero, List.set_cons_succ, i64_w, i32_w]; rfl)
     refine pu 14 (some 29) (v := ?_) (a' := ?_) rfl rfl (by kernel_rfl) (fun _ _ _ h => h) (Or.inl ⟨by rfl, ?_⟩) ?_ ?_
     rotate_left; (intro w'; go_simp; with_reducible rfl)
     rotate_left; (simp only [Act.put, List.setIfInBounds_toArray, List.set_cons_zero, List.set_cons_succ, i64_w, i32_w]; rfl)
     refine tk 15 (some 30) (v := ?_) (a' := ?_) rfl rfl (by kernel_rfl) (fun _ _ _ h => h) (Or.inl ⟨by rfl, ?_⟩) hHeld ?_ ?_
     rotate_left; (rintro w' ⟨s0_, s1_, s2_, s3_⟩; go_simp; with_reducible rfl)
     rotate_left; (simp only [Act.put, List.setIfInBounds_toArray, List.set_cons_zero, List.set_cons_succ, i64_w, i32_w]; rfl)
     refine on 16 (some 31) rfl rfl (by kernel_rfl) (by decide) (fun K hK => ?_)
     refine goes_ Tryz.func26 (by kernel_rfl) rfl #[.slice A2 l2.length c2, .string lsetCookie] (by rfl) rfl rfl (by (try simp only [List.map_toArray, List.map_cons, List.map_nil]); first | done | rfl) ?_
     with_reducible refine (HG.out _ w1 hB1 hHeld.1).mono ?_
     rintro e w5 ⟨v, rfl, hv, hb5⟩
     obtain ⟨A', c', rfl, hlc', hvr'⟩ := Kd.R_reads hv
     rw [HGL'.out]
     refine ⟨_, rfl, ?_⟩
     replace hHeld := HK.out _ (belTrans hb5 hHeld.1)
     clear hb5 hv hvr'
     refine hK.out _ _ hHeld (fun _ => ?_)
     clear hK K
     refine norm_ (a' := ?_) ?_ ?_
     rotate_left; (show Act.put _ (some 31) _ = _; simp only [Act.put, List.setIfInBounds_toArray, List.set_cons_zero, List.set_cons_succ, i64_w, i32_w]; rfl)
     refine pu 17 (some 32) (v := ?_) (a' := ?_) rfl rfl (by kernel_rfl) (fun _ _ _ h => h) (Or.inl ⟨by rfl, ?_⟩) ?_ ?_
     rotate_left; (intro w'; go_simp; with_reducible rfl)
     rotate_left; (simp only [Act.put, List.setIfInBounds_toArray, List.set_cons_zero, List.set_cons_succ, i64_w, i32_w]; rfl)
     refine pu 18 (some 33) (v := ?_) (a' := ?_) rfl rfl (by kernel_rfl) (fun _ _ _ h => h) (Or.inl ⟨by rfl, ?_⟩) ?_ ?_
     rotate_left; (intro w'; go_simp; with_reducible rfl)
     rotate_left; (simp only [Act.put, List.setIfInBounds_toArray, List.set_cons_zero, List.set_cons_succ, i64_w, i32_w]; rfl)
     refine pu 19 (some 34) (v := ?_) (a' := ?_) rfl rfl (by kernel_rfl) (fun _ _ _ h => h) (Or.inl ⟨by rfl, ?_⟩) ?_ ?_
     rotate_left; (intro w'; go_simp; with_reducible rfl)
     rotate_left; (simp only [Act.put, List.setIfInBounds_toArray, List.set_cons_zero, List.set_cons_succ, i64_w, i32_w]; rfl)
     refine pu 20 (some 35) (v := ?_) (a' := ?_) rfl rfl (by kernel_rfl) (fun _ _ _ h => h) (Or.inl ⟨by rfl, ?_⟩) ?_ ?_
     rotate_left; (intro w'; go_simp; with_reducible rfl)
     rotate_left; (simp only [Act.put, List.setIfInBounds_toArray, List.set_cons_zero, List.set_cons_succ, i64_w, i32_w]; rfl)
     refine pu 21 (some 36) (v := ?_) (a' := ?_) rfl rfl (by kernel_rfl) (fun _ _ _ h => h) (Or.inl ⟨by rfl, ?_⟩) ?_ ?_
     rotate_left; (intro w'; go_simp; with_reducible rfl)
     rotate_left; (simp only [Act.put, List.setIfInBounds_toArray, List.set_cons_zero, List.set_cons_succ, i64_w, i32_w]; rfl)
     refine pu 22 (some 37) (v := ?_) (a' := ?_) rfl rfl (by kernel_rfl) (fun _ _ _ h => h) (Or.inl ⟨by rfl, ?_⟩) ?_ ?_
     rotate_left; (intro w'; go_simp; with_reducible rfl)
     rotate_left; (simp only [Act.put, List.setIfInBounds_toArray, List.set_cons_zero, List.set_cons_succ, i64_w, i32_w]; rfl)
     refine pu 23 (some 38) (v := ?_) (a' := ?_) rfl rfl (by kernel_rfl) (fun _ _ _ h => h) (Or.inl ⟨by rfl, ?_⟩) ?_ ?_
     rotate_left; (intro w'; go_simp; with_reducible rfl)
     rotate_left; (simp only [Act.put, List.setIfInBounds_toArray, List.set_cons_zero, List.set_cons_succ, i64_w, i32_w]; rfl)
     refine tk 24 (some 39) (v := ?_) (a' := ?_) rfl rfl (by kernel_rfl) (fun _ _ _ h => h) (Or.inl ⟨by rfl, ?_⟩) hHeld ?_ ?_
     rotate_left; (rintro w' ⟨s0_, s1_, s2_, s3_⟩; go_simp; with_reducible rfl)
     rotate_left; (simp only [Act.put, List.setIfInBounds_toArray, List.set_cons_zero, List.set_cons_succ, i64_w, i32_w]; rfl)
     refine pu 26 (some 41) (v := ?_) (a' := ?_) rfl rfl (by kernel_rfl) (fun _ _ _ h => h) (Or.inl ⟨by rfl, ?_⟩) ?_ ?_
     rotate_left; (intro w'; go_simp; with_reducible rfl)
     rotate_left; (simp only [Act.put, List.setIfInBounds_toArray, List.set_cons_zero, List.set_cons_succ, i64_w, i32_w]; rfl)
     refine pu 27 (some 42) (v := ?_) (a' := ?_) rfl rfl (by kernel_rfl) (fun _ _ _ h => h) (Or.inl ⟨by rfl, ?_⟩) ?_ ?_
     rotate_left; (intro w'; go_simp; with_reducible rfl)
     rotate_left; (simp only [Act.put, List.setIfInBounds_toArray, List.set_cons_zero, List.set_cons_succ, i64_w, i32_w]; rfl)
     refine pu 28 (some 43) (v := ?_) (a' := ?_) rfl rfl (by kernel_rfl) (fun _ _ _ h => h) (Or.inl ⟨by rfl, ?_⟩) ?_ ?_
     rotate_left; (intro w'; go_simp; with_reducible rfl)
     rotate_left; (simp only [Act.put, List.setIfInBounds_toArray, List.set_cons_zero, List.set_cons_succ, i64_w, i32_w]; rfl)
     refine tk 29 (some 44) (v := ?_) (a' := ?_) rfl rfl (by kernel_rfl) (fun _ _ _ h => h) (Or.inl ⟨by rfl, ?_⟩) hHeld ?_ ?_
     rotate_left; (rintro w' ⟨s0_, s1_, s2_, s3_⟩; go_simp; with_reducible rfl)
     rotate_left; (simp only [Act.put, List.setIfInBounds_toArray, List.set_cons_zero, List.set_cons_succ, i64_w, i32_w]; rfl)
     refine on 25 (some 40) rfl rfl (by kernel_rfl) (by decide) (fun K hK => ?_)
     refine goes_ Tryz.func48 (by kernel_rfl) rfl #[.slice AN ns.length cN, .slice A l.length c] (by rfl) rfl rfl (by (try simp only [List.map_toArray, List.map_cons, List.map_nil]); first | done | rfl) ?_
     with_reducible refine (HS.out _ w1 hB1 hHeld.1 AN cN hvr hlc).mono ?_
     rintro e w5 ⟨rfl, hb5⟩
     refine ⟨_, rfl, ?_⟩
     replace hHeld := HK.out _ (belTrans hb5 hHeld.1)
     clear hb5
     refine hK.out _ _ hHeld (fun _ => ?_)
     clear hK K
     refine norm_ (a' := ?_) ?_ ?_
     rotate_left; (show Act.put _ (some 40) _ = _; simp only [Act.put, List.setIfInBounds_toArray, List.set_cons_zero, List.set_cons_succ, i64_w, i32_w]; rfl)
     refine on 30 (some 45) rfl rfl (by kernel_rfl) (by decide) (fun K hK => ?_)
     refine goes_ Tryz.func48 (by kernel_rfl) rfl #[.slice AN ns.length cN, .slice A1 l1.length c1] (by rfl) rfl rfl (by (try simp only [List.map_toArray, List.map_cons, List.map_nil]); first | done | rfl) ?_
     with_reducible refine (HS1.out _ w1 hB1 hHeld.1 AN cN hvr hlc).mono ?_
     rintro e w5 ⟨rfl, hb5⟩
     refine ⟨_, rfl, ?_⟩
     replace hHeld := HK.out _ (belTrans hb5 hHeld.1)
     clear hb5
     refine hK.out _ _ hHeld (fun _ => ?_)
     clear hK K
     refine norm_ (a' := ?_) ?_ ?_
     rotate_left; (show Act.put _ (some 45) _ = _; simp only [Act.put, List.setIfInBounds_toArray, List.set_cons_zero, List.set_cons_succ, i64_w, i32_w]; rfl)
     refine pu 31 (some 46) (v := ?_) (a' := ?_) rfl rfl (by kernel_rfl) (fun _ _ _ h => h) (Or.inl ⟨by rfl, ?_⟩) ?_ ?_
     rotate_left; (intro w'; go_simp; with_reducible rfl)
     rotate_left; (simp only [Act.put, List.setIfInBounds_toArray, List.set_cons_zero, List.set_cons_succ, i64_w, i32_w]; rfl)
     refine pu 32 (some 47) (v := ?_) (a' := ?_) rfl rfl (by kernel_rfl) (fun _ _ _ h => h) (Or.inl ⟨by rfl, ?_⟩) ?_ ?_
     rotate_left; (intro w'; go_simp; with_reducible rfl)
     rotate_left; (simp only [Act.put, List.setIfInBounds_toArray, List.set_cons_zero, List.set_cons_succ, i64_w, i32_w]; rfl)
     refine pu 33 (some 6) (v := ?_) (a' := ?_) rfl rfl (by kernel_rfl) (fun _ _ _ h => h) (Or.inl ⟨by rfl, ?_⟩) ?_ ?_
     rotate_left; (intro w'; go_simp; with_reducible rfl)
     rotate_left; (simp only [Act.put, List.setIfInBounds_toArray, List.set_cons_zero, List.set_cons_succ, i64_w, i32_w]; rfl)
     refine done_ (by kernel_rfl) ?_
     go_wp2
     go_ret
     exact ⟨by rw [HF.out]; simp [toList_ul], hB1.trans (hHeld.1.mono hB1.size)⟩
    ·have hq' : ((gl : Int) == 0) = false := by simpa using hq
     have hq'' : ¬ ((gl : Int) = 0) := by omega
     go_enter Tryz.func49, Tryz.ntmps49
     go_wp2_with (go_at_call 47; refine (HV.out _ (by (repeat' first | exact Below.refl _ _ | (refine Below.alloc ?_ (by first | (simp; done) | (simp; omega)) _)))).mono ?_; rintro e w1 ⟨v, rfl, hv, hb1⟩; obtain ⟨AN, cN, rfl, hlc, hvr⟩ := Kd.R_reads hv; have HZ0 := Aside0.mk ((hb1.cell (p := ⟨w.heap.size, 5, none⟩) (by (first | (simp; done) | (simp; omega)))).trans (cell_of hk0 rfl) : w1.cell? ⟨w.heap.size, 5, none⟩ = some (.slice A l.length c)); have HZ1 := Aside0.mk ((hb1.cell (p := ⟨w.heap.size + 1, 5, none⟩) (by (first | (simp; done) | (simp; omega)))).trans (cell_of hk1 rfl) : w1.cell? ⟨w.heap.size + 1, 5, none⟩ = some (.slice A1 l1.length c1)); have HZ2 := Aside0.mk ((hb1.cell (p := ⟨w.heap.size + 1 + 1, 5, none⟩) (by (first | (simp; done) | (simp; omega)))).trans (cell_of hk2 rfl) : w1.cell? ⟨w.heap.size + 1 + 1, 5, none⟩ = some (.slice A2 l2.length c2)); have hB1 := (by (repeat' first | exact Below.refl _ _ | (refine Below.alloc ?_ (by first | (simp; done) | (simp; omega)) _)) : Below w.heap.size w _).trans (hb1.mono (by (first | (simp; done) | (simp; omega)))); have hs1 : w.heap.size + 3 ≤ w1.heap.size := Nat.le_trans (by (first | (simp; done) | (simp; omega))) hb1.size; clear hb1 hv hk0 hk1 hk2)
     have hB3d := (Below.refl w1.heap.size w1).drew
     have HK := Aside0.mk (fun (w' : World) (h : Below w1.heap.size w1 w') => keep4 (a := ⟨w.heap.size, 5, none⟩) (b := ⟨w.heap.size + 1, 5, none⟩) (d := ⟨w.heap.size + 1 + 1, 5, none⟩) h (by show w.heap.size < _; omega) (by show w.heap.size + 1 < _; omega) (by show w.heap.size + 1 + 1 < _; omega) HZ0.out HZ1.out HZ2.out)
     refine be (S := (fun w' => Below w1.heap.size w1 w' ∧ w'.cell? ⟨w.heap.size, 5, none⟩ = some (.slice A l.length c) ∧ w'.cell? ⟨w.heap.size + 1, 5, none⟩ = some (.slice A1 l1.length c1) ∧ w'.cell? ⟨w.heap.size + 1 + 1, 5, none⟩ = some (.slice A2 l2.length c2))) (ds := []) 34 (by kernel_rfl) rfl (HK.out _ hB3d) (fun hHeld => ?_)
     generalize w1.drew = wd at hHeld ⊢
     refine pu 0 (some 15) (v := ?_) (a' := ?_) rfl rfl (by kernel_rfl) (fun _ _ _ h => h) (Or.inl ⟨by rfl, ?_⟩) ?_ ?_
     rotate_left; (intro w'; go_simp; with_reducible rfl)
     rotate_left; (simp only [Act.put, List.setIfInBounds_toArray, List.set_cons_zero, List.set_cons_succ, i64_w, i32_w]; rfl)
     refine pu 1 (some 16) (v := ?_) (a' := ?_) rfl rfl (by kernel_rfl) (fun _ _ _ h => h) (Or.inl ⟨by rfl, ?_⟩) ?_ ?_
     rotate_left; (intro w'; go_simp; with_reducible rfl)
     rotate_left; (simp only [Act.put, List.setIfInBounds_toArray, List.set_cons_zero, List.set_cons_succ, i64_w, i32_w]; rfl)
     refine pu 2 (some 17) (v := ?_) (a' := ?_) rfl rfl (by kernel_rfl) (fun _ _ _ h => h) (Or.inl ⟨by rfl, ?_⟩) ?_ ?_
     rotate_left; (intro w'; go_simp; with_reducible rfl)
     rotate_left; (simp only [Act.put, List.setIfInBounds_toArray, List.set_cons_zero, List.set_cons_succ, i64_w, i32_w]; rfl)
     refine tk 3 (some 18) (v := ?_) (a' := ?_) rfl rfl (by kernel_rfl) (fun _ _ _ h => h) (Or.inl ⟨by rfl, ?_⟩) hHeld ?_ ?_
     rotate_left; (rintro w' ⟨s0_, s1_, s2_, s3_⟩; go_simp; with_reducible rfl)
     rotate_left; (simp only [Act.put, List.setIfInBounds_toArray, List.set_cons_zero, List.set_cons_succ, i64_w, i32_w]; rfl)
     refine on 4 (some 19) rfl rfl (by kernel_rfl) (by decide) (fun K hK => ?_)
     refine goes_ Tryz.func54 (by kernel_rfl) rfl #[.slice A2 l2.length c2, .string sPrivate] (by rfl) rfl rfl (by (try simp only [List.map_toArray, List.map_cons, List.map_nil]); first | done | rfl) ?_
     with_reducible refine (HP.out _ w1 hB1 hHeld.1).mono ?_
     rintro e w5 ⟨rfl, hb5⟩
     refine ⟨_, rfl, ?_⟩
     replace hHeld := HK.out _ (belTrans hb5 hHeld.1)
     clear hb5
     refine hK.out _ _ hHeld (fun _ => ?_)
     clear hK K
     refine norm_ (a' := ?_) ?_ ?_
     rotate_left; (show Act.put _ (some 19) _ = _; simp only [Act.put, List.setIfInBounds_toArray, List.set_cons_zero, List.set_cons_succ, i64_w, i32_w]; rfl)
     refine pu 5 (some 20) (v := ?_) (a' := ?_) rfl rfl (by kernel_rfl) (fun _ _ _ h => h) (Or.inl ⟨by rfl, ?_⟩) ?_ ?_
     rotate_left; (intro w'; go_simp; with_reducible rfl)
     rotate_left; (simp only [Act.put, List.setIfInBounds_toArray, List.set_cons_zero, List.set_cons_succ, i64_w, i32_w]; rfl)
     refine pu 6 (some 21) (v := ?_) (a' := ?_) rfl rfl (by kernel_rfl) (fun _ _ _ h => h) (Or.inl ⟨by rfl, ?_⟩) ?_ ?_
     rotate_left; (intro w'; go_simp; with_reducible rfl)
     rotate_left; (simp only [Act.put, List.setIfInBounds_toArray, List.set_cons_zero, List.set_cons_succ, i64_w, i32_w]; rfl)
     refine pu 7 (some 22) (v := ?_) (a' := ?_) rfl rfl (by kernel_rfl) (fun _ _ _ h => h) (Or.inl ⟨by rfl, ?_⟩) ?_ ?_
     rotate_left; (intro w'; go_simp; with_reducible rfl)
     rotate_left; (simp only [Act.put, List.setIfInBounds_toArray, List.set_cons_zero, List.set_cons_succ, i64_w, i32_w]; rfl)
     refine pu 8 (some 23) (v := ?_) (a' := ?_) rfl rfl (by kernel_rfl) (fun _ _ _ h => h) (Or.inl ⟨by rfl, ?_⟩) ?_ ?_
     rotate_left; (intro w'; go_simp; with_reducible rfl)
     rotate_left; (simp only [Act.put, List.setIfInBounds_toArray, List.set_cons_zero, List.set_cons_succ, i64_w, i32_w]; rfl)
     refine tk 9 (some 24) (v := ?_) (a' := ?_) rfl rfl (by kernel_rfl) (fun _ _ _ h => h) (Or.inl ⟨by rfl, ?_⟩) hHeld ?_ ?_
     rotate_left; (rintro w' ⟨s0_, s1_, s2_, s3_⟩; go_simp; with_reducible rfl)
     rotate_left; (simp only [Act.put, List.setIfInBounds_toArray, List.set_cons_zero, List.set_cons_succ, i64_w, i32_w]; rfl)
     refine on 10 (some 25) rfl rfl (by kernel_rfl) (by decide) (fun K hK => ?_)
     refine goes_ Tryz.func54 (by kernel_rfl) rfl #[.slice A2 l2.length c2, .string sNoStore] (by rfl) rfl rfl (by (try simp only [List.map_toArray, List.map_cons, List.map_nil]); first | done | rfl) ?_
     with_reducible refine (HD.out _ w1 hB1 hHeld.1).mono ?_
     rintro e w5 ⟨rfl, hb5⟩
     refine ⟨_, rfl, ?_⟩
     replace hHeld := HK.out _ (belTrans hb5 hHeld.1)
     clear hb5
     refine hK.out _ _ hHeld (fun _ => ?_)
     clear hK K
     refine norm_ (a' := ?_) ?_ ?_
     rotate_left; (show Act.put _ (some 25) _ = _; simp only [Act.put, List.setIfInBounds_toArray, List.set_cons_zero, List.set_cons_succ, i64_w, i32_w]; rfl)
     refine pu 11 (some 26) (v := ?_) (a' := ?_) rfl rfl (by kernel_rfl) (fun _ _ _ h => h) (Or.inl ⟨by rfl, ?_⟩) ?_ ?_
     rotate_left; (intro w'; go_simp; with_reducible rfl)
     rotate_left; (simp only [Act.put, List.setIfInBounds_toArray, List.set_cons_zero, List.set_cons_succ, i64_w, i32_w]; rfl)
     refine pu 12 (some 27) (v := ?_) (a' := ?_) rfl rfl (by kernel_rfl) (fun _ _ _ h => h) (Or.inl ⟨by rfl, ?_⟩) ?_ ?_
     rotate_left; (intro w'; go_simp; with_reducible rfl)
     rotate_left; (simp only [Act.put, List.setIfInBounds_toArray, List.set_cons_zero, List.set_cons_succ, i64_w, i32_w]; rfl)
     refine pu 13 (some 28) (v := ?_) (a' := ?_) rfl rfl (by kernel_rfl) (fun _ _ _ h => h) (Or.inl ⟨by rfl, ?_⟩) ?_ ?_
     rotate_left; (intro w'; go_simp; with_reducible rfl)
     rotate_left; (simp only [Act.put, List.setIfInBounds_toArray, List.set_cons_zero, List.set_cons_succ, i64_w, i32_w]; rfl)
     refine pu 14 (some 29) (v := ?_) (a' := ?_) rfl rfl (by kernel_rfl) (fun _ _ _ h => h) (Or.inl ⟨by rfl, ?_⟩) ?_ ?_
     rotate_left; (intro w'; go_simp; with_reducible rfl)
     rotate_left; (simp only [Act.put, List.setIfInBounds_toArray, List.set_cons_zero, List.set_cons_succ, i64_w, i32_w]; rfl)
     refine tk 15 (some 30) (v := ?_) (a' := ?_) rfl rfl (by kernel_rfl) (fun _ _ _ h => h) (Or.inl ⟨by rfl, ?_⟩) hHeld ?_ ?_
     rotate_left; (rintro w' ⟨s0_, s1_, s2_, s3_⟩; go_simp; with_reducible rfl)
     rotate_left; (simp only [Act.put, List.setIfInBounds_toArray, List.set_cons_zero, List.set_cons_succ, i64_w, i32_w]; rfl)
     refine on 16 (some 31) rfl rfl (by kernel_rfl) (by decide) (fun K hK => ?_)
     refine goes_ Tryz.func26 (by kernel_rfl) rfl #[.slice A2 l2.length c2, .string lsetCookie] (by rfl) rfl rfl (by (try simp only [List.map_toArray, List.map_cons, List.map_nil]); first | done | rfl) ?_
     with_reducible refine (HG.out _ w1 hB1 hHeld.1).mono ?_
     rintro e w5 ⟨v, rfl, hv, hb5⟩
     obtain ⟨A', c', rfl, hlc', hvr'⟩ := Kd.R_reads hv
     rw [HGL'.out]
     refine ⟨_, rfl, ?_⟩
     replace hHeld := HK.out _ (belTrans hb5 hHeld.1)
     clear hb5 hv hvr'
     refine hK.out _ _ hHeld (fun _ => ?_)
     clear hK K
     refine norm_ (a' := ?_) ?_ ?_
     rotate_left; (show Act.put _ (some 31) _ = _; simp only [Act.put, List.setIfInBounds_toArray, List.set_cons_zero, List.set_cons_succ, i64_w, i32_w]; rfl)
     refine pu 17 (some 32) (v := ?_) (a' := ?_) rfl rfl (by kernel_rfl) (fun _ _ _ h => h) (Or.inl ⟨by rfl, ?_⟩) ?_ ?_
     rotate_left; (intro w'; go_simp; with_reducible rfl)
     rotate_left; (simp only [Act.put, List.setIfInBounds_toArray, List.set_cons_zero, List.set_cons_succ, i64_w, i32_w]; rfl)
     refine pu 18 (some 33) (v := ?_) (a' := ?_) rfl rfl (by kernel_rfl) (fun _ _ _ h => h) (Or.inl ⟨by rfl, ?_⟩) ?_ ?_
     rotate_left; (intro w'; go_simp; with_reducible rfl)
     rotate_left; (simp only [Act.put, List.setIfInBounds_toArray, List.set_cons_zero, List.set_cons_succ, i64_w, i32_w]; rfl)
     refine pu 19 (some 34) (v := ?_) (a' := ?_) rfl rfl (by kernel_rfl) (fun _ _ _ h => h) (Or.inl ⟨by rfl, ?_⟩) ?_ ?_
     rotate_left; (intro w'; go_simp; with_reducible rfl)
     rotate_left; (simp only [Act.put, List.setIfInBounds_toArray, List.set_cons_zero, List.set_cons_succ, i64_w, i32_w]; rfl)
     refine pu 20 (some 35) (v := ?_) (a' := ?_) rfl rfl (by kernel_rfl) (fun _ _ _ h => h) (Or.inl ⟨by rfl, ?_⟩) ?_ ?_
     rotate_left; (intro w'; go_simp; with_reducible rfl)
     rotate_left; (simp only [Act.put, List.setIfInBounds_toArray, List.set_cons_zero, List.set_cons_succ, i64_w, i32_w]; rfl)
     refine pu 21 (some 36) (v := undef) rfl rfl (by kernel_rfl) (fun _ _ _ h => h) (Or.inr ⟨by rfl, rfl⟩) (a' := ?_) ?_ ?_
     rotate_left; (simp only [Act.put, List.setIfInBounds_toArray, List.set_cons_zero, List.set_cons_succ, i64_w, i32_w]; rfl)
     refine pu 22 (some 37) (v := undef) rfl rfl (by kernel_rfl) (fun _ _ _ h => h) (Or.inr ⟨by rfl, rfl⟩) (a' := ?_) ?_ ?_
     rotate_left; (simp only [Act.put, List.setIfInBounds_toArray, List.set_cons_zero, List.set_cons_succ, i64_w, i32_w]; rfl)
     refine pu 23 (some 38) (v := undef) rfl rfl (by kernel_rfl) (fun _ _ _ h => h) (Or.inr ⟨by rfl, rfl⟩) (a' := ?_) ?_ ?_
     rotate_left; (simp only [Act.put, List.setIfInBounds_toArray, List.set_cons_zero, List.set_cons_succ, i64_w, i32_w]; rfl)
     refine pu 24 (some 39) (v := undef) rfl rfl (by kernel_rfl) (fun _ _ _ h => h) (Or.inr ⟨by rfl, rfl⟩) (a' := ?_) ?_ ?_
     rotate_left; (simp only [Act.put, List.setIfInBounds_toArray, List.set_cons_zero, List.set_cons_succ, i64_w, i32_w]; rfl)
     refine pu 25 (some 40) (v := undef) rfl rfl (by kernel_rfl) (fun _ _ _ h => h) (Or.inr ⟨by rfl, rfl⟩) (a' := ?_) ?_ ?_
     rotate_left; (simp only [Act.put, List.setIfInBounds_toArray, List.set_cons_zero, List.set_cons_succ, i64_w, i32_w]; rfl)
     refine pu 26 (some 41) (v := undef) rfl rfl (by kernel_rfl) (fun _ _ _ h => h) (Or.inr ⟨by rfl, rfl⟩) (a' := ?_) ?_ ?_
     rotate_left; (simp only [Act.put, List.setIfInBounds_toArray, List.set_cons_zero, List.set_cons_succ, i64_w, i32_w]; rfl)
     refine pu 27 (some 42) (v := undef) rfl rfl (by kernel_rfl) (fun _ _ _ h => h) (Or.inr ⟨by rfl, rfl⟩) (a' := ?_) ?_ ?_
     rotate_left; (simp only [Act.put, List.setIfInBounds_toArray, List.set_cons_zero, List.set_cons_succ, i64_w, i32_w]; rfl)
     refine pu 28 (some 43) (v := undef) rfl rfl (by kernel_rfl) (fun _ _ _ h => h) (Or.inr ⟨by rfl, rfl⟩) (a' := ?_) ?_ ?_
     rotate_left; (simp only [Act.put, List.setIfInBounds_toArray, List.set_cons_zero, List.set_cons_succ, i64_w, i32_w]; rfl)
     refine pu 29 (some 44) (v := undef) rfl rfl (by kernel_rfl) (fun _ _ _ h => h) (Or.inr ⟨by rfl, rfl⟩) (a' := ?_) ?_ ?_
     rotate_left; (simp only [Act.put, List.setIfInBounds_toArray, List.set_cons_zero, List.set_cons_succ, i64_w, i32_w]; rfl)
     refine pu 30 (some 45) (v := undef) rfl rfl (by kernel_rfl) (fun _ _ _ h => h) (Or.inr ⟨by rfl, rfl⟩) (a' := ?_) ?_ ?_
     rotate_left; (simp only [Act.put, List.setIfInBounds_toArray, List.set_cons_zero, List.set_cons_succ, i64_w, i32_w]; rfl)
     refine pu 31 (some 46) (v := undef) rfl rfl (by kernel_rfl) (fun _ _ _ h => h) (Or.inr ⟨by rfl, rfl⟩) (a' := ?_) ?_ ?_
     rotate_left; (simp only [Act.put, List.setIfInBounds_toArray, List.set_cons_zero, List.set_cons_succ, i64_w, i32_w]; rfl)
     refine pu 32 (some 47) (v := ?_) (a' := ?_) rfl rfl (by kernel_rfl) (fun _ _ _ h => h) (Or.inl ⟨by rfl, ?_⟩) ?_ ?_
     rotate_left; (intro w'; go_simp; with_reducible rfl)
     rotate_left; (simp only [Act.put, List.setIfInBounds_toArray, List.set_cons_zero, List.set_cons_succ, i64_w, i32_w]; rfl)
     refine pu 33 (some 6) (v := ?_) (a' := ?_) rfl rfl (by kernel_rfl) (fun _ _ _ h => h) (Or.inl ⟨by rfl, ?_⟩) ?_ ?_
     rotate_left; (intro w'; go_simp; with_reducible rfl)
     rotate_left; (simp only [Act.put, List.setIfInBounds_toArray, List.set_cons_zero, List.set_cons_succ, i64_w, i32_w]; rfl)
     refine done_ (by kernel_rfl) ?_
     go_wp2
     go_ret
     exact ⟨by rw [HF.out]; simp; omega, hB1.trans (hHeld.1.mono hB1.size)⟩
end Go.Proofs.YtalafpigfeiaiaaGreatDoor.Q
end
section
namespace Go.Proofs.YtalafpigfeiaiaaGreatDoor.Q
open Go.RowKit Go.Shelf Go.Proofs.YtalafpigfeiaiaaGreatDoor.H Go.Proofs.YtalafpigfeiaiaaGreatDoorW.PrintWords
set_option linter.unusedVariables false
set_option linter.unusedSimpArgs false
def lhost : ByteArray := ⟨#[104, 111, 115, 116]⟩
def cHost : ByteArray := ⟨#[72, 111, 115, 116]⟩
def hostS (l : FieldL) : ByteArray := ((getF l lhost).head?).getD ⟨#[]⟩
def keyS (m t : ByteArray) (l : FieldL) : ByteArray × Int :=
  if (normalS (ul t)).2.2 = 0 then (m ++ (⟨#[32]⟩ : ByteArray) ++ lower (hostS l) ++ (⟨#[32]⟩ : ByteArray) ++ (normalS (ul t)).1 ++ (normalS (ul t)).2.1, 0) else (⟨#[]⟩, (normalS (ul t)).2.2)
theorem normalS_size (l : Str) : (normalS l).1.size ≤ 2000000 ∧ (normalS l).2.1.size ≤ 200 := by
  unfold normalS
  split
  · exact ⟨by decide, by decide⟩
  · rename_i hl
    have hc := cutQ_le l
    split
    · exact ⟨by decide, by decide⟩
    · rename_i p hp
      split
      · refine ⟨?_, by rw [bs_size, List.length_drop]; omega⟩
        have h0 := plainG_length _ _ hp
        rw [List.length_take] at h0
        have h1 := segsS_few (p := p) (by omega)
        have h2 := stepAll_few 1000 (segsS p) [] h1.2 (by simp)
        have h3 := slashL_length 1000 _ h2.2
        have h4 := h2.1
        simp at h4
        show (bs (slashL (stepAll [] (segsS p)))).size ≤ 2000000
        rw [bs_size (slashL (stepAll [] (segsS p)))]
        have : (stepAll [] (segsS p)).length * (1000 + 1) ≤ 1002 * 1001 := Nat.mul_le_mul (by omega) (by omega)
        omega
      · exact ⟨by decide, by decide⟩
theorem hostS_size {l : FieldL} (hl : Few l) : (hostS l).size ≤ 10000 := by
  unfold hostS
  cases h : getF l lhost with
  | nil => show (0 : Nat) ≤ 10000; omega
  | cons x xs => exact (getF_few hl lhost).2 x (by rw [h]; simp)
theorem host_rd (l : FieldL) : rdOf ByteArray.empty (getF l cHost ++ [(⟨#[]⟩ : ByteArray)]) 0 = hostS l := by
  rw [getF_name l (a := cHost) (b := lhost) rfl]
  unfold hostS rdOf
  cases getF l lhost <;> rfl
theorem join3 (a b c : ByteArray) : bs (Lib.join ([a, b, c].map ul) (ul (⟨#[32]⟩ : ByteArray))) = a ++ (⟨#[32]⟩ : ByteArray) ++ b ++ (⟨#[32]⟩ : ByteArray) ++ c := by
  refine ul_inj ?_
  simp [Lib.join, List.intercalate, ul, ByteArray.data_append]
theorem key_ev (m t : ByteArray) (s : Int) (r : ByteArray) (mi : Int) (l : FieldL) (b : ByteArray) (hl : Few l) (hm : m.size ≤ 1000000000) (ht : t.size ≤ 1000000000) :
    Ev (fun k => key_Key.f k m t s r mi l b) (keyS m t l) := by
  have hn : target_Normal.f t = some (normalS (ul t)) := by unfold target_Normal.f; rw [if_pos ht]
  have hns := normalS_size (ul t)
  have hhs := hostS_size hl
  unfold keyS
  by_cases h0 : (normalS (ul t)).2.2 = 0
  · rw [if_pos h0]
    refine Ev.congr (f := fun k => (field_Get.f k l cHost).bind fun g => if g.length < 8796093022208 then (some (g ++ [(⟨#[]⟩ : ByteArray)])).bind fun y => if 0 < (y.length : Int) then (field_Lower.f (rdOf ByteArray.empty y 0)).bind fun u => if (normalS (ul t)).1.size + (normalS (ul t)).2.1.size ≤ 9223372036854775807 then (strings_Join.f [m, u, (normalS (ul t)).1 ++ (normalS (ul t)).2.1] (⟨#[32]⟩ : ByteArray)).bind fun v => some (v, 0) else none else none else none) (fun k => ?_) (Ev.bind (get_ev l hl cHost (by decide)) ?_)
    · unfold key_Key.f
      rw [hn]
      simp only [Option.bind_some]
      rw [if_pos h0]
      rfl
    · have hg := (getF_few hl cHost).1
      have hlow : (lower (hostS l)).size = (hostS l).size := lower_size _
      refine Ev.congr (fun k => ?_) (Ev.now _)
      rw [if_pos (by omega)]
      simp only [Option.bind_some]
      rw [if_pos (by simp), host_rd, fieldLower_some _ (by omega)]
      simp only [Option.bind_some]
      have hj : strings_Join.f [m, lower (hostS l), (normalS (ul t)).1 ++ (normalS (ul t)).2.1] (⟨#[32]⟩ : ByteArray) = some (m ++ (⟨#[32]⟩ : ByteArray) ++ lower (hostS l) ++ (⟨#[32]⟩ : ByteArray) ++ ((normalS (ul t)).1 ++ (normalS (ul t)).2.1)) := by
        unfold strings_Join.f
        have hsz : (Lib.join ([m, lower (hostS l), (normalS (ul t)).1 ++ (normalS (ul t)).2.1].map ul) (ul (⟨#[32]⟩ : ByteArray))).length ≤ 140737488355328 := by
          rw [← bs_size, join3]
          simp only [ByteArray.size_append]
          rw [show (⟨#[32]⟩ : ByteArray).size = 1 from rfl]
          omega
        rw [if_pos ⟨by simp, hsz⟩, join3]
      rw [if_pos (by omega), hj]
      simp only [Option.bind_some]
      congr 2
      refine ul_inj ?_
      simp [ul, ByteArray.data_append]
  · rw [if_neg h0]
    refine Ev.congr (fun k => ?_) (Ev.now _)
    unfold key_Key.f
    rw [hn]
    simp only [Option.bind_some]
    rw [if_neg h0]
theorem key_calls (x : Hd) (b : ByteArray) (w : World) (hx : x.In w) (hm : x.m.size ≤ 1000000000) (ht : x.t.size ≤ 1000000000) :
    Calls Tryz.prog 29 #[x.mv b] w fun e w' => e = .returned (.tuple #[.string (keyS x.m x.t x.l).1, .int .i64 (keyS x.m x.t x.l).2]) ∧ Below w.heap.size w w' := by
  obtain ⟨k, hk⟩ := (key_ev x.m x.t x.s x.r x.mi x.l b hx.few hm ht).rounds
  exact key_Key.calls k x.m x.t x.s x.r x.mi x.A x.c x.l b _ _ w hx.rd hx.cap hk
set_option maxHeartbeats 1000000 in
set_option maxRecDepth 100000 in
theorem refKey_calls (x : Hd) (b : ByteArray) (w : World) (hx : x.In w) (hm : x.m.size ≤ 1000000000) (ht : x.t.size ≤ 1000000000) :
    Calls Tryz.prog 46 #[x.mv b] w fun e w' => e = .returned (.tuple #[.string (keyS x.m x.t x.l).1, .int .i64 (keyS x.m x.t x.l).2]) ∧ Below w.heap.size w w' := by
  obtain ⟨m, t, s, r, mi, A, c, l⟩ := x
  simp only [Hd.mv]
  simp only at hm ht
  have hl := hx.few
  have hc := hx.cap
  have hr := hx.rd
  simp only at hl hc hr
  have hns := normalS_size (ul t)
  have hhs := hostS_size hl
  have HNO := Aside0.mk (fun (W : World) => refNormal_calls t W ht)
  have HG := Aside0.mk (fun (W : World) (hW : Below w.heap.size w W) => refGet_calls A c l lhost W (Kd.C_below hr hW) hc hl (by decide))
  have HGL := Aside0.mk (getF_few hl lhost)
  have HK : Aside0 (keyS m t l = if (normalS (ul t)).2.2 = 0 then (m ++ (⟨#[32]⟩ : ByteArray) ++ lower (hostS l) ++ (⟨#[32]⟩ : ByteArray) ++ (normalS (ul t)).1 ++ (normalS (ul t)).2.1, 0) else (⟨#[]⟩, (normalS (ul t)).2.2)) := ⟨rfl⟩
  have HH : Aside0 (hostS l = ((getF l lhost).head?).getD ⟨#[]⟩) := ⟨rfl⟩
  generalize keyS m t l = res at *
  generalize hostS l = host at *
  generalize getF l lhost = xs at *
  generalize (normalS (ul t)).2.2 = e0 at *
  generalize (normalS (ul t)).2.1 = q0 at *
  generalize (normalS (ul t)).1 = p0 at *
  clear hl hx
  have hk0 : (w.alloc (.cells #[.string m, .string t, .int .i64 s, .string r, .int .i64 mi, .slice A l.length c, .string b] 27)).heap[w.heap.size]? = some (.cells #[.string m, .string t, .int .i64 s, .string r, .int .i64 mi, .slice A l.length c, .string b] 27 (0, 0)) := heap_alloc_new w _
  by_cases h0 : e0 = 0
  · subst h0
    have HK2 := Aside0.mk (show res = (m ++ (⟨#[32]⟩ : ByteArray) ++ lower host ++ (⟨#[32]⟩ : ByteArray) ++ p0 ++ q0, 0) from HK.out)
    clear HK
    have hp0 := hns.1
    have hq0 := hns.2
    clear hns
    cases xs with
    | nil =>
      have hh : host = ⟨#[]⟩ := HH.out
      subst hh
      clear HH
      go_enter Tryz.func46, Tryz.ntmps46
      go_wp2_with (first | (go_at_call 76; refine (HNO.out _).mono ?_; rintro e w1 ⟨rfl, hb1⟩; have hs1 := Nat.le_trans (by simp : w.heap.size + 1 ≤ (w.alloc (.cells #[.string m, .string t, .int .i64 s, .string r, .int .i64 mi, .slice A l.length c, .string b] 27)).heap.size) hb1.size; have hy1 : w1.cell? ⟨w.heap.size, 0, none⟩ = some (.string m) := (hb1.cell (p := ⟨w.heap.size, 0, none⟩) (by simp)).trans (cell_of hk0 rfl); have hz1 : w1.cell? ⟨w.heap.size, 5, none⟩ = some (.slice A l.length c) := (hb1.cell (p := ⟨w.heap.size, 5, none⟩) (by simp)).trans (cell_of hk0 rfl); have hB1 := ((Below.refl w.heap.size w).alloc (Nat.le_refl _) (.cells #[.string m, .string t, .int .i64 s, .string r, .int .i64 mi, .slice A l.length c, .string b] 27)).trans (hb1.mono (by simp)); clear hb1) | (go_at_call 26; refine (HG.out _ hB1).mono ?_; rintro e w2 ⟨v, rfl, hv, hb2⟩; obtain ⟨A', c', g', rfl, _, hrow⟩ := row_of_R hv; have hB2 := hB1.trans (hb2.mono (by omega)); have hs2 := hb2.size; have hy2 : w2.cell? ⟨w.heap.size, 0, none⟩ = some (.string m) := (hb2.cell (p := ⟨w.heap.size, 0, none⟩) (by show w.heap.size < _; omega)).trans hy1; clear hv hb2 hrow))
      go_ret2
      exact ⟨by rw [HK2.out]; rfl, hB2⟩
    | cons y ys =>
      have hh : host = y := HH.out
      subst hh
      clear HH
      have hlow : (lower host).size ≤ 10000 := by rw [lower_size]; exact hhs
      have hxl := HGL.out.1
      rw [List.length_cons] at hxl
      have HLO := Aside0.mk (fun (W : World) => refLower_calls host (by omega) W)
      have hps : (0 : Int) < ((ys.length + 1 : Nat) : Int) := by omega
      generalize lower host = lo at *
      go_enter Tryz.func46, Tryz.ntmps46
      go_wp2_with (first | (go_at_call 76; refine (HNO.out _).mono ?_; rintro e w1 ⟨rfl, hb1⟩; have hs1 := Nat.le_trans (by simp : w.heap.size + 1 ≤ (w.alloc (.cells #[.string m, .string t, .int .i64 s, .string r, .int .i64 mi, .slice A l.length c, .string b] 27)).heap.size) hb1.size; have hy1 : w1.cell? ⟨w.heap.size, 0, none⟩ = some (.string m) := (hb1.cell (p := ⟨w.heap.size, 0, none⟩) (by simp)).trans (cell_of hk0 rfl); have hz1 : w1.cell? ⟨w.heap.size, 5, none⟩ = some (.slice A l.length c) := (hb1.cell (p := ⟨w.heap.size, 5, none⟩) (by simp)).trans (cell_of hk0 rfl); have hB1 := ((Below.refl w.heap.size w).alloc (Nat.le_refl _) (.cells #[.string m, .string t, .int .i64 s, .string r, .int .i64 mi, .slice A l.length c, .string b] 27)).trans (hb1.mono (by simp)); clear hb1) | (go_at_call 26; refine (HG.out _ hB1).mono ?_; rintro e w2 ⟨v, rfl, hv, hb2⟩; obtain ⟨A', c', g', rfl, _, hrow⟩ := row_of_R hv; have hB2 := hB1.trans (hb2.mono (by omega)); have hs2 := hb2.size; have hy2 : w2.cell? ⟨w.heap.size, 0, none⟩ = some (.string m) := (hb2.cell (p := ⟨w.heap.size, 0, none⟩) (by show w.heap.size < _; omega)).trans hy1; obtain ⟨rfl, _, _, hrw⟩ := hrow (by simp); have hch : w2.cell? ⟨g', 0, none⟩ = some (.string host) := hrw.cell 0 (by simp); clear hv hb2) | (go_at_call 24; refine (HLO.out _).mono ?_; rintro e w3 ⟨rfl, hb3⟩; have hB3 := hB2.trans (hb3.mono (by omega)); have hy3 : w3.cell? ⟨w.heap.size, 0, none⟩ = some (.string m) := (hb3.cell (p := ⟨w.heap.size, 0, none⟩) (by show w.heap.size < _; omega)).trans hy2; clear hb3))
      go_ret2
      exact ⟨by rw [HK2.out]; rfl, hB3⟩
  · have HK2 := Aside0.mk (show res = (⟨#[]⟩, e0) by rw [HK.out, if_neg h0])
    clear HK
    have hne : (e0 == 0) = false := by rw [beq_eq_false_iff_ne]; exact h0
    go_enter Tryz.func46, Tryz.ntmps46
    go_wp2_with (first | (go_at_call 76; refine (HNO.out _).mono ?_; rintro e w1 ⟨rfl, hb1⟩; have hs1 := Nat.le_trans (by simp : w.heap.size + 1 ≤ (w.alloc (.cells #[.string m, .string t, .int .i64 s, .string r, .int .i64 mi, .slice A l.length c, .string b] 27)).heap.size) hb1.size; have hy1 : w1.cell? ⟨w.heap.size, 0, none⟩ = some (.string m) := (hb1.cell (p := ⟨w.heap.size, 0, none⟩) (by simp)).trans (cell_of hk0 rfl); have hz1 : w1.cell? ⟨w.heap.size, 5, none⟩ = some (.slice A l.length c) := (hb1.cell (p := ⟨w.heap.size, 5, none⟩) (by simp)).trans (cell_of hk0 rfl); have hB1 := ((Below.refl w.heap.size w).alloc (Nat.le_refl _) (.cells #[.string m, .string t, .int .i64 s, .string r, .int .i64 mi, .slice A l.length c, .string b] 27)).trans (hb1.mono (by simp)); clear hb1))
    go_ret2
    exact ⟨by rw [HK2.out]; rfl, hB1⟩
end Go.Proofs.YtalafpigfeiaiaaGreatDoor.Q
end
section
namespace Go.Proofs.YtalafpigfeiaiaaGreatDoor.Q
open Go.RowKit Go.Proofs.YtalafpigfeiaiaaGreatDoor.H Go.Proofs.YtalafpigfeiaiaaGreatDoorW.PrintWords
set_option linter.unusedVariables false
set_option linter.unusedSimpArgs false
theorem strings_loop (a b : List ByteArray) (hl : a.length = b.length) (hs : a.length ≤ 1000000000) (d : Nat) : ∀ i : Nat, i ≤ a.length → a.length - i = d → (∀ j, j < i → a[j]? = b[j]?) →
    Ev (fun k => lockageref05_Strings.l0 k a b (i : Int)) (decide (a = b)) := by
  induction d with
  | zero =>
    intro i hi hd hsame
    have e : a = b := by
      apply List.ext_getElem?
      intro j
      by_cases h : j < i
      · exact hsame j h
      · rw [List.getElem?_eq_none (by omega), List.getElem?_eq_none (by omega)]
    rw [decide_eq_true e]
    exact Ev.step (f := fun _ => some true) (fun k => by simp only [lockageref05_Strings.l0]; rw [if_neg (by omega)]) (Ev.now _)
  | succ d ih =>
    intro i hi hd hsame
    have h1 : i < a.length := by omega
    have h2 : i < b.length := by omega
    have hst : ∀ k, lockageref05_Strings.l0 (k + 1) a b (i : Int) = if ul a[i] = ul b[i] then lockageref05_Strings.l0 k a b ((i + 1 : Nat) : Int) else some false := by
      intro k
      simp only [lockageref05_Strings.l0]
      rw [if_pos (by omega), if_pos (by omega), if_pos (by omega), rdOf_get a i h1, rdOf_get b i h2, toList_ul, toList_ul, wrap_succ (by omega)]
    by_cases he : ul a[i] = ul b[i]
    · refine Ev.step (fun k => by rw [hst, if_pos he]) (ih (i + 1) (by omega) (by omega) (fun j hj => ?_))
      by_cases hji : j < i
      · exact hsame j hji
      · obtain rfl : j = i := by omega
        rw [List.getElem?_eq_getElem h1, List.getElem?_eq_getElem h2, ul_inj he]
    · have hne : ¬ a = b := fun q => he (by subst q; rfl)
      rw [decide_eq_false hne]
      exact Ev.step (f := fun _ => some false) (fun k => by rw [hst, if_neg he]) (Ev.now _)
theorem strings_ev (a b : List ByteArray) (hs : a.length ≤ 1000000000) : Ev (fun k => lockageref05_Strings.f k a b) (decide (a = b)) := by
  by_cases hl : a.length = b.length
  · have := strings_loop a b hl hs a.length 0 (by omega) (by omega) (fun j hj => absurd hj (Nat.not_lt_zero _))
    exact Ev.congr (fun k => by unfold lockageref05_Strings.f; rw [if_pos (by omega)]; rfl) this
  · have hne : ¬ a = b := fun q => hl (by rw [q])
    rw [decide_eq_false hne]
    exact Ev.congr (fun k => by unfold lockageref05_Strings.f; rw [if_neg (by omega)]) (Ev.now _)
theorem strings_calls (A0 : Option Addr) (c0 : Nat) (a : List ByteArray) (A1 : Option Addr) (c1 : Nat) (b : List ByteArray) (w : World) (hr0 : Kd.C Kd.string w A0 a.length a) (hc0 : a.length ≤ c0) (hr1 : Kd.C Kd.string w A1 b.length b) (hc1 : b.length ≤ c1) (hs : a.length ≤ 1000000000) :
    Calls Tryz.prog 25 #[.slice A0 a.length c0, .slice A1 b.length c1] w fun e w' => e = .returned (.bool (decide (a = b))) ∧ Drawn0 w w' := by
  obtain ⟨k, hk⟩ := (strings_ev a b hs).rounds
  exact lockageref05_Strings.calls k A0 c0 a A1 c1 b _ w hr0 hc0 hr1 hc1 hk
def pieceL : List ByteArray := ([(⟨#[47]⟩ : ByteArray), (⟨#[97]⟩ : ByteArray), (⟨#[46, 46]⟩ : ByteArray), (⟨#[46]⟩ : ByteArray), (⟨#[37, 50, 101]⟩ : ByteArray), (⟨#[37, 50, 70]⟩ : ByteArray), (⟨#[37, 55, 101]⟩ : ByteArray), (⟨#[37]⟩ : ByteArray), (⟨#[37, 48]⟩ : ByteArray), (⟨#[37, 48, 48]⟩ : ByteArray), (⟨#[63]⟩ : ByteArray), (⟨#[98, 61, 99]⟩ : ByteArray), (⟨#[35]⟩ : ByteArray), (⟨#[37, 52, 49]⟩ : ByteArray), (⟨#[126]⟩ : ByteArray), (⟨#[47, 47]⟩ : ByteArray), (⟨#[47, 46, 47]⟩ : ByteArray), (⟨#[47, 46, 46, 47]⟩ : ByteArray), (⟨#[37, 67, 51, 37, 97, 52]⟩ : ByteArray), (⟨#[195, 169]⟩ : ByteArray), (⟨#[32]⟩ : ByteArray), (⟨#[37, 122, 122]⟩ : ByteArray), (⟨#[37, 51, 102]⟩ : ByteArray)] : List ByteArray)
theorem piece_tab : ∀ j : Fin 23, (pieceL.getD j.val ByteArray.empty).size ≤ 6 := by decide +kernel
theorem pieces_loop (l : List Int) (hb : ∀ x ∈ l, 0 ≤ x ∧ x < 256) (d : Nat) : ∀ (i : Nat) (s : ByteArray), i ≤ 16 → 16 - i = d → s.size ≤ 1 + 6 * i → ∃ r, Ev (fun k => lockagelaw13_Pieces.l0 k l pieceL s (i : Int)) r ∧ r.size ≤ 97 := by
  induction d with
  | zero =>
    intro i s hi hd hs
    refine ⟨s, Ev.step (f := fun _ => some s) (fun k => ?_) (Ev.now _), by omega⟩
    simp only [lockagelaw13_Pieces.l0]
    by_cases h : (i : Int) < (l.length : Int)
    · rw [if_pos h, if_neg (by omega)]
    · rw [if_neg h]
  | succ d ih =>
    intro i s hi hd hs
    by_cases h : (i : Int) < (l.length : Int)
    · have hil : i < l.length := by omega
      have hx := hb l[i] (List.getElem_mem hil)
      have hrd : rd l (i : Int) = l[i] := by simp [rd, List.getD_eq_getElem?_getD, List.getElem?_eq_getElem hil]
      generalize l[i] = x at *
      obtain ⟨n, rfl⟩ : ∃ n : Nat, x = n := ⟨x.toNat, by omega⟩
      have hw : wrap64 (n : Int) = (n : Int) := by unfold wrap64; omega
      have hm : Int.tmod (n : Int) ((pieceL.length : Nat) : Int) = ((n % 23 : Nat) : Int) := by rw [show pieceL.length = 23 from rfl, Int.tmod_eq_emod_of_nonneg (by omega)]; omega
      have hpl : (pieceL.length : Int) = 23 := rfl
      have hp := piece_tab ⟨n % 23, by omega⟩
      have hpe : rdOf ByteArray.empty pieceL ((n % 23 : Nat) : Int) = pieceL.getD (n % 23) ByteArray.empty := rfl
      simp only at hp
      generalize pieceL.getD (n % 23) ByteArray.empty = y at *
      obtain ⟨r, hr, hrs⟩ := ih (i + 1) (s ++ y) (by omega) (by omega) (by rw [ByteArray.size_append]; omega)
      refine ⟨r, Ev.step (fun k => ?_) hr, hrs⟩
      simp only [lockagelaw13_Pieces.l0]
      rw [if_pos h, if_pos (by omega), if_pos (by omega), hrd, hw, hm, hpl, if_neg (by omega), if_pos (by omega), if_pos (by omega), hpe, if_pos (by omega), wrap_succ (by omega)]
    · exact ⟨s, Ev.step (f := fun _ => some s) (fun k => by simp only [lockagelaw13_Pieces.l0]; rw [if_neg h]) (Ev.now _), by omega⟩
theorem pieces_calls (A0 : Option Addr) (c0 : Nat) (l : List Int) (w : World) (hr0 : Kd.C (Kd.int .u8) w A0 l.length l) (hc0 : l.length ≤ c0) (hb : ∀ x ∈ l, 0 ≤ x ∧ x < 256) :
    ∃ s : ByteArray, s.size ≤ 97 ∧ Calls Tryz.prog 18 #[.slice A0 l.length c0] w fun e w' => e = .returned (.string s) ∧ Below w.heap.size w w' := by
  obtain ⟨r, hr, hs⟩ := pieces_loop l hb 16 0 (⟨#[47]⟩ : ByteArray) (by omega) (by omega) (by decide)
  obtain ⟨k, hk⟩ := hr.rounds
  exact ⟨r, hs, lockagelaw13_Pieces.calls k A0 c0 l r w hr0 hc0 hk⟩
end Go.Proofs.YtalafpigfeiaiaaGreatDoor.Q
end
section
namespace Go.Proofs.YtalafpigfeiaiaaGreatDoor.Q
open Go.RowKit Go.Proofs.YtalafpigfeiaiaaGreatDoor.H Go.Proofs.YtalafpigfeiaiaaGreatDoorW.PrintWords
set_option linter.unusedVariables false
set_option linter.unusedSimpArgs false
structure OwnHd (w0 : World) (x : Hd) (w' : World) : Prop where
  row : Kd.R k36 36 w' w0.heap.size (fun _ => True) (.slice x.A x.l.length x.c) x.l
  few : FewS x.l
  len : x.l.length ≤ 6
  m : x.m.size ≤ 30
  t : x.t.size ≤ 30
theorem OwnHd.in_ {w0 w' : World} {x : Hd} (h : OwnHd w0 x w') : x.In w' := by
  obtain ⟨_, h1, h2⟩ := Kd.R_reads' h.row
  exact ⟨h2, h1, h.few.few h.len⟩
theorem OwnHd.below {w0 w' w1 : World} {x : Hd} (h : OwnHd w0 x w') (hb : Below w'.heap.size w' w1) : OwnHd w0 x w1 := ⟨Kd.R_below h.row hb, h.few, h.len, h.m, h.t⟩
def GotHead (w : World) (e : Ending) (w' : World) : Prop := ∃ x : Hd, e = .returned x.v ∧ OwnHd w x w' ∧ Below w.heap.size w w'
def GotMsg (w : World) (e : Ending) (w' : World) : Prop := ∃ (x : Hd) (b : ByteArray), e = .returned (x.mv b) ∧ b.size ≤ 1 ∧ OwnHd w x w' ∧ Below w.heap.size w w'
theorem six_cells {W : World} {z : Nat} {a b c d e f : Value} (h : W.heap[z]? = some (.cells #[a, b, c, d, e, f] 25 (0, 0))) :
    W.cell? ⟨z, 0, none⟩ = some a ∧ W.cell? ⟨z, 1, none⟩ = some b ∧ W.cell? ⟨z, 2, none⟩ = some c ∧ W.cell? ⟨z, 3, none⟩ = some d ∧ W.cell? ⟨z, 4, none⟩ = some e ∧ W.cell? ⟨z, 5, none⟩ = some f :=
  ⟨(blk_cell h 0).trans rfl, (blk_cell h 1).trans rfl, (blk_cell h 2).trans rfl, (blk_cell h 3).trans rfl, (blk_cell h 4).trans rfl, (blk_cell h 5).trans rfl⟩
abbrev six (W : World) (z : Nat) (a b c d e f : Value) : World := (((((W.setCell ⟨z, 0, none⟩ a).setCell ⟨z, 1, none⟩ b).setCell ⟨z, 2, none⟩ c).setCell ⟨z, 3, none⟩ d).setCell ⟨z, 4, none⟩ e).setCell ⟨z, 5, none⟩ f
theorem six_put {W : World} {z : Nat} {a0 b0 c0 d0 e0 f0 a b c d e f : Value} (h : W.heap[z]? = some (.cells #[a0, b0, c0, d0, e0, f0] 25 (0, 0))) : (six W z a b c d e f).heap[z]? = some (.cells #[a, b, c, d, e, f] 25 (0, 0)) := by
  refine blk_put (cs := #[a, b, c, d, e, f0]) ?_ 5 _ rfl
  refine blk_put (cs := #[a, b, c, d, e0, f0]) ?_ 4 _ rfl
  refine blk_put (cs := #[a, b, c, d0, e0, f0]) ?_ 3 _ rfl
  refine blk_put (cs := #[a, b, c0, d0, e0, f0]) ?_ 2 _ rfl
  refine blk_put (cs := #[a, b0, c0, d0, e0, f0]) ?_ 1 _ rfl
  exact blk_put (cs := #[a0, b0, c0, d0, e0, f0]) h 0 _ rfl
theorem six_far {W : World} {z base : Nat} {v a b c d e f : Value} {L : FieldL} (h : Kd.R k36 36 W base (fun _ => True) v L) (hz : z < base) : Kd.R k36 36 (six W z a b c d e f) base (fun _ => True) v L := by
  have hk : ∀ k, (True ∧ base ≤ k ∧ k < W.heap.size ∧ ∃ q, q ∈ 36 :: k36.E ∧ ∃ cells, W.heap[k]? = some (.cells cells q (0, 0))) → k ≠ z := fun k hk => by have := hk.2.1; omega
  exact Kd.R_mono (Kd.R_far (p := ⟨z, 5, none⟩) (Kd.R_far (p := ⟨z, 4, none⟩) (Kd.R_far (p := ⟨z, 3, none⟩) (Kd.R_far (p := ⟨z, 2, none⟩) (Kd.R_far (p := ⟨z, 1, none⟩) (Kd.R_far (p := ⟨z, 0, none⟩) (Kd.R_bound h) hk a) hk b) hk c) hk d) hk e) hk f) (fun _ _ => trivial)
theorem six_below {B : Nat} {w W : World} {z : Nat} {a b c d e f : Value} (h : Below B w W) (hz : B ≤ z) : Below B w (six W z a b c d e f) :=
  (((((h.setCell (p := ⟨z, 0, none⟩) hz _).setCell (p := ⟨z, 1, none⟩) hz _).setCell (p := ⟨z, 2, none⟩) hz _).setCell (p := ⟨z, 3, none⟩) hz _).setCell (p := ⟨z, 4, none⟩) hz _).setCell (p := ⟨z, 5, none⟩) hz _
set_option maxHeartbeats 1000000 in
set_option maxRecDepth 100000 in
theorem made_calls (A : Option Addr) (c : Nat) (l : List Int) (ans : Bool) (w : World) (hr : Kd.C (Kd.int .u8) w A l.length l) (hb : Bytes l) :
    Calls Tryz.prog 16 #[.slice A l.length c, .bool ans] w (GotHead w) := by
  obtain ⟨m, t, s, r, mi, L, at2, hE, hm, ht, hl, hf, ha⟩ := head_ev l hb 0 (by omega) ans
  obtain ⟨k, hk⟩ := hE.rounds
  have hk' : lockagelaw06_Maker_Head.f k l 0 ans = some (m, t, s, r, mi, L, (at2 : Int)) := hk
  have HC := Aside0.mk (fun (W : World) (z : Nat) (hz : z = W.heap.size) (hB : Below w.heap.size w W) => (hz ▸ lockagelaw06_Maker_Head.calls k W.heap.size l 0 ans m t s r mi L at2 w (W.alloc (.cells #[.slice A l.length c, .int .i64 0] 80)) (IsS80.new w W A c l 0 hB hr) (below_alloc hB _) hk' : Calls Tryz.prog 44 #[.pointer (some ⟨z, 0, none⟩), .bool ans] (W.alloc (.cells #[.slice A l.length c, .int .i64 0] 80)) _))
  clear hk hk' hE hr
  go_enter Tryz.func16, Tryz.ntmps16
  go_wp2_with fail
  with_reducible refine (HC.out _ _ (by simp) (below_alloc (Below.refl _ _) _)).mono ?_
  rintro e w1 ⟨v, rfl, hv, hI1, hB1, hK1⟩
  obtain ⟨A', c', rfl, hlc, hvr⟩ := Kd.R_reads hv
  have HV := Aside0.mk hv
  have HB1 := Aside0.mk hB1
  have hz1 := (hK1.2 w.heap.size (by simp; omega) (by simp) (by simp)).trans ((Below.heap_alloc _ _ _ (by simp)).trans (heap_alloc_new w _))
  have HZ := Aside0.mk hz1
  have hf0 := blk_frozen hz1 0
  have hf1 := blk_frozen hz1 1
  have hf2 := blk_frozen hz1 2
  have hf3 := blk_frozen hz1 3
  have hf4 := blk_frozen hz1 4
  have hf5 := blk_frozen hz1 5
  obtain ⟨hc0, hc1, hc2, hc3, hc4, hc5⟩ := six_cells hz1
  clear hv hI1 hB1 hK1 hvr hz1
  go_wp2
  refine bodyPost_ret (results_cell_row rfl _ _ w.heap.size 25 #[.string m, .string t, .int .i64 s, .string r, .int .i64 mi, .slice A' L.length c'] (0, 0) _ rfl ?_ Tryz.underlying25 rfl (by kernel_rfl)) rfl ?_
  · exact six_put HZ.out
  · exact ⟨⟨m, t, s, r, mi, A', c', L⟩, rfl, ⟨Kd.R_lower (six_far HV.out (by simp; omega)) (by simp; omega), hf, hl, hm, ht⟩, six_below HB1.out (Nat.le_refl _)⟩
abbrev seven (W : World) (z : Nat) (a b c d e f g : Value) : World := (six W z a b c d e f).setCell ⟨z, 6, none⟩ g
theorem seven_put {W : World} {z : Nat} {a0 b0 c0 d0 e0 f0 g0 a b c d e f g : Value} (h : W.heap[z]? = some (.cells #[a0, b0, c0, d0, e0, f0, g0] 27 (0, 0))) : (seven W z a b c d e f g).heap[z]? = some (.cells #[a, b, c, d, e, f, g] 27 (0, 0)) := by
  refine blk_put (cs := #[a, b, c, d, e, f, g0]) ?_ 6 _ rfl
  refine blk_put (cs := #[a, b, c, d, e, f0, g0]) ?_ 5 _ rfl
  refine blk_put (cs := #[a, b, c, d, e0, f0, g0]) ?_ 4 _ rfl
  refine blk_put (cs := #[a, b, c, d0, e0, f0, g0]) ?_ 3 _ rfl
  refine blk_put (cs := #[a, b, c0, d0, e0, f0, g0]) ?_ 2 _ rfl
  refine blk_put (cs := #[a, b0, c0, d0, e0, f0, g0]) ?_ 1 _ rfl
  exact blk_put (cs := #[a0, b0, c0, d0, e0, f0, g0]) h 0 _ rfl
theorem seven_far {W : World} {z base : Nat} {ok : Nat → Prop} {v a b c d e f g : Value} {L : FieldL} (h : Kd.R k36 36 W base ok v L) (hk : ∀ k, ok k → k ≠ z) : Kd.R k36 36 (seven W z a b c d e f g) base ok v L :=
  Kd.R_far (p := ⟨z, 6, none⟩) (Kd.R_far (p := ⟨z, 5, none⟩) (Kd.R_far (p := ⟨z, 4, none⟩) (Kd.R_far (p := ⟨z, 3, none⟩) (Kd.R_far (p := ⟨z, 2, none⟩) (Kd.R_far (p := ⟨z, 1, none⟩) (Kd.R_far (p := ⟨z, 0, none⟩) h hk a) hk b) hk c) hk d) hk e) hk f) hk g
theorem seven_cells {W : World} {z : Nat} {a b c d e f g : Value} (h : W.heap[z]? = some (.cells #[a, b, c, d, e, f, g] 27 (0, 0))) :
    W.cell? ⟨z, 0, none⟩ = some a ∧ W.cell? ⟨z, 1, none⟩ = some b ∧ W.cell? ⟨z, 2, none⟩ = some c ∧ W.cell? ⟨z, 3, none⟩ = some d ∧ W.cell? ⟨z, 4, none⟩ = some e ∧ W.cell? ⟨z, 5, none⟩ = some f ∧ W.cell? ⟨z, 6, none⟩ = some g :=
  ⟨(blk_cell h 0).trans rfl, (blk_cell h 1).trans rfl, (blk_cell h 2).trans rfl, (blk_cell h 3).trans rfl, (blk_cell h 4).trans rfl, (blk_cell h 5).trans rfl, (blk_cell h 6).trans rfl⟩
theorem keep_blk {w w1 : World} {g k : Nat} {o : Obj} (h : KeepBut w w1 g none) (hk : w.heap[k]? = some o) (hne : k ≠ g) : w1.heap[k]? = some o := (h.2 k (blk_lt hk) hne (by simp)).trans hk
set_option maxHeartbeats 2000000 in
set_option maxRecDepth 100000 in
theorem request_calls (A : Option Addr) (c : Nat) (l : List Int) (w : World) (hr : Kd.C (Kd.int .u8) w A l.length l) (hb : Bytes l) :
    Calls Tryz.prog 15 #[.slice A l.length c] w (GotMsg w) := by
  obtain ⟨m, t, s, r, mi, L, at2, hE, hm, ht, hl, hf, ha⟩ := head_ev l hb 0 (by omega) false
  obtain ⟨k, hk⟩ := hE.rounds
  have hk' : lockagelaw06_Maker_Head.f k l 0 false = some (m, t, s, r, mi, L, (at2 : Int)) := hk
  obtain ⟨p1, _, hp1⟩ := pick_ev l hb at2 3 3 rfl (by omega) (by omega) (by omega)
  obtain ⟨p2, _, hp2⟩ := pick_ev l hb (at2 + 1) 6 6 rfl (by omega) (by omega) (by omega)
  have HC := Aside0.mk (fun (W : World) (z : Nat) (hz : z = W.heap.size) (hB : Below w.heap.size w W) => (hz ▸ lockagelaw06_Maker_Head.calls k W.heap.size l 0 false m t s r mi L at2 w (W.alloc (.cells #[.slice A l.length c, .int .i64 0] 80)) (IsS80.new w W A c l 0 hB hr) (below_alloc hB _) hk' : Calls Tryz.prog 44 #[.pointer (some ⟨z, 0, none⟩), .bool false] (W.alloc (.cells #[.slice A l.length c, .int .i64 0] 80)) _))
  have HP1 := Aside0.mk (fun (W : World) (z : Nat) (hI : IsS80 w W z l (at2 : Int)) (hB : Below w.heap.size w W) => lockagelaw06_Maker_Pick.calls z l at2 3 p1 ((at2 + 1 : Nat) : Int) w W hI hB hp1)
  have HP2 := Aside0.mk (fun (W : World) (z : Nat) (hI : IsS80 w W z l ((at2 + 1 : Nat) : Int)) (hB : Below w.heap.size w W) => lockagelaw06_Maker_Pick.calls z l ((at2 + 1 : Nat) : Int) 6 p2 ((at2 + 1 + 1 : Nat) : Int) w W hI hB hp2)
  clear hk hk' hE hr hp1 hp2
  generalize hd3 : decide (0 < p1) = d3
  generalize hd6 : ((p2 : Int) == 5) = d6
  cases d3 with
  | true =>
    cases d6 with
    | true =>
      go_enter Tryz.func15, Tryz.ntmps15
      go_wp2_with fail
      with_reducible refine (HC.out _ _ (by simp) (below_alloc (Below.refl _ _) _)).mono ?_
      rintro e w1 ⟨v, rfl, hv, hI1, hB1, hK1⟩
      obtain ⟨A', c', rfl, hlc, hvr⟩ := Kd.R_reads hv
      have HV1 := Aside0.mk (Kd.R_mono (Kd.R_bound (Kd.R_lower (base' := w.heap.size + 2) hv (by simp))) (fun k hk => (⟨hk.2.1, hk.2.2.1⟩ : w.heap.size + 2 ≤ k ∧ k < w1.heap.size)))
      have HB1 := Aside0.mk hB1
      have HI1 := Aside0.mk hI1
      have hs1 : w.heap.size + 1 < w1.heap.size := by have := hK1.1; simp at this; omega
      have HS1 := Aside0.mk hs1
      have HZ1 := Aside0.mk ((hK1.2 w.heap.size (by simp; omega) (by simp) (by simp)).trans ((Below.heap_alloc _ _ _ (by simp)).trans (heap_alloc_new w _)))
      clear hv hI1 hB1 hK1 hvr hs1
      go_wp2_with fail
      with_reducible refine (HP1.out _ _ (IsS80.alloc HI1.out _) (below_alloc HB1.out _)).mono ?_
      rintro e w2 ⟨rfl, hI2, hB2, hK2⟩
      have HI2 := Aside0.mk hI2
      have HB2 := Aside0.mk hB2
      have hs2 : w1.heap.size < w2.heap.size := by have := hK2.1; simp at this; omega
      have HS2 := Aside0.mk hs2
      have HZ2 := Aside0.mk (keep_blk hK2 ((Below.heap_alloc _ _ _ (by have := HS1.out; omega)).trans HZ1.out) (by omega))
      have hy2 := keep_blk hK2 (heap_alloc_new w1 _) (by have := HS1.out; omega)
      have HY2 := Aside0.mk hy2
      have HV2 := Aside0.mk (Kd.R_keep (Kd.R_alloc HV1.out _) hK2 (fun k hk => by omega))
      obtain ⟨hc0, hc1, hc2, hc3, hc4, hc5⟩ := six_cells hy2
      have hf0 := blk_frozen hy2 0
      clear hI2 hB2 hK2 hs2 hy2
      go_wp2_with fail
      clear hc0 hc1 hc2 hc3 hc4 hc5 hf0
      with_reducible refine (HP2.out _ _ (IsS80.far HI2.out (by have := HS1.out; show _ ≠ w1.heap.size; omega) _) (below_set HB2.out (by have := HS1.out; omega))).mono ?_
      rintro e w3 ⟨rfl, hI3, hB3, hK3⟩
      have HZ3 := Aside0.mk (keep_blk hK3 ((Below.heap_setCell _ _ _ _ (by have := HS1.out; show _ ≠ w1.heap.size; omega)).trans HZ2.out) (by omega))
      have hy3 := keep_blk hK3 (blk_put (cs' := #[.string ⟨#[71, 69, 84]⟩, .string t, .int .i64 s, .string r, .int .i64 mi, .slice A' L.length c']) HY2.out 0 _ rfl) (by have := HS1.out; omega)
      have HV3 := Aside0.mk (Kd.R_keep (Kd.R_far HV2.out (fun k hk => by show k ≠ w1.heap.size; omega) _) hK3 (fun k hk => by omega))
      have HB3 := Aside0.mk hB3
      have hz3 := HZ3.out
      obtain ⟨hc0, hc1, hc2, hc3, hc4, hc5⟩ := six_cells hy3
      obtain ⟨hd0, hd1, hd2, hd3_, hd4, hd5, hd6_⟩ := seven_cells hz3
      have hf0 := blk_frozen hz3 0
      have hf1 := blk_frozen hz3 1
      have hf2 := blk_frozen hz3 2
      have hf3 := blk_frozen hz3 3
      have hf4 := blk_frozen hz3 4
      have hf5 := blk_frozen hz3 5
      have hf6 := blk_frozen hz3 6
      clear hI3 hB3 hK3 hy3 hz3
      go_wp2
      refine bodyPost_ret (results_cell_row rfl _ _ w.heap.size 27 #[.string ⟨#[71, 69, 84]⟩, .string t, .int .i64 s, .string r, .int .i64 mi, .slice A' L.length c', .string ⟨#[120]⟩] (0, 0) _ rfl (seven_put HZ3.out) Tryz.underlying27 rfl (by kernel_rfl)) rfl ?_
      exact ⟨⟨⟨#[71, 69, 84]⟩, t, s, r, mi, A', c', L⟩, ⟨#[120]⟩, rfl, by decide, ⟨Kd.R_lower (Kd.R_mono (seven_far HV3.out (fun k hk => by omega)) (fun _ _ => trivial)) (by omega), hf, hl, (by decide : (⟨#[71, 69, 84]⟩ : ByteArray).size ≤ 30), ht⟩, (six_below HB3.out (Nat.le_refl _)).setCell (p := ⟨w.heap.size, 6, none⟩) (Nat.le_refl _) _⟩
    | false =>
      go_enter Tryz.func15, Tryz.ntmps15
      go_wp2_with fail
      with_reducible refine (HC.out _ _ (by simp) (below_alloc (Below.refl _ _) _)).mono ?_
      rintro e w1 ⟨v, rfl, hv, hI1, hB1, hK1⟩
      obtain ⟨A', c', rfl, hlc, hvr⟩ := Kd.R_reads hv
      have HV1 := Aside0.mk (Kd.R_mono (Kd.R_bound (Kd.R_lower (base' := w.heap.size + 2) hv (by simp))) (fun k hk => (⟨hk.2.1, hk.2.2.1⟩ : w.heap.size + 2 ≤ k ∧ k < w1.heap.size)))
      have HB1 := Aside0.mk hB1
      have HI1 := Aside0.mk hI1
      have hs1 : w.heap.size + 1 < w1.heap.size := by have := hK1.1; simp at this; omega
      have HS1 := Aside0.mk hs1
      have HZ1 := Aside0.mk ((hK1.2 w.heap.size (by simp; omega) (by simp) (by simp)).trans ((Below.heap_alloc _ _ _ (by simp)).trans (heap_alloc_new w _)))
      clear hv hI1 hB1 hK1 hvr hs1
      go_wp2_with fail
      with_reducible refine (HP1.out _ _ (IsS80.alloc HI1.out _) (below_alloc HB1.out _)).mono ?_
      rintro e w2 ⟨rfl, hI2, hB2, hK2⟩
      have HI2 := Aside0.mk hI2
      have HB2 := Aside0.mk hB2
      have hs2 : w1.heap.size < w2.heap.size := by have := hK2.1; simp at this; omega
      have HS2 := Aside0.mk hs2
      have HZ2 := Aside0.mk (keep_blk hK2 ((Below.heap_alloc _ _ _ (by have := HS1.out; omega)).trans HZ1.out) (by omega))
      have hy2 := keep_blk hK2 (heap_alloc_new w1 _) (by have := HS1.out; omega)
      have HY2 := Aside0.mk hy2
      have HV2 := Aside0.mk (Kd.R_keep (Kd.R_alloc HV1.out _) hK2 (fun k hk => by omega))
      obtain ⟨hc0, hc1, hc2, hc3, hc4, hc5⟩ := six_cells hy2
      have hf0 := blk_frozen hy2 0
      clear hI2 hB2 hK2 hs2 hy2
      go_wp2_with fail
      clear hc0 hc1 hc2 hc3 hc4 hc5 hf0
      with_reducible refine (HP2.out _ _ (IsS80.far HI2.out (by have := HS1.out; show _ ≠ w1.heap.size; omega) _) (below_set HB2.out (by have := HS1.out; omega))).mono ?_
      rintro e w3 ⟨rfl, hI3, hB3, hK3⟩
      have HZ3 := Aside0.mk (keep_blk hK3 ((Below.heap_setCell _ _ _ _ (by have := HS1.out; show _ ≠ w1.heap.size; omega)).trans HZ2.out) (by omega))
      have hy3 := keep_blk hK3 (blk_put (cs' := #[.string ⟨#[71, 69, 84]⟩, .string t, .int .i64 s, .string r, .int .i64 mi, .slice A' L.length c']) HY2.out 0 _ rfl) (by have := HS1.out; omega)
      have HV3 := Aside0.mk (Kd.R_keep (Kd.R_far HV2.out (fun k hk => by show k ≠ w1.heap.size; omega) _) hK3 (fun k hk => by omega))
      have HB3 := Aside0.mk hB3
      have hz3 := HZ3.out
      obtain ⟨hc0, hc1, hc2, hc3, hc4, hc5⟩ := six_cells hy3
      obtain ⟨hd0, hd1, hd2, hd3_, hd4, hd5, hd6_⟩ := seven_cells hz3
      have hf0 := blk_frozen hz3 0
      have hf1 := blk_frozen hz3 1
      have hf2 := blk_frozen hz3 2
      have hf3 := blk_frozen hz3 3
      have hf4 := blk_frozen hz3 4
      have hf5 := blk_frozen hz3 5
      have hf6 := blk_frozen hz3 6
      clear hI3 hB3 hK3 hy3 hz3
      go_wp2
      refine bodyPost_ret (results_cell_row rfl _ _ w.heap.size 27 #[.string ⟨#[71, 69, 84]⟩, .string t, .int .i64 s, .string r, .int .i64 mi, .slice A' L.length c', .string ⟨#[]⟩] (0, 0) _ rfl (seven_put HZ3.out) Tryz.underlying27 rfl (by kernel_rfl)) rfl ?_
      exact ⟨⟨⟨#[71, 69, 84]⟩, t, s, r, mi, A', c', L⟩, ⟨#[]⟩, rfl, by decide, ⟨Kd.R_lower (Kd.R_mono (seven_far HV3.out (fun k hk => by omega)) (fun _ _ => trivial)) (by omega), hf, hl, (by decide : (⟨#[71, 69, 84]⟩ : ByteArray).size ≤ 30), ht⟩, (six_below HB3.out (Nat.le_refl _)).setCell (p := ⟨w.heap.size, 6, none⟩) (Nat.le_refl _) _⟩
  | false =>
    cases d6 with
    | true =>
      go_enter Tryz.func15, Tryz.ntmps15
      go_wp2_with fail
      with_reducible refine (HC.out _ _ (by simp) (below_alloc (Below.refl _ _) _)).mono ?_
      rintro e w1 ⟨v, rfl, hv, hI1, hB1, hK1⟩
      obtain ⟨A', c', rfl, hlc, hvr⟩ := Kd.R_reads hv
      have HV1 := Aside0.mk (Kd.R_mono (Kd.R_bound (Kd.R_lower (base' := w.heap.size + 2) hv (by simp))) (fun k hk => (⟨hk.2.1, hk.2.2.1⟩ : w.heap.size + 2 ≤ k ∧ k < w1.heap.size)))
      have HB1 := Aside0.mk hB1
      have HI1 := Aside0.mk hI1
      have hs1 : w.heap.size + 1 < w1.heap.size := by have := hK1.1; simp at this; omega
      have HS1 := Aside0.mk hs1
      have HZ1 := Aside0.mk ((hK1.2 w.heap.size (by simp; omega) (by simp) (by simp)).trans ((Below.heap_alloc _ _ _ (by simp)).trans (heap_alloc_new w _)))
      clear hv hI1 hB1 hK1 hvr hs1
      go_wp2_with fail
      with_reducible refine (HP1.out _ _ (IsS80.alloc HI1.out _) (below_alloc HB1.out _)).mono ?_
      rintro e w2 ⟨rfl, hI2, hB2, hK2⟩
      have HI2 := Aside0.mk hI2
      have HB2 := Aside0.mk hB2
      have hs2 : w1.heap.size < w2.heap.size := by have := hK2.1; simp at this; omega
      have HS2 := Aside0.mk hs2
      have HZ2 := Aside0.mk (keep_blk hK2 ((Below.heap_alloc _ _ _ (by have := HS1.out; omega)).trans HZ1.out) (by omega))
      have hy2 := keep_blk hK2 (heap_alloc_new w1 _) (by have := HS1.out; omega)
      have HY2 := Aside0.mk hy2
      have HV2 := Aside0.mk (Kd.R_keep (Kd.R_alloc HV1.out _) hK2 (fun k hk => by omega))
      obtain ⟨hc0, hc1, hc2, hc3, hc4, hc5⟩ := six_cells hy2
      have hf0 := blk_frozen hy2 0
      clear hI2 hB2 hK2 hs2 hy2
      go_wp2_with fail
      clear hc0 hc1 hc2 hc3 hc4 hc5 hf0
      with_reducible refine (HP2.out _ _ HI2.out HB2.out).mono ?_
      rintro e w3 ⟨rfl, hI3, hB3, hK3⟩
      have HZ3 := Aside0.mk (keep_blk hK3 HZ2.out (by omega))
      have hy3 := keep_blk hK3 HY2.out (by have := HS1.out; omega)
      have HV3 := Aside0.mk (Kd.R_keep HV2.out hK3 (fun k hk => by omega))
      have HB3 := Aside0.mk hB3
      have hz3 := HZ3.out
      obtain ⟨hc0, hc1, hc2, hc3, hc4, hc5⟩ := six_cells hy3
      obtain ⟨hd0, hd1, hd2, hd3_, hd4, hd5, hd6_⟩ := seven_cells hz3
      have hf0 := blk_frozen hz3 0
      have hf1 := blk_frozen hz3 1
      have hf2 := blk_frozen hz3 2
      have hf3 := blk_frozen hz3 3
      have hf4 := blk_frozen hz3 4
      have hf5 := blk_frozen hz3 5
      have hf6 := blk_frozen hz3 6
      clear hI3 hB3 hK3 hy3 hz3
      go_wp2
      refine bodyPost_ret (results_cell_row rfl _ _ w.heap.size 27 #[.string m, .string t, .int .i64 s, .string r, .int .i64 mi, .slice A' L.length c', .string ⟨#[120]⟩] (0, 0) _ rfl (seven_put HZ3.out) Tryz.underlying27 rfl (by kernel_rfl)) rfl ?_
      exact ⟨⟨m, t, s, r, mi, A', c', L⟩, ⟨#[120]⟩, rfl, by decide, ⟨Kd.R_lower (Kd.R_mono (seven_far HV3.out (fun k hk => by omega)) (fun _ _ => trivial)) (by omega), hf, hl, hm, ht⟩, (six_below HB3.out (Nat.le_refl _)).setCell (p := ⟨w.heap.size, 6, none⟩) (Nat.le_refl _) _⟩
    | false =>
      go_enter Tryz.func15, Tryz.ntmps15
      go_wp2_with fail
      with_reducible refine (HC.out _ _ (by simp) (below_alloc (Below.refl _ _) _)).mono ?_
      rintro e w1 ⟨v, rfl, hv, hI1, hB1, hK1⟩
      obtain ⟨A', c', rfl, hlc, hvr⟩ := Kd.R_reads hv
      have HV1 := Aside0.mk (Kd.R_mono (Kd.R_bound (Kd.R_lower (base' := w.heap.size + 2) hv (by simp))) (fun k hk => (⟨hk.2.1, hk.2.2.1⟩ : w.heap.size + 2 ≤ k ∧ k < w1.heap.size)))
      have HB1 := Aside0.mk hB1
      have HI1 := Aside0.mk hI1
      have hs1 : w.heap.size + 1 < w1.heap.size := by have := hK1.1; simp at this; omega
      have HS1 := Aside0.mk hs1
      have HZ1 := Aside0.mk ((hK1.2 w.heap.size (by simp; omega) (by simp) (by simp)).trans ((Below.heap_alloc _ _ _ (by simp)).trans (heap_alloc_new w _)))
      clear hv hI1 hB1 hK1 hvr hs1
      go_wp2_with fail
      with_reducible refine (HP1.out _ _ (IsS80.alloc HI1.out _) (below_alloc HB1.out _)).mono ?_
      rintro e w2 ⟨rfl, hI2, hB2, hK2⟩
      have HI2 := Aside0.mk hI2
      have HB2 := Aside0.mk hB2
      have hs2 : w1.heap.size < w2.heap.size := by have := hK2.1; simp at this; omega
      have HS2 := Aside0.mk hs2
      have HZ2 := Aside0.mk (keep_blk hK2 ((Below.heap_alloc _ _ _ (by have := HS1.out; omega)).trans HZ1.out) (by omega))
      have hy2 := keep_blk hK2 (heap_alloc_new w1 _) (by have := HS1.out; omega)
      have HY2 := Aside0.mk hy2
      have HV2 := Aside0.mk (Kd.R_keep (Kd.R_alloc HV1.out _) hK2 (fun k hk => by omega))
      obtain ⟨hc0, hc1, hc2, hc3, hc4, hc5⟩ := six_cells hy2
      have hf0 := blk_frozen hy2 0
      clear hI2 hB2 hK2 hs2 hy2
      go_wp2_with fail
      clear hc0 hc1 hc2 hc3 hc4 hc5 hf0
      with_reducible refine (HP2.out _ _ HI2.out HB2.out).mono ?_
      rintro e w3 ⟨rfl, hI3, hB3, hK3⟩
      have HZ3 := Aside0.mk (keep_blk hK3 HZ2.out (by omega))
      have hy3 := keep_blk hK3 HY2.out (by have := HS1.out; omega)
      have HV3 := Aside0.mk (Kd.R_keep HV2.out hK3 (fun k hk => by omega))
      have HB3 := Aside0.mk hB3
      have hz3 := HZ3.out
      obtain ⟨hc0, hc1, hc2, hc3, hc4, hc5⟩ := six_cells hy3
      obtain ⟨hd0, hd1, hd2, hd3_, hd4, hd5, hd6_⟩ := seven_cells hz3
      have hf0 := blk_frozen hz3 0
      have hf1 := blk_frozen hz3 1
      have hf2 := blk_frozen hz3 2
      have hf3 := blk_frozen hz3 3
      have hf4 := blk_frozen hz3 4
      have hf5 := blk_frozen hz3 5
      have hf6 := blk_frozen hz3 6
      clear hI3 hB3 hK3 hy3 hz3
      go_wp2
      refine bodyPost_ret (results_cell_row rfl _ _ w.heap.size 27 #[.string m, .string t, .int .i64 s, .string r, .int .i64 mi, .slice A' L.length c', .string ⟨#[]⟩] (0, 0) _ rfl (seven_put HZ3.out) Tryz.underlying27 rfl (by kernel_rfl)) rfl ?_
      exact ⟨⟨m, t, s, r, mi, A', c', L⟩, ⟨#[]⟩, rfl, by decide, ⟨Kd.R_lower (Kd.R_mono (seven_far HV3.out (fun k hk => by omega)) (fun _ _ => trivial)) (by omega), hf, hl, hm, ht⟩, (six_below HB3.out (Nat.le_refl _)).setCell (p := ⟨w.heap.size, 6, none⟩) (Nat.le_refl _) _⟩
end Go.Proofs.YtalafpigfeiaiaaGreatDoor.Q
end
