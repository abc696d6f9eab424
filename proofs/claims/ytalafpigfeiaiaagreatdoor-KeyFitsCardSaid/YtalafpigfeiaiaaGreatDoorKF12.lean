/- What is proved here serves the theorem of YtalafpigfeiaiaaGreatDoorKF: contracts of functions and plain laws; part 12. -/
import Derived.Test.YtalafpigfeiaiaaGreatDoorKF11
import Derived.Test.YtalafpigfeiaiaaGreatDoorProg
section
namespace Go.Proofs.YtalafpigfeiaiaaGreatDoor.Q
open Go.RowKit Go.Proofs.YtalafpigfeiaiaaGreatDoor.H Go.Proofs.YtalafpigfeiaiaaGreatDoorW.PrintWords Go.Proofs.YtalafpigfeiaiaaGreatDoorW.PrintLast Go.Proofs.YtalafpigfeiaiaaGreatDoorW.PrintMore
set_option linter.unusedVariables false
set_option linter.unusedSimpArgs false
abbrev aX : FieldL := [⟨⟨#[104, 111, 115, 116]⟩, ⟨#[88]⟩⟩]
abbrev aN : FieldL := [⟨⟨#[67, 111, 111, 107, 105, 101]⟩, ⟨#[]⟩⟩]
abbrev aV1 : FieldL := [⟨⟨#[86, 97, 114, 121]⟩, ⟨#[98, 44, 32, 65]⟩⟩, ⟨⟨#[118, 97, 114, 121]⟩, ⟨#[97]⟩⟩]
abbrev aV2 : FieldL := [⟨⟨#[86, 97, 114, 121]⟩, ⟨#[97, 44, 32, 42]⟩⟩]
abbrev aH : FieldL := [⟨⟨#[86, 97, 114, 121]⟩, ⟨#[72, 111, 115, 116]⟩⟩]
theorem a_key : keyS ⟨#[71, 69, 84]⟩ ⟨#[47, 97, 47, 46, 46, 47, 98]⟩ aX = (⟨#[71, 69, 84, 32, 120, 32, 47, 98]⟩, 0) := by decide +kernel
theorem a_shX : sharedS ⟨#[71, 69, 84]⟩ ⟨#[]⟩ aX = true := by decide +kernel
theorem a_shN : sharedS ⟨#[71, 69, 84]⟩ ⟨#[]⟩ aN = false := by decide +kernel
theorem a_v1 : varyS aV1 = ([⟨#[97]⟩, ⟨#[98]⟩], true) := by decide +kernel
theorem a_v2 : (varyS aV2).2 = false := by decide +kernel
theorem a_sp : splitS [⟨#[72, 79, 83, 84]⟩] aX = ⟨#[104, 111, 115, 116, 58, 88, 10, 10]⟩ := by decide +kernel
theorem a_f1 : fitsS aX aX aH = true := by decide +kernel
theorem a_f2 : fitsS aX aN aH = false := by decide +kernel
abbrev enc2 (f : S36) : List Value := [.string f.f0, .string f.f1]
theorem flat2_get : ∀ (xs : FieldL) (j i : Nat) (f : S36) (u : Value), xs[j]? = some f → (enc2 f)[i]? = some u → (xs.flatMap enc2)[j * 2 + i]? = some u
  | [], j, i, f, u, hj, _ => by simp at hj
  | x :: xs, 0, i, f, u, hj, hi => by
    have e : x = f := by simpa using hj
    subst e
    have hlt : i < (enc2 x).length := (List.getElem?_eq_some_iff.1 hi).1
    rw [List.flatMap_cons, Nat.zero_mul, Nat.zero_add, List.getElem?_append_left hlt]
    exact hi
  | x :: xs, j + 1, i, f, u, hj, hi => by
    have hj' : xs[j]? = some f := by simpa using hj
    rw [List.flatMap_cons, List.getElem?_append_right (by show 2 ≤ _; omega)]
    have e : (j + 1) * 2 + i - (enc2 x).length = j * 2 + i := by simp; omega
    rw [e]
    exact flat2_get xs j i f u hj' hi
theorem lit36_C (W : World) (g : Nat) (cur : Array Value) (xs : FieldL) (hg : W.heap[g]? = some (.cells cur 36 (0, 0))) (hx : cur.toList = xs.flatMap enc2) (hl : xs.length ≤ 1000) : Kd.C k36 W (some ⟨g, 0, none⟩) xs.length xs := by
  refine ⟨rfl, by omega, fun _ => ⟨_, rfl, fun j f hj => ⟨enc2 f, rfl, k36_mk W f, fun i u hu => ?_⟩⟩⟩
  have e : (⟨g, 0, none⟩ : Addr).add (j * k36.sz + i) = ⟨g, j * 2 + i, none⟩ := by rw [show k36.sz = 2 from rfl]; unfold Addr.add; simp; intros; omega
  rw [e]
  simp only [World.cell?, hg]
  rw [← Array.getElem?_toList, hx]
  exact flat2_get xs j i f u hj hu
abbrev aMX (g : Nat) (l : FieldL) : Hd := ⟨⟨#[71, 69, 84]⟩, ⟨#[47, 97, 47, 46, 46, 47, 98]⟩, 0, ⟨#[]⟩, 0, some ⟨g, 0, none⟩, l.length, l⟩
abbrev aMH (g : Nat) (l : FieldL) : Hd := ⟨⟨#[]⟩, ⟨#[]⟩, 0, ⟨#[]⟩, 0, some ⟨g, 0, none⟩, l.length, l⟩
theorem aX_few : Few aX := ⟨by decide, by decide⟩
theorem aN_few : Few aN := ⟨by decide, by decide⟩
theorem aV1_few : Few aV1 := ⟨by decide, by decide⟩
theorem aV2_few : Few aV2 := ⟨by decide, by decide⟩
theorem aH_few : Few aH := ⟨by decide, by decide⟩
def Lies (W : World) (g : Nat) (l : FieldL) : Prop := Kd.C k36 W (some ⟨g, 0, none⟩) l.length l
theorem Lies.below {W W' : World} {g : Nat} {l : FieldL} (h : Lies W g l) (hb : Below W.heap.size W W') : Lies W' g l := Kd.C_below h hb
theorem Lies.lit {W : World} {g : Nat} {cur : Array Value} {xs : FieldL} (hg : W.heap[g]? = some (.cells cur 36 (0, 0))) (hx : cur.toList = xs.flatMap enc2) (hl : xs.length ≤ 1000) : Lies W g xs := lit36_C W g cur xs hg hx hl
theorem aw_key (g : Nat) (W : World) (h : Lies W g aX) :
    Calls Tryz.prog 29 #[.agg #[.string ⟨#[71, 69, 84]⟩, .string ⟨#[47, 97, 47, 46, 46, 47, 98]⟩, .int .i64 0, .string ⟨#[]⟩, .int .i64 0, .slice (some ⟨g, 0, none⟩) 1 1, .string ⟨#[]⟩]] W fun e w' => e = .returned (.tuple #[.string ⟨#[71, 69, 84, 32, 120, 32, 47, 98]⟩, .int .i64 0]) ∧ Below W.heap.size W w' :=
  (key_calls (aMX g aX) ⟨#[]⟩ W ⟨h, Nat.le_refl _, aX_few⟩ (by decide : (⟨#[71, 69, 84]⟩ : ByteArray).size ≤ 1000000000) (by decide : (⟨#[47, 97, 47, 46, 46, 47, 98]⟩ : ByteArray).size ≤ 1000000000)).mono fun e w' ⟨he, hb⟩ => ⟨he.trans (by rw [a_key]), hb⟩
theorem aw_shX (g : Nat) (W : World) (h : Lies W g aX) :
    Calls Tryz.prog 20 #[.agg #[.string ⟨#[71, 69, 84]⟩, .string ⟨#[47, 97, 47, 46, 46, 47, 98]⟩, .int .i64 0, .string ⟨#[]⟩, .int .i64 0, .slice (some ⟨g, 0, none⟩) 1 1, .string ⟨#[]⟩]] W fun e w' => e = .returned (.bool true) ∧ Below W.heap.size W w' :=
  (shared_calls (aMX g aX) ⟨#[]⟩ W ⟨h, Nat.le_refl _, aX_few⟩).mono fun e w' ⟨he, hb⟩ => ⟨he.trans (by rw [a_shX]), hb⟩
theorem aw_shN (g : Nat) (W : World) (h : Lies W g aN) :
    Calls Tryz.prog 20 #[.agg #[.string ⟨#[71, 69, 84]⟩, .string ⟨#[47, 97, 47, 46, 46, 47, 98]⟩, .int .i64 0, .string ⟨#[]⟩, .int .i64 0, .slice (some ⟨g, 0, none⟩) 1 1, .string ⟨#[]⟩]] W fun e w' => e = .returned (.bool false) ∧ Below W.heap.size W w' :=
  (shared_calls (aMX g aN) ⟨#[]⟩ W ⟨h, Nat.le_refl _, aN_few⟩).mono fun e w' ⟨he, hb⟩ => ⟨he.trans (by rw [a_shN]), hb⟩
theorem aw_sp (q g : Nat) (W : World) (hq : W.heap[q]? = some (.cells #[.string ⟨#[72, 79, 83, 84]⟩] 9 (0, 0))) (h : Lies W g aX) :
    Calls Tryz.prog 27 #[.slice (some ⟨q, 0, none⟩) 1 1, .slice (some ⟨g, 0, none⟩) 1 1] W fun e w' => e = .returned (.string ⟨#[104, 111, 115, 116, 58, 88, 10, 10]⟩) ∧ Below W.heap.size W w' :=
  (split_calls (some ⟨q, 0, none⟩) 1 [⟨#[72, 79, 83, 84]⟩] (some ⟨g, 0, none⟩) 1 aX W (lit_C W q 9 _ [⟨#[72, 79, 83, 84]⟩] hq rfl (by decide)) (by decide) h (by decide) aX_few ⟨by decide, by decide⟩).mono fun e w' ⟨he, hb⟩ => ⟨he.trans (by rw [a_sp]), hb⟩
theorem aw_f1 (g q : Nat) (W : World) (h : Lies W g aX) (hq : Lies W q aH) :
    Calls Tryz.prog 22 #[.agg #[.string ⟨#[71, 69, 84]⟩, .string ⟨#[47, 97, 47, 46, 46, 47, 98]⟩, .int .i64 0, .string ⟨#[]⟩, .int .i64 0, .slice (some ⟨g, 0, none⟩) 1 1, .string ⟨#[]⟩], .agg #[.string ⟨#[71, 69, 84]⟩, .string ⟨#[47, 97, 47, 46, 46, 47, 98]⟩, .int .i64 0, .string ⟨#[]⟩, .int .i64 0, .slice (some ⟨g, 0, none⟩) 1 1, .string ⟨#[]⟩], .agg #[.string ⟨#[]⟩, .string ⟨#[]⟩, .int .i64 0, .string ⟨#[]⟩, .int .i64 0, .slice (some ⟨q, 0, none⟩) 1 1]] W fun e w' => e = .returned (.bool true) ∧ Below W.heap.size W w' :=
  (fits_calls (aMX g aX) ⟨#[]⟩ (aMX g aX) ⟨#[]⟩ (aMH q aH) W ⟨h, Nat.le_refl _, aX_few⟩ ⟨h, Nat.le_refl _, aX_few⟩ ⟨hq, Nat.le_refl _, aH_few⟩).mono fun e w' ⟨he, hb⟩ => ⟨he.trans (by rw [a_f1]), hb⟩
theorem aw_f2 (g i q : Nat) (W : World) (h : Lies W g aX) (hi : Lies W i aN) (hq : Lies W q aH) :
    Calls Tryz.prog 22 #[.agg #[.string ⟨#[71, 69, 84]⟩, .string ⟨#[47, 97, 47, 46, 46, 47, 98]⟩, .int .i64 0, .string ⟨#[]⟩, .int .i64 0, .slice (some ⟨g, 0, none⟩) 1 1, .string ⟨#[]⟩], .agg #[.string ⟨#[71, 69, 84]⟩, .string ⟨#[47, 97, 47, 46, 46, 47, 98]⟩, .int .i64 0, .string ⟨#[]⟩, .int .i64 0, .slice (some ⟨i, 0, none⟩) 1 1, .string ⟨#[]⟩], .agg #[.string ⟨#[]⟩, .string ⟨#[]⟩, .int .i64 0, .string ⟨#[]⟩, .int .i64 0, .slice (some ⟨q, 0, none⟩) 1 1]] W fun e w' => e = .returned (.bool false) ∧ Below W.heap.size W w' :=
  (fits_calls (aMX g aX) ⟨#[]⟩ (aMX i aN) ⟨#[]⟩ (aMH q aH) W ⟨h, Nat.le_refl _, aX_few⟩ ⟨hi, Nat.le_refl _, aN_few⟩ ⟨hq, Nat.le_refl _, aH_few⟩).mono fun e w' ⟨he, hb⟩ => ⟨he.trans (by rw [a_f2]), hb⟩
theorem aw_str (AV : Option Addr) (cV q : Nat) (W : World) (h : Kd.C Kd.string W AV 2 [⟨#[97]⟩, ⟨#[98]⟩]) (hc : 2 ≤ cV) (hq : W.heap[q]? = some (.cells #[.string ⟨#[97]⟩, .string ⟨#[98]⟩] 9 (0, 0))) :
    Calls Tryz.prog 25 #[.slice AV 2 cV, .slice (some ⟨q, 0, none⟩) 2 2] W fun e w' => e = .returned (.bool true) ∧ Below W.heap.size W w' :=
  strings_same AV cV [⟨#[97]⟩, ⟨#[98]⟩] (some ⟨q, 0, none⟩) 2 W h hc (lit_C W q 9 _ [⟨#[97]⟩, ⟨#[98]⟩] hq rfl (by decide)) (by decide) (by decide)
theorem aw_v1 (g : Nat) (W : World) (h : Lies W g aV1) :
    Calls Tryz.prog 23 #[.slice (some ⟨g, 0, none⟩) 2 2] W fun e w' => ∃ A c, e = .returned (.tuple #[.slice A 2 c, .bool true]) ∧ 2 ≤ c ∧ Kd.C Kd.string w' A 2 [⟨#[97]⟩, ⟨#[98]⟩] ∧ Below W.heap.size W w' := by
  refine (vary_calls (some ⟨g, 0, none⟩) 2 aV1 W h (by decide) aV1_few).mono ?_
  rintro e w' ⟨v, he, hv, hb⟩
  rw [a_v1] at hv he
  obtain ⟨A, c, rfl, hlc, hr⟩ := Kd.R_reads hv
  exact ⟨A, c, he, hlc, hr, hb⟩
theorem aw_v2 (g : Nat) (W : World) (h : Lies W g aV2) :
    Calls Tryz.prog 23 #[.slice (some ⟨g, 0, none⟩) 1 1] W fun e w' => ∃ v, e = .returned (.tuple #[v, .bool false]) ∧ Below W.heap.size W w' := by
  refine (vary_calls (some ⟨g, 0, none⟩) 1 aV2 W h (by decide) aV2_few).mono ?_
  rintro e w' ⟨v, he, hv, hb⟩
  rw [a_v2] at he
  exact ⟨v, he, hb⟩
set_option maxHeartbeats 4000000 in
set_option maxRecDepth 100000 in
theorem awake_calls (w : World) : Calls Tryz.prog 19 #[] w fun e w' => e = .returned (.bool true) ∧ Below w.heap.size w w' := by
  go_enter Tryz.func19, Tryz.ntmps19
  go_wp2_with fail
  with_reducible refine (aw_key w.heap.size _ (Lies.lit (cur := #[.string ⟨#[104, 111, 115, 116]⟩, .string ⟨#[88]⟩]) (by (repeat' first | exact at_new (by first | rfl | (simp; done)) | (refine at_old (by first | (simp; done) | (simp; omega)) ?_))) rfl (by decide))).mono ?_
  rintro e w1 ⟨rfl, hb1⟩
  have HX1 := Aside0.mk ((hb1.block (w.heap.size + 1) (by simp)).trans (by (repeat' first | exact at_new (by first | rfl | (simp; done)) | (refine at_old (by first | (simp; done) | (simp; omega)) ?_))) : w1.heap[w.heap.size + 1]? = some (.cells #[.string ⟨#[71, 69, 84]⟩, .string ⟨#[47, 97, 47, 46, 46, 47, 98]⟩, .int .i64 0, .string ⟨#[]⟩, .int .i64 0, .slice (some ⟨w.heap.size, 0, none⟩) 1 1, .string ⟨#[]⟩] 27 (0, 0)))
  have HLX := Aside0.mk (Lies.below (Lies.lit (cur := #[.string ⟨#[104, 111, 115, 116]⟩, .string ⟨#[88]⟩]) (xs := aX) (by (repeat' first | exact at_new (by first | rfl | (simp; done)) | (refine at_old (by first | (simp; done) | (simp; omega)) ?_))) rfl (by decide)) hb1 : Lies w1 w.heap.size aX)
  have hs1 : w.heap.size + 2 ≤ w1.heap.size := Nat.le_trans (by simp) hb1.size
  have HB1 := Aside0.mk ((below_alloc (below_alloc (Below.refl w.heap.size w) _) _).trans (hb1.mono (by simp; omega)))
  have HS1 := Aside0.mk hs1
  clear hb1 hs1
  obtain ⟨x0, x1, x2, x3, x4, x5, x6⟩ := seven_cells HX1.out
  go_wp2_with fail
  clear x0 x1 x2 x3 x4 x5 x6
  with_reducible refine (aw_v1 (w1.heap.size + 1 + 1) _ (Lies.lit (cur := #[.string ⟨#[86, 97, 114, 121]⟩, .string ⟨#[98, 44, 32, 65]⟩, .string ⟨#[118, 97, 114, 121]⟩, .string ⟨#[97]⟩]) (by (repeat' first | exact at_new (by first | rfl | (simp; done)) | (refine at_old (by first | (simp; done) | (simp; omega)) ?_))) rfl (by decide))).mono ?_
  rintro e w2 ⟨AV, cV, rfl, hcV, hvV, hb2⟩
  have HVV := Aside0.mk hvV
  have HX2 := Aside0.mk ((hb2.block (w.heap.size + 1) (by have := HS1.out; simp; omega)).trans ((((below_alloc (below_alloc (below_alloc (Below.refl w1.heap.size w1) _) _) _)).block _ (by have := HS1.out; omega)).trans HX1.out))
  have HN2 := Aside0.mk ((hb2.block (w1.heap.size) (by simp; omega)).trans (by (repeat' first | exact at_new (by first | rfl | (simp; done)) | (refine at_old (by first | (simp; done) | (simp; omega)) ?_))) : w2.heap[w1.heap.size]? = some (.cells #[.string ⟨#[71, 69, 84]⟩, .string ⟨#[47, 97, 47, 46, 46, 47, 98]⟩, .int .i64 0, .string ⟨#[]⟩, .int .i64 0, .slice (some ⟨w1.heap.size + 1, 0, none⟩) 1 1, .string ⟨#[]⟩] 27 (0, 0)))
  have HLX2 := Aside0.mk (HLX.out.below ((below_alloc (below_alloc (below_alloc (Below.refl w1.heap.size w1) _) _) _).trans (hb2.mono (by simp; omega))))
  have HLN2 := Aside0.mk (Lies.below (Lies.lit (cur := #[.string ⟨#[67, 111, 111, 107, 105, 101]⟩, .string ⟨#[]⟩]) (xs := aN) (by (repeat' first | exact at_new (by first | rfl | (simp; done)) | (refine at_old (by first | (simp; done) | (simp; omega)) ?_))) rfl (by decide)) hb2 : Lies w2 (w1.heap.size + 1) aN)
  have hs2 : w1.heap.size + 3 ≤ w2.heap.size := Nat.le_trans (by simp) hb2.size
  have HB2 := Aside0.mk ((below_alloc (below_alloc (below_alloc HB1.out _) _) _).trans (hb2.mono (by have := HS1.out; simp; omega)))
  have HS2 := Aside0.mk hs2
  clear hb2 hs2 hvV
  go_wp2_with fail
  with_reducible refine (aw_v2 w2.heap.size _ (Lies.lit (cur := #[.string ⟨#[86, 97, 114, 121]⟩, .string ⟨#[97, 44, 32, 42]⟩]) (by (repeat' first | exact at_new (by first | rfl | (simp; done)) | (refine at_old (by first | (simp; done) | (simp; omega)) ?_))) rfl (by decide))).mono ?_
  rintro e w3 ⟨v3, rfl, hb3⟩
  have hb3' := (below_alloc (Below.refl w2.heap.size w2) (.cells #[.string ⟨#[86, 97, 114, 121]⟩, .string ⟨#[97, 44, 32, 42]⟩] 36)).trans (hb3.mono (by simp))
  have hs3 : w2.heap.size + 1 ≤ w3.heap.size := Nat.le_trans (by simp) hb3.size
  have HS3 := Aside0.mk hs3
  have HB3' := Aside0.mk hb3'
  clear hb3 hb3' hs3
  have HX := Aside0.mk (fun (o1 o2 : Obj) => seven_cells (W := (w3.alloc o1).alloc o2) (((below_alloc (below_alloc (Below.refl w3.heap.size w3) o1) o2).block _ (by have := HS1.out; have := HS2.out; have := HS3.out; omega)).trans ((HB3'.out.block _ (by have := HS1.out; have := HS2.out; omega)).trans HX2.out)))
  have x0 := fun (o1 o2 : Obj) => (HX.out o1 o2).1
  have x1 := fun (o1 o2 : Obj) => (HX.out o1 o2).2.1
  have x2 := fun (o1 o2 : Obj) => (HX.out o1 o2).2.2.1
  have x3 := fun (o1 o2 : Obj) => (HX.out o1 o2).2.2.2.1
  have x4 := fun (o1 o2 : Obj) => (HX.out o1 o2).2.2.2.2.1
  have x5 := fun (o1 o2 : Obj) => (HX.out o1 o2).2.2.2.2.2.1
  have x6 := fun (o1 o2 : Obj) => (HX.out o1 o2).2.2.2.2.2.2
  go_wp2_with fail
  clear x0 x1 x2 x3 x4 x5 x6
  generalize hw4 : (w3.alloc (.cells #[.string ⟨#[86, 97, 114, 121]⟩, .string ⟨#[72, 111, 115, 116]⟩] 36)).alloc (.cells #[.string ⟨#[]⟩, .string ⟨#[]⟩, .int .i64 0, .string ⟨#[]⟩, .int .i64 0, .slice (some ⟨w3.heap.size, 0, none⟩) 1 1] 25) = w4
  have hb4 : Below w3.heap.size w3 w4 := by rw [← hw4]; exact below_alloc (below_alloc (Below.refl _ _) _) _
  have hs4 : w3.heap.size + 2 ≤ w4.heap.size := by rw [← hw4]; simp
  have HX4 := Aside0.mk ((hb4.block (w.heap.size + 1) (by have := HS1.out; have := HS2.out; have := HS3.out; omega)).trans ((HB3'.out.block _ (by have := HS1.out; have := HS2.out; omega)).trans HX2.out))
  have HN4 := Aside0.mk ((hb4.block w1.heap.size (by have := HS2.out; have := HS3.out; omega)).trans ((HB3'.out.block _ (by have := HS2.out; omega)).trans HN2.out))
  have HH4 := Aside0.mk ((by rw [← hw4]; (repeat' first | exact at_new (by first | rfl | (simp; done)) | (refine at_old (by first | (simp; done) | (simp; omega)) ?_))) : w4.heap[w3.heap.size + 1]? = some (.cells #[.string ⟨#[]⟩, .string ⟨#[]⟩, .int .i64 0, .string ⟨#[]⟩, .int .i64 0, .slice (some ⟨w3.heap.size, 0, none⟩) 1 1] 25 (0, 0)))
  have HLX4 := Aside0.mk ((HLX2.out.below HB3'.out).below hb4)
  have HLN4 := Aside0.mk ((HLN2.out.below HB3'.out).below hb4)
  have HLH4 := Aside0.mk (Lies.lit (W := w4) (g := w3.heap.size) (cur := #[.string ⟨#[86, 97, 114, 121]⟩, .string ⟨#[72, 111, 115, 116]⟩]) (xs := aH) (by rw [← hw4]; (repeat' first | exact at_new (by first | rfl | (simp; done)) | (refine at_old (by first | (simp; done) | (simp; omega)) ?_))) rfl (by decide))
  have HVV4 := Aside0.mk (Kd.C_below (Kd.C_below HVV.out HB3'.out) hb4)
  have HB4 := Aside0.mk (HB2.out.trans ((HB3'.out.trans (hb4.mono HB3'.out.size)).mono HB2.out.size))
  have HS := Aside0.mk (fun (W : World) (h : Below w4.heap.size w4 W) => (⟨h, seven_cells ((h.block _ (by have := HS1.out; have := HS2.out; have := HS3.out; omega)).trans HX4.out), seven_cells ((h.block _ (by have := HS2.out; have := HS3.out; omega)).trans HN4.out), six_cells ((h.block _ (by omega)).trans HH4.out)⟩ : Below w4.heap.size w4 W ∧ Seven W (w.heap.size + 1) (.string ⟨#[71, 69, 84]⟩) (.string ⟨#[47, 97, 47, 46, 46, 47, 98]⟩) (.int .i64 0) (.string ⟨#[]⟩) (.int .i64 0) (.slice (some ⟨w.heap.size, 0, none⟩) 1 1) (.string ⟨#[]⟩) ∧ Seven W w1.heap.size (.string ⟨#[71, 69, 84]⟩) (.string ⟨#[47, 97, 47, 46, 46, 47, 98]⟩) (.int .i64 0) (.string ⟨#[]⟩) (.int .i64 0) (.slice (some ⟨w1.heap.size + 1, 0, none⟩) 1 1) (.string ⟨#[]⟩) ∧ Six W (w3.heap.size + 1) (.string ⟨#[]⟩) (.string ⟨#[]⟩) (.int .i64 0) (.string ⟨#[]⟩) (.int .i64 0) (.slice (some ⟨w3.heap.size, 0, none⟩) 1 1)))
  clear hb4 hs4 hw4
  have hB := Below.refl w4.heap.size w4
  with_reducible refine (aw_shX w.heap.size _ (HLX4.out.below hB)).mono ?_
  rintro e w5 ⟨rfl, hb5⟩
  replace hB := belTrans hb5 hB
  clear hb5
  obtain ⟨_, ⟨x0, x1, x2, x3, x4, x5, x6⟩, ⟨y0, y1, y2, y3, y4, y5, y6⟩, ⟨z0, z1, z2, z3, z4, z5⟩⟩ := HS.out _ hB
  have hB' := Aside0.mk hB
  clear hB
  go_wp2_with fail
  clear x0 x1 x2 x3 x4 x5 x6 y0 y1 y2 y3 y4 y5 y6 z0 z1 z2 z3 z4 z5
  have hB := hB'.out
  clear hB'
  with_reducible refine (aw_shN (w1.heap.size + 1) _ (HLN4.out.below hB)).mono ?_
  rintro e w5 ⟨rfl, hb5⟩
  replace hB := belTrans hb5 hB
  clear hb5
  obtain ⟨_, ⟨x0, x1, x2, x3, x4, x5, x6⟩, ⟨y0, y1, y2, y3, y4, y5, y6⟩, ⟨z0, z1, z2, z3, z4, z5⟩⟩ := HS.out _ hB
  have hB' := Aside0.mk hB
  clear hB
  go_wp2_with fail
  clear x0 x1 x2 x3 x4 x5 x6 y0 y1 y2 y3 y4 y5 y6 z0 z1 z2 z3 z4 z5
  have hB := hB'.out
  clear hB'
  with_reducible refine (aw_str AV cV w5.heap.size _ (Kd.C_below HVV4.out (below_alloc hB _)) hcV (heap_alloc_new w5 _)).mono ?_
  rintro e w5 ⟨rfl, hb5⟩
  replace hB := belTrans hb5 (below_alloc hB _)
  clear hb5
  have HX := Aside0.mk (fun (o : Obj) => HS.out _ (below_alloc hB o))
  have x5 := fun (o : Obj) => (HX.out o).2.1.2.2.2.2.2.1
  have hB' := Aside0.mk hB
  clear hB
  go_wp2_with fail
  clear x5
  have hB := hB'.out
  clear hB'
  with_reducible refine (aw_sp w5.heap.size w.heap.size _ (heap_alloc_new w5 _) (HLX4.out.below (below_alloc hB _))).mono ?_
  rintro e w5 ⟨rfl, hb5⟩
  replace hB := belTrans hb5 (below_alloc hB _)
  clear hb5
  obtain ⟨_, ⟨x0, x1, x2, x3, x4, x5, x6⟩, ⟨y0, y1, y2, y3, y4, y5, y6⟩, ⟨z0, z1, z2, z3, z4, z5⟩⟩ := HS.out _ hB
  have hB' := Aside0.mk hB
  clear hB
  go_wp2_with fail
  clear x0 x1 x2 x3 x4 x5 x6 y0 y1 y2 y3 y4 y5 y6 z0 z1 z2 z3 z4 z5
  have hB := hB'.out
  clear hB'
  with_reducible refine (aw_f1 w.heap.size w3.heap.size _ (HLX4.out.below hB) (HLH4.out.below hB)).mono ?_
  rintro e w5 ⟨rfl, hb5⟩
  replace hB := belTrans hb5 hB
  clear hb5
  obtain ⟨_, ⟨x0, x1, x2, x3, x4, x5, x6⟩, ⟨y0, y1, y2, y3, y4, y5, y6⟩, ⟨z0, z1, z2, z3, z4, z5⟩⟩ := HS.out _ hB
  have hB' := Aside0.mk hB
  clear hB
  go_wp2_with fail
  clear x0 x1 x2 x3 x4 x5 x6 y0 y1 y2 y3 y4 y5 y6 z0 z1 z2 z3 z4 z5
  have hB := hB'.out
  clear hB'
  with_reducible refine (aw_f2 w.heap.size (w1.heap.size + 1) w3.heap.size _ (HLX4.out.below hB) (HLN4.out.below hB) (HLH4.out.below hB)).mono ?_
  rintro e w5 ⟨rfl, hb5⟩
  replace hB := belTrans hb5 hB
  clear hb5
  obtain ⟨_, ⟨x0, x1, x2, x3, x4, x5, x6⟩, ⟨y0, y1, y2, y3, y4, y5, y6⟩, ⟨z0, z1, z2, z3, z4, z5⟩⟩ := HS.out _ hB
  have hB' := Aside0.mk hB
  clear hB
  go_wp2_with fail
  clear x0 x1 x2 x3 x4 x5 x6 y0 y1 y2 y3 y4 y5 y6 z0 z1 z2 z3 z4 z5
  have hB := hB'.out
  clear hB'
  go_ret
  exact ⟨rfl, HB4.out.trans (hB.mono HB4.out.size)⟩
end Go.Proofs.YtalafpigfeiaiaaGreatDoor.Q
end
section
namespace Go.Proofs.YtalafpigfeiaiaaGreatDoor.Q
open Go.RowKit Go.Proofs.YtalafpigfeiaiaaGreatDoor.H Go.Proofs.YtalafpigfeiaiaaGreatDoorW.PrintWords
set_option linter.unusedVariables false
set_option linter.unusedSimpArgs false
theorem fits_symm (a b h : FieldL) : fitsS b a h = fitsS a b h := by
  unfold fitsS
  congr 1
  exact Bool.eq_iff_iff.2 (by rw [beq_iff_eq, beq_iff_eq]; exact eq_comm)
theorem fits_split {a b h : FieldL} : fitsS a b h = true ↔ (varyS h).2 = true ∧ ((itemsF h ccontrol).any (Lib.containsS [sPrivate, sNoStore])) = false ∧ hasF h sSetCookie = false ∧ ul (splitS (varyS h).1 a) = ul (splitS (varyS h).1 b) := by
  unfold fitsS
  simp only [Bool.and_eq_true, Bool.not_eq_true', beq_iff_eq, and_assoc]
theorem fits_trans {a b c h : FieldL} (h1 : fitsS a b h = true) (h2 : fitsS b c h = true) : fitsS a c h = true := by
  rw [fits_split] at *
  exact ⟨h1.1, h1.2.1, h1.2.2.1, h1.2.2.2.trans h2.2.2.2⟩
theorem fits_self {a b h : FieldL} (h1 : fitsS a b h = true) : fitsS a a h = true := by
  rw [fits_split] at *
  exact ⟨h1.1, h1.2.1, h1.2.2.1, rfl⟩
set_option maxHeartbeats 4000000 in
set_option maxRecDepth 100000 in
theorem keyFits_walk {w : World} (A0 : Option Addr) (c0 : Nat) (l0 : List Int) (hr0 : Kd.C (Kd.int .u8) w A0 l0.length l0) (hc0 : l0.length ≤ c0) (hb0 : Bytes l0) (A1 : Option Addr) (c1 : Nat) (l1 : List Int) (hr1 : Kd.C (Kd.int .u8) w A1 l1.length l1) (hc1 : l1.length ≤ c1) (hb1 : Bytes l1) (A2 : Option Addr) (c2 : Nat) (l2 : List Int) (hr2 : Kd.C (Kd.int .u8) w A2 l2.length l2) (hc2 : l2.length ≤ c2) (hb2 : Bytes l2) (A3 : Option Addr) (c3 : Nat) (l3 : List Int) (hr3 : Kd.C (Kd.int .u8) w A3 l3.length l3) (hc3 : l3.length ≤ c3) (hb3 : Bytes l3) : Calls Tryz.prog 5 #[.slice A0 l0.length c0, .slice A1 l1.length c1, .slice A2 l2.length c2, .slice A3 l3.length c3] w fun e w' => e = .returned (.bool true) ∧ Below w.heap.size w w' := by
  have HC0 := Aside0.mk (fun (W : World) (h : Below w.heap.size w W) => request_calls A0 c0 l0 W (Kd.C_below hr0 h) hb0)
  have HC1 := Aside0.mk (fun (W : World) (h : Below w.heap.size w W) => request_calls A1 c1 l1 W (Kd.C_below hr1 h) hb1)
  have HC2 := Aside0.mk (fun (W : World) (h : Below w.heap.size w W) => request_calls A2 c2 l2 W (Kd.C_below hr2 h) hb2)
  have HC3 := Aside0.mk (fun (W : World) (h : Below w.heap.size w W) => made_calls A3 c3 l3 true W (Kd.C_below hr3 h) hb3)
  clear hr0 hr1 hr2 hr3 hb0 hb1 hb2 hb3
  go_enter Tryz.func5, Tryz.ntmps5
  go_wp2_with fail
  with_reducible refine (awake_calls _).mono ?_
  rintro e w0 ⟨rfl, hB⟩
  have HB0 := Aside0.mk hB
  clear hB
  go_wp2_with fail
  with_reducible refine (HC0.out _ HB0.out).mono ?_
  rintro e w1 ⟨⟨m0, t0, s0, r0, mi0, A0', c0', L0⟩, bx0, rfl, _, ho, hb⟩
  simp only [Hd.mv]
  have HB1 := Aside0.mk (HB0.out.trans (hb.mono HB0.out.size))
  have HI0 := Aside0.mk ho.in_
  clear ho hb
  go_wp2_with fail
  with_reducible refine (HC1.out _ HB1.out).mono ?_
  rintro e w2 ⟨⟨m1, t1, s1, r1, mi1, A1', c1', L1⟩, bx1, rfl, _, ho, hb⟩
  simp only [Hd.mv]
  have HB2 := Aside0.mk (HB1.out.trans (hb.mono HB1.out.size))
  have HI1 := Aside0.mk ho.in_
  replace HI0 := Aside0.mk (HI0.out.below hb)
  clear ho hb
  go_wp2_with fail
  with_reducible refine (HC2.out _ HB2.out).mono ?_
  rintro e w3 ⟨⟨m2, t2, s2, r2, mi2, A2', c2', L2⟩, bx2, rfl, _, ho, hb⟩
  simp only [Hd.mv]
  have HB3 := Aside0.mk (HB2.out.trans (hb.mono HB2.out.size))
  have HI2 := Aside0.mk ho.in_
  replace HI0 := Aside0.mk (HI0.out.below hb)
  replace HI1 := Aside0.mk (HI1.out.below hb)
  clear ho hb
  go_wp2_with fail
  with_reducible refine (HC3.out _ HB3.out).mono ?_
  rintro e w4 ⟨⟨m3, t3, s3, r3, mi3, A3', c3', L3⟩, rfl, ho, hb⟩
  simp only [Hd.v]
  have HB4 := Aside0.mk (HB3.out.trans (hb.mono HB3.out.size))
  have HI3 := Aside0.mk ho.in_
  replace HI0 := Aside0.mk (HI0.out.below hb)
  replace HI1 := Aside0.mk (HI1.out.below hb)
  replace HI2 := Aside0.mk (HI2.out.below hb)
  clear ho hb
  go_wp2_with fail
  generalize hw5 : (((w4.alloc (.cells #[.string m0, .string t0, .int .i64 s0, .string r0, .int .i64 mi0, .slice A0' L0.length c0', .string bx0] 27)).alloc (.cells #[.string m1, .string t1, .int .i64 s1, .string r1, .int .i64 mi1, .slice A1' L1.length c1', .string bx1] 27)).alloc (.cells #[.string m2, .string t2, .int .i64 s2, .string r2, .int .i64 mi2, .slice A2' L2.length c2', .string bx2] 27)).alloc (.cells #[.string m3, .string t3, .int .i64 s3, .string r3, .int .i64 mi3, .slice A3' L3.length c3'] 25) = w5
  have hb5 : Below w4.heap.size w4 w5 := by rw [← hw5]; exact below_alloc (below_alloc (below_alloc (below_alloc (Below.refl _ _) _) _) _) _
  have hs5 : w4.heap.size + 4 ≤ w5.heap.size := by rw [← hw5]; simp
  have HZ0 := Aside0.mk ((by rw [← hw5]; (repeat' first | exact at_new (by first | rfl | (simp; done)) | (refine at_old (by first | (simp; done) | (simp; omega)) ?_))) : w5.heap[w4.heap.size]? = some (.cells #[.string m0, .string t0, .int .i64 s0, .string r0, .int .i64 mi0, .slice A0' L0.length c0', .string bx0] 27 (0, 0)))
  have HZ1 := Aside0.mk ((by rw [← hw5]; (repeat' first | exact at_new (by first | rfl | (simp; done)) | (refine at_old (by first | (simp; done) | (simp; omega)) ?_))) : w5.heap[w4.heap.size + 1]? = some (.cells #[.string m1, .string t1, .int .i64 s1, .string r1, .int .i64 mi1, .slice A1' L1.length c1', .string bx1] 27 (0, 0)))
  have HZ2 := Aside0.mk ((by rw [← hw5]; (repeat' first | exact at_new (by first | rfl | (simp; done)) | (refine at_old (by first | (simp; done) | (simp; omega)) ?_))) : w5.heap[w4.heap.size + 1 + 1]? = some (.cells #[.string m2, .string t2, .int .i64 s2, .string r2, .int .i64 mi2, .slice A2' L2.length c2', .string bx2] 27 (0, 0)))
  have HZ3 := Aside0.mk ((by rw [← hw5]; (repeat' first | exact at_new (by first | rfl | (simp; done)) | (refine at_old (by first | (simp; done) | (simp; omega)) ?_))) : w5.heap[w4.heap.size + 1 + 1 + 1]? = some (.cells #[.string m3, .string t3, .int .i64 s3, .string r3, .int .i64 mi3, .slice A3' L3.length c3'] 25 (0, 0)))
  replace HI0 := Aside0.mk (HI0.out.below hb5)
  replace HI1 := Aside0.mk (HI1.out.below hb5)
  replace HI2 := Aside0.mk (HI2.out.below hb5)
  replace HI3 := Aside0.mk (HI3.out.below hb5)
  have HB5 := Aside0.mk (HB4.out.trans (hb5.mono HB4.out.size))
  have HS := Aside0.mk (fun (W : World) (h : Below w5.heap.size w5 W) => (⟨seven_cells ((h.block _ (by omega)).trans HZ0.out), seven_cells ((h.block _ (by omega)).trans HZ1.out), seven_cells ((h.block _ (by omega)).trans HZ2.out), six_cells ((h.block _ (by omega)).trans HZ3.out)⟩ : Seven W w4.heap.size (.string m0) (.string t0) (.int .i64 s0) (.string r0) (.int .i64 mi0) (.slice A0' L0.length c0') (.string bx0) ∧ Seven W (w4.heap.size + 1) (.string m1) (.string t1) (.int .i64 s1) (.string r1) (.int .i64 mi1) (.slice A1' L1.length c1') (.string bx1) ∧ Seven W (w4.heap.size + 1 + 1) (.string m2) (.string t2) (.int .i64 s2) (.string r2) (.int .i64 mi2) (.slice A2' L2.length c2') (.string bx2) ∧ Six W (w4.heap.size + 1 + 1 + 1) (.string m3) (.string t3) (.int .i64 s3) (.string r3) (.int .i64 mi3) (.slice A3' L3.length c3')))
  clear hb5 hs5 hw5 HZ0 HZ1 HZ2 HZ3
  have HF01 := Aside0.mk (fun (W : World) (hB : Below w5.heap.size w5 W) => (fits_calls ⟨m0, t0, s0, r0, mi0, A0', c0', L0⟩ bx0 ⟨m1, t1, s1, r1, mi1, A1', c1', L1⟩ bx1 ⟨m3, t3, s3, r3, mi3, A3', c3', L3⟩ W (HI0.out.below hB) (HI1.out.below hB) (HI3.out.below hB) : Calls Tryz.prog 22 #[.agg #[.string m0, .string t0, .int .i64 s0, .string r0, .int .i64 mi0, .slice A0' L0.length c0', .string bx0], .agg #[.string m1, .string t1, .int .i64 s1, .string r1, .int .i64 mi1, .slice A1' L1.length c1', .string bx1], .agg #[.string m3, .string t3, .int .i64 s3, .string r3, .int .i64 mi3, .slice A3' L3.length c3']] W fun e w' => e = .returned (.bool (fitsS L0 L1 L3)) ∧ Below W.heap.size W w'))
  have HF10 := Aside0.mk (fun (W : World) (hB : Below w5.heap.size w5 W) => (fits_calls ⟨m1, t1, s1, r1, mi1, A1', c1', L1⟩ bx1 ⟨m0, t0, s0, r0, mi0, A0', c0', L0⟩ bx0 ⟨m3, t3, s3, r3, mi3, A3', c3', L3⟩ W (HI1.out.below hB) (HI0.out.below hB) (HI3.out.below hB) : Calls Tryz.prog 22 #[.agg #[.string m1, .string t1, .int .i64 s1, .string r1, .int .i64 mi1, .slice A1' L1.length c1', .string bx1], .agg #[.string m0, .string t0, .int .i64 s0, .string r0, .int .i64 mi0, .slice A0' L0.length c0', .string bx0], .agg #[.string m3, .string t3, .int .i64 s3, .string r3, .int .i64 mi3, .slice A3' L3.length c3']] W fun e w' => e = .returned (.bool (fitsS L1 L0 L3)) ∧ Below W.heap.size W w'))
  have HF12 := Aside0.mk (fun (W : World) (hB : Below w5.heap.size w5 W) => (fits_calls ⟨m1, t1, s1, r1, mi1, A1', c1', L1⟩ bx1 ⟨m2, t2, s2, r2, mi2, A2', c2', L2⟩ bx2 ⟨m3, t3, s3, r3, mi3, A3', c3', L3⟩ W (HI1.out.below hB) (HI2.out.below hB) (HI3.out.below hB) : Calls Tryz.prog 22 #[.agg #[.string m1, .string t1, .int .i64 s1, .string r1, .int .i64 mi1, .slice A1' L1.length c1', .string bx1], .agg #[.string m2, .string t2, .int .i64 s2, .string r2, .int .i64 mi2, .slice A2' L2.length c2', .string bx2], .agg #[.string m3, .string t3, .int .i64 s3, .string r3, .int .i64 mi3, .slice A3' L3.length c3']] W fun e w' => e = .returned (.bool (fitsS L1 L2 L3)) ∧ Below W.heap.size W w'))
  have HF02 := Aside0.mk (fun (W : World) (hB : Below w5.heap.size w5 W) => (fits_calls ⟨m0, t0, s0, r0, mi0, A0', c0', L0⟩ bx0 ⟨m2, t2, s2, r2, mi2, A2', c2', L2⟩ bx2 ⟨m3, t3, s3, r3, mi3, A3', c3', L3⟩ W (HI0.out.below hB) (HI2.out.below hB) (HI3.out.below hB) : Calls Tryz.prog 22 #[.agg #[.string m0, .string t0, .int .i64 s0, .string r0, .int .i64 mi0, .slice A0' L0.length c0', .string bx0], .agg #[.string m2, .string t2, .int .i64 s2, .string r2, .int .i64 mi2, .slice A2' L2.length c2', .string bx2], .agg #[.string m3, .string t3, .int .i64 s3, .string r3, .int .i64 mi3, .slice A3' L3.length c3']] W fun e w' => e = .returned (.bool (fitsS L0 L2 L3)) ∧ Below W.heap.size W w'))
  have HF00 := Aside0.mk (fun (W : World) (hB : Below w5.heap.size w5 W) => (fits_calls ⟨m0, t0, s0, r0, mi0, A0', c0', L0⟩ bx0 ⟨m0, t0, s0, r0, mi0, A0', c0', L0⟩ bx0 ⟨m3, t3, s3, r3, mi3, A3', c3', L3⟩ W (HI0.out.below hB) (HI0.out.below hB) (HI3.out.below hB) : Calls Tryz.prog 22 #[.agg #[.string m0, .string t0, .int .i64 s0, .string r0, .int .i64 mi0, .slice A0' L0.length c0', .string bx0], .agg #[.string m0, .string t0, .int .i64 s0, .string r0, .int .i64 mi0, .slice A0' L0.length c0', .string bx0], .agg #[.string m3, .string t3, .int .i64 s3, .string r3, .int .i64 mi3, .slice A3' L3.length c3']] W fun e w' => e = .returned (.bool (fitsS L0 L0 L3)) ∧ Below W.heap.size W w'))
  simp only [Hd.mv, Hd.v] at HF01 HF10 HF12 HF02 HF00
  have HB := Below.refl w5.heap.size w5
  cases hx : fitsS L0 L1 L3 with
  | false =>
    have HX := Aside0.mk hx
    have HY := Aside0.mk ((fits_symm L0 L1 L3).trans hx)
    clear hx
    with_reducible refine (HF01.out _ HB).mono ?_
    rintro e w6 ⟨rfl, hb⟩
    rw [HX.out]
    replace HB := belTrans hb HB
    have hB' := Aside0.mk HB
    clear hb HB
    obtain ⟨⟨x0, x1, x2, x3, x4, x5, x6⟩, ⟨y0, y1, y2, y3, y4, y5, y6⟩, ⟨v0, v1, v2, v3, v4, v5, v6⟩, ⟨z0, z1, z2, z3, z4, z5⟩⟩ := HS.out _ hB'.out
    go_wp2_with fail
    clear x0 x1 x2 x3 x4 x5 x6 y0 y1 y2 y3 y4 y5 y6 v0 v1 v2 v3 v4 v5 v6 z0 z1 z2 z3 z4 z5
    have HB := hB'.out
    clear hB'
    with_reducible refine (HF10.out _ HB).mono ?_
    rintro e w6 ⟨rfl, hb⟩
    rw [HY.out]
    replace HB := belTrans hb HB
    have hB' := Aside0.mk HB
    clear hb HB
    obtain ⟨⟨x0, x1, x2, x3, x4, x5, x6⟩, ⟨y0, y1, y2, y3, y4, y5, y6⟩, ⟨v0, v1, v2, v3, v4, v5, v6⟩, ⟨z0, z1, z2, z3, z4, z5⟩⟩ := HS.out _ hB'.out
    go_wp2_with fail
    clear x0 x1 x2 x3 x4 x5 x6 y0 y1 y2 y3 y4 y5 y6 v0 v1 v2 v3 v4 v5 v6 z0 z1 z2 z3 z4 z5
    have HB := hB'.out
    clear hB'
    go_ret
    exact ⟨rfl, HB5.out.trans (HB.mono HB5.out.size)⟩
  | true =>
    have HX := Aside0.mk hx
    have HY := Aside0.mk ((fits_symm L0 L1 L3).trans hx)
    have HW := Aside0.mk (fits_self hx)
    cases hy : fitsS L1 L2 L3 with
    | false =>
      have HV := Aside0.mk hy
      clear hx hy
      with_reducible refine (HF01.out _ HB).mono ?_
      rintro e w6 ⟨rfl, hb⟩
      rw [HX.out]
      replace HB := belTrans hb HB
      have hB' := Aside0.mk HB
      clear hb HB
      obtain ⟨⟨x0, x1, x2, x3, x4, x5, x6⟩, ⟨y0, y1, y2, y3, y4, y5, y6⟩, ⟨v0, v1, v2, v3, v4, v5, v6⟩, ⟨z0, z1, z2, z3, z4, z5⟩⟩ := HS.out _ hB'.out
      go_wp2_with fail
      clear x0 x1 x2 x3 x4 x5 x6 y0 y1 y2 y3 y4 y5 y6 v0 v1 v2 v3 v4 v5 v6 z0 z1 z2 z3 z4 z5
      have HB := hB'.out
      clear hB'
      with_reducible refine (HF10.out _ HB).mono ?_
      rintro e w6 ⟨rfl, hb⟩
      rw [HY.out]
      replace HB := belTrans hb HB
      have hB' := Aside0.mk HB
      clear hb HB
      obtain ⟨⟨x0, x1, x2, x3, x4, x5, x6⟩, ⟨y0, y1, y2, y3, y4, y5, y6⟩, ⟨v0, v1, v2, v3, v4, v5, v6⟩, ⟨z0, z1, z2, z3, z4, z5⟩⟩ := HS.out _ hB'.out
      go_wp2_with fail
      clear x0 x1 x2 x3 x4 x5 x6 y0 y1 y2 y3 y4 y5 y6 v0 v1 v2 v3 v4 v5 v6 z0 z1 z2 z3 z4 z5
      have HB := hB'.out
      clear hB'
      with_reducible refine (HF12.out _ HB).mono ?_
      rintro e w6 ⟨rfl, hb⟩
      rw [HV.out]
      replace HB := belTrans hb HB
      have hB' := Aside0.mk HB
      clear hb HB
      obtain ⟨⟨x0, x1, x2, x3, x4, x5, x6⟩, ⟨y0, y1, y2, y3, y4, y5, y6⟩, ⟨v0, v1, v2, v3, v4, v5, v6⟩, ⟨z0, z1, z2, z3, z4, z5⟩⟩ := HS.out _ hB'.out
      go_wp2_with fail
      clear x0 x1 x2 x3 x4 x5 x6 y0 y1 y2 y3 y4 y5 y6 v0 v1 v2 v3 v4 v5 v6 z0 z1 z2 z3 z4 z5
      have HB := hB'.out
      clear hB'
      with_reducible refine (HF00.out _ HB).mono ?_
      rintro e w6 ⟨rfl, hb⟩
      rw [HW.out]
      replace HB := belTrans hb HB
      have hB' := Aside0.mk HB
      clear hb HB
      obtain ⟨⟨x0, x1, x2, x3, x4, x5, x6⟩, ⟨y0, y1, y2, y3, y4, y5, y6⟩, ⟨v0, v1, v2, v3, v4, v5, v6⟩, ⟨z0, z1, z2, z3, z4, z5⟩⟩ := HS.out _ hB'.out
      go_wp2_with fail
      clear x0 x1 x2 x3 x4 x5 x6 y0 y1 y2 y3 y4 y5 y6 v0 v1 v2 v3 v4 v5 v6 z0 z1 z2 z3 z4 z5
      have HB := hB'.out
      clear hB'
      go_ret
      exact ⟨rfl, HB5.out.trans (HB.mono HB5.out.size)⟩
    | true =>
      have HV := Aside0.mk hy
      have HU := Aside0.mk (fits_trans hx hy)
      clear hx hy
      with_reducible refine (HF01.out _ HB).mono ?_
      rintro e w6 ⟨rfl, hb⟩
      rw [HX.out]
      replace HB := belTrans hb HB
      have hB' := Aside0.mk HB
      clear hb HB
      obtain ⟨⟨x0, x1, x2, x3, x4, x5, x6⟩, ⟨y0, y1, y2, y3, y4, y5, y6⟩, ⟨v0, v1, v2, v3, v4, v5, v6⟩, ⟨z0, z1, z2, z3, z4, z5⟩⟩ := HS.out _ hB'.out
      go_wp2_with fail
      clear x0 x1 x2 x3 x4 x5 x6 y0 y1 y2 y3 y4 y5 y6 v0 v1 v2 v3 v4 v5 v6 z0 z1 z2 z3 z4 z5
      have HB := hB'.out
      clear hB'
      with_reducible refine (HF10.out _ HB).mono ?_
      rintro e w6 ⟨rfl, hb⟩
      rw [HY.out]
      replace HB := belTrans hb HB
      have hB' := Aside0.mk HB
      clear hb HB
      obtain ⟨⟨x0, x1, x2, x3, x4, x5, x6⟩, ⟨y0, y1, y2, y3, y4, y5, y6⟩, ⟨v0, v1, v2, v3, v4, v5, v6⟩, ⟨z0, z1, z2, z3, z4, z5⟩⟩ := HS.out _ hB'.out
      go_wp2_with fail
      clear x0 x1 x2 x3 x4 x5 x6 y0 y1 y2 y3 y4 y5 y6 v0 v1 v2 v3 v4 v5 v6 z0 z1 z2 z3 z4 z5
      have HB := hB'.out
      clear hB'
      with_reducible refine (HF12.out _ HB).mono ?_
      rintro e w6 ⟨rfl, hb⟩
      rw [HV.out]
      replace HB := belTrans hb HB
      have hB' := Aside0.mk HB
      clear hb HB
      obtain ⟨⟨x0, x1, x2, x3, x4, x5, x6⟩, ⟨y0, y1, y2, y3, y4, y5, y6⟩, ⟨v0, v1, v2, v3, v4, v5, v6⟩, ⟨z0, z1, z2, z3, z4, z5⟩⟩ := HS.out _ hB'.out
      go_wp2_with fail
      clear x0 x1 x2 x3 x4 x5 x6 y0 y1 y2 y3 y4 y5 y6 v0 v1 v2 v3 v4 v5 v6 z0 z1 z2 z3 z4 z5
      have HB := hB'.out
      clear hB'
      with_reducible refine (HF02.out _ HB).mono ?_
      rintro e w6 ⟨rfl, hb⟩
      rw [HU.out]
      replace HB := belTrans hb HB
      have hB' := Aside0.mk HB
      clear hb HB
      obtain ⟨⟨x0, x1, x2, x3, x4, x5, x6⟩, ⟨y0, y1, y2, y3, y4, y5, y6⟩, ⟨v0, v1, v2, v3, v4, v5, v6⟩, ⟨z0, z1, z2, z3, z4, z5⟩⟩ := HS.out _ hB'.out
      go_wp2_with fail
      clear x0 x1 x2 x3 x4 x5 x6 y0 y1 y2 y3 y4 y5 y6 v0 v1 v2 v3 v4 v5 v6 z0 z1 z2 z3 z4 z5
      have HB := hB'.out
      clear hB'
      with_reducible refine (HF00.out _ HB).mono ?_
      rintro e w6 ⟨rfl, hb⟩
      rw [HW.out]
      replace HB := belTrans hb HB
      have hB' := Aside0.mk HB
      clear hb HB
      obtain ⟨⟨x0, x1, x2, x3, x4, x5, x6⟩, ⟨y0, y1, y2, y3, y4, y5, y6⟩, ⟨v0, v1, v2, v3, v4, v5, v6⟩, ⟨z0, z1, z2, z3, z4, z5⟩⟩ := HS.out _ hB'.out
      go_wp2_with fail
      clear x0 x1 x2 x3 x4 x5 x6 y0 y1 y2 y3 y4 y5 y6 v0 v1 v2 v3 v4 v5 v6 z0 z1 z2 z3 z4 z5
      have HB := hB'.out
      clear hB'
      go_ret
      exact ⟨rfl, HB5.out.trans (HB.mono HB5.out.size)⟩
end Go.Proofs.YtalafpigfeiaiaaGreatDoor.Q
end
