/- Contracts of functions and plain laws. -/
import Derived.Test.YtalafpigfeiaiaaGreatDoorKV5
import Derived.Test.YtalafpigfeiaiaaGreatDoorProg
section
namespace Go.Proofs.YtalafpigfeiaiaaGreatDoor.Q
open Go.RowKit Go.Proofs.YtalafpigfeiaiaaGreatDoor.H Go.Proofs.YtalafpigfeiaiaaGreatDoorW.PrintWords Go.Proofs.YtalafpigfeiaiaaGreatDoorW.PrintLast Go.Proofs.YtalafpigfeiaiaaGreatDoorW.PrintMore
set_option linter.unusedVariables false
set_option linter.unusedSimpArgs false
abbrev aX : FieldL := [⟨⟨#[104, 111, 115, 116]⟩, ⟨#[88]⟩⟩]
abbrev aN : FieldL := [⟨⟨#[67, 111, 111, 107, 105, 101]⟩, ⟨#[]⟩⟩]
abbrev aV1 : FieldL := [⟨⟨#[86, 97, 114, 121]⟩, ⟨#[98, 44, 32, 65]⟩⟩, ⟨⟨#[118, 97, 114, 121]⟩, ⟨#[97]⟩⟩]
abbrev aV2 : FieldL := [⟨⟨#[86, 97, 114, 121]⟩, ⟨#[97, 44, 32, 42]⟩⟩]
abbrev aH : FieldL := [⟨⟨#[86, 97, 114, 121]⟩, ⟨#[72, 111, 115, 116]⟩⟩]
theorem a_key : keyS ⟨#[71, 69, 84]⟩ ⟨#[47, 97, 47, 46, 46, 47, 98]⟩ aX = (⟨#[71, 69, 84, 32, 120, 32, 47, 98]⟩, 0) := by decide +kernel
theorem a_shX : sharedS ⟨#[71, 69, 84]⟩ ⟨#[]⟩ aX = true := by decide +kernel
theorem a_shN : sharedS ⟨#[71, 69, 84]⟩ ⟨#[]⟩ aN = false := by decide +kernel
theorem a_v1 : varyS aV1 = ([⟨#[97]⟩, ⟨#[98]⟩], true) := by decide +kernel
theorem a_v2 : (varyS aV2).2 = false := by decide +kernel
theorem a_sp : splitS [⟨#[72, 79, 83, 84]⟩] aX = ⟨#[104, 111, 115, 116, 58, 88, 10, 10]⟩ := by decide +kernel
theorem a_f1 : fitsS aX aX aH = true := by decide +kernel
theorem a_f2 : fitsS aX aN aH = false := by decide +kernel
abbrev enc2 (f : S36) : List Value := [.string f.f0, .string f.f1]
theorem flat2_get : ∀ (xs : FieldL) (j i : Nat) (f : S36) (u : Value), xs[j]? = some f → (enc2 f)[i]? = some u → (xs.flatMap enc2)[j * 2 + i]? = some u
  | [], j, i, f, u, hj, _ => by simp at hj
  | x :: xs, 0, i, f, u, hj, hi => by
    have e : x = f := by simpa using hj
    subst e
    have hlt : i < (enc2 x).length := (List.getElem?_eq_some_iff.1 hi).1
    rw [List.flatMap_cons, Nat.zero_mul, Nat.zero_add, List.getElem?_append_left hlt]
    exact hi
  | x :: xs, j + 1, i, f, u, hj, hi => by
    have hj' : xs[j]? = some f := by simpa using hj
    rw [List.flatMap_cons, List.getElem?_append_right (by show 2 ≤ _; omega)]
    have e : (j + 1) * 2 + i - (enc2 x).length = j * 2 + i := by simp; omega
    rw [e]
    exact flat2_get xs j i f u hj' hi
theorem lit36_C (W : World) (g : Nat) (cur : Array Value) (xs : FieldL) (hg : W.heap[g]? = some (.cells cur 36 (0, 0))) (hx : cur.toList = xs.flatMap enc2) (hl : xs.length ≤ 1000) : Kd.C k36 W (some ⟨g, 0, none⟩) xs.length xs := by
  refine ⟨rfl, by omega, fun _ => ⟨_, rfl, fun j f hj => ⟨enc2 f, rfl, k36_mk W f, fun i u hu => ?_⟩⟩⟩
  have e : (⟨g, 0, none⟩ : Addr).add (j * k36.sz + i) = ⟨g, j * 2 + i, none⟩ := by rw [show k36.sz = 2 from rfl]; unfold Addr.add; simp; intros; omega
  rw [e]
  simp only [World.cell?, hg]
  rw [← Array.getElem?_toList, hx]
  exact flat2_get xs j i f u hj hu
abbrev aMX (g : Nat) (l : FieldL) : Hd := ⟨⟨#[71, 69, 84]⟩, ⟨#[47, 97, 47, 46, 46, 47, 98]⟩, 0, ⟨#[]⟩, 0, some ⟨g, 0, none⟩, l.length, l⟩
abbrev aMH (g : Nat) (l : FieldL) : Hd := ⟨⟨#[]⟩, ⟨#[]⟩, 0, ⟨#[]⟩, 0, some ⟨g, 0, none⟩, l.length, l⟩
theorem aX_few : Few aX := ⟨by decide, by decide⟩
theorem aN_few : Few aN := ⟨by decide, by decide⟩
theorem aV1_few : Few aV1 := ⟨by decide, by decide⟩
theorem aV2_few : Few aV2 := ⟨by decide, by decide⟩
theorem aH_few : Few aH := ⟨by decide, by decide⟩
def Lies (W : World) (g : Nat) (l : FieldL) : Prop := Kd.C k36 W (some ⟨g, 0, none⟩) l.length l
theorem Lies.below {W W' : World} {g : Nat} {l : FieldL} (h : Lies W g l) (hb : Below W.heap.size W W') : Lies W' g l := Kd.C_below h hb
theorem Lies.lit {W : World} {g : Nat} {cur : Array Value} {xs : FieldL} (hg : W.heap[g]? = some (.cells cur 36 (0, 0))) (hx : cur.toList = xs.flatMap enc2) (hl : xs.length ≤ 1000) : Lies W g xs := lit36_C W g cur xs hg hx hl
theorem aw_key (g : Nat) (W : World) (h : Lies W g aX) :
    Calls Tryz.prog 29 #[.agg #[.string ⟨#[71, 69, 84]⟩, .string ⟨#[47, 97, 47, 46, 46, 47, 98]⟩, .int .i64 0, .string ⟨#[]⟩, .int .i64 0, .slice (some ⟨g, 0, none⟩) 1 1, .string ⟨#[]⟩]] W fun e w' => e = .returned (.tuple #[.string ⟨#[71, 69, 84, 32, 120, 32, 47, 98]⟩, .int .i64 0]) ∧ Below W.heap.size W w' :=
  (key_calls (aMX g aX) ⟨#[]⟩ W ⟨h, Nat.le_refl _, aX_few⟩ (by decide : (⟨#[71, 69, 84]⟩ : ByteArray).size ≤ 1000000000) (by decide : (⟨#[47, 97, 47, 46, 46, 47, 98]⟩ : ByteArray).size ≤ 1000000000)).mono fun e w' ⟨he, hb⟩ => ⟨he.trans (by rw [a_key]), hb⟩
theorem aw_shX (g : Nat) (W : World) (h : Lies W g aX) :
    Calls Tryz.prog 20 #[.agg #[.string ⟨#[71, 69, 84]⟩, .string ⟨#[47, 97, 47, 46, 46, 47, 98]⟩, .int .i64 0, .string ⟨#[]⟩, .int .i64 0, .slice (some ⟨g, 0, none⟩) 1 1, .string ⟨#[]⟩]] W fun e w' => e = .returned (.bool true) ∧ Below W.heap.size W w' :=
  (shared_calls (aMX g aX) ⟨#[]⟩ W ⟨h, Nat.le_refl _, aX_few⟩).mono fun e w' ⟨he, hb⟩ => ⟨he.trans (by rw [a_shX]), hb⟩
theorem aw_shN (g : Nat) (W : World) (h : Lies W g aN) :
    Calls Tryz.prog 20 #[.agg #[.string ⟨#[71, 69, 84]⟩, .string ⟨#[47, 97, 47, 46, 46, 47, 98]⟩, .int .i64 0, .string ⟨#[]⟩, .int .i64 0, .slice (some ⟨g, 0, none⟩) 1 1, .string ⟨#[]⟩]] W fun e w' => e = .returned (.bool false) ∧ Below W.heap.size W w' :=
  (shared_calls (aMX g aN) ⟨#[]⟩ W ⟨h, Nat.le_refl _, aN_few⟩).mono fun e w' ⟨he, hb⟩ => ⟨he.trans (by rw [a_shN]), hb⟩
theorem aw_sp (q g : Nat) (W : World) (hq : W.heap[q]? = some (.cells #[.string ⟨#[72, 79, 83, 84]⟩] 9 (0, 0))) (h : Lies W g aX) :
    Calls Tryz.prog 27 #[.slice (some ⟨q, 0, none⟩) 1 1, .slice (some ⟨g, 0, none⟩) 1 1] W fun e w' => e = .returned (.string ⟨#[104, 111, 115, 116, 58, 88, 10, 10]⟩) ∧ Below W.heap.size W w' :=
  (split_calls (some ⟨q, 0, none⟩) 1 [⟨#[72, 79, 83, 84]⟩] (some ⟨g, 0, none⟩) 1 aX W (lit_C W q 9 _ [⟨#[72, 79, 83, 84]⟩] hq rfl (by decide)) (by decide) h (by decide) aX_few ⟨by decide, by decide⟩).mono fun e w' ⟨he, hb⟩ => ⟨he.trans (by rw [a_sp]), hb⟩
theorem aw_f1 (g q : Nat) (W : World) (h : Lies W g aX) (hq : Lies W q aH) :
    Calls Tryz.prog 22 #[.agg #[.string ⟨#[71, 69, 84]⟩, .string ⟨#[47, 97, 47, 46, 46, 47, 98]⟩, .int .i64 0, .string ⟨#[]⟩, .int .i64 0, .slice (some ⟨g, 0, none⟩) 1 1, .string ⟨#[]⟩], .agg #[.string ⟨#[71, 69, 84]⟩, .string ⟨#[47, 97, 47, 46, 46, 47, 98]⟩, .int .i64 0, .string ⟨#[]⟩, .int .i64 0, .slice (some ⟨g, 0, none⟩) 1 1, .string ⟨#[]⟩], .agg #[.string ⟨#[]⟩, .string ⟨#[]⟩, .int .i64 0, .string ⟨#[]⟩, .int .i64 0, .slice (some ⟨q, 0, none⟩) 1 1]] W fun e w' => e = .returned (.bool true) ∧ Below W.heap.size W w' :=
  (fits_calls (aMX g aX) ⟨#[]⟩ (aMX g aX) ⟨#[]⟩ (aMH q aH) W ⟨h, Nat.le_refl _, aX_few⟩ ⟨h, Nat.le_refl _, aX_few⟩ ⟨hq, Nat.le_refl _, aH_few⟩).mono fun e w' ⟨he, hb⟩ => ⟨he.trans (by rw [a_f1]), hb⟩
theorem aw_f2 (g i q : Nat) (W : World) (h : Lies W g aX) (hi : Lies W i aN) (hq : Lies W q aH) :
    Calls Tryz.prog 22 #[.agg #[.string ⟨#[71, 69, 84]⟩, .string ⟨#[47, 97, 47, 46, 46, 47, 98]⟩, .int .i64 0, .string ⟨#[]⟩, .int .i64 0, .slice (some ⟨g, 0, none⟩) 1 1, .string ⟨#[]⟩], .agg #[.string ⟨#[71, 69, 84]⟩, .string ⟨#[47, 97, 47, 46, 46, 47, 98]⟩, .int .i64 0, .string ⟨#[]⟩, .int .i64 0, .slice (some ⟨i, 0, none⟩) 1 1, .string ⟨#[]⟩], .agg #[.string ⟨#[]⟩, .string ⟨#[]⟩, .int .i64 0, .string ⟨#[]⟩, .int .i64 0, .slice (some ⟨q, 0, none⟩) 1 1]] W fun e w' => e = .returned (.bool false) ∧ Below W.heap.size W w' :=
  (fits_calls (aMX g aX) ⟨#[]⟩ (aMX i aN) ⟨#[]⟩ (aMH q aH) W ⟨h, Nat.le_refl _, aX_few⟩ ⟨hi, Nat.le_refl _, aN_few⟩ ⟨hq, Nat.le_refl _, aH_few⟩).mono fun e w' ⟨he, hb⟩ => ⟨he.trans (by rw [a_f2]), hb⟩
theorem aw_str (AV : Option Addr) (cV q : Nat) (W : World) (h : Kd.C Kd.string W AV 2 [⟨#[97]⟩, ⟨#[98]⟩]) (hc : 2 ≤ cV) (hq : W.heap[q]? = some (.cells #[.string ⟨#[97]⟩, .string ⟨#[98]⟩] 9 (0, 0))) :
    Calls Tryz.prog 25 #[.slice AV 2 cV, .slice (some ⟨q, 0, none⟩) 2 2] W fun e w' => e = .returned (.bool true) ∧ Below W.heap.size W w' :=
  strings_same AV cV [⟨#[97]⟩, ⟨#[98]⟩] (some ⟨q, 0, none⟩) 2 W h hc (lit_C W q 9 _ [⟨#[97]⟩, ⟨#[98]⟩] hq rfl (by decide)) (by decide) (by decide)
theorem aw_v1 (g : Nat) (W : World) (h : Lies W g aV1) :
    Calls Tryz.prog 23 #[.slice (some ⟨g, 0, none⟩) 2 2] W fun e w' => ∃ A c, e = .returned (.tuple #[.slice A 2 c, .bool true]) ∧ 2 ≤ c ∧ Kd.C Kd.string w' A 2 [⟨#[97]⟩, ⟨#[98]⟩] ∧ Below W.heap.size W w' := by
  refine (vary_calls (some ⟨g, 0, none⟩) 2 aV1 W h (by decide) aV1_few).mono ?_
  rintro e w' ⟨v, he, hv, hb⟩
  rw [a_v1] at hv he
  obtain ⟨A, c, rfl, hlc, hr⟩ := Kd.R_reads hv
  exact ⟨A, c, he, hlc, hr, hb⟩
theorem aw_v2 (g : Nat) (W : World) (h : Lies W g aV2) :
    Calls Tryz.prog 23 #[.slice (some ⟨g, 0, none⟩) 1 1] W fun e w' => ∃ v, e = .returned (.tuple #[v, .bool false]) ∧ Below W.heap.size W w' := by
  refine (vary_calls (some ⟨g, 0, none⟩) 1 aV2 W h (by decide) aV2_few).mono ?_
  rintro e w' ⟨v, he, hv, hb⟩
  rw [a_v2] at he
  exact ⟨v, he, hb⟩
set_option maxHeartbeats 4000000 in
set_option maxRecDepth 100000 in
theorem awake_calls (w : World) : Calls Tryz.prog 19 #[] w fun e w' => e = .returned (.bool true) ∧ Below w.heap.size w w' := by
  go_enter Tryz.func19, Tryz.ntmps19
  go_wp2_with fail
  with_reducible refine (aw_key w.heap.size _ (Lies.lit (cur := #[.string ⟨#[104, 111, 115, 116]⟩, .string ⟨#[88]⟩]) (by (repeat' first | exact at_new (by first | rfl | (simp; done)) | (refine at_old (by first | (simp; done) | (simp; omega)) ?_))) rfl (by decide))).mono ?_
  rintro e w1 ⟨rfl, hb1⟩
  have HX1 := Aside0.mk ((hb1.block (w.heap.size + 1) (by simp)).trans (by (repeat' first | exact at_new (by first | rfl | (simp; done)) | (refine at_old (by first | (simp; done) | (simp; omega)) ?_))) : w1.heap[w.heap.size + 1]? = some (.cells #[.string ⟨#[71, 69, 84]⟩, .string ⟨#[47, 97, 47, 46, 46, 47, 98]⟩, .int .i64 0, .string ⟨#[]⟩, .int .i64 0, .slice (some ⟨w.heap.size, 0, none⟩) 1 1, .string ⟨#[]⟩] 27 (0, 0)))
  have HLX := Aside0.mk (Lies.below (Lies.lit (cur := #[.string ⟨#[104, 111, 115, 116]⟩, .string ⟨#[88]⟩]) (xs := aX) (by (repeat' first | exact at_new (by first | rfl | (simp; done)) | (refine at_old (by first | (simp; done) | (simp; omega)) ?_))) rfl (by decide)) hb1 : Lies w1 w.heap.size aX)
  have hs1 : w.heap.size + 2 ≤ w1.heap.size := Nat.le_trans (by simp) hb1.size
  have HB1 := Aside0.mk ((below_alloc (below_alloc (Below.refl w.heap.size w) _) _).trans (hb1.mono (by simp; omega)))
  have HS1 := Aside0.mk hs1
  clear hb1 hs1
  obtain ⟨x0, x1, x2, x3, x4, x5, x6⟩ := seven_cells HX1.out
  go_wp2_with fail
  clear x0 x1 x2 x3 x4 x5 x6
  with_reducible refine (aw_v1 (w1.heap.size + 1 + 1) _ (Lies.lit (cur := #[.string ⟨#[86, 97, 114, 121]⟩, .string ⟨#[98, 44, 32, 65]⟩, .string ⟨#[118, 97, 114, 121]⟩, .string ⟨#[97]⟩]) (by (repeat' first | exact at_new (by first | rfl | (simp; done)) | (refine at_old (by first | (simp; done) | (simp; omega)) ?_))) rfl (by decide))).mono ?_
  rintro e w2 ⟨AV, cV, rfl, hcV, hvV, hb2⟩
  have HVV := Aside0.mk hvV
  have HX2 := Aside0.mk ((hb2.block (w.heap.size + 1) (by have := HS1.out; simp; omega)).trans ((((below_alloc (below_alloc (below_alloc (Below.refl w1.heap.size w1) _) _) _)).block _ (by have := HS1.out; omega)).trans HX1.out))
  have HN2 := Aside0.mk ((hb2.block (w1.heap.size) (by simp; omega)).trans (by (repeat' first | exact at_new (by first | rfl | (simp; done)) | (refine at_old (by first | (simp; done) | (simp; omega)) ?_))) : w2.heap[w1.heap.size]? = some (.cells #[.string ⟨#[71, 69, 84]⟩, .string ⟨#[47, 97, 47, 46, 46, 47, 98]⟩, .int .i64 0, .string ⟨#[]⟩, .int .i64 0, .slice (some ⟨w1.heap.size + 1, 0, none⟩) 1 1, .string ⟨#[]⟩] 27 (0, 0)))
  have HLX2 := Aside0.mk (HLX.out.below ((below_alloc (below_alloc (below_alloc (Below.refl w1.heap.size w1) _) _) _).trans (hb2.mono (by simp; omega))))
  have HLN2 := Aside0.mk (Lies.below (Lies.lit (cur := #[.string ⟨#[67, 111, 111, 107, 105, 101]⟩, .string ⟨#[]⟩]) (xs := aN) (by (repeat' first | exact at_new (by first | rfl | (simp; done)) | (refine at_old (by first | (simp; done) | (simp; omega)) ?_))) rfl (by decide)) hb2 : Lies w2 (w1.heap.size + 1) aN)
  have hs2 : w1.heap.size + 3 ≤ w2.heap.size := Nat.le_trans (by simp) hb2.size
  have HB2 := Aside0.mk ((below_alloc (below_alloc (below_alloc HB1.out _) _) _).trans (hb2.mono (by have := HS1.out; simp; omega)))
  have HS2 := Aside0.mk hs2
  clear hb2 hs2 hvV
  go_wp2_with fail
  with_reducible refine (aw_v2 w2.heap.size _ (Lies.lit (cur := #[.string ⟨#[86, 97, 114, 121]⟩, .string ⟨#[97, 44, 32, 42]⟩]) (by (repeat' first | exact at_new (by first | rfl | (simp; done)) | (refine at_old (by first | (simp; done) | (simp; omega)) ?_))) rfl (by decide))).mono ?_
  rintro e w3 ⟨v3, rfl, hb3⟩
  have hb3' := (below_alloc (Below.refl w2.heap.size w2) (.cells #[.string ⟨#[86, 97, 114, 121]⟩, .string ⟨#[97, 44, 32, 42]⟩] 36)).trans (hb3.mono (by simp))
  have hs3 : w2.heap.size + 1 ≤ w3.heap.size := Nat.le_trans (by simp) hb3.size
  have HS3 := Aside0.mk hs3
  have HB3' := Aside0.mk hb3'
  clear hb3 hb3' hs3
  have HX := Aside0.mk (fun (o1 o2 : Obj) => seven_cells (W := (w3.alloc o1).alloc o2) (((below_alloc (below_alloc (Below.refl w3.heap.size w3) o1) o2).block _ (by have := HS1.out; have := HS2.out; have := HS3.out; omega)).trans ((HB3'.out.block _ (by have := HS1.out; have := HS2.out; omega)).trans HX2.out)))
  have x0 := fun (o1 o2 : Obj) => (HX.out o1 o2).1
  have x1 := fun (o1 o2 : Obj) => (HX.out o1 o2).2.1
  have x2 := fun (o1 o2 : Obj) => (HX.out o1 o2).2.2.1
  have x3 := fun (o1 o2 : Obj) => (HX.out o1 o2).2.2.2.1
  have x4 := fun (o1 o2 : Obj) => (HX.out o1 o2).2.2.2.2.1
  have x5 := fun (o1 o2 : Obj) => (HX.out o1 o2).2.2.2.2.2.1
  have x6 := fun (o1 o2 : Obj) => (HX.out o1 o2).2.2.2.2.2.2
  go_wp2_with fail
  clear x0 x1 x2 x3 x4 x5 x6
  generalize hw4 : (w3.alloc (.cells #[.string ⟨#[86, 97, 114, 121]⟩, .string ⟨#[72, 111, 115, 116]⟩] 36)).alloc (.cells #[.string ⟨#[]⟩, .string ⟨#[]⟩, .int .i64 0, .string ⟨#[]⟩, .int .i64 0, .slice (some ⟨w3.heap.size, 0, none⟩) 1 1] 25) = w4
  have hb4 : Below w3.heap.size w3 w4 := by rw [← hw4]; exact below_alloc (below_alloc (Below.refl _ _) _) _
  have hs4 : w3.heap.size + 2 ≤ w4.heap.size := by rw [← hw4]; simp
  have HX4 := Aside0.mk ((hb4.block (w.heap.size + 1) (by have := HS1.out; have := HS2.out; have := HS3.out; omega)).trans ((HB3'.out.block _ (by have := HS1.out; have := HS2.out; omega)).trans HX2.out))
  have HN4 := Aside0.mk ((hb4.block w1.heap.size (by have := HS2.out; have := HS3.out; omega)).trans ((HB3'.out.block _ (by have := HS2.out; omega)).trans HN2.out))
  have HH4 := Aside0.mk ((by rw [← hw4]; (repeat' first | exact at_new (by first | rfl | (simp; done)) | (refine at_old (by first | (simp; done) | (simp; omega)) ?_))) : w4.heap[w3.heap.size + 1]? = some (.cells #[.string ⟨#[]⟩, .string ⟨#[]⟩, .int .i64 0, .string ⟨#[]⟩, .int .i64 0, .slice (some ⟨w3.heap.size, 0, none⟩) 1 1] 25 (0, 0)))
  have HLX4 := Aside0.mk ((HLX2.out.below HB3'.out).below hb4)
  have HLN4 := Aside0.mk ((HLN2.out.below HB3'.out).below hb4)
  have HLH4 := Aside0.mk (Lies.lit (W := w4) (g := w3.heap.size) (cur := #[.string ⟨#[86, 97, 114, 121]⟩, .string ⟨#[72, 111, 115, 116]⟩]) (xs := aH) (by rw [← hw4]; (repeat' first | exact at_new (by first | rfl | (simp; done)) | (refine at_old (by first | (simp; done) | (simp; omega)) ?_))) rfl (by decide))
  have HVV4 := Aside0.mk (Kd.C_below (Kd.C_below HVV.out HB3'.out) hb4)
  have HB4 := Aside0.mk (HB2.out.trans ((HB3'.out.trans (hb4.mono HB3'.out.size)).mono HB2.out.size))
  have HS := Aside0.mk (fun (W : World) (h : Below w4.heap.size w4 W) => (⟨h, seven_cells ((h.block _ (by have := HS1.out; have := HS2.out; have := HS3.out; omega)).trans HX4.out), seven_cells ((h.block _ (by have := HS2.out; have := HS3.out; omega)).trans HN4.out), six_cells ((h.block _ (by omega)).trans HH4.out)⟩ : Below w4.heap.size w4 W ∧ Seven W (w.heap.size + 1) (.string ⟨#[71, 69, 84]⟩) (.string ⟨#[47, 97, 47, 46, 46, 47, 98]⟩) (.int .i64 0) (.string ⟨#[]⟩) (.int .i64 0) (.slice (some ⟨w.heap.size, 0, none⟩) 1 1) (.string ⟨#[]⟩) ∧ Seven W w1.heap.size (.string ⟨#[71, 69, 84]⟩) (.string ⟨#[47, 97, 47, 46, 46, 47, 98]⟩) (.int .i64 0) (.string ⟨#[]⟩) (.int .i64 0) (.slice (some ⟨w1.heap.size + 1, 0, none⟩) 1 1) (.string ⟨#[]⟩) ∧ Six W (w3.heap.size + 1) (.string ⟨#[]⟩) (.string ⟨#[]⟩) (.int .i64 0) (.string ⟨#[]⟩) (.int .i64 0) (.slice (some ⟨w3.heap.size, 0, none⟩) 1 1)))
  clear hb4 hs4 hw4
  have hB := Below.refl w4.heap.size w4
  with_reducible refine (aw_shX w.heap.size _ (HLX4.out.below hB)).mono ?_
  rintro e w5 ⟨rfl, hb5⟩
  replace hB := belTrans hb5 hB
  clear hb5
  obtain ⟨_, ⟨x0, x1, x2, x3, x4, x5, x6⟩, ⟨y0, y1, y2, y3, y4, y5, y6⟩, ⟨z0, z1, z2, z3, z4, z5⟩⟩ := HS.out _ hB
  have hB' := Aside0.mk hB
  clear hB
  go_wp2_with fail
  clear x0 x1 x2 x3 x4 x5 x6 y0 y1 y2 y3 y4 y5 y6 z0 z1 z2 z3 z4 z5
  have hB := hB'.out
  clear hB'
  with_reducible refine (aw_shN (w1.heap.size + 1) _ (HLN4.out.below hB)).mono ?_
  rintro e w5 ⟨rfl, hb5⟩
  replace hB := belTrans hb5 hB
  clear hb5
  obtain ⟨_, ⟨x0, x1, x2, x3, x4, x5, x6⟩, ⟨y0, y1, y2, y3, y4, y5, y6⟩, ⟨z0, z1, z2, z3, z4, z5⟩⟩ := HS.out _ hB
  have hB' := Aside0.mk hB
  clear hB
  go_wp2_with fail
  clear x0 x1 x2 x3 x4 x5 x6 y0 y1 y2 y3 y4 y5 y6 z0 z1 z2 z3 z4 z5
  have hB := hB'.out
  clear hB'
  with_reducible refine (aw_str AV cV w5.heap.size _ (Kd.C_below HVV4.out (below_alloc hB _)) hcV (heap_alloc_new w5 _)).mono ?_
  rintro e w5 ⟨rfl, hb5⟩
  replace hB := belTrans hb5 (below_alloc hB _)
  clear hb5
  have HX := Aside0.mk (fun (o : Obj) => HS.out _ (below_alloc hB o))
  have x5 := fun (o : Obj) => (HX.out o).2.1.2.2.2.2.2.1
  have hB' := Aside0.mk hB
  clear hB
  go_wp2_with fail
  clear x5
  have hB := hB'.out
  clear hB'
  with_reducible refine (aw_sp w5.heap.size w.heap.size _ (heap_alloc_new w5 _) (HLX4.out.below (below_alloc hB _))).mono ?_
  rintro e w5 ⟨rfl, hb5⟩
  replace hB := belTrans hb5 (below_alloc hB _)
  clear hb5
  obtain ⟨_, ⟨x0, x1, x2, x3, x4, x5, x6⟩, ⟨y0, y1, y2, y3, y4, y5, y6⟩, ⟨z0, z1, z2, z3, z4, z5⟩⟩ := HS.out _ hB
  have hB' := Aside0.mk hB
  clear hB
  go_wp2_with fail
  clear x0 x1 x2 x3 x4 x5 x6 y0 y1 y2 y3 y4 y5 y6 z0 z1 z2 z3 z4 z5
  have hB := hB'.out
  clear hB'
  with_reducible refine (aw_f1 w.heap.size w3.heap.size _ (HLX4.out.below hB) (HLH4.out.below hB)).mono ?_
  rintro e w5 ⟨rfl, hb5⟩
  replace hB := belTrans hb5 hB
  clear hb5
  obtain ⟨_, ⟨x0, x1, x2, x3, x4, x5, x6⟩, ⟨y0, y1, y2, y3, y4, y5, y6⟩, ⟨z0, z1, z2, z3, z4, z5⟩⟩ := HS.out _ hB
  have hB' := Aside0.mk hB
  clear hB
  go_wp2_with fail
  clear x0 x1 x2 x3 x4 x5 x6 y0 y1 y2 y3 y4 y5 y6 z0 z1 z2 z3 z4 z5
  have hB := hB'.out
  clear hB'
  with_reducible refine (aw_f2 w.heap.size (w1.heap.size + 1) w3.heap.size _ (HLX4.out.below hB) (HLN4.out.below hB) (HLH4.out.below hB)).mono ?_
  rintro e w5 ⟨rfl, hb5⟩
  replace hB := belTrans hb5 hB
  clear hb5
  obtain ⟨_, ⟨x0, x1, x2, x3, x4, x5, x6⟩, ⟨y0, y1, y2, y3, y4, y5, y6⟩, ⟨z0, z1, z2, z3, z4, z5⟩⟩ := HS.out _ hB
  have hB' := Aside0.mk hB
  clear hB
  go_wp2_with fail
  clear x0 x1 x2 x3 x4 x5 x6 y0 y1 y2 y3 y4 y5 y6 z0 z1 z2 z3 z4 z5
  have hB := hB'.out
  clear hB'
  go_ret
  exact ⟨rfl, HB4.out.trans (hB.mono HB4.out.size)⟩
end Go.Proofs.YtalafpigfeiaiaaGreatDoor.Q
end
section
namespace Go.Proofs.YtalafpigfeiaiaaGreatDoor.Q
open Go.RowKit Go.Proofs.YtalafpigfeiaiaaGreatDoor.H Go.Proofs.YtalafpigfeiaiaaGreatDoorW.PrintWords
set_option linter.unusedVariables false
set_option linter.unusedSimpArgs false
theorem cut_inj : ∀ (v v' x y : Str), (10 : UInt8) ∉ v → (10 : UInt8) ∉ v' → v ++ 10 :: x = v' ++ 10 :: y → v = v' ∧ x = y
  | [], [], x, y, _, _, h => ⟨rfl, by simpa using h⟩
  | [], a :: v', x, y, _, h2, h => by
    rw [List.nil_append, List.cons_append] at h
    injection h with h3 h4
    exact absurd (by rw [← h3]; exact List.mem_cons_self) h2
  | a :: v, [], x, y, h1, _, h => by
    rw [List.nil_append, List.cons_append] at h
    injection h with h3 h4
    exact absurd (by rw [h3]; exact List.mem_cons_self) h1
  | a :: v, b :: v', x, y, h1, h2, h => by
    rw [List.cons_append, List.cons_append] at h
    injection h with h3 h4
    obtain ⟨e1, e2⟩ := cut_inj v v' x y (fun q => h1 (List.mem_cons_of_mem _ q)) (fun q => h2 (List.mem_cons_of_mem _ q)) h4
    exact ⟨by rw [h3, e1], e2⟩
theorem sep_false : ∀ (p u q t : Str), (10 : UInt8) ∉ p → (58 : UInt8) ∉ u → p ++ 58 :: q = u ++ 10 :: t → False
  | [], [], q, t, _, _, h => by
    rw [List.nil_append, List.nil_append] at h
    injection h with h3 h4
    exact absurd h3 (by decide)
  | [], b :: u, q, t, _, h2, h => by
    rw [List.nil_append, List.cons_append] at h
    injection h with h3 h4
    exact h2 (by rw [h3]; exact List.mem_cons_self)
  | a :: p, [], q, t, h1, _, h => by
    rw [List.nil_append, List.cons_append] at h
    injection h with h3 h4
    exact h1 (by rw [h3]; exact List.mem_cons_self)
  | a :: p, b :: u, q, t, h1, h2, h => by
    rw [List.cons_append, List.cons_append] at h
    injection h with h3 h4
    exact sep_false p u q t (fun r => h1 (List.mem_cons_of_mem _ r)) (fun r => h2 (List.mem_cons_of_mem _ r)) h4
theorem clean_iff (s : ByteArray) : cleanB s = true ↔ (10 : UInt8) ∉ ul s ∧ (58 : UInt8) ∉ ul s := by
  unfold cleanB
  rw [List.all_eq_true]
  constructor
  · intro h
    exact ⟨fun q => by have := h _ q; simp at this, fun q => by have := h _ q; simp at this⟩
  · intro h c hc
    have h1 : c ≠ 10 := fun e => h.1 (e ▸ hc)
    have h2 : c ≠ 58 := fun e => h.2 (e ▸ hc)
    simp [h1, h2]
def Next (r : Str) : Prop := r = [] ∨ ∃ p q, r = p ++ 58 :: q ∧ (10 : UInt8) ∉ p
theorem valsL_cons (v : ByteArray) (vs : List ByteArray) (r : Str) : valsL (v :: vs) ++ 10 :: r = ul v ++ 10 :: (valsL vs ++ 10 :: r) := by simp [valsL]
theorem next_no (r : Str) (h : Next r) (vs : List ByteArray) (hv : ∀ v ∈ vs, cleanB v = true) (t : Str) : r ≠ valsL vs ++ 10 :: t := by
  intro e
  rcases h with h | ⟨p, q, h, hp⟩
  · rw [h] at e; simp at e
  · rw [h] at e
    cases vs with
    | nil => exact sep_false p [] q t hp (by simp) (by simpa [valsL] using e)
    | cons u us =>
      rw [valsL_cons] at e
      exact sep_false p (ul u) q _ hp ((clean_iff u).1 (hv u List.mem_cons_self)).2 e
theorem vals_inj : ∀ (va vb : List ByteArray) (ra rb : Str), (∀ v ∈ va, cleanB v = true) → (∀ v ∈ vb, cleanB v = true) → Next ra → Next rb → valsL va ++ 10 :: ra = valsL vb ++ 10 :: rb → va = vb ∧ ra = rb
  | [], [], ra, rb, _, _, _, _, h => ⟨rfl, by simpa [valsL] using h⟩
  | [], v :: vs, ra, rb, _, hb, ha, _, h => by
    exfalso
    rw [valsL_cons] at h
    have h0 : ([] : Str) ++ 10 :: ra = ul v ++ 10 :: (valsL vs ++ 10 :: rb) := h
    obtain ⟨e1, e2⟩ := cut_inj _ _ _ _ (by simp) ((clean_iff v).1 (hb v List.mem_cons_self)).1 h0
    exact next_no ra ha vs (fun x hx => hb x (List.mem_cons_of_mem _ hx)) rb e2
  | v :: vs, [], ra, rb, ha, _, _, hb, h => by
    exfalso
    rw [valsL_cons] at h
    have h0 : ([] : Str) ++ 10 :: rb = ul v ++ 10 :: (valsL vs ++ 10 :: ra) := h.symm
    obtain ⟨e1, e2⟩ := cut_inj _ _ _ _ (by simp) ((clean_iff v).1 (ha v List.mem_cons_self)).1 h0
    exact next_no rb hb vs (fun x hx => ha x (List.mem_cons_of_mem _ hx)) ra e2
  | v :: vs, u :: us, ra, rb, ha, hb, na, nb, h => by
    rw [valsL_cons, valsL_cons] at h
    obtain ⟨e1, e2⟩ := cut_inj _ _ _ _ ((clean_iff v).1 (ha v List.mem_cons_self)).1 ((clean_iff u).1 (hb u List.mem_cons_self)).1 h
    obtain ⟨e3, e4⟩ := vals_inj vs us ra rb (fun x hx => ha x (List.mem_cons_of_mem _ hx)) (fun x hx => hb x (List.mem_cons_of_mem _ hx)) na nb e2
    exact ⟨by rw [ul_inj e1, e3], e4⟩
theorem lowC_nl {d : UInt8} (h : lowC d = 10) : d = 10 := by
  unfold lowC at h
  split at h
  · rename_i q
    exfalso
    have h1 := UInt8.le_iff_toNat_le.1 q.1
    have h2 := UInt8.le_iff_toNat_le.1 q.2
    have h3 := congrArg UInt8.toNat h
    rw [UInt8.toNat_add] at h3
    simp at h1 h2 h3
    omega
  · exact h
theorem lowL_nl {l : Str} (h : (10 : UInt8) ∉ l) : (10 : UInt8) ∉ lowL l := by
  unfold lowL
  intro q
  obtain ⟨d, hd, e⟩ := List.mem_map.1 q
  exact h (lowC_nl e ▸ hd)
theorem splitL_next (L : FieldL) : ∀ (ns : List ByteArray), (∀ n ∈ ns, (10 : UInt8) ∉ ul n) → Next (splitL ns L)
  | [], _ => .inl rfl
  | n :: ns, h => .inr ⟨lowL (ul n), valsL (getF L n) ++ [10] ++ splitL ns L, by simp [splitL, segL], lowL_nl (h n List.mem_cons_self)⟩
theorem getF_clean {L : FieldL} (h : CleanL L) (n : ByteArray) : ∀ v ∈ getF L n, cleanB v = true := fun v hv => by
  obtain ⟨f, hf, rfl⟩ := getF_mem hv
  exact h f hf
theorem split_iff {La Lb : FieldL} (ca : CleanL La) (cb : CleanL Lb) : ∀ (ns : List ByteArray), (∀ n ∈ ns, (10 : UInt8) ∉ ul n) → (splitL ns La = splitL ns Lb ↔ ∀ n ∈ ns, getF La n = getF Lb n)
  | [], _ => by simp [splitL]
  | n :: ns, h => by
    have ih := split_iff ca cb ns (fun x hx => h x (List.mem_cons_of_mem _ hx))
    have e : ∀ L : FieldL, splitL (n :: ns) L = lowL (ul n) ++ [58] ++ (valsL (getF L n) ++ 10 :: splitL ns L) := fun L => by simp [splitL, segL]
    rw [e, e]
    constructor
    · intro q
      have q2 := List.append_cancel_left q
      obtain ⟨e1, e2⟩ := vals_inj _ _ _ _ (getF_clean ca n) (getF_clean cb n) (splitL_next La ns (fun x hx => h x (List.mem_cons_of_mem _ hx))) (splitL_next Lb ns (fun x hx => h x (List.mem_cons_of_mem _ hx))) q2
      intro x hx
      rcases List.mem_cons.1 hx with rfl | hx
      · exact e1
      · exact ih.1 e2 x hx
    · intro q
      rw [q n List.mem_cons_self, ih.2 fun x hx => q x (List.mem_cons_of_mem _ hx)]
theorem vary_false {L : FieldL} (h : (varyS L).2 = false) : (varyS L).1 = [] := by
  unfold varyS varyOf at *
  split at h
  · rename_i q; rw [if_pos q]
  · cases h
theorem vary_mem {L : FieldL} {n : ByteArray} (h : n ∈ (varyS L).1) : n ∈ itemsF L lvary := by
  unfold varyS varyOf at h
  split at h
  · cases h
  · rcases mem_foldl_addS _ _ _ h with h | h
    · cases h
    · exact h
theorem vary_rises (L : FieldL) : Rises (varyS L).1 := by
  unfold varyS varyOf
  split
  · exact List.Pairwise.nil
  · exact (sorted_foldl _ [] List.Pairwise.nil).1
theorem lowC_idem (c : UInt8) : lowC (lowC c) = lowC c := by
  by_cases h : 65 ≤ c ∧ c ≤ 90
  · have e : lowC c = c + 32 := by unfold lowC; rw [if_pos h]
    rw [e]
    unfold lowC
    rw [if_neg]
    intro q
    have h1 := UInt8.le_iff_toNat_le.1 h.1
    have h2 := UInt8.le_iff_toNat_le.1 h.2
    have h3 := UInt8.le_iff_toNat_le.1 q.2
    rw [UInt8.toNat_add] at h3
    simp at h1 h2 h3
    omega
  · have e : lowC c = c := by unfold lowC; rw [if_neg h]
    rw [e, e]
theorem item_form {s n : ByteArray} (h : n ∈ items s) : ∃ p ∈ splitB 44 (ul s), n = bs (lowL (trimL p)) := by
  unfold items itemsL at h
  obtain ⟨l, hl, rfl⟩ := List.mem_map.1 h
  obtain ⟨p, hp, rfl⟩ := List.mem_map.1 (List.mem_filter.1 hl).1
  exact ⟨p, hp, rfl⟩
theorem vary_lower {L : FieldL} {n : ByteArray} (h : n ∈ (varyS L).1) : lower n = n := by
  obtain ⟨v, _, hv⟩ := List.mem_flatMap.1 (vary_mem h)
  obtain ⟨p, _, rfl⟩ := item_form hv
  unfold lower lowL
  rw [ul_bs, List.map_map]
  congr 2
  funext c
  exact lowC_idem c
theorem splitB_mem (c : UInt8) : ∀ (l p : Str), p ∈ splitB c l → ∀ x ∈ p, x ∈ l
  | [], p, h, x, hx => by simp [splitB] at h; subst h; cases hx
  | a :: l, p, h, x, hx => by
    unfold splitB at h
    split at h
    · rcases List.mem_cons.1 h with rfl | h
      · cases hx
      · exact List.mem_cons_of_mem _ (splitB_mem c l p h x hx)
    · split at h
      · obtain rfl := List.mem_singleton.1 h
        obtain rfl := List.mem_singleton.1 hx
        exact List.mem_cons_self
      · rename_i hd tl e
        rcases List.mem_cons.1 h with rfl | h
        · rcases List.mem_cons.1 hx with rfl | hx
          · exact List.mem_cons_self
          · exact List.mem_cons_of_mem _ (splitB_mem c l hd (by rw [e]; exact List.mem_cons_self) x hx)
        · exact List.mem_cons_of_mem _ (splitB_mem c l p (by rw [e]; exact List.mem_cons_of_mem _ h) x hx)
theorem vary_nl {L : FieldL} (hc : CleanL L) {n : ByteArray} (h : n ∈ (varyS L).1) : (10 : UInt8) ∉ ul n := by
  obtain ⟨v, hv, hi⟩ := List.mem_flatMap.1 (vary_mem h)
  obtain ⟨p, hp, rfl⟩ := item_form hi
  have hcl := ((clean_iff v).1 (getF_clean hc lvary v hv)).1
  rw [ul_bs]
  refine lowL_nl fun q => hcl (splitB_mem 44 (ul v) p hp _ ?_)
  unfold trimL at q
  have q1 := (List.dropWhile_sublist _).subset q
  have q2 := (List.dropWhile_sublist _).subset (List.mem_reverse.1 q1)
  exact List.mem_reverse.1 q2
theorem values_law {La Lb Lh : FieldL} (ca : CleanL La) (cb : CleanL Lb) (ch : CleanL Lh) : ((splitS (varyS Lh).1 La).toList == (splitS (varyS Lh).1 Lb).toList) = decide (∀ n ∈ (varyS Lh).1, getF La n = getF Lb n) := by
  rw [toList_ul, toList_ul]
  unfold splitS
  rw [ul_bs, ul_bs]
  have := split_iff ca cb (varyS Lh).1 (fun n hn => vary_nl ch hn)
  exact Bool.eq_iff_iff.2 (by rw [beq_iff_eq, decide_eq_true_eq]; exact this)
end Go.Proofs.YtalafpigfeiaiaaGreatDoor.Q
end
