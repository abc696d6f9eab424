/- Contracts of functions and plain laws. -/
import Derived.Test.YtalafpigfeiaiaaGreatDoorKV4
import Derived.Test.YtalafpigfeiaiaaGreatDoorProg
import Derived.Shelf.SlIter.Nil
import Derived.Shelf.SortM.Plain
import Derived.Shelf.SortM.SortNone
import Derived.Ground.GgzProg
import Derived.Ground.SlgmProg
import Derived.Maps.OwnSet
import Derived.Maps.Views
import Derived.Deep.RegionHeld3
section
namespace Go.Proofs.YtalafpigfeiaiaaGreatDoor.Q
open Go.RowKit Go.Proofs.YtalafpigfeiaiaaGreatDoorW.PrintWords Go.Proofs.YtalafpigfeiaiaaGreatDoorW.PrintLast Go.Proofs.YtalafpigfeiaiaaGreatDoorW.PrintMore
attribute [local go_sem] max2_int min2_int max_two min_two max_three min_three max_four min_four
set_option linter.unusedVariables false
set_option linter.unusedSimpArgs false
def key_Key.f (k : Nat) (a0_0 : ByteArray) (a0_1 : ByteArray) (a0_2 : Int) (a0_3 : ByteArray) (a0_4 : Int) (l0_5 : List (S36)) (a0_6 : ByteArray) : Option (ByteArray × Int) := (target_Normal.f a0_1).bind fun bt127 => (if bt127.2.2 = 0 then ((field_Get.f k l0_5 (⟨#[72, 111, 115, 116]⟩ : ByteArray)).bind fun t130 => (if t130.length < 8796093022208 then ((some (t130 ++ [(⟨#[]⟩ : ByteArray)] : List ByteArray)).bind fun y133 => (if 0 < (y133.length : Int) then ((field_Lower.f (rdOf ByteArray.empty y133 0)).bind fun t137 => (if bt127.1.size + bt127.2.1.size ≤ 9223372036854775807 then ((strings_Join.f (([a0_0, t137, bt127.1 ++ bt127.2.1] : List ByteArray)) (⟨#[32]⟩ : ByteArray)).bind fun t141 => (some (t141, 0))) else (none))) else (none))) else (none))) else (some ((⟨#[]⟩ : ByteArray), bt127.2.2)))
theorem key_Key.mono : ∀ a0 a1 a2 a3 a4 a5 a6 k, LeO (key_Key.f k a0 a1 a2 a3 a4 a5 a6) (key_Key.f (k + 1) a0 a1 a2 a3 a4 a5 a6) := by
  intro a0 a1 a2 a3 a4 a5 a6 k
  unfold key_Key.f
  repeat' first
      | (with_reducible exact field_Get.mono _ _ _)
      | (with_reducible exact LeO.refl _)
      | (with_reducible exact LeO.none _)
      | (with_reducible refine LeO.ite ?_ ?_)
      | (with_reducible refine LeO.bind ?_ (fun _ => ?_))
      | exact field_Get.mono _ _ _
      | exact LeO.none _
      | refine LeO.ite ?_ ?_
      | refine LeO.bind ?_ (fun _ => ?_)
def key_Key.T5 : Bool × List (List Nat × List Nat) := (true, [([], []), ([0], [0]), ([1], [1]), ([], []), ([3], [3]), ([], []), ([], []), ([5, 6], [5, 6]), ([2, 4, 7], [2, 4, 7]), ([8, 4], [8]), ([9, 9, 0, 1, 2, 3, 4, 5, 6, 7, 8, 9], [9]), ([10, 0, 1, 2, 3, 4, 5, 6, 7, 8, 9, 10], [])])
def key_Key.B5 : List Nat := [0, 1, 3, 0, 8, 0, 0, 96, 255, 511, 1023, 2047]
theorem key_Key.tab5 : rtab .any (opsOf Tryz.f29 5) = key_Key.T5 := by kernel_rfl
theorem key_Key.bits5 : waitsOk key_Key.T5.2 key_Key.B5 = true := by kernel_rfl
set_option maxHeartbeats 8000000 in
set_option maxRecDepth 100000 in
theorem key_Key.calls (k : Nat) (a0_0 : ByteArray) (a0_1 : ByteArray) (a0_2 : Int) (a0_3 : ByteArray) (a0_4 : Int) (A0_5 : Option Addr) (c0_5 : Nat) (l0_5 : List (S36)) (a0_6 : ByteArray) (r1 : ByteArray) (r2 : Int) (w : World) (hr0_5 : Kd.C k36 w A0_5 l0_5.length l0_5) (hc0_5 : l0_5.length ≤ c0_5) (h : key_Key.f k a0_0 a0_1 a0_2 a0_3 a0_4 l0_5 a0_6 = some (r1, r2)) :
    Calls Tryz.prog 29 #[.agg #[.string a0_0, .string a0_1, .int .i64 a0_2, .string a0_3, .int .i64 a0_4, .slice A0_5 l0_5.length c0_5, .string a0_6]] w fun e w' => e = .returned (.tuple #[.string r1, .int .i64 r2]) ∧ Below w.heap.size w w' := by
  have hu27 := Tryz.underlying27
  have HR0_5 := Aside0.mk hr0_5
  have HC0_5 := Aside0.mk hc0_5
  clear hr0_5 hc0_5
  have HB := Aside0.mk (Below.refl w.heap.size w)
  have H : ((target_Normal.f a0_1).bind fun bt127 => (if bt127.2.2 = 0 then ((field_Get.f k l0_5 (⟨#[72, 111, 115, 116]⟩ : ByteArray)).bind fun t130 => (if t130.length < 8796093022208 then ((some (t130 ++ [(⟨#[]⟩ : ByteArray)] : List ByteArray)).bind fun y133 => (if 0 < (y133.length : Int) then ((field_Lower.f (rdOf ByteArray.empty y133 0)).bind fun t137 => (if bt127.1.size + bt127.2.1.size ≤ 9223372036854775807 then ((strings_Join.f (([a0_0, t137, bt127.1 ++ bt127.2.1] : List ByteArray)) (⟨#[32]⟩ : ByteArray)).bind fun t141 => (some (t141, 0))) else (none))) else (none))) else (none))) else (some ((⟨#[]⟩ : ByteArray), bt127.2.2)))) = some (r1, r2) := h
  clear h
  replace H := Option.bind_eq_some_iff.mp H
  obtain ⟨⟨t127, t128, t129⟩, A20, H⟩ := H
  replace H : (if t129 = 0 then ((field_Get.f k l0_5 (⟨#[72, 111, 115, 116]⟩ : ByteArray)).bind fun t130 => (if t130.length < 8796093022208 then ((some (t130 ++ [(⟨#[]⟩ : ByteArray)] : List ByteArray)).bind fun y133 => (if 0 < (y133.length : Int) then ((field_Lower.f (rdOf ByteArray.empty y133 0)).bind fun t137 => (if t127.size + t128.size ≤ 9223372036854775807 then ((strings_Join.f (([a0_0, t137, t127 ++ t128] : List ByteArray)) (⟨#[32]⟩ : ByteArray)).bind fun t141 => (some (t141, 0))) else (none))) else (none))) else (none))) else (some ((⟨#[]⟩ : ByteArray), t129))) = some (r1, r2) := H
  have A2 := Aside0.mk A20
  clear A20
  by_cases c3 : t129 = 0
  · rw [if_pos c3] at H
    have c3b0 : (t129 == 0) = true := beq_iff_eq.mpr c3
    have c3b1 : (t129 != 0) = false := bne_eq_false_iff_eq.mpr c3
    clear c3
    replace H := Option.bind_eq_some_iff.mp H
    obtain ⟨t130, A40, H⟩ := H
    replace H : (if t130.length < 8796093022208 then ((some (t130 ++ [(⟨#[]⟩ : ByteArray)] : List ByteArray)).bind fun y133 => (if 0 < (y133.length : Int) then ((field_Lower.f (rdOf ByteArray.empty y133 0)).bind fun t137 => (if t127.size + t128.size ≤ 9223372036854775807 then ((strings_Join.f (([a0_0, t137, t127 ++ t128] : List ByteArray)) (⟨#[32]⟩ : ByteArray)).bind fun t141 => (some (t141, 0))) else (none))) else (none))) else (none)) = some (r1, r2) := H
    have A4 := Aside0.mk A40
    clear A40
    by_cases c5 : t130.length < 8796093022208
    · rw [if_pos c5] at H
      have LMc5 := Aside0.mk c5
      clear c5
      obtain ⟨y133, hy133⟩ : ∃ y_ : List ByteArray, y_ = (t130 ++ [(⟨#[]⟩ : ByteArray)]) := ⟨_, rfl⟩
      replace H : (if 0 < (y133.length : Int) then ((field_Lower.f (rdOf ByteArray.empty y133 0)).bind fun t137 => (if t127.size + t128.size ≤ 9223372036854775807 then ((strings_Join.f (([a0_0, t137, t127 ++ t128] : List ByteArray)) (⟨#[32]⟩ : ByteArray)).bind fun t141 => (some (t141, 0))) else (none))) else (none)) = some (r1, r2) := by first | (rw [hy133]; with_reducible exact H) | (have H2_ := (Option.bind_some _ _).symm.trans H; rw [hy133]; with_reducible exact H2_) | (have H2_ := (Option.bind_some _ _).symm.trans H; with_reducible exact H2_) | with_reducible exact H | (rw [hy133]; exact H) | exact H
      have Ny133 := Aside0.mk hy133
      clear hy133
      by_cases c6 : 0 < (y133.length : Int)
      · rw [if_pos c6] at H
        have c6b0 : decide (0 < (y133.length : Int)) = true := decide_eq_true c6
        have c6b1 : decide (0 < y133.length) = true := decide_eq_true (by omega)
        clear c6
        replace H := Option.bind_eq_some_iff.mp H
        obtain ⟨t137, A70, H⟩ := H
        replace H : (if t127.size + t128.size ≤ 9223372036854775807 then ((strings_Join.f (([a0_0, t137, t127 ++ t128] : List ByteArray)) (⟨#[32]⟩ : ByteArray)).bind fun t141 => (some (t141, 0))) else (none)) = some (r1, r2) := H
        have A7 := Aside0.mk A70
        clear A70
        by_cases c8 : t127.size + t128.size ≤ 9223372036854775807
        · rw [if_pos c8] at H
          have c8b0 := eq_true c8
          have c8b1 : decide (t127.size + t128.size ≤ 9223372036854775807) = true := decide_eq_true c8
          try have c8b2 : (9223372036854775807 < t127.size + t128.size) = False := eq_false (Nat.not_lt.2 c8)
          obtain ⟨y138, hy138⟩ : ∃ y_ : List ByteArray, y_ = (([a0_0, t137, t127 ++ t128] : List ByteArray)) := ⟨_, rfl⟩
          replace H : ((strings_Join.f y138 (⟨#[32]⟩ : ByteArray)).bind fun t141 => (some (t141, 0))) = some (r1, r2) := by first | (rw [hy138]; with_reducible exact H) | (have H2_ := (Option.bind_some _ _).symm.trans H; rw [hy138]; with_reducible exact H2_) | (have H2_ := (Option.bind_some _ _).symm.trans H; with_reducible exact H2_) | with_reducible exact H | (rw [hy138]; exact H) | exact H
          have Ny138 := Aside0.mk hy138
          clear hy138
          replace H := Option.bind_eq_some_iff.mp H
          obtain ⟨t141, A90, H⟩ := H
          replace H : (some (t141, 0)) = some (r1, r2) := H
          have A9 := Aside0.mk A90
          clear A90
          simp only [Option.some.injEq, Prod.mk.injEq] at H
          obtain ⟨rfl, rfl⟩ := H
          go_enter Tryz.func29, Tryz.ntmps29
          try go_wp2_with (first | ((with_reducible refine gate_dst (N := 1) rfl ?_); refine box_event ?hg (N := 1) ?hd (cs := #[.string a0_0, .string a0_1, .int .i64 a0_2, .string a0_3, .int .i64 a0_4, .slice A0_5 l0_5.length c0_5, .string a0_6]) (t := 27) ?hr ?_; (case hd => rfl); (case hg => rfl); (case hr => first | (go_simp; done) | (go_simp; rfl)); intro gb126 hg w10 hbox hb; have n0_ := Aside0.mk (below_step (by repeat (first | (with_reducible first | exact HB.out | apply below_alloc | apply pw_below_drewN | apply below_drew1) | exact HB.out)) hb); have n1_ := Aside0.mk (hbox); have n2_ := Aside0.mk ((by rw [hg]; exact (below_size (by repeat (first | (with_reducible first | exact HB.out | apply below_alloc | apply pw_below_drewN | apply below_drew1) | exact HB.out))) : w.heap.size ≤ gb126)); have n3_ := Aside0.mk ((by rw [hg]; exact (below_size (by repeat (first | (with_reducible first | exact HB.out | apply below_alloc | apply pw_below_drewN | apply below_drew1) | exact HB.out))) : w.heap.size ≤ gb126)); clear HB; have HB := n0_; have BK126 := n1_; have GW126 := n2_; have GE126 := n3_; clear n0_ n1_ n2_ n3_; clear hb hbox hg; have hcz11_0 : w10.cell? ⟨gb126, 0, none⟩ = some (.string a0_0) := (blk_cell BK126.out 0).trans rfl; have hcz11_1 : w10.cell? ⟨gb126, 1, none⟩ = some (.string a0_1) := (blk_cell BK126.out 1).trans rfl; have hcz11_2 : w10.cell? ⟨gb126, 2, none⟩ = some (.int .i64 a0_2) := (blk_cell BK126.out 2).trans rfl; have hcz11_3 : w10.cell? ⟨gb126, 3, none⟩ = some (.string a0_3) := (blk_cell BK126.out 3).trans rfl; have hcz11_4 : w10.cell? ⟨gb126, 4, none⟩ = some (.int .i64 a0_4) := (blk_cell BK126.out 4).trans rfl; have hcz11_5 : w10.cell? ⟨gb126, 5, none⟩ = some (.slice A0_5 l0_5.length c0_5) := (blk_cell BK126.out 5).trans rfl; have hcz11_6 : w10.cell? ⟨gb126, 6, none⟩ = some (.string a0_6) := (blk_cell BK126.out 6).trans rfl; have hfz11_0 := blk_frozen BK126.out 0; have hfz11_1 := blk_frozen BK126.out 1; have hfz11_2 := blk_frozen BK126.out 2; have hfz11_3 := blk_frozen BK126.out 3; have hfz11_4 := blk_frozen BK126.out 4; have hfz11_5 := blk_frozen BK126.out 5; have hfz11_6 := blk_frozen BK126.out 6) | ((with_reducible refine gate_callee (f := 61) rfl ?_); refine goesL_ (some 12) rfl rfl Tryz.func61 (by kernel_rfl) rfl #[.string a0_1] rfl (by (try simp only [List.map_toArray, List.map_cons, List.map_nil]); first | done | rfl | (simp only [List.length_drop, List.length_take]; rfl)) ?_; (with_reducible refine (target_Normal.calls a0_1 t127 t128 t129 _ A2.out).mono ?_); rintro e w12 ⟨rfl, hb⟩; refine ⟨_, rfl, ?_⟩; have n0_ := Aside0.mk (blk_below (g := gb126) (o := .cells #[.string a0_0, .string a0_1, .int .i64 a0_2, .string a0_3, .int .i64 a0_4, .slice A0_5 l0_5.length c0_5, .string a0_6] 27 (0, 0)) (by (with_reducible repeat (first | refine blk_drewN ?_ _ | refine blk_drew ?_ | refine blk_alloc ?_ _)); exact BK126.out) hb); have n1_ := Aside0.mk (below_step (by repeat (first | (with_reducible first | exact HB.out | apply below_alloc | apply pw_below_drewN | apply below_drew1 | refine below_set ?_ GE126.out) | exact HB.out)) hb); clear BK126; clear HB; have BK126 := n0_; have HB := n1_; clear n0_ n1_; (try clear hb); (try clear hb2); (try clear hk); (try clear hi); have hcz13_0 : w12.cell? ⟨gb126, 0, none⟩ = some (.string a0_0) := (blk_cell BK126.out 0).trans rfl; have hcz13_1 : w12.cell? ⟨gb126, 1, none⟩ = some (.string a0_1) := (blk_cell BK126.out 1).trans rfl; have hcz13_2 : w12.cell? ⟨gb126, 2, none⟩ = some (.int .i64 a0_2) := (blk_cell BK126.out 2).trans rfl; have hcz13_3 : w12.cell? ⟨gb126, 3, none⟩ = some (.string a0_3) := (blk_cell BK126.out 3).trans rfl; have hcz13_4 : w12.cell? ⟨gb126, 4, none⟩ = some (.int .i64 a0_4) := (blk_cell BK126.out 4).trans rfl; have hcz13_5 : w12.cell? ⟨gb126, 5, none⟩ = some (.slice A0_5 l0_5.length c0_5) := (blk_cell BK126.out 5).trans rfl; have hcz13_6 : w12.cell? ⟨gb126, 6, none⟩ = some (.string a0_6) := (blk_cell BK126.out 6).trans rfl; have hfz13_0 := blk_frozen BK126.out 0; have hfz13_1 := blk_frozen BK126.out 1; have hfz13_2 := blk_frozen BK126.out 2; have hfz13_3 := blk_frozen BK126.out 3; have hfz13_4 := blk_frozen BK126.out 4; have hfz13_5 := blk_frozen BK126.out 5; have hfz13_6 := blk_frozen BK126.out 6) | ((with_reducible refine gate_callee (f := 51) rfl ?_); refine goesL_ (some 22) rfl rfl Tryz.func51 (by kernel_rfl) rfl #[.slice A0_5 l0_5.length c0_5, .string (⟨#[72, 111, 115, 116]⟩ : ByteArray)] rfl (by (try simp only [List.map_toArray, List.map_cons, List.map_nil]); first | done | rfl | (simp only [List.length_drop, List.length_take]; rfl)) ?_; (with_reducible refine (field_Get.calls k _ _ l0_5 (⟨#[72, 111, 115, 116]⟩ : ByteArray) t130 _ ?side1 ?side2 A4.out).mono ?_); (case side1 => repeat (first | exact (Kd.C_below HR0_5.out HB.out) | (with_reducible refine Kd.C_alloc ?_ _) | (with_reducible refine Kd.C_drewN ?_ _) | (with_reducible refine Kd.C_drew ?_))); (case side2 => exact HC0_5.out); rintro e w14 ⟨v131, rfl, ho0, hb⟩; refine ⟨_, rfl, ?_⟩; have n0_ := Aside0.mk (Kd.R_lower ho0 (below_size (by repeat (first | (with_reducible first | exact HB.out | apply below_alloc | apply pw_below_drewN | apply below_drew1 | refine below_set ?_ GE126.out) | exact HB.out)))); have n1_ := Aside0.mk (blk_below (g := gb126) (o := .cells #[.string a0_0, .string a0_1, .int .i64 a0_2, .string a0_3, .int .i64 a0_4, .slice A0_5 l0_5.length c0_5, .string a0_6] 27 (0, 0)) (by (with_reducible repeat (first | refine blk_drewN ?_ _ | refine blk_drew ?_ | refine blk_alloc ?_ _)); exact BK126.out) hb); have n2_ := Aside0.mk (below_step (by repeat (first | (with_reducible first | exact HB.out | apply below_alloc | apply pw_below_drewN | apply below_drew1 | refine below_set ?_ GE126.out) | exact HB.out)) hb); clear BK126; clear HB; have HO132 := n0_; have BK126 := n1_; have HB := n2_; clear n0_ n1_ n2_; (try clear hb); (try clear hb2); (try clear hk); (try clear hi); (try clear ho0)) | ((with_reducible refine gate_builtin (b := .append) (xs := #[.tmp 22, .tmp 23]) rfl ?_); at_builtin; refine Kd.R_append Kd.string (w0 := w) w.heap.size rfl (.tmp 22) (.tmp 23) 29 9 (.string ⟨#[]⟩) 16 rfl Tryz.underlying29 info9 rfl (by decide) (by omega) v131 t130 (⟨#[]⟩ : ByteArray) [.string (⟨#[]⟩ : ByteArray)] (fun _ => True) (fun _ => False) rfl rfl ?aP (fun _ hk => hk.elim) ?aF ?aO ?aB ?aS ?aL ?_; (case aP => exact rfl); (case aB => exact (by repeat (first | (with_reducible first | exact HB.out | apply below_alloc | apply pw_below_drewN | apply below_drew1 | refine below_set ?_ GE126.out) | exact HB.out))); (case aF => exact (fun _ _ => trivial)); (case aO => exact (by (with_reducible repeat (first | apply Kd.R_alloc | apply Kd.R_drewN | apply Kd.R_drew)); exact HO132.out)); (case aS => exact (below_size (by repeat (first | (with_reducible first | exact HB.out | apply below_alloc | apply pw_below_drewN | apply below_drew1 | refine below_set ?_ GE126.out) | exact HB.out)))); (case aL => have := LMc5.out; omega); intro v134 w15 ho hb hg hat; rw [← Ny133.out] at ho; have n0_ := Aside0.mk (blk_grown (g := gb126) (o := .cells #[.string a0_0, .string a0_1, .int .i64 a0_2, .string a0_3, .int .i64 a0_4, .slice A0_5 l0_5.length c0_5, .string a0_6] 27 (0, 0)) (by (with_reducible repeat (first | refine blk_drewN ?_ _ | refine blk_drew ?_ | refine blk_alloc ?_ _)); exact BK126.out) hg (Kd.R_ne HO132.out BK126.out (by decide))); have n1_ := Aside0.mk (hb); have n2_ := Aside0.mk (ho); clear BK126; clear HB; clear HO132; have BK126 := n0_; have HB := n1_; have HO135 := n2_; clear n0_ n1_ n2_; clear ho hb hg hat; obtain ⟨Ao16, co16, eo16⟩ := Kd.R_slice HO135.out; subst eo16; have p136 : 0 ≤ (0 : Int) := (by omega); have q136 : 0 < (y133.length : Int) := of_decide_eq_true (by first | (with_reducible assumption) | assumption); obtain ⟨ad136, e136, hx136_0⟩ := Kd.at_string (Kd.R_reads' HO135.out).2.2 0 p136 q136; cases e136; have qi136 : (0 < y133.length) = True := eq_true (by omega); (try rw [show ((0 : Int)).toNat = 0 from rfl] at hx136_0); (try rw [Addr.add_zero'] at hx136_0); replace p136 := eq_true p136; replace q136 := eq_true q136))
          have n0_ := Aside0.mk (Kd.R_drew HO135.out)
          have n1_ := Aside0.mk (blk_drew BK126.out)
          have n2_ := Aside0.mk (below_drew1 HB.out)
          clear HO135
          clear BK126
          clear HB
          have HO135 := n0_
          have BK126 := n1_
          have HB := n2_
          clear n0_ n1_ n2_
          refine start_ (n := 12) (S := fun w' => w'.cell? ⟨gb126, 0, none⟩ = some (.string a0_0) ∧ w'.cell? ⟨gb126, 1, none⟩ = some (.string a0_1) ∧ w'.cell? ⟨gb126, 2, none⟩ = some (.int .i64 a0_2) ∧ w'.cell? ⟨gb126, 3, none⟩ = some (.string a0_3) ∧ w'.cell? ⟨gb126, 4, none⟩ = some (.int .i64 a0_4) ∧ w'.cell? ⟨gb126, 5, none⟩ = some (.slice A0_5 l0_5.length c0_5) ∧ w'.cell? ⟨gb126, 6, none⟩ = some (.string a0_6)) (ds := []) #[false, false, false, false, false, false, false, false, false, false, false, false] (by kernel_rfl) rfl rfl ⟨(blk_cell BK126.out 0).trans rfl, (blk_cell BK126.out 1).trans rfl, (blk_cell BK126.out 2).trans rfl, (blk_cell BK126.out 3).trans rfl, (blk_cell BK126.out 4).trans rfl, (blk_cell BK126.out 5).trans rfl, (blk_cell BK126.out 6).trans rfl⟩ (fun hHeld => ?_); refine with_tabW key_Key.tab5 key_Key.bits5 (fun HT_ HW_ => ?_)
          generalize w15.drew = w17 at HO135 BK126 HB hHeld ⊢
          refine pure_ (i := 0) (N := some 27) (v := ?_) (a' := ?_) #[true, false, false, false, false, false, false, false, false, false, false, false] rfl rfl (any_of HT_.out (by kernel_rfl)) (fun _ _ _ h => h) (Or.inl ⟨by rfl, ?_⟩) ?_ ?_
          rotate_left
          · intro w'
            go_simp
            with_reducible rfl
          rotate_left
          · simp only [Act.put, List.setIfInBounds_toArray, List.set_cons_zero, List.set_cons_succ, i64_w, i32_w]
            rfl
          refine pure_ (i := 1) (N := some 28) (v := ?_) (a' := ?_) #[true, true, false, false, false, false, false, false, false, false, false, false] rfl rfl (any_of HT_.out (by kernel_rfl)) (fun _ _ _ h => h) (Or.inl ⟨by rfl, ?_⟩) ?_ ?_
          rotate_left
          · intro w'
            go_simp
            with_reducible rfl
          rotate_left
          · simp only [Act.put, List.setIfInBounds_toArray, List.set_cons_zero, List.set_cons_succ, i64_w, i32_w]
            rfl
          refine pure_ (i := 3) (N := some 30) (v := ?_) (a' := ?_) #[true, true, false, true, false, false, false, false, false, false, false, false] rfl rfl (any_of HT_.out (by kernel_rfl)) (fun _ _ _ h => h) (Or.inl ⟨by rfl, ?_⟩) ?_ ?_
          rotate_left
          · intro w'
            go_simp
            with_reducible rfl
          rotate_left
          · simp only [Act.put, List.setIfInBounds_toArray, List.set_cons_zero, List.set_cons_succ, i64_w, i32_w]
            rfl
          refine pure_ (i := 5) (N := some 32) (v := ?_) (a' := ?_) #[true, true, false, true, false, true, false, false, false, false, false, false] rfl rfl (any_of HT_.out (by kernel_rfl)) (fun _ _ _ h => h) (Or.inl ⟨by rfl, ?_⟩) ?_ ?_
          rotate_left
          · intro w'
            go_simp
            with_reducible rfl
          rotate_left
          · simp only [Act.put, List.setIfInBounds_toArray, List.set_cons_zero, List.set_cons_succ, i64_w, i32_w]
            rfl
          refine pure_ (i := 6) (N := some 33) (v := ?_) (a' := ?_) #[true, true, false, true, false, true, true, false, false, false, false, false] rfl rfl (any_of HT_.out (by kernel_rfl)) (fun _ _ _ h => h) (Or.inl ⟨by rfl, ?_⟩) ?_ ?_
          rotate_left
          · intro w'
            go_simp
            with_reducible rfl
          rotate_left
          · simp only [Act.put, List.setIfInBounds_toArray, List.set_cons_zero, List.set_cons_succ, i64_w, i32_w]
            rfl
          refine pure_ (i := 7) (N := some 34) (v := ?_) (a' := ?_) #[true, true, false, true, false, true, true, true, false, false, false, false] rfl rfl (any_of HT_.out (by kernel_rfl)) (fun _ _ _ h => h) (Or.inl ⟨by rfl, ?_⟩) ?_ ?_
          rotate_left
          · intro w'
            go_simp
            with_reducible rfl
          rotate_left
          · simp only [Act.put, List.setIfInBounds_toArray, List.set_cons_zero, List.set_cons_succ, i64_w, i32_w]
            rfl
          refine take_ (i := 2) (N := some 29) (v := ?_) (a' := ?_) #[true, true, true, true, false, true, true, true, false, false, false, false] rfl rfl (take_ofW HT_.out HW_.out (by kernel_rfl)) (fun _ _ _ h => h) (Or.inl ⟨by rfl, ?_⟩) hHeld ?_ ?_
          rotate_left
          · rintro w' ⟨s0, s1, s2, s3, s4, s5, s6⟩
            go_simp
            with_reducible rfl
          rotate_left
          · simp only [Act.put, List.setIfInBounds_toArray, List.set_cons_zero, List.set_cons_succ, i64_w, i32_w]
            rfl
          refine one_ (i := 4) (N := some 31) #[true, true, true, true, true, true, true, true, false, false, false, false] rfl rfl (one_of HT_.out (by kernel_rfl)) (by decide) (fun K hK => ?_)
          refine goes_ Tryz.func59 (by kernel_rfl) rfl #[.string (rdOf ByteArray.empty y133 0)] (by rfl) rfl rfl (by (try simp only [List.map_toArray, List.map_cons, List.map_nil]); first | done | rfl | (simp only [List.length_drop, List.length_take]; rfl)) ?_
          with_reducible refine (field_Lower.calls (rdOf ByteArray.empty y133 0) t137 _ A7.out).mono ?_
          rintro e w18 ⟨rfl, hb⟩
          refine ⟨_, rfl, ?_⟩
          have n0_ := Aside0.mk (Kd.R_below (by (with_reducible repeat (first | apply Kd.R_alloc | apply Kd.R_drewN | apply Kd.R_drew)); exact HO135.out) hb)
          have n1_ := Aside0.mk (blk_below (g := gb126) (o := .cells #[.string a0_0, .string a0_1, .int .i64 a0_2, .string a0_3, .int .i64 a0_4, .slice A0_5 l0_5.length c0_5, .string a0_6] 27 (0, 0)) (by (with_reducible repeat (first | refine blk_drewN ?_ _ | refine blk_drew ?_ | refine blk_alloc ?_ _)); exact BK126.out) hb)
          have n2_ := Aside0.mk (below_step (by repeat (first | (with_reducible first | exact HB.out | apply below_alloc | apply pw_below_drewN | apply below_drew1 | refine below_set ?_ GE126.out) | exact HB.out)) hb)
          clear HO135
          clear BK126
          clear HB
          have HO135 := n0_
          have BK126 := n1_
          have HB := n2_
          clear n0_ n1_ n2_
          (try clear hb)
          (try clear hb2)
          (try clear hk)
          (try clear hi)
          refine hK.out _ _ ⟨(blk_cell BK126.out 0).trans rfl, (blk_cell BK126.out 1).trans rfl, (blk_cell BK126.out 2).trans rfl, (blk_cell BK126.out 3).trans rfl, (blk_cell BK126.out 4).trans rfl, (blk_cell BK126.out 5).trans rfl, (blk_cell BK126.out 6).trans rfl⟩ (fun hHeld => ?_)
          clear hK K
          refine norm_ (a' := ?_) ?_ ?_
          rotate_left
          · show Act.put _ (some 31) _ = _
            simp only [Act.put, List.setIfInBounds_toArray, List.set_cons_zero, List.set_cons_succ, i64_w, i32_w]
            rfl
          refine one_ (i := 8) (N := some 35) #[true, true, true, true, true, true, true, true, true, false, false, false] rfl rfl (one_of HT_.out (by kernel_rfl)) (by decide) (fun K hK => ?_)
          refine Kd.R_lit_step Kd.string _ 9 ?hg (N := 35) ?hd (xs := ([a0_0, t137, t127 ++ t128] : List ByteArray)) (inner := [.string a0_0, .string t137, .string (t127 ++ t128)]) (ok := fun _ => True) (okp := fun _ => True) ?hr ?hp (fun _ hk => hk) trivial (Below.refl _ _) (Nat.le_refl _) (by simp) ?_; (case hd => rfl); (case hg => rfl); (case hr => first | (go_simp; done) | (go_simp; rfl)); (case hp => exact (Reps.one (show Kd.M Kd.string _ _ _ a0_0 [.string a0_0] from rfl) (Reps.one (show Kd.M Kd.string _ _ _ t137 [.string t137] from rfl) (Reps.one (show Kd.M Kd.string _ _ _ (t127 ++ t128) [.string (t127 ++ t128)] from rfl) (Reps.none _ _)))))
          intro v139 w19 ho20 hb hg_ hnew_
          clear hg_ hnew_
          (first | rw [← Ny138.out] at ho20 | (simp only [Int.reduceToNat] at ho20; rw [← Ny138.out] at ho20))
          have n0_ := Aside0.mk (Kd.R_elder' (by (with_reducible repeat (first | apply Kd.R_alloc | apply Kd.R_drewN | apply Kd.R_drew)); exact HO135.out) (Kd.R_base ho20) hb)
          have n1_ := Aside0.mk (Kd.R_lower (Kd.R_new' ho20 (Kd.R_lt (by (with_reducible repeat (first | apply Kd.R_alloc | apply Kd.R_drewN | apply Kd.R_drew)); exact HO135.out))) (below_size (by repeat (first | (with_reducible first | exact HB.out | apply below_alloc | apply pw_below_drewN | apply below_drew1 | refine below_set ?_ GE126.out) | exact HB.out))))
          have n2_ := Aside0.mk (blk_below (g := gb126) (o := .cells #[.string a0_0, .string a0_1, .int .i64 a0_2, .string a0_3, .int .i64 a0_4, .slice A0_5 l0_5.length c0_5, .string a0_6] 27 (0, 0)) (by (with_reducible repeat (first | refine blk_drewN ?_ _ | refine blk_drew ?_ | refine blk_alloc ?_ _)); exact BK126.out) hb)
          have n3_ := Aside0.mk (below_step (by repeat (first | (with_reducible first | exact HB.out | apply below_alloc | apply pw_below_drewN | apply below_drew1 | refine below_set ?_ GE126.out) | exact HB.out)) hb)
          clear HO135
          clear BK126
          clear HB
          have HO135 := n0_
          have HO140 := n1_
          have BK126 := n2_
          have HB := n3_
          clear n0_ n1_ n2_ n3_
          clear hb ho20
          obtain ⟨Ao21, co21, eo21⟩ := Kd.R_slice HO140.out
          (first | subst eo21 | (injection eo21 with f1_ f2_ f3_; have f4_ := f1_.symm; have f5_ := f3_.symm; clear f1_ f2_ f3_; subst f4_; subst f5_))
          refine hK.out _ _ ⟨(blk_cell BK126.out 0).trans rfl, (blk_cell BK126.out 1).trans rfl, (blk_cell BK126.out 2).trans rfl, (blk_cell BK126.out 3).trans rfl, (blk_cell BK126.out 4).trans rfl, (blk_cell BK126.out 5).trans rfl, (blk_cell BK126.out 6).trans rfl⟩ (fun hHeld => ?_)
          clear hK K
          refine norm_ (a' := ?_) ?_ ?_
          rotate_left
          · show Act.put _ (some 35) _ = _
            simp only [Act.put, List.setIfInBounds_toArray, List.set_cons_zero, List.set_cons_succ, i64_w, i32_w]
            rfl
          refine one_ (i := 9) (N := some 36) #[true, true, true, true, true, true, true, true, true, true, false, false] rfl rfl (one_of HT_.out (by kernel_rfl)) (by decide) (fun K hK => ?_)
          refine goes_ Tryz.func62 (by kernel_rfl) rfl #[.slice Ao21 y138.length co21, .string (⟨#[32]⟩ : ByteArray)] (by rfl) rfl rfl (by (try simp only [List.map_toArray, List.map_cons, List.map_nil]); first | done | rfl | (simp only [List.length_drop, List.length_take]; rfl)) ?_
          with_reducible refine (strings_Join.calls _ _ y138 (⟨#[32]⟩ : ByteArray) t141 _ ?side1 ?side2 A9.out).mono ?_
          (case side1 => repeat (first | exact (Kd.R_reads' HO140.out).2.2 | (with_reducible refine Kd.C_alloc ?_ _) | (with_reducible refine Kd.C_drewN ?_ _) | (with_reducible refine Kd.C_drew ?_)))
          (case side2 => exact (Kd.R_reads' HO140.out).2.1)
          rintro e w22 ⟨rfl, hb⟩
          refine ⟨_, rfl, ?_⟩
          have n0_ := Aside0.mk (Kd.R_below (by (with_reducible repeat (first | apply Kd.R_alloc | apply Kd.R_drewN | apply Kd.R_drew)); exact HO135.out) hb)
          have n1_ := Aside0.mk (Kd.R_below (by (with_reducible repeat (first | apply Kd.R_alloc | apply Kd.R_drewN | apply Kd.R_drew)); exact HO140.out) hb)
          have n2_ := Aside0.mk (blk_below (g := gb126) (o := .cells #[.string a0_0, .string a0_1, .int .i64 a0_2, .string a0_3, .int .i64 a0_4, .slice A0_5 l0_5.length c0_5, .string a0_6] 27 (0, 0)) (by (with_reducible repeat (first | refine blk_drewN ?_ _ | refine blk_drew ?_ | refine blk_alloc ?_ _)); exact BK126.out) hb)
          have n3_ := Aside0.mk (below_step (by repeat (first | (with_reducible first | exact HB.out | apply below_alloc | apply pw_below_drewN | apply below_drew1 | refine below_set ?_ GE126.out) | exact HB.out)) hb)
          clear HO135
          clear HO140
          clear BK126
          clear HB
          have HO135 := n0_
          have HO140 := n1_
          have BK126 := n2_
          have HB := n3_
          clear n0_ n1_ n2_ n3_
          (try clear hb)
          (try clear hb2)
          (try clear hk)
          (try clear hi)
          refine hK.out _ _ ⟨(blk_cell BK126.out 0).trans rfl, (blk_cell BK126.out 1).trans rfl, (blk_cell BK126.out 2).trans rfl, (blk_cell BK126.out 3).trans rfl, (blk_cell BK126.out 4).trans rfl, (blk_cell BK126.out 5).trans rfl, (blk_cell BK126.out 6).trans rfl⟩ (fun hHeld => ?_)
          clear hK K
          refine norm_ (a' := ?_) ?_ ?_
          rotate_left
          · show Act.put _ (some 36) _ = _
            simp only [Act.put, List.setIfInBounds_toArray, List.set_cons_zero, List.set_cons_succ, i64_w, i32_w]
            rfl
          refine pure_ (i := 10) (N := some 2) (v := ?_) (a' := ?_) #[true, true, true, true, true, true, true, true, true, true, true, false] rfl rfl (any_of HT_.out (by kernel_rfl)) (fun _ _ _ h => h) (Or.inl ⟨by rfl, ?_⟩) ?_ ?_
          rotate_left
          · intro w'
            go_simp
            with_reducible rfl
          rotate_left
          · simp only [Act.put, List.setIfInBounds_toArray, List.set_cons_zero, List.set_cons_succ, i64_w, i32_w]
            rfl
          refine pure_ (i := 11) (N := some 3) (v := ?_) (a' := ?_) #[true, true, true, true, true, true, true, true, true, true, true, true] rfl rfl (any_of HT_.out (by kernel_rfl)) (fun _ _ _ h => h) (Or.inl ⟨by rfl, ?_⟩) ?_ ?_
          rotate_left
          · intro w'
            go_simp
            with_reducible rfl
          rotate_left
          · simp only [Act.put, List.setIfInBounds_toArray, List.set_cons_zero, List.set_cons_succ, i64_w, i32_w]
            rfl
          refine done_ (done_of HT_.out (by kernel_rfl)) ?_
          try go_wp2
          go_ret2
          exact ⟨by first | rfl | (simp [errW_none, errW_some] <;> rfl) | (simp [*, errW_none, errW_some] <;> rfl), by repeat (first | (with_reducible first | exact HB.out | apply below_alloc | apply pw_below_drewN | apply below_drew1 | refine below_set ?_ GE126.out) | exact HB.out)⟩
        · rw [if_neg c8] at H
          exact absurd H (by simp)
      · rw [if_neg c6] at H
        exact absurd H (by simp)
    · rw [if_neg c5] at H
      exact absurd H (by simp)
  · rw [if_neg c3] at H
    have c3b0 : (t129 == 0) = false := beq_eq_false_iff_ne.mpr c3
    have c3b1 : (t129 != 0) = true := bne_iff_ne.mpr c3
    simp only [Option.some.injEq, Prod.mk.injEq] at H
    obtain ⟨rfl, rfl⟩ := H
    go_enter Tryz.func29, Tryz.ntmps29
    go_wp2_with (first | ((with_reducible refine gate_dst (N := 1) rfl ?_); refine box_event ?hg (N := 1) ?hd (cs := #[.string a0_0, .string a0_1, .int .i64 a0_2, .string a0_3, .int .i64 a0_4, .slice A0_5 l0_5.length c0_5, .string a0_6]) (t := 27) ?hr ?_; (case hd => rfl); (case hg => rfl); (case hr => first | (go_simp; done) | (go_simp; rfl)); intro gb126 hg w23 hbox hb; have n0_ := Aside0.mk (below_step (by repeat (first | (with_reducible first | exact HB.out | apply below_alloc | apply pw_below_drewN | apply below_drew1) | exact HB.out)) hb); have n1_ := Aside0.mk (hbox); have n2_ := Aside0.mk ((by rw [hg]; exact (below_size (by repeat (first | (with_reducible first | exact HB.out | apply below_alloc | apply pw_below_drewN | apply below_drew1) | exact HB.out))) : w.heap.size ≤ gb126)); have n3_ := Aside0.mk ((by rw [hg]; exact (below_size (by repeat (first | (with_reducible first | exact HB.out | apply below_alloc | apply pw_below_drewN | apply below_drew1) | exact HB.out))) : w.heap.size ≤ gb126)); clear HB; have HB := n0_; have BK126 := n1_; have GW126 := n2_; have GE126 := n3_; clear n0_ n1_ n2_ n3_; clear hb hbox hg; have hcz24_0 : w23.cell? ⟨gb126, 0, none⟩ = some (.string a0_0) := (blk_cell BK126.out 0).trans rfl; have hcz24_1 : w23.cell? ⟨gb126, 1, none⟩ = some (.string a0_1) := (blk_cell BK126.out 1).trans rfl; have hcz24_2 : w23.cell? ⟨gb126, 2, none⟩ = some (.int .i64 a0_2) := (blk_cell BK126.out 2).trans rfl; have hcz24_3 : w23.cell? ⟨gb126, 3, none⟩ = some (.string a0_3) := (blk_cell BK126.out 3).trans rfl; have hcz24_4 : w23.cell? ⟨gb126, 4, none⟩ = some (.int .i64 a0_4) := (blk_cell BK126.out 4).trans rfl; have hcz24_5 : w23.cell? ⟨gb126, 5, none⟩ = some (.slice A0_5 l0_5.length c0_5) := (blk_cell BK126.out 5).trans rfl; have hcz24_6 : w23.cell? ⟨gb126, 6, none⟩ = some (.string a0_6) := (blk_cell BK126.out 6).trans rfl; have hfz24_0 := blk_frozen BK126.out 0; have hfz24_1 := blk_frozen BK126.out 1; have hfz24_2 := blk_frozen BK126.out 2; have hfz24_3 := blk_frozen BK126.out 3; have hfz24_4 := blk_frozen BK126.out 4; have hfz24_5 := blk_frozen BK126.out 5; have hfz24_6 := blk_frozen BK126.out 6) | ((with_reducible refine gate_callee (f := 61) rfl ?_); refine goesL_ (some 12) rfl rfl Tryz.func61 (by kernel_rfl) rfl #[.string a0_1] rfl (by (try simp only [List.map_toArray, List.map_cons, List.map_nil]); first | done | rfl | (simp only [List.length_drop, List.length_take]; rfl)) ?_; (with_reducible refine (target_Normal.calls a0_1 t127 t128 t129 _ A2.out).mono ?_); rintro e w25 ⟨rfl, hb⟩; refine ⟨_, rfl, ?_⟩; have n0_ := Aside0.mk (blk_below (g := gb126) (o := .cells #[.string a0_0, .string a0_1, .int .i64 a0_2, .string a0_3, .int .i64 a0_4, .slice A0_5 l0_5.length c0_5, .string a0_6] 27 (0, 0)) (by (with_reducible repeat (first | refine blk_drewN ?_ _ | refine blk_drew ?_ | refine blk_alloc ?_ _)); exact BK126.out) hb); have n1_ := Aside0.mk (below_step (by repeat (first | (with_reducible first | exact HB.out | apply below_alloc | apply pw_below_drewN | apply below_drew1 | refine below_set ?_ GE126.out) | exact HB.out)) hb); clear BK126; clear HB; have BK126 := n0_; have HB := n1_; clear n0_ n1_; (try clear hb); (try clear hb2); (try clear hk); (try clear hi)))
    go_ret2
    exact ⟨by first | rfl | (simp [errW_none, errW_some] <;> rfl) | (simp [*, errW_none, errW_some] <;> rfl), by repeat (first | (with_reducible first | exact HB.out | apply below_alloc | apply pw_below_drewN | apply below_drew1 | refine below_set ?_ GE126.out) | exact HB.out)⟩
end Go.Proofs.YtalafpigfeiaiaaGreatDoor.Q
end
section
namespace Go.Proofs
open Go.Shelf
def Tryz.keys57_ren : Go.Shelf.Ren := ⟨fun | 7 => 57 | 10 => 85 | n => n, fun | 23 => 87 | 26 => 9 | 3 => 88 | 28 => 92 | 0 => 0 | 27 => 91 | 33 => 83 | 4 => 4 | n => n, fun | n => n⟩
theorem Tryz.keys57 : Go.Proofs.SlLaysZ.n7 Tryz.prog Tryz.keys57_ren := {
  mixed := by kernel_rfl
  f7 := ⟨Tryz.f57.name, by decide, Tryz.func57.trans (congrArg some (by kernel_rfl))⟩
  f10 := ⟨Tryz.f85.name, by decide, Tryz.func85.trans (congrArg some (by kernel_rfl))⟩
  t0 := Tryz.underlying0
  a0 := Tryz.isAgg0
  z0 := Tryz.sizeOf0
  v0 := Tryz.zeroValue0
  t4 := Tryz.underlying4
  a4 := Tryz.isAgg4
  z4 := Tryz.sizeOf4
  v4 := Tryz.zeroValue4
  t23 := Tryz.underlying87
  a23 := Tryz.isAgg87
  z23 := Tryz.sizeOf87
  v23 := Tryz.zeroValue87
  t26 := Tryz.underlying9
  a26 := Tryz.isAgg9
  z26 := Tryz.sizeOf9
  v26 := Tryz.zeroValue9
  t27 := Tryz.underlying91
  a27 := Tryz.isAgg91
  z27 := Tryz.sizeOf91
  v27 := Tryz.zeroValue91
  t28 := Tryz.underlying92
  a28 := Tryz.isAgg92
  z28 := Tryz.sizeOf92
  v28 := Tryz.zeroValue92
  t33 := Tryz.underlying83
  a33 := Tryz.isAgg83
  z33 := Tryz.sizeOf83
  v33 := Tryz.zeroValue83 }
def Tryz.sorted56_ren : Go.Shelf.Ren := ⟨fun | 6 => 56 | 8 => 83 | 9 => 84 | 11 => 119 | 13 => 121 | 12 => 120 | 23 => 165 | 24 => 166 | 14 => 156 | 15 => 157 | 16 => 158 | 17 => 159 | 18 => 160 | 19 => 161 | 20 => 162 | 21 => 163 | 22 => 164 | 25 => 199 | 26 => 200 | 27 => 201 | 28 => 202 | 29 => 203 | 30 => 204 | 31 => 235 | n => n, fun | 26 => 9 | 28 => 92 | 24 => 29 | 0 => 0 | 3 => 3 | 37 => 145 | 48 => 176 | 50 => 178 | 4 => 4 | 40 => 169 | 39 => 168 | 45 => 173 | 5 => 5 | 9 => 9 | 51 => 200 | 55 => 204 | 57 => 230 | 58 => 231 | 33 => 83 | n => n, fun | n => n⟩
theorem Tryz.sorted56 : Go.Proofs.SlLaysZ.n6 Tryz.prog Tryz.sorted56_ren := {
  mixed := by kernel_rfl
  f6 := ⟨Tryz.f56.name, by decide, Tryz.func56.trans (congrArg some (by kernel_rfl))⟩
  f8 := ⟨Tryz.f83.name, by decide, Tryz.func83.trans (congrArg some (by kernel_rfl))⟩
  f11 := ⟨Tryz.f119.name, by decide, Tryz.func119.trans (congrArg some (by kernel_rfl))⟩
  t0 := Tryz.underlying0
  a0 := Tryz.isAgg0
  z0 := Tryz.sizeOf0
  v0 := Tryz.zeroValue0
  t24 := Tryz.underlying29
  a24 := Tryz.isAgg29
  z24 := Tryz.sizeOf29
  v24 := Tryz.zeroValue29
  t26 := Tryz.underlying9
  a26 := Tryz.isAgg9
  z26 := Tryz.sizeOf9
  v26 := Tryz.zeroValue9
  t28 := Tryz.underlying92
  a28 := Tryz.isAgg92
  z28 := Tryz.sizeOf92
  v28 := Tryz.zeroValue92
  i26 := by kernel_rfl }
def Tryz.sort84_ren : Go.Shelf.Ren := ⟨fun | 6 => 84 | 8 => 121 | 9 => 120 | 19 => 165 | 20 => 166 | 21 => 156 | 22 => 157 | 23 => 158 | 24 => 159 | 25 => 160 | 26 => 161 | 27 => 162 | 28 => 163 | 29 => 164 | 36 => 199 | 31 => 200 | 32 => 201 | 37 => 202 | 38 => 203 | 39 => 204 | 41 => 235 | n => n, fun | 27 => 29 | 29 => 9 | 3 => 3 | 32 => 145 | 26 => 29 | 0 => 0 | 44 => 176 | 46 => 178 | 4 => 4 | 36 => 169 | 35 => 168 | 41 => 173 | 5 => 5 | 9 => 9 | 53 => 200 | 57 => 204 | 63 => 230 | 64 => 231 | n => n, fun | n => n⟩
theorem Tryz.sort84 : Go.Proofs.SlLaysM.n6 Tryz.prog Tryz.sort84_ren := {
  mixed := by kernel_rfl
  f6 := ⟨Tryz.f84.name, by decide, Tryz.func84.trans (congrArg some (by kernel_rfl))⟩
  f8 := Tryz.func121.trans (congrArg some (by kernel_rfl))
  f9 := ⟨Tryz.f120.name, by decide, Tryz.func120.trans (congrArg some (by kernel_rfl))⟩
  f19 := Tryz.func165.trans (congrArg some (by kernel_rfl))
  f20 := Tryz.func166.trans (congrArg some (by kernel_rfl))
  f21 := ⟨Tryz.f156.name, by decide, Tryz.func156.trans (congrArg some (by kernel_rfl))⟩
  f22 := ⟨Tryz.f157.name, by decide, Tryz.func157.trans (congrArg some (by kernel_rfl))⟩
  f23 := ⟨Tryz.f158.name, by decide, Tryz.func158.trans (congrArg some (by kernel_rfl))⟩
  f24 := ⟨Tryz.f159.name, by decide, Tryz.func159.trans (congrArg some (by kernel_rfl))⟩
  f25 := ⟨Tryz.f160.name, by decide, Tryz.func160.trans (congrArg some (by kernel_rfl))⟩
  f26 := ⟨Tryz.f161.name, by decide, Tryz.func161.trans (congrArg some (by kernel_rfl))⟩
  f27 := ⟨Tryz.f162.name, by decide, Tryz.func162.trans (congrArg some (by kernel_rfl))⟩
  f28 := ⟨Tryz.f163.name, by decide, Tryz.func163.trans (congrArg some (by kernel_rfl))⟩
  f29 := ⟨Tryz.f164.name, by decide, Tryz.func164.trans (congrArg some (by kernel_rfl))⟩
  f31 := Tryz.func200.trans (congrArg some (by kernel_rfl))
  f32 := Tryz.func201.trans (congrArg some (by kernel_rfl))
  f36 := ⟨Tryz.f199.name, by decide, Tryz.func199.trans (congrArg some (by kernel_rfl))⟩
  f37 := ⟨Tryz.f202.name, by decide, Tryz.func202.trans (congrArg some (by kernel_rfl))⟩
  f38 := ⟨Tryz.f203.name, by decide, Tryz.func203.trans (congrArg some (by kernel_rfl))⟩
  f39 := ⟨Tryz.f204.name, by decide, Tryz.func204.trans (congrArg some (by kernel_rfl))⟩
  f41 := ⟨Tryz.f235.name, by decide, Tryz.func235.trans (congrArg some (by kernel_rfl))⟩
  t0 := Tryz.underlying0
  a0 := Tryz.isAgg0
  z0 := Tryz.sizeOf0
  v0 := Tryz.zeroValue0
  t3 := Tryz.underlying3
  a3 := Tryz.isAgg3
  z3 := Tryz.sizeOf3
  v3 := Tryz.zeroValue3
  t4 := Tryz.underlying4
  a4 := Tryz.isAgg4
  z4 := Tryz.sizeOf4
  v4 := Tryz.zeroValue4
  t5 := Tryz.underlying5
  a5 := Tryz.isAgg5
  z5 := Tryz.sizeOf5
  v5 := Tryz.zeroValue5
  t9 := Tryz.underlying9
  a9 := Tryz.isAgg9
  z9 := Tryz.sizeOf9
  v9 := Tryz.zeroValue9
  t26 := Tryz.underlying29
  a26 := Tryz.isAgg29
  z26 := Tryz.sizeOf29
  v26 := Tryz.zeroValue29
  t27 := Tryz.underlying29
  a27 := Tryz.isAgg29
  z27 := Tryz.sizeOf29
  v27 := Tryz.zeroValue29
  t29 := Tryz.underlying9
  a29 := Tryz.isAgg9
  z29 := Tryz.sizeOf9
  v29 := Tryz.zeroValue9
  t32 := Tryz.underlying145
  a32 := Tryz.isAgg145
  z32 := Tryz.sizeOf145
  v32 := Tryz.zeroValue145
  t35 := Tryz.underlying168
  a35 := Tryz.isAgg168
  z35 := Tryz.sizeOf168
  v35 := Tryz.zeroValue168
  t36 := Tryz.underlying169
  a36 := Tryz.isAgg169
  z36 := Tryz.sizeOf169
  v36 := Tryz.zeroValue169
  t41 := Tryz.underlying173
  a41 := Tryz.isAgg173
  z41 := Tryz.sizeOf173
  v41 := Tryz.zeroValue173
  t44 := Tryz.underlying176
  a44 := Tryz.isAgg176
  z44 := Tryz.sizeOf176
  v44 := Tryz.zeroValue176
  t46 := Tryz.underlying178
  a46 := Tryz.isAgg178
  z46 := Tryz.sizeOf178
  v46 := Tryz.zeroValue178
  t53 := Tryz.underlying200
  a53 := Tryz.isAgg200
  z53 := Tryz.sizeOf200
  v53 := Tryz.zeroValue200
  t57 := Tryz.underlying204
  a57 := Tryz.isAgg204
  z57 := Tryz.sizeOf204
  v57 := Tryz.zeroValue204
  t63 := Tryz.underlying230
  a63 := Tryz.isAgg230
  z63 := Tryz.sizeOf230
  v63 := Tryz.zeroValue230
  t64 := Tryz.underlying231
  a64 := Tryz.isAgg231
  z64 := Tryz.sizeOf231
  v64 := Tryz.zeroValue231 }
end Go.Proofs
namespace Go.Proofs
open Go.RowKit Go.Maps Go.Sort Go.Shelf
theorem Tryz.sorts56 (m : Nat) : AnyZ.SortsIn Tryz.prog Tryz.sorted56_ren Fence.wide m :=
  ⟨fun blk off cap ss W hH hblk hsz => callsIn_wide.2 (AnyM.slices_Sort_string Tryz.sort84 blk off cap ss W hH hblk hsz),
   fun p cap W => callsIn_wide.2 (AnyM.slices_Sort_string_none Tryz.sort84 p cap W)⟩
theorem Tryz.maps_Keys_57 (mb : Option Nat) (W : World) : CallsIn Fence.wide 5 Tryz.prog 57 #[.map mb] W fun e w' => e = .returned (.func (.func 85) #[] #[.pointer (some ⟨W.heap.size, 0, none⟩)]) ∧ w' = W.alloc (.cells #[.map mb] 87) :=
  AnyZ.keys_in Tryz.keys57 Fence.wide 5 trivial rfl mb W
set_option maxHeartbeats 1000000 in
theorem Tryz.slices_Sorted_keys_56_57 {H : Type} (b nn : Nat) (D0 : DataW H) (R : Value → Option (DataW H × List MemPlace)) (w : World) (hown : w.ownsMap Tryz.prog 9 R b nn D0) (hmax : Maps.size D0 ≤ maxLen) (hbytes : Maps.size D0 * 16 ≤ 140737488355328) :
    CallsIn Fence.wide 5 Tryz.prog 56 #[.func (.func 85) #[] #[.pointer (some ⟨w.heap.size, 0, none⟩)]] (w.alloc (.cells #[.map (some b)] 87)) fun e w' => ∃ (v : Value) (ss : List (List UInt8)), e = .returned v ∧ ss.Perm (strKeys D0) ∧
      w'.ownsRow (w.alloc (.cells #[.map (some b)] 87)).heap.size 9 1 v ss.length ((ss.mergeSort (fun x y => decide (x ≤ y))).map encStr) ∧ (v = .slice none 0 0 ↔ ss = []) ∧ Below (w.alloc (.cells #[.map (some b)] 87)).heap.size (w.alloc (.cells #[.map (some b)] 87)) w' := by
  have hbl := hown.lt
  have hseq : SeqGives Fence.wide 2 Tryz.prog 85 #[.pointer (some ⟨w.heap.size, 0, none⟩)] encStr (fun ss => ss.Perm (strKeys D0)) (Maps.size D0) (w.alloc (.cells #[.map (some b)] 87)) :=
    AnyZ.keys_gives (ρ := Tryz.keys57_ren) { Tryz.keys57 with } Fence.wide _ trivial rfl (by omega) w.heap.size b nn D0 _ (by simp) (by simp) (by
      obtain ⟨es, clock, hb, Ft, hs, hD⟩ := hown
      exact ⟨es, clock, (Below.heap_alloc _ _ b hbl).trans hb, Ft, hs, hD⟩)
  exact AnyZ.sorted_in Tryz.sorted56 Fence.wide 5 trivial trivial trivial trivial rfl (by omega) (Tryz.sorts56 _) (enters_of Tryz.func84 (by kernel_rfl) rfl) 85 #[.pointer (some ⟨w.heap.size, 0, none⟩)] trivial (enters_of Tryz.func85 (by kernel_rfl) rfl) _ _ hmax hbytes _ hseq
end Go.Proofs
end
section
namespace Go.Proofs.YtalafpigfeiaiaaGreatDoor.Q
open Go.RowKit Go.Maps Go.Sort Go.WideMaps Go.Proofs.YtalafpigfeiaiaaGreatDoor.H Go.Proofs.YtalafpigfeiaiaaGreatDoorW.PrintWords
set_option linter.unusedVariables false
set_option linter.unusedSimpArgs false
theorem mem_addS {l : List ByteArray} {s y : ByteArray} : y ∈ addS l s → y = s ∨ y ∈ l := by
  intro h
  rcases List.mem_append.1 h with h | h
  · exact .inr (List.takeWhile_sublist _ |>.subset h)
  · rcases List.mem_cons.1 h with h | h
    · exact .inl h
    · exact .inr ((List.dropWhile_sublist _).subset (List.mem_filter.1 h).1)
theorem addS_mem {l : List ByteArray} {s y : ByteArray} : y = s ∨ y ∈ l → ∃ z ∈ addS l s, ul z = ul y := by
  rintro (rfl | h)
  · exact ⟨y, List.mem_append.2 (.inr (List.mem_cons_self)), rfl⟩
  · rw [← List.takeWhile_append_dropWhile (p := fun x => decide (ul x < ul s)) (l := l)] at h
    rcases List.mem_append.1 h with h | h
    · exact ⟨y, List.mem_append.2 (.inl h), rfl⟩
    · by_cases hq : ul y = ul s
      · exact ⟨s, List.mem_append.2 (.inr List.mem_cons_self), hq.symm⟩
      · exact ⟨y, List.mem_append.2 (.inr (List.mem_cons_of_mem _ (List.mem_filter.2 ⟨h, decide_eq_true hq⟩))), rfl⟩
def Rises (l : List ByteArray) : Prop := l.Pairwise (fun a b => ul a < ul b)
theorem takeWhile_lt {l : List ByteArray} {s x : ByteArray} (h : x ∈ l.takeWhile (fun x => decide (ul x < ul s))) : ul x < ul s := by
  induction l with
  | nil => simp at h
  | cons y l ih =>
    rw [List.takeWhile_cons] at h
    split at h
    · rcases List.mem_cons.1 h with rfl | h
      · rename_i hq; exact of_decide_eq_true hq
      · exact ih h
    · simp at h
theorem dropWhile_ge {l : List ByteArray} {s : ByteArray} (hr : Rises l) : ∀ x ∈ l.dropWhile (fun x => decide (ul x < ul s)), ¬ ul x < ul s := by
  induction l with
  | nil => simp
  | cons y l ih =>
    intro x hx
    have hr' := List.pairwise_cons.1 hr
    rw [List.dropWhile_cons] at hx
    split at hx
    · exact ih hr'.2 x hx
    · rename_i hq
      have hny : ¬ ul y < ul s := fun h => hq (decide_eq_true h)
      rcases List.mem_cons.1 hx with rfl | hx
      · exact hny
      · exact fun h => hny (List.lt_trans (hr'.1 x hx) h)
theorem lt_of_not {a b : Str} (h1 : ¬ a < b) (h2 : a ≠ b) : b < a := by
  rcases List.le_total a b with h | h
  · exact absurd (List.le_antisymm h (List.not_lt.1 h1)) h2
  · rcases Decidable.em (b < a) with h3 | h3
    · exact h3
    · exact absurd (List.le_antisymm (List.not_lt.1 h3) (List.not_lt.1 h1)) h2
theorem addS_rises {l : List ByteArray} (h : Rises l) (s : ByteArray) : Rises (addS l s) := by
  have hsub : (l.takeWhile (fun x => decide (ul x < ul s)) ++ (l.dropWhile (fun x => decide (ul x < ul s))).filter (fun x => decide (ul x ≠ ul s))).Sublist l := by
    conv => rhs; rw [← List.takeWhile_append_dropWhile (p := fun x => decide (ul x < ul s)) (l := l)]
    exact List.Sublist.append (List.Sublist.refl _) List.filter_sublist
  have h1 := List.Pairwise.sublist hsub h
  rw [List.pairwise_append] at h1
  unfold Rises addS
  rw [List.pairwise_append]
  refine ⟨h1.1, List.pairwise_cons.2 ⟨fun x hx => ?_, h1.2.1⟩, fun a ha b hb => ?_⟩
  · obtain ⟨hx1, hx2⟩ := List.mem_filter.1 hx
    exact lt_of_not (dropWhile_ge h x hx1) (of_decide_eq_true hx2)
  · rcases List.mem_cons.1 hb with rfl | hb
    · exact takeWhile_lt ha
    · exact h1.2.2 a ha b hb
theorem sorted_foldl : ∀ (its acc : List ByteArray), Rises acc → Rises (its.foldl addS acc) ∧ ∀ y : Str, y ∈ (its.foldl addS acc).map ul ↔ y ∈ acc.map ul ∨ y ∈ its.map ul
  | [], acc, h => ⟨h, fun y => by simp⟩
  | x :: its, acc, h => by
    obtain ⟨h1, h2⟩ := sorted_foldl its (addS acc x) (addS_rises h x)
    refine ⟨h1, fun y => ?_⟩
    rw [List.foldl_cons, h2 y]
    constructor
    · rintro (hy | hy)
      · obtain ⟨z, hz, rfl⟩ := List.mem_map.1 hy
        rcases mem_addS hz with rfl | hz
        · exact .inr (by simp)
        · exact .inl (List.mem_map.2 ⟨z, hz, rfl⟩)
      · exact .inr (by simp only [List.map_cons, List.mem_cons]; exact .inr hy)
    · rintro (hy | hy)
      · obtain ⟨z, hz, rfl⟩ := List.mem_map.1 hy
        obtain ⟨u, hu, he⟩ := addS_mem (s := x) (.inr hz)
        exact .inl (List.mem_map.2 ⟨u, hu, he⟩)
      · rw [List.map_cons] at hy
        rcases List.mem_cons.1 hy with hy | hy
        · obtain ⟨u, hu, he⟩ := addS_mem (l := acc) (s := x) (y := x) (.inl rfl)
          exact .inl (List.mem_map.2 ⟨u, hu, by rw [he, hy]⟩)
        · exact .inr hy
theorem sortD_map (its : List ByteArray) : ((sortD its).map ul).Pairwise (· < ·) ∧ ∀ y : Str, y ∈ (sortD its).map ul ↔ y ∈ its.map ul := by
  obtain ⟨h1, h2⟩ := sorted_foldl its [] List.Pairwise.nil
  exact ⟨List.pairwise_map.2 h1, fun y => by rw [sortD, h2 y]; simp⟩
def litOf (x : ByteArray) : Lit := .string (ul x)
def setS {H : Type} (its : List ByteArray) : DataW H := setOf (.agg []) (its.map litOf)
theorem isKey_lit (its : List ByteArray) : ∀ x ∈ its.map litOf, WideAt.IsKeyLit x := by
  intro x hx
  obtain ⟨y, _, rfl⟩ := List.mem_map.1 hx
  trivial
theorem keys_perm {H : Type} {R : Value → Option (DataW H × List MemPlace)} {w : World} {b n : Nat} {its : List ByteArray} (hown : w.ownsMap Tryz.prog 9 R b n (setS its)) :
    ((sortD its).map ul).Perm (strKeys (setS (H := H) its)) := by
  obtain ⟨es, he, hp, _⟩ := hown.entries (string_keyed Tryz.underlying9)
  have hk : ∀ p ∈ es, ∃ x, p.1 = .string x := by
    obtain ⟨es', he', hko⟩ := hown.keysOf
    obtain rfl : es = es' := by rw [he] at he'; simpa using he'
    intro p hp
    obtain ⟨v, hv⟩ := hko p hp
    obtain ⟨x, _, hx, _⟩ := Maps.keyOf_str Tryz.underlying9 hv
    exact ⟨x, hx⟩
  obtain ⟨h1, h2⟩ := sortD_map its
  rw [he]
  refine perm_strKeys hp hk (h1.imp (fun {a b} h => fun q => List.lt_irrefl _ (q ▸ h))) (fun x => ?_)
  rw [← he, h2 x, setS, has_setOf _ _ _ (isKey_lit its), List.any_map, List.any_eq_true, List.mem_map]
  constructor
  · rintro ⟨y, hy, rfl⟩
    exact ⟨y, hy, by simp [litOf, Lit.sameKey]⟩
  · rintro ⟨y, hy, hq⟩
    exact ⟨y, hy, by simpa [litOf, Lit.sameKey] using hq⟩
theorem sorted_eq {H : Type} {R : Value → Option (DataW H × List MemPlace)} {w : World} {b n : Nat} {its : List ByteArray} {ss : List Str} (hown : w.ownsMap Tryz.prog 9 R b n (setS its)) (hs : ss.Perm (strKeys (setS (H := H) its))) :
    ss.mergeSort leB = (sortD its).map ul := by
  rw [mergeSort_of_perm (hs.trans (keys_perm hown).symm)]
  refine List.mergeSort_of_pairwise ((sortD_map its).1.imp (fun {a b} h => ?_))
  exact decide_eq_true (List.le_of_lt h)
def cvary : ByteArray := ⟨#[86, 97, 114, 121]⟩
theorem itemsF_vary (l : FieldL) : itemsF l cvary = itemsF l lvary := itemsF_name l (by decide +kernel)
theorem setS_snoc {H : Type} (its : List ByteArray) (x : ByteArray) : setS (H := H) (its ++ [x]) = (setS its).put (litOf x) (.agg []) := by
  unfold setS; rw [List.map_append, List.map_cons, List.map_nil, setOf_snoc]
theorem item_small {l : FieldL} (hl : Few l) {name x : ByteArray} (hx : x ∈ itemsF l name) : x.size ≤ 10000 := by
  obtain ⟨v, hv, hx⟩ := List.mem_flatMap.1 hx
  have hvs := (getF_few hl name).2 v hv
  obtain ⟨y, hy, rfl⟩ := List.mem_map.1 hx
  obtain ⟨p, hp, rfl⟩ := List.mem_map.1 (List.mem_filter.1 hy).1
  have h1 : ∀ (c : UInt8) (s : Str), ∀ q ∈ splitB c s, q.length ≤ s.length := by
    intro c s
    induction s with
    | nil => intro q hq; simp [splitB] at hq; simp [hq]
    | cons a s ih =>
      intro q hq
      unfold splitB at hq
      split at hq
      · rcases List.mem_cons.1 hq with rfl | hq
        · simp
        · have := ih q hq; simp; omega
      · split at hq
        · simp at hq; simp [hq]
        · rename_i h t he
          rcases List.mem_cons.1 hq with rfl | hq
          · have := ih h (by rw [he]; simp); simp; omega
          · have := ih q (by rw [he]; simp [hq]); simp; omega
  have h2 := h1 44 (ul v) p hp
  have h3 := trimL_length p
  rw [ul_length] at h2
  rw [bs_size]
  simp only [lowL, List.length_map]
  omega
theorem itemsF_length {l : FieldL} (hl : Few l) (name : ByteArray) : (itemsF l name).length ≤ 1000 * 10001 := by
  have h1 := flat_items_length (getF l name) 10000 (getF_few hl name).2
  have h2 := (getF_few hl name).1
  exact Nat.le_trans h1 (Nat.mul_le_mul_right _ h2)
theorem foldl_addKey_length : ∀ (xs L : List Lit), (xs.foldl addKey L).length ≤ L.length + xs.length
  | [], L => by simp
  | x :: xs, L => by
    have h := foldl_addKey_length xs (addKey L x)
    have h2 : (addKey L x).length ≤ L.length + 1 := by unfold addKey; split <;> simp
    rw [List.foldl_cons, List.length_cons]; omega
theorem zero88 (w : World) : (zeroValue 88).run Tryz.prog w = .ok (.agg #[]) w := by kernel_rfl
set_option maxHeartbeats 2000000 in
set_option maxRecDepth 100000 in
theorem vary_calls (A0 : Option Addr) (c0 : Nat) (l : FieldL) (w : World) (hr0 : Kd.C k36 w A0 l.length l) (hc0 : l.length ≤ c0) (hl : Few l) :
    Calls Tryz.prog 23 #[.slice A0 l.length c0] w fun e w' => ∃ v0_ : Value, e = .returned (.tuple #[v0_, .bool (varyS l).2]) ∧ Kd.R Kd.string 9 w' w.heap.size (fun _ => True) v0_ (varyS l).1 ∧ Below w.heap.size w w' := by
  obtain ⟨its, hits⟩ : ∃ its, itemsF l lvary = its := ⟨_, rfl⟩
  have hsm : ∀ x ∈ its, x.size ≤ 10000 := fun x hx => item_small hl (by rw [hits]; exact hx)
  have hlen : its.length ≤ 10001000 := by have := itemsF_length hl lvary; rw [hits] at this; omega
  have HV := Aside0.mk (show varyS l = varyOf [] its by unfold varyS; rw [hits])
  obtain ⟨k, hk⟩ := (items_ev l hl cvary (by decide)).rounds
  rw [itemsF_vary, hits] at hk
  have HI := Aside0.mk (fun W (hb : Below w.heap.size w W) => key_items.calls k A0 c0 l cvary its W (Kd.C_below hr0 hb) hc0 hk)
  have HS := Aside0.mk hsm
  clear hits hsm hk hr0 hl
  have hmm := @run_makeMap Tryz.prog
  have hmap : (w.alloc (.map #[] 0)).ownsMap Tryz.prog 9 (unitElem (H := Unit)) w.heap.size 0 (.map []) := World.ownsMap_made _ _ _ _
  have hbw := (Below.refl w.heap.size w).alloc (Nat.le_refl _) (.map #[] 0)
  go_enter Tryz.func23, Tryz.ntmps23
  go_wp2_with (go_at_call 55; refine (HI.out _ hbw).mono ?_; rintro e w1 ⟨v, rfl, hv, hb1⟩; obtain ⟨A, c, rfl, hlc, hvr⟩ := Kd.R_reads hv)
  have hb01 := hbw.trans (hb1.mono (by simp))
  have hown1 := hmap.kept (grown_of_below hb1 none) (by simp)
  have HR := Aside0.mk hvr
  clear hmap hmm hb1 hvr hv hbw
  have hw1 : w.heap.size < w1.heap.size := hown1.lt
  have hstar : ∀ i : Nat, i = its.length → Maps.has (setS (H := Unit) (its.take i)) (litOf ⟨#[42]⟩) = its.any star := by
    rintro i rfl
    rw [List.take_length, setS, has_setOf _ _ _ (isKey_lit its), List.any_map]
    congr 1
    funext x
    simp only [litOf, Lit.sameKey, star, Function.comp]
    rw [Bool.eq_iff_iff, beq_iff_eq, decide_eq_true_eq]
  have HST := Aside0.mk hstar
  have hzmap : ∀ (b o : Nat) (x : Value), w1.cell? ⟨b, o, none⟩ = some x → b ≠ w.heap.size := by
    rintro b o x hx rfl
    obtain ⟨es, clock, hb, _⟩ := hown1
    simp [World.cell?, hb] at hx
  have HZ := Aside0.mk hzmap
  clear hstar hzmap
  go_loopw [6, 13] (fun _ v13 wr => ∃ i : Nat, i ≤ its.length ∧ v13 = .int .i64 i ∧ wr.ownsMap Tryz.prog 9 (unitElem (H := Unit)) w.heap.size i (setS (its.take i)) ∧ Below w.heap.size w wr ∧ KeepBut w1 wr w.heap.size none) (fun _ v13 _ => its.length - (intOf v13).toNat)
  case atStart => exact ⟨0, Nat.zero_le _, rfl, hown1, hb01, KeepBut.refl _ _ _⟩
  case round =>
    clear hown1 hb01
    obtain ⟨i, hi, rfl, hown, hB, hKB⟩ := hrel
    by_cases hlt : i < its.length
    · obtain ⟨b, o, rfl, hbs, hcell⟩ := strs_cells HR.out (by omega)
      have hc1 := hcell i _ (List.getElem?_eq_getElem hlt)
      have hbz := HZ.out b (o + i) _ hc1
      have hc : wr.cell? ⟨b, o + i, none⟩ = some (.string its[i]) := by
        rw [← hc1]; exact World.cell?_of_block (hKB.2 b hbs hbz (by simp))
      have hsx := HS.out its[i] (List.getElem_mem hlt)
      have HT := Aside0.mk (show its.take (i + 1) = its.take i ++ [its[i]] from List.take_succ_eq_append_getElem hlt)
      clear hcell hc1
      generalize its[i] = x at *
      have hkey : keyOf Tryz.prog 9 (.string x) = some (litOf x) := keyOf_string_mk Tryz.underlying9 (by unfold maxLen; omega)
      go_wp2_with (at_mapUpdate; refine wpList_mapUpdate_own _ rfl _ _ _ 87 rfl 9 88 (string_keyed Tryz.underlying9) Tryz.underlying87 (unitElem (H := Unit)) w.heap.size i _ rfl hown (by unfold maxLen; omega) _ _ _ rfl rfl hkey _ [] unitElem_mk ?_; intro w2 hown2 hgrow2)
      refine ⟨⟨i + 1, by omega, by simp, by rw [HT.out, setS_snoc]; exact hown2, hB.grown hgrow2 hB.size (fun k hk => by cases hk; exact Nat.le_refl _), ?_⟩, by simp [intOf]; omega⟩
      exact ⟨Nat.le_trans hKB.1 hgrow2.size, fun k hk hne hn => (hgrow2.block k (Nat.lt_of_lt_of_le hk hKB.1) (by simpa using hne)).trans (hKB.2 k hk hne hn)⟩
    · obtain rfl : i = its.length := by omega
      have hkey : keyOf Tryz.prog 9 (.string ⟨#[42]⟩) = some (litOf ⟨#[42]⟩) := keyOf_string_mk Tryz.underlying9 (by decide)
      have hst := HST.out _ rfl
      cases hs : its.any star with
      | true =>
        rw [hs] at hst
        have HS2 := Aside0.mk hst
        have HSS := Aside0.mk hs
        clear hst hs
        go_wp2_with (at_lookup; refine wpList_lookup_own_unit _ rfl _ _ 87 rfl 9 88 (string_keyed Tryz.underlying9) Tryz.underlying87 (zero88 _) w.heap.size its.length _ rfl hown _ _ rfl hkey ?_; rw [HS2.out])
        go_ret2
        rw [show varyS l = ([], false) from by rw [HV.out]; unfold varyOf; rw [if_pos HSS.out]]
        exact ⟨_, rfl, Kd.R_nil _ _ _ _ _, hB.alloc hB.size _⟩
      | false =>
        rw [hs] at hst
        have HS2 := Aside0.mk hst
        have HSS := Aside0.mk hs
        have HO := Aside0.mk (show wr.ownsMap Tryz.prog 9 (unitElem (H := Unit)) w.heap.size its.length (setS its) from by rw [List.take_length] at hown; exact hown)
        have hsz : Maps.size (setS (H := Unit) its) ≤ its.length := by
          unfold setS; rw [size_setOf _ _ (isKey_lit its)]
          refine Nat.le_trans (foldl_addKey_length _ _) ?_
          simp
        have hso := Tryz.slices_Sorted_keys_56_57 w.heap.size its.length (setS (H := Unit) its) unitElem (wr.alloc (.cells #[] 88)) (HO.out.kept (World.grownBy_alloc wr _ none) (by simp)) (by unfold maxLen; omega) (by omega)
        simp only [World.size_alloc] at hso
        have HSO := Aside0.mk (callsIn_wide.1 hso)
        clear hst hs hso
        go_wp2_with (first
          | (at_lookup; refine wpList_lookup_own_unit _ rfl _ _ 87 rfl 9 88 (string_keyed Tryz.underlying9) Tryz.underlying87 (zero88 _) w.heap.size its.length _ rfl hown _ _ rfl hkey ?_; rw [HS2.out])
          | (go_at_call 57; refine (callsIn_wide.1 (Tryz.maps_Keys_57 _ _)).mono ?_; rintro e w2 ⟨rfl, rfl⟩)
          | (go_at_call 56; refine HSO.out.mono ?_; rintro e w3 ⟨v, ss, rfl, hS, hrow, hnil, hb3⟩))
        go_ret2
        have hB2 : Below w.heap.size w ((wr.alloc (.cells #[] 88)).alloc (.cells #[.map (some w.heap.size)] 87)) := (hB.alloc hB.size _).alloc (by have := hB.size; rw [World.size_alloc]; omega) _
        have hB3 := hB2.trans (hb3.mono (by have := hB.size; omega))
        rw [show varyS l = (sortD its, true) from by rw [HV.out]; unfold varyOf; rw [if_neg (by rw [HSS.out]; simp)]; rfl]
        refine ⟨v, rfl, Kd.R_of_own (enc := Value.string) ?_ (fun _ _ => trivial), hB3⟩
        have hse := sorted_eq HO.out hS
        have e1 : (ss.mergeSort (fun x y => decide (x ≤ y))).map encStr = encs Value.string (sortD its) := by
          rw [show (ss.mergeSort (fun x y => decide (x ≤ y))) = ss.mergeSort leB from rfl, hse, encs, List.map_map]
          rfl
        have e2 : ss.length = (sortD its).length := by
          have := congrArg List.length hse
          rwa [List.length_mergeSort, List.length_map] at this
        rw [e1, e2] at hrow
        exact own_weaken hrow (by have := hB.size; omega)
end Go.Proofs.YtalafpigfeiaiaaGreatDoor.Q
end
section
namespace Go.Proofs.YtalafpigfeiaiaaGreatDoor.Q
open Go.RowKit Go.Proofs.YtalafpigfeiaiaaGreatDoor.H Go.Proofs.YtalafpigfeiaiaaGreatDoorW.PrintWords
set_option linter.unusedVariables false
set_option linter.unusedSimpArgs false
structure Hd where
  m : ByteArray
  t : ByteArray
  s : Int
  r : ByteArray
  mi : Int
  A : Option Addr
  c : Nat
  l : FieldL
def Hd.cells (x : Hd) : Array Value := #[.string x.m, .string x.t, .int .i64 x.s, .string x.r, .int .i64 x.mi, .slice x.A x.l.length x.c]
def Hd.v (x : Hd) : Value := .agg #[.string x.m, .string x.t, .int .i64 x.s, .string x.r, .int .i64 x.mi, .slice x.A x.l.length x.c]
def Hd.mv (x : Hd) (b : ByteArray) : Value := .agg #[.string x.m, .string x.t, .int .i64 x.s, .string x.r, .int .i64 x.mi, .slice x.A x.l.length x.c, .string b]
structure Hd.In (x : Hd) (w : World) : Prop where
  rd : Kd.C k36 w x.A x.l.length x.l
  cap : x.l.length ≤ x.c
  few : Few x.l
theorem Hd.In.below {x : Hd} {w w' : World} (h : x.In w) (hb : Below w.heap.size w w') : x.In w' := ⟨Kd.C_below h.rd hb, h.cap, h.few⟩
theorem directs_calls (A0 : Option Addr) (c0 : Nat) (l : FieldL) (A1 : Option Addr) (c1 : Nat) (ns : List ByteArray) (w : World) (hr0 : Kd.C k36 w A0 l.length l) (hc0 : l.length ≤ c0) (hl : Few l) (hr1 : Kd.C Kd.string w A1 ns.length ns) (hc1 : ns.length ≤ c1) :
    Calls Tryz.prog 52 #[.slice A0 l.length c0, .slice A1 ns.length c1] w fun e w' => e = .returned (.bool ((itemsF l ccontrol).any (Lib.containsS ns))) ∧ Below w.heap.size w w' := by
  obtain ⟨k, hk⟩ := (items_ev l hl ccontrol (by decide)).rounds
  refine key_directs.calls k A0 c0 l A1 c1 ns _ w hr0 hc0 hr1 hc1 ?_
  unfold key_directs.f
  rw [hk]; rfl
theorem get_calls (A0 : Option Addr) (c0 : Nat) (l : FieldL) (name : ByteArray) (w : World) (hr0 : Kd.C k36 w A0 l.length l) (hc0 : l.length ≤ c0) (hl : Few l) (hn : name.size ≤ 1000000000) :
    Calls Tryz.prog 51 #[.slice A0 l.length c0, .string name] w fun e w' => ∃ v0_ : Value, e = .returned (v0_) ∧ Kd.R Kd.string 9 w' w.heap.size (fun _ => True) v0_ (getF l name) ∧ Below w.heap.size w w' := by
  obtain ⟨k, hk⟩ := (get_ev l hl name hn).rounds
  exact field_Get.calls k A0 c0 l name _ w hr0 hc0 hk
def hasF (l : FieldL) (n : ByteArray) : Bool := decide (0 < (getF l n).length)
set_option maxRecDepth 100000 in
theorem shared1 (z : Nat) (A : Option Addr) (c : Nat) (l : FieldL) (w : World) (hz : w.heap[z]? = some (.cells #[.slice A l.length c] 23 (0, 0))) (hr : Kd.C k36 w A l.length l) (hc : l.length ≤ c) (hl : Few l) :
    Tells (fun x => x.size ≤ 1000000000) 50 #[.pointer (some ⟨z, 0, none⟩)] (hasF l) w := by
  intro W x hx hb
  have hzW := (hb.block z (Array.getElem?_eq_some_iff.1 hz).1).trans hz
  have hcz := (block_cell hzW).1
  have HC := Aside0.mk (get_calls A c l x W (Kd.C_below hr hb) hc hl hx)
  have hlen := (getF_few hl x).1
  clear hr hz hzW hb
  simp only [List.append_toArray, List.cons_append, List.nil_append]
  go_enter Tryz.func50, Tryz.ntmps50
  go_wp2_with (go_at_call 51; refine HC.out.mono ?_; rintro e w1 ⟨v, rfl, hv, hb1⟩; obtain ⟨A', c', rfl, hlc, hvr⟩ := Kd.R_reads hv)
  go_ret
  exact ⟨by simp [hasF], hb1⟩
def sGET : ByteArray := ⟨#[71, 69, 84]⟩
def sNoStore : ByteArray := ⟨#[110, 111, 45, 115, 116, 111, 114, 101]⟩
def owns : List ByteArray := [⟨#[65, 117, 116, 104, 111, 114, 105, 122, 97, 116, 105, 111, 110]⟩, ⟨#[67, 111, 111, 107, 105, 101]⟩, ⟨#[82, 97, 110, 103, 101]⟩]
def sharedS (m : ByteArray) (b : ByteArray) (l : FieldL) : Bool := decide (ul m = ul sGET) && decide (ul b = []) && !((itemsF l ccontrol).any (Lib.containsS [sNoStore])) && !(owns.any (hasF l))
theorem at_new {W : World} {o : Obj} {k : Nat} (hk : k = W.heap.size) : (W.alloc o).heap[k]? = some o := by rw [hk]; exact heap_alloc_new _ _
theorem at_old {W : World} {o o' : Obj} {k : Nat} (hk : k < W.heap.size) (h : W.heap[k]? = some o') : (W.alloc o).heap[k]? = some o' := (Below.heap_alloc _ _ _ hk).trans h
theorem lit_C (W : World) (g t : Nat) (cur : Array Value) (xs : List ByteArray) (hg : W.heap[g]? = some (.cells cur t (0, 0))) (hx : cur.toList = xs.map Value.string) (hl : xs.length ≤ 1000000) : Kd.C Kd.string W (some ⟨g, 0, none⟩) xs.length xs := by
  refine Kd.C_of_reads (enc := Value.string) (d := ByteArray.empty) ⟨rfl, by omega, fun h0 => ⟨_, rfl, fun j hj => ?_⟩⟩
  have e : (⟨g, 0, none⟩ : Addr).add j = ⟨g, j, none⟩ := by unfold Addr.add; simp [eq_comm]
  rw [e]
  simp only [World.cell?, hg]
  rw [← Array.getElem?_toList, hx, List.getElem?_map, List.getElem?_eq_getElem hj, List.getD_eq_getElem?_getD, List.getElem?_eq_getElem hj]
  rfl
set_option maxHeartbeats 2000000 in
set_option maxRecDepth 100000 in
theorem shared_calls (x : Hd) (b : ByteArray) (w : World) (hx : x.In w) :
    Calls Tryz.prog 20 #[x.mv b] w fun e w' => e = .returned (.bool (sharedS x.m b x.l)) ∧ Below w.heap.size w w' := by
  obtain ⟨m, t, s, r, mi, A, c, l⟩ := x
  simp only [Hd.mv]
  have hl := hx.few
  have hc := hx.cap
  have hr := hx.rd
  simp only at hl hc hr
  have HD := Aside0.mk (fun (W : World) (A1 : Option Addr) (c1 : Nat) (hW : Below w.heap.size w W) (h1 : Kd.C Kd.string W A1 [sNoStore].length [sNoStore]) (h2 : [sNoStore].length ≤ c1) => directs_calls A c l A1 c1 [sNoStore] W (Kd.C_below hr hW) hc hl h1 h2)
  have HO := Aside0.mk (fun (W : World) (z : Nat) (A1 : Option Addr) (c1 : Nat) (hz : W.heap[z]? = some (.cells #[.slice A l.length c] 23 (0, 0))) (hW : Below w.heap.size w W) (h1 : Kd.C Kd.string W A1 owns.length owns) =>
    containsFunc_calls A1 c1 owns 50 #[.pointer (some ⟨z, 0, none⟩)] (hasF l) W (enters_of Tryz.func50 (by kernel_rfl) rfl) h1 (S := fun x => x.size ≤ 1000000000) (by decide) (shared1 z A c l W hz (Kd.C_below hr hW) hc hl))
  clear hr hx
  go_enter Tryz.func20, Tryz.ntmps20
  by_cases hm : m.toList = [71, 69, 84]
  · by_cases hb : b.toList = []
    · cases hd : (itemsF l ccontrol).any (Lib.containsS [sNoStore]) with
      | true =>
        have HD' := Aside0.mk hd
        clear hd
        go_wp2_with (first
          | (go_at_call 52; refine (HD.out _ _ _ (by (repeat' first | exact Below.refl _ _ | (refine Below.alloc ?_ (by first | (simp; done) | (simp; omega)) _))) (lit_C _ _ 9 #[.string sNoStore] _ (by (repeat' first | exact at_new (by first | rfl | (simp; done)) | (refine at_old (by first | (simp; done) | (simp; omega)) ?_))) rfl (by decide)) (by decide)).mono ?_; rintro e w1 ⟨rfl, hb1⟩; rw [HD'.out]))
        go_ret
        exact ⟨by simp [sharedS, ← toList_ul, hm, hb, HD'.out], (by (repeat' first | exact Below.refl _ _ | (refine Below.alloc ?_ (by first | (simp; done) | (simp; omega)) _)) : Below w.heap.size w _).trans (hb1.mono (by (first | (simp; done) | (simp; omega))))⟩
      | false =>
        have HD' := Aside0.mk hd
        clear hd
        go_wp2_with (first
          | (go_at_call 52; refine (HD.out _ _ _ (by (repeat' first | exact Below.refl _ _ | (refine Below.alloc ?_ (by first | (simp; done) | (simp; omega)) _))) (lit_C _ _ 9 #[.string sNoStore] _ (by (repeat' first | exact at_new (by first | rfl | (simp; done)) | (refine at_old (by first | (simp; done) | (simp; omega)) ?_))) rfl (by decide)) (by decide)).mono ?_; rintro e w1 ⟨rfl, hb1⟩; rw [HD'.out]; have hB1 := (by (repeat' first | exact Below.refl _ _ | (refine Below.alloc ?_ (by first | (simp; done) | (simp; omega)) _)) : Below w.heap.size w _).trans (hb1.mono (by (first | (simp; done) | (simp; omega)))); have hz1 : w1.heap[w.heap.size + 1]? = some (.cells #[.slice A l.length c] 23 (0, 0)) := (hb1.block _ (by (first | (simp; done) | (simp; omega)))).trans (by (repeat' first | exact at_new (by first | rfl | (simp; done)) | (refine at_old (by first | (simp; done) | (simp; omega)) ?_))); clear hb1)
          | (go_at_call 53; refine (HO.out _ _ _ _ (at_old (Array.getElem?_eq_some_iff.1 hz1).1 hz1) (hB1.alloc hB1.size _) (lit_C _ _ 9 (owns.map Value.string).toArray _ (by (repeat' first | exact at_new (by first | rfl | (simp; done)) | (refine at_old (by first | (simp; done) | (simp; omega)) ?_))) rfl (by decide))).mono ?_; rintro e w2 ⟨rfl, hb2⟩))
        go_ret
        exact ⟨by have e : sGET.toList = [71, 69, 84] := by rw [toList_ul]; rfl
                  simp [sharedS, ← toList_ul, hm, hb, HD'.out, e], (hB1.alloc hB1.size _).trans (hb2.mono (by have := hB1.size; simp; omega))⟩
    · go_wp2
      go_ret
      exact ⟨by simp [sharedS, ← toList_ul, hm, hb], by (repeat' first | exact Below.refl _ _ | (refine Below.alloc ?_ (by first | (simp; done) | (simp; omega)) _))⟩
  · go_wp2
    go_ret
    exact ⟨by simp [sharedS, ← toList_ul, hm, sGET], by (repeat' first | exact Below.refl _ _ | (refine Below.alloc ?_ (by first | (simp; done) | (simp; omega)) _))⟩
end Go.Proofs.YtalafpigfeiaiaaGreatDoor.Q
end
section
namespace Go.Proofs.YtalafpigfeiaiaaGreatDoor.Q
open Go.RowKit Go.Proofs.YtalafpigfeiaiaaGreatDoor.H Go.Proofs.YtalafpigfeiaiaaGreatDoorW.PrintWords
set_option linter.unusedVariables false
set_option linter.unusedSimpArgs false
theorem mem_foldl_addS : ∀ (its acc : List ByteArray) (y : ByteArray), y ∈ its.foldl addS acc → y ∈ acc ∨ y ∈ its
  | [], acc, y, h => .inl h
  | x :: its, acc, y, h => by
    rw [List.foldl_cons] at h
    rcases mem_foldl_addS its _ y h with h | h
    · rcases mem_addS h with rfl | h
      · exact .inr (by simp)
      · exact .inl h
    · exact .inr (by simp [h])
theorem varyS_few {l : FieldL} (hl : Few l) : FewN (varyS l).1 := by
  unfold varyS varyOf
  split
  · exact ⟨by simp, fun n hn => by simp at hn⟩
  · refine ⟨?_, fun n hn => ?_⟩
    · have := foldl_addS_length (itemsF l lvary) []
      have := itemsF_length hl lvary
      simp at *; omega
    · rcases mem_foldl_addS _ _ _ hn with h | h
      · simp at h
      · exact item_small hl h
theorem belTrans {w1 W w' : World} (hb : Below W.heap.size W w') (h : Below w1.heap.size w1 W) : Below w1.heap.size w1 w' := h.trans (hb.mono h.size)
theorem keep3 {w1 w' : World} {a b : Addr} {u v : Value} (h : Below w1.heap.size w1 w') (ha : a.block < w1.heap.size) (hb : b.block < w1.heap.size) (h0 : w1.cell? a = some u) (h1 : w1.cell? b = some v) : Below w1.heap.size w1 w' ∧ w'.cell? a = some u ∧ w'.cell? b = some v := ⟨h, (h.cell ha).trans h0, (h.cell hb).trans h1⟩
theorem cell_of {w : World} {b i t : Nat} {cs : Array Value} {u : Value} (h : w.heap[b]? = some (.cells cs t (0, 0))) (hi : cs[i]? = some u) : w.cell? ⟨b, i, none⟩ = some u := by simp only [World.cell?, h]; exact hi
def sPrivate : ByteArray := ⟨#[112, 114, 105, 118, 97, 116, 101]⟩
def sSetCookie : ByteArray := ⟨#[83, 101, 116, 45, 67, 111, 111, 107, 105, 101]⟩
def fitsS (la lb lh : FieldL) : Bool := (varyS lh).2 && !((itemsF lh ccontrol).any (Lib.containsS [sPrivate, sNoStore])) && !(hasF lh sSetCookie) && ((ul (splitS (varyS lh).1 la)) == (ul (splitS (varyS lh).1 lb)))
set_option maxHeartbeats 400000 in
set_option maxRecDepth 100000 in
theorem fits_calls (x : Hd) (bx : ByteArray) (y : Hd) (by' : ByteArray) (z : Hd) (w : World) (hx : x.In w) (hy : y.In w) (hz : z.In w) :
    Calls Tryz.prog 22 #[x.mv bx, y.mv by', z.v] w fun e w' => e = .returned (.bool (fitsS x.l y.l z.l)) ∧ Below w.heap.size w w' := by
  obtain ⟨m, t, s, r, mi, A, c, l⟩ := x
  obtain ⟨m1, t1, s1, r1, mi1, A1, c1, l1⟩ := y
  obtain ⟨m2, t2, s2, r2, mi2, A2, c2, l2⟩ := z
  simp only [Hd.mv, Hd.v]
  have HV := Aside0.mk (fun (W : World) (hW : Below w.heap.size w W) => vary_calls A2 c2 l2 W (Kd.C_below hz.rd hW) hz.cap hz.few)
  have HD := Aside0.mk (fun (W : World) (A1 : Option Addr) (c1 : Nat) (hW : Below w.heap.size w W) (h1 : Kd.C Kd.string W A1 [sPrivate, sNoStore].length [sPrivate, sNoStore]) (h2 : [sPrivate, sNoStore].length ≤ c1) => directs_calls A2 c2 l2 A1 c1 [sPrivate, sNoStore] W (Kd.C_below hz.rd hW) hz.cap hz.few h1 h2)
  have HG := Aside0.mk (fun (W : World) (hW : Below w.heap.size w W) => get_calls A2 c2 l2 sSetCookie W (Kd.C_below hz.rd hW) hz.cap hz.few (by decide))
  have HGL := Aside0.mk ((getF_few hz.few sSetCookie).1)
  have HN := Aside0.mk (varyS_few hz.few)
  have HS := Aside0.mk (fun (W W0 : World) (hW0 : Below w.heap.size w W0) (hW : Below W0.heap.size W0 W) (AN : Option Addr) (cN : Nat) (h0 : Kd.C Kd.string W0 AN (varyS l2).1.length (varyS l2).1) (h1 : (varyS l2).1.length ≤ cN) =>
    split_calls AN cN (varyS l2).1 A c l W (Kd.C_below h0 hW) h1 (Kd.C_below hx.rd (hW0.trans (hW.mono hW0.size))) hx.cap hx.few HN.out)
  have HS1 := Aside0.mk (fun (W W0 : World) (hW0 : Below w.heap.size w W0) (hW : Below W0.heap.size W0 W) (AN : Option Addr) (cN : Nat) (h0 : Kd.C Kd.string W0 AN (varyS l2).1.length (varyS l2).1) (h1 : (varyS l2).1.length ≤ cN) =>
    split_calls AN cN (varyS l2).1 A1 c1 l1 W (Kd.C_below h0 hW) h1 (Kd.C_below hy.rd (hW0.trans (hW.mono hW0.size))) hy.cap hy.few HN.out)
  have HF := Aside0.mk (show fitsS l l1 l2 = ((varyS l2).2 && !((itemsF l2 ccontrol).any (Lib.containsS [sPrivate, sNoStore])) && !(hasF l2 sSetCookie) && ((ul (splitS (varyS l2).1 l)) == (ul (splitS (varyS l2).1 l1)))) from rfl)
  clear hx hy hz HN
  simp only [hasF] at HF
  generalize fitsS l l1 l2 = res at *
  generalize hok : (varyS l2).2 = ok at *
  generalize hns : (varyS l2).1 = ns at *
  generalize hdd : (itemsF l2 ccontrol).any (Lib.containsS [sPrivate, sNoStore]) = dd at *
  generalize hgl : (getF l2 sSetCookie).length = gl at *
  generalize hs0 : splitS ns l = q0 at *
  generalize hs1 : splitS ns l1 = q1 at *
  clear hok hns hdd hs0 hs1
  have HGL' := Aside0.mk hgl
  clear hgl
  have hk0 : (((w.alloc (.cells #[.string m, .string t, .int .i64 s, .string r, .int .i64 mi, .slice A l.length c, .string bx] 27)).alloc (.cells #[.string m1, .string t1, .int .i64 s1, .string r1, .int .i64 mi1, .slice A1 l1.length c1, .string by'] 27)).alloc (.cells #[.string m2, .string t2, .int .i64 s2, .string r2, .int .i64 mi2, .slice A2 l2.length c2] 25)).heap[w.heap.size]? = some (.cells #[.string m, .string t, .int .i64 s, .string r, .int .i64 mi, .slice A l.length c, .string bx] 27 (0, 0)) := by (repeat' first | exact at_new (by first | rfl | (simp; done)) | (refine at_old (by first | (simp; done) | (simp; omega)) ?_))
  have hk1 : (((w.alloc (.cells #[.string m, .string t, .int .i64 s, .string r, .int .i64 mi, .slice A l.length c, .string bx] 27)).alloc (.cells #[.string m1, .string t1, .int .i64 s1, .string r1, .int .i64 mi1, .slice A1 l1.length c1, .string by'] 27)).alloc (.cells #[.string m2, .string t2, .int .i64 s2, .string r2, .int .i64 mi2, .slice A2 l2.length c2] 25)).heap[w.heap.size + 1]? = some (.cells #[.string m1, .string t1, .int .i64 s1, .string r1, .int .i64 mi1, .slice A1 l1.length c1, .string by'] 27 (0, 0)) := by (repeat' first | exact at_new (by first | rfl | (simp; done)) | (refine at_old (by first | (simp; done) | (simp; omega)) ?_))
  have hk2 : (((w.alloc (.cells #[.string m, .string t, .int .i64 s, .string r, .int .i64 mi, .slice A l.length c, .string bx] 27)).alloc (.cells #[.string m1, .string t1, .int .i64 s1, .string r1, .int .i64 mi1, .slice A1 l1.length c1, .string by'] 27)).alloc (.cells #[.string m2, .string t2, .int .i64 s2, .string r2, .int .i64 mi2, .slice A2 l2.length c2] 25)).heap[w.heap.size + 1 + 1]? = some (.cells #[.string m2, .string t2, .int .i64 s2, .string r2, .int .i64 mi2, .slice A2 l2.length c2] 25 (0, 0)) := by (repeat' first | exact at_new (by first | rfl | (simp; done)) | (refine at_old (by first | (simp; done) | (simp; omega)) ?_))
  cases ok with
  | false =>
    go_enter Tryz.func22, Tryz.ntmps22
    go_wp2_with (go_at_call 23; refine (HV.out _ (by (repeat' first | exact Below.refl _ _ | (refine Below.alloc ?_ (by first | (simp; done) | (simp; omega)) _)))).mono ?_; rintro e w1 ⟨v, rfl, hv, hb1⟩; obtain ⟨AN, cN, rfl, hlc, hvr⟩ := Kd.R_reads hv; have hz0 : w1.cell? ⟨w.heap.size, 5, none⟩ = some (.slice A l.length c) := (hb1.cell (p := ⟨w.heap.size, 5, none⟩) (by (first | (simp; done) | (simp; omega)))).trans (cell_of hk0 rfl); have hz1 : w1.cell? ⟨w.heap.size + 1, 5, none⟩ = some (.slice A1 l1.length c1) := (hb1.cell (p := ⟨w.heap.size + 1, 5, none⟩) (by (first | (simp; done) | (simp; omega)))).trans (cell_of hk1 rfl); have hz2 : w1.cell? ⟨w.heap.size + 1 + 1, 5, none⟩ = some (.slice A2 l2.length c2) := (hb1.cell (p := ⟨w.heap.size + 1 + 1, 5, none⟩) (by (first | (simp; done) | (simp; omega)))).trans (cell_of hk2 rfl); have hB1 := (by (repeat' first | exact Below.refl _ _ | (refine Below.alloc ?_ (by first | (simp; done) | (simp; omega)) _)) : Below w.heap.size w _).trans (hb1.mono (by (first | (simp; done) | (simp; omega)))); have hs1 : w.heap.size + 3 ≤ w1.heap.size := Nat.le_trans (by (first | (simp; done) | (simp; omega))) hb1.size; have HZ0 := Aside0.mk hz0; have HZ1 := Aside0.mk hz1; clear hb1 hv hk0 hk1 hk2)
    go_ret
    exact ⟨by rw [HF.out]; simp, hB1⟩
  | true =>
    cases dd with
    | true =>
      go_enter Tryz.func22, Tryz.ntmps22
      go_wp2_with (first | (go_at_call 23; refine (HV.out _ (by (repeat' first | exact Below.refl _ _ | (refine Below.alloc ?_ (by first | (simp; done) | (simp; omega)) _)))).mono ?_; rintro e w1 ⟨v, rfl, hv, hb1⟩; obtain ⟨AN, cN, rfl, hlc, hvr⟩ := Kd.R_reads hv; have hz0 : w1.cell? ⟨w.heap.size, 5, none⟩ = some (.slice A l.length c) := (hb1.cell (p := ⟨w.heap.size, 5, none⟩) (by (first | (simp; done) | (simp; omega)))).trans (cell_of hk0 rfl); have hz1 : w1.cell? ⟨w.heap.size + 1, 5, none⟩ = some (.slice A1 l1.length c1) := (hb1.cell (p := ⟨w.heap.size + 1, 5, none⟩) (by (first | (simp; done) | (simp; omega)))).trans (cell_of hk1 rfl); have hz2 : w1.cell? ⟨w.heap.size + 1 + 1, 5, none⟩ = some (.slice A2 l2.length c2) := (hb1.cell (p := ⟨w.heap.size + 1 + 1, 5, none⟩) (by (first | (simp; done) | (simp; omega)))).trans (cell_of hk2 rfl); have hB1 := (by (repeat' first | exact Below.refl _ _ | (refine Below.alloc ?_ (by first | (simp; done) | (simp; omega)) _)) : Below w.heap.size w _).trans (hb1.mono (by (first | (simp; done) | (simp; omega)))); have hs1 : w.heap.size + 3 ≤ w1.heap.size := Nat.le_trans (by (first | (simp; done) | (simp; omega))) hb1.size; have HZ0 := Aside0.mk hz0; have HZ1 := Aside0.mk hz1; clear hb1 hv hk0 hk1 hk2) | (go_at_call 52; refine (HD.out _ _ _ (hB1.alloc hB1.size _) (lit_C _ _ 9 #[.string sPrivate, .string sNoStore] _ (by (repeat' first | exact at_new (by first | rfl | (simp; done)) | (refine at_old (by first | (simp; done) | (simp; omega)) ?_))) rfl (by decide)) (by decide)).mono ?_; rintro e w2 ⟨rfl, hb2⟩; have hB2 : Below w1.heap.size w1 w2 := ((Below.refl _ _).alloc (Nat.le_refl _) _).trans (hb2.mono (by simp)); have hs2 := hB2.size; have hz20 := (hB2.cell (p := ⟨w.heap.size, 5, none⟩) (by show w.heap.size < _; omega)).trans hz0; have hz21 := (hB2.cell (p := ⟨w.heap.size + 1, 5, none⟩) (by show w.heap.size + 1 < _; omega)).trans hz1; have hz22 := (hB2.cell (p := ⟨w.heap.size + 1 + 1, 5, none⟩) (by show w.heap.size + 1 + 1 < _; omega)).trans hz2; clear hb2 hz0 hz1 hz2))
      go_ret
      exact ⟨by rw [HF.out]; simp, hB1.trans (hB2.mono hB1.size)⟩
    | false =>
      by_cases hq : 0 < gl
      · go_enter Tryz.func22, Tryz.ntmps22
        go_wp2_with (first | (go_at_call 23; refine (HV.out _ (by (repeat' first | exact Below.refl _ _ | (refine Below.alloc ?_ (by first | (simp; done) | (simp; omega)) _)))).mono ?_; rintro e w1 ⟨v, rfl, hv, hb1⟩; obtain ⟨AN, cN, rfl, hlc, hvr⟩ := Kd.R_reads hv; have hz0 : w1.cell? ⟨w.heap.size, 5, none⟩ = some (.slice A l.length c) := (hb1.cell (p := ⟨w.heap.size, 5, none⟩) (by (first | (simp; done) | (simp; omega)))).trans (cell_of hk0 rfl); have hz1 : w1.cell? ⟨w.heap.size + 1, 5, none⟩ = some (.slice A1 l1.length c1) := (hb1.cell (p := ⟨w.heap.size + 1, 5, none⟩) (by (first | (simp; done) | (simp; omega)))).trans (cell_of hk1 rfl); have hz2 : w1.cell? ⟨w.heap.size + 1 + 1, 5, none⟩ = some (.slice A2 l2.length c2) := (hb1.cell (p := ⟨w.heap.size + 1 + 1, 5, none⟩) (by (first | (simp; done) | (simp; omega)))).trans (cell_of hk2 rfl); have hB1 := (by (repeat' first | exact Below.refl _ _ | (refine Below.alloc ?_ (by first | (simp; done) | (simp; omega)) _)) : Below w.heap.size w _).trans (hb1.mono (by (first | (simp; done) | (simp; omega)))); have hs1 : w.heap.size + 3 ≤ w1.heap.size := Nat.le_trans (by (first | (simp; done) | (simp; omega))) hb1.size; have HZ0 := Aside0.mk hz0; have HZ1 := Aside0.mk hz1; clear hb1 hv hk0 hk1 hk2) | (go_at_call 52; refine (HD.out _ _ _ (hB1.alloc hB1.size _) (lit_C _ _ 9 #[.string sPrivate, .string sNoStore] _ (by (repeat' first | exact at_new (by first | rfl | (simp; done)) | (refine at_old (by first | (simp; done) | (simp; omega)) ?_))) rfl (by decide)) (by decide)).mono ?_; rintro e w2 ⟨rfl, hb2⟩; have hB2 : Below w1.heap.size w1 w2 := ((Below.refl _ _).alloc (Nat.le_refl _) _).trans (hb2.mono (by simp)); have hs2 := hB2.size; have hz20 := (hB2.cell (p := ⟨w.heap.size, 5, none⟩) (by show w.heap.size < _; omega)).trans hz0; have hz21 := (hB2.cell (p := ⟨w.heap.size + 1, 5, none⟩) (by show w.heap.size + 1 < _; omega)).trans hz1; have hz22 := (hB2.cell (p := ⟨w.heap.size + 1 + 1, 5, none⟩) (by show w.heap.size + 1 + 1 < _; omega)).trans hz2; clear hb2 hz0 hz1 hz2) | (go_at_call 51; refine (HG.out _ (hB1.trans (hB2.mono hB1.size))).mono ?_; rintro e w3 ⟨v, rfl, hv, hb3⟩; obtain ⟨A', c', rfl, hlc', hvr'⟩ := Kd.R_reads hv; rw [HGL'.out]; have hB3 := hB2.trans (hb3.mono hs2); have hs3 := hB3.size; have hz30 := (hb3.cell (p := ⟨w.heap.size, 5, none⟩) (by show w.heap.size < _; omega)).trans hz20; have hz31 := (hb3.cell (p := ⟨w.heap.size + 1, 5, none⟩) (by show w.heap.size + 1 < _; omega)).trans hz21; clear hb3 hz20 hz21 hz22 hv hvr'))
        go_ret
        exact ⟨by rw [HF.out]; simp [hq], hB1.trans (hB3.mono hB1.size)⟩
      · go_enter Tryz.func22, Tryz.ntmps22
        go_wp2_with (first | (go_at_call 23; refine (HV.out _ (by (repeat' first | exact Below.refl _ _ | (refine Below.alloc ?_ (by first | (simp; done) | (simp; omega)) _)))).mono ?_; rintro e w1 ⟨v, rfl, hv, hb1⟩; obtain ⟨AN, cN, rfl, hlc, hvr⟩ := Kd.R_reads hv; have hz0 : w1.cell? ⟨w.heap.size, 5, none⟩ = some (.slice A l.length c) := (hb1.cell (p := ⟨w.heap.size, 5, none⟩) (by (first | (simp; done) | (simp; omega)))).trans (cell_of hk0 rfl); have hz1 : w1.cell? ⟨w.heap.size + 1, 5, none⟩ = some (.slice A1 l1.length c1) := (hb1.cell (p := ⟨w.heap.size + 1, 5, none⟩) (by (first | (simp; done) | (simp; omega)))).trans (cell_of hk1 rfl); have hz2 : w1.cell? ⟨w.heap.size + 1 + 1, 5, none⟩ = some (.slice A2 l2.length c2) := (hb1.cell (p := ⟨w.heap.size + 1 + 1, 5, none⟩) (by (first | (simp; done) | (simp; omega)))).trans (cell_of hk2 rfl); have hB1 := (by (repeat' first | exact Below.refl _ _ | (refine Below.alloc ?_ (by first | (simp; done) | (simp; omega)) _)) : Below w.heap.size w _).trans (hb1.mono (by (first | (simp; done) | (simp; omega)))); have hs1 : w.heap.size + 3 ≤ w1.heap.size := Nat.le_trans (by (first | (simp; done) | (simp; omega))) hb1.size; have HZ0 := Aside0.mk hz0; have HZ1 := Aside0.mk hz1; clear hb1 hv hk0 hk1 hk2) | (go_at_call 52; refine (HD.out _ _ _ (hB1.alloc hB1.size _) (lit_C _ _ 9 #[.string sPrivate, .string sNoStore] _ (by (repeat' first | exact at_new (by first | rfl | (simp; done)) | (refine at_old (by first | (simp; done) | (simp; omega)) ?_))) rfl (by decide)) (by decide)).mono ?_; rintro e w2 ⟨rfl, hb2⟩; have hB2 : Below w1.heap.size w1 w2 := ((Below.refl _ _).alloc (Nat.le_refl _) _).trans (hb2.mono (by simp)); have hs2 := hB2.size; have hz20 := (hB2.cell (p := ⟨w.heap.size, 5, none⟩) (by show w.heap.size < _; omega)).trans hz0; have hz21 := (hB2.cell (p := ⟨w.heap.size + 1, 5, none⟩) (by show w.heap.size + 1 < _; omega)).trans hz1; have hz22 := (hB2.cell (p := ⟨w.heap.size + 1 + 1, 5, none⟩) (by show w.heap.size + 1 + 1 < _; omega)).trans hz2; clear hb2 hz0 hz1 hz2) | (go_at_call 51; refine (HG.out _ (hB1.trans (hB2.mono hB1.size))).mono ?_; rintro e w3 ⟨v, rfl, hv, hb3⟩; obtain ⟨A', c', rfl, hlc', hvr'⟩ := Kd.R_reads hv; rw [HGL'.out]; have hB3 := hB2.trans (hb3.mono hs2); have hs3 := hB3.size; have hz30 := (hb3.cell (p := ⟨w.heap.size, 5, none⟩) (by show w.heap.size < _; omega)).trans hz20; have hz31 := (hb3.cell (p := ⟨w.heap.size + 1, 5, none⟩) (by show w.heap.size + 1 < _; omega)).trans hz21; clear hb3 hz20 hz21 hz22 hv hvr'))
        clear hlc' HGL HGL' HD HG HV hB2 hs2
        have hB3d := hB3.drew
        have HK := Aside0.mk (fun (w' : World) (h : Below w1.heap.size w1 w') => keep3 (a := ⟨w.heap.size, 5, none⟩) (b := ⟨w.heap.size + 1, 5, none⟩) h (by show w.heap.size < _; omega) (by show w.heap.size + 1 < _; omega) HZ0.out HZ1.out)
        go_region_held3 (fun w' => Below w1.heap.size w1 w' ∧ w'.cell? ⟨w.heap.size, 5, none⟩ = some (.slice A l.length c) ∧ w'.cell? ⟨w.heap.size + 1, 5, none⟩ = some (.slice A1 l1.length c1)) (first | with_reducible exact HK.out _ hB3d | with_reducible exact HK.out _ hb6 | with_reducible exact HK.out _ hb7)
          (first
            | (go_at_call 27; with_reducible refine (HS.out _ w1 hB1 hB3d AN cN hvr hlc).mono ?_; rintro e w5 ⟨rfl, hb5⟩; have hb6 := belTrans hb5 hB3d; clear hb5)
            | (go_at_call 27; with_reducible refine (HS1.out _ w1 hB1 hb6 AN cN hvr hlc).mono ?_; rintro e w5 ⟨rfl, hb5⟩; have hb7 := belTrans hb5 hb6; clear hb5))
        go_wp2
        go_ret
        exact ⟨by rw [HF.out]; simp [hq, toList_ul], hB1.trans (hb7.mono hB1.size)⟩
end Go.Proofs.YtalafpigfeiaiaaGreatDoor.Q
end
section
namespace Go.Proofs.YtalafpigfeiaiaaGreatDoor.Q
open Go.RowKit Go.Shelf Go.Proofs.YtalafpigfeiaiaaGreatDoor.H Go.Proofs.YtalafpigfeiaiaaGreatDoorW.PrintWords
set_option linter.unusedVariables false
set_option linter.unusedSimpArgs false
def lhost : ByteArray := ⟨#[104, 111, 115, 116]⟩
def cHost : ByteArray := ⟨#[72, 111, 115, 116]⟩
def hostS (l : FieldL) : ByteArray := ((getF l lhost).head?).getD ⟨#[]⟩
def keyS (m t : ByteArray) (l : FieldL) : ByteArray × Int :=
  if (normalS (ul t)).2.2 = 0 then (m ++ (⟨#[32]⟩ : ByteArray) ++ lower (hostS l) ++ (⟨#[32]⟩ : ByteArray) ++ (normalS (ul t)).1 ++ (normalS (ul t)).2.1, 0) else (⟨#[]⟩, (normalS (ul t)).2.2)
theorem normalS_size (l : Str) : (normalS l).1.size ≤ 2000000 ∧ (normalS l).2.1.size ≤ 200 := by
  unfold normalS
  split
  · exact ⟨by decide, by decide⟩
  · rename_i hl
    have hc := cutQ_le l
    split
    · exact ⟨by decide, by decide⟩
    · rename_i p hp
      split
      · refine ⟨?_, by rw [bs_size, List.length_drop]; omega⟩
        have h0 := plainG_length _ _ hp
        rw [List.length_take] at h0
        have h1 := segsS_few (p := p) (by omega)
        have h2 := stepAll_few 1000 (segsS p) [] h1.2 (by simp)
        have h3 := slashL_length 1000 _ h2.2
        have h4 := h2.1
        simp at h4
        show (bs (slashL (stepAll [] (segsS p)))).size ≤ 2000000
        rw [bs_size (slashL (stepAll [] (segsS p)))]
        have : (stepAll [] (segsS p)).length * (1000 + 1) ≤ 1002 * 1001 := Nat.mul_le_mul (by omega) (by omega)
        omega
      · exact ⟨by decide, by decide⟩
theorem hostS_size {l : FieldL} (hl : Few l) : (hostS l).size ≤ 10000 := by
  unfold hostS
  cases h : getF l lhost with
  | nil => show (0 : Nat) ≤ 10000; omega
  | cons x xs => exact (getF_few hl lhost).2 x (by rw [h]; simp)
theorem host_rd (l : FieldL) : rdOf ByteArray.empty (getF l cHost ++ [(⟨#[]⟩ : ByteArray)]) 0 = hostS l := by
  rw [getF_name l (a := cHost) (b := lhost) rfl]
  unfold hostS rdOf
  cases getF l lhost <;> rfl
theorem join3 (a b c : ByteArray) : bs (Lib.join ([a, b, c].map ul) (ul (⟨#[32]⟩ : ByteArray))) = a ++ (⟨#[32]⟩ : ByteArray) ++ b ++ (⟨#[32]⟩ : ByteArray) ++ c := by
  refine ul_inj ?_
  simp [Lib.join, List.intercalate, ul, ByteArray.data_append]
theorem key_ev (m t : ByteArray) (s : Int) (r : ByteArray) (mi : Int) (l : FieldL) (b : ByteArray) (hl : Few l) (hm : m.size ≤ 1000000000) (ht : t.size ≤ 1000000000) :
    Ev (fun k => key_Key.f k m t s r mi l b) (keyS m t l) := by
  have hn : target_Normal.f t = some (normalS (ul t)) := by unfold target_Normal.f; rw [if_pos ht]
  have hns := normalS_size (ul t)
  have hhs := hostS_size hl
  unfold keyS
  by_cases h0 : (normalS (ul t)).2.2 = 0
  · rw [if_pos h0]
    refine Ev.congr (f := fun k => (field_Get.f k l cHost).bind fun g => if g.length < 8796093022208 then (some (g ++ [(⟨#[]⟩ : ByteArray)])).bind fun y => if 0 < (y.length : Int) then (field_Lower.f (rdOf ByteArray.empty y 0)).bind fun u => if (normalS (ul t)).1.size + (normalS (ul t)).2.1.size ≤ 9223372036854775807 then (strings_Join.f [m, u, (normalS (ul t)).1 ++ (normalS (ul t)).2.1] (⟨#[32]⟩ : ByteArray)).bind fun v => some (v, 0) else none else none else none) (fun k => ?_) (Ev.bind (get_ev l hl cHost (by decide)) ?_)
    · unfold key_Key.f
      rw [hn]
      simp only [Option.bind_some]
      rw [if_pos h0]
      rfl
    · have hg := (getF_few hl cHost).1
      have hlow : (lower (hostS l)).size = (hostS l).size := lower_size _
      refine Ev.congr (fun k => ?_) (Ev.now _)
      rw [if_pos (by omega)]
      simp only [Option.bind_some]
      rw [if_pos (by simp), host_rd, fieldLower_some _ (by omega)]
      simp only [Option.bind_some]
      have hj : strings_Join.f [m, lower (hostS l), (normalS (ul t)).1 ++ (normalS (ul t)).2.1] (⟨#[32]⟩ : ByteArray) = some (m ++ (⟨#[32]⟩ : ByteArray) ++ lower (hostS l) ++ (⟨#[32]⟩ : ByteArray) ++ ((normalS (ul t)).1 ++ (normalS (ul t)).2.1)) := by
        unfold strings_Join.f
        have hsz : (Lib.join ([m, lower (hostS l), (normalS (ul t)).1 ++ (normalS (ul t)).2.1].map ul) (ul (⟨#[32]⟩ : ByteArray))).length ≤ 140737488355328 := by
          rw [← bs_size, join3]
          simp only [ByteArray.size_append]
          rw [show (⟨#[32]⟩ : ByteArray).size = 1 from rfl]
          omega
        rw [if_pos ⟨by simp, hsz⟩, join3]
      rw [if_pos (by omega), hj]
      simp only [Option.bind_some]
      congr 2
      refine ul_inj ?_
      simp [ul, ByteArray.data_append]
  · rw [if_neg h0]
    refine Ev.congr (fun k => ?_) (Ev.now _)
    unfold key_Key.f
    rw [hn]
    simp only [Option.bind_some]
    rw [if_neg h0]
theorem key_calls (x : Hd) (b : ByteArray) (w : World) (hx : x.In w) (hm : x.m.size ≤ 1000000000) (ht : x.t.size ≤ 1000000000) :
    Calls Tryz.prog 29 #[x.mv b] w fun e w' => e = .returned (.tuple #[.string (keyS x.m x.t x.l).1, .int .i64 (keyS x.m x.t x.l).2]) ∧ Below w.heap.size w w' := by
  obtain ⟨k, hk⟩ := (key_ev x.m x.t x.s x.r x.mi x.l b hx.few hm ht).rounds
  exact key_Key.calls k x.m x.t x.s x.r x.mi x.A x.c x.l b _ _ w hx.rd hx.cap hk
end Go.Proofs.YtalafpigfeiaiaaGreatDoor.Q
end
section
namespace Go.Proofs.YtalafpigfeiaiaaGreatDoor.Q
open Go.RowKit Go.Proofs.YtalafpigfeiaiaaGreatDoor.H Go.Proofs.YtalafpigfeiaiaaGreatDoorW.PrintWords
set_option linter.unusedVariables false
set_option linter.unusedSimpArgs false
theorem strings_loop (a b : List ByteArray) (hl : a.length = b.length) (hs : a.length ≤ 1000000000) (d : Nat) : ∀ i : Nat, i ≤ a.length → a.length - i = d → (∀ j, j < i → a[j]? = b[j]?) →
    Ev (fun k => lockageref05_Strings.l0 k a b (i : Int)) (decide (a = b)) := by
  induction d with
  | zero =>
    intro i hi hd hsame
    have e : a = b := by
      apply List.ext_getElem?
      intro j
      by_cases h : j < i
      · exact hsame j h
      · rw [List.getElem?_eq_none (by omega), List.getElem?_eq_none (by omega)]
    rw [decide_eq_true e]
    exact Ev.step (f := fun _ => some true) (fun k => by simp only [lockageref05_Strings.l0]; rw [if_neg (by omega)]) (Ev.now _)
  | succ d ih =>
    intro i hi hd hsame
    have h1 : i < a.length := by omega
    have h2 : i < b.length := by omega
    have hst : ∀ k, lockageref05_Strings.l0 (k + 1) a b (i : Int) = if ul a[i] = ul b[i] then lockageref05_Strings.l0 k a b ((i + 1 : Nat) : Int) else some false := by
      intro k
      simp only [lockageref05_Strings.l0]
      rw [if_pos (by omega), if_pos (by omega), if_pos (by omega), rdOf_get a i h1, rdOf_get b i h2, toList_ul, toList_ul, wrap_succ (by omega)]
    by_cases he : ul a[i] = ul b[i]
    · refine Ev.step (fun k => by rw [hst, if_pos he]) (ih (i + 1) (by omega) (by omega) (fun j hj => ?_))
      by_cases hji : j < i
      · exact hsame j hji
      · obtain rfl : j = i := by omega
        rw [List.getElem?_eq_getElem h1, List.getElem?_eq_getElem h2, ul_inj he]
    · have hne : ¬ a = b := fun q => he (by subst q; rfl)
      rw [decide_eq_false hne]
      exact Ev.step (f := fun _ => some false) (fun k => by rw [hst, if_neg he]) (Ev.now _)
theorem strings_ev (a b : List ByteArray) (hs : a.length ≤ 1000000000) : Ev (fun k => lockageref05_Strings.f k a b) (decide (a = b)) := by
  by_cases hl : a.length = b.length
  · have := strings_loop a b hl hs a.length 0 (by omega) (by omega) (fun j hj => absurd hj (Nat.not_lt_zero _))
    exact Ev.congr (fun k => by unfold lockageref05_Strings.f; rw [if_pos (by omega)]; rfl) this
  · have hne : ¬ a = b := fun q => hl (by rw [q])
    rw [decide_eq_false hne]
    exact Ev.congr (fun k => by unfold lockageref05_Strings.f; rw [if_neg (by omega)]) (Ev.now _)
theorem strings_calls (A0 : Option Addr) (c0 : Nat) (a : List ByteArray) (A1 : Option Addr) (c1 : Nat) (b : List ByteArray) (w : World) (hr0 : Kd.C Kd.string w A0 a.length a) (hc0 : a.length ≤ c0) (hr1 : Kd.C Kd.string w A1 b.length b) (hc1 : b.length ≤ c1) (hs : a.length ≤ 1000000000) :
    Calls Tryz.prog 25 #[.slice A0 a.length c0, .slice A1 b.length c1] w fun e w' => e = .returned (.bool (decide (a = b))) ∧ Drawn0 w w' := by
  obtain ⟨k, hk⟩ := (strings_ev a b hs).rounds
  exact lockageref05_Strings.calls k A0 c0 a A1 c1 b _ w hr0 hc0 hr1 hc1 hk
def pieceL : List ByteArray := ([(⟨#[47]⟩ : ByteArray), (⟨#[97]⟩ : ByteArray), (⟨#[46, 46]⟩ : ByteArray), (⟨#[46]⟩ : ByteArray), (⟨#[37, 50, 101]⟩ : ByteArray), (⟨#[37, 50, 70]⟩ : ByteArray), (⟨#[37, 55, 101]⟩ : ByteArray), (⟨#[37]⟩ : ByteArray), (⟨#[37, 48]⟩ : ByteArray), (⟨#[37, 48, 48]⟩ : ByteArray), (⟨#[63]⟩ : ByteArray), (⟨#[98, 61, 99]⟩ : ByteArray), (⟨#[35]⟩ : ByteArray), (⟨#[37, 52, 49]⟩ : ByteArray), (⟨#[126]⟩ : ByteArray), (⟨#[47, 47]⟩ : ByteArray), (⟨#[47, 46, 47]⟩ : ByteArray), (⟨#[47, 46, 46, 47]⟩ : ByteArray), (⟨#[37, 67, 51, 37, 97, 52]⟩ : ByteArray), (⟨#[195, 169]⟩ : ByteArray), (⟨#[32]⟩ : ByteArray), (⟨#[37, 122, 122]⟩ : ByteArray), (⟨#[37, 51, 102]⟩ : ByteArray)] : List ByteArray)
theorem piece_tab : ∀ j : Fin 23, (pieceL.getD j.val ByteArray.empty).size ≤ 6 := by decide +kernel
theorem pieces_loop (l : List Int) (hb : ∀ x ∈ l, 0 ≤ x ∧ x < 256) (d : Nat) : ∀ (i : Nat) (s : ByteArray), i ≤ 16 → 16 - i = d → s.size ≤ 1 + 6 * i → ∃ r, Ev (fun k => lockagelaw13_Pieces.l0 k l pieceL s (i : Int)) r ∧ r.size ≤ 97 := by
  induction d with
  | zero =>
    intro i s hi hd hs
    refine ⟨s, Ev.step (f := fun _ => some s) (fun k => ?_) (Ev.now _), by omega⟩
    simp only [lockagelaw13_Pieces.l0]
    by_cases h : (i : Int) < (l.length : Int)
    · rw [if_pos h, if_neg (by omega)]
    · rw [if_neg h]
  | succ d ih =>
    intro i s hi hd hs
    by_cases h : (i : Int) < (l.length : Int)
    · have hil : i < l.length := by omega
      have hx := hb l[i] (List.getElem_mem hil)
      have hrd : rd l (i : Int) = l[i] := by simp [rd, List.getD_eq_getElem?_getD, List.getElem?_eq_getElem hil]
      generalize l[i] = x at *
      obtain ⟨n, rfl⟩ : ∃ n : Nat, x = n := ⟨x.toNat, by omega⟩
      have hw : wrap64 (n : Int) = (n : Int) := by unfold wrap64; omega
      have hm : Int.tmod (n : Int) ((pieceL.length : Nat) : Int) = ((n % 23 : Nat) : Int) := by rw [show pieceL.length = 23 from rfl, Int.tmod_eq_emod_of_nonneg (by omega)]; omega
      have hpl : (pieceL.length : Int) = 23 := rfl
      have hp := piece_tab ⟨n % 23, by omega⟩
      have hpe : rdOf ByteArray.empty pieceL ((n % 23 : Nat) : Int) = pieceL.getD (n % 23) ByteArray.empty := rfl
      simp only at hp
      generalize pieceL.getD (n % 23) ByteArray.empty = y at *
      obtain ⟨r, hr, hrs⟩ := ih (i + 1) (s ++ y) (by omega) (by omega) (by rw [ByteArray.size_append]; omega)
      refine ⟨r, Ev.step (fun k => ?_) hr, hrs⟩
      simp only [lockagelaw13_Pieces.l0]
      rw [if_pos h, if_pos (by omega), if_pos (by omega), hrd, hw, hm, hpl, if_neg (by omega), if_pos (by omega), if_pos (by omega), hpe, if_pos (by omega), wrap_succ (by omega)]
    · exact ⟨s, Ev.step (f := fun _ => some s) (fun k => by simp only [lockagelaw13_Pieces.l0]; rw [if_neg h]) (Ev.now _), by omega⟩
theorem pieces_calls (A0 : Option Addr) (c0 : Nat) (l : List Int) (w : World) (hr0 : Kd.C (Kd.int .u8) w A0 l.length l) (hc0 : l.length ≤ c0) (hb : ∀ x ∈ l, 0 ≤ x ∧ x < 256) :
    ∃ s : ByteArray, s.size ≤ 97 ∧ Calls Tryz.prog 18 #[.slice A0 l.length c0] w fun e w' => e = .returned (.string s) ∧ Below w.heap.size w w' := by
  obtain ⟨r, hr, hs⟩ := pieces_loop l hb 16 0 (⟨#[47]⟩ : ByteArray) (by omega) (by omega) (by decide)
  obtain ⟨k, hk⟩ := hr.rounds
  exact ⟨r, hs, lockagelaw13_Pieces.calls k A0 c0 l r w hr0 hc0 hk⟩
end Go.Proofs.YtalafpigfeiaiaaGreatDoor.Q
end
section
namespace Go.Proofs.YtalafpigfeiaiaaGreatDoor.Q
open Go.RowKit Go.Proofs.YtalafpigfeiaiaaGreatDoor.H Go.Proofs.YtalafpigfeiaiaaGreatDoorW.PrintWords
set_option linter.unusedVariables false
set_option linter.unusedSimpArgs false
structure OwnHd (w0 : World) (x : Hd) (w' : World) : Prop where
  row : Kd.R k36 36 w' w0.heap.size (fun _ => True) (.slice x.A x.l.length x.c) x.l
  few : FewS x.l
  len : x.l.length ≤ 6
  m : x.m.size ≤ 30
  t : x.t.size ≤ 30
  clean : CleanL x.l
theorem OwnHd.in_ {w0 w' : World} {x : Hd} (h : OwnHd w0 x w') : x.In w' := by
  obtain ⟨_, h1, h2⟩ := Kd.R_reads' h.row
  exact ⟨h2, h1, h.few.few h.len⟩
theorem OwnHd.below {w0 w' w1 : World} {x : Hd} (h : OwnHd w0 x w') (hb : Below w'.heap.size w' w1) : OwnHd w0 x w1 := ⟨Kd.R_below h.row hb, h.few, h.len, h.m, h.t, h.clean⟩
def GotHead (w : World) (e : Ending) (w' : World) : Prop := ∃ x : Hd, e = .returned x.v ∧ OwnHd w x w' ∧ Below w.heap.size w w'
def GotMsg (w : World) (e : Ending) (w' : World) : Prop := ∃ (x : Hd) (b : ByteArray), e = .returned (x.mv b) ∧ b.size ≤ 1 ∧ OwnHd w x w' ∧ Below w.heap.size w w'
theorem six_cells {W : World} {z : Nat} {a b c d e f : Value} (h : W.heap[z]? = some (.cells #[a, b, c, d, e, f] 25 (0, 0))) :
    W.cell? ⟨z, 0, none⟩ = some a ∧ W.cell? ⟨z, 1, none⟩ = some b ∧ W.cell? ⟨z, 2, none⟩ = some c ∧ W.cell? ⟨z, 3, none⟩ = some d ∧ W.cell? ⟨z, 4, none⟩ = some e ∧ W.cell? ⟨z, 5, none⟩ = some f :=
  ⟨(blk_cell h 0).trans rfl, (blk_cell h 1).trans rfl, (blk_cell h 2).trans rfl, (blk_cell h 3).trans rfl, (blk_cell h 4).trans rfl, (blk_cell h 5).trans rfl⟩
abbrev six (W : World) (z : Nat) (a b c d e f : Value) : World := (((((W.setCell ⟨z, 0, none⟩ a).setCell ⟨z, 1, none⟩ b).setCell ⟨z, 2, none⟩ c).setCell ⟨z, 3, none⟩ d).setCell ⟨z, 4, none⟩ e).setCell ⟨z, 5, none⟩ f
theorem six_put {W : World} {z : Nat} {a0 b0 c0 d0 e0 f0 a b c d e f : Value} (h : W.heap[z]? = some (.cells #[a0, b0, c0, d0, e0, f0] 25 (0, 0))) : (six W z a b c d e f).heap[z]? = some (.cells #[a, b, c, d, e, f] 25 (0, 0)) := by
  refine blk_put (cs := #[a, b, c, d, e, f0]) ?_ 5 _ rfl
  refine blk_put (cs := #[a, b, c, d, e0, f0]) ?_ 4 _ rfl
  refine blk_put (cs := #[a, b, c, d0, e0, f0]) ?_ 3 _ rfl
  refine blk_put (cs := #[a, b, c0, d0, e0, f0]) ?_ 2 _ rfl
  refine blk_put (cs := #[a, b0, c0, d0, e0, f0]) ?_ 1 _ rfl
  exact blk_put (cs := #[a0, b0, c0, d0, e0, f0]) h 0 _ rfl
theorem six_far {W : World} {z base : Nat} {v a b c d e f : Value} {L : FieldL} (h : Kd.R k36 36 W base (fun _ => True) v L) (hz : z < base) : Kd.R k36 36 (six W z a b c d e f) base (fun _ => True) v L := by
  have hk : ∀ k, (True ∧ base ≤ k ∧ k < W.heap.size ∧ ∃ q, q ∈ 36 :: k36.E ∧ ∃ cells, W.heap[k]? = some (.cells cells q (0, 0))) → k ≠ z := fun k hk => by have := hk.2.1; omega
  exact Kd.R_mono (Kd.R_far (p := ⟨z, 5, none⟩) (Kd.R_far (p := ⟨z, 4, none⟩) (Kd.R_far (p := ⟨z, 3, none⟩) (Kd.R_far (p := ⟨z, 2, none⟩) (Kd.R_far (p := ⟨z, 1, none⟩) (Kd.R_far (p := ⟨z, 0, none⟩) (Kd.R_bound h) hk a) hk b) hk c) hk d) hk e) hk f) (fun _ _ => trivial)
theorem six_below {B : Nat} {w W : World} {z : Nat} {a b c d e f : Value} (h : Below B w W) (hz : B ≤ z) : Below B w (six W z a b c d e f) :=
  (((((h.setCell (p := ⟨z, 0, none⟩) hz _).setCell (p := ⟨z, 1, none⟩) hz _).setCell (p := ⟨z, 2, none⟩) hz _).setCell (p := ⟨z, 3, none⟩) hz _).setCell (p := ⟨z, 4, none⟩) hz _).setCell (p := ⟨z, 5, none⟩) hz _
set_option maxHeartbeats 1000000 in
set_option maxRecDepth 100000 in
theorem made_calls (A : Option Addr) (c : Nat) (l : List Int) (ans : Bool) (w : World) (hr : Kd.C (Kd.int .u8) w A l.length l) (hb : Bytes l) :
    Calls Tryz.prog 16 #[.slice A l.length c, .bool ans] w (GotHead w) := by
  obtain ⟨m, t, s, r, mi, L, at2, hE, hm, ht, hl, hf, hcl, ha⟩ := head_ev l hb 0 (by omega) ans
  obtain ⟨k, hk⟩ := hE.rounds
  have hk' : lockagelaw06_Maker_Head.f k l 0 ans = some (m, t, s, r, mi, L, (at2 : Int)) := hk
  have HC := Aside0.mk (fun (W : World) (z : Nat) (hz : z = W.heap.size) (hB : Below w.heap.size w W) => (hz ▸ lockagelaw06_Maker_Head.calls k W.heap.size l 0 ans m t s r mi L at2 w (W.alloc (.cells #[.slice A l.length c, .int .i64 0] 80)) (IsS80.new w W A c l 0 hB hr) (below_alloc hB _) hk' : Calls Tryz.prog 44 #[.pointer (some ⟨z, 0, none⟩), .bool ans] (W.alloc (.cells #[.slice A l.length c, .int .i64 0] 80)) _))
  clear hk hk' hE hr
  go_enter Tryz.func16, Tryz.ntmps16
  go_wp2_with fail
  with_reducible refine (HC.out _ _ (by simp) (below_alloc (Below.refl _ _) _)).mono ?_
  rintro e w1 ⟨v, rfl, hv, hI1, hB1, hK1⟩
  obtain ⟨A', c', rfl, hlc, hvr⟩ := Kd.R_reads hv
  have HV := Aside0.mk hv
  have HB1 := Aside0.mk hB1
  have hz1 := (hK1.2 w.heap.size (by simp; omega) (by simp) (by simp)).trans ((Below.heap_alloc _ _ _ (by simp)).trans (heap_alloc_new w _))
  have HZ := Aside0.mk hz1
  have hf0 := blk_frozen hz1 0
  have hf1 := blk_frozen hz1 1
  have hf2 := blk_frozen hz1 2
  have hf3 := blk_frozen hz1 3
  have hf4 := blk_frozen hz1 4
  have hf5 := blk_frozen hz1 5
  obtain ⟨hc0, hc1, hc2, hc3, hc4, hc5⟩ := six_cells hz1
  clear hv hI1 hB1 hK1 hvr hz1
  go_wp2
  refine bodyPost_ret (results_cell_row rfl _ _ w.heap.size 25 #[.string m, .string t, .int .i64 s, .string r, .int .i64 mi, .slice A' L.length c'] (0, 0) _ rfl ?_ Tryz.underlying25 rfl (by kernel_rfl)) rfl ?_
  · exact six_put HZ.out
  · exact ⟨⟨m, t, s, r, mi, A', c', L⟩, rfl, ⟨Kd.R_lower (six_far HV.out (by simp; omega)) (by simp; omega), hf, hl, hm, ht, hcl⟩, six_below HB1.out (Nat.le_refl _)⟩
abbrev seven (W : World) (z : Nat) (a b c d e f g : Value) : World := (six W z a b c d e f).setCell ⟨z, 6, none⟩ g
theorem seven_put {W : World} {z : Nat} {a0 b0 c0 d0 e0 f0 g0 a b c d e f g : Value} (h : W.heap[z]? = some (.cells #[a0, b0, c0, d0, e0, f0, g0] 27 (0, 0))) : (seven W z a b c d e f g).heap[z]? = some (.cells #[a, b, c, d, e, f, g] 27 (0, 0)) := by
  refine blk_put (cs := #[a, b, c, d, e, f, g0]) ?_ 6 _ rfl
  refine blk_put (cs := #[a, b, c, d, e, f0, g0]) ?_ 5 _ rfl
  refine blk_put (cs := #[a, b, c, d, e0, f0, g0]) ?_ 4 _ rfl
  refine blk_put (cs := #[a, b, c, d0, e0, f0, g0]) ?_ 3 _ rfl
  refine blk_put (cs := #[a, b, c0, d0, e0, f0, g0]) ?_ 2 _ rfl
  refine blk_put (cs := #[a, b0, c0, d0, e0, f0, g0]) ?_ 1 _ rfl
  exact blk_put (cs := #[a0, b0, c0, d0, e0, f0, g0]) h 0 _ rfl
theorem seven_far {W : World} {z base : Nat} {ok : Nat → Prop} {v a b c d e f g : Value} {L : FieldL} (h : Kd.R k36 36 W base ok v L) (hk : ∀ k, ok k → k ≠ z) : Kd.R k36 36 (seven W z a b c d e f g) base ok v L :=
  Kd.R_far (p := ⟨z, 6, none⟩) (Kd.R_far (p := ⟨z, 5, none⟩) (Kd.R_far (p := ⟨z, 4, none⟩) (Kd.R_far (p := ⟨z, 3, none⟩) (Kd.R_far (p := ⟨z, 2, none⟩) (Kd.R_far (p := ⟨z, 1, none⟩) (Kd.R_far (p := ⟨z, 0, none⟩) h hk a) hk b) hk c) hk d) hk e) hk f) hk g
theorem seven_cells {W : World} {z : Nat} {a b c d e f g : Value} (h : W.heap[z]? = some (.cells #[a, b, c, d, e, f, g] 27 (0, 0))) :
    W.cell? ⟨z, 0, none⟩ = some a ∧ W.cell? ⟨z, 1, none⟩ = some b ∧ W.cell? ⟨z, 2, none⟩ = some c ∧ W.cell? ⟨z, 3, none⟩ = some d ∧ W.cell? ⟨z, 4, none⟩ = some e ∧ W.cell? ⟨z, 5, none⟩ = some f ∧ W.cell? ⟨z, 6, none⟩ = some g :=
  ⟨(blk_cell h 0).trans rfl, (blk_cell h 1).trans rfl, (blk_cell h 2).trans rfl, (blk_cell h 3).trans rfl, (blk_cell h 4).trans rfl, (blk_cell h 5).trans rfl, (blk_cell h 6).trans rfl⟩
theorem keep_blk {w w1 : World} {g k : Nat} {o : Obj} (h : KeepBut w w1 g none) (hk : w.heap[k]? = some o) (hne : k ≠ g) : w1.heap[k]? = some o := (h.2 k (blk_lt hk) hne (by simp)).trans hk
set_option maxHeartbeats 2000000 in
set_option maxRecDepth 100000 in
theorem request_calls (A : Option Addr) (c : Nat) (l : List Int) (w : World) (hr : Kd.C (Kd.int .u8) w A l.length l) (hb : Bytes l) :
    Calls Tryz.prog 15 #[.slice A l.length c] w (GotMsg w) := by
  obtain ⟨m, t, s, r, mi, L, at2, hE, hm, ht, hl, hf, hcl, ha⟩ := head_ev l hb 0 (by omega) false
  obtain ⟨k, hk⟩ := hE.rounds
  have hk' : lockagelaw06_Maker_Head.f k l 0 false = some (m, t, s, r, mi, L, (at2 : Int)) := hk
  obtain ⟨p1, _, hp1⟩ := pick_ev l hb at2 3 3 rfl (by omega) (by omega) (by omega)
  obtain ⟨p2, _, hp2⟩ := pick_ev l hb (at2 + 1) 6 6 rfl (by omega) (by omega) (by omega)
  have HC := Aside0.mk (fun (W : World) (z : Nat) (hz : z = W.heap.size) (hB : Below w.heap.size w W) => (hz ▸ lockagelaw06_Maker_Head.calls k W.heap.size l 0 false m t s r mi L at2 w (W.alloc (.cells #[.slice A l.length c, .int .i64 0] 80)) (IsS80.new w W A c l 0 hB hr) (below_alloc hB _) hk' : Calls Tryz.prog 44 #[.pointer (some ⟨z, 0, none⟩), .bool false] (W.alloc (.cells #[.slice A l.length c, .int .i64 0] 80)) _))
  have HP1 := Aside0.mk (fun (W : World) (z : Nat) (hI : IsS80 w W z l (at2 : Int)) (hB : Below w.heap.size w W) => lockagelaw06_Maker_Pick.calls z l at2 3 p1 ((at2 + 1 : Nat) : Int) w W hI hB hp1)
  have HP2 := Aside0.mk (fun (W : World) (z : Nat) (hI : IsS80 w W z l ((at2 + 1 : Nat) : Int)) (hB : Below w.heap.size w W) => lockagelaw06_Maker_Pick.calls z l ((at2 + 1 : Nat) : Int) 6 p2 ((at2 + 1 + 1 : Nat) : Int) w W hI hB hp2)
  clear hk hk' hE hr hp1 hp2
  generalize hd3 : decide (0 < p1) = d3
  generalize hd6 : ((p2 : Int) == 5) = d6
  cases d3 with
  | true =>
    cases d6 with
    | true =>
      go_enter Tryz.func15, Tryz.ntmps15
      go_wp2_with fail
      with_reducible refine (HC.out _ _ (by simp) (below_alloc (Below.refl _ _) _)).mono ?_
      rintro e w1 ⟨v, rfl, hv, hI1, hB1, hK1⟩
      obtain ⟨A', c', rfl, hlc, hvr⟩ := Kd.R_reads hv
      have HV1 := Aside0.mk (Kd.R_mono (Kd.R_bound (Kd.R_lower (base' := w.heap.size + 2) hv (by simp))) (fun k hk => (⟨hk.2.1, hk.2.2.1⟩ : w.heap.size + 2 ≤ k ∧ k < w1.heap.size)))
      have HB1 := Aside0.mk hB1
      have HI1 := Aside0.mk hI1
      have hs1 : w.heap.size + 1 < w1.heap.size := by have := hK1.1; simp at this; omega
      have HS1 := Aside0.mk hs1
      have HZ1 := Aside0.mk ((hK1.2 w.heap.size (by simp; omega) (by simp) (by simp)).trans ((Below.heap_alloc _ _ _ (by simp)).trans (heap_alloc_new w _)))
      clear hv hI1 hB1 hK1 hvr hs1
      go_wp2_with fail
      with_reducible refine (HP1.out _ _ (IsS80.alloc HI1.out _) (below_alloc HB1.out _)).mono ?_
      rintro e w2 ⟨rfl, hI2, hB2, hK2⟩
      have HI2 := Aside0.mk hI2
      have HB2 := Aside0.mk hB2
      have hs2 : w1.heap.size < w2.heap.size := by have := hK2.1; simp at this; omega
      have HS2 := Aside0.mk hs2
      have HZ2 := Aside0.mk (keep_blk hK2 ((Below.heap_alloc _ _ _ (by have := HS1.out; omega)).trans HZ1.out) (by omega))
      have hy2 := keep_blk hK2 (heap_alloc_new w1 _) (by have := HS1.out; omega)
      have HY2 := Aside0.mk hy2
      have HV2 := Aside0.mk (Kd.R_keep (Kd.R_alloc HV1.out _) hK2 (fun k hk => by omega))
      obtain ⟨hc0, hc1, hc2, hc3, hc4, hc5⟩ := six_cells hy2
      have hf0 := blk_frozen hy2 0
      clear hI2 hB2 hK2 hs2 hy2
      go_wp2_with fail
      clear hc0 hc1 hc2 hc3 hc4 hc5 hf0
      with_reducible refine (HP2.out _ _ (IsS80.far HI2.out (by have := HS1.out; show _ ≠ w1.heap.size; omega) _) (below_set HB2.out (by have := HS1.out; omega))).mono ?_
      rintro e w3 ⟨rfl, hI3, hB3, hK3⟩
      have HZ3 := Aside0.mk (keep_blk hK3 ((Below.heap_setCell _ _ _ _ (by have := HS1.out; show _ ≠ w1.heap.size; omega)).trans HZ2.out) (by omega))
      have hy3 := keep_blk hK3 (blk_put (cs' := #[.string ⟨#[71, 69, 84]⟩, .string t, .int .i64 s, .string r, .int .i64 mi, .slice A' L.length c']) HY2.out 0 _ rfl) (by have := HS1.out; omega)
      have HV3 := Aside0.mk (Kd.R_keep (Kd.R_far HV2.out (fun k hk => by show k ≠ w1.heap.size; omega) _) hK3 (fun k hk => by omega))
      have HB3 := Aside0.mk hB3
      have hz3 := HZ3.out
      obtain ⟨hc0, hc1, hc2, hc3, hc4, hc5⟩ := six_cells hy3
      obtain ⟨hd0, hd1, hd2, hd3_, hd4, hd5, hd6_⟩ := seven_cells hz3
      have hf0 := blk_frozen hz3 0
      have hf1 := blk_frozen hz3 1
      have hf2 := blk_frozen hz3 2
      have hf3 := blk_frozen hz3 3
      have hf4 := blk_frozen hz3 4
      have hf5 := blk_frozen hz3 5
      have hf6 := blk_frozen hz3 6
      clear hI3 hB3 hK3 hy3 hz3
      go_wp2
      refine bodyPost_ret (results_cell_row rfl _ _ w.heap.size 27 #[.string ⟨#[71, 69, 84]⟩, .string t, .int .i64 s, .string r, .int .i64 mi, .slice A' L.length c', .string ⟨#[120]⟩] (0, 0) _ rfl (seven_put HZ3.out) Tryz.underlying27 rfl (by kernel_rfl)) rfl ?_
      exact ⟨⟨⟨#[71, 69, 84]⟩, t, s, r, mi, A', c', L⟩, ⟨#[120]⟩, rfl, by decide, ⟨Kd.R_lower (Kd.R_mono (seven_far HV3.out (fun k hk => by omega)) (fun _ _ => trivial)) (by omega), hf, hl, (by decide : (⟨#[71, 69, 84]⟩ : ByteArray).size ≤ 30), ht, hcl⟩, (six_below HB3.out (Nat.le_refl _)).setCell (p := ⟨w.heap.size, 6, none⟩) (Nat.le_refl _) _⟩
    | false =>
      go_enter Tryz.func15, Tryz.ntmps15
      go_wp2_with fail
      with_reducible refine (HC.out _ _ (by simp) (below_alloc (Below.refl _ _) _)).mono ?_
      rintro e w1 ⟨v, rfl, hv, hI1, hB1, hK1⟩
      obtain ⟨A', c', rfl, hlc, hvr⟩ := Kd.R_reads hv
      have HV1 := Aside0.mk (Kd.R_mono (Kd.R_bound (Kd.R_lower (base' := w.heap.size + 2) hv (by simp))) (fun k hk => (⟨hk.2.1, hk.2.2.1⟩ : w.heap.size + 2 ≤ k ∧ k < w1.heap.size)))
      have HB1 := Aside0.mk hB1
      have HI1 := Aside0.mk hI1
      have hs1 : w.heap.size + 1 < w1.heap.size := by have := hK1.1; simp at this; omega
      have HS1 := Aside0.mk hs1
      have HZ1 := Aside0.mk ((hK1.2 w.heap.size (by simp; omega) (by simp) (by simp)).trans ((Below.heap_alloc _ _ _ (by simp)).trans (heap_alloc_new w _)))
      clear hv hI1 hB1 hK1 hvr hs1
      go_wp2_with fail
      with_reducible refine (HP1.out _ _ (IsS80.alloc HI1.out _) (below_alloc HB1.out _)).mono ?_
      rintro e w2 ⟨rfl, hI2, hB2, hK2⟩
      have HI2 := Aside0.mk hI2
      have HB2 := Aside0.mk hB2
      have hs2 : w1.heap.size < w2.heap.size := by have := hK2.1; simp at this; omega
      have HS2 := Aside0.mk hs2
      have HZ2 := Aside0.mk (keep_blk hK2 ((Below.heap_alloc _ _ _ (by have := HS1.out; omega)).trans HZ1.out) (by omega))
      have hy2 := keep_blk hK2 (heap_alloc_new w1 _) (by have := HS1.out; omega)
      have HY2 := Aside0.mk hy2
      have HV2 := Aside0.mk (Kd.R_keep (Kd.R_alloc HV1.out _) hK2 (fun k hk => by omega))
      obtain ⟨hc0, hc1, hc2, hc3, hc4, hc5⟩ := six_cells hy2
      have hf0 := blk_frozen hy2 0
      clear hI2 hB2 hK2 hs2 hy2
      go_wp2_with fail
      clear hc0 hc1 hc2 hc3 hc4 hc5 hf0
      with_reducible refine (HP2.out _ _ (IsS80.far HI2.out (by have := HS1.out; show _ ≠ w1.heap.size; omega) _) (below_set HB2.out (by have := HS1.out; omega))).mono ?_
      rintro e w3 ⟨rfl, hI3, hB3, hK3⟩
      have HZ3 := Aside0.mk (keep_blk hK3 ((Below.heap_setCell _ _ _ _ (by have := HS1.out; show _ ≠ w1.heap.size; omega)).trans HZ2.out) (by omega))
      have hy3 := keep_blk hK3 (blk_put (cs' := #[.string ⟨#[71, 69, 84]⟩, .string t, .int .i64 s, .string r, .int .i64 mi, .slice A' L.length c']) HY2.out 0 _ rfl) (by have := HS1.out; omega)
      have HV3 := Aside0.mk (Kd.R_keep (Kd.R_far HV2.out (fun k hk => by show k ≠ w1.heap.size; omega) _) hK3 (fun k hk => by omega))
      have HB3 := Aside0.mk hB3
      have hz3 := HZ3.out
      obtain ⟨hc0, hc1, hc2, hc3, hc4, hc5⟩ := six_cells hy3
      obtain ⟨hd0, hd1, hd2, hd3_, hd4, hd5, hd6_⟩ := seven_cells hz3
      have hf0 := blk_frozen hz3 0
      have hf1 := blk_frozen hz3 1
      have hf2 := blk_frozen hz3 2
      have hf3 := blk_frozen hz3 3
      have hf4 := blk_frozen hz3 4
      have hf5 := blk_frozen hz3 5
      have hf6 := blk_frozen hz3 6
      clear hI3 hB3 hK3 hy3 hz3
      go_wp2
      refine bodyPost_ret (results_cell_row rfl _ _ w.heap.size 27 #[.string ⟨#[71, 69, 84]⟩, .string t, .int .i64 s, .string r, .int .i64 mi, .slice A' L.length c', .string ⟨#[]⟩] (0, 0) _ rfl (seven_put HZ3.out) Tryz.underlying27 rfl (by kernel_rfl)) rfl ?_
      exact ⟨⟨⟨#[71, 69, 84]⟩, t, s, r, mi, A', c', L⟩, ⟨#[]⟩, rfl, by decide, ⟨Kd.R_lower (Kd.R_mono (seven_far HV3.out (fun k hk => by omega)) (fun _ _ => trivial)) (by omega), hf, hl, (by decide : (⟨#[71, 69, 84]⟩ : ByteArray).size ≤ 30), ht, hcl⟩, (six_below HB3.out (Nat.le_refl _)).setCell (p := ⟨w.heap.size, 6, none⟩) (Nat.le_refl _) _⟩
  | false =>
    cases d6 with
    | true =>
      go_enter Tryz.func15, Tryz.ntmps15
      go_wp2_with fail
      with_reducible refine (HC.out _ _ (by simp) (below_alloc (Below.refl _ _) _)).mono ?_
      rintro e w1 ⟨v, rfl, hv, hI1, hB1, hK1⟩
      obtain ⟨A', c', rfl, hlc, hvr⟩ := Kd.R_reads hv
      have HV1 := Aside0.mk (Kd.R_mono (Kd.R_bound (Kd.R_lower (base' := w.heap.size + 2) hv (by simp))) (fun k hk => (⟨hk.2.1, hk.2.2.1⟩ : w.heap.size + 2 ≤ k ∧ k < w1.heap.size)))
      have HB1 := Aside0.mk hB1
      have HI1 := Aside0.mk hI1
      have hs1 : w.heap.size + 1 < w1.heap.size := by have := hK1.1; simp at this; omega
      have HS1 := Aside0.mk hs1
      have HZ1 := Aside0.mk ((hK1.2 w.heap.size (by simp; omega) (by simp) (by simp)).trans ((Below.heap_alloc _ _ _ (by simp)).trans (heap_alloc_new w _)))
      clear hv hI1 hB1 hK1 hvr hs1
      go_wp2_with fail
      with_reducible refine (HP1.out _ _ (IsS80.alloc HI1.out _) (below_alloc HB1.out _)).mono ?_
      rintro e w2 ⟨rfl, hI2, hB2, hK2⟩
      have HI2 := Aside0.mk hI2
      have HB2 := Aside0.mk hB2
      have hs2 : w1.heap.size < w2.heap.size := by have := hK2.1; simp at this; omega
      have HS2 := Aside0.mk hs2
      have HZ2 := Aside0.mk (keep_blk hK2 ((Below.heap_alloc _ _ _ (by have := HS1.out; omega)).trans HZ1.out) (by omega))
      have hy2 := keep_blk hK2 (heap_alloc_new w1 _) (by have := HS1.out; omega)
      have HY2 := Aside0.mk hy2
      have HV2 := Aside0.mk (Kd.R_keep (Kd.R_alloc HV1.out _) hK2 (fun k hk => by omega))
      obtain ⟨hc0, hc1, hc2, hc3, hc4, hc5⟩ := six_cells hy2
      have hf0 := blk_frozen hy2 0
      clear hI2 hB2 hK2 hs2 hy2
      go_wp2_with fail
      clear hc0 hc1 hc2 hc3 hc4 hc5 hf0
      with_reducible refine (HP2.out _ _ HI2.out HB2.out).mono ?_
      rintro e w3 ⟨rfl, hI3, hB3, hK3⟩
      have HZ3 := Aside0.mk (keep_blk hK3 HZ2.out (by omega))
      have hy3 := keep_blk hK3 HY2.out (by have := HS1.out; omega)
      have HV3 := Aside0.mk (Kd.R_keep HV2.out hK3 (fun k hk => by omega))
      have HB3 := Aside0.mk hB3
      have hz3 := HZ3.out
      obtain ⟨hc0, hc1, hc2, hc3, hc4, hc5⟩ := six_cells hy3
      obtain ⟨hd0, hd1, hd2, hd3_, hd4, hd5, hd6_⟩ := seven_cells hz3
      have hf0 := blk_frozen hz3 0
      have hf1 := blk_frozen hz3 1
      have hf2 := blk_frozen hz3 2
      have hf3 := blk_frozen hz3 3
      have hf4 := blk_frozen hz3 4
      have hf5 := blk_frozen hz3 5
      have hf6 := blk_frozen hz3 6
      clear hI3 hB3 hK3 hy3 hz3
      go_wp2
      refine bodyPost_ret (results_cell_row rfl _ _ w.heap.size 27 #[.string m, .string t, .int .i64 s, .string r, .int .i64 mi, .slice A' L.length c', .string ⟨#[120]⟩] (0, 0) _ rfl (seven_put HZ3.out) Tryz.underlying27 rfl (by kernel_rfl)) rfl ?_
      exact ⟨⟨m, t, s, r, mi, A', c', L⟩, ⟨#[120]⟩, rfl, by decide, ⟨Kd.R_lower (Kd.R_mono (seven_far HV3.out (fun k hk => by omega)) (fun _ _ => trivial)) (by omega), hf, hl, hm, ht, hcl⟩, (six_below HB3.out (Nat.le_refl _)).setCell (p := ⟨w.heap.size, 6, none⟩) (Nat.le_refl _) _⟩
    | false =>
      go_enter Tryz.func15, Tryz.ntmps15
      go_wp2_with fail
      with_reducible refine (HC.out _ _ (by simp) (below_alloc (Below.refl _ _) _)).mono ?_
      rintro e w1 ⟨v, rfl, hv, hI1, hB1, hK1⟩
      obtain ⟨A', c', rfl, hlc, hvr⟩ := Kd.R_reads hv
      have HV1 := Aside0.mk (Kd.R_mono (Kd.R_bound (Kd.R_lower (base' := w.heap.size + 2) hv (by simp))) (fun k hk => (⟨hk.2.1, hk.2.2.1⟩ : w.heap.size + 2 ≤ k ∧ k < w1.heap.size)))
      have HB1 := Aside0.mk hB1
      have HI1 := Aside0.mk hI1
      have hs1 : w.heap.size + 1 < w1.heap.size := by have := hK1.1; simp at this; omega
      have HS1 := Aside0.mk hs1
      have HZ1 := Aside0.mk ((hK1.2 w.heap.size (by simp; omega) (by simp) (by simp)).trans ((Below.heap_alloc _ _ _ (by simp)).trans (heap_alloc_new w _)))
      clear hv hI1 hB1 hK1 hvr hs1
      go_wp2_with fail
      with_reducible refine (HP1.out _ _ (IsS80.alloc HI1.out _) (below_alloc HB1.out _)).mono ?_
      rintro e w2 ⟨rfl, hI2, hB2, hK2⟩
      have HI2 := Aside0.mk hI2
      have HB2 := Aside0.mk hB2
      have hs2 : w1.heap.size < w2.heap.size := by have := hK2.1; simp at this; omega
      have HS2 := Aside0.mk hs2
      have HZ2 := Aside0.mk (keep_blk hK2 ((Below.heap_alloc _ _ _ (by have := HS1.out; omega)).trans HZ1.out) (by omega))
      have hy2 := keep_blk hK2 (heap_alloc_new w1 _) (by have := HS1.out; omega)
      have HY2 := Aside0.mk hy2
      have HV2 := Aside0.mk (Kd.R_keep (Kd.R_alloc HV1.out _) hK2 (fun k hk => by omega))
      obtain ⟨hc0, hc1, hc2, hc3, hc4, hc5⟩ := six_cells hy2
      have hf0 := blk_frozen hy2 0
      clear hI2 hB2 hK2 hs2 hy2
      go_wp2_with fail
      clear hc0 hc1 hc2 hc3 hc4 hc5 hf0
      with_reducible refine (HP2.out _ _ HI2.out HB2.out).mono ?_
      rintro e w3 ⟨rfl, hI3, hB3, hK3⟩
      have HZ3 := Aside0.mk (keep_blk hK3 HZ2.out (by omega))
      have hy3 := keep_blk hK3 HY2.out (by have := HS1.out; omega)
      have HV3 := Aside0.mk (Kd.R_keep HV2.out hK3 (fun k hk => by omega))
      have HB3 := Aside0.mk hB3
      have hz3 := HZ3.out
      obtain ⟨hc0, hc1, hc2, hc3, hc4, hc5⟩ := six_cells hy3
      obtain ⟨hd0, hd1, hd2, hd3_, hd4, hd5, hd6_⟩ := seven_cells hz3
      have hf0 := blk_frozen hz3 0
      have hf1 := blk_frozen hz3 1
      have hf2 := blk_frozen hz3 2
      have hf3 := blk_frozen hz3 3
      have hf4 := blk_frozen hz3 4
      have hf5 := blk_frozen hz3 5
      have hf6 := blk_frozen hz3 6
      clear hI3 hB3 hK3 hy3 hz3
      go_wp2
      refine bodyPost_ret (results_cell_row rfl _ _ w.heap.size 27 #[.string m, .string t, .int .i64 s, .string r, .int .i64 mi, .slice A' L.length c', .string ⟨#[]⟩] (0, 0) _ rfl (seven_put HZ3.out) Tryz.underlying27 rfl (by kernel_rfl)) rfl ?_
      exact ⟨⟨m, t, s, r, mi, A', c', L⟩, ⟨#[]⟩, rfl, by decide, ⟨Kd.R_lower (Kd.R_mono (seven_far HV3.out (fun k hk => by omega)) (fun _ _ => trivial)) (by omega), hf, hl, hm, ht, hcl⟩, (six_below HB3.out (Nat.le_refl _)).setCell (p := ⟨w.heap.size, 6, none⟩) (Nat.le_refl _) _⟩
end Go.Proofs.YtalafpigfeiaiaaGreatDoor.Q
end
section
namespace Go.Proofs.YtalafpigfeiaiaaGreatDoor.Q
open Go.RowKit Go.Proofs.YtalafpigfeiaiaaGreatDoor.H Go.Proofs.YtalafpigfeiaiaaGreatDoorW.PrintWords Go.Proofs.YtalafpigfeiaiaaGreatDoorW.PrintLast Go.Proofs.YtalafpigfeiaiaaGreatDoorW.PrintMore
set_option linter.unusedVariables false
set_option linter.unusedSimpArgs false
theorem strings_same (A0 : Option Addr) (c0 : Nat) (a : List ByteArray) (A1 : Option Addr) (c1 : Nat) (w : World) (hr0 : Kd.C Kd.string w A0 a.length a) (hc0 : a.length ≤ c0) (hr1 : Kd.C Kd.string w A1 a.length a) (hc1 : a.length ≤ c1) (hs : a.length ≤ 1000000000) :
    Calls Tryz.prog 25 #[.slice A0 a.length c0, .slice A1 a.length c1] w fun e w' => e = .returned (.bool true) ∧ Below w.heap.size w w' := by
  refine (strings_calls A0 c0 a A1 c1 a w hr0 hc0 hr1 hc1 hs).mono ?_
  rintro e w' ⟨rfl, n, rfl⟩
  exact ⟨by simp, pw_below_drewN (Below.refl _ _) n⟩
def Seven (W : World) (z : Nat) (a b c d e f g : Value) : Prop := W.cell? ⟨z, 0, none⟩ = some a ∧ W.cell? ⟨z, 1, none⟩ = some b ∧ W.cell? ⟨z, 2, none⟩ = some c ∧ W.cell? ⟨z, 3, none⟩ = some d ∧ W.cell? ⟨z, 4, none⟩ = some e ∧ W.cell? ⟨z, 5, none⟩ = some f ∧ W.cell? ⟨z, 6, none⟩ = some g
def Six (W : World) (z : Nat) (a b c d e f : Value) : Prop := W.cell? ⟨z, 0, none⟩ = some a ∧ W.cell? ⟨z, 1, none⟩ = some b ∧ W.cell? ⟨z, 2, none⟩ = some c ∧ W.cell? ⟨z, 3, none⟩ = some d ∧ W.cell? ⟨z, 4, none⟩ = some e ∧ W.cell? ⟨z, 5, none⟩ = some f
end Go.Proofs.YtalafpigfeiaiaaGreatDoor.Q
end
