/- Contracts of functions and plain laws. -/
import Derived.Test.YtalafpigfeiaiaaGreatDoorKV3
import Derived.Test.YtalafpigfeiaiaaGreatDoorProg
import Derived.Sort.Walk0
import Derived.Sort.KeysCollected
import Derived.Maps.Views
section
namespace Go.Proofs.YtalafpigfeiaiaaGreatDoor.Q
open Go.RowKit Go.Shelf Go.Proofs.YtalafpigfeiaiaaGreatDoor.H Go.Proofs.YtalafpigfeiaiaaGreatDoorW.PrintWords Go.Proofs.YtalafpigfeiaiaaGreatDoorW.PrintLast Go.Proofs.YtalafpigfeiaiaaGreatDoorW.PrintMore
attribute [local go_sem] Oper.semAt_some max2_int
set_option linter.unusedVariables false
set_option linter.unusedSimpArgs false
def outK (pre : List ByteArray) : List ByteArray := pre.foldl stepK []
theorem outK_snoc (pre : List ByteArray) (x : ByteArray) : outK (pre ++ [x]) = stepK (outK pre) x := by simp [outK]
theorem outK_length (pre : List ByteArray) : (outK pre).length ≤ pre.length := by
  have h : ∀ (pre out : List ByteArray), (pre.foldl stepK out).length ≤ out.length + pre.length := by
    intro pre
    induction pre with
    | nil => intro out; simp
    | cons x pre ih => intro out; have h1 := stepK_length out x; have h2 := ih (stepK out x); simp at *; omega
  have := h pre []
  rw [List.length_nil, Nat.zero_add] at this
  exact this
theorem stepAll_fold : ∀ (xs out : List ByteArray) (x : ByteArray), stepAll out (xs ++ [x]) = if dotB x then (xs ++ [x]).foldl stepK out ++ [⟨#[]⟩] else (xs ++ [x]).foldl stepK out
  | [], out, x => by simp [stepAll]
  | [y], out, x => by simp [stepAll]
  | y :: z :: xs, out, x => by
    have := stepAll_fold (z :: xs) (stepK out y) x
    simpa [stepAll] using this
def lastD (pre : List ByteArray) : ByteArray := pre.getLastD ⟨#[]⟩
theorem lastD_snoc (pre : List ByteArray) (x : ByteArray) : lastD (pre ++ [x]) = x := by simp [lastD]
theorem keptS_fold (xs : List ByteArray) (h : xs ≠ []) : stepAll [] xs = if dotB (lastD xs) then outK xs ++ [⟨#[]⟩] else outK xs := by
  obtain ⟨pre, x, rfl⟩ : ∃ pre x, xs = pre ++ [x] := ⟨xs.dropLast, xs.getLast h, (List.dropLast_concat_getLast h).symm⟩
  rw [stepAll_fold, lastD_snoc]; rfl
set_option maxRecDepth 100000 in
set_option maxHeartbeats 2000000 in
theorem kept_in (p : ByteArray) (hp : 1 ≤ p.size) (hs : p.size ≤ 1000000) (w : World) :
    CallsIn Fence.wide 40 Tryz.prog 92 #[.string p] w fun e w' => ∃ v : Value, e = .returned v ∧ Kd.R Kd.string 9 w' w.heap.size (fun _ => True) v (stepAll [] (segsS (ul p))) ∧ Below w.heap.size w w' := by
  have hn1 : 1 ≤ (40 : Nat) := by omega
  have hf129 : Fence.wide.fn 129 := trivial
  have hp1 : (1 : Int) ≤ (p.size : Int) := by omega
  refine callsIn_of_wp_marks Tryz.func92 rfl trivial ?_ rfl
  simp only [Tryz.ntmps92, List.size_toArray, List.length_cons, List.length_nil, Nat.reduceAdd, Nat.reduceSub, Array.replicate_succ, Array.replicate_zero, List.push_toArray, List.append_toArray, List.nil_append, List.cons_append]
  gi_wp2_with (gi_at_call 129; refine (callsIn_wide.2 (splitSeq_calls (p.extract 1 p.size) 47 _)).mono ?_; rintro e w' ⟨rfl, rfl⟩)
  obtain ⟨W2, hW2⟩ : ∃ W2, seqWorld (p.extract 1 p.size) 47 ((w.alloc (.cells #[.slice none 0 0] 29)).alloc (.cells #[.string ⟨#[]⟩] 9)) = W2 := ⟨_, rfl⟩
  have hb2 : Below w.heap.size w W2 := by rw [← hW2]; exact (((Below.refl _ w).alloc (Nat.le_refl _) _).alloc (by simp) _).trans ((seqWorld_below (p.extract 1 p.size) 47 _).mono (by simp; omega))
  have hs2 : W2.heap.size = w.heap.size + 5 := by rw [← hW2, seqWorld_size]; simp
  have hz2 : W2.heap[w.heap.size]? = some (.cells #[.slice none 0 0] 29 (0, 0)) := by
    rw [← hW2, (seqWorld_below (p.extract 1 p.size) 47 _).block _ (by simp; omega), Below.heap_alloc _ _ _ (by simp)]; exact heap_alloc_new w _
  have hy2 : W2.heap[w.heap.size + 1]? = some (.cells #[.string ⟨#[]⟩] 9 (0, 0)) := by
    rw [← hW2, (seqWorld_below (p.extract 1 p.size) 47 _).block _ (by simp)]
    have := heap_alloc_new (w.alloc (.cells #[.slice none 0 0] 29)) (.cells #[.string ⟨#[]⟩] 9); simpa using this
  have hbox := seqWorld_boxes (p.extract 1 p.size) 47 ((w.alloc (.cells #[.slice none 0 0] 29)).alloc (.cells #[.string ⟨#[]⟩] 9))
  rw [hW2, World.size_alloc, World.size_alloc] at hbox
  rw [hW2]
  clear hW2
  have hcur : ul (p.extract 1 p.size) = (ul p).drop 1 := by rw [ul_extract, List.take_of_length_le (by rw [List.length_drop, ul_length]; omega)]
  rw [hcur] at hbox
  have hcl : ((ul p).drop 1).length ≤ 1000000 := by rw [List.length_drop, ul_length]; omega
  obtain ⟨z, hz⟩ : ∃ z, w.heap.size = z := ⟨_, rfl⟩
  rw [hz] at hs2 hz2 hy2 hb2 hbox ⊢
  refine range_law (P := Tryz.prog) (gf := 207) (lb := #[.pointer (some ⟨z + 1 + 1 + 1, 0, none⟩), .pointer (some ⟨z + 1 + 1, 0, none⟩), .pointer (some ⟨z + 1 + 1 + 2, 0, none⟩)]) rfl (enters_of Tryz.func207 (by kernel_rfl) rfl)
    (splitSeq1 (40 - 1) (by omega) (z + 1 + 1 + 1) (z + 1 + 1) (z + 1 + 1 + 2) 47 ((ul p).drop 1) (by omega) (by omega) (by omega) W2 hbox) (Below.refl _ _) (by rw [hs2]; omega) rfl
    (fun T pre W' => (∃ v, W'.heap[z]? = some (.cells #[v] 29 (0, 0)) ∧ Kd.R Kd.string 9 W' z (fun _ => True) v (outK pre) ∧ ∀ k, v.ownBlock = some k → k ≠ z ∧ k ≠ z + 1 ∧ ¬ T k) ∧ W'.heap[z + 1]? = some (.cells #[.string (lastD pre)] 9 (0, 0)) ∧ (∀ k, T k → z + 1 < k ∧ k < W'.heap.size) ∧ z + 1 < W'.heap.size ∧ Below z w W')
    (fun T c pre W' => False)
    ?_ (fun _ _ _ _ _ h _ => h) ?_ (fun x => { tmps := #[.string p, undef, .pointer (some ⟨z, 0, none⟩), .pointer (some ⟨z + 1, 0, none⟩), .string x, .string p, .string (p.extract 1 p.size), .func (.func 207) #[] #[.pointer (some ⟨z + 1 + 1 + 1, 0, none⟩), .pointer (some ⟨z + 1 + 1, 0, none⟩), .pointer (some ⟨z + 1 + 1 + 2, 0, none⟩)], .string x, undef, undef, undef, undef, undef, undef, undef, undef, undef, undef, undef, undef, undef, undef, undef, undef, undef, undef, undef, undef, undef, undef, undef, undef, undef, undef], defers := [] }) ?assign ?body ?done ?stop
  · rintro T s' A B ⟨⟨v, hv, hrow, hno⟩, hl, hT, hlz, hbel⟩ ho
    refine ⟨⟨v, (ho.block z (by omega) (fun h => by have := hT z h; omega)).trans hv, ?_, hno⟩, (ho.block (z + 1) hlz (fun h => by have := hT (z + 1) h; omega)).trans hl, fun k hk => ⟨(hT k hk).1, Nat.lt_of_lt_of_le (hT k hk).2 ho.size⟩, by have := ho.size; omega, ho.below hbel (by omega) (fun k hk => by have := hT k hk; omega)⟩
    have hrow' := Kd.own_of_R hrow
    exact Kd.R_of_own (enc := Value.string) (own_move hrow' (fun k hk => ho.block k (own_lt hrow' k hk) (hno k hk).2.2)) (fun _ _ => trivial)
  · intro T W1 hW1 hT0T hT
    have hT' : ∀ k, T k → z + 1 < k ∧ k < W1.heap.size := fun k hk => by have := hW1.size; rcases hT k hk with h | h <;> omega
    exact ⟨⟨_, (hW1.block _ (by omega)).trans hz2, Kd.R_nil _ _ _ _ _, fun k hk => by simp [Value.ownBlock] at hk⟩, (hW1.block _ (by omega)).trans hy2, hT', by have := hW1.size; omega, hb2.trans (hW1.mono (by omega))⟩
  case assign =>
    intro l' x W' K hK
    gi_wp2
    exact hK
  case body =>
    rintro T l' pre x W' hxs ⟨⟨v, hv, hrow, hno⟩, hl, hT, hlz, hbel⟩ hlen
    have hcl := (block_cell hl).1
    have hfl := (block_cell hl).2
    have hol := outK_length pre
    have hv5 : (W'.setCell ⟨z + 1, 0, none⟩ (.string x)).heap[z]? = some (.cells #[v] 29 (0, 0)) := (Below.heap_setCell _ _ _ _ (by show z ≠ z + 1; omega)).trans hv
    have hcz := (block_cell hv5).1
    have hfz := (block_cell hv5).2
    have hrow' := Kd.own_of_R hrow
    have hrow5 := own_other hrow' (grownBy_setCell_row W' (z + 1) (.string x)) (.inr (fun e => (hno (z + 1) e).2.1 rfl))
    have hB5 := hbel.setCell (p := ⟨z + 1, 0, none⟩) (by show z ≤ z + 1; omega) (.string x)
    have hk5 := Keep.setCell (T := T) W' (a := ⟨z + 1, 0, none⟩) (.string x) (fun hq => by have := hT (z + 1) hq; omega)
    have hl5 := block_set (.string x) hl
    have hs5 : (W'.setCell ⟨z + 1, 0, none⟩ (.string x)).heap.size = W'.heap.size := by simp [World.setCell]
    have HLD := Lib.hid (lastD_snoc pre x)
    have HOS := Lib.hid (outK_snoc pre x)
    have HK5 := Lib.hid hk5
    have HB5 := Lib.hid hB5
    have HL5 := Lib.hid hl5
    have HR5 := Lib.hid hrow5
    have HV5 := Lib.hid hv5
    clear hv hl hk5 hB5 hl5 hrow5 hv5
    by_cases h2 : x.toList = [46, 46]
    · obtain ⟨A, c, rfl, hlc, hvr⟩ := Kd.R_reads hrow
      have hob : (outK pre).length ≤ 9223372036854775807 := by omega
      have hst : stepK (outK pre) x = (outK pre).take ((outK pre).length - 1) := by unfold stepK; rw [← toList_ul, if_pos h2, List.dropLast_eq_take]
      have fin : ∀ (m0 : Nat) (a : Act), m0 = (outK pre).length - 1 → postI T
          (fun T pre W' => (∃ v, W'.heap[z]? = some (.cells #[v] 29 (0, 0)) ∧ Kd.R Kd.string 9 W' z (fun _ => True) v (outK pre) ∧ ∀ k, v.ownBlock = some k → k ≠ z ∧ k ≠ z + 1 ∧ ¬ T k) ∧ W'.heap[z + 1]? = some (.cells #[.string (lastD pre)] 9 (0, 0)) ∧ (∀ k, T k → z + 1 < k ∧ k < W'.heap.size) ∧ z + 1 < W'.heap.size ∧ Below z w W')
          (fun T c pre W' => False) (pre ++ [x]) W' Exit.normal a ((W'.setCell ⟨z + 1, 0, none⟩ (.string x)).setCell ⟨z, 0, none⟩ (.slice A m0 c)) := by
        rintro m0 a rfl
        have hr : Kd.R Kd.string 9 (W'.setCell ⟨z + 1, 0, none⟩ (.string x)) z (fun _ => True) (.slice A ((outK pre).length - 1) c) ((outK pre).take ((outK pre).length - 1)) := Kd.R_take (Kd.R_of_own (enc := Value.string) HR5.out (fun _ _ => trivial)) (by omega)
        have hob : (Value.slice A ((outK pre).length - 1) c).ownBlock = (Value.slice A (outK pre).length c).ownBlock := by cases A <;> rfl
        rw [hst] at HOS
        refine ⟨HK5.out.trans (Keep.setCell _ _ (fun hq => by have := hT z hq; omega)), ⟨_, block_set _ HV5.out, ?_, fun k hk => hno k (by rw [← hob]; exact hk)⟩, ?_, fun k hk => ⟨(hT k hk).1, ?_⟩, ?_, HB5.out.setCell (p := ⟨z, 0, none⟩) (Nat.le_refl _) _⟩
        · rw [HOS.out]
          exact Kd.R_of_own (enc := Value.string) (own_other (Kd.own_of_R hr) (grownBy_setCell_row _ z _) (.inr (fun e => (hno z (by rw [← hob]; exact e)).1 rfl))) (fun _ _ => trivial)
        · rw [HLD.out]; exact (Below.heap_setCell _ _ _ _ (by show z + 1 ≠ z; omega)).trans HL5.out
        · have := hT k hk; simp [World.setCell]; omega
        · simp [World.setCell]; omega
      by_cases h0 : (outK pre).length = 0
      · have hw : IntKind.i64.wrap ((0 : Int) - 1) = -1 := by decide
        rw [h0] at hcz
        gi_wp2
        exact fin _ _ (by rw [h0]; rfl)
      · obtain ⟨m, hm⟩ : ∃ m, (outK pre).length = m + 1 := ⟨(outK pre).length - 1, by omega⟩
        have hw : IntKind.i64.wrap (((m + 1 : Nat) : Int) - 1) = (m : Int) := by rw [IntWalk.i64_in _ (by omega)]; omega
        rw [hm] at hcz
        gi_wp2
        exact fin _ _ (by rw [hm]; rfl)
    · by_cases h1 : x.toList = [46]
      · have hst : stepK (outK pre) x = outK pre := by unfold stepK; rw [← toList_ul, if_neg h2, if_pos h1]
        rw [hst] at HOS
        gi_wp2
        refine ⟨HK5.out, ⟨_, HV5.out, ?_, hno⟩, ?_, fun k hk => ⟨(hT k hk).1, ?_⟩, ?_, HB5.out⟩
        · rw [HOS.out]
          exact Kd.R_of_own (enc := Value.string) HR5.out (fun _ _ => trivial)
        · rw [HLD.out]; exact HL5.out
        · have := hT k hk; rw [hs5]; omega
        · rw [hs5]; omega
      · have hst : stepK (outK pre) x = outK pre ++ [x] := by unfold stepK; rw [← toList_ul, if_neg h2, if_neg h1]
        rw [hst] at HOS
        clear hst
        have HS5 := Lib.hid hs5
        have h2b : (x.toList == [46, 46]) = false := by simpa using h2
        have h1b : (x.toList == [46]) = false := by simpa using h1
        gi_wp2_with (gi_at_builtin; refine append_one_in rfl _ _ 29 9 rfl (.string ⟨#[]⟩) 16 Tryz.underlying29 info9 rfl (by decide) z v (encs Value.string (outK pre)) (.string x) rfl (by show Value.slice _ _ _ = Value.slice _ _ _; rw [HS5.out]) rfl (by have h := HR5.out; simpa [encs] using h) (by simp [encs]; omega) (by rw [HS5.out]; omega) ?_; intro v' w1 hown' hgrow hat; obtain ⟨g', cap', rfl⟩ := ownsRow_succ hown'; have hv1 := (hgrow.block z (by rw [World.size_alloc, HS5.out]; omega) (fun e => (hno z e.symm).1 rfl)).trans ((Below.heap_alloc _ (.cells #[.string x] 9) z (by rw [HS5.out]; omega)).trans HV5.out); have hl1 := (hgrow.block (z + 1) (by rw [World.size_alloc, HS5.out]; omega) (fun e => (hno (z + 1) e.symm).2.1 rfl)).trans ((Below.heap_alloc _ (.cells #[.string x] 9) (z + 1) (by rw [HS5.out]; omega)).trans HL5.out); have hcz1 := (block_cell hv1).1; have hfz1 := (block_cell hv1).2)
        have hgs := hgrow.size
        rw [World.size_alloc, hs5] at hgs
        have hel : (encs Value.string (outK pre)).length = (outK pre).length := encs_length _
        have hno' : ∀ k, (Value.slice (some ⟨g', 0, none⟩) ((encs Value.string (outK pre)).length + 1) cap').ownBlock = some k → k ≠ z ∧ k ≠ z + 1 ∧ ¬ T k := by
          intro k hk
          rcases hat with h | ⟨b, h, hb⟩
          · exact hno k (h ▸ hk)
          · rw [h] at hk
            obtain rfl : b = k := by simpa using hk
            rw [hs5] at hb
            exact ⟨by omega, by omega, fun hq => by have := hT b hq; omega⟩
        refine ⟨?_, ⟨_, block_set _ hv1, ?_, hno'⟩, ?_, fun k hk => ⟨(hT k hk).1, ?_⟩, ?_, ?_⟩
        · refine (HK5.out.trans ((Keep.of_below ((Below.refl _ _).alloc (Nat.le_refl _) (.cells #[.string x] 9)) (fun k hk => by rw [hs5]; exact (hT k hk).2)).trans (Keep.of_grown hgrow (fun k hk => by have := hT k hk; rw [World.size_alloc, hs5]; omega) (fun k hk => (hno k hk).2.2)))).trans (Keep.setCell _ _ (fun hq => by have := hT z hq; omega))
        · rw [HOS.out]
          have hm := own_other hown' (grownBy_setCell_row w1 z (.slice (some ⟨g', 0, none⟩) ((encs Value.string (outK pre)).length + 1) cap')) (.inr (fun e => (hno' z e).1 rfl))
          refine Kd.R_of_own (enc := Value.string) ?_ (fun _ _ => trivial)
          simpa [encs] using hm
        · rw [HLD.out]; exact (Below.heap_setCell _ _ _ _ (by show z + 1 ≠ z; omega)).trans hl1
        · have := hT k hk; simp [World.setCell]; omega
        · simp [World.setCell]; omega
        · exact (((HB5.out.alloc (by rw [hs5]; omega) _).grown hgrow (by rw [World.size_alloc, hs5]; omega) (fun k hk => Kd.R_base hrow k hk))).setCell (p := ⟨z, 0, none⟩) (Nat.le_refl _) _
  case done =>
    rintro T D xs W' hS ⟨⟨v, hv, hrow, hno⟩, hl, hT, hlz, hbel⟩ hTD hD hK
    have hne : xs ≠ [] := by rw [hS]; intro h; exact splitB_ne 47 _ (List.map_eq_nil_iff.1 h)
    have hsg : segsS (ul p) = xs := hS.symm
    have hfold := keptS_fold xs hne
    have hxl : xs.length ≤ 1000001 := by rw [hS, List.length_map]; have := splitB_length 47 ((ul p).drop 1); omega
    have hol := outK_length xs
    clear hS
    have hcz := (block_cell hv).1
    have hfz := (block_cell hv).2
    have hcl := (block_cell hl).1
    have hrow' := Kd.own_of_R hrow
    have hDz : z + 1 < D := (hT D hTD).1
    generalize lastD xs = y at *
    cases hd : dotB y with
    | false =>
      have HE := Lib.hid (show stepAll [] (segsS (ul p)) = outK xs by rw [hsg, hfold, hd]; rfl)
      have h1 : (y.toList == [46]) = false := by unfold dotB at hd; rw [Bool.or_eq_false_iff] at hd; have := hd.1; rw [toList_ul]; simpa using this
      have h2 : (y.toList == [46, 46]) = false := by unfold dotB at hd; rw [Bool.or_eq_false_iff] at hd; have := hd.2; rw [toList_ul]; simpa using this
      clear hd hfold hsg
      obtain ⟨A, c, rfl⟩ := own_slice hrow'
      gi_wp2
      have hv3 := block_set (.slice A (outK xs).length c) hv
      have hK3 : (W'.setCell ⟨z, 0, none⟩ (.slice A (outK xs).length c)).heap[D]? = some (.deferred (some [])) := (Below.heap_setCell _ _ _ _ (by show D ≠ z; omega)).trans hK
      have hm := own_other hrow' (grownBy_setCell_row W' z (.slice A (outK xs).length c)) (.inr (fun e => (hno z e).1 rfl))
      have hB3 := (hbel).setCell (p := ⟨z, 0, none⟩) (Nat.le_refl _) (.slice A (outK xs).length c)
      refine ⟨by simp, .inl ⟨_, _, rfl, run_takeDeferred hK3, ?_⟩⟩
      generalize W'.setCell ⟨z, 0, none⟩ (.slice A (outK xs).length c) = W5 at *
      have hv5 : (W5.putObj D (.deferred none)).heap[z]? = some (.cells #[.slice A (outK xs).length c] 29 (0, 0)) := (World.putObj_heap_other (show z ≠ D by omega)).trans hv3
      have hc5 := (block_cell hv5).1
      refine ⟨.slice A (outK xs).length c, by simp [results, Tryz.results92, go_sem, hc5], ?_⟩
      rw [hz]
      refine ⟨_, rfl, ?_, ?_⟩
      · rw [HE.out]
        refine Kd.R_of_own (enc := Value.string) ?_ (fun _ _ => trivial)
        have hr5 := own_other hm (grownBy_putObj' W5 D (.deferred none)) (.inr (fun e => (hno D e).2.2 hTD))
        simpa [encs] using hr5
      · exact hB3.trans (Off.below (Off.putObj W5 _ (T := fun k => k = D) rfl) (Below.refl z W5) (by have := hB3.size; omega) (fun k hk => by omega))
    | true =>
      have HE := Lib.hid (show stepAll [] (segsS (ul p)) = outK xs ++ [⟨#[]⟩] by rw [hsg, hfold, hd]; rfl)
      have hDW : D < W'.heap.size := (Array.getElem?_eq_some_iff.1 hK).1
      clear hfold hsg
      by_cases h1 : y.toList = [46]
      · gi_wp2_with (gi_at_builtin; refine append_one_in rfl _ _ 29 9 rfl (.string ⟨#[]⟩) 16 Tryz.underlying29 info9 rfl (by decide) z v (encs Value.string (outK xs)) (.string ⟨#[]⟩) rfl rfl rfl (by simpa [encs] using hrow') (by simp [encs]; omega) (by omega) ?_; intro v' w1 hown' hgrow hat; obtain ⟨g', c, rfl⟩ := ownsRow_succ hown'; have hv1 := (hgrow.block z (by rw [World.size_alloc]; omega) (fun e => (hno z e.symm).1 rfl)).trans ((Below.heap_alloc _ (.cells #[.string ⟨#[]⟩] 9) z (by omega)).trans hv); have hK1 := (hgrow.block D (by rw [World.size_alloc]; omega) (fun e => (hno D e.symm).2.2 hTD)).trans ((Below.heap_alloc _ (.cells #[.string ⟨#[]⟩] 9) D hDW).trans hK); have hcz1 := (block_cell hv1).1; have hfz1 := (block_cell hv1).2; have hnx1 := block_cell (block_set (.slice (some ⟨g', 0, none⟩) ((encs Value.string (outK xs)).length + 1) c) hv1); have hcz2 := hnx1.1; have hfz2 := hnx1.2)
        have hel : (encs Value.string (outK xs)).length = (outK xs).length := encs_length _
        have hno' : ∀ k, (Value.slice (some ⟨g', 0, none⟩) ((encs Value.string (outK xs)).length + 1) c).ownBlock = some k → k ≠ z ∧ k ≠ z + 1 ∧ ¬ T k := by
          intro k hk
          rcases hat with h | ⟨b, h, hb⟩
          · exact hno k (h ▸ hk)
          · rw [h] at hk
            obtain rfl : b = k := by simpa using hk
            exact ⟨by omega, by omega, fun hq => by have := hT b hq; omega⟩
        have hbel1 := (hbel.alloc (by omega) (.cells #[.string ⟨#[]⟩] 9)).grown hgrow (by rw [World.size_alloc]; omega) (fun k hk => Kd.R_base hrow k hk)
        have hv2 := block_set (.slice (some ⟨g', 0, none⟩) ((encs Value.string (outK xs)).length + 1) c) hv1
        have hK2 : (w1.setCell ⟨z, 0, none⟩ (.slice (some ⟨g', 0, none⟩) ((encs Value.string (outK xs)).length + 1) c)).heap[D]? = some (.deferred (some [])) := (Below.heap_setCell _ _ _ _ (by show D ≠ z; omega)).trans hK1
        have hown2 := own_other hown' (grownBy_setCell_row w1 z (.slice (some ⟨g', 0, none⟩) ((encs Value.string (outK xs)).length + 1) c)) (.inr (fun e => (hno' z e).1 rfl))
        have hbel2 := hbel1.setCell (p := ⟨z, 0, none⟩) (Nat.le_refl _) (.slice (some ⟨g', 0, none⟩) ((encs Value.string (outK xs)).length + 1) c)
        rw [hel] at *
        generalize hw2 : w1.setCell ⟨z, 0, none⟩ (.slice (some ⟨g', 0, none⟩) ((outK xs).length + 1) c) = w2 at *
        have hv3 := block_set (.slice (some ⟨g', 0, none⟩) ((outK xs).length + 1) c) hv2
        have hK3 : (w2.setCell ⟨z, 0, none⟩ (.slice (some ⟨g', 0, none⟩) ((outK xs).length + 1) c)).heap[D]? = some (.deferred (some [])) := (Below.heap_setCell _ _ _ _ (by show D ≠ z; omega)).trans hK2
        have hm := own_other hown2 (grownBy_setCell_row w2 z (.slice (some ⟨g', 0, none⟩) ((outK xs).length + 1) c)) (.inr (fun e => (hno' z e).1 rfl))
        have hB3 := (hbel2).setCell (p := ⟨z, 0, none⟩) (Nat.le_refl _) (.slice (some ⟨g', 0, none⟩) ((outK xs).length + 1) c)
        refine ⟨by simp, .inl ⟨_, _, rfl, run_takeDeferred hK3, ?_⟩⟩
        generalize w2.setCell ⟨z, 0, none⟩ (.slice (some ⟨g', 0, none⟩) ((outK xs).length + 1) c) = W5 at *
        have hv5 : (W5.putObj D (.deferred none)).heap[z]? = some (.cells #[.slice (some ⟨g', 0, none⟩) ((outK xs).length + 1) c] 29 (0, 0)) := (World.putObj_heap_other (show z ≠ D by omega)).trans hv3
        have hc5 := (block_cell hv5).1
        refine ⟨.slice (some ⟨g', 0, none⟩) ((outK xs).length + 1) c, by simp [results, Tryz.results92, go_sem, hc5], ?_⟩
        rw [hz]
        refine ⟨_, rfl, ?_, ?_⟩
        · rw [HE.out]
          refine Kd.R_of_own (enc := Value.string) ?_ (fun _ _ => trivial)
          have hr5 := own_other hm (grownBy_putObj' W5 D (.deferred none)) (.inr (fun e => (hno' D e).2.2 hTD))
          simpa [encs] using hr5
        · exact hB3.trans (Off.below (Off.putObj W5 _ (T := fun k => k = D) rfl) (Below.refl z W5) (by have := hB3.size; omega) (fun k hk => by omega))
      · have h2 : y.toList = [46, 46] := by unfold dotB at hd; rw [toList_ul] at h1 ⊢; simpa [h1] using hd
        have h1b : (y.toList == [46]) = false := by simpa using h1
        gi_wp2_with (gi_at_builtin; refine append_one_in rfl _ _ 29 9 rfl (.string ⟨#[]⟩) 16 Tryz.underlying29 info9 rfl (by decide) z v (encs Value.string (outK xs)) (.string ⟨#[]⟩) rfl rfl rfl (by simpa [encs] using hrow') (by simp [encs]; omega) (by omega) ?_; intro v' w1 hown' hgrow hat; obtain ⟨g', c, rfl⟩ := ownsRow_succ hown'; have hv1 := (hgrow.block z (by rw [World.size_alloc]; omega) (fun e => (hno z e.symm).1 rfl)).trans ((Below.heap_alloc _ (.cells #[.string ⟨#[]⟩] 9) z (by omega)).trans hv); have hK1 := (hgrow.block D (by rw [World.size_alloc]; omega) (fun e => (hno D e.symm).2.2 hTD)).trans ((Below.heap_alloc _ (.cells #[.string ⟨#[]⟩] 9) D hDW).trans hK); have hcz1 := (block_cell hv1).1; have hfz1 := (block_cell hv1).2; have hnx1 := block_cell (block_set (.slice (some ⟨g', 0, none⟩) ((encs Value.string (outK xs)).length + 1) c) hv1); have hcz2 := hnx1.1; have hfz2 := hnx1.2)
        have hel : (encs Value.string (outK xs)).length = (outK xs).length := encs_length _
        have hno' : ∀ k, (Value.slice (some ⟨g', 0, none⟩) ((encs Value.string (outK xs)).length + 1) c).ownBlock = some k → k ≠ z ∧ k ≠ z + 1 ∧ ¬ T k := by
          intro k hk
          rcases hat with h | ⟨b, h, hb⟩
          · exact hno k (h ▸ hk)
          · rw [h] at hk
            obtain rfl : b = k := by simpa using hk
            exact ⟨by omega, by omega, fun hq => by have := hT b hq; omega⟩
        have hbel1 := (hbel.alloc (by omega) (.cells #[.string ⟨#[]⟩] 9)).grown hgrow (by rw [World.size_alloc]; omega) (fun k hk => Kd.R_base hrow k hk)
        have hv2 := block_set (.slice (some ⟨g', 0, none⟩) ((encs Value.string (outK xs)).length + 1) c) hv1
        have hK2 : (w1.setCell ⟨z, 0, none⟩ (.slice (some ⟨g', 0, none⟩) ((encs Value.string (outK xs)).length + 1) c)).heap[D]? = some (.deferred (some [])) := (Below.heap_setCell _ _ _ _ (by show D ≠ z; omega)).trans hK1
        have hown2 := own_other hown' (grownBy_setCell_row w1 z (.slice (some ⟨g', 0, none⟩) ((encs Value.string (outK xs)).length + 1) c)) (.inr (fun e => (hno' z e).1 rfl))
        have hbel2 := hbel1.setCell (p := ⟨z, 0, none⟩) (Nat.le_refl _) (.slice (some ⟨g', 0, none⟩) ((encs Value.string (outK xs)).length + 1) c)
        rw [hel] at *
        generalize hw2 : w1.setCell ⟨z, 0, none⟩ (.slice (some ⟨g', 0, none⟩) ((outK xs).length + 1) c) = w2 at *
        have hv3 := block_set (.slice (some ⟨g', 0, none⟩) ((outK xs).length + 1) c) hv2
        have hK3 : (w2.setCell ⟨z, 0, none⟩ (.slice (some ⟨g', 0, none⟩) ((outK xs).length + 1) c)).heap[D]? = some (.deferred (some [])) := (Below.heap_setCell _ _ _ _ (by show D ≠ z; omega)).trans hK2
        have hm := own_other hown2 (grownBy_setCell_row w2 z (.slice (some ⟨g', 0, none⟩) ((outK xs).length + 1) c)) (.inr (fun e => (hno' z e).1 rfl))
        have hB3 := (hbel2).setCell (p := ⟨z, 0, none⟩) (Nat.le_refl _) (.slice (some ⟨g', 0, none⟩) ((outK xs).length + 1) c)
        refine ⟨by simp, .inl ⟨_, _, rfl, run_takeDeferred hK3, ?_⟩⟩
        generalize w2.setCell ⟨z, 0, none⟩ (.slice (some ⟨g', 0, none⟩) ((outK xs).length + 1) c) = W5 at *
        have hv5 : (W5.putObj D (.deferred none)).heap[z]? = some (.cells #[.slice (some ⟨g', 0, none⟩) ((outK xs).length + 1) c] 29 (0, 0)) := (World.putObj_heap_other (show z ≠ D by omega)).trans hv3
        have hc5 := (block_cell hv5).1
        refine ⟨.slice (some ⟨g', 0, none⟩) ((outK xs).length + 1) c, by simp [results, Tryz.results92, go_sem, hc5], ?_⟩
        rw [hz]
        refine ⟨_, rfl, ?_, ?_⟩
        · rw [HE.out]
          refine Kd.R_of_own (enc := Value.string) ?_ (fun _ _ => trivial)
          have hr5 := own_other hm (grownBy_putObj' W5 D (.deferred none)) (.inr (fun e => (hno' D e).2.2 hTD))
          simpa [encs] using hr5
        · exact hB3.trans (Off.below (Off.putObj W5 _ (T := fun k => k = D) rfl) (Below.refl z W5) (by have := hB3.size; omega) (fun k hk => by omega))
  case stop =>
    rintro T D c pre W' _ h
    exact h.elim
end Go.Proofs.YtalafpigfeiaiaaGreatDoor.Q
end
section
namespace Go.Proofs.YtalafpigfeiaiaaGreatDoor.Q
open Go.RowKit Go.Proofs.YtalafpigfeiaiaaGreatDoorW.PrintWords Go.Proofs.YtalafpigfeiaiaaGreatDoorW.PrintLast Go.Proofs.YtalafpigfeiaiaaGreatDoorW.PrintMore
attribute [local go_sem] max2_int min2_int max_two min_two max_three min_three max_four min_four
set_option linter.unusedVariables false
set_option linter.unusedSimpArgs false
def key_items.l0 : Nat → List ByteArray → List ByteArray → Int → Int → Option (List ByteArray)
  | 0, _, _, _, _ => none
  | k + 1, x4, x9, x10, x11 => if x11 < x10 then (if 0 ≤ x11 then (if x11 < (x9.length : Int) then ((field_Items.f (rdOf ByteArray.empty x9 x11)).bind fun t526 => (if x4.length + t526.length < 8796093022208 then (key_items.l0 k (x4 ++ t526) x9 x10 (wrap64 (x11 + 1))) else (none))) else (none)) else (none)) else (some x4)
def key_items.f (k : Nat) (l0 : List (S36)) (a1 : ByteArray) : Option (List ByteArray) := (field_Get.f k l0 a1).bind fun t522 => (key_items.l0 k ([] : List ByteArray) t522 (t522.length : Int) 0)
theorem key_items.mono_l : ∀ k, (∀ y0 y1 y2 y3, LeO (key_items.l0 k y0 y1 y2 y3) (key_items.l0 (k + 1) y0 y1 y2 y3))
  | 0 => fun _ _ _ _ r h => by simp [key_items.l0] at h
  | k + 1 => by
    have ih0 := key_items.mono_l k
    · intro y0 y1 y2 y3
      unfold key_items.l0
      repeat' first
      | (with_reducible exact ih0 _ _ _ _)
      | (with_reducible exact field_Get.mono _ _ _)
      | (with_reducible exact LeO.refl _)
      | (with_reducible exact LeO.none _)
      | (with_reducible refine LeO.ite ?_ ?_)
      | (with_reducible refine LeO.bind ?_ (fun _ => ?_))
      | exact ih0 _ _ _ _
      | exact field_Get.mono _ _ _
      | exact LeO.none _
      | refine LeO.ite ?_ ?_
      | refine LeO.bind ?_ (fun _ => ?_)
theorem key_items.mono : ∀ a0 a1 k, LeO (key_items.f k a0 a1) (key_items.f (k + 1) a0 a1) := by
  intro a0 a1 k
  have ih0 := key_items.mono_l k
  unfold key_items.f
  repeat' first
      | (with_reducible exact ih0 _ _ _ _)
      | (with_reducible exact field_Get.mono _ _ _)
      | (with_reducible exact LeO.refl _)
      | (with_reducible exact LeO.none _)
      | (with_reducible refine LeO.ite ?_ ?_)
      | (with_reducible refine LeO.bind ?_ (fun _ => ?_))
      | exact ih0 _ _ _ _
      | exact field_Get.mono _ _ _
      | exact LeO.none _
      | refine LeO.ite ?_ ?_
      | refine LeO.bind ?_ (fun _ => ?_)
set_option maxHeartbeats 8000000 in
set_option maxRecDepth 100000 in
theorem key_items.calls (k : Nat) (A0 : Option Addr) (c0 : Nat) (l0 : List (S36)) (a1 : ByteArray) (r : List ByteArray) (w : World) (hr0 : Kd.C k36 w A0 l0.length l0) (hc0 : l0.length ≤ c0) (h : key_items.f k l0 a1 = some r) :
    Calls Tryz.prog 55 #[.slice A0 l0.length c0, .string a1] w fun e w' => ∃ v0_ : Value, e = .returned (v0_) ∧ Kd.R Kd.string 9 w' w.heap.size (fun _ => True) v0_ r ∧ Below w.heap.size w w' := by
  have HR0 := Aside0.mk hr0
  have HC0 := Aside0.mk hc0
  clear hr0 hc0
  have HB := Aside0.mk (Below.refl w.heap.size w)
  have H : ((field_Get.f k l0 a1).bind fun t522 => (key_items.l0 k ([] : List ByteArray) t522 (t522.length : Int) 0)) = some r := h
  clear h
  replace H := Option.bind_eq_some_iff.mp H
  obtain ⟨t522, A30, H⟩ := H
  replace H : (key_items.l0 k ([] : List ByteArray) t522 (t522.length : Int) 0) = some r := H
  have A3 := Aside0.mk A30
  clear A30
  have H' := Aside0.mk H
  clear H
  go_enter Tryz.func55, Tryz.ntmps55
  go_wp2_with (first | ((with_reducible refine gate_callee (f := 51) rfl ?_); refine goesL_ (some 9) rfl rfl Tryz.func51 (by kernel_rfl) rfl #[.slice A0 l0.length c0, .string a1] rfl (by (try simp only [List.map_toArray, List.map_cons, List.map_nil]); first | done | rfl | (simp only [List.length_drop, List.length_take]; rfl)) ?_; (with_reducible refine (field_Get.calls k _ _ l0 a1 t522 _ ?side1 ?side2 A3.out).mono ?_); (case side1 => repeat (first | exact HR0.out | (with_reducible refine Kd.C_alloc ?_ _) | (with_reducible refine Kd.C_drewN ?_ _) | (with_reducible refine Kd.C_drew ?_))); (case side2 => exact HC0.out); rintro e w4 ⟨v523, rfl, ho0, hb⟩; refine ⟨_, rfl, ?_⟩; have n0_ := Aside0.mk (Kd.R_lower ho0 (below_size (by repeat (first | (with_reducible first | exact HB.out | apply below_alloc | apply pw_below_drewN | apply below_drew1) | exact HB.out)))); have n1_ := Aside0.mk (below_step (by repeat (first | (with_reducible first | exact HB.out | apply below_alloc | apply pw_below_drewN | apply below_drew1) | exact HB.out)) hb); clear HB; have HO524 := n0_; have HB := n1_; clear n0_ n1_; (try clear hb); (try clear hb2); (try clear hk); (try clear hi); (try clear ho0); obtain ⟨Ao5, co5, eo5⟩ := Kd.R_slice HO524.out; subst eo5))
  go_loopg [4, 11] k (fun kq v4 v11 w' => ∃ (x4_1 : List ByteArray) (x11_1 : Int), v11 = .int .i64 x11_1 ∧ Aside0 (key_items.l0 kq x4_1 t522 (t522.length : Int) x11_1 = some r) ∧ Aside0 (kq ≤ k) ∧ Aside0 (Kd.R Kd.string 9 w' w.heap.size (fun k_ => some k_ ≠ ((.slice Ao5 t522.length co5) : Value).ownBlock) v4 x4_1) ∧ Aside0 (Kd.R Kd.string 9 w' w.heap.size (fun k_ => some k_ ≠ (v4 : Value).ownBlock) (.slice Ao5 t522.length co5) t522) ∧ Aside0 (Below w.heap.size w w'))
  case atStart => exact ⟨(([] : List ByteArray)), (0), (by first | rfl | (simp; done) | (simp [*]; done)), H', ⟨Nat.le_refl _⟩, ⟨by first | exact Kd.R_nil _ _ _ _ _ | exact Kd.N_nil _ _ _ _ _ | exact Kd.V_nil _ _ _ _ _ | exact Kd.Q_nil _ _ _ _ _ | exact Kd.S_nil _ _ _ _ _⟩, ⟨by (with_reducible repeat (first | apply Kd.R_alloc | apply Kd.R_drewN | apply Kd.R_drew)); exact Kd.R_mono HO524.out (fun _ hk => (by simp [Value.ownBlock]))⟩, ⟨by repeat (first | (with_reducible first | exact HB.out | apply below_alloc | apply pw_below_drewN | apply below_drew1) | exact HB.out)⟩⟩
  case round =>
    clear H'
    try clear p2
    try clear c5
    obtain ⟨x4_1, x11_1, rfl, HA, HK1, HO_4, HO_9, HB⟩ := hrel
    cases gk with
    | zero => exact absurd HA.out (by simp [key_items.l0])
    | succ k1 =>
      have H := HA.out
      clear HA
      simp only [key_items.l0] at H
      by_cases c6 : x11_1 < (t522.length : Int)
      · rw [if_pos c6] at H
        have c6b0 : decide (x11_1 < (t522.length : Int)) = true := decide_eq_true c6
        clear c6
        by_cases c7 : 0 ≤ x11_1
        · rw [if_pos c7] at H
          have c7b0 : decide (0 ≤ x11_1) = true := decide_eq_true c7
          clear c7
          by_cases c8 : x11_1 < (t522.length : Int)
          · rw [if_pos c8] at H
            have c8b0 : decide (x11_1 < (t522.length : Int)) = true := decide_eq_true c8
            clear c8
            replace H := Option.bind_eq_some_iff.mp H
            obtain ⟨t526, A90, H⟩ := H
            replace H : (if x4_1.length + t526.length < 8796093022208 then (key_items.l0 k1 (x4_1 ++ t526) t522 (t522.length : Int) (wrap64 (x11_1 + 1))) else (none)) = some r := H
            have A9 := Aside0.mk A90
            clear A90
            by_cases c10 : x4_1.length + t526.length < 8796093022208
            · rw [if_pos c10] at H
              have LMc10 := Aside0.mk c10
              clear c10
              obtain ⟨y529, hy529⟩ : ∃ y_ : List ByteArray, y_ = (x4_1 ++ t526) := ⟨_, rfl⟩
              replace H : (key_items.l0 k1 y529 t522 (t522.length : Int) (wrap64 (x11_1 + 1))) = some r := by first | (rw [hy529]; with_reducible exact H) | (have H2_ := (Option.bind_some _ _).symm.trans H; rw [hy529]; with_reducible exact H2_) | (have H2_ := (Option.bind_some _ _).symm.trans H; with_reducible exact H2_) | with_reducible exact H | (rw [hy529]; exact H) | exact H
              have Ny529 := Aside0.mk hy529
              clear hy529
              have H' := Aside0.mk H
              clear H
              have p525 : 0 ≤ (x11_1 : Int) := of_decide_eq_true (by first | (with_reducible assumption) | assumption)
              have q525 : x11_1 < (t522.length : Int) := of_decide_eq_true (by first | (with_reducible assumption) | assumption)
              obtain ⟨ad525, e525, hx525_0⟩ := Kd.at_string (Kd.R_reads' HO_9.out).2.2 x11_1 p525 q525
              cases e525
              replace p525 := eq_true p525
              replace q525 := eq_true q525
              go_wp2_with (first | ((with_reducible refine gate_callee (f := 82) rfl ?_); refine goesL_ (some 17) rfl rfl Tryz.func82 (by kernel_rfl) rfl #[.string (rdOf ByteArray.empty t522 x11_1)] rfl (by (try simp only [List.map_toArray, List.map_cons, List.map_nil]); first | done | rfl | (simp only [List.length_drop, List.length_take]; rfl)) ?_; (with_reducible refine (field_Items.calls (rdOf ByteArray.empty t522 x11_1) t526 _ A9.out).mono ?_); rintro e w11 ⟨v527, rfl, ho0, hb⟩; refine ⟨_, rfl, ?_⟩; have n0_ := Aside0.mk (Kd.R_elder' (by (with_reducible repeat (first | apply Kd.R_alloc | apply Kd.R_drewN | apply Kd.R_drew)); exact HO_4.out) (Kd.R_base ho0) hb); have n1_ := Aside0.mk (Kd.R_elder' (by (with_reducible repeat (first | apply Kd.R_alloc | apply Kd.R_drewN | apply Kd.R_drew)); exact HO_9.out) (Kd.R_base ho0) hb); have n2_ := Aside0.mk (Kd.R_lower (Kd.R_new' (Kd.R_new' ho0 (Kd.R_lt (by (with_reducible repeat (first | apply Kd.R_alloc | apply Kd.R_drewN | apply Kd.R_drew)); exact HO_4.out))) (Kd.R_lt (by (with_reducible repeat (first | apply Kd.R_alloc | apply Kd.R_drewN | apply Kd.R_drew)); exact HO_9.out))) (below_size (by repeat (first | (with_reducible first | exact HB.out | apply below_alloc | apply pw_below_drewN | apply below_drew1) | exact HB.out)))); have n3_ := Aside0.mk (below_step (by repeat (first | (with_reducible first | exact HB.out | apply below_alloc | apply pw_below_drewN | apply below_drew1) | exact HB.out)) hb); clear HO_4; clear HO_9; clear HB; have HO_4 := n0_; have HO_9 := n1_; have HO528 := n2_; have HB := n3_; clear n0_ n1_ n2_ n3_; (try clear hb); (try clear hb2); (try clear hk); (try clear hi); (try clear ho0); obtain ⟨Ao13, co13, eo13⟩ := Kd.R_slice HO528.out; subst eo13) | ((with_reducible refine gate_builtin (b := .append) (xs := #[.tmp 15, .tmp 17]) rfl ?_); at_builtin; refine Kd.R_append_rows Kd.string (w0 := w) w.heap.size rfl (.tmp 15) (.tmp 17) 29 9 (.string ⟨#[]⟩) 16 rfl Tryz.underlying29 info9 rfl (by decide) (by omega) u4 x4_1 t526 _ _ _ (fun k_ => some k_ ≠ (.slice (some ad525) t522.length co5 : Value).ownBlock ∧ some k_ ≠ (.slice Ao13 t526.length co13 : Value).ownBlock) (fun _ => False) rfl rfl ?aO ?aR (fun _ _ h => h) (fun _ h => h.elim) ?aF ?aB ?aS ?aL ?_; (case aR => repeat (first | exact (Kd.R_reads' HO528.out).2.2 | (with_reducible refine Kd.C_alloc ?_ _) | (with_reducible refine Kd.C_drewN ?_ _) | (with_reducible refine Kd.C_drew ?_))); (case aB => exact (by repeat (first | (with_reducible first | exact HB.out | apply below_alloc | apply pw_below_drewN | apply below_drew1) | exact HB.out))); (case aF => exact (fun k_ hk => ⟨Kd.fresh' (Kd.R_lt (by (with_reducible repeat (first | apply Kd.R_alloc | apply Kd.R_drewN | apply Kd.R_drew)); exact HO_9.out)) k_ hk, Kd.fresh' (Kd.R_lt (by (with_reducible repeat (first | apply Kd.R_alloc | apply Kd.R_drewN | apply Kd.R_drew)); exact HO528.out)) k_ hk⟩)); (case aO => exact (by (with_reducible repeat (first | apply Kd.R_alloc | apply Kd.R_drewN | apply Kd.R_drew)); exact HO_4.out)); (case aS => exact (below_size (by repeat (first | (with_reducible first | exact HB.out | apply below_alloc | apply pw_below_drewN | apply below_drew1) | exact HB.out)))); (case aL => have := LMc10.out; omega); intro v530 w12 ho hb hg hat; rw [← Ny529.out] at ho; have n0_ := Aside0.mk (Kd.R_after (ok := (fun k_ => some k_ ≠ (.slice Ao13 t526.length co13 : Value).ownBlock)) (by (with_reducible repeat (first | apply Kd.R_alloc | apply Kd.R_drewN | apply Kd.R_drew)); exact Kd.R_mono HO_9.out (fun _ hk => ⟨hk.2, hk.1⟩)) hg hat); have n1_ := Aside0.mk (Kd.R_after (ok := (fun k_ => some k_ ≠ (.slice (some ad525) t522.length co5 : Value).ownBlock)) (by (with_reducible repeat (first | apply Kd.R_alloc | apply Kd.R_drewN | apply Kd.R_drew)); exact Kd.R_mono HO528.out (fun _ hk => ⟨hk.2, hk.1.2⟩)) hg hat); have n2_ := Aside0.mk (hb); have n3_ := Aside0.mk (ho); clear HO_9; clear HO528; clear HB; clear HO_4; have HO_9 := n0_; have HO528 := n1_; have HB := n2_; have HO531 := n3_; clear n0_ n1_ n2_ n3_; clear ho hb hg hat))
              go_roundg k1
              case measure => have := HK1.out; omega
              case rel => exact ⟨(y529), (wrap64 (x11_1 + 1)), (by first | rfl | (simp; done) | (simp [*]; done)), H', ⟨by have := HK1.out; omega⟩, ⟨by (with_reducible repeat (first | apply Kd.R_alloc | apply Kd.R_drewN | apply Kd.R_drew)); exact Kd.R_mono HO531.out (fun _ hk => hk.1)⟩, ⟨by (with_reducible repeat (first | apply Kd.R_alloc | apply Kd.R_drewN | apply Kd.R_drew)); exact Kd.R_mono HO_9.out (fun _ hk => hk.2)⟩, ⟨by repeat (first | (with_reducible first | exact HB.out | apply below_alloc | apply pw_below_drewN | apply below_drew1) | exact HB.out)⟩⟩
            · rw [if_neg c10] at H
              exact absurd H (by simp)
          · rw [if_neg c8] at H
            exact absurd H (by simp)
        · rw [if_neg c7] at H
          exact absurd H (by simp)
      · rw [if_neg c6] at H
        have c6b0 : decide (x11_1 < (t522.length : Int)) = false := decide_eq_false c6
        clear c6
        obtain rfl := Option.some.inj H
        go_wp2
        go_ret
        exact ⟨_, by first | rfl | (simp [errW_none, errW_some] <;> rfl) | (simp [*, errW_none, errW_some] <;> rfl), by (with_reducible repeat (first | apply Kd.R_alloc | apply Kd.R_drewN | apply Kd.R_drew)); exact Kd.R_mono HO_4.out (fun _ hk => trivial), by repeat (first | (with_reducible first | exact HB.out | apply below_alloc | apply pw_below_drewN | apply below_drew1) | exact HB.out)⟩
end Go.Proofs.YtalafpigfeiaiaaGreatDoor.Q
end
section
namespace Go.Proofs.YtalafpigfeiaiaaGreatDoor.Q
open Go.RowKit Go.Proofs.YtalafpigfeiaiaaGreatDoor.H Go.Proofs.YtalafpigfeiaiaaGreatDoorW.PrintWords
set_option linter.unusedVariables false
set_option linter.unusedSimpArgs false
theorem fieldLower_some (s : ByteArray) (h : s.size ≤ 1000000000) : field_Lower.f s = some (lower s) := by unfold field_Lower.f; rw [if_pos (by omega)]
theorem fieldItems_some (s : ByteArray) (h : s.size ≤ 1000000000) : field_Items.f s = some (items s) := by unfold field_Items.f; rw [if_pos (by omega)]
theorem get_loop (l : FieldL) (hl : Few l) (name : ByteArray) (hn : name.size ≤ 1000000000) (d : Nat) : ∀ (i : Nat) (acc : List ByteArray), i ≤ l.length → l.length - i = d → acc.length ≤ i →
    Ev (fun k => field_Get.l0 k name acc l (l.length : Int) (i : Int)) (acc ++ getF (l.drop i) name) := by
  induction d with
  | zero =>
    intro i acc hi hd ha
    refine Ev.step (f := fun _ => some acc) (fun k => by simp only [field_Get.l0]; rw [if_neg (by omega)]) ?_
    rw [List.drop_eq_nil_of_le (by omega)]
    simpa [getF] using Ev.now acc
  | succ d ih =>
    intro i acc hi hd ha
    have hil : i < l.length := by omega
    have hL := hl.1
    have hm := hl.2 l[i] (List.getElem_mem hil)
    have e : l.drop i = l[i] :: l.drop (i + 1) := (List.getElem_cons_drop (h := hil)).symm
    rw [e, getF_cons]
    have hst : ∀ k, field_Get.l0 (k + 1) name acc l (l.length : Int) (i : Int) = if lower l[i].f0 = lower name then field_Get.l0 k name (acc ++ [l[i].f1]) l (l.length : Int) ((i + 1 : Nat) : Int) else field_Get.l0 k name acc l (l.length : Int) ((i + 1 : Nat) : Int) := by
      intro k
      simp only [field_Get.l0]
      rw [if_pos (by omega), if_pos (by omega), if_pos (by omega), rdT_get l i hil, wrap_succ (by omega), fieldLower_some _ (by omega), fieldLower_some _ hn]
      simp only [Option.bind_some, lower_toList]
      rw [if_pos (by omega : acc.length < 8796093022208)]
    by_cases h : lower l[i].f0 = lower name
    · have := ih (i + 1) (acc ++ [l[i].f1]) (by omega) (by omega) (by simp; omega)
      rw [if_pos h]
      refine Ev.step (fun k => by rw [hst, if_pos h]) (by simpa using this)
    · rw [if_neg h]
      exact Ev.step (fun k => by rw [hst, if_neg h]) (ih (i + 1) acc (by omega) (by omega) (by omega))
theorem get_ev (l : FieldL) (hl : Few l) (name : ByteArray) (hn : name.size ≤ 1000000000) : Ev (fun k => field_Get.f k l name) (getF l name) := by
  have := get_loop l hl name hn l.length 0 [] (by omega) (by omega) (Nat.le_refl _)
  exact this
def itemsF (l : FieldL) (name : ByteArray) : List ByteArray := (getF l name).flatMap items
def FewT (vs : List ByteArray) : Prop := vs.length ≤ 1000 ∧ ∀ v ∈ vs, v.size ≤ 10000
theorem getF_few {l : FieldL} (h : Few l) (name : ByteArray) : FewT (getF l name) :=
  ⟨Nat.le_trans (getF_length _ _) h.1, fun v hv => by obtain ⟨f, hf, rfl⟩ := getF_mem hv; exact (h.2 f hf).2⟩
theorem items_length (s : ByteArray) : (items s).length ≤ s.size + 1 := by
  simp only [items, itemsL, List.length_map]
  refine Nat.le_trans (List.length_filter_le _ _) ?_
  rw [List.length_map, ← ul_length]
  exact splitB_length _ _
theorem flat_items_length : ∀ (vs : List ByteArray) (m : Nat), (∀ v ∈ vs, v.size ≤ m) → (vs.flatMap items).length ≤ vs.length * (m + 1)
  | [], m, _ => by simp
  | v :: vs, m, h => by
    have h1 := items_length v
    have h2 := h v (by simp)
    have ih := flat_items_length vs m (fun x hx => h x (by simp [hx]))
    rw [List.flatMap_cons, List.length_append, List.length_cons, Nat.succ_mul]
    omega
theorem items_loop (vs : List ByteArray) (hv : FewT vs) (d : Nat) : ∀ (i : Nat) (acc : List ByteArray), i ≤ vs.length → vs.length - i = d → acc.length ≤ i * 1000001 →
    Ev (fun k => key_items.l0 k acc vs (vs.length : Int) (i : Int)) (acc ++ (vs.drop i).flatMap items) := by
  induction d with
  | zero =>
    intro i acc hi hd ha
    refine Ev.step (f := fun _ => some acc) (fun k => by simp only [key_items.l0]; rw [if_neg (by omega)]) ?_
    rw [List.drop_eq_nil_of_le (by omega)]
    simpa using Ev.now acc
  | succ d ih =>
    intro i acc hi hd ha
    have hil : i < vs.length := by omega
    have hL := hv.1
    have hm := hv.2 vs[i] (List.getElem_mem hil)
    have hit := items_length vs[i]
    have e : vs.drop i = vs[i] :: vs.drop (i + 1) := (List.getElem_cons_drop (h := hil)).symm
    rw [e, List.flatMap_cons, ← List.append_assoc]
    refine Ev.step (fun k => ?_) (ih (i + 1) (acc ++ items vs[i]) (by omega) (by omega) (by rw [List.length_append]; omega))
    simp only [key_items.l0]
    rw [if_pos (by omega), if_pos (by omega), if_pos (by omega), rdOf_get vs i hil, fieldItems_some _ (by omega), wrap_succ (by omega)]
    simp only [Option.bind_some]
    rw [if_pos (by omega)]
theorem items_ev (l : FieldL) (hl : Few l) (name : ByteArray) (hn : name.size ≤ 1000000000) : Ev (fun k => key_items.f k l name) (itemsF l name) := by
  have h := items_loop (getF l name) (getF_few hl name) (getF l name).length 0 [] (by omega) (by omega) (by simp)
  exact Ev.bind (get_ev l hl name hn) h
theorem getF_name (l : FieldL) {a b : ByteArray} (h : lower a = lower b) : getF l a = getF l b := by unfold getF; rw [h]
theorem itemsF_name (l : FieldL) {a b : ByteArray} (h : lower a = lower b) : itemsF l a = itemsF l b := by unfold itemsF; rw [getF_name l h]
def addS (l : List ByteArray) (s : ByteArray) : List ByteArray := l.takeWhile (fun x => decide (ul x < ul s)) ++ s :: (l.dropWhile (fun x => decide (ul x < ul s))).filter (fun x => decide (ul x ≠ ul s))
theorem addS_length (l : List ByteArray) (s : ByteArray) : (addS l s).length ≤ l.length + 1 := by
  have h1 := List.length_filter_le (fun x => decide (ul x ≠ ul s)) (l.dropWhile (fun x => decide (ul x < ul s)))
  have h2 := congrArg List.length (List.takeWhile_append_dropWhile (p := fun x => decide (ul x < ul s)) (l := l))
  simp only [List.length_append] at h2
  simp only [addS, List.length_append, List.length_cons]
  omega
def sortD (its : List ByteArray) : List ByteArray := its.foldl addS []
def star (x : ByteArray) : Bool := decide (ul x = [42])
def varyOf (acc its : List ByteArray) : List ByteArray × Bool := if its.any star then ([], false) else (its.foldl addS acc, true)
theorem foldl_addS_length : ∀ (its acc : List ByteArray), (its.foldl addS acc).length ≤ acc.length + its.length
  | [], acc => by simp
  | x :: its, acc => by
    have := foldl_addS_length its (addS acc x)
    have h := addS_length acc x
    rw [List.foldl_cons, List.length_cons]; omega
def lvary : ByteArray := ⟨#[118, 97, 114, 121]⟩
def varyS (l : FieldL) : List ByteArray × Bool := varyOf [] (itemsF l lvary)
end Go.Proofs.YtalafpigfeiaiaaGreatDoor.Q
end
section
namespace Go.Proofs.YtalafpigfeiaiaaGreatDoor.Q
open Go.RowKit Go.Proofs.YtalafpigfeiaiaaGreatDoor.H Go.Proofs.YtalafpigfeiaiaaGreatDoorW.PrintWords
set_option linter.unusedVariables false
set_option linter.unusedSimpArgs false
def Tells (S : ByteArray → Prop) (g : Nat) (lb : Array Value) (p : ByteArray → Bool) (w : World) : Prop :=
  ∀ (W : World) (x : ByteArray), S x → Below w.heap.size w W → Calls Tryz.prog g (#[.string x] ++ lb) W fun e w' => e = .returned (.bool (p x)) ∧ Below W.heap.size W w'
def idxI (p : ByteArray → Bool) (xs : List ByteArray) : Int := match xs.findIdx? p with
  | some i => i
  | none => -1
theorem idxI_any (p : ByteArray → Bool) (xs : List ByteArray) : decide (0 ≤ idxI p xs) = xs.any p := by
  unfold idxI
  cases h : xs.findIdx? p with
  | none =>
    rw [List.findIdx?_eq_none_iff] at h
    have : xs.any p = false := by rw [List.any_eq_false]; simpa using h
    rw [this]; rfl
  | some i =>
    have : xs.any p = true := by
      rw [List.findIdx?_eq_some_iff_getElem] at h
      obtain ⟨hi, hp, _⟩ := h
      exact List.any_eq_true.2 ⟨_, List.getElem_mem hi, hp⟩
    rw [this]; simp
theorem idxI_none (p : ByteArray → Bool) (xs : List ByteArray) (h : ∀ j, j < xs.length → p (xs.getD j ByteArray.empty) = false) : idxI p xs = -1 := by
  unfold idxI
  have : xs.findIdx? p = none := by
    rw [List.findIdx?_eq_none_iff]
    intro x hx
    obtain ⟨j, hj, rfl⟩ := List.mem_iff_getElem.1 hx
    have := h j hj
    simpa [List.getD_eq_getElem?_getD, List.getElem?_eq_getElem hj] using this
  rw [this]
theorem idxI_some (p : ByteArray → Bool) (xs : List ByteArray) (k : Nat) (hk : k < xs.length) (hp : p (xs.getD k ByteArray.empty) = true) (h : ∀ j, j < k → p (xs.getD j ByteArray.empty) = false) : idxI p xs = k := by
  unfold idxI
  have : xs.findIdx? p = some k := by
    rw [List.findIdx?_eq_some_iff_getElem]
    refine ⟨hk, by simpa [List.getD_eq_getElem?_getD, List.getElem?_eq_getElem hk] using hp, fun j hj => ?_⟩
    have := h j hj
    simpa [List.getD_eq_getElem?_getD, List.getElem?_eq_getElem (show j < xs.length by omega)] using this
  rw [this]
set_option maxHeartbeats 1000000 in
set_option maxRecDepth 100000 in
theorem indexFunc_calls (A : Option Addr) (c : Nat) (xs : List ByteArray) (g : Nat) (lb : Array Value) (p : ByteArray → Bool) (w : World) (eg : ∀ args w, (callFunc g args).run Tryz.prog w = .ok (.enter g args) w)
    (hr : Kd.C Kd.string w A xs.length xs) {S : ByteArray → Prop} (hS : ∀ x ∈ xs, S x) (hp : Tells S g lb p w) :
    Calls Tryz.prog 81 #[.slice A xs.length c, .func (.func g) #[] lb] w fun e w' => e = .returned (.int .i64 (idxI p xs)) ∧ Below w.heap.size w w' := by
  have hbig : xs.length ≤ 9223372036854775807 := hr.2.1
  have HR := Aside0.mk hr
  have HP := Aside0.mk hp
  have EG := Aside0.mk eg
  have HS := Aside0.mk hS
  clear hr hp eg hS
  go_enter Tryz.func81, Tryz.ntmps81
  go_wp2
  go_loopw [5, 8] (fun _ v wr => ∃ k : Nat, k ≤ xs.length ∧ v = .int .i64 k ∧ (∀ j, j < k → p (xs.getD j ByteArray.empty) = false) ∧ Below w.heap.size w wr) (fun _ v _ => xs.length - (intOf v).toNat)
  case atStart => exact ⟨0, Nat.zero_le _, rfl, fun j hj => absurd hj (Nat.not_lt_zero _), Below.refl _ _⟩
  case round =>
    obtain ⟨k, hk, rfl, hno, hB⟩ := hrel
    have HN := Aside0.mk hno
    clear hno
    by_cases hlt : k < xs.length
    · obtain ⟨b, o, rfl, hb, hcell⟩ := strs_cells HR.out (by omega)
      have hc : wr.cell? ⟨b, o + k, none⟩ = some (.string (xs.getD k ByteArray.empty)) := by
        rw [hB.cell (p := ⟨b, o + k, none⟩) hb]
        refine hcell k _ ?_
        simp [List.getD_eq_getElem?_getD, List.getElem?_eq_getElem hlt]
      clear hcell
      obtain ⟨x, hx⟩ : ∃ x, xs.getD k ByteArray.empty = x := ⟨_, rfl⟩
      rw [hx] at hc
      have hSx : S x := HS.out x (by rw [← hx, List.getD_eq_getElem?_getD, List.getElem?_eq_getElem hlt]; exact List.getElem_mem hlt)
      have HX := Aside0.mk hx
      clear hx
      have hcall := Aside0.mk (HP.out wr x hSx hB)
      clear hSx
      have eg := EG.out
      cases hpx : p x with
      | true =>
        have HPX := Aside0.mk hpx
        clear hpx
        go_wp2_with (go_at_fn g; refine hcall.out.mono ?_; rintro e w1 ⟨rfl, hb1⟩; rw [HPX.out])
        go_ret
        refine ⟨?_, hB.trans (hb1.mono hB.size)⟩
        rw [idxI_some p xs k hlt (by rw [HX.out]; exact HPX.out) HN.out]
        rfl
      | false =>
        have HPX := Aside0.mk hpx
        clear hpx
        go_wp2_with (go_at_fn g; refine hcall.out.mono ?_; rintro e w1 ⟨rfl, hb1⟩; rw [HPX.out])
        refine ⟨⟨k + 1, by omega, by simp, fun j hj => ?_, hB.trans (hb1.mono hB.size)⟩, by simp [intOf]; omega⟩
        rcases Nat.lt_or_ge j k with h | h
        · exact HN.out j h
        · obtain rfl : j = k := by omega
          rw [HX.out]; exact HPX.out
    · obtain rfl : k = xs.length := by omega
      go_wp2
      go_ret
      refine ⟨?_, hB⟩
      rw [idxI_none p xs HN.out]
      rfl
set_option maxRecDepth 100000 in
theorem containsFunc_calls (A : Option Addr) (c : Nat) (xs : List ByteArray) (g : Nat) (lb : Array Value) (p : ByteArray → Bool) (w : World) (eg : ∀ args w, (callFunc g args).run Tryz.prog w = .ok (.enter g args) w)
    (hr : Kd.C Kd.string w A xs.length xs) {S : ByteArray → Prop} (hS : ∀ x ∈ xs, S x) (hp : Tells S g lb p w) :
    Calls Tryz.prog 53 #[.slice A xs.length c, .func (.func g) #[] lb] w fun e w' => e = .returned (.bool (xs.any p)) ∧ Below w.heap.size w w' := by
  have HC := Aside0.mk (indexFunc_calls A c xs g lb p w eg hr hS hp)
  clear hr hp eg hS
  go_enter Tryz.func53, Tryz.ntmps53
  go_wp2_with (go_at_call 81; refine HC.out.mono ?_; rintro e w1 ⟨rfl, hb1⟩)
  go_ret
  exact ⟨by rw [← idxI_any]; rfl, hb1⟩
theorem contains_calls (A : Option Addr) (c : Nat) (xs : List ByteArray) (x : ByteArray) (w : World) (hr : Kd.C Kd.string w A xs.length xs) :
    Calls Tryz.prog 80 #[.slice A xs.length c, .string x] w fun e w' => e = .returned (.bool (Lib.containsS xs x)) ∧ w' = w := by
  cases xs with
  | nil =>
    refine (Tryz.slices_Contains_string_empty A c x w).mono ?_
    rintro e w' ⟨rfl, rfl⟩
    exact ⟨rfl, rfl⟩
  | cons y l =>
    obtain ⟨b, o, rfl, hlt, hc⟩ := strs_cells hr (by simp)
    refine (Tryz.slices_Contains_string b o (y :: l).length c (y :: l) x w (Nat.le_refl _) hr.2.1 (fun j hj => hc j _ ?_)).mono ?_
    · simp [List.getD_eq_getElem?_getD, List.getElem?_eq_getElem hj]
    · rintro e w' ⟨rfl, rfl⟩
      exact ⟨by rw [List.take_length], rfl⟩
set_option maxRecDepth 100000 in
theorem directs1 (z : Nat) (A : Option Addr) (c : Nat) (xs : List ByteArray) (w : World) (hz : w.heap[z]? = some (.cells #[.slice A xs.length c] 29 (0, 0))) (hr : Kd.C Kd.string w A xs.length xs) :
    Tells (fun _ => True) 79 #[.pointer (some ⟨z, 0, none⟩)] (Lib.containsS xs) w := by
  intro W x _ hb
  have hzW := (hb.block z (Array.getElem?_eq_some_iff.1 hz).1).trans hz
  have hcz := (block_cell hzW).1
  have HC := Aside0.mk (contains_calls A c xs x W (Kd.C_below hr hb))
  clear hr hz hzW hb
  simp only [List.append_toArray, List.cons_append, List.nil_append]
  go_enter Tryz.func79, Tryz.ntmps79
  go_wp2_with (go_at_call 80; refine HC.out.mono ?_; rintro e w1 ⟨rfl, rfl⟩)
  go_ret
  exact ⟨rfl, Below.refl _ _⟩
def ccontrol : ByteArray := ⟨#[67, 97, 99, 104, 101, 45, 67, 111, 110, 116, 114, 111, 108]⟩
def key_directs.f (k : Nat) (l0 : List S36) (l1 : List ByteArray) : Option Bool := (key_items.f k l0 ccontrol).map fun its => its.any (Lib.containsS l1)
set_option maxRecDepth 100000 in
theorem key_directs.calls (k : Nat) (A0 : Option Addr) (c0 : Nat) (l0 : List S36) (A1 : Option Addr) (c1 : Nat) (l1 : List ByteArray) (r : Bool) (w : World) (hr0 : Kd.C k36 w A0 l0.length l0) (hc0 : l0.length ≤ c0) (hr1 : Kd.C Kd.string w A1 l1.length l1) (hc1 : l1.length ≤ c1) (h : key_directs.f k l0 l1 = some r) :
    Calls Tryz.prog 52 #[.slice A0 l0.length c0, .slice A1 l1.length c1] w fun e w' => e = .returned (.bool r) ∧ Below w.heap.size w w' := by
  unfold key_directs.f at h
  obtain ⟨its, h1, rfl⟩ := Option.map_eq_some_iff.1 h
  have HI := Aside0.mk (fun W (hb : Below w.heap.size w W) => key_items.calls k A0 c0 l0 ccontrol its W (Kd.C_below hr0 hb) hc0 h1)
  have HR1 := Aside0.mk hr1
  clear h h1 hr0 hr1
  have hbw := (Below.refl w.heap.size w).alloc (Nat.le_refl _) (.cells #[.slice A1 l1.length c1] 29)
  have hzw := heap_alloc_new w (.cells #[.slice A1 l1.length c1] 29)
  go_enter Tryz.func52, Tryz.ntmps52
  go_wp2_with (first
    | (go_at_call 55; refine (HI.out _ hbw).mono ?_; rintro e w1 ⟨v, rfl, hv, hb1⟩; obtain ⟨A, c, rfl, hlc, hvr⟩ := Kd.R_reads hv)
    | (go_at_call 53; refine (containsFunc_calls A c its 79 _ (Lib.containsS l1) _ (enters_of Tryz.func79 (by kernel_rfl) rfl) hvr (fun _ _ => trivial) (directs1 w.heap.size A1 c1 l1 _ ((hb1.block _ (by simp)).trans hzw) (Kd.C_below (Kd.C_below HR1.out hbw) hb1))).mono ?_; rintro e w2 ⟨rfl, hb2⟩))
  go_ret
  exact ⟨rfl, (hbw.trans (hb1.mono (by simp))).trans (hb2.mono (by have := hb1.size; simp at this; omega))⟩
end Go.Proofs.YtalafpigfeiaiaaGreatDoor.Q
end
section
namespace Go.Proofs.YtalafpigfeiaiaaGreatDoor.Q
open Go.RowKit Go.Proofs.YtalafpigfeiaiaaGreatDoor.H Go.Proofs.YtalafpigfeiaiaaGreatDoorW.PrintWords
set_option linter.unusedVariables false
set_option linter.unusedSimpArgs false
def RowAt (g : Nat) (xs : List ByteArray) (w : World) : Prop := ∃ cur, w.heap[g]? = some (.cells cur 9 (0, 0)) ∧ ∀ (j : Nat) x, xs[j]? = some x → cur[j]? = some (.string x)
theorem RowAt.cell {g : Nat} {xs : List ByteArray} {w : World} (h : RowAt g xs w) (j : Nat) (hj : j < xs.length) : w.cell? ⟨g, j, none⟩ = some (.string xs[j]) := by
  obtain ⟨cur, h1, h2⟩ := h
  simp only [World.cell?, h1]
  exact h2 j _ (List.getElem?_eq_getElem hj)
theorem RowAt.others {g b : Nat} {xs : List ByteArray} {w w' : World} (h : RowAt g xs w) (hk : Lib.OthersKept 5 (some b) w w') (hne : g ≠ b) : RowAt g xs w' := by
  obtain ⟨cur, h1, h2⟩ := h
  exact ⟨cur, hk g _ h1 (by simpa using hne) (fun c fz e => by cases e), h2⟩
theorem RowAt.below {g : Nat} {xs : List ByteArray} {w w' : World} (h : RowAt g xs w) (hb : Below w.heap.size w w') : RowAt g xs w' := by
  obtain ⟨cur, h1, h2⟩ := h
  exact ⟨cur, (hb.block g (Array.getElem?_eq_some_iff.1 h1).1).trans h1, h2⟩
theorem row_of_R {w : World} {base : Nat} {ok : Nat → Prop} {v : Value} {xs : List ByteArray} (h : Kd.R Kd.string 9 w base ok v xs) : ∃ A c g, v = .slice A xs.length c ∧ base ≤ g + base ∧ (0 < xs.length → A = some ⟨g, 0, none⟩ ∧ base ≤ g ∧ g < w.heap.size ∧ RowAt g xs w) := by
  have ho := Kd.own_of_R h
  obtain ⟨A, c, rfl⟩ := own_slice ho
  rcases ho.2 with ⟨h1, h2⟩ | ⟨g, cap, cur, h1, h2, h3, h4, h5, h6, h7⟩
  · exact ⟨A, c, 0, rfl, by omega, fun h0 => by omega⟩
  · refine ⟨A, c, g, rfl, by omega, fun h0 => ⟨by injection h1, h2, (Array.getElem?_eq_some_iff.1 h3).1, cur, h3, fun j x hx => ?_⟩⟩
    have hj : j < xs.length := (List.getElem?_eq_some_iff.1 hx).1
    have h8 : cur.toList[j]? = (encs Value.string xs)[j]? := by rw [← h7, List.getElem?_take, if_pos (by omega)]
    rw [← Array.getElem?_toList, h8]
    simp [encs, hx]
def valsL (vs : List ByteArray) : Str := vs.flatMap fun v => ul v ++ [10]
def segL (l : FieldL) (n : ByteArray) : Str := lowL (ul n) ++ [58] ++ valsL (getF l n) ++ [10]
def splitL (names : List ByteArray) (l : FieldL) : Str := names.flatMap (segL l)
def splitS (names : List ByteArray) (l : FieldL) : ByteArray := bs (splitL names l)
def FewN (ns : List ByteArray) : Prop := ns.length ≤ 10001000 ∧ ∀ n ∈ ns, n.size ≤ 10000
theorem valsL_length : ∀ (vs : List ByteArray), (∀ v ∈ vs, v.size ≤ 10000) → (valsL vs).length ≤ vs.length * 10001
  | [], _ => by simp [valsL]
  | v :: vs, h => by
    have h1 := h v (by simp)
    have ih := valsL_length vs (fun x hx => h x (by simp [hx]))
    unfold valsL at ih ⊢
    rw [List.flatMap_cons, List.length_append, List.length_append, ul_length, List.length_cons, List.length_cons, List.length_nil]
    omega
theorem segL_length {l : FieldL} (hl : Few l) {n : ByteArray} (hn : n.size ≤ 10000) : (segL l n).length ≤ 10011002 := by
  have h1 := valsL_length (getF l n) (getF_few hl n).2
  have h2 := (getF_few hl n).1
  unfold segL
  simp only [List.length_append, lowL, List.length_map, List.length_cons, List.length_nil, ul_length]
  omega
theorem splitL_length {l : FieldL} (hl : Few l) : ∀ (ns : List ByteArray), (∀ n ∈ ns, n.size ≤ 10000) → (splitL ns l).length ≤ ns.length * 10011002
  | [], _ => by simp [splitL]
  | n :: ns, h => by
    have h1 := segL_length hl (h n (by simp))
    have ih := splitL_length hl ns (fun x hx => h x (by simp [hx]))
    unfold splitL at ih ⊢
    rw [List.flatMap_cons, List.length_append, List.length_cons]
    omega
theorem flatMap_take_succ {α : Type} (f : α → Str) (l : List α) (i : Nat) (h : i < l.length) : (l.take (i + 1)).flatMap f = (l.take i).flatMap f ++ f l[i] := by
  rw [List.take_succ_eq_append_getElem h, List.flatMap_append]; simp
set_option maxHeartbeats 4000000 in
set_option maxRecDepth 100000 in
theorem split_calls (A0 : Option Addr) (c0 : Nat) (ns : List ByteArray) (A1 : Option Addr) (c1 : Nat) (l : FieldL) (w : World) (hr0 : Kd.C Kd.string w A0 ns.length ns) (hc0 : ns.length ≤ c0) (hr1 : Kd.C k36 w A1 l.length l) (hc1 : l.length ≤ c1) (hl : Few l) (hn : FewN ns) :
    Calls Tryz.prog 27 #[.slice A0 ns.length c0, .slice A1 l.length c1] w fun e w' => e = .returned (.string (splitS ns l)) ∧ Below w.heap.size w w' := by
  have HG := Aside0.mk (fun (n : ByteArray) (hsz : n.size ≤ 10000) (W : World) (hb : Below w.heap.size w W) => (show Calls Tryz.prog 51 #[.slice A1 l.length c1, .string n] W fun e w' => ∃ v0_ : Value, e = .returned (v0_) ∧ Kd.R Kd.string 9 w' W.heap.size (fun _ => True) v0_ (getF l n) ∧ Below W.heap.size W w' by
    obtain ⟨k, hk⟩ := (get_ev l hl n (by omega)).rounds
    exact field_Get.calls k A1 c1 l n _ W (Kd.C_below hr1 hb) hc1 hk))
  have HR0 := Aside0.mk hr0
  have HN := Aside0.mk hn
  have HL := Aside0.mk hl
  have hnl := hn.1
  clear hr0 hr1 hl hn
  have hmade := HoldsB.made w
  have hbw := (Below.refl w.heap.size w).alloc (Nat.le_refl _) (.cells #[.pointer none, .slice none 0 0] 96)
  have hsz0 : w.heap.size < (w.alloc (.cells #[.pointer none, .slice none 0 0] 96)).heap.size := by simp
  go_enter Tryz.func27, Tryz.ntmps27
  go_wp2
  go_loopw [12] (fun v12 wr => ∃ i : Nat, i ≤ ns.length ∧ v12 = .int .i64 i ∧ HoldsB w.heap.size w.heap.size (splitL (ns.take i) l) wr ∧ Below w.heap.size w wr ∧ w.heap.size < wr.heap.size) (fun v12 _ => ns.length - (intOf v12).toNat)
  case atStart => exact ⟨0, Nat.zero_le _, rfl, hmade, hbw, hsz0⟩
  case round =>
    clear hmade hbw hsz0
    obtain ⟨i, hi, rfl, hB, hb, hsz⟩ := hrel
    by_cases hlt : i < ns.length
    · obtain ⟨b, o, rfl, hbs, hcell⟩ := strs_cells HR0.out (by omega)
      have hc : wr.cell? ⟨b, o + i, none⟩ = some (.string ns[i]) := by
        rw [hb.cell (p := ⟨b, o + i, none⟩) hbs]; exact hcell i _ (List.getElem?_eq_getElem hlt)
      have hns := HN.out.2 ns[i] (List.getElem_mem hlt)
      have HT := Aside0.mk (show splitL (ns.take (i + 1)) l = splitL (ns.take i) l ++ segL l ns[i] from flatMap_take_succ _ _ _ hlt)
      have htl : (splitL (ns.take i) l).length ≤ i * 10011002 := by
        have h1 := splitL_length HL.out (ns.take i) (fun n hn => HN.out.2 n (List.mem_of_mem_take hn))
        exact Nat.le_trans h1 (Nat.mul_le_mul_right _ (by simp; omega))
      clear hcell
      generalize ns[i] = x at *
      have hxl : (lower x).size ≤ 10000 := by rw [lower_size]; exact hns
      have HBo := Aside0.mk hB
      generalize hacc : splitL (ns.take i) l = acc at *
      clear hacc
      have e58 : ul (lower x ++ (⟨#[58]⟩ : ByteArray)) = lowL (ul x) ++ [58] := by rw [show (⟨#[58]⟩ : ByteArray) = bs [58] from rfl, app_bs]; rfl
      have hsz58 : (lower x ++ (⟨#[58]⟩ : ByteArray)).size ≤ 10001 := by rw [← ul_length, e58]; simp [lowL]; omega
      have E58 := Aside0.mk e58
      clear e58
      go_wp2_with (first
        | (go_at_call 59; refine (lower_calls x (by omega) _).mono ?_; rintro e w1 ⟨rfl, hb1⟩)
        | (go_at_call 58; refine (writeString' w.heap.size w.heap.size acc _ _ (HBo.out.below hb1) (by omega) (by have := hb1.size; omega)).mono ?_; rintro e w2 ⟨rfl, hB2, hb2, hk2⟩)
        | (go_at_call 51; refine (HG.out x hns _ ((hb.trans (hb1.mono hb.size)).trans hb2)).mono ?_; rintro e w3 ⟨v, rfl, hv, hb3⟩; obtain ⟨A, c, g, rfl, _, hrow⟩ := row_of_R hv))
      have hb03 := ((hb.trans (hb1.mono hb.size)).trans hb2).trans (hb3.mono (by have := hb.size; have := hb1.size; have := hb2.size; omega))
      have hs3 : w.heap.size < w3.heap.size := by have := hb1.size; have := hb2.size; have := hb3.size; omega
      have hs2 : w.heap.size < w2.heap.size := by have := hb1.size; have := hb2.size; omega
      have hB3 := hB2.below hb3
      have hvl : (getF l x).length ≤ 1000 := (getF_few HL.out x).1
      have HVS := Aside0.mk (getF_few HL.out x).2
      have HSG := Aside0.mk (show segL l x = ul (lower x ++ (⟨#[58]⟩ : ByteArray)) ++ valsL (getF l x) ++ [10] by rw [E58.out]; rfl)
      have hal : (acc ++ ul (lower x ++ (⟨#[58]⟩ : ByteArray))).length ≤ i * 10011002 + 10001 := by rw [List.length_append, ul_length]; omega
      generalize hacc1 : acc ++ ul (lower x ++ (⟨#[58]⟩ : ByteArray)) = acc1 at *
      have HA1 := Aside0.mk hacc1
      generalize getF l x = vs at *
      have HROW := Aside0.mk hrow
      clear hv hb1 hb2 hb3 hk2 hacc1 hrow hc HBo
      obtain ⟨wo, rfl⟩ : ∃ wo : World, wo = wr := ⟨_, rfl⟩
      go_loopw [24] (fun v24 wi => ∃ j : Nat, j ≤ vs.length ∧ v24 = .int .i64 j ∧ HoldsB w.heap.size w.heap.size (acc1 ++ valsL (vs.take j)) wi ∧ Below w.heap.size w wi ∧ w.heap.size < wi.heap.size ∧ (0 < vs.length → RowAt g vs wi)) (fun v24 _ => vs.length - (intOf v24).toNat)
      case atStart => exact ⟨0, Nat.zero_le _, rfl, by simpa [valsL] using hB3, hb03, hs3, fun h => (HROW.out h).2.2.2⟩
      case round =>
        clear hb03 hs3 hB3 hB2
        obtain ⟨j, hj, rfl, hBi, hbi, hsi, hri⟩ := hrel
        have HRI := Aside0.mk hri
        have HBi := Aside0.mk hBi
        clear hri hBi
        by_cases hjl : j < vs.length
        · obtain ⟨rfl, hg1, hg2, _⟩ := HROW.out (by omega)
          have hrw := HRI.out (by omega)
          have hc := hrw.cell j hjl
          have hjs := HVS.out vs[j] (List.getElem_mem hjl)
          have HT2 := Aside0.mk (show valsL (vs.take (j + 1)) = valsL (vs.take j) ++ (ul vs[j] ++ [10]) from flatMap_take_succ _ _ _ hjl)
          have hvlj : (valsL (vs.take j)).length ≤ j * 10001 := by
            have h1 := valsL_length (vs.take j) (fun v hv => HVS.out v (List.mem_of_mem_take hv))
            exact Nat.le_trans h1 (Nat.mul_le_mul_right _ (by simp; omega))
          have HRW := Aside0.mk hrw
          clear hrw
          generalize vs[j] = y at *
          have e10 : ul (y ++ (⟨#[10]⟩ : ByteArray)) = ul y ++ [10] := by rw [show (⟨#[10]⟩ : ByteArray) = bs [10] from rfl, app_bs]
          have hy10 : (y ++ (⟨#[10]⟩ : ByteArray)).size ≤ 10001 := by rw [← ul_length, e10]; simp; omega
          have E10 := Aside0.mk e10
          clear e10
          have hlenj : (acc1 ++ valsL (vs.take j)).length + (y ++ (⟨#[10]⟩ : ByteArray)).size ≤ 140737488355328 := by
            rw [List.length_append]
            omega
          go_wp2_with (go_at_call 58; refine (writeString' w.heap.size w.heap.size (acc1 ++ valsL (vs.take j)) _ _ HBi.out hlenj (by omega)).mono ?_; rintro e w5 ⟨rfl, hB5, hb5, hk5⟩)
          refine ⟨⟨j + 1, by omega, by simp, ?_, hbi.trans hb5, Nat.lt_of_lt_of_le hsi hb5.size, fun _ => HRW.out.others hk5 (by omega)⟩, by simp [intOf]; omega⟩
          rw [HT2.out, ← List.append_assoc, ← E10.out]
          exact hB5
        · obtain rfl : j = vs.length := by omega
          have hvlj : (valsL vs).length ≤ vs.length * 10001 := valsL_length vs HVS.out
          have hBn := HBi.out
          rw [List.take_length] at hBn
          have HBn := Aside0.mk hBn
          clear hBn
          go_wp2_with (go_at_call 58; refine (writeString' w.heap.size w.heap.size (acc1 ++ valsL vs) (⟨#[10]⟩ : ByteArray) _ HBn.out (by rw [List.length_append]; show _ + 1 ≤ _; omega) (by omega)).mono ?_; rintro e w5 ⟨rfl, hB5, hb5, hk5⟩)
          refine ⟨⟨i + 1, by omega, by simp, ?_, hbi.trans hb5, Nat.lt_of_lt_of_le hsi hb5.size⟩, by simp [intOf]; omega⟩
          rw [HT.out, HSG.out, ← List.append_assoc, ← List.append_assoc, HA1.out]
          exact hB5
    · obtain rfl : i = ns.length := by omega
      rw [List.take_length] at hB
      have HBn := Aside0.mk hB
      clear hB
      go_wp2_with (go_at_call 60; refine (Tryz.Builder_String_any_k w.heap.size w.heap.size (splitL ns l) _ HBn.out (by omega)).mono ?_; rintro e w5 ⟨rfl, hB5, hb5, hk5⟩)
      go_ret
      exact ⟨rfl, hb.trans hb5⟩
theorem refLower_calls (s : ByteArray) (hs : s.size ≤ 1000000000) (w : World) : Calls Tryz.prog 24 #[.string s] w fun e w' => e = .returned (.string (lower s)) ∧ Below w.heap.size w w' := by
  obtain ⟨k, hk⟩ := (refLower_ev s hs).rounds
  exact lockageref05_Lower.calls k s _ w hk
theorem refGet_calls (A0 : Option Addr) (c0 : Nat) (l : FieldL) (name : ByteArray) (w : World) (hr0 : Kd.C k36 w A0 l.length l) (hc0 : l.length ≤ c0) (hl : Few l) (hn : name.size ≤ 1000000000) :
    Calls Tryz.prog 26 #[.slice A0 l.length c0, .string name] w fun e w' => ∃ v0_ : Value, e = .returned (v0_) ∧ Kd.R Kd.string 9 w' w.heap.size (fun _ => True) v0_ (getF l name) ∧ Below w.heap.size w w' := by
  obtain ⟨k, hk⟩ := (refGet_ev l hl name hn).rounds
  exact lockageref05_Get.calls k A0 c0 l name _ w hr0 hc0 hk
end Go.Proofs.YtalafpigfeiaiaaGreatDoor.Q
end
section
namespace Go.Proofs.YtalafpigfeiaiaaGreatDoor.Q
open Go.RowKit Go.Shelf Go.Proofs.YtalafpigfeiaiaaGreatDoor.H Go.Proofs.YtalafpigfeiaiaaGreatDoorW.PrintWords Go.Proofs.YtalafpigfeiaiaaGreatDoorW.PrintLast Go.Proofs.YtalafpigfeiaiaaGreatDoorW.PrintMore
set_option linter.unusedVariables false
set_option linter.unusedSimpArgs false
def cutQ (l : Str) : Nat := if Lib.indexByte l 63 = -1 then l.length else (Lib.indexByte l 63).toNat
def rooted (p : Str) : Bool := match p with | 47 :: _ => true | _ => false
def normalS (l : Str) : ByteArray × ByteArray × Int :=
  if l.length > 200 then (⟨#[]⟩, ⟨#[]⟩, 2) else
  match plainG (l.take (cutQ l)) none with
  | none => (⟨#[]⟩, ⟨#[]⟩, 40)
  | some p => if rooted p && (l.drop (cutQ l)).all okC then (bs (slashL (stepAll [] (segsS p))), bs (l.drop (cutQ l)), 0) else (⟨#[]⟩, ⟨#[]⟩, 40)
theorem cutQ_le (l : Str) : cutQ l ≤ l.length := by
  unfold cutQ
  split
  · exact Nat.le_refl _
  · rename_i h
    obtain ⟨i, hi⟩ : ∃ i : Nat, Lib.indexByte l 63 = i := ⟨(Lib.indexByte l 63).toNat, by have := Lib.indexByte_ge l 63; omega⟩
    have := (splitB_some hi).2
    rw [hi]; omega
def extraG : Option (Option UInt8) → Nat
  | none => 0
  | some none => 1
  | some (some _) => 2
theorem plainG_length' : ∀ (l : Str) (st : Option (Option UInt8)) (r : Str), plainG l st = some r → r.length ≤ l.length + extraG st
  | [], none, r, h => by simp [plainG] at h; subst h; simp
  | [], some _, r, h => by simp [plainG] at h
  | c :: l, none, r, h => by
    rw [plainG_c] at h
    split at h
    · have := plainG_length' l _ r h; simp [extraG] at *; omega
    · split at h
      · obtain ⟨r', h', rfl⟩ := Option.map_eq_some_iff.1 h
        have := plainG_length' l _ r' h'; simp [extraG] at *; omega
      · cases h
  | c :: l, some none, r, h => by
    have h' : plainG l (some (some c)) = some r := h
    have := plainG_length' l _ r h'; simp [extraG] at *; omega
  | c :: l, some (some a), r, h => by
    have h' : (if escV a c = 0 then none else (plainG l none).map (outL (escV a c) ++ ·)) = some r := h
    split at h'
    · cases h'
    · obtain ⟨r', h2, rfl⟩ := Option.map_eq_some_iff.1 h'
      have h3 := plainG_length' l _ r' h2
      have h4 := (out_tab ⟨escV a c, escV_lt a c⟩).2
      simp only at h4
      simp only [extraG, List.length_append, List.length_cons] at *
      omega
theorem plainG_length (l : Str) (r : Str) (h : plainG l none = some r) : r.length ≤ l.length := plainG_length' l none r h
theorem hasPrefix_some (p : Str) : strings_HasPrefix.f (bs p) ⟨#[47]⟩ = some (rooted p) := by
  unfold strings_HasPrefix.f stringslite_HasPrefix.f
  match p with
  | [] => rfl
  | c :: p =>
    have h1 : ((bs (c :: p)).size : Int) ≥ ((⟨#[47]⟩ : ByteArray).size : Int) := by rw [bs_size]; show _ ≥ ((1 : Nat) : Int); simp; omega
    have hx : (bs (c :: p)).extract 0 ((⟨#[47]⟩ : ByteArray).size : Int).toNat = bs [c] := by rw [bs_extract]; rfl
    rw [if_pos h1, if_pos (by decide), if_pos h1, hx, toList_ul, toList_ul]
    simp only [Option.bind_some, ul_bs]
    by_cases hc : c = 47
    · subst hc; rfl
    · have : rooted (c :: p) = false := by unfold rooted; split <;> simp_all
      rw [this]; simp [hc]
theorem segsS_few {p : Str} (h : p.length ≤ 1000) : (segsS p).length ≤ 1001 ∧ ∀ x ∈ segsS p, x.size ≤ 1000 := by
  unfold segsS
  refine ⟨by rw [List.length_map]; have := splitB_length 47 (p.drop 1); rw [List.length_drop] at this; omega, fun x hx => ?_⟩
  obtain ⟨y, hy, rfl⟩ := List.mem_map.1 hx
  have hm : ∀ (l : Str) (y : Str), y ∈ splitB 47 l → y.length ≤ l.length := by
    intro l
    induction l with
    | nil => intro y hy; simp [splitB] at hy; subst hy; simp
    | cons c l ih =>
      intro y hy
      unfold splitB at hy
      split at hy
      · rcases List.mem_cons.1 hy with rfl | hy
        · simp
        · have := ih y hy; simp; omega
      · split at hy
        · simp at hy; subst hy; simp
        · rename_i h t he
          rw [he] at ih
          rcases List.mem_cons.1 hy with rfl | hy
          · have := ih h (by simp); simp; omega
          · have := ih y (by simp [hy]); simp; omega
  have := hm _ y hy
  rw [bs_size, List.length_drop] at *
  omega
set_option maxHeartbeats 1000000 in
set_option maxRecDepth 100000 in
theorem normal_calls (s : ByteArray) (w : World) (hs : s.size ≤ 1000000000) :
    Calls Tryz.prog 61 #[.string s] w fun e w' => e = .returned (.tuple #[.string (normalS (ul s)).1, .string (normalS (ul s)).2.1, .int .i64 (normalS (ul s)).2.2]) ∧ Below w.heap.size w w' := by
  by_cases hlen : (s.size : Int) > 200
  · have HN := Aside0.mk (show normalS (ul s) = (⟨#[]⟩, ⟨#[]⟩, 2) by unfold normalS; rw [if_pos (by rw [ul_length]; omega)])
    go_enter Tryz.func61, Tryz.ntmps61
    go_wp2
    go_ret3
    exact ⟨by rw [HN.out]; rfl, Below.refl _ _⟩
  obtain ⟨n, hn⟩ : ∃ n, cutQ (ul s) = n := ⟨_, rfl⟩
  have hnle : n ≤ s.size := by rw [← hn, ← ul_length]; exact cutQ_le _
  have hx1 : s.extract 0 n = bs ((ul s).take n) := ul_inj (by rw [ul_extract]; simp)
  have hx2 : s.extract n s.size = bs ((ul s).drop n) := ul_inj (by rw [ul_extract, List.take_of_length_le (by rw [List.length_drop, ul_length]; omega)])
  have hdl : ((ul s).drop n).length ≤ 200 := by rw [List.length_drop, ul_length]; omega
  have htl : ((ul s).take n).length ≤ 200 := by rw [List.length_take, ul_length]; omega
  have HN := Aside0.mk (show normalS (ul s) = (match plainG ((ul s).take n) none with
      | none => (⟨#[]⟩, ⟨#[]⟩, 40)
      | some p => if rooted p && ((ul s).drop n).all okC then (bs (slashL (stepAll [] (segsS p))), bs ((ul s).drop n), 0) else (⟨#[]⟩, ⟨#[]⟩, 40)) by unfold normalS; rw [if_neg (by rw [ul_length]; omega), hn])
  have HI : Aside0 (∀ W : World, Calls Tryz.prog 88 #[.string s, .int .u8 63] W fun e w' => e = .returned (.int .i64 (Lib.indexByte (ul s) 63)) ∧ Drawn0 W w') := ⟨fun W => strings_IndexByte.calls s 63 _ W rfl⟩
  have HX1 := Aside0.mk hx1
  have HX2 := Aside0.mk hx2
  have HP := Aside0.mk (fun (W : World) => plain_calls (bs ((ul s).take n)) (by rw [bs_size]; omega) W)
  rw [ul_bs] at HP
  have HM := Aside0.mk (fun (W : World) => may_calls (bs ((ul s).drop n)) (by rw [bs_size]; omega) W)
  rw [ul_bs] at HM
  have HQ := Aside0.mk (fun (h : n = s.size) => (show bs ((ul s).take n) = s by rw [h, List.take_of_length_le (by rw [ul_length]; omega)]))
  generalize normalS (ul s) = res at *
  have hpl : ∀ r, plainG ((ul s).take n) none = some r → r.length ≤ 1000 := fun r hr => by have := plainG_length _ _ hr; omega
  generalize hpp : plainG ((ul s).take n) none = pp at *
  generalize hq : ((ul s).drop n).all okC = okq at *
  generalize (ul s).drop n = qs at *
  generalize (ul s).take n = ps at *
  clear hpp hq hx1 hx2 htl
  have HMs : Aside0 (n = s.size → ∀ W : World, Calls Tryz.prog 91 #[.string ByteArray.empty] W fun e w' => e = .returned (.bool okq) ∧ Drawn0 W w') := ⟨fun h W => by
    have := HM.out W
    rw [← HX2.out, h, show s.extract s.size s.size = ByteArray.empty by simp] at this
    exact this⟩
  have HX2s : Aside0 (n = s.size → bs qs = ByteArray.empty) := ⟨fun h => by rw [← HX2.out, h]; simp⟩
  have HPs : Aside0 (n = s.size → ∀ W : World, Calls Tryz.prog 89 #[.string s] W fun e w' => ∃ t, e = .returned (.tuple #[.string t, .bool pp.isSome]) ∧ (∀ r, pp = some r → t = bs r) ∧ Below W.heap.size W w') := ⟨fun h W => by
    have := HP.out W
    rw [HQ.out h] at this
    exact this⟩
  have hidx : (Lib.indexByte (ul s) 63 = -1 ∧ n = s.size) ∨ (Lib.indexByte (ul s) 63 = (n : Int)) := by
    unfold cutQ at hn
    split at hn
    · exact .inl ⟨‹_›, by rw [ul_length] at hn; omega⟩
    · exact .inr (by have := Lib.indexByte_ge (ul s) 63; omega)
  generalize Lib.indexByte (ul s) 63 = idx at *
  clear hn
  cases pp with
  | none =>
    have HNN := Aside0.mk (show res = (⟨#[]⟩, ⟨#[]⟩, 40) from HN.out)
    clear HN hpl
    rcases hidx with ⟨rfl, rfl⟩ | rfl
    · go_enter Tryz.func61, Tryz.ntmps61
      go_wp2_with (first | (go_at_call 88; refine (HI.out _).mono ?_; rintro e w1 ⟨rfl, hd1⟩; have hb1 := hd1.below; have hs1 := hb1.size; clear hd1) | (go_at_call 89; (first | (rw [HX1.out]; with_reducible refine (HP.out _).mono ?_) | (with_reducible refine (HPs.out (by first | rfl | trivial) _).mono ?_)); rintro e w2 ⟨t, rfl, ht, hb2⟩; have hs2 := hb2.size; clear ht))
      go_ret3
      exact ⟨by rw [HNN.out]; rfl, hb1.trans (hb2.mono hs1)⟩
    · have hnn : ¬ ((n : Int) < 0) := by omega
      go_enter Tryz.func61, Tryz.ntmps61
      go_wp2_with (first | (go_at_call 88; refine (HI.out _).mono ?_; rintro e w1 ⟨rfl, hd1⟩; have hb1 := hd1.below; have hs1 := hb1.size; clear hd1) | (go_at_call 89; (first | (rw [HX1.out]; with_reducible refine (HP.out _).mono ?_) | (with_reducible refine (HPs.out (by first | rfl | trivial) _).mono ?_)); rintro e w2 ⟨t, rfl, ht, hb2⟩; have hs2 := hb2.size; clear ht))
      go_ret3
      exact ⟨by rw [HNN.out]; rfl, hb1.trans (hb2.mono hs1)⟩
  | some p =>
    have HPF : Aside0 (∀ W : World, Calls Tryz.prog 90 #[.string (bs p), .string ⟨#[47]⟩] W fun e w' => e = .returned (.bool (rooted p)) ∧ Drawn0 W w') := ⟨fun W => strings_HasPrefix.calls (bs p) ⟨#[47]⟩ _ W (hasPrefix_some p)⟩
    have hpl' := hpl p rfl
    clear hpl
    cases hr : rooted p with
    | false =>
      rw [hr] at HPF
      have HNN := Aside0.mk (show res = (⟨#[]⟩, ⟨#[]⟩, 40) by have := HN.out; simp only at this; rw [hr] at this; exact this)
      clear HN hr
      rcases hidx with ⟨rfl, rfl⟩ | rfl
      · go_enter Tryz.func61, Tryz.ntmps61
        go_wp2_with (first | (go_at_call 88; refine (HI.out _).mono ?_; rintro e w1 ⟨rfl, hd1⟩; have hb1 := hd1.below; have hs1 := hb1.size; clear hd1) | (go_at_call 89; (first | (rw [HX1.out]; with_reducible refine (HP.out _).mono ?_) | (with_reducible refine (HPs.out (by first | rfl | trivial) _).mono ?_)); rintro e w2 ⟨t, rfl, ht, hb2⟩; obtain rfl := ht p rfl; clear ht; have hs2 := hb2.size) | (go_at_call 90; refine (HPF.out _).mono ?_; rintro e w3 ⟨rfl, hd3⟩; have hb3 := hd3.below; have hs3 := hb3.size; clear hd3))
        go_ret3
        exact ⟨by rw [HNN.out]; rfl, (hb1.trans (hb2.mono hs1)).trans (hb3.mono (by omega))⟩
      · have hnn : ¬ ((n : Int) < 0) := by omega
        go_enter Tryz.func61, Tryz.ntmps61
        go_wp2_with (first | (go_at_call 88; refine (HI.out _).mono ?_; rintro e w1 ⟨rfl, hd1⟩; have hb1 := hd1.below; have hs1 := hb1.size; clear hd1) | (go_at_call 89; (first | (rw [HX1.out]; with_reducible refine (HP.out _).mono ?_) | (with_reducible refine (HPs.out (by first | rfl | trivial) _).mono ?_)); rintro e w2 ⟨t, rfl, ht, hb2⟩; obtain rfl := ht p rfl; clear ht; have hs2 := hb2.size) | (go_at_call 90; refine (HPF.out _).mono ?_; rintro e w3 ⟨rfl, hd3⟩; have hb3 := hd3.below; have hs3 := hb3.size; clear hd3))
        go_ret3
        exact ⟨by rw [HNN.out]; rfl, (hb1.trans (hb2.mono hs1)).trans (hb3.mono (by omega))⟩
    | true =>
      rw [hr] at HPF
      have hp1 : 1 ≤ (bs p).size := by rw [bs_size p]; cases p with | nil => simp [rooted] at hr | cons => simp
      cases okq with
      | false =>
        have HNN := Aside0.mk (show res = (⟨#[]⟩, ⟨#[]⟩, 40) by have := HN.out; simp only at this; rw [hr] at this; exact this)
        clear HN hr
        rcases hidx with ⟨rfl, rfl⟩ | rfl
        · go_enter Tryz.func61, Tryz.ntmps61
          go_wp2_with (first | (go_at_call 88; refine (HI.out _).mono ?_; rintro e w1 ⟨rfl, hd1⟩; have hb1 := hd1.below; have hs1 := hb1.size; clear hd1) | (go_at_call 89; (first | (rw [HX1.out]; with_reducible refine (HP.out _).mono ?_) | (with_reducible refine (HPs.out (by first | rfl | trivial) _).mono ?_)); rintro e w2 ⟨t, rfl, ht, hb2⟩; obtain rfl := ht p rfl; clear ht; have hs2 := hb2.size) | (go_at_call 90; refine (HPF.out _).mono ?_; rintro e w3 ⟨rfl, hd3⟩; have hb3 := hd3.below; have hs3 := hb3.size; clear hd3) | (go_at_call 91; (first | (rw [HX2.out]; with_reducible refine (HM.out _).mono ?_) | (with_reducible refine (HMs.out (by first | rfl | trivial) _).mono ?_)); rintro e w4 ⟨rfl, hd4⟩; have hb4 := hd4.below; have hs4 := hb4.size; clear hd4))
          go_ret3
          exact ⟨by rw [HNN.out]; rfl, ((hb1.trans (hb2.mono hs1)).trans (hb3.mono (by omega))).trans (hb4.mono (by omega))⟩
        · have hnn : ¬ ((n : Int) < 0) := by omega
          go_enter Tryz.func61, Tryz.ntmps61
          go_wp2_with (first | (go_at_call 88; refine (HI.out _).mono ?_; rintro e w1 ⟨rfl, hd1⟩; have hb1 := hd1.below; have hs1 := hb1.size; clear hd1) | (go_at_call 89; (first | (rw [HX1.out]; with_reducible refine (HP.out _).mono ?_) | (with_reducible refine (HPs.out (by first | rfl | trivial) _).mono ?_)); rintro e w2 ⟨t, rfl, ht, hb2⟩; obtain rfl := ht p rfl; clear ht; have hs2 := hb2.size) | (go_at_call 90; refine (HPF.out _).mono ?_; rintro e w3 ⟨rfl, hd3⟩; have hb3 := hd3.below; have hs3 := hb3.size; clear hd3) | (go_at_call 91; (first | (rw [HX2.out]; with_reducible refine (HM.out _).mono ?_) | (with_reducible refine (HMs.out (by first | rfl | trivial) _).mono ?_)); rintro e w4 ⟨rfl, hd4⟩; have hb4 := hd4.below; have hs4 := hb4.size; clear hd4))
          go_ret3
          exact ⟨by rw [HNN.out]; rfl, ((hb1.trans (hb2.mono hs1)).trans (hb3.mono (by omega))).trans (hb4.mono (by omega))⟩
      | true =>
        have HNN := Aside0.mk (show res = (bs (slashL (stepAll [] (segsS p))), bs qs, 0) by have := HN.out; simp only at this; rw [hr] at this; exact this)
        have hxs : (stepAll [] (segsS p)).length ≤ 1002 ∧ ∀ x ∈ stepAll [] (segsS p), x.size ≤ 1000 := by
          have h1 := segsS_few hpl'
          have h2 := stepAll_few 1000 (segsS p) [] h1.2 (by simp)
          exact ⟨by have := h2.1; simp at this; omega, h2.2⟩
        have HKE : Aside0 (∀ W : World, Calls Tryz.prog 92 #[.string (bs p)] W fun e w' => ∃ v : Value, e = .returned v ∧ Kd.R Kd.string 9 w' W.heap.size (fun _ => True) v (stepAll [] (segsS p)) ∧ Below W.heap.size W w') := ⟨fun W => callsIn_wide.1 (kept_in (bs p) hp1 (by rw [bs_size p]; omega) W)⟩
        clear HN hr
        generalize stepAll [] (segsS p) = xs at *
        have hxl := hxs.1
        have HXS := Aside0.mk hxs.2
        clear hxs
        rcases hidx with ⟨rfl, rfl⟩ | rfl
        · go_enter Tryz.func61, Tryz.ntmps61
          go_wp2_with (first | (go_at_call 88; refine (HI.out _).mono ?_; rintro e w1 ⟨rfl, hd1⟩; have hb1 := hd1.below; have hs1 := hb1.size; clear hd1) | (go_at_call 89; (first | (rw [HX1.out]; with_reducible refine (HP.out _).mono ?_) | (with_reducible refine (HPs.out (by first | rfl | trivial) _).mono ?_)); rintro e w2 ⟨t, rfl, ht, hb2⟩; obtain rfl := ht p rfl; clear ht; have hs2 := hb2.size) | (go_at_call 90; refine (HPF.out _).mono ?_; rintro e w3 ⟨rfl, hd3⟩; have hb3 := hd3.below; have hs3 := hb3.size; clear hd3) | (go_at_call 91; (first | (rw [HX2.out]; with_reducible refine (HM.out _).mono ?_) | (with_reducible refine (HMs.out (by first | rfl | trivial) _).mono ?_)); rintro e w4 ⟨rfl, hd4⟩; have hb4 := hd4.below; have hs4 := hb4.size; clear hd4) | (go_at_call 92; refine (HKE.out _).mono ?_; rintro e w5 ⟨v, rfl, hv, hb5⟩; obtain ⟨A, c, g, rfl, _, hrow⟩ := row_of_R hv; have HB5 := Aside0.mk ((HoldsB.made w4).below hb5); have HROW := Aside0.mk hrow; have hs5 := hb5.size; have hB0 := ((hb1.trans (hb2.mono hs1)).trans (hb3.mono (by omega))).trans (hb4.mono (by omega)); have hB5 := (hB0.alloc (by omega) _).trans (hb5.mono (by simp; omega)); clear hv hrow hb1 hb2 hb3 hb4 hb5))
          go_loopw [44] (fun v44 wi => ∃ j : Nat, j ≤ xs.length ∧ v44 = .int .i64 j ∧ HoldsB w4.heap.size w4.heap.size (slashL (xs.take j)) wi ∧ Below w.heap.size w wi ∧ w4.heap.size < wi.heap.size ∧ (0 < xs.length → RowAt g xs wi)) (fun v44 _ => xs.length - (intOf v44).toNat)
          case atStart => exact ⟨0, Nat.zero_le _, rfl, by simpa [slashL] using HB5.out, hB5, by simp at hs5; omega, fun h => (HROW.out h).2.2.2⟩
          case round =>
            clear HB5 hB5 hs5
            obtain ⟨j, hj, rfl, hBd, hbi, hsi, hri⟩ := hrel
            have HBd := Aside0.mk hBd
            have HRI := Aside0.mk hri
            clear hBd hri
            have hsl : (slashL (xs.take j)).length ≤ j * 1001 := by
              have h1 := slashL_length 1000 (xs.take j) (fun v hv => HXS.out v (List.mem_of_mem_take hv))
              exact Nat.le_trans h1 (Nat.mul_le_mul_right _ (by simp; omega))
            by_cases hjl : j < xs.length
            · obtain ⟨rfl, hg1, hg2, _⟩ := HROW.out (by omega)
              have hrw := HRI.out (by omega)
              have hc := hrw.cell j hjl
              have hjs := HXS.out xs[j] (List.getElem_mem hjl)
              have HT2 := Aside0.mk (show slashL (xs.take (j + 1)) = slashL (xs.take j) ++ (47 :: ul xs[j]) from flatMap_take_succ _ _ _ hjl)
              have HRW := Aside0.mk hrw
              clear hrw
              generalize xs[j] = y at *
              have e10 : ul ((⟨#[47]⟩ : ByteArray) ++ y) = 47 :: ul y := by rw [show y = bs (ul y) from rfl, app_bs]; rfl
              have hy10 : ((⟨#[47]⟩ : ByteArray) ++ y).size ≤ 1001 := by rw [← ul_length, e10]; simp; omega
              have E10 := Aside0.mk e10
              clear e10
              simp only [World.size_alloc] at hg1
              go_wp2_with (go_at_call 58; refine (writeString' w4.heap.size w4.heap.size (slashL (xs.take j)) _ _ HBd.out (by omega) (by omega)).mono ?_; rintro e w6 ⟨rfl, hB6, hb6, hk6⟩)
              refine ⟨⟨j + 1, by omega, by simp, ?_, hbi.trans (hb6.mono (by omega)), Nat.lt_of_lt_of_le hsi hb6.size, fun _ => HRW.out.others hk6 (by omega)⟩, by simp [intOf]; omega⟩
              rw [HT2.out, ← E10.out]
              exact hB6
            · obtain rfl : j = xs.length := by omega
              have hBd := HBd.out
              rw [List.take_length] at hBd hsl
              have HBd := Aside0.mk hBd
              clear hBd
              go_wp2
              refine start_ (n := 7) (S := (fun _ => True)) (ds := []) #[false, false, false, false, false, false, false] (by kernel_rfl) rfl rfl (trivial) (fun hHeld => ?_)
              refine pure_ (i := 1) (N := (some 53)) (v := ?_) (a' := ?_) #[false, true, false, false, false, false, false] rfl rfl (by kernel_rfl) (fun _ _ _ h => h) (Or.inl ⟨by rfl, ?_⟩) ?_ ?_
              rotate_left
              · intro w'
                go_simp
                with_reducible rfl
              rotate_left
              · simp only [Act.put, List.setIfInBounds_toArray, List.set_cons_zero, List.set_cons_succ, i64_w, i32_w]
                rfl
              refine pure_ (i := 2) (N := (some 54)) (v := ?_) (a' := ?_) #[false, true, true, false, false, false, false] rfl rfl (by kernel_rfl) (fun _ _ _ h => h) (Or.inl ⟨by rfl, ?_⟩) ?_ ?_
              rotate_left
              · intro w'
                go_simp
                with_reducible rfl
              rotate_left
              · simp only [Act.put, List.setIfInBounds_toArray, List.set_cons_zero, List.set_cons_succ, i64_w, i32_w]
                rfl
              refine pure_ (i := 3) (N := (some 55)) (v := ?_) (a' := ?_) #[false, true, true, true, false, false, false] rfl rfl (by kernel_rfl) (fun _ _ _ h => h) (Or.inl ⟨by rfl, ?_⟩) ?_ ?_
              rotate_left
              · intro w'
                go_simp
                with_reducible rfl
              rotate_left
              · simp only [Act.put, List.setIfInBounds_toArray, List.set_cons_zero, List.set_cons_succ, i64_w, i32_w]
                rfl
              refine one_ (i := 0) (N := (some 52)) #[true, true, true, true, false, false, false] rfl rfl (by kernel_rfl) (by decide) (fun K hK => ?_)
              refine goes_ Tryz.func60 (by kernel_rfl) rfl #[.pointer (some ⟨w4.heap.size, 0, none⟩)] (by rfl) rfl rfl (by (try simp only [List.map_toArray, List.map_cons, List.map_nil]); first | done | rfl) ?_
              refine (builderString w4.heap.size w4.heap.size (slashL xs) (bs (slashL xs)) rfl _ (HBd.out.below ((Below.refl _ _).drew)) (by simp; omega)).mono ?_
              rintro e w7 ⟨rfl, hB7, hb7, hk7⟩
              clear hB7 hk7
              refine ⟨_, rfl, ?_⟩
              refine hK.out _ _ hHeld (fun _ => ?_)
              clear hK K
              refine norm_ (a' := ?_) ?_ ?_
              rotate_left
              · show Act.put _ (some 52) _ = _
                simp only [Act.put, List.setIfInBounds_toArray, List.set_cons_zero, List.set_cons_succ, i64_w, i32_w]
                rfl
              refine pure_ (i := 4) (N := (some 2)) (v := ?_) (a' := ?_) #[true, true, true, true, true, false, false] rfl rfl (by kernel_rfl) (fun _ _ _ h => h) (Or.inl ⟨by rfl, ?_⟩) ?_ ?_
              rotate_left
              · intro w'
                go_simp
                with_reducible rfl
              rotate_left
              · simp only [Act.put, List.setIfInBounds_toArray, List.set_cons_zero, List.set_cons_succ, i64_w, i32_w]
                rfl
              refine pure_ (i := 5) (N := (some 3)) (v := ?_) (a' := ?_) #[true, true, true, true, true, true, false] rfl rfl (by kernel_rfl) (fun _ _ _ h => h) (Or.inl ⟨by rfl, ?_⟩) ?_ ?_
              rotate_left
              · intro w'
                go_simp
                with_reducible rfl
              rotate_left
              · simp only [Act.put, List.setIfInBounds_toArray, List.set_cons_zero, List.set_cons_succ, i64_w, i32_w]
                rfl
              refine pure_ (i := 6) (N := (some 4)) (v := ?_) (a' := ?_) #[true, true, true, true, true, true, true] rfl rfl (by kernel_rfl) (fun _ _ _ h => h) (Or.inl ⟨by rfl, ?_⟩) ?_ ?_
              rotate_left
              · intro w'
                go_simp
                with_reducible rfl
              rotate_left
              · simp only [Act.put, List.setIfInBounds_toArray, List.set_cons_zero, List.set_cons_succ, i64_w, i32_w]
                rfl
              refine done_ (by kernel_rfl) ?_
              go_wp2
              go_ret3
              exact ⟨by first | (rw [HNN.out, ← HX2.out]; rfl) | (rw [HNN.out, HX2s.out (by first | rfl | trivial)]; rfl), hbi.trans ((Below.refl _ _).drew.trans (hb7.mono (by show w.heap.size ≤ w4.heap.size; omega)))⟩
        · have hnn : ¬ ((n : Int) < 0) := by omega
          go_enter Tryz.func61, Tryz.ntmps61
          go_wp2_with (first | (go_at_call 88; refine (HI.out _).mono ?_; rintro e w1 ⟨rfl, hd1⟩; have hb1 := hd1.below; have hs1 := hb1.size; clear hd1) | (go_at_call 89; (first | (rw [HX1.out]; with_reducible refine (HP.out _).mono ?_) | (with_reducible refine (HPs.out (by first | rfl | trivial) _).mono ?_)); rintro e w2 ⟨t, rfl, ht, hb2⟩; obtain rfl := ht p rfl; clear ht; have hs2 := hb2.size) | (go_at_call 90; refine (HPF.out _).mono ?_; rintro e w3 ⟨rfl, hd3⟩; have hb3 := hd3.below; have hs3 := hb3.size; clear hd3) | (go_at_call 91; (first | (rw [HX2.out]; with_reducible refine (HM.out _).mono ?_) | (with_reducible refine (HMs.out (by first | rfl | trivial) _).mono ?_)); rintro e w4 ⟨rfl, hd4⟩; have hb4 := hd4.below; have hs4 := hb4.size; clear hd4) | (go_at_call 92; refine (HKE.out _).mono ?_; rintro e w5 ⟨v, rfl, hv, hb5⟩; obtain ⟨A, c, g, rfl, _, hrow⟩ := row_of_R hv; have HB5 := Aside0.mk ((HoldsB.made w4).below hb5); have HROW := Aside0.mk hrow; have hs5 := hb5.size; have hB0 := ((hb1.trans (hb2.mono hs1)).trans (hb3.mono (by omega))).trans (hb4.mono (by omega)); have hB5 := (hB0.alloc (by omega) _).trans (hb5.mono (by simp; omega)); clear hv hrow hb1 hb2 hb3 hb4 hb5))
          go_loopw [44] (fun v44 wi => ∃ j : Nat, j ≤ xs.length ∧ v44 = .int .i64 j ∧ HoldsB w4.heap.size w4.heap.size (slashL (xs.take j)) wi ∧ Below w.heap.size w wi ∧ w4.heap.size < wi.heap.size ∧ (0 < xs.length → RowAt g xs wi)) (fun v44 _ => xs.length - (intOf v44).toNat)
          case atStart => exact ⟨0, Nat.zero_le _, rfl, by simpa [slashL] using HB5.out, hB5, by simp at hs5; omega, fun h => (HROW.out h).2.2.2⟩
          case round =>
            clear HB5 hB5 hs5
            obtain ⟨j, hj, rfl, hBd, hbi, hsi, hri⟩ := hrel
            have HBd := Aside0.mk hBd
            have HRI := Aside0.mk hri
            clear hBd hri
            have hsl : (slashL (xs.take j)).length ≤ j * 1001 := by
              have h1 := slashL_length 1000 (xs.take j) (fun v hv => HXS.out v (List.mem_of_mem_take hv))
              exact Nat.le_trans h1 (Nat.mul_le_mul_right _ (by simp; omega))
            by_cases hjl : j < xs.length
            · obtain ⟨rfl, hg1, hg2, _⟩ := HROW.out (by omega)
              have hrw := HRI.out (by omega)
              have hc := hrw.cell j hjl
              have hjs := HXS.out xs[j] (List.getElem_mem hjl)
              have HT2 := Aside0.mk (show slashL (xs.take (j + 1)) = slashL (xs.take j) ++ (47 :: ul xs[j]) from flatMap_take_succ _ _ _ hjl)
              have HRW := Aside0.mk hrw
              clear hrw
              generalize xs[j] = y at *
              have e10 : ul ((⟨#[47]⟩ : ByteArray) ++ y) = 47 :: ul y := by rw [show y = bs (ul y) from rfl, app_bs]; rfl
              have hy10 : ((⟨#[47]⟩ : ByteArray) ++ y).size ≤ 1001 := by rw [← ul_length, e10]; simp; omega
              have E10 := Aside0.mk e10
              clear e10
              simp only [World.size_alloc] at hg1
              go_wp2_with (go_at_call 58; refine (writeString' w4.heap.size w4.heap.size (slashL (xs.take j)) _ _ HBd.out (by omega) (by omega)).mono ?_; rintro e w6 ⟨rfl, hB6, hb6, hk6⟩)
              refine ⟨⟨j + 1, by omega, by simp, ?_, hbi.trans (hb6.mono (by omega)), Nat.lt_of_lt_of_le hsi hb6.size, fun _ => HRW.out.others hk6 (by omega)⟩, by simp [intOf]; omega⟩
              rw [HT2.out, ← E10.out]
              exact hB6
            · obtain rfl : j = xs.length := by omega
              have hBd := HBd.out
              rw [List.take_length] at hBd hsl
              have HBd := Aside0.mk hBd
              clear hBd
              go_wp2
              refine start_ (n := 7) (S := (fun _ => True)) (ds := []) #[false, false, false, false, false, false, false] (by kernel_rfl) rfl rfl (trivial) (fun hHeld => ?_)
              refine pure_ (i := 1) (N := (some 53)) (v := ?_) (a' := ?_) #[false, true, false, false, false, false, false] rfl rfl (by kernel_rfl) (fun _ _ _ h => h) (Or.inl ⟨by rfl, ?_⟩) ?_ ?_
              rotate_left
              · intro w'
                go_simp
                with_reducible rfl
              rotate_left
              · simp only [Act.put, List.setIfInBounds_toArray, List.set_cons_zero, List.set_cons_succ, i64_w, i32_w]
                rfl
              refine pure_ (i := 2) (N := (some 54)) (v := ?_) (a' := ?_) #[false, true, true, false, false, false, false] rfl rfl (by kernel_rfl) (fun _ _ _ h => h) (Or.inl ⟨by rfl, ?_⟩) ?_ ?_
              rotate_left
              · intro w'
                go_simp
                with_reducible rfl
              rotate_left
              · simp only [Act.put, List.setIfInBounds_toArray, List.set_cons_zero, List.set_cons_succ, i64_w, i32_w]
                rfl
              refine pure_ (i := 3) (N := (some 55)) (v := ?_) (a' := ?_) #[false, true, true, true, false, false, false] rfl rfl (by kernel_rfl) (fun _ _ _ h => h) (Or.inl ⟨by rfl, ?_⟩) ?_ ?_
              rotate_left
              · intro w'
                go_simp
                with_reducible rfl
              rotate_left
              · simp only [Act.put, List.setIfInBounds_toArray, List.set_cons_zero, List.set_cons_succ, i64_w, i32_w]
                rfl
              refine one_ (i := 0) (N := (some 52)) #[true, true, true, true, false, false, false] rfl rfl (by kernel_rfl) (by decide) (fun K hK => ?_)
              refine goes_ Tryz.func60 (by kernel_rfl) rfl #[.pointer (some ⟨w4.heap.size, 0, none⟩)] (by rfl) rfl rfl (by (try simp only [List.map_toArray, List.map_cons, List.map_nil]); first | done | rfl) ?_
              refine (builderString w4.heap.size w4.heap.size (slashL xs) (bs (slashL xs)) rfl _ (HBd.out.below ((Below.refl _ _).drew)) (by simp; omega)).mono ?_
              rintro e w7 ⟨rfl, hB7, hb7, hk7⟩
              clear hB7 hk7
              refine ⟨_, rfl, ?_⟩
              refine hK.out _ _ hHeld (fun _ => ?_)
              clear hK K
              refine norm_ (a' := ?_) ?_ ?_
              rotate_left
              · show Act.put _ (some 52) _ = _
                simp only [Act.put, List.setIfInBounds_toArray, List.set_cons_zero, List.set_cons_succ, i64_w, i32_w]
                rfl
              refine pure_ (i := 4) (N := (some 2)) (v := ?_) (a' := ?_) #[true, true, true, true, true, false, false] rfl rfl (by kernel_rfl) (fun _ _ _ h => h) (Or.inl ⟨by rfl, ?_⟩) ?_ ?_
              rotate_left
              · intro w'
                go_simp
                with_reducible rfl
              rotate_left
              · simp only [Act.put, List.setIfInBounds_toArray, List.set_cons_zero, List.set_cons_succ, i64_w, i32_w]
                rfl
              refine pure_ (i := 5) (N := (some 3)) (v := ?_) (a' := ?_) #[true, true, true, true, true, true, false] rfl rfl (by kernel_rfl) (fun _ _ _ h => h) (Or.inl ⟨by rfl, ?_⟩) ?_ ?_
              rotate_left
              · intro w'
                go_simp
                with_reducible rfl
              rotate_left
              · simp only [Act.put, List.setIfInBounds_toArray, List.set_cons_zero, List.set_cons_succ, i64_w, i32_w]
                rfl
              refine pure_ (i := 6) (N := (some 4)) (v := ?_) (a' := ?_) #[true, true, true, true, true, true, true] rfl rfl (by kernel_rfl) (fun _ _ _ h => h) (Or.inl ⟨by rfl, ?_⟩) ?_ ?_
              rotate_left
              · intro w'
                go_simp
                with_reducible rfl
              rotate_left
              · simp only [Act.put, List.setIfInBounds_toArray, List.set_cons_zero, List.set_cons_succ, i64_w, i32_w]
                rfl
              refine done_ (by kernel_rfl) ?_
              go_wp2
              go_ret3
              exact ⟨by first | (rw [HNN.out, ← HX2.out]; rfl) | (rw [HNN.out, HX2s.out (by first | rfl | trivial)]; rfl), hbi.trans ((Below.refl _ _).drew.trans (hb7.mono (by show w.heap.size ≤ w4.heap.size; omega)))⟩
end Go.Proofs.YtalafpigfeiaiaaGreatDoor.Q
end
section
namespace Go.Proofs.YtalafpigfeiaiaaGreatDoor.Q
open Go.RowKit Go.Shelf Go.Proofs.YtalafpigfeiaiaaGreatDoor.H Go.Proofs.YtalafpigfeiaiaaGreatDoorW.PrintWords
set_option linter.unusedVariables false
set_option linter.unusedSimpArgs false
theorem cutQ_lt {l : Str} {i : Nat} (h : i < cutQ l) : ∃ hi : i < l.length, l[i] ≠ 63 := by
  have hle := cutQ_le l
  have hil : i < l.length := by omega
  refine ⟨hil, ?_⟩
  clear hle
  unfold cutQ at h
  split at h
  · exact indexByte_no ‹_› _ (List.getElem_mem _)
  · rename_i hq
    obtain ⟨n, hn⟩ : ∃ n : Nat, Lib.indexByte l 63 = n := ⟨(Lib.indexByte l 63).toNat, by have := Lib.indexByte_ge l 63; omega⟩
    rw [hn, Int.toNat_natCast] at h
    have h1 := (indexByte_at hn).1
    have h2 : l[i] ∈ l.take n := by
      rw [List.mem_take_iff_getElem]
      exact ⟨i, by omega, rfl⟩
    exact h1 _ h2
theorem cutQ_at (l : Str) : cutQ l = l.length ∨ ∃ hi : cutQ l < l.length, l[cutQ l] = 63 := by
  unfold cutQ
  split
  · exact .inl rfl
  · rename_i hq
    obtain ⟨n, hn⟩ : ∃ n : Nat, Lib.indexByte l 63 = n := ⟨(Lib.indexByte l 63).toNat, by have := Lib.indexByte_ge l 63; omega⟩
    have h1 := (indexByte_at hn).2
    have h2 := (splitB_some hn).2
    right
    simp only [hn, Int.toNat_natCast]
    refine ⟨h2, ?_⟩
    have h3 : l[n]? = some 63 := by
      conv => lhs; rw [h1]
      rw [List.getElem?_append_right (by rw [List.length_take]; omega), List.length_take]
      simp [show n - min n l.length = 0 by omega]
    rw [List.getElem?_eq_getElem h2] at h3
    exact Option.some.inj h3
set_option maxHeartbeats 1000000 in
set_option maxRecDepth 100000 in
theorem refNormal_calls (s : ByteArray) (w : World) (hs : s.size ≤ 1000000000) :
    Calls Tryz.prog 76 #[.string s] w fun e w' => e = .returned (.tuple #[.string (normalS (ul s)).1, .string (normalS (ul s)).2.1, .int .i64 (normalS (ul s)).2.2]) ∧ Below w.heap.size w w' := by
  by_cases hlen : (s.size : Int) > 200
  · have HN := Aside0.mk (show normalS (ul s) = (⟨#[]⟩, ⟨#[]⟩, 2) by unfold normalS; rw [if_pos (by rw [ul_length]; omega)])
    go_enter Tryz.func76, Tryz.ntmps76
    go_wp2
    go_ret3
    exact ⟨by rw [HN.out]; rfl, Below.refl _ _⟩
  obtain ⟨n, hn⟩ : ∃ n, cutQ (ul s) = n := ⟨_, rfl⟩
  have hnle : n ≤ s.size := by rw [← hn, ← ul_length]; exact cutQ_le _
  have hx1 : s.extract 0 n = bs ((ul s).take n) := ul_inj (by rw [ul_extract]; simp)
  have hx2 : s.extract n s.size = bs ((ul s).drop n) := ul_inj (by rw [ul_extract, List.take_of_length_le (by rw [List.length_drop, ul_length]; omega)])
  have hdl : ((ul s).drop n).length ≤ 200 := by rw [List.length_drop, ul_length]; omega
  have htl : ((ul s).take n).length ≤ 200 := by rw [List.length_take, ul_length]; omega
  have HN := Aside0.mk (show normalS (ul s) = (match plainG ((ul s).take n) none with
      | none => (⟨#[]⟩, ⟨#[]⟩, 40)
      | some p => if rooted p && ((ul s).drop n).all okC then (bs (slashL (stepAll [] (segsS p))), bs ((ul s).drop n), 0) else (⟨#[]⟩, ⟨#[]⟩, 40)) by unfold normalS; rw [if_neg (by rw [ul_length]; omega), hn]; try rfl)
  have HLT := Aside0.mk (fun (i : Nat) (hi : i < n) => (show ∃ h : i < s.size, s[i] ≠ 63 by
    obtain ⟨h1, h2⟩ := cutQ_lt (l := ul s) (i := i) (by rw [hn]; exact hi)
    exact ⟨by rw [← ul_length]; exact h1, h2⟩))
  have HAT := Aside0.mk (show n = s.size ∨ ∃ h : n < s.size, s[n] = 63 by
    rcases cutQ_at (ul s) with h | ⟨h1, h2⟩
    · exact .inl (by rw [← hn, h, ul_length])
    · subst hn; exact .inr ⟨by rw [← ul_length]; exact h1, h2⟩)
  have HX1 := Aside0.mk hx1
  have HX2 := Aside0.mk hx2
  have HP := Aside0.mk (fun (W : World) => (show Calls Tryz.prog 113 #[.string (bs ((ul s).take n))] W fun e w' => e = .returned (.tuple #[.string (plainR ⟨#[]⟩ (plainG ((ul s).take n) none)).1, .bool (plainR ⟨#[]⟩ (plainG ((ul s).take n) none)).2]) ∧ Below W.heap.size W w' by
    obtain ⟨k, hk⟩ := (refPlain_ev (bs ((ul s).take n)) (by rw [bs_size]; omega)).rounds
    rw [ul_bs] at hk
    exact lockageref13_plain.calls k _ _ _ W hk))
  have hpl : ∀ r, plainG ((ul s).take n) none = some r → r.length ≤ 1000 := fun r hr => by have := plainG_length _ _ hr; omega
  have HQL := Aside0.mk (show ((ul s).drop n).length = s.size - n by rw [List.length_drop, ul_length])
  have HQQ := Aside0.mk (fun (h : n = s.size) => (show bs ((ul s).take n) = s by rw [h, List.take_of_length_le (by rw [ul_length]; omega)]))
  generalize normalS (ul s) = res at *
  generalize plainG ((ul s).take n) none = pp at *
  generalize hq : ((ul s).drop n).all okC = okq at *
  have HQ := Aside0.mk hq
  generalize (ul s).drop n = qs at *
  generalize (ul s).take n = ps at *
  clear hq hx1 hx2 htl hn
  have HPs : Aside0 (n = s.size → ∀ W : World, Calls Tryz.prog 113 #[.string s] W fun e w' => e = .returned (.tuple #[.string (plainR ⟨#[]⟩ pp).1, .bool (plainR ⟨#[]⟩ pp).2]) ∧ Below W.heap.size W w') := ⟨fun h W => by
    have := HP.out W
    rw [HQQ.out h] at this
    exact this⟩
  go_enter Tryz.func76, Tryz.ntmps76
  go_wp2
  go_loopw [5] (fun v5 wr => ∃ i : Nat, i ≤ n ∧ v5 = .int .i64 i ∧ wr = w) (fun v5 _ => n - (intOf v5).toNat)
  case atStart => exact ⟨0, Nat.zero_le _, rfl, rfl⟩
  case round =>
    obtain ⟨i, hi, rfl, rfl⟩ := hrel
    by_cases hlt : i < n
    · obtain ⟨h1, h2⟩ := HLT.out i hlt
      have hi0 : (0 : Int) ≤ (i : Int) := by omega
      have hi1 : (i : Int) < (s.size : Int) := by omega
      have hne : ((s[i].toNat : Int) == 63) = false := by
        rw [beq_eq_false_iff_ne]; intro h; exact h2 (UInt8.toNat_inj.1 (show s[i].toNat = 63 by omega))
      go_wp2
      exact ⟨⟨i + 1, by omega, by simp, by trivial⟩, by simp [intOf]; omega⟩
    · obtain rfl : i = n := by omega
      have hi0 : (0 : Int) ≤ (i : Int) := by omega
      cases pp with
      | none =>
        have HNN := Aside0.mk (show res = (⟨#[]⟩, ⟨#[]⟩, 40) from HN.out)
        simp only [plainR] at HP HPs
        clear HN hpl
        rcases HAT.out with rfl | ⟨h1, h2⟩
        · go_wp2_with (first | (go_at_call 113; (first | (rw [HX1.out]; with_reducible refine (HP.out _).mono ?_) | (with_reducible refine (HPs.out (by first | rfl | trivial) _).mono ?_)); rintro e w2 ⟨rfl, hb2⟩))
          go_ret3
          exact ⟨by rw [HNN.out]; rfl, hb2⟩
        · have hi1 : (i : Int) < (s.size : Int) := by omega
          have he : ((s[i].toNat : Int) == 63) = true := by rw [h2]; rfl
          go_wp2_with (first | (go_at_call 113; (first | (rw [HX1.out]; with_reducible refine (HP.out _).mono ?_) | (with_reducible refine (HPs.out (by first | rfl | trivial) _).mono ?_)); rintro e w2 ⟨rfl, hb2⟩))
          go_ret3
          exact ⟨by rw [HNN.out]; rfl, hb2⟩
      | some p =>
        have hcat : (⟨#[]⟩ : ByteArray) ++ bs p = bs p := by rw [app_bs]; rfl
        simp only [plainR, hcat] at HP HPs
        have hpl' := hpl p rfl
        clear hpl hcat
        match p, hpl' with
        | [], _ =>
          have HNN := Aside0.mk (show res = (⟨#[]⟩, ⟨#[]⟩, 40) from HN.out)
          clear HN
          have hemp : (bs []).toList = [] := by rw [toList_ul]
          rcases HAT.out with rfl | ⟨h1, h2⟩
          · go_wp2_with (first | (go_at_call 113; (first | (rw [HX1.out]; with_reducible refine (HP.out _).mono ?_) | (with_reducible refine (HPs.out (by first | rfl | trivial) _).mono ?_)); rintro e w2 ⟨rfl, hb2⟩))
            go_ret3
            exact ⟨by rw [HNN.out]; rfl, hb2⟩
          · have hi1 : (i : Int) < (s.size : Int) := by omega
            have he : ((s[i].toNat : Int) == 63) = true := by rw [h2]; rfl
            go_wp2_with (first | (go_at_call 113; (first | (rw [HX1.out]; with_reducible refine (HP.out _).mono ?_) | (with_reducible refine (HPs.out (by first | rfl | trivial) _).mono ?_)); rintro e w2 ⟨rfl, hb2⟩))
            go_ret3
            exact ⟨by rw [HNN.out]; rfl, hb2⟩
        | c :: p', hpl' =>
          have hemp : ¬ (bs (c :: p')).toList = [] := by rw [toList_ul]; simp
          have hz0 : (0 : Int) < ((bs (c :: p')).size : Int) := by rw [bs_size]; simp
          have hz1 : 0 < (bs (c :: p')).size := by omega
          have hc0 : (bs (c :: p'))[0] = c := rfl
          by_cases hc : c = 47
          · subst hc
            have hb : (((bs (47 :: p'))[0].toNat : Int) == 47) = true := by rw [hc0]; rfl
            have hb' : (((47 : UInt8).toNat : Int) == 47) = true := rfl
            have HSG : Aside0 (∀ W : World, Calls Tryz.prog 115 #[.string (bs (47 :: p'))] W fun e w' => ∃ v : Value, e = .returned v ∧ Kd.R Kd.string 9 w' W.heap.size (fun _ => True) v (segsS (47 :: p')) ∧ Below W.heap.size W w') := ⟨fun W => by
              obtain ⟨k, hk⟩ := (segs_ev (bs (47 :: p')) (by rw [bs_size (47 :: p')]; omega) (by rw [bs_size (47 :: p')]; simp)).rounds
              exact lockageref13_Segments.calls k _ _ W hk⟩
            have hsf := segsS_few hpl'
            have HDT : Aside0 (∀ (W : World) (A : Option Addr) (c : Nat), Kd.C Kd.string W A (segsS (47 :: p')).length (segsS (47 :: p')) → (segsS (47 :: p')).length ≤ c → Calls Tryz.prog 114 #[.slice A (segsS (47 :: p')).length c] W fun e w' => e = .returned (.string (bs (slashL (stepAll [] (segsS (47 :: p')))))) ∧ Below W.heap.size W w') := ⟨fun W A c h1 h2 => by
              obtain ⟨k, hk⟩ := (dots_ev (segsS (47 :: p')) ⟨by omega, fun x hx => by have := hsf.2 x hx; omega⟩).rounds
              exact lockageref13_dots.calls k A c _ _ W h1 h2 hk⟩
            clear hsf
            have HNN := Aside0.mk (show res = if okq then (bs (slashL (stepAll [] (segsS (47 :: p')))), bs qs, 0) else (⟨#[]⟩, ⟨#[]⟩, 40) from HN.out)
            clear HN
            rcases HAT.out with rfl | ⟨h1, h2⟩
            · go_wp2_with (first | (go_at_call 113; (first | (rw [HX1.out]; with_reducible refine (HP.out _).mono ?_) | (with_reducible refine (HPs.out (by first | rfl | trivial) _).mono ?_)); rintro e w2 ⟨rfl, hb2⟩))
              go_loopw [9] (fun v9 wi => ∃ j : Nat, j ≤ qs.length ∧ v9 = .int .i64 j ∧ (qs.take j).all okC = true ∧ wi = w2) (fun v9 _ => qs.length - (intOf v9).toNat)
              case atStart => exact ⟨0, Nat.zero_le _, rfl, rfl, rfl⟩
              case round =>
                obtain ⟨j, hj, rfl, hall, rfl⟩ := hrel
                have hq0 : qs = [] := List.eq_nil_of_length_eq_zero (by rw [HQL.out]; simp)
                have hqe : bs qs = ByteArray.empty := by rw [hq0]; rfl
                subst hq0
                · obtain rfl : j = 0 := by simp at hj; omega
                  have HALL := Aside0.mk (show okq = true by rw [← HQ.out]; rfl)
                  have HQE := Aside0.mk hqe
                  clear hall hqe
                  go_wp2_with (first
                    | (go_at_call 115; refine (HSG.out _).mono ?_; rintro e w3 ⟨v, rfl, hv, hb3⟩; obtain ⟨A, c, rfl, hlc, hvr⟩ := Kd.R_reads hv)
                    | (go_at_call 114; refine (HDT.out _ _ _ hvr hlc).mono ?_; rintro e w4 ⟨rfl, hb4⟩))
                  go_ret3
                  exact ⟨by rw [HNN.out, HALL.out, if_pos rfl, HQE.out]; rfl, (hb2.trans (hb3.mono hb2.size)).trans (hb4.mono (by have := hb2.size; have := hb3.size; omega))⟩
            · have hi1 : (i : Int) < (s.size : Int) := by omega
              have he : ((s[i].toNat : Int) == 63) = true := by rw [h2]; rfl
              go_wp2_with (first | (go_at_call 113; (first | (rw [HX1.out]; with_reducible refine (HP.out _).mono ?_) | (with_reducible refine (HPs.out (by first | rfl | trivial) _).mono ?_)); rintro e w2 ⟨rfl, hb2⟩))
              go_loopw [9] (fun v9 wi => ∃ j : Nat, j ≤ qs.length ∧ v9 = .int .i64 j ∧ (qs.take j).all okC = true ∧ wi = w2) (fun v9 _ => qs.length - (intOf v9).toNat)
              case atStart => exact ⟨0, Nat.zero_le _, rfl, rfl, rfl⟩
              case round =>
                obtain ⟨j, hj, rfl, hall, rfl⟩ := hrel
                by_cases hjl : j < qs.length
                · have hjs : j < s.size - i := by have := HQL.out; omega
                  have hjs' : j < (s.extract i s.size).size := by have := congrArg ByteArray.size HX2.out; rw [bs_size qs] at this; omega
                  have hcj : (s.extract i s.size)[j] = qs[j] := by
                    have := HX2.out
                    have h3 : (ul (s.extract i s.size))[j]? = qs[j]? := by rw [this, ul_bs]
                    rw [List.getElem?_eq_getElem hjl, List.getElem?_eq_getElem (by rw [ul_length]; exact hjs')] at h3
                    exact Option.some.inj h3
                  have HT := Aside0.mk (show (qs.take (j + 1)).all okC = ((qs.take j).all okC && okC qs[j]) by rw [List.take_succ_eq_append_getElem hjl, List.all_append]; simp)
                  have HM := Aside0.mk (show okC qs[j] = false → res = (⟨#[]⟩, ⟨#[]⟩, 40) from fun h => by
                    have : okq = false := by rw [← HQ.out, List.all_eq_false]; exact ⟨_, List.getElem_mem hjl, by rw [h]; simp⟩
                    rw [HNN.out, this]; rfl)
                  have HALL := Aside0.mk hall
                  clear hall
                  generalize qs[j] = d at *
                  by_cases h33 : (d.toNat : Int) < 33
                  · have HBAD := Aside0.mk (HM.out (by unfold okC; simp; omega))
                    go_wp2
                    go_ret3
                    exact ⟨by rw [HBAD.out]; rfl, hb2⟩
                  · have h33' : (33 : Int) ≤ (d.toNat : Int) := by omega
                    by_cases h126 : (126 : Int) < (d.toNat : Int)
                    · have HBAD := Aside0.mk (HM.out (by unfold okC; simp; omega))
                      go_wp2
                      go_ret3
                      exact ⟨by rw [HBAD.out]; rfl, hb2⟩
                    · have h126' : (d.toNat : Int) ≤ 126 := by omega
                      by_cases h35 : (d.toNat : Int) = 35
                      · have HBAD := Aside0.mk (HM.out (by unfold okC; simp; omega))
                        go_wp2
                        go_ret3
                        exact ⟨by rw [HBAD.out]; rfl, hb2⟩
                      · have HOK := Aside0.mk (show okC d = true by unfold okC; simp; omega)
                        go_wp2
                        exact ⟨⟨j + 1, by omega, by simp, by rw [HT.out, HALL.out, HOK.out]; rfl, by trivial⟩, by simp [intOf]; omega⟩
                · obtain rfl : j = qs.length := by omega
                  have hqe : bs qs = s.extract i s.size := HX2.out.symm
                  have hjs : qs.length = s.size - i := HQL.out
                  have HALL := Aside0.mk (show okq = true by rw [← HQ.out, ← List.take_length (l := qs)]; exact hall)
                  have HQE := Aside0.mk hqe
                  clear hall hqe
                  go_wp2_with (first
                    | (go_at_call 115; refine (HSG.out _).mono ?_; rintro e w3 ⟨v, rfl, hv, hb3⟩; obtain ⟨A, c, rfl, hlc, hvr⟩ := Kd.R_reads hv)
                    | (go_at_call 114; refine (HDT.out _ _ _ hvr hlc).mono ?_; rintro e w4 ⟨rfl, hb4⟩))
                  go_ret3
                  exact ⟨by rw [HNN.out, HALL.out, if_pos rfl, HQE.out]; rfl, (hb2.trans (hb3.mono hb2.size)).trans (hb4.mono (by have := hb2.size; have := hb3.size; omega))⟩
          · have hb : (((bs (c :: p'))[0].toNat : Int) == 47) = false := by
              rw [hc0, beq_eq_false_iff_ne]; intro h; exact hc (UInt8.toNat_inj.1 (show c.toNat = 47 by omega))
            have hb' : ((c.toNat : Int) == 47) = false := by rw [← hc0]; exact hb
            have HNN := Aside0.mk (show res = (⟨#[]⟩, ⟨#[]⟩, 40) by
              have hr : rooted (c :: p') = false := by unfold rooted; split <;> simp_all
              have := HN.out
              simp only [hr] at this
              exact this)
            clear HN
            rcases HAT.out with rfl | ⟨h1, h2⟩
            · go_wp2_with (first | (go_at_call 113; (first | (rw [HX1.out]; with_reducible refine (HP.out _).mono ?_) | (with_reducible refine (HPs.out (by first | rfl | trivial) _).mono ?_)); rintro e w2 ⟨rfl, hb2⟩))
              go_ret3
              exact ⟨by rw [HNN.out]; rfl, hb2⟩
            · have hi1 : (i : Int) < (s.size : Int) := by omega
              have he : ((s[i].toNat : Int) == 63) = true := by rw [h2]; rfl
              go_wp2_with (first | (go_at_call 113; (first | (rw [HX1.out]; with_reducible refine (HP.out _).mono ?_) | (with_reducible refine (HPs.out (by first | rfl | trivial) _).mono ?_)); rintro e w2 ⟨rfl, hb2⟩))
              go_ret3
              exact ⟨by rw [HNN.out]; rfl, hb2⟩
end Go.Proofs.YtalafpigfeiaiaaGreatDoor.Q
end
section
namespace Go.Proofs.YtalafpigfeiaiaaGreatDoor.Q
open Go.RowKit Go.Shelf Go.Proofs.YtalafpigfeiaiaaGreatDoor.H Go.Proofs.YtalafpigfeiaiaaGreatDoorW.PrintWords
def target_Normal.f (a0 : ByteArray) : Option (ByteArray × ByteArray × Int) := if a0.size ≤ 1000000000 then some (normalS (ul a0)) else none
theorem target_Normal.calls (a0 : ByteArray) (r1 : ByteArray) (r2 : ByteArray) (r3 : Int) (w : World) (h : target_Normal.f a0 = some (r1, r2, r3)) :
    Calls Tryz.prog 61 #[.string a0] w fun e w' => e = .returned (.tuple #[.string r1, .string r2, .int .i64 r3]) ∧ Below w.heap.size w w' := by
  unfold target_Normal.f at h
  split at h
  · injection h with h
    have := normal_calls a0 w ‹_›
    rw [h] at this
    exact this
  · cases h
def lockageref13_Normal.f (a0 : ByteArray) : Option (ByteArray × ByteArray × Int) := if a0.size ≤ 1000000000 then some (normalS (ul a0)) else none
theorem lockageref13_Normal.calls (a0 : ByteArray) (r1 : ByteArray) (r2 : ByteArray) (r3 : Int) (w : World) (h : lockageref13_Normal.f a0 = some (r1, r2, r3)) :
    Calls Tryz.prog 76 #[.string a0] w fun e w' => e = .returned (.tuple #[.string r1, .string r2, .int .i64 r3]) ∧ Below w.heap.size w w' := by
  unfold lockageref13_Normal.f at h
  split at h
  · injection h with h
    have := refNormal_calls a0 w ‹_›
    rw [h] at this
    exact this
  · cases h
end Go.Proofs.YtalafpigfeiaiaaGreatDoor.Q
end
