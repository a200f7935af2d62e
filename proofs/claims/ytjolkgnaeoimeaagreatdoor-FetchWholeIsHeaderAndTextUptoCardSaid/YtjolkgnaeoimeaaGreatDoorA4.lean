/- FetchWholeIsHeaderAndText returns true for every stored message that is given; what it reads is of bulk at most 1048576, and the listed package variables hold what the program's text lays. -/
import Derived.Test.YtjolkgnaeoimeaaGreatDoorA1
import Derived.Test.YtjolkgnaeoimeaaGreatDoorA3
import Derived.Test.YtjolkgnaeoimeaaGreatDoorA2
import Derived.Deep.RegionHeld3
import Derived.Lib.ConvBytes
import Derived.Lib.AtoiErrMem
import Derived.Lib.ItoaNum
import Derived.Lib.ItoaLen
import Derived.Lib.ItoaMem
import Derived.Test.YtjolkgnaeoimeaaGreatDoorRows
import Derived.Deep.SlicePairs
import Derived.ChangeSlices
import Derived.Test.YtjolkgnaeoimeaaGreatDoorCards
import Derived.Test.YtjolkgnaeoimeaaGreatDoorTie
import Derived.WalkKit
import Derived.ProofKit
import Derived.OpenShut
import Derived.Carry
import Derived.Deep.DeepHandedRow
import Derived.Deep.DeepWitnessRowRef
import Derived.Lib.LaidTab
import Derived.Lib.LaidU8
import Derived.Lib.AppendIntMem
-- PRINTED by gprint.py (a program of this session, over the kit's print). Not trusted: Lean checks it.
namespace Go.Proofs.YtjolkgnaeoimeaaGreatDoor.G
open Go.RowKit Go.Proofs.YtjolkgnaeoimeaaGreatDoorW.PrintWords Go.Proofs.YtjolkgnaeoimeaaGreatDoorW.PrintLast Go.Proofs.YtjolkgnaeoimeaaGreatDoorW.PrintMore
attribute [local go_sem] max2_int min2_int max_two min_two max_three min_three max_four min_four   -- for this text's walks alone
set_option linter.unusedVariables false
set_option linter.unusedSimpArgs false
/-! ### grammar_piece: function 23 -/
def grammar_piece.f (a0_0 : ByteArray) (a0_1 : Int) (a0_2 : Int) : Option (Int) := (grammar_Section.f a0_0).bind fun bt341 => (if bt341.2 = true then (if a0_1 < 0 then (some 3) else (if a0_1 > 12000 then (some 3) else (if a0_2 < (-1) then (some 3) else (if a0_2 > 12000 then (some 3) else (some 0))))) else (some 10))
set_option maxHeartbeats 8000000 in
set_option maxRecDepth 100000 in
theorem grammar_piece.calls (a0_0 : ByteArray) (a0_1 : Int) (a0_2 : Int) (r : Int) (w : World) (h : grammar_piece.f a0_0 a0_1 a0_2 = some r) :
    Calls Tryz.prog 23 #[.agg #[.string a0_0, .int .i64 a0_1, .int .i64 a0_2]] w fun e w' => e = .returned (.int .i64 r) ∧ Below w.heap.size w w' := by
  have hu34 := Tryz.underlying34
  have HB := Aside0.mk (Below.refl w.heap.size w)
  have H : ((grammar_Section.f a0_0).bind fun bt341 => (if bt341.2 = true then (if a0_1 < 0 then (some 3) else (if a0_1 > 12000 then (some 3) else (if a0_2 < (-1) then (some 3) else (if a0_2 > 12000 then (some 3) else (some 0))))) else (some 10))) = some r := h
  clear h
  replace H := Option.bind_eq_some_iff.mp H
  obtain ⟨⟨t341, t342⟩, A20, H⟩ := H
  replace H : (if t342 = true then (if a0_1 < 0 then (some 3) else (if a0_1 > 12000 then (some 3) else (if a0_2 < (-1) then (some 3) else (if a0_2 > 12000 then (some 3) else (some 0))))) else (some 10)) = some r := H
  have A2 := Aside0.mk A20
  clear A20
  by_cases c3 : t342 = true
  · subst c3
    have H1 : (if a0_1 < 0 then (some 3) else (if a0_1 > 12000 then (some 3) else (if a0_2 < (-1) then (some 3) else (if a0_2 > 12000 then (some 3) else (some 0))))) = some r := by rw [if_pos rfl] at H; exact H
    clear H
    have H := H1
    clear H1
    by_cases c4 : a0_1 < 0
    · rw [if_pos c4] at H
      have c4b0 : decide (a0_1 < 0) = true := decide_eq_true c4
      clear c4
      obtain rfl := Option.some.inj H
      go_enter Tryz.func23, Tryz.ntmps23
      go_wp2_with (first | ((with_reducible refine gate_dst (N := 1) rfl ?_); refine box_event ?hg (N := 1) ?hd (cs := #[.string a0_0, .int .i64 a0_1, .int .i64 a0_2]) (t := 34) ?hr ?_; (case hd => rfl); (case hg => rfl); (case hr => first | (go_simp; done) | (go_simp; rfl)); intro gb340 hg w5 hbox hb; have n0_ := Aside0.mk (below_step (by repeat (first | (with_reducible first | exact HB.out | apply below_alloc | apply pw_below_drewN | apply below_drew1) | exact HB.out)) hb); have n1_ := Aside0.mk (hbox); have n2_ := Aside0.mk ((by rw [hg]; exact (below_size (by repeat (first | (with_reducible first | exact HB.out | apply below_alloc | apply pw_below_drewN | apply below_drew1) | exact HB.out))) : w.heap.size ≤ gb340)); have n3_ := Aside0.mk ((by rw [hg]; exact (below_size (by repeat (first | (with_reducible first | exact HB.out | apply below_alloc | apply pw_below_drewN | apply below_drew1) | exact HB.out))) : w.heap.size ≤ gb340)); clear HB; have HB := n0_; have BK340 := n1_; have GW340 := n2_; have GE340 := n3_; clear n0_ n1_ n2_ n3_; clear hb hbox hg; have hcz6_0 : w5.cell? ⟨gb340, 0, none⟩ = some (.string a0_0) := (blk_cell BK340.out 0).trans rfl; have hcz6_1 : w5.cell? ⟨gb340, 1, none⟩ = some (.int .i64 a0_1) := (blk_cell BK340.out 1).trans rfl; have hcz6_2 : w5.cell? ⟨gb340, 2, none⟩ = some (.int .i64 a0_2) := (blk_cell BK340.out 2).trans rfl; have hfz6_0 := blk_frozen BK340.out 0; have hfz6_1 := blk_frozen BK340.out 1; have hfz6_2 := blk_frozen BK340.out 2) | ((with_reducible refine gate_callee (f := 28) rfl ?_); refine goesL_ (some 8) rfl rfl Tryz.func28 (by kernel_rfl) rfl #[.string a0_0] rfl (by (try simp only [List.map_toArray, List.map_cons, List.map_nil]); first | done | rfl | (simp only [List.length_drop, List.length_take]; rfl)) ?_; (with_reducible refine (grammar_Section.calls a0_0 t341 true _ A2.out).mono ?_); rintro e w7 ⟨v343, rfl, ho0, hb⟩; refine ⟨_, rfl, ?_⟩; have n0_ := Aside0.mk (Kd.R_lower ho0 (below_size (by repeat (first | (with_reducible first | exact HB.out | apply below_alloc | apply pw_below_drewN | apply below_drew1 | refine below_set ?_ GE340.out) | exact HB.out)))); have n1_ := Aside0.mk (blk_below (g := gb340) (o := .cells #[.string a0_0, .int .i64 a0_1, .int .i64 a0_2] 34 (0, 0)) (by (with_reducible repeat (first | refine blk_drewN ?_ _ | refine blk_drew ?_ | refine blk_alloc ?_ _)); exact BK340.out) hb); have n2_ := Aside0.mk (below_step (by repeat (first | (with_reducible first | exact HB.out | apply below_alloc | apply pw_below_drewN | apply below_drew1 | refine below_set ?_ GE340.out) | exact HB.out)) hb); clear BK340; clear HB; have HO344 := n0_; have BK340 := n1_; have HB := n2_; clear n0_ n1_ n2_; (try clear hb); (try clear hb2); (try clear hk); (try clear hi); (try clear ho0); have hcz8_0 : w7.cell? ⟨gb340, 0, none⟩ = some (.string a0_0) := (blk_cell BK340.out 0).trans rfl; have hcz8_1 : w7.cell? ⟨gb340, 1, none⟩ = some (.int .i64 a0_1) := (blk_cell BK340.out 1).trans rfl; have hcz8_2 : w7.cell? ⟨gb340, 2, none⟩ = some (.int .i64 a0_2) := (blk_cell BK340.out 2).trans rfl; have hfz8_0 := blk_frozen BK340.out 0; have hfz8_1 := blk_frozen BK340.out 1; have hfz8_2 := blk_frozen BK340.out 2))
      go_ret
      exact ⟨by first | rfl | (simp [errW_none, errW_some] <;> rfl) | (simp [*, errW_none, errW_some] <;> rfl), by repeat (first | (with_reducible first | exact HB.out | apply below_alloc | apply pw_below_drewN | apply below_drew1 | refine below_set ?_ GE340.out) | exact HB.out)⟩
    · rw [if_neg c4] at H
      have c4b0 : decide (a0_1 < 0) = false := decide_eq_false c4
      clear c4
      by_cases c9 : a0_1 > 12000
      · rw [if_pos c9] at H
        have c9b0 : decide (12000 < a0_1) = true := decide_eq_true c9
        clear c9
        obtain rfl := Option.some.inj H
        go_enter Tryz.func23, Tryz.ntmps23
        go_wp2_with (first | ((with_reducible refine gate_dst (N := 1) rfl ?_); refine box_event ?hg (N := 1) ?hd (cs := #[.string a0_0, .int .i64 a0_1, .int .i64 a0_2]) (t := 34) ?hr ?_; (case hd => rfl); (case hg => rfl); (case hr => first | (go_simp; done) | (go_simp; rfl)); intro gb340 hg w10 hbox hb; have n0_ := Aside0.mk (below_step (by repeat (first | (with_reducible first | exact HB.out | apply below_alloc | apply pw_below_drewN | apply below_drew1) | exact HB.out)) hb); have n1_ := Aside0.mk (hbox); have n2_ := Aside0.mk ((by rw [hg]; exact (below_size (by repeat (first | (with_reducible first | exact HB.out | apply below_alloc | apply pw_below_drewN | apply below_drew1) | exact HB.out))) : w.heap.size ≤ gb340)); have n3_ := Aside0.mk ((by rw [hg]; exact (below_size (by repeat (first | (with_reducible first | exact HB.out | apply below_alloc | apply pw_below_drewN | apply below_drew1) | exact HB.out))) : w.heap.size ≤ gb340)); clear HB; have HB := n0_; have BK340 := n1_; have GW340 := n2_; have GE340 := n3_; clear n0_ n1_ n2_ n3_; clear hb hbox hg; have hcz11_0 : w10.cell? ⟨gb340, 0, none⟩ = some (.string a0_0) := (blk_cell BK340.out 0).trans rfl; have hcz11_1 : w10.cell? ⟨gb340, 1, none⟩ = some (.int .i64 a0_1) := (blk_cell BK340.out 1).trans rfl; have hcz11_2 : w10.cell? ⟨gb340, 2, none⟩ = some (.int .i64 a0_2) := (blk_cell BK340.out 2).trans rfl; have hfz11_0 := blk_frozen BK340.out 0; have hfz11_1 := blk_frozen BK340.out 1; have hfz11_2 := blk_frozen BK340.out 2) | ((with_reducible refine gate_callee (f := 28) rfl ?_); refine goesL_ (some 8) rfl rfl Tryz.func28 (by kernel_rfl) rfl #[.string a0_0] rfl (by (try simp only [List.map_toArray, List.map_cons, List.map_nil]); first | done | rfl | (simp only [List.length_drop, List.length_take]; rfl)) ?_; (with_reducible refine (grammar_Section.calls a0_0 t341 true _ A2.out).mono ?_); rintro e w12 ⟨v343, rfl, ho0, hb⟩; refine ⟨_, rfl, ?_⟩; have n0_ := Aside0.mk (Kd.R_lower ho0 (below_size (by repeat (first | (with_reducible first | exact HB.out | apply below_alloc | apply pw_below_drewN | apply below_drew1 | refine below_set ?_ GE340.out) | exact HB.out)))); have n1_ := Aside0.mk (blk_below (g := gb340) (o := .cells #[.string a0_0, .int .i64 a0_1, .int .i64 a0_2] 34 (0, 0)) (by (with_reducible repeat (first | refine blk_drewN ?_ _ | refine blk_drew ?_ | refine blk_alloc ?_ _)); exact BK340.out) hb); have n2_ := Aside0.mk (below_step (by repeat (first | (with_reducible first | exact HB.out | apply below_alloc | apply pw_below_drewN | apply below_drew1 | refine below_set ?_ GE340.out) | exact HB.out)) hb); clear BK340; clear HB; have HO344 := n0_; have BK340 := n1_; have HB := n2_; clear n0_ n1_ n2_; (try clear hb); (try clear hb2); (try clear hk); (try clear hi); (try clear ho0); have hcz13_0 : w12.cell? ⟨gb340, 0, none⟩ = some (.string a0_0) := (blk_cell BK340.out 0).trans rfl; have hcz13_1 : w12.cell? ⟨gb340, 1, none⟩ = some (.int .i64 a0_1) := (blk_cell BK340.out 1).trans rfl; have hcz13_2 : w12.cell? ⟨gb340, 2, none⟩ = some (.int .i64 a0_2) := (blk_cell BK340.out 2).trans rfl; have hfz13_0 := blk_frozen BK340.out 0; have hfz13_1 := blk_frozen BK340.out 1; have hfz13_2 := blk_frozen BK340.out 2))
        go_ret
        exact ⟨by first | rfl | (simp [errW_none, errW_some] <;> rfl) | (simp [*, errW_none, errW_some] <;> rfl), by repeat (first | (with_reducible first | exact HB.out | apply below_alloc | apply pw_below_drewN | apply below_drew1 | refine below_set ?_ GE340.out) | exact HB.out)⟩
      · rw [if_neg c9] at H
        have c9b0 : decide (12000 < a0_1) = false := decide_eq_false c9
        clear c9
        by_cases c14 : a0_2 < (-1)
        · rw [if_pos c14] at H
          have c14b0 : decide (a0_2 < (-1)) = true := decide_eq_true c14
          clear c14
          obtain rfl := Option.some.inj H
          go_enter Tryz.func23, Tryz.ntmps23
          go_wp2_with (first | ((with_reducible refine gate_dst (N := 1) rfl ?_); refine box_event ?hg (N := 1) ?hd (cs := #[.string a0_0, .int .i64 a0_1, .int .i64 a0_2]) (t := 34) ?hr ?_; (case hd => rfl); (case hg => rfl); (case hr => first | (go_simp; done) | (go_simp; rfl)); intro gb340 hg w15 hbox hb; have n0_ := Aside0.mk (below_step (by repeat (first | (with_reducible first | exact HB.out | apply below_alloc | apply pw_below_drewN | apply below_drew1) | exact HB.out)) hb); have n1_ := Aside0.mk (hbox); have n2_ := Aside0.mk ((by rw [hg]; exact (below_size (by repeat (first | (with_reducible first | exact HB.out | apply below_alloc | apply pw_below_drewN | apply below_drew1) | exact HB.out))) : w.heap.size ≤ gb340)); have n3_ := Aside0.mk ((by rw [hg]; exact (below_size (by repeat (first | (with_reducible first | exact HB.out | apply below_alloc | apply pw_below_drewN | apply below_drew1) | exact HB.out))) : w.heap.size ≤ gb340)); clear HB; have HB := n0_; have BK340 := n1_; have GW340 := n2_; have GE340 := n3_; clear n0_ n1_ n2_ n3_; clear hb hbox hg; have hcz16_0 : w15.cell? ⟨gb340, 0, none⟩ = some (.string a0_0) := (blk_cell BK340.out 0).trans rfl; have hcz16_1 : w15.cell? ⟨gb340, 1, none⟩ = some (.int .i64 a0_1) := (blk_cell BK340.out 1).trans rfl; have hcz16_2 : w15.cell? ⟨gb340, 2, none⟩ = some (.int .i64 a0_2) := (blk_cell BK340.out 2).trans rfl; have hfz16_0 := blk_frozen BK340.out 0; have hfz16_1 := blk_frozen BK340.out 1; have hfz16_2 := blk_frozen BK340.out 2) | ((with_reducible refine gate_callee (f := 28) rfl ?_); refine goesL_ (some 8) rfl rfl Tryz.func28 (by kernel_rfl) rfl #[.string a0_0] rfl (by (try simp only [List.map_toArray, List.map_cons, List.map_nil]); first | done | rfl | (simp only [List.length_drop, List.length_take]; rfl)) ?_; (with_reducible refine (grammar_Section.calls a0_0 t341 true _ A2.out).mono ?_); rintro e w17 ⟨v343, rfl, ho0, hb⟩; refine ⟨_, rfl, ?_⟩; have n0_ := Aside0.mk (Kd.R_lower ho0 (below_size (by repeat (first | (with_reducible first | exact HB.out | apply below_alloc | apply pw_below_drewN | apply below_drew1 | refine below_set ?_ GE340.out) | exact HB.out)))); have n1_ := Aside0.mk (blk_below (g := gb340) (o := .cells #[.string a0_0, .int .i64 a0_1, .int .i64 a0_2] 34 (0, 0)) (by (with_reducible repeat (first | refine blk_drewN ?_ _ | refine blk_drew ?_ | refine blk_alloc ?_ _)); exact BK340.out) hb); have n2_ := Aside0.mk (below_step (by repeat (first | (with_reducible first | exact HB.out | apply below_alloc | apply pw_below_drewN | apply below_drew1 | refine below_set ?_ GE340.out) | exact HB.out)) hb); clear BK340; clear HB; have HO344 := n0_; have BK340 := n1_; have HB := n2_; clear n0_ n1_ n2_; (try clear hb); (try clear hb2); (try clear hk); (try clear hi); (try clear ho0); have hcz18_0 : w17.cell? ⟨gb340, 0, none⟩ = some (.string a0_0) := (blk_cell BK340.out 0).trans rfl; have hcz18_1 : w17.cell? ⟨gb340, 1, none⟩ = some (.int .i64 a0_1) := (blk_cell BK340.out 1).trans rfl; have hcz18_2 : w17.cell? ⟨gb340, 2, none⟩ = some (.int .i64 a0_2) := (blk_cell BK340.out 2).trans rfl; have hfz18_0 := blk_frozen BK340.out 0; have hfz18_1 := blk_frozen BK340.out 1; have hfz18_2 := blk_frozen BK340.out 2))
          go_ret
          exact ⟨by first | rfl | (simp [errW_none, errW_some] <;> rfl) | (simp [*, errW_none, errW_some] <;> rfl), by repeat (first | (with_reducible first | exact HB.out | apply below_alloc | apply pw_below_drewN | apply below_drew1 | refine below_set ?_ GE340.out) | exact HB.out)⟩
        · rw [if_neg c14] at H
          have c14b0 : decide (a0_2 < (-1)) = false := decide_eq_false c14
          clear c14
          by_cases c19 : a0_2 > 12000
          · rw [if_pos c19] at H
            have c19b0 : decide (12000 < a0_2) = true := decide_eq_true c19
            clear c19
            obtain rfl := Option.some.inj H
            go_enter Tryz.func23, Tryz.ntmps23
            go_wp2_with (first | ((with_reducible refine gate_dst (N := 1) rfl ?_); refine box_event ?hg (N := 1) ?hd (cs := #[.string a0_0, .int .i64 a0_1, .int .i64 a0_2]) (t := 34) ?hr ?_; (case hd => rfl); (case hg => rfl); (case hr => first | (go_simp; done) | (go_simp; rfl)); intro gb340 hg w20 hbox hb; have n0_ := Aside0.mk (below_step (by repeat (first | (with_reducible first | exact HB.out | apply below_alloc | apply pw_below_drewN | apply below_drew1) | exact HB.out)) hb); have n1_ := Aside0.mk (hbox); have n2_ := Aside0.mk ((by rw [hg]; exact (below_size (by repeat (first | (with_reducible first | exact HB.out | apply below_alloc | apply pw_below_drewN | apply below_drew1) | exact HB.out))) : w.heap.size ≤ gb340)); have n3_ := Aside0.mk ((by rw [hg]; exact (below_size (by repeat (first | (with_reducible first | exact HB.out | apply below_alloc | apply pw_below_drewN | apply below_drew1) | exact HB.out))) : w.heap.size ≤ gb340)); clear HB; have HB := n0_; have BK340 := n1_; have GW340 := n2_; have GE340 := n3_; clear n0_ n1_ n2_ n3_; clear hb hbox hg; have hcz21_0 : w20.cell? ⟨gb340, 0, none⟩ = some (.string a0_0) := (blk_cell BK340.out 0).trans rfl; have hcz21_1 : w20.cell? ⟨gb340, 1, none⟩ = some (.int .i64 a0_1) := (blk_cell BK340.out 1).trans rfl; have hcz21_2 : w20.cell? ⟨gb340, 2, none⟩ = some (.int .i64 a0_2) := (blk_cell BK340.out 2).trans rfl; have hfz21_0 := blk_frozen BK340.out 0; have hfz21_1 := blk_frozen BK340.out 1; have hfz21_2 := blk_frozen BK340.out 2) | ((with_reducible refine gate_callee (f := 28) rfl ?_); refine goesL_ (some 8) rfl rfl Tryz.func28 (by kernel_rfl) rfl #[.string a0_0] rfl (by (try simp only [List.map_toArray, List.map_cons, List.map_nil]); first | done | rfl | (simp only [List.length_drop, List.length_take]; rfl)) ?_; (with_reducible refine (grammar_Section.calls a0_0 t341 true _ A2.out).mono ?_); rintro e w22 ⟨v343, rfl, ho0, hb⟩; refine ⟨_, rfl, ?_⟩; have n0_ := Aside0.mk (Kd.R_lower ho0 (below_size (by repeat (first | (with_reducible first | exact HB.out | apply below_alloc | apply pw_below_drewN | apply below_drew1 | refine below_set ?_ GE340.out) | exact HB.out)))); have n1_ := Aside0.mk (blk_below (g := gb340) (o := .cells #[.string a0_0, .int .i64 a0_1, .int .i64 a0_2] 34 (0, 0)) (by (with_reducible repeat (first | refine blk_drewN ?_ _ | refine blk_drew ?_ | refine blk_alloc ?_ _)); exact BK340.out) hb); have n2_ := Aside0.mk (below_step (by repeat (first | (with_reducible first | exact HB.out | apply below_alloc | apply pw_below_drewN | apply below_drew1 | refine below_set ?_ GE340.out) | exact HB.out)) hb); clear BK340; clear HB; have HO344 := n0_; have BK340 := n1_; have HB := n2_; clear n0_ n1_ n2_; (try clear hb); (try clear hb2); (try clear hk); (try clear hi); (try clear ho0); have hcz23_0 : w22.cell? ⟨gb340, 0, none⟩ = some (.string a0_0) := (blk_cell BK340.out 0).trans rfl; have hcz23_1 : w22.cell? ⟨gb340, 1, none⟩ = some (.int .i64 a0_1) := (blk_cell BK340.out 1).trans rfl; have hcz23_2 : w22.cell? ⟨gb340, 2, none⟩ = some (.int .i64 a0_2) := (blk_cell BK340.out 2).trans rfl; have hfz23_0 := blk_frozen BK340.out 0; have hfz23_1 := blk_frozen BK340.out 1; have hfz23_2 := blk_frozen BK340.out 2))
            go_ret
            exact ⟨by first | rfl | (simp [errW_none, errW_some] <;> rfl) | (simp [*, errW_none, errW_some] <;> rfl), by repeat (first | (with_reducible first | exact HB.out | apply below_alloc | apply pw_below_drewN | apply below_drew1 | refine below_set ?_ GE340.out) | exact HB.out)⟩
          · rw [if_neg c19] at H
            have c19b0 : decide (12000 < a0_2) = false := decide_eq_false c19
            clear c19
            obtain rfl := Option.some.inj H
            go_enter Tryz.func23, Tryz.ntmps23
            go_wp2_with (first | ((with_reducible refine gate_dst (N := 1) rfl ?_); refine box_event ?hg (N := 1) ?hd (cs := #[.string a0_0, .int .i64 a0_1, .int .i64 a0_2]) (t := 34) ?hr ?_; (case hd => rfl); (case hg => rfl); (case hr => first | (go_simp; done) | (go_simp; rfl)); intro gb340 hg w24 hbox hb; have n0_ := Aside0.mk (below_step (by repeat (first | (with_reducible first | exact HB.out | apply below_alloc | apply pw_below_drewN | apply below_drew1) | exact HB.out)) hb); have n1_ := Aside0.mk (hbox); have n2_ := Aside0.mk ((by rw [hg]; exact (below_size (by repeat (first | (with_reducible first | exact HB.out | apply below_alloc | apply pw_below_drewN | apply below_drew1) | exact HB.out))) : w.heap.size ≤ gb340)); have n3_ := Aside0.mk ((by rw [hg]; exact (below_size (by repeat (first | (with_reducible first | exact HB.out | apply below_alloc | apply pw_below_drewN | apply below_drew1) | exact HB.out))) : w.heap.size ≤ gb340)); clear HB; have HB := n0_; have BK340 := n1_; have GW340 := n2_; have GE340 := n3_; clear n0_ n1_ n2_ n3_; clear hb hbox hg; have hcz25_0 : w24.cell? ⟨gb340, 0, none⟩ = some (.string a0_0) := (blk_cell BK340.out 0).trans rfl; have hcz25_1 : w24.cell? ⟨gb340, 1, none⟩ = some (.int .i64 a0_1) := (blk_cell BK340.out 1).trans rfl; have hcz25_2 : w24.cell? ⟨gb340, 2, none⟩ = some (.int .i64 a0_2) := (blk_cell BK340.out 2).trans rfl; have hfz25_0 := blk_frozen BK340.out 0; have hfz25_1 := blk_frozen BK340.out 1; have hfz25_2 := blk_frozen BK340.out 2) | ((with_reducible refine gate_callee (f := 28) rfl ?_); refine goesL_ (some 8) rfl rfl Tryz.func28 (by kernel_rfl) rfl #[.string a0_0] rfl (by (try simp only [List.map_toArray, List.map_cons, List.map_nil]); first | done | rfl | (simp only [List.length_drop, List.length_take]; rfl)) ?_; (with_reducible refine (grammar_Section.calls a0_0 t341 true _ A2.out).mono ?_); rintro e w26 ⟨v343, rfl, ho0, hb⟩; refine ⟨_, rfl, ?_⟩; have n0_ := Aside0.mk (Kd.R_lower ho0 (below_size (by repeat (first | (with_reducible first | exact HB.out | apply below_alloc | apply pw_below_drewN | apply below_drew1 | refine below_set ?_ GE340.out) | exact HB.out)))); have n1_ := Aside0.mk (blk_below (g := gb340) (o := .cells #[.string a0_0, .int .i64 a0_1, .int .i64 a0_2] 34 (0, 0)) (by (with_reducible repeat (first | refine blk_drewN ?_ _ | refine blk_drew ?_ | refine blk_alloc ?_ _)); exact BK340.out) hb); have n2_ := Aside0.mk (below_step (by repeat (first | (with_reducible first | exact HB.out | apply below_alloc | apply pw_below_drewN | apply below_drew1 | refine below_set ?_ GE340.out) | exact HB.out)) hb); clear BK340; clear HB; have HO344 := n0_; have BK340 := n1_; have HB := n2_; clear n0_ n1_ n2_; (try clear hb); (try clear hb2); (try clear hk); (try clear hi); (try clear ho0); have hcz27_0 : w26.cell? ⟨gb340, 0, none⟩ = some (.string a0_0) := (blk_cell BK340.out 0).trans rfl; have hcz27_1 : w26.cell? ⟨gb340, 1, none⟩ = some (.int .i64 a0_1) := (blk_cell BK340.out 1).trans rfl; have hcz27_2 : w26.cell? ⟨gb340, 2, none⟩ = some (.int .i64 a0_2) := (blk_cell BK340.out 2).trans rfl; have hfz27_0 := blk_frozen BK340.out 0; have hfz27_1 := blk_frozen BK340.out 1; have hfz27_2 := blk_frozen BK340.out 2))
            go_ret
            exact ⟨by first | rfl | (simp [errW_none, errW_some] <;> rfl) | (simp [*, errW_none, errW_some] <;> rfl), by repeat (first | (with_reducible first | exact HB.out | apply below_alloc | apply pw_below_drewN | apply below_drew1 | refine below_set ?_ GE340.out) | exact HB.out)⟩
  · replace c3 := Bool.eq_false_iff.mpr c3
    subst c3
    have H1 : (some 10) = some r := by rw [if_neg (show ¬ (false = true) by decide)] at H; exact H
    clear H
    have H := H1
    clear H1
    obtain rfl := Option.some.inj H
    go_enter Tryz.func23, Tryz.ntmps23
    go_wp2_with (first | ((with_reducible refine gate_dst (N := 1) rfl ?_); refine box_event ?hg (N := 1) ?hd (cs := #[.string a0_0, .int .i64 a0_1, .int .i64 a0_2]) (t := 34) ?hr ?_; (case hd => rfl); (case hg => rfl); (case hr => first | (go_simp; done) | (go_simp; rfl)); intro gb340 hg w28 hbox hb; have n0_ := Aside0.mk (below_step (by repeat (first | (with_reducible first | exact HB.out | apply below_alloc | apply pw_below_drewN | apply below_drew1) | exact HB.out)) hb); have n1_ := Aside0.mk (hbox); have n2_ := Aside0.mk ((by rw [hg]; exact (below_size (by repeat (first | (with_reducible first | exact HB.out | apply below_alloc | apply pw_below_drewN | apply below_drew1) | exact HB.out))) : w.heap.size ≤ gb340)); have n3_ := Aside0.mk ((by rw [hg]; exact (below_size (by repeat (first | (with_reducible first | exact HB.out | apply below_alloc | apply pw_below_drewN | apply below_drew1) | exact HB.out))) : w.heap.size ≤ gb340)); clear HB; have HB := n0_; have BK340 := n1_; have GW340 := n2_; have GE340 := n3_; clear n0_ n1_ n2_ n3_; clear hb hbox hg; have hcz29_0 : w28.cell? ⟨gb340, 0, none⟩ = some (.string a0_0) := (blk_cell BK340.out 0).trans rfl; have hcz29_1 : w28.cell? ⟨gb340, 1, none⟩ = some (.int .i64 a0_1) := (blk_cell BK340.out 1).trans rfl; have hcz29_2 : w28.cell? ⟨gb340, 2, none⟩ = some (.int .i64 a0_2) := (blk_cell BK340.out 2).trans rfl; have hfz29_0 := blk_frozen BK340.out 0; have hfz29_1 := blk_frozen BK340.out 1; have hfz29_2 := blk_frozen BK340.out 2) | ((with_reducible refine gate_callee (f := 28) rfl ?_); refine goesL_ (some 8) rfl rfl Tryz.func28 (by kernel_rfl) rfl #[.string a0_0] rfl (by (try simp only [List.map_toArray, List.map_cons, List.map_nil]); first | done | rfl | (simp only [List.length_drop, List.length_take]; rfl)) ?_; (with_reducible refine (grammar_Section.calls a0_0 t341 false _ A2.out).mono ?_); rintro e w30 ⟨v343, rfl, ho0, hb⟩; refine ⟨_, rfl, ?_⟩; have n0_ := Aside0.mk (Kd.R_lower ho0 (below_size (by repeat (first | (with_reducible first | exact HB.out | apply below_alloc | apply pw_below_drewN | apply below_drew1 | refine below_set ?_ GE340.out) | exact HB.out)))); have n1_ := Aside0.mk (blk_below (g := gb340) (o := .cells #[.string a0_0, .int .i64 a0_1, .int .i64 a0_2] 34 (0, 0)) (by (with_reducible repeat (first | refine blk_drewN ?_ _ | refine blk_drew ?_ | refine blk_alloc ?_ _)); exact BK340.out) hb); have n2_ := Aside0.mk (below_step (by repeat (first | (with_reducible first | exact HB.out | apply below_alloc | apply pw_below_drewN | apply below_drew1 | refine below_set ?_ GE340.out) | exact HB.out)) hb); clear BK340; clear HB; have HO344 := n0_; have BK340 := n1_; have HB := n2_; clear n0_ n1_ n2_; (try clear hb); (try clear hb2); (try clear hk); (try clear hi); (try clear ho0)))
    go_ret
    exact ⟨by first | rfl | (simp [errW_none, errW_some] <;> rfl) | (simp [*, errW_none, errW_some] <;> rfl), by repeat (first | (with_reducible first | exact HB.out | apply below_alloc | apply pw_below_drewN | apply below_drew1 | refine below_set ?_ GE340.out) | exact HB.out)⟩
end Go.Proofs.YtjolkgnaeoimeaaGreatDoor.G

-- PRINTED by gprint.py (a program of this session, over the kit's print). Not trusted: Lean checks it.
namespace Go.Proofs.YtjolkgnaeoimeaaGreatDoor.G
open Go.RowKit Go.Proofs.YtjolkgnaeoimeaaGreatDoorW.PrintWords Go.Proofs.YtjolkgnaeoimeaaGreatDoorW.PrintLast Go.Proofs.YtjolkgnaeoimeaaGreatDoorW.PrintMore
attribute [local go_sem] max2_int min2_int max_two min_two max_three min_three max_four min_four   -- for this text's walks alone
set_option linter.unusedVariables false
set_option linter.unusedSimpArgs false
/-! ### grammar_Piece: function 14 -/
def grammar_Piece.f (a0_0 : ByteArray) (a0_1 : Int) (a0_2 : Int) : Option (Int) := (grammar_piece.f a0_0 a0_1 a0_2).bind fun t346 => (some t346)
set_option maxHeartbeats 8000000 in
set_option maxRecDepth 100000 in
theorem grammar_Piece.calls (a0_0 : ByteArray) (a0_1 : Int) (a0_2 : Int) (r : Int) (w : World) (h : grammar_Piece.f a0_0 a0_1 a0_2 = some r) :
    Calls Tryz.prog 14 #[.agg #[.string a0_0, .int .i64 a0_1, .int .i64 a0_2]] w fun e w' => e = .returned (.int .i64 r) ∧ Below w.heap.size w w' := by
  have hu34 := Tryz.underlying34
  have HB := Aside0.mk (Below.refl w.heap.size w)
  have H : ((grammar_piece.f a0_0 a0_1 a0_2).bind fun t346 => (some t346)) = some r := h
  clear h
  replace H := Option.bind_eq_some_iff.mp H
  obtain ⟨t346, A20, H⟩ := H
  replace H : (some t346) = some r := H
  have A2 := Aside0.mk A20
  clear A20
  obtain rfl := Option.some.inj H
  go_enter Tryz.func14, Tryz.ntmps14
  go_wp2_with (first | ((with_reducible refine gate_dst (N := 1) rfl ?_); refine box_event ?hg (N := 1) ?hd (cs := #[.string a0_0, .int .i64 a0_1, .int .i64 a0_2]) (t := 34) ?hr ?_; (case hd => rfl); (case hg => rfl); (case hr => first | (go_simp; done) | (go_simp; rfl)); intro gb345 hg w3 hbox hb; have n0_ := Aside0.mk (below_step (by repeat (first | (with_reducible first | exact HB.out | apply below_alloc | apply pw_below_drewN | apply below_drew1) | exact HB.out)) hb); have n1_ := Aside0.mk (hbox); have n2_ := Aside0.mk ((by rw [hg]; exact (below_size (by repeat (first | (with_reducible first | exact HB.out | apply below_alloc | apply pw_below_drewN | apply below_drew1) | exact HB.out))) : w.heap.size ≤ gb345)); have n3_ := Aside0.mk ((by rw [hg]; exact (below_size (by repeat (first | (with_reducible first | exact HB.out | apply below_alloc | apply pw_below_drewN | apply below_drew1) | exact HB.out))) : w.heap.size ≤ gb345)); clear HB; have HB := n0_; have BK345 := n1_; have GW345 := n2_; have GE345 := n3_; clear n0_ n1_ n2_ n3_; clear hb hbox hg; have hcz4_0 : w3.cell? ⟨gb345, 0, none⟩ = some (.string a0_0) := (blk_cell BK345.out 0).trans rfl; have hcz4_1 : w3.cell? ⟨gb345, 1, none⟩ = some (.int .i64 a0_1) := (blk_cell BK345.out 1).trans rfl; have hcz4_2 : w3.cell? ⟨gb345, 2, none⟩ = some (.int .i64 a0_2) := (blk_cell BK345.out 2).trans rfl; have hfz4_0 := blk_frozen BK345.out 0; have hfz4_1 := blk_frozen BK345.out 1; have hfz4_2 := blk_frozen BK345.out 2) | ((with_reducible refine gate_callee (f := 23) rfl ?_); refine goesL_ (some 4) rfl rfl Tryz.func23 (by kernel_rfl) rfl #[.agg #[.string a0_0, .int .i64 a0_1, .int .i64 a0_2]] rfl (by (try simp only [List.map_toArray, List.map_cons, List.map_nil]); first | done | rfl | (simp only [List.length_drop, List.length_take]; rfl)) ?_; (with_reducible refine (grammar_piece.calls a0_0 a0_1 a0_2 t346 _ A2.out).mono ?_); rintro e w5 ⟨rfl, hb⟩; refine ⟨_, rfl, ?_⟩; have n0_ := Aside0.mk (blk_below (g := gb345) (o := .cells #[.string a0_0, .int .i64 a0_1, .int .i64 a0_2] 34 (0, 0)) (by (with_reducible repeat (first | refine blk_drewN ?_ _ | refine blk_drew ?_ | refine blk_alloc ?_ _)); exact BK345.out) hb); have n1_ := Aside0.mk (below_step (by repeat (first | (with_reducible first | exact HB.out | apply below_alloc | apply pw_below_drewN | apply below_drew1 | refine below_set ?_ GE345.out) | exact HB.out)) hb); clear BK345; clear HB; have BK345 := n0_; have HB := n1_; clear n0_ n1_; (try clear hb); (try clear hb2); (try clear hk); (try clear hi)))
  go_ret
  exact ⟨by first | rfl | (simp [errW_none, errW_some] <;> rfl) | (simp [*, errW_none, errW_some] <;> rfl), by repeat (first | (with_reducible first | exact HB.out | apply below_alloc | apply pw_below_drewN | apply below_drew1 | refine below_set ?_ GE345.out) | exact HB.out)⟩
/-! ### grammar_Flags: function 27 -/
def grammar_Flags.l0 : Nat → Int → ByteArray → Int → Option (ByteArray)
  | 0, _, _, _ => none
  | k + 1, x0, x3, x5 => if x5 < 6 then (if 0 ≤ x5 then (if (Go.bits .and .i64 (shr .i64 x0 x5) 1) = 1 then (if x5 ≤ (wrap64 (x5 + 1)) then (if (wrap64 (x5 + 1)) ≤ 6 then (if x3.size + ((⟨#[115, 97, 102, 100, 114, 106]⟩ : ByteArray).extract (x5 : Int).toNat ((wrap64 (x5 + 1)) : Int).toNat).size ≤ 9223372036854775807 then (grammar_Flags.l0 k x0 (x3 ++ ((⟨#[115, 97, 102, 100, 114, 106]⟩ : ByteArray).extract (x5 : Int).toNat ((wrap64 (x5 + 1)) : Int).toNat)) (wrap64 (x5 + 1))) else (none)) else (none)) else (none)) else (grammar_Flags.l0 k x0 x3 (wrap64 (x5 + 1)))) else (none)) else (if x3.toList = ([] : List UInt8) then (some (⟨#[45]⟩ : ByteArray)) else (some x3))
def grammar_Flags.f (k : Nat) (a0 : Int) : Option (ByteArray) := grammar_Flags.l0 k a0 (⟨#[]⟩ : ByteArray) 0
theorem grammar_Flags.mono_l : ∀ k, (∀ y0 y1 y2, LeO (grammar_Flags.l0 k y0 y1 y2) (grammar_Flags.l0 (k + 1) y0 y1 y2))
  | 0 => fun _ _ _ r h => by simp [grammar_Flags.l0] at h
  | k + 1 => by
    have ih0 := grammar_Flags.mono_l k
    · intro y0 y1 y2
      unfold grammar_Flags.l0
      repeat' first
      | (with_reducible exact ih0 _ _ _)
      | (with_reducible exact LeO.refl _)
      | (with_reducible exact LeO.none _)
      | (with_reducible refine LeO.ite ?_ ?_)
      | (with_reducible refine LeO.bind ?_ (fun _ => ?_))
      | exact ih0 _ _ _
      | exact LeO.none _
      | refine LeO.ite ?_ ?_
      | refine LeO.bind ?_ (fun _ => ?_)
theorem grammar_Flags.mono : ∀ a0 k, LeO (grammar_Flags.f k a0) (grammar_Flags.f (k + 1) a0) := by
  intro a0 k
  have ih0 := grammar_Flags.mono_l k
  unfold grammar_Flags.f
  repeat' first
      | (with_reducible exact ih0 _ _ _)
      | (with_reducible exact LeO.refl _)
      | (with_reducible exact LeO.none _)
      | (with_reducible refine LeO.ite ?_ ?_)
      | (with_reducible refine LeO.bind ?_ (fun _ => ?_))
      | exact ih0 _ _ _
      | exact LeO.none _
      | refine LeO.ite ?_ ?_
      | refine LeO.bind ?_ (fun _ => ?_)
set_option maxHeartbeats 8000000 in
set_option maxRecDepth 100000 in
theorem grammar_Flags.calls (k : Nat) (a0 : Int) (r : ByteArray) (w : World) (h : grammar_Flags.f k a0 = some r) :
    Calls Tryz.prog 27 #[.int .i64 a0] w fun e w' => e = .returned (.string r) ∧ Drawn0 w w' := by
  have H : (grammar_Flags.l0 k a0 (⟨#[]⟩ : ByteArray) 0) = some r := h
  clear h
  have H' := Aside0.mk H
  clear H
  go_enter Tryz.func27, Tryz.ntmps27
  go_wp2
  go_loopg [3, 5] k (fun kq v3 v5 w' => ∃ (x3_1 : ByteArray) (x5_1 : Int), v3 = .string x3_1 ∧ v5 = .int .i64 x5_1 ∧ Aside0 (grammar_Flags.l0 kq a0 x3_1 x5_1 = some r) ∧ Aside0 (kq ≤ k) ∧ Drawn0 w w')
  case atStart => exact ⟨((⟨#[]⟩ : ByteArray)), (0), (by first | rfl | (simp; done) | (simp [*]; done) | (simp; unfold wrap64; omega)), (by first | rfl | (simp; done) | (simp [*]; done) | (simp; unfold wrap64; omega)), H', ⟨Nat.le_refl _⟩, by repeat (first | exact Drawn0.refl _ | apply Drawn0.step)⟩
  case round =>
    clear H'
    obtain ⟨x3_1, x5_1, rfl, rfl, HA, HK1, ⟨m1, rfl⟩⟩ := hrel
    cases gk with
    | zero => exact absurd HA.out (by simp [grammar_Flags.l0])
    | succ k1 =>
      have H := HA.out
      clear HA
      simp only [grammar_Flags.l0] at H
      by_cases c2 : x5_1 < 6
      · rw [if_pos c2] at H
        have c2b0 : decide (x5_1 < 6) = true := decide_eq_true c2
        clear c2
        by_cases c3 : 0 ≤ x5_1
        · rw [if_pos c3] at H
          have c3b0 := eq_true c3
          have c3b1 : decide (0 ≤ x5_1) = true := decide_eq_true c3
          clear c3
          obtain ⟨ji4, hji4⟩ : ∃ j_ : Int, (shr .i64 a0 x5_1) = j_ := ⟨_, rfl⟩
          replace H : (if (Go.bits .and .i64 (ji4) 1) = 1 then (if x5_1 ≤ (wrap64 (x5_1 + 1)) then (if (wrap64 (x5_1 + 1)) ≤ 6 then (if x3_1.size + ((⟨#[115, 97, 102, 100, 114, 106]⟩ : ByteArray).extract (x5_1 : Int).toNat ((wrap64 (x5_1 + 1)) : Int).toNat).size ≤ 9223372036854775807 then (grammar_Flags.l0 k1 a0 (x3_1 ++ ((⟨#[115, 97, 102, 100, 114, 106]⟩ : ByteArray).extract (x5_1 : Int).toNat ((wrap64 (x5_1 + 1)) : Int).toNat)) (wrap64 (x5_1 + 1))) else (none)) else (none)) else (none)) else (grammar_Flags.l0 k1 a0 x3_1 (wrap64 (x5_1 + 1)))) = some r := by first | (rw [hji4] at H; exact H) | (simp only [hji4] at H ⊢; exact H)
          have hji4_ : (a0 / 2 ^ min x5_1.toNat 64) = ji4 := hji4
          have hji4z : x5_1 ≤ 64 → (a0 / 2 ^ x5_1.toNat) = ji4 := shr_small hji4
          by_cases c5 : (Go.bits .and .i64 (ji4) 1) = 1
          · rw [if_pos c5] at H
            have c5b0 : ((Go.bits .and .i64 (ji4) 1) == 1) = true := beq_iff_eq.mpr c5
            have c5b1 : ((Go.bits .and .i64 (ji4) 1) != 1) = false := bne_eq_false_iff_eq.mpr c5
            clear c5
            have c6b0 := eq_true (of_decide_eq_true (by first | (with_reducible assumption) | assumption) : 0 ≤ x5_1)
            by_cases c7 : x5_1 ≤ (wrap64 (x5_1 + 1))
            · rw [if_pos c7] at H
              have c7b0 := eq_true c7
              have c7b1 : decide (x5_1 ≤ (wrap64 (x5_1 + 1))) = true := decide_eq_true c7
              by_cases c8 : (wrap64 (x5_1 + 1)) ≤ 6
              · rw [if_pos c8] at H
                have c8b0 := eq_true c8
                have c8b1 : decide ((wrap64 (x5_1 + 1)) ≤ 6) = true := decide_eq_true c8
                by_cases c9 : x3_1.size + ((⟨#[115, 97, 102, 100, 114, 106]⟩ : ByteArray).extract (x5_1 : Int).toNat ((wrap64 (x5_1 + 1)) : Int).toNat).size ≤ 9223372036854775807
                · rw [if_pos c9] at H
                  have c9b0 := eq_true c9
                  have c9b1 : decide (x3_1.size + ((⟨#[115, 97, 102, 100, 114, 106]⟩ : ByteArray).extract (x5_1 : Int).toNat ((wrap64 (x5_1 + 1)) : Int).toNat).size ≤ 9223372036854775807) = true := decide_eq_true c9
                  try have c9b2 : (9223372036854775807 < x3_1.size + ((⟨#[115, 97, 102, 100, 114, 106]⟩ : ByteArray).extract (x5_1 : Int).toNat ((wrap64 (x5_1 + 1)) : Int).toNat).size) = False := eq_false (Nat.not_lt.2 c9)
                  have H' := Aside0.mk H
                  clear H
                  go_wp2
                  go_roundg k1
                  case measure => have := HK1.out; omega
                  case rel => exact ⟨(x3_1 ++ ((⟨#[115, 97, 102, 100, 114, 106]⟩ : ByteArray).extract (x5_1 : Int).toNat ((wrap64 (x5_1 + 1)) : Int).toNat)), (wrap64 (x5_1 + 1)), (by first | rfl | (simp; done) | (simp [*]; done) | (simp; unfold wrap64; omega)), (by first | rfl | (simp; done) | (simp [*]; done) | (simp; unfold wrap64; omega)), H', ⟨by have := HK1.out; omega⟩, by repeat (first | exact Drawn0.refl _ | apply Drawn0.step)⟩
                · rw [if_neg c9] at H
                  exact absurd H (by simp)
              · rw [if_neg c8] at H
                exact absurd H (by simp)
            · rw [if_neg c7] at H
              exact absurd H (by simp)
          · rw [if_neg c5] at H
            have c5b0 : ((Go.bits .and .i64 (ji4) 1) == 1) = false := beq_eq_false_iff_ne.mpr c5
            have c5b1 : ((Go.bits .and .i64 (ji4) 1) != 1) = true := bne_iff_ne.mpr c5
            have H' := Aside0.mk H
            clear H
            go_wp2
            go_roundg k1
            case measure => have := HK1.out; omega
            case rel => exact ⟨(x3_1), (wrap64 (x5_1 + 1)), (by first | rfl | (simp; done) | (simp [*]; done) | (simp; unfold wrap64; omega)), (by first | rfl | (simp; done) | (simp [*]; done) | (simp; unfold wrap64; omega)), H', ⟨by have := HK1.out; omega⟩, by repeat (first | exact Drawn0.refl _ | apply Drawn0.step)⟩
        · rw [if_neg c3] at H
          exact absurd H (by simp)
      · rw [if_neg c2] at H
        have c2b0 : decide (x5_1 < 6) = false := decide_eq_false c2
        clear c2
        by_cases c10 : x3_1.toList = ([] : List UInt8)
        · rw [if_pos c10] at H
          have c10b0 : (x3_1.toList == ([] : List UInt8)) = true := beq_iff_eq.mpr c10
          have c10b1 : (x3_1.toList != ([] : List UInt8)) = false := bne_eq_false_iff_eq.mpr c10
          clear c10
          obtain rfl := Option.some.inj H
          go_wp2
          go_ret
          exact ⟨by first | rfl | (simp; done) | (simp [*]; done), by repeat (first | exact Drawn0.refl _ | apply Drawn0.step)⟩
        · rw [if_neg c10] at H
          have c10b0 : (x3_1.toList == ([] : List UInt8)) = false := beq_eq_false_iff_ne.mpr c10
          have c10b1 : (x3_1.toList != ([] : List UInt8)) = true := bne_iff_ne.mpr c10
          obtain rfl := Option.some.inj H
          go_wp2
          go_ret
          exact ⟨by first | rfl | (simp; done) | (simp [*]; done), by repeat (first | exact Drawn0.refl _ | apply Drawn0.step)⟩
end Go.Proofs.YtjolkgnaeoimeaaGreatDoor.G

/- fetch.Item, over what section gives. -/
namespace Go.Proofs.YtjolkgnaeoimeaaGreatDoor.G
open Go.RowKit Go.Proofs.YtjolkgnaeoimeaaGreatDoorW.PrintWords
def stored (uid seq flags at_ : Int) (AF : Option Addr) (nF cF : Nat) (AB : Option Addr) (nB cB : Nat) : Value :=
  .agg #[.int .i64 uid, .int .i64 seq, .int .i64 flags, .int .i64 at_, .slice AF nF cF, .slice AB nB cB]
/-- What section gives at a world. -/
def SecAt (e : Value) (s : ByteArray) (sec : List Int) (w : World) : Prop :=
  Calls Tryz.prog 15 #[e, .string s] w fun e' w' => ∃ A c, e' = .returned (.tuple #[.slice A sec.length c, .agg #[.int .i64 0, .int .i64 0]]) ∧ sec.length ≤ c ∧ Hid (Kd.C (Kd.int .u8) w' A sec.length sec ∧ Below w.heap.size w w')
/-- Item's three blocks: what it was given, twice, and its second result. -/
def Boxes (g : Nat) (A P : Array Value) (w0 w : World) : Prop :=
  w.heap[g]? = some (.cells A 27) ∧ w.heap[g + 1]? = some (.cells P 34) ∧ w.heap[g + 1 + 1]? = some (.cells #[.int .i64 0, .int .i64 0] 30) ∧ w0.heap.size = g ∧ Below g w0 w
theorem Boxes.start (A P : Array Value) (w : World) : Boxes w.heap.size A P w (((w.alloc (.cells A 27)).alloc (.cells P 34)).alloc (.cells #[.int .i64 0, .int .i64 0] 30)) := by
  have h1 := heap_alloc_new w (.cells A 27)
  have h2 := heap_alloc_new (w.alloc (.cells A 27)) (.cells P 34)
  have h3 := heap_alloc_new ((w.alloc (.cells A 27)).alloc (.cells P 34)) (.cells #[.int .i64 0, .int .i64 0] 30)
  have e1 : (w.alloc (.cells A 27)).heap.size = w.heap.size + 1 := by simp
  have e2 : ((w.alloc (.cells A 27)).alloc (.cells P 34)).heap.size = w.heap.size + 1 + 1 := by simp
  rw [e1] at h2
  rw [e2] at h3
  exact ⟨blk_alloc (blk_alloc h1 _) _, blk_alloc h2 _, h3, rfl, (((Below.refl _ _).alloc (Nat.le_refl _) _).alloc (by simp) _).alloc (by simp; omega) _⟩
theorem Boxes.below {g : Nat} {A P : Array Value} {w0 w w' : World} (h : Boxes g A P w0 w) (hb : Below w.heap.size w w') : Boxes g A P w0 w' := by
  obtain ⟨h1, h2, h3, h4, h5⟩ := h
  have hk : ∀ (n : Nat) (o : Obj), w.heap[n]? = some o → w'.heap[n]? = some o := by
    intro n o hn
    rw [hb.block n (blk_lt hn)]; exact hn
  exact ⟨hk _ _ h1, hk _ _ h2, hk _ _ h3, h4, h5.trans (hb.mono (by have := h5.size; omega))⟩
theorem Boxes.cells {g : Nat} {uid seq flags at_ : Int} {AF : Option Addr} {nF cF : Nat} {AB : Option Addr} {nB cB : Nat} {s : ByteArray} {f l : Int} {w0 w : World}
    (h : Boxes g #[.int .i64 uid, .int .i64 seq, .int .i64 flags, .int .i64 at_, .slice AF nF cF, .slice AB nB cB] #[.string s, .int .i64 f, .int .i64 l] w0 w) :
    (w.cell? ⟨g, 0, none⟩ = some (.int .i64 uid) ∧ w.cell? ⟨g, 1, none⟩ = some (.int .i64 seq) ∧ w.cell? ⟨g, 2, none⟩ = some (.int .i64 flags) ∧ w.cell? ⟨g, 3, none⟩ = some (.int .i64 at_) ∧ w.cell? ⟨g, 4, none⟩ = some (.slice AF nF cF) ∧ w.cell? ⟨g, 5, none⟩ = some (.slice AB nB cB)) ∧
    (w.cell? ⟨g + 1, 0, none⟩ = some (.string s) ∧ w.cell? ⟨g + 1, 1, none⟩ = some (.int .i64 f) ∧ w.cell? ⟨g + 1, 2, none⟩ = some (.int .i64 l)) ∧
    (w.cell? ⟨g + 1 + 1, 0, none⟩ = some (.int .i64 0) ∧ w.cell? ⟨g + 1 + 1, 1, none⟩ = some (.int .i64 0) ∧ w.frozen? ⟨g + 1 + 1, 0, none⟩ = false ∧ w.frozen? ⟨g + 1 + 1, 1, none⟩ = false) := by
  obtain ⟨h1, h2, h3, _, _⟩ := h
  exact ⟨⟨blk_cell h1 0, blk_cell h1 1, blk_cell h1 2, blk_cell h1 3, blk_cell h1 4, blk_cell h1 5⟩, ⟨blk_cell h2 0, blk_cell h2 1, blk_cell h2 2⟩, ⟨blk_cell h3 0, blk_cell h3 1, blk_frozen h3 0, blk_frozen h3 1⟩⟩
set_option maxRecDepth 100000 in
set_option maxHeartbeats 2000000 in
theorem item_whole (k : Nat) (uid seq flags at_ x : Int) (AF : Option Addr) (cF : Nat) (lF : List S52) (AB : Option Addr) (cB : Nat) (lB : List Int) (s : ByteArray) (sec : List Int) (w : World)
    (hF : Kd.C k52 w AF lF.length lF) (hcF : lF.length ≤ cF) (hB : Kd.C (Kd.int .u8) w AB lB.length lB) (hcB : lB.length ≤ cB)
    (hV : message_Validate.f k lF lB = some (0, x)) (h0 : 0 ≤ flags) (h63 : flags ≤ 63) (hP : grammar_Piece.f s 0 (-1) = some 0) (hsz : sec.length ≤ 140737488355328)
    (hsec : ∀ W, Below w.heap.size w W → SecAt (stored uid seq flags at_ AF lF.length cF AB lB.length cB) s sec W) :
    Calls Tryz.prog 5 #[stored uid seq flags at_ AF lF.length cF AB lB.length cB, .agg #[.string s, .int .i64 0, .int .i64 (-1)]] w
      fun e' w' => ∃ v, e' = .returned (.tuple #[v, .agg #[.int .i64 0, .int .i64 0]]) ∧ Kd.R (Kd.int .u8) 5 w' w.heap.size (fun _ => True) v sec ∧ Below w.heap.size w w' := by
  have d0 : decide (flags < 0) = false := by simp; omega
  have d63 : decide (63 < flags) = false := by simp; omega
  have hu30 := Tryz.underlying30
  have HF := Lib.hid hF
  have HBo := Lib.hid hB
  have HV := Lib.hid hV
  have HP := Lib.hid hP
  have HS := Lib.hid hsec
  clear hF hB hV hP hsec
  have IB := Lib.hid (Boxes.start #[.int .i64 uid, .int .i64 seq, .int .i64 flags, .int .i64 at_, .slice AF lF.length cF, .slice AB lB.length cB] #[.string s, .int .i64 0, .int .i64 (-1)] w)
  unfold stored at *
  go_enter Tryz.func5, Tryz.ntmps5
  go_wp2_with fail
  refine (message_Validate.calls k AF cF lF AB cB lB 0 x _ (Kd.C_below HF.out IB.out.2.2.2.2) hcF (Kd.C_below HBo.out IB.out.2.2.2.2) hcB HV.out).mono ?_
  rintro e w1 ⟨rfl, hb⟩
  have IB1 := Lib.hid (IB.out.below hb)
  obtain ⟨⟨c0, c1, c2, c3, c4, c5⟩, ⟨d0', d1', d2'⟩, f0, f1, z0, z1⟩ := IB1.out.cells
  clear hb
  go_wp2_with fail
  refine (basic_Failed.calls 0 x false _ (by rfl)).mono ?_
  rintro e w2 ⟨rfl, hb⟩
  have IB2 := Lib.hid ((IB1.out.below (below_alloc (Below.refl _ _) _)).below hb)
  clear hb c0 c1 c2 c3 c4 c5 d0' d1' d2' f0 f1 z0 z1
  obtain ⟨⟨c0, c1, c2, c3, c4, c5⟩, ⟨d0', d1', d2'⟩, f0, f1, z0, z1⟩ := IB2.out.cells
  go_wp2_with fail
  refine (grammar_Piece.calls s 0 (-1) 0 _ HP.out).mono ?_
  rintro e w3 ⟨rfl, hb⟩
  have IB3 := Lib.hid (IB2.out.below hb)
  clear hb c0 c1 c2 c3 c4 c5 d0' d1' d2' f0 f1 z0 z1
  obtain ⟨⟨c0, c1, c2, c3, c4, c5⟩, ⟨d0', d1', d2'⟩, f0, f1, z0, z1⟩ := IB3.out.cells
  go_wp2_with fail
  refine (HS.out _ IB3.out.2.2.2.2).mono ?_
  rintro e w4 ⟨A, c, rfl, hc, hh⟩
  have IB4 := Lib.hid ((IB3.out.below hh.out.2).below (below_alloc (Below.refl _ _) (.cells #[.int .i64 0, .int .i64 0] 30)))
  have HC4 := Lib.hid (Kd.C_alloc hh.out.1 (.cells #[.int .i64 0, .int .i64 0] 30))
  have hmin : min (0 : Int) (sec.length : Int) = 0 := by omega
  have hA : Option.map (fun x : Addr => x.add 0) A = A := by cases A <;> rfl
  have g1 : (0 : Int) ≤ (sec.length : Int) := by omega
  have g2 : (sec.length : Int) ≤ (c : Int) := by omega
  clear c0 c1 c2 c3 c4 c5 d0' d1' d2' f0 f1 z0 z1
  obtain ⟨⟨c0, c1, c2, c3, c4, c5⟩, ⟨d0', d1', d2'⟩, f0, f1, z0, z1⟩ := IB4.out.cells
  go_wp2_with fail
  all_goals
    (try simp only [hmin, Int.toNat_zero, Nat.sub_zero, hA])
    refine (slices_Clone_byte_byte.calls A _ sec sec _ HC4.out (by first | omega | exact hc) (by unfold slices_Clone_byte_byte.f; rw [if_pos hsz])).mono ?_
    rintro e w5 ⟨v, rfl, hh5⟩
    have IB5 := Lib.hid (IB4.out.below hh5.2)
    have HR5 := Lib.hid hh5
    clear hh5 c0 c1 c2 c3 c4 c5 d0' d1' d2' f0 f1 z0 z1
    go_wp2_with fail
    refine (basic_None.calls 0 0 _ (by rfl)).mono ?_
    rintro e w6 ⟨rfl, hb⟩
    have IB6 := Lib.hid (IB5.out.below hb)
    have HR6 := Lib.hid (Kd.R_below HR5.out.1 hb)
    clear hb
    obtain ⟨_, _, f0, f1, z0, z1⟩ := IB6.out.cells
    go_wp2_with fail
    have hblk := IB6.out.2.2.1
    refine bodyPost_ret (results_list (rs := [.tmp 4, .cell 5 30]) rfl (by simp) (.tmp (.cell (w.heap.size + 1 + 1) 30 #[.int .i64 0, .int .i64 0] (0, 0) _ rfl (blk_put (blk_put hblk 0 (.int .i64 0) rfl) 1 (.int .i64 0) rfl) Tryz.underlying30 rfl (by kernel_rfl) .nil))) rfl ?_
    refine ⟨_, rfl, ?_, ?_⟩
    · exact Kd.R_mono (Kd.R_far (p := ⟨w.heap.size + 1 + 1, 1, none⟩) (Kd.R_far (p := ⟨w.heap.size + 1 + 1, 0, none⟩) (Kd.R_types (Kd.R_lower HR6.out (by have := IB4.out.2.2.2.2.size; omega)) hblk (by decide)) (fun _ hk => hk.2) (.int .i64 0)) (fun _ hk => hk.2) (.int .i64 0)) (fun _ _ => trivial)
    · exact (IB6.out.2.2.2.2.setCell (by simp; omega) _).setCell (by simp; omega) _
end Go.Proofs.YtjolkgnaeoimeaaGreatDoor.G

/- fetch.Item where it fails: the message, or its flags. -/
namespace Go.Proofs.YtjolkgnaeoimeaaGreatDoor.G
open Go.RowKit Go.Proofs.YtjolkgnaeoimeaaGreatDoorW.PrintWords
set_option maxRecDepth 100000 in
set_option maxHeartbeats 2000000 in
theorem item_bad (k : Nat) (uid seq flags at_ cd x : Int) (AF : Option Addr) (cF : Nat) (lF : List S52) (AB : Option Addr) (cB : Nat) (lB : List Int) (s : ByteArray) (w : World)
    (hF : Kd.C k52 w AF lF.length lF) (hcF : lF.length ≤ cF) (hB : Kd.C (Kd.int .u8) w AB lB.length lB) (hcB : lB.length ≤ cB)
    (hV : message_Validate.f k lF lB = some (cd, x)) (hcd : cd ≠ 0) :
    Calls Tryz.prog 5 #[stored uid seq flags at_ AF lF.length cF AB lB.length cB, .agg #[.string s, .int .i64 0, .int .i64 (-1)]] w
      fun e' w' => e' = .returned (.tuple #[.slice none 0 0, .agg #[.int .i64 cd, .int .i64 (-6)]]) ∧ Below w.heap.size w w' := by
  have hu30 := Tryz.underlying30
  have HF := Lib.hid hF
  have HBo := Lib.hid hB
  have HV := Lib.hid hV
  clear hF hB hV
  have IB := Lib.hid (Boxes.start #[.int .i64 uid, .int .i64 seq, .int .i64 flags, .int .i64 at_, .slice AF lF.length cF, .slice AB lB.length cB] #[.string s, .int .i64 0, .int .i64 (-1)] w)
  unfold stored at *
  go_enter Tryz.func5, Tryz.ntmps5
  go_wp2_with fail
  refine (message_Validate.calls k AF cF lF AB cB lB cd x _ (Kd.C_below HF.out IB.out.2.2.2.2) hcF (Kd.C_below HBo.out IB.out.2.2.2.2) hcB HV.out).mono ?_
  rintro e w1 ⟨rfl, hb⟩
  have IB1 := Lib.hid (IB.out.below hb)
  obtain ⟨⟨c0, c1, c2, c3, c4, c5⟩, ⟨d0', d1', d2'⟩, f0, f1, z0, z1⟩ := IB1.out.cells
  clear hb
  go_wp2_with fail
  refine (basic_Failed.calls cd x true _ (by unfold basic_Failed.f; simp [hcd])).mono ?_
  rintro e w2 ⟨rfl, hb⟩
  have IB2 := Lib.hid ((IB1.out.below (below_alloc (Below.refl _ _) _)).below hb)
  have hx := heap_alloc_new w1 (.cells #[.int .i64 cd, .int .i64 x] 30)
  have hx2 : w2.heap[w1.heap.size]? = some (.cells #[.int .i64 cd, .int .i64 x] 30) := (hb.block _ (blk_lt hx)).trans hx
  have x0 : w2.cell? ⟨w1.heap.size, 0, none⟩ = some (.int .i64 cd) := blk_cell hx2 0
  have x1 : w2.cell? ⟨w1.heap.size, 1, none⟩ = some (.int .i64 x) := blk_cell hx2 1
  clear hx hx2
  clear hb c0 c1 c2 c3 c4 c5 d0' d1' d2' f0 f1 z0 z1
  obtain ⟨⟨c0, c1, c2, c3, c4, c5⟩, ⟨d0', d1', d2'⟩, f0, f1, z0, z1⟩ := IB2.out.cells
  go_wp2_with fail
  refine (basic_Fault.calls cd (-6) cd (-6) _ (by rfl)).mono ?_
  rintro e w6 ⟨rfl, hb⟩
  have IB6 := Lib.hid (IB2.out.below hb)
  clear hb c0 c1 c2 c3 c4 c5 d0' d1' d2' f0 f1 z0 z1
  obtain ⟨_, _, f0, f1, z0, z1⟩ := IB6.out.cells
  go_wp2_with fail
  have hblk := IB6.out.2.2.1
  refine bodyPost_ret (results_list (rs := [.tmp 4, .cell 5 30]) rfl (by simp) (.tmp (.cell (w.heap.size + 1 + 1) 30 #[.int .i64 cd, .int .i64 (-6)] (0, 0) _ rfl (blk_put (blk_put hblk 0 (.int .i64 cd) rfl) 1 (.int .i64 (-6)) rfl) Tryz.underlying30 rfl (by kernel_rfl) .nil))) rfl ?_
  exact ⟨rfl, (IB6.out.2.2.2.2.setCell (by simp; omega) _).setCell (by simp; omega) _⟩
set_option maxRecDepth 100000 in
set_option maxHeartbeats 2000000 in
theorem item_range (k : Nat) (uid seq flags at_ x : Int) (AF : Option Addr) (cF : Nat) (lF : List S52) (AB : Option Addr) (cB : Nat) (lB : List Int) (s : ByteArray) (w : World)
    (hF : Kd.C k52 w AF lF.length lF) (hcF : lF.length ≤ cF) (hB : Kd.C (Kd.int .u8) w AB lB.length lB) (hcB : lB.length ≤ cB)
    (hV : message_Validate.f k lF lB = some (0, x)) (hfl : flags < 0 ∨ 63 < flags) :
    Calls Tryz.prog 5 #[stored uid seq flags at_ AF lF.length cF AB lB.length cB, .agg #[.string s, .int .i64 0, .int .i64 (-1)]] w
      fun e' w' => e' = .returned (.tuple #[.slice none 0 0, .agg #[.int .i64 3, .int .i64 (-7)]]) ∧ Below w.heap.size w w' := by
  have hu30 := Tryz.underlying30
  have HF := Lib.hid hF
  have HBo := Lib.hid hB
  have HV := Lib.hid hV
  clear hF hB hV
  have IB := Lib.hid (Boxes.start #[.int .i64 uid, .int .i64 seq, .int .i64 flags, .int .i64 at_, .slice AF lF.length cF, .slice AB lB.length cB] #[.string s, .int .i64 0, .int .i64 (-1)] w)
  have hcase : decide (flags < 0) = true ∨ (decide (flags < 0) = false ∧ decide (63 < flags) = true) := by
    by_cases h : flags < 0
    · exact .inl (decide_eq_true h)
    · exact .inr ⟨decide_eq_false h, decide_eq_true (by omega)⟩
  clear hfl
  unfold stored at *
  go_enter Tryz.func5, Tryz.ntmps5
  go_wp2_with fail
  refine (message_Validate.calls k AF cF lF AB cB lB 0 x _ (Kd.C_below HF.out IB.out.2.2.2.2) hcF (Kd.C_below HBo.out IB.out.2.2.2.2) hcB HV.out).mono ?_
  rintro e w1 ⟨rfl, hb⟩
  have IB1 := Lib.hid (IB.out.below hb)
  obtain ⟨⟨c0, c1, c2, c3, c4, c5⟩, ⟨d0', d1', d2'⟩, f0, f1, z0, z1⟩ := IB1.out.cells
  clear hb
  go_wp2_with fail
  refine (basic_Failed.calls 0 x false _ (by rfl)).mono ?_
  rintro e w2 ⟨rfl, hb⟩
  have IB2 := Lib.hid ((IB1.out.below (below_alloc (Below.refl _ _) _)).below hb)
  clear hb c0 c1 c2 c3 c4 c5 d0' d1' d2' f0 f1 z0 z1
  obtain ⟨⟨c0, c1, c2, c3, c4, c5⟩, ⟨d0', d1', d2'⟩, f0, f1, z0, z1⟩ := IB2.out.cells
  rcases hcase with q1 | ⟨q1, q2⟩
  all_goals
    go_wp2_with fail
    refine (basic_Fault.calls 3 (-7) 3 (-7) _ (by rfl)).mono ?_
    rintro e w6 ⟨rfl, hb⟩
    have IB6 := Lib.hid (IB2.out.below hb)
    clear hb c0 c1 c2 c3 c4 c5 d0' d1' d2' f0 f1 z0 z1
    obtain ⟨_, _, f0, f1, z0, z1⟩ := IB6.out.cells
    go_wp2_with fail
    have hblk := IB6.out.2.2.1
    refine bodyPost_ret (results_list (rs := [.tmp 4, .cell 5 30]) rfl (by simp) (.tmp (.cell (w.heap.size + 1 + 1) 30 #[.int .i64 3, .int .i64 (-7)] (0, 0) _ rfl (blk_put (blk_put hblk 0 (.int .i64 3) rfl) 1 (.int .i64 (-7)) rfl) Tryz.underlying30 rfl (by kernel_rfl) .nil))) rfl ?_
    exact ⟨rfl, (IB6.out.2.2.2.2.setCell (by simp; omega) _).setCell (by simp; omega) _⟩
end Go.Proofs.YtjolkgnaeoimeaaGreatDoor.G

/- fetch.section at the words all, header, text. -/
namespace Go.Proofs.YtjolkgnaeoimeaaGreatDoor.G
open Go.RowKit Go.Proofs.YtjolkgnaeoimeaaGreatDoorW.PrintWords
def sAll : ByteArray := ⟨#[97, 108, 108]⟩
def sHeader : ByteArray := ⟨#[104, 101, 97, 100, 101, 114]⟩
def sText : ByteArray := ⟨#[116, 101, 120, 116]⟩
def sSize : ByteArray := ⟨#[115, 105, 122, 101]⟩
def sFlags : ByteArray := ⟨#[102, 108, 97, 103, 115]⟩
/-- section's two blocks: what it was given, and its second result. -/
def Box2 (g : Nat) (A : Array Value) (w0 w : World) : Prop :=
  w.heap[g]? = some (.cells A 27) ∧ w.heap[g + 1]? = some (.cells #[.int .i64 0, .int .i64 0] 30) ∧ w0.heap.size = g ∧ Below g w0 w
theorem Box2.start (A : Array Value) (w : World) : Box2 w.heap.size A w ((w.alloc (.cells A 27)).alloc (.cells #[.int .i64 0, .int .i64 0] 30)) := by
  have h1 := heap_alloc_new w (.cells A 27)
  have h2 := heap_alloc_new (w.alloc (.cells A 27)) (.cells #[.int .i64 0, .int .i64 0] 30)
  have e1 : (w.alloc (.cells A 27)).heap.size = w.heap.size + 1 := by simp
  rw [e1] at h2
  exact ⟨blk_alloc h1 _, h2, rfl, ((Below.refl _ _).alloc (Nat.le_refl _) _).alloc (by simp) _⟩
theorem Box2.below {g : Nat} {A : Array Value} {w0 w w' : World} (h : Box2 g A w0 w) (hb : Below w.heap.size w w') : Box2 g A w0 w' := by
  obtain ⟨h1, h3, h4, h5⟩ := h
  have hk : ∀ (n : Nat) (o : Obj), w.heap[n]? = some o → w'.heap[n]? = some o := by
    intro n o hn
    rw [hb.block n (blk_lt hn)]; exact hn
  exact ⟨hk _ _ h1, hk _ _ h3, h4, h5.trans (hb.mono (by have := h5.size; omega))⟩
theorem Box2.cells {g : Nat} {uid seq flags at_ : Int} {AF : Option Addr} {nF cF : Nat} {AB : Option Addr} {nB cB : Nat} {w0 w : World}
    (h : Box2 g #[.int .i64 uid, .int .i64 seq, .int .i64 flags, .int .i64 at_, .slice AF nF cF, .slice AB nB cB] w0 w) :
    (w.cell? ⟨g, 0, none⟩ = some (.int .i64 uid) ∧ w.cell? ⟨g, 1, none⟩ = some (.int .i64 seq) ∧ w.cell? ⟨g, 2, none⟩ = some (.int .i64 flags) ∧ w.cell? ⟨g, 3, none⟩ = some (.int .i64 at_) ∧ w.cell? ⟨g, 4, none⟩ = some (.slice AF nF cF) ∧ w.cell? ⟨g, 5, none⟩ = some (.slice AB nB cB)) ∧
    (w.cell? ⟨g + 1, 0, none⟩ = some (.int .i64 0) ∧ w.cell? ⟨g + 1, 1, none⟩ = some (.int .i64 0) ∧ w.frozen? ⟨g + 1, 0, none⟩ = false ∧ w.frozen? ⟨g + 1, 1, none⟩ = false) := by
  obtain ⟨h1, h3, _, _⟩ := h
  exact ⟨⟨blk_cell h1 0, blk_cell h1 1, blk_cell h1 2, blk_cell h1 3, blk_cell h1 4, blk_cell h1 5⟩, ⟨blk_cell h3 0, blk_cell h3 1, blk_frozen h3 0, blk_frozen h3 1⟩⟩
set_option maxRecDepth 100000 in
set_option maxHeartbeats 2000000 in
theorem sec_all (k : Nat) (uid seq flags at_ x y : Int) (AF : Option Addr) (cF : Nat) (lF : List S52) (AB : Option Addr) (cB : Nat) (lB all : List Int) (w : World)
    (hF : Kd.C k52 w AF lF.length lF) (hcF : lF.length ≤ cF) (hB : Kd.C (Kd.int .u8) w AB lB.length lB) (hcB : lB.length ≤ cB)
    (hW : message_Write.f k lF lB = some (all, x, y)) :
    SecAt (stored uid seq flags at_ AF lF.length cF AB lB.length cB) sAll all w := by
  have hu30 := Tryz.underlying30
  have HF := Lib.hid hF
  have HBo := Lib.hid hB
  have HW := Lib.hid hW
  clear hF hB hW
  have IB := Lib.hid (Box2.start #[.int .i64 uid, .int .i64 seq, .int .i64 flags, .int .i64 at_, .slice AF lF.length cF, .slice AB lB.length cB] w)
  unfold stored SecAt sAll
  go_enter Tryz.func15, Tryz.ntmps15
  go_wp2_with fail
  refine (message_Write.calls k AF cF lF AB cB lB all x y _ (Kd.C_below HF.out IB.out.2.2.2) hcF (Kd.C_below HBo.out IB.out.2.2.2) hcB HW.out).mono ?_
  rintro e w1 ⟨v, rfl, hR, hb⟩
  have IB1 := Lib.hid ((IB.out.below hb).below (below_alloc (Below.refl _ _) (.cells #[.int .i64 x, .int .i64 y] 30)))
  obtain ⟨A, c, rfl⟩ := Kd.R_slice hR
  have HR1 := Lib.hid (Kd.R_alloc hR (.cells #[.int .i64 x, .int .i64 y] 30))
  clear hb hR
  obtain ⟨⟨c0, c1, c2, c3, c4, c5⟩, f0, f1, z0, z1⟩ := IB1.out.cells
  go_wp2_with fail
  refine (basic_None.calls 0 0 _ (by rfl)).mono ?_
  rintro e w6 ⟨rfl, hb⟩
  have IB6 := Lib.hid (IB1.out.below hb)
  have HR6 := Lib.hid (Kd.R_below HR1.out hb)
  clear hb c0 c1 c2 c3 c4 c5 f0 f1 z0 z1
  obtain ⟨_, f0, f1, z0, z1⟩ := IB6.out.cells
  go_wp2_with fail
  have hblk := IB6.out.2.1
  refine bodyPost_ret (results_list (rs := [.tmp 4, .cell 5 30]) rfl (by simp) (.tmp (.cell (w.heap.size + 1) 30 #[.int .i64 0, .int .i64 0] (0, 0) _ rfl (blk_put (blk_put hblk 0 (.int .i64 0) rfl) 1 (.int .i64 0) rfl) Tryz.underlying30 rfl (by kernel_rfl) .nil))) rfl ?_
  have hbel := ((IB6.out.2.2.2.setCell (p := ⟨w.heap.size + 1, 0, none⟩) (by simp) (.int .i64 0)).setCell (p := ⟨w.heap.size + 1, 1, none⟩) (by simp) (.int .i64 0))
  have hfin := Kd.R_far (p := ⟨w.heap.size + 1, 1, none⟩) (Kd.R_far (p := ⟨w.heap.size + 1, 0, none⟩) (Kd.R_types HR6.out hblk (by decide)) (fun _ hk => hk.2) (.int .i64 0)) (fun _ hk => hk.2) (.int .i64 0)
  exact ⟨A, c, rfl, (Kd.R_reads' hfin).2.1, Lib.hid ⟨(Kd.R_reads' hfin).2.2, hbel⟩⟩
set_option maxRecDepth 100000 in
set_option maxHeartbeats 2000000 in
theorem sec_header (k : Nat) (uid seq flags at_ x y : Int) (AF : Option Addr) (cF : Nat) (lF : List S52) (AB : Option Addr) (cB : Nat) (lB all hd : List Int) (w : World)
    (hF : Kd.C k52 w AF lF.length lF) (hcF : lF.length ≤ cF) (hB : Kd.C (Kd.int .u8) w AB lB.length lB) (hcB : lB.length ≤ cB)
    (hW : message_Write.f k lF lB = some (all, x, y)) (hH : header_Write.f k lF = some (hd, 0, 0)) :
    SecAt (stored uid seq flags at_ AF lF.length cF AB lB.length cB) sHeader hd w := by
  have hu30 := Tryz.underlying30
  have HF := Lib.hid hF
  have HBo := Lib.hid hB
  have HW := Lib.hid hW
  have HH := Lib.hid hH
  clear hH hF hB hW
  have IB := Lib.hid (Box2.start #[.int .i64 uid, .int .i64 seq, .int .i64 flags, .int .i64 at_, .slice AF lF.length cF, .slice AB lB.length cB] w)
  unfold stored SecAt sHeader
  go_enter Tryz.func15, Tryz.ntmps15
  go_wp2_with fail
  refine (message_Write.calls k AF cF lF AB cB lB all x y _ (Kd.C_below HF.out IB.out.2.2.2) hcF (Kd.C_below HBo.out IB.out.2.2.2) hcB HW.out).mono ?_
  rintro e w1 ⟨v, rfl, hR, hb⟩
  have IB1 := Lib.hid ((IB.out.below hb).below (below_alloc (Below.refl _ _) (.cells #[.int .i64 x, .int .i64 y] 30)))
  obtain ⟨A, c, rfl⟩ := Kd.R_slice hR
  have HR1 := Lib.hid (Kd.R_alloc hR (.cells #[.int .i64 x, .int .i64 y] 30))
  clear hb hR
  obtain ⟨⟨c0, c1, c2, c3, c4, c5⟩, f0, f1, z0, z1⟩ := IB1.out.cells
  go_wp2_with fail
  clear HR1
  refine (header_Write.calls k AF cF lF hd 0 0 _ (Kd.C_below HF.out IB1.out.2.2.2) hcF HH.out).mono ?_
  rintro e w6 ⟨v, rfl, hR, hb⟩
  obtain ⟨A, c, rfl⟩ := Kd.R_slice hR
  have HR6 := Lib.hid hR
  have IB6 := Lib.hid (IB1.out.below hb)
  clear hR hb c0 c1 c2 c3 c4 c5 f0 f1 z0 z1
  obtain ⟨_, f0, f1, z0, z1⟩ := IB6.out.cells
  go_wp2_with fail
  have hblk := IB6.out.2.1
  refine bodyPost_ret (results_list (rs := [.tmp 4, .cell 5 30]) rfl (by simp) (.tmp (.cell (w.heap.size + 1) 30 #[.int .i64 0, .int .i64 0] (0, 0) _ rfl (blk_put (blk_put hblk 0 (.int .i64 0) rfl) 1 (.int .i64 0) rfl) Tryz.underlying30 rfl (by kernel_rfl) .nil))) rfl ?_
  have hbel := ((IB6.out.2.2.2.setCell (p := ⟨w.heap.size + 1, 0, none⟩) (by simp) (.int .i64 0)).setCell (p := ⟨w.heap.size + 1, 1, none⟩) (by simp) (.int .i64 0))
  have hfin := Kd.R_far (p := ⟨w.heap.size + 1, 1, none⟩) (Kd.R_far (p := ⟨w.heap.size + 1, 0, none⟩) (Kd.R_types HR6.out hblk (by decide)) (fun _ hk => hk.2) (.int .i64 0)) (fun _ hk => hk.2) (.int .i64 0)
  exact ⟨A, c, rfl, (Kd.R_reads' hfin).2.1, Lib.hid ⟨(Kd.R_reads' hfin).2.2, hbel⟩⟩
theorem keepS {g : Nat} {A : Array Value} {v : Value} {w0 w w' : World} (h : w.cell? ⟨g, 5, none⟩ = some v ∧ Box2 g A w0 w) (hb : Below w.heap.size w w') : w'.cell? ⟨g, 5, none⟩ = some v ∧ Box2 g A w0 w' :=
  ⟨pw_cell_below hb h.1, h.2.below hb⟩
set_option maxRecDepth 100000 in
set_option maxHeartbeats 2000000 in
theorem sec_text (k : Nat) (uid seq flags at_ x y : Int) (AF : Option Addr) (cF : Nat) (lF : List S52) (AB : Option Addr) (cB : Nat) (lB all : List Int) (w : World)
    (hF : Kd.C k52 w AF lF.length lF) (hcF : lF.length ≤ cF) (hB : Kd.C (Kd.int .u8) w AB lB.length lB) (hcB : lB.length ≤ cB)
    (hW : message_Write.f k lF lB = some (all, x, y)) :
    SecAt (stored uid seq flags at_ AF lF.length cF AB lB.length cB) sText lB w := by
  have hu30 := Tryz.underlying30
  have HF := Lib.hid hF
  have HBo := Lib.hid hB
  have HW := Lib.hid hW
  clear hF hB hW
  have IB := Lib.hid (Box2.start #[.int .i64 uid, .int .i64 seq, .int .i64 flags, .int .i64 at_, .slice AF lF.length cF, .slice AB lB.length cB] w)
  unfold stored SecAt sText
  go_enter Tryz.func15, Tryz.ntmps15
  go_wp2_with fail
  refine (message_Write.calls k AF cF lF AB cB lB all x y _ (Kd.C_below HF.out IB.out.2.2.2) hcF (Kd.C_below HBo.out IB.out.2.2.2) hcB HW.out).mono ?_
  rintro e w1 ⟨v, rfl, hR, hb⟩
  have IB1 := Lib.hid ((IB.out.below hb).below (below_alloc (Below.refl _ _) (.cells #[.int .i64 x, .int .i64 y] 30)))
  obtain ⟨A, c, rfl⟩ := Kd.R_slice hR
  have HR1 := Lib.hid (Kd.R_alloc hR (.cells #[.int .i64 x, .int .i64 y] 30))
  clear hb hR
  obtain ⟨⟨c0, c1, c2, c3, c4, c5⟩, f0, f1, z0, z1⟩ := IB1.out.cells
  go_wp2_with fail
  clear HR1
  go_region_held3 (fun w' => w'.cell? ⟨w.heap.size, 5, none⟩ = some (.slice AB lB.length cB)) (first | exact pw_cell_below (Below.drew (Below.refl _ _)) c5 | exact pw_cell_below hb6 (by assumption) | go_keep) (first | (go_at_call 17; refine (basic_None.calls 0 0 _ (by rfl)).mono ?_; rintro e w6 ⟨rfl, hb6⟩; have IB6 := Lib.hid ((IB1.out.below (Below.drew (Below.refl _ _))).below hb6); have CS6 := IB6.out.cells; obtain ⟨_, q0, q1, y0, y1⟩ := CS6))
  clear q0 q1 y0 y1
  go_wp2_with fail
  have hblk := IB6.out.2.1
  refine bodyPost_ret (results_list (rs := [.tmp 4, .cell 5 30]) rfl (by simp) (.tmp (.cell (w.heap.size + 1) 30 #[.int .i64 0, .int .i64 0] (0, 0) _ rfl (blk_put (blk_put hblk 0 (.int .i64 0) rfl) 1 (.int .i64 0) rfl) Tryz.underlying30 rfl (by kernel_rfl) .nil))) rfl ?_
  have hbel := ((IB6.out.2.2.2.setCell (p := ⟨w.heap.size + 1, 0, none⟩) (by simp) (.int .i64 0)).setCell (p := ⟨w.heap.size + 1, 1, none⟩) (by simp) (.int .i64 0))
  exact ⟨AB, cB, rfl, hcB, Lib.hid ⟨Kd.C_below HBo.out hbel, hbel⟩⟩
end Go.Proofs.YtjolkgnaeoimeaaGreatDoor.G

/- fetch.section at the words size and flags. -/
namespace Go.Proofs.YtjolkgnaeoimeaaGreatDoor.G
open Go.RowKit Go.Proofs.YtjolkgnaeoimeaaGreatDoorW.PrintWords
def numsOf (l : List UInt8) : List Int := l.map fun b => (b.toNat : Int)
theorem below_grow (w : World) (os : Array Obj) : Below w.heap.size w (Sort.grow w os) :=
  ⟨rfl, rfl, rfl, by simp [Sort.grow], fun k hk => by simp only [Sort.grow]; exact Array.getElem?_append_left hk⟩
theorem numsOf_length (l : List UInt8) : (numsOf l).length = l.length := List.length_map ..
theorem bytesWorld_reads (w w' : World) (l : List UInt8) (hk : ∀ i, w'.cell? ⟨w.heap.size, i, none⟩ = (Lib.bytesWorld w 5 ⟨l.toArray⟩).cell? ⟨w.heap.size, i, none⟩) (hs : l.length ≤ 9223372036854775807) :
    Kd.C (Kd.int .u8) w' (some ⟨w.heap.size, 0, none⟩) (numsOf l).length (numsOf l) := by
  rw [numsOf_length]
  refine Kd.C_of_reads (enc := Value.int .u8) (d := (0 : Int)) (h1 := fun _ => rfl) ⟨numsOf_length l, hs, fun _ => ⟨_, rfl, fun j hj => ?_⟩⟩
  rw [add_plain, hk, cell_of_row _ w.heap.size j _ _ _ (Lib.bytesWorld_at_new w 5 ⟨l.toArray⟩)]
  unfold Lib.bytesCells
  rw [Array.getElem?_append_left (by simpa using hj), Array.getElem?_map]
  have e : l.toArray[j]? = some (l[j]'hj) := by simp [hj]
  show Option.map _ (l.toArray[j]?) = _
  rw [e, List.getD_eq_getElem?_getD]
  unfold numsOf
  rw [List.getElem?_map, List.getElem?_eq_getElem hj]
  rfl
set_option maxRecDepth 100000 in
set_option maxHeartbeats 2000000 in
theorem sec_size (k : Nat) (uid seq flags at_ x y : Int) (AF : Option Addr) (cF : Nat) (lF : List S52) (AB : Option Addr) (cB : Nat) (lB all : List Int) (w : World)
    (hF : Kd.C k52 w AF lF.length lF) (hcF : lF.length ≤ cF) (hB : Kd.C (Kd.int .u8) w AB lB.length lB) (hcB : lB.length ≤ cB)
    (hW : message_Write.f k lF lB = some (all, x, y)) (htab : ∀ W, Below w.heap.size w W → Lib.TabIs Tryz.prog W "internal/strconv.uint64pow10" .u64 Lib.pow10Tab) (hil : (Lib.itoa all.length).length ≤ 9223372036854775807) :
    SecAt (stored uid seq flags at_ AF lF.length cF AB lB.length cB) sSize (numsOf (Lib.itoa all.length)) w := by
  have hu30 := Tryz.underlying30
  have HF := Lib.hid hF
  have HBo := Lib.hid hB
  have HW := Lib.hid hW
  have HT := Lib.hid htab
  clear hF hB hW htab
  have IB := Lib.hid (Box2.start #[.int .i64 uid, .int .i64 seq, .int .i64 flags, .int .i64 at_, .slice AF lF.length cF, .slice AB lB.length cB] w)
  unfold stored SecAt sSize
  go_enter Tryz.func15, Tryz.ntmps15
  go_wp2_with fail
  refine (message_Write.calls k AF cF lF AB cB lB all x y _ (Kd.C_below HF.out IB.out.2.2.2) hcF (Kd.C_below HBo.out IB.out.2.2.2) hcB HW.out).mono ?_
  rintro e w1 ⟨v, rfl, hR, hb⟩
  have IB1 := Lib.hid ((IB.out.below hb).below (below_alloc (Below.refl _ _) (.cells #[.int .i64 x, .int .i64 y] 30)))
  obtain ⟨A, c, rfl⟩ := Kd.R_slice hR
  have HR1 := Lib.hid (Kd.R_alloc hR (.cells #[.int .i64 x, .int .i64 y] 30))
  clear hb hR
  obtain ⟨⟨c0, c1, c2, c3, c4, c5⟩, f0, f1, z0, z1⟩ := IB1.out.cells
  go_wp2_with fail
  have hmx := Kd.C_max (Kd.R_reads' HR1.out).2.2
  clear HR1
  refine (Tryz.strconv_Itoa all.length (by omega) (by omega) _ (HT.out _ IB1.out.2.2.2)).mono ?_
  rintro e w2 ⟨rfl, n, os, hw2⟩
  have hb2 : Below (w1.alloc (.cells #[.int .i64 x, .int .i64 y] 30)).heap.size (w1.alloc (.cells #[.int .i64 x, .int .i64 y] 30)) w2 := by
    rw [hw2]; exact (pw_below_drewN (Below.refl _ _) n).trans ((below_grow _ os).mono (by simp))
  have IB2 := Lib.hid (IB1.out.below hb2)
  clear hb2 hw2
  have hcv := Lib.run_convert_string_bytes (P := Tryz.prog) w2 9 23 5 ⟨(Lib.itoa all.length).toArray⟩ Tryz.underlying9 Tryz.underlying23 Tryz.underlying5
  go_wp2_with fail
  have hbw : Below w2.heap.size w2 (Lib.bytesWorld w2 5 ⟨(Lib.itoa all.length).toArray⟩) := Lib.bytesWorld_below w2 5 _
  refine (basic_None.calls 0 0 _ (by rfl)).mono ?_
  rintro e w6 ⟨rfl, hb⟩
  have IB6 := Lib.hid ((IB2.out.below hbw).below hb)
  have HK := Lib.hid (show w6.heap[w2.heap.size]? = _ from (hb.block w2.heap.size (by rw [Lib.bytesWorld_size]; omega)))
  clear hb hbw hcv c0 c1 c2 c3 c4 c5 f0 f1 z0 z1
  obtain ⟨_, f0, f1, z0, z1⟩ := IB6.out.cells
  go_wp2_with fail
  have hblk := IB6.out.2.1
  refine bodyPost_ret (results_list (rs := [.tmp 4, .cell 5 30]) rfl (by simp) (.tmp (.cell (w.heap.size + 1) 30 #[.int .i64 0, .int .i64 0] (0, 0) _ rfl (blk_put (blk_put hblk 0 (.int .i64 0) rfl) 1 (.int .i64 0) rfl) Tryz.underlying30 rfl (by kernel_rfl) .nil))) rfl ?_
  have hbel := ((IB6.out.2.2.2.setCell (p := ⟨w.heap.size + 1, 0, none⟩) (by simp) (.int .i64 0)).setCell (p := ⟨w.heap.size + 1, 1, none⟩) (by simp) (.int .i64 0))
  have hne : w.heap.size + 1 ≠ w2.heap.size := by have := blk_lt IB2.out.2.1; omega
  refine ⟨some ⟨w2.heap.size, 0, none⟩, _, by rw [numsOf_length]; rfl, ?_, Lib.hid ⟨bytesWorld_reads w2 _ _ (fun i => ?_) ?_, hbel⟩⟩
  · rw [numsOf_length]; exact grownCap_ge _ _ _ _
  · rw [World.cell?_setCell_other _ _ _ _ (by simp), World.cell?_setCell_other _ _ _ _ (by simp)]
    simp only [World.cell?, HK.out]
  · exact hil
end Go.Proofs.YtjolkgnaeoimeaaGreatDoor.G

/- What the printed functions compute: header.Validate, message.write, header.Write. -/
namespace Go.Proofs.YtjolkgnaeoimeaaGreatDoor.G
open Go.RowKit Go.Proofs.YtjolkgnaeoimeaaGreatDoorW.PrintWords Go.Proofs.YtjolkgnaeoimeaaGreatDoorW.PrintMore
def toF (fs : Fw.Flds) : List S52 := fs.map fun f => ⟨ofL f.1, ofL f.2⟩
theorem toF_length (fs : Fw.Flds) : (toF fs).length = fs.length := List.length_map ..
theorem toF_at (fs : Fw.Flds) (i : Nat) (h : i < fs.length) : rd_T52 (toF fs) (i : Int) = ⟨ofL (fs[i]'h).1, ofL (fs[i]'h).2⟩ := by
  unfold rd_T52 toF
  rw [List.getD_eq_getElem?_getD, show ((i : Int)).toNat = i from rfl, List.getElem?_map, List.getElem?_eq_getElem h]
  rfl
def Sm (fs : Fw.Flds) : Prop := fs.length < big ∧ ∀ f ∈ fs, f.1.length + f.2.length + 3 < big
theorem hv_l0 (fs : Fw.Flds) (hs : Sm fs) : ∀ (n i : Nat), fs.length - i = n → i ≤ fs.length → Ev (fun k => header_Validate.l0 k (toF fs) (fs.length : Int) (i : Int)) (Fw.hdrFrom (fs.drop i) i) := by
  have hL := hs.1
  unfold big at hL
  intro n
  induction n with
  | zero =>
    intro i hn hi
    have : i = fs.length := by omega
    subst this
    refine Ev.step (Ev.const _) (fun k => ?_)
    rw [header_Validate.l0, if_neg (by omega)]
    simp [Fw.hdrFrom, basic_None.f]
  | succ n ih =>
    intro i hn hi
    have hlt : i < fs.length := by omega
    have hd : fs.drop i = fs[i] :: fs.drop (i + 1) := List.drop_eq_getElem_cons hlt
    have hf := fold_ev (fs[i]'hlt).1 (fs[i]'hlt).2 (hs.2 _ (List.getElem_mem hlt))
    refine Ev.step (Ev.bind hf (g := fun k bt182 => ((basic_Failed.f bt182.2.1 bt182.2.2).bind fun t188 => (if t188 = true then ((basic_Fault.f bt182.2.1 (i : Int)).bind fun bt189 => (some (bt189.1, bt189.2))) else (header_Validate.l0 k (toF fs) (fs.length : Int) (wrap64 ((i : Int) + 1)))))) ?_) (fun k => ?_)
    · rw [hd]
      by_cases hc : (Fw.foldF (fs[i]'hlt).1 (fs[i]'hlt).2).1 = 0
      · rw [Fw.hdrFrom, if_neg (by simpa using hc)]
        refine Ev.same (ih (i + 1) (by omega) (by omega)) (fun k => ?_)
        simp only [foldR, hc, basic_Failed.f, Option.bind_some]
        rw [if_neg (by decide), wrap64_id _ (by omega) (by omega)]
        rfl
      · rw [Fw.hdrFrom, if_pos hc]
        refine Ev.of (fun k => ?_)
        simp only [foldR, basic_Failed.f, basic_Fault.f, Option.bind_some]
        rw [if_pos (by simpa using hc)]
    · rw [header_Validate.l0, if_pos (by omega), if_pos (by omega), if_pos (by rw [toF_length]; omega), toF_at fs i hlt]
theorem hv_ev (fs : Fw.Flds) (hs : Sm fs) : Ev (fun k => header_Validate.f k (toF fs)) (Fw.hdrF fs) := by
  unfold Fw.hdrF
  by_cases h : 60 < fs.length
  · rw [if_pos h]
    refine Ev.of (fun k => ?_)
    unfold header_Validate.f
    rw [if_pos (by rw [toF_length]; omega)]
    rfl
  · rw [if_neg h]
    refine Ev.same (hv_l0 fs hs _ 0 rfl (by omega)) (fun k => ?_)
    unfold header_Validate.f
    rw [if_neg (by rw [toF_length]; omega), toF_length]
    rfl
/-! ## message.write -/
theorem numsOf_append (a b : Fw.B) : numsOf (a ++ b) = numsOf a ++ numsOf b := List.map_append ..
theorem bytesOf_ofL (l : Fw.B) : bytesOf (ofL l) = numsOf l := rfl
theorem foldR_lines {n v : Fw.B} (h : (Fw.foldF n v).1 = 0) : foldR n v = ((Fw.lines n v).map ofL, (Fw.foldF n v).1, (Fw.foldF n v).2) := by
  unfold foldR; rw [if_pos h]
theorem crlf_cons (a : Fw.B) (t : List Fw.B) : Fw.crlf (a :: t) = (a ++ [13, 10]) ++ Fw.crlf t := rfl
theorem wr_cons (f : Fw.B × Fw.B) (t : Fw.Flds) (b : Fw.B) : Fw.wr (f :: t) b = Fw.crlf (Fw.lines f.1 f.2) ++ Fw.wr t b := by
  unfold Fw.wr Fw.wf
  rw [List.map_cons, List.flatten_cons]
  simp only [List.append_assoc]
def lim : Nat := 140737488355328
theorem mw_l1 (X11 : List S52) (x12 x13 : Int) (L : List Fw.B) (Y : List S52) (b : List Int) (r : List Int) (hL : L.length < big) : ∀ (n i : Nat) (acc : Fw.B), L.length - i = n → i ≤ L.length → acc.length + (Fw.crlf (L.drop i)).length < lim →
    Ev (fun k => message_write.l0 k (numsOf (acc ++ Fw.crlf (L.drop i))) X11 x12 (wrap64 (x13 + 1)) Y b) r →
    Ev (fun k => message_write.l1 k (numsOf acc) X11 x12 x13 (L.map ofL) (L.length : Int) (i : Int) Y b) r := by
  unfold big at hL
  unfold lim
  intro n
  induction n with
  | zero =>
    intro i acc hn hi hb hr
    have : i = L.length := by omega
    subst this
    refine Ev.step hr (fun k => ?_)
    rw [message_write.l1, if_neg (by omega)]
    simp [Fw.crlf]
  | succ n ih =>
    intro i acc hn hi hb hr
    have hlt : i < L.length := by omega
    have hd : L.drop i = L[i] :: L.drop (i + 1) := List.drop_eq_getElem_cons hlt
    have hc : Fw.crlf (L.drop i) = (L[i]'hlt ++ [13, 10]) ++ Fw.crlf (L.drop (i + 1)) := by rw [hd, crlf_cons]
    rw [hc] at hb hr
    have hb2 := hb
    simp only [List.length_append, List.length_cons, List.length_nil] at hb2
    refine Ev.step (ih (i + 1) (acc ++ (L[i]'hlt ++ [13, 10])) (by omega) (by omega) (by simp only [List.length_append, List.length_cons, List.length_nil]; omega) (by rw [List.append_assoc]; exact hr)) (fun k => ?_)
    rw [message_write.l1, if_pos (by omega), if_pos (by omega), if_pos (by rw [List.length_map]; omega), rdOf_map L i hlt, if_pos (by rw [numsOf_length, ofL_size]; omega)]
    simp only [Option.bind_some]
    rw [bytesOf_ofL, if_pos (by rw [← numsOf_append, numsOf_length]; simp; omega), wrap64_id _ (by omega) (by omega), ← numsOf_append, show ([13, 10] : List Int) = numsOf [13, 10] from rfl, ← numsOf_append, List.append_assoc]
    rfl
theorem mw_l0 (fs : Fw.Flds) (hs : Sm fs) (hok : ∀ f ∈ fs, (Fw.foldF f.1 f.2).1 = 0) (hlines : ∀ f ∈ fs, (Fw.lines f.1 f.2).length < big) (Y : List S52) (b : Fw.B) : ∀ (n i : Nat) (acc : Fw.B), fs.length - i = n → i ≤ fs.length → acc.length + (Fw.wr (fs.drop i) b).length < lim →
    Ev (fun k => message_write.l0 k (numsOf acc) (toF fs) (fs.length : Int) (i : Int) Y (numsOf b)) (numsOf (acc ++ Fw.wr (fs.drop i) b)) := by
  have hL := hs.1
  unfold big at hL
  intro n
  induction n with
  | zero =>
    intro i acc hn hi hb
    have : i = fs.length := by omega
    subst this
    unfold lim at hb
    simp only [List.drop_length, Fw.wr, Fw.wf, List.map_nil, List.flatten_nil, List.nil_append, List.length_append, List.length_cons, List.length_nil] at hb
    refine Ev.step (Ev.const _) (fun k => ?_)
    rw [message_write.l0, if_neg (by omega)]
    simp only [Option.bind_some]
    rw [if_pos (by rw [numsOf_length]; simp; omega), if_pos (by rw [List.length_append, numsOf_length, numsOf_length]; simp; omega)]
    rw [show ([13, 10] : List Int) = numsOf [13, 10] from rfl, ← numsOf_append, ← numsOf_append]
    simp [Fw.wr, Fw.wf]
  | succ n ih =>
    intro i acc hn hi hb
    have hlt : i < fs.length := by omega
    have hd : fs.drop i = fs[i] :: fs.drop (i + 1) := List.drop_eq_getElem_cons hlt
    have hmem := List.getElem_mem hlt
    have hf := fold_ev (fs[i]'hlt).1 (fs[i]'hlt).2 (hs.2 _ hmem)
    rw [foldR_lines (hok _ hmem)] at hf
    have hw : Fw.wr (fs.drop i) b = Fw.crlf (Fw.lines (fs[i]'hlt).1 (fs[i]'hlt).2) ++ Fw.wr (fs.drop (i + 1)) b := by rw [hd, wr_cons]
    rw [hw] at hb ⊢
    have hb2 := hb
    rw [List.length_append] at hb2
    have h1 := ih (i + 1) (acc ++ Fw.crlf (Fw.lines (fs[i]'hlt).1 (fs[i]'hlt).2)) (by omega) (by omega) (by rw [List.length_append]; omega)
    rw [List.append_assoc] at h1
    have h2 := mw_l1 (toF fs) (fs.length : Int) (i : Int) (Fw.lines (fs[i]'hlt).1 (fs[i]'hlt).2) Y (numsOf b) _ (hlines _ hmem) _ 0 acc rfl (by omega) (by rw [List.drop_zero]; omega) (by
      rw [List.drop_zero, wrap64_id _ (by omega) (by omega)]
      exact h1)
    refine Ev.step (Ev.bind hf (g := fun k bt203 => message_write.l1 k (numsOf acc) (toF fs) (fs.length : Int) (i : Int) bt203.1 (bt203.1.length : Int) 0 Y (numsOf b)) ?_) (fun k => ?_)
    · refine Ev.same h2 (fun k => ?_)
      rw [List.length_map]
      rfl
    · rw [message_write.l0, if_pos (by omega), if_pos (by omega), if_pos (by rw [toF_length]; omega), toF_at fs i hlt]
theorem mw_ev (fs : Fw.Flds) (hs : Sm fs) (hok : ∀ f ∈ fs, (Fw.foldF f.1 f.2).1 = 0) (hlines : ∀ f ∈ fs, (Fw.lines f.1 f.2).length < big) (b : Fw.B) (hl : (Fw.wr fs b).length < lim) :
    Ev (fun k => message_write.f k (toF fs) (numsOf b)) (numsOf (Fw.wr fs b)) := by
  have h := mw_l0 fs hs hok hlines (toF fs) b _ 0 [] rfl (by omega) (by simpa using hl)
  rw [List.drop_zero, List.nil_append] at h
  refine Ev.same h (fun k => ?_)
  unfold message_write.f
  rw [toF_length]
  rfl
end Go.Proofs.YtjolkgnaeoimeaaGreatDoor.G

/- What the printed functions compute: header.Write, basic.Body, message.lines, message.Validate, message.Write. -/
namespace Go.Proofs.YtjolkgnaeoimeaaGreatDoor.G
open Go.RowKit Go.Proofs.YtjolkgnaeoimeaaGreatDoorW.PrintWords Go.Proofs.YtjolkgnaeoimeaaGreatDoorW.PrintMore
theorem hw_l1 (X11 : List S52) (x12 x13 : Int) (L : List Fw.B) (r : List Int × Int × Int) (hL : L.length < big) : ∀ (n i : Nat) (acc : Fw.B), L.length - i = n → i ≤ L.length → acc.length + (Fw.crlf (L.drop i)).length < lim →
    Ev (fun k => header_Write.l0 k (numsOf (acc ++ Fw.crlf (L.drop i))) X11 x12 (wrap64 (x13 + 1))) r →
    Ev (fun k => header_Write.l1 k (numsOf acc) X11 x12 x13 (L.map ofL) (L.length : Int) (i : Int)) r := by
  unfold big at hL
  unfold lim
  intro n
  induction n with
  | zero =>
    intro i acc hn hi hb hr
    have : i = L.length := by omega
    subst this
    refine Ev.step hr (fun k => ?_)
    rw [header_Write.l1, if_neg (by omega)]
    simp [Fw.crlf]
  | succ n ih =>
    intro i acc hn hi hb hr
    have hlt : i < L.length := by omega
    have hd : L.drop i = L[i] :: L.drop (i + 1) := List.drop_eq_getElem_cons hlt
    have hc : Fw.crlf (L.drop i) = (L[i]'hlt ++ [13, 10]) ++ Fw.crlf (L.drop (i + 1)) := by rw [hd, crlf_cons]
    rw [hc] at hb hr
    have hb2 := hb
    simp only [List.length_append, List.length_cons, List.length_nil] at hb2
    refine Ev.step (ih (i + 1) (acc ++ (L[i]'hlt ++ [13, 10])) (by omega) (by omega) (by simp only [List.length_append, List.length_cons, List.length_nil]; omega) (by rw [List.append_assoc]; exact hr)) (fun k => ?_)
    rw [header_Write.l1, if_pos (by omega), if_pos (by omega), if_pos (by rw [List.length_map]; omega), rdOf_map L i hlt, if_pos (by rw [numsOf_length, ofL_size]; omega)]
    simp only [Option.bind_some]
    rw [bytesOf_ofL, if_pos (by rw [← numsOf_append, numsOf_length]; simp; omega), wrap64_id _ (by omega) (by omega), ← numsOf_append, show ([13, 10] : List Int) = numsOf [13, 10] from rfl, ← numsOf_append, List.append_assoc]
    rfl
theorem hw_l0 (fs : Fw.Flds) (hs : Sm fs) (hok : ∀ f ∈ fs, (Fw.foldF f.1 f.2).1 = 0) (hlines : ∀ f ∈ fs, (Fw.lines f.1 f.2).length < big) : ∀ (n i : Nat) (acc : Fw.B), fs.length - i = n → i ≤ fs.length → acc.length + (Fw.wr (fs.drop i) []).length ≤ 12000 →
    Ev (fun k => header_Write.l0 k (numsOf acc) (toF fs) (fs.length : Int) (i : Int)) (numsOf (acc ++ Fw.wr (fs.drop i) []), 0, 0) := by
  have hL := hs.1
  unfold big at hL
  intro n
  induction n with
  | zero =>
    intro i acc hn hi hb
    have : i = fs.length := by omega
    subst this
    simp only [List.drop_length, Fw.wr, Fw.wf, List.map_nil, List.flatten_nil, List.nil_append, List.length_append, List.length_cons, List.length_nil] at hb
    refine Ev.step (Ev.const _) (fun k => ?_)
    rw [header_Write.l0, if_neg (by omega)]
    simp only [Option.bind_some]
    rw [if_pos (by rw [numsOf_length]; simp; omega), if_neg (by rw [List.length_append, numsOf_length]; simp; omega)]
    rw [show ([13, 10] : List Int) = numsOf [13, 10] from rfl, ← numsOf_append]
    simp [Fw.wr, Fw.wf, basic_None.f]
  | succ n ih =>
    intro i acc hn hi hb
    have hlt : i < fs.length := by omega
    have hd : fs.drop i = fs[i] :: fs.drop (i + 1) := List.drop_eq_getElem_cons hlt
    have hmem := List.getElem_mem hlt
    have hf := fold_ev (fs[i]'hlt).1 (fs[i]'hlt).2 (hs.2 _ hmem)
    rw [foldR_lines (hok _ hmem)] at hf
    have hw : Fw.wr (fs.drop i) [] = Fw.crlf (Fw.lines (fs[i]'hlt).1 (fs[i]'hlt).2) ++ Fw.wr (fs.drop (i + 1)) [] := by rw [hd, wr_cons]
    rw [hw] at hb ⊢
    have hb2 := hb
    rw [List.length_append] at hb2
    have h1 := ih (i + 1) (acc ++ Fw.crlf (Fw.lines (fs[i]'hlt).1 (fs[i]'hlt).2)) (by omega) (by omega) (by rw [List.length_append]; omega)
    rw [List.append_assoc] at h1
    have h2 := hw_l1 (toF fs) (fs.length : Int) (i : Int) (Fw.lines (fs[i]'hlt).1 (fs[i]'hlt).2) _ (hlines _ hmem) _ 0 acc rfl (by omega) (by rw [List.drop_zero]; unfold lim; omega) (by
      rw [List.drop_zero, wrap64_id _ (by omega) (by omega)]
      exact h1)
    refine Ev.step (Ev.bind hf (g := fun k bt314 => header_Write.l1 k (numsOf acc) (toF fs) (fs.length : Int) (i : Int) bt314.1 (bt314.1.length : Int) 0) ?_) (fun k => ?_)
    · refine Ev.same h2 (fun k => ?_)
      rw [List.length_map]
      rfl
    · rw [header_Write.l0, if_pos (by omega), if_pos (by omega), if_pos (by rw [toF_length]; omega), toF_at fs i hlt]
theorem hw_ev (fs : Fw.Flds) (hs : Sm fs) (h0 : (Fw.hdrF fs).1 = 0) (hok : ∀ f ∈ fs, (Fw.foldF f.1 f.2).1 = 0) (hlines : ∀ f ∈ fs, (Fw.lines f.1 f.2).length < big) (hl : (Fw.wr fs []).length ≤ 12000) :
    Ev (fun k => header_Write.f k (toF fs)) (numsOf (Fw.wr fs []), 0, 0) := by
  have h := hw_l0 fs hs hok hlines _ 0 [] rfl (by omega) (by simpa using hl)
  rw [List.drop_zero, List.nil_append] at h
  refine Ev.same (Ev.bind (hv_ev fs hs) (g := fun k bt308 => ((basic_Failed.f bt308.1 bt308.2).bind fun t311 => (if t311 = true then (some (([] : List Int), bt308.1, bt308.2)) else (header_Write.l0 k ([] : List Int) (toF fs) ((toF fs).length : Int) 0)))) ?_) (fun k => rfl)
  refine Ev.same h (fun k => ?_)
  simp only [basic_Failed.f, Option.bind_some, h0]
  rw [if_neg (by decide), toF_length]
  rfl
/-! ## bodies -/
theorem toNat_13 (c : UInt8) : ((c.toNat : Int) = 13) ↔ c = 13 := by
  constructor
  · intro h
    have h' : c.toNat = (13 : UInt8).toNat := by show c.toNat = 13; omega
    exact UInt8.toNat_inj.1 h'
  · intro h; rw [h]; rfl
theorem toNat_10 (c : UInt8) : ((c.toNat : Int) = 10) ↔ c = 10 := by
  constructor
  · intro h
    have h' : c.toNat = (10 : UInt8).toNat := by show c.toNat = 10; omega
    exact UInt8.toNat_inj.1 h'
  · intro h; rw [h]; rfl
theorem toNat_beq10 (c : UInt8) : ((c.toNat : Int) == 10) = (c == 10) := by
  rw [Bool.eq_iff_iff, beq_iff_eq, beq_iff_eq]; exact toNat_10 c
theorem rd_nums (b : Fw.B) (i : Nat) (h : i < b.length) : rd (numsOf b) (i : Int) = ((b[i]'h).toNat : Int) := by
  unfold rd numsOf
  rw [List.getD_eq_getElem?_getD, show ((i : Int)).toNat = i from rfl, List.getElem?_map, List.getElem?_eq_getElem h]
  rfl
theorem bodyC_cons (c : UInt8) (r : Fw.B) (col : Nat) : Fw.bodyC (c :: r) col = if (c == 13 && r.head? == some 10) = true then Fw.bodyC r.tail 0 else if (c == 13 || c == 10) = true then 11 else if 998 < col + 1 then 1 else Fw.bodyC r (col + 1) := by
  cases r with
  | nil => simp [Fw.bodyC]
  | cons d t => simp [Fw.bodyC]
theorem nl_cons (c : UInt8) (r : Fw.B) : Fw.nl (c :: r) = if (c == 13 && r.head? == some 10) = true then 13 :: 10 :: Fw.nl r.tail else if (c == 13 || c == 10) = true then 13 :: 10 :: Fw.nl r else c :: Fw.nl r := by
  cases r with
  | nil => simp [Fw.nl]
  | cons d t => simp [Fw.nl]
theorem body_l0 (b : Fw.B) (hb : b.length < big) : ∀ (n i col : Nat), b.length - i ≤ n → i ≤ b.length → col ≤ i → Ev (fun k => basic_Body.l0 k (numsOf b) (col : Int) (i : Int)) (Fw.bodyC (b.drop i) col) := by
  unfold big at hb
  intro n
  induction n with
  | zero =>
    intro i col hn hi hc
    have : i = b.length := by omega
    subst this
    refine Ev.step (Ev.const _) (fun k => ?_)
    rw [basic_Body.l0, if_neg (by rw [numsOf_length]; omega), List.drop_length]
    rfl
  | succ n ih =>
    intro i col hn hi hc
    by_cases hlt : i < b.length
    · have hd : b.drop i = b[i] :: b.drop (i + 1) := List.drop_eq_getElem_cons hlt
      have hw : wrap64 ((i : Int) + 1) = ((i + 1 : Nat) : Int) := by rw [wrap64_id _ (by omega) (by omega)]; omega
      have hw2 : wrap64 (((i + 1 : Nat) : Int) + 1) = ((i + 2 : Nat) : Int) := by rw [wrap64_id _ (by omega) (by omega)]; omega
      have hcw : wrap64 ((col : Int) + 1) = ((col + 1 : Nat) : Int) := by rw [wrap64_id _ (by omega) (by omega)]; omega
      rw [hd, bodyC_cons]
      -- the second half: no pair
      have hj2 : ∀ x40 : Bool, x40 = (b[i] == 13 || b[i] == 10) → Ev (fun k => basic_Body.j2 k (numsOf b) (col : Int) (i : Int) x40) (if (b[i] == 13 || b[i] == 10) = true then 11 else if 998 < col + 1 then 1 else Fw.bodyC (b.drop (i + 1)) (col + 1)) := by
        intro x40 hx
        rw [← hx]
        cases x40 with
        | true =>
          rw [if_pos rfl]
          refine Ev.step (Ev.const _) (fun k => ?_)
          rw [basic_Body.j2, if_pos rfl]
        | false =>
          rw [if_neg (by simp)]
          by_cases h998 : 998 < col + 1
          · rw [if_pos h998]
            refine Ev.step (Ev.const _) (fun k => ?_)
            rw [basic_Body.j2, if_neg (by simp), hcw, if_pos (by omega)]
          · rw [if_neg h998]
            refine Ev.step (ih (i + 1) (col + 1) (by omega) (by omega) (by omega)) (fun k => ?_)
            rw [basic_Body.j2, if_neg (by simp), hcw, if_neg (by omega), hw]
      have hj1 : (b[i] == 13 && (b.drop (i + 1)).head? == some 10) = false → Ev (fun k => basic_Body.j1 k (numsOf b) (col : Int) (i : Int) (b[i].toNat : Int) false) (if (b[i] == 13 || b[i] == 10) = true then 11 else if 998 < col + 1 then 1 else Fw.bodyC (b.drop (i + 1)) (col + 1)) := by
        intro _
        by_cases h13 : b[i] = 13
        · refine Ev.step (hj2 true (by rw [h13]; rfl)) (fun k => ?_)
          rw [basic_Body.j1, if_neg (by simp), if_pos ((toNat_13 _).2 h13)]
        · refine Ev.step (hj2 (b[i] == 10) (by simp [h13])) (fun k => ?_)
          rw [basic_Body.j1, if_neg (by simp), if_neg (fun h => h13 ((toNat_13 _).1 h)), toNat_beq10]
      by_cases h13 : b[i] = 13
      · by_cases hlt2 : i + 1 < b.length
        · have hd2 : b.drop (i + 1) = b[i + 1] :: b.drop (i + 2) := List.drop_eq_getElem_cons hlt2
          by_cases h10 : b[i + 1] = 10
          · rw [if_pos (by rw [h13, hd2, h10]; rfl), hd2, List.tail_cons]
            refine Ev.step (Ev.step (ih (i + 2) 0 (by omega) (by omega) (by omega)) (f := fun k => basic_Body.j1 k (numsOf b) (col : Int) (i : Int) 13 true) (fun k => ?_)) (fun k => ?_)
            · rw [basic_Body.j1, if_pos rfl, hw, hw2]; rfl
            · rw [basic_Body.l0, if_pos (by rw [numsOf_length]; omega), if_pos (by omega), rd_nums b i hlt, if_pos ((toNat_13 _).2 h13), hw, if_pos (by rw [numsOf_length]; omega), if_pos (by omega), rd_nums b (i + 1) hlt2, toNat_beq10, h10, (toNat_13 _).2 h13]
              rfl
          · have hp : (b[i] == 13 && (b.drop (i + 1)).head? == some 10) = false := by rw [hd2, List.head?_cons]; simp [h10]
            rw [hp, if_neg (by simp)]
            refine Ev.step (hj1 hp) (fun k => ?_)
            rw [basic_Body.l0, if_pos (by rw [numsOf_length]; omega), if_pos (by omega), rd_nums b i hlt, if_pos ((toNat_13 _).2 h13), hw, if_pos (by rw [numsOf_length]; omega), if_pos (by omega), rd_nums b (i + 1) hlt2, toNat_beq10]
            rw [show (b[i + 1] == 10) = false by simpa using h10]
        · have hp : (b[i] == 13 && (b.drop (i + 1)).head? == some 10) = false := by rw [List.drop_eq_nil_of_le (by omega)]; simp
          rw [hp, if_neg (by simp)]
          refine Ev.step (hj1 hp) (fun k => ?_)
          rw [basic_Body.l0, if_pos (by rw [numsOf_length]; omega), if_pos (by omega), rd_nums b i hlt, if_pos ((toNat_13 _).2 h13), hw, if_neg (by rw [numsOf_length]; omega)]
      · have hp : (b[i] == 13 && (b.drop (i + 1)).head? == some 10) = false := by simp [h13]
        rw [hp, if_neg (by simp)]
        refine Ev.step (hj1 hp) (fun k => ?_)
        rw [basic_Body.l0, if_pos (by rw [numsOf_length]; omega), if_pos (by omega), rd_nums b i hlt, if_neg (fun h => h13 ((toNat_13 _).1 h))]
    · have : i = b.length := by omega
      subst this
      refine Ev.step (Ev.const _) (fun k => ?_)
      rw [basic_Body.l0, if_neg (by rw [numsOf_length]; omega), List.drop_length]
      rfl
theorem lines_l0 (b : Fw.B) (hb : b.length < big) : ∀ (n i : Nat) (acc : Fw.B), b.length - i ≤ n → i ≤ b.length → acc.length ≤ 2 * i → Ev (fun k => message_lines.l0 k (numsOf b) (numsOf acc) (i : Int)) (numsOf (acc ++ Fw.nl (b.drop i))) := by
  unfold big at hb
  intro n
  induction n with
  | zero =>
    intro i acc hn hi hc
    have : i = b.length := by omega
    subst this
    refine Ev.step (Ev.const _) (fun k => ?_)
    rw [message_lines.l0, if_neg (by rw [numsOf_length]; omega), List.drop_length, Fw.nl, List.append_nil]
  | succ n ih =>
    intro i acc hn hi hc
    by_cases hlt : i < b.length
    · have hd : b.drop i = b[i] :: b.drop (i + 1) := List.drop_eq_getElem_cons hlt
      have hw : wrap64 ((i : Int) + 1) = ((i + 1 : Nat) : Int) := by rw [wrap64_id _ (by omega) (by omega)]; omega
      have hw2 : wrap64 (((i + 1 : Nat) : Int) + 1) = ((i + 2 : Nat) : Int) := by rw [wrap64_id _ (by omega) (by omega)]; omega
      have hcr : ([13, 10] : List Int) = numsOf [13, 10] := rfl
      rw [hd, nl_cons]
      have hj1 : (b[i] == 13 && (b.drop (i + 1)).head? == some 10) = false → Ev (fun k => message_lines.j1 k (numsOf b) (numsOf acc) (i : Int) false) (numsOf (acc ++ (if (b[i] == 13 || b[i] == 10) = true then 13 :: 10 :: Fw.nl (b.drop (i + 1)) else b[i] :: Fw.nl (b.drop (i + 1))))) := by
        intro _
        by_cases hx : b[i] = 13 ∨ b[i] = 10
        · rw [if_pos (by simpa using hx)]
          have h1 := ih (i + 1) (acc ++ [13, 10]) (by omega) (by omega) (by simp; omega)
          rw [List.append_assoc] at h1
          refine Ev.step h1 (fun k => ?_)
          rw [message_lines.j1, if_neg (by simp), if_pos (by omega), if_pos (by rw [numsOf_length]; omega), rd_nums b i hlt]
          rcases hx with hx | hx
          · rw [if_pos ((toNat_13 _).2 hx)]
            simp only [Option.bind_some]
            rw [if_pos (by rw [numsOf_length]; simp; omega), hw, hcr, ← numsOf_append]
          · rw [if_neg (fun h => by have := (toNat_13 _).1 h; rw [hx] at this; exact absurd this (by decide)), if_pos ((toNat_10 _).2 hx)]
            simp only [Option.bind_some]
            rw [if_pos (by rw [numsOf_length]; simp; omega), hw, hcr, ← numsOf_append]
        · rw [if_neg (by simpa using hx)]
          have h1 := ih (i + 1) (acc ++ [b[i]]) (by omega) (by omega) (by simp; omega)
          rw [List.append_assoc] at h1
          refine Ev.step h1 (fun k => ?_)
          rw [message_lines.j1, if_neg (by simp), if_pos (by omega), if_pos (by rw [numsOf_length]; omega), rd_nums b i hlt, if_neg (fun h => hx (.inl ((toNat_13 _).1 h))), if_neg (fun h => hx (.inr ((toNat_10 _).1 h))), if_pos (by rw [numsOf_length]; omega), hw, show ([(b[i].toNat : Int)] : List Int) = numsOf [b[i]] from rfl, ← numsOf_append]
      by_cases h13 : b[i] = 13
      · by_cases hlt2 : i + 1 < b.length
        · have hd2 : b.drop (i + 1) = b[i + 1] :: b.drop (i + 2) := List.drop_eq_getElem_cons hlt2
          by_cases h10 : b[i + 1] = 10
          · rw [if_pos (by rw [h13, hd2, h10]; rfl), hd2, List.tail_cons]
            have h1 := ih (i + 2) (acc ++ [13, 10]) (by omega) (by omega) (by simp; omega)
            rw [List.append_assoc] at h1
            refine Ev.step (Ev.step h1 (f := fun k => message_lines.j1 k (numsOf b) (numsOf acc) (i : Int) true) (fun k => ?_)) (fun k => ?_)
            · rw [message_lines.j1, if_pos rfl]
              simp only [Option.bind_some]
              rw [if_pos (by rw [numsOf_length]; simp; omega), hw, hw2, hcr, ← numsOf_append]
            · rw [message_lines.l0, if_pos (by rw [numsOf_length]; omega), if_pos (by omega), rd_nums b i hlt, if_pos ((toNat_13 _).2 h13), hw, if_pos (by rw [numsOf_length]; omega), if_pos (by omega), rd_nums b (i + 1) hlt2, toNat_beq10, h10]
              rfl
          · have hp : (b[i] == 13 && (b.drop (i + 1)).head? == some 10) = false := by rw [hd2, List.head?_cons]; simp [h10]
            rw [hp, if_neg (by simp)]
            refine Ev.step (hj1 hp) (fun k => ?_)
            rw [message_lines.l0, if_pos (by rw [numsOf_length]; omega), if_pos (by omega), rd_nums b i hlt, if_pos ((toNat_13 _).2 h13), hw, if_pos (by rw [numsOf_length]; omega), if_pos (by omega), rd_nums b (i + 1) hlt2, toNat_beq10]
            rw [show (b[i + 1] == 10) = false by simpa using h10]
        · have hp : (b[i] == 13 && (b.drop (i + 1)).head? == some 10) = false := by rw [List.drop_eq_nil_of_le (by omega)]; simp
          rw [hp, if_neg (by simp)]
          refine Ev.step (hj1 hp) (fun k => ?_)
          rw [message_lines.l0, if_pos (by rw [numsOf_length]; omega), if_pos (by omega), rd_nums b i hlt, if_pos ((toNat_13 _).2 h13), hw, if_neg (by rw [numsOf_length]; omega)]
      · have hp : (b[i] == 13 && (b.drop (i + 1)).head? == some 10) = false := by simp [h13]
        rw [hp, if_neg (by simp)]
        refine Ev.step (hj1 hp) (fun k => ?_)
        rw [message_lines.l0, if_pos (by rw [numsOf_length]; omega), if_pos (by omega), rd_nums b i hlt, if_neg (fun h => h13 ((toNat_13 _).1 h))]
    · have : i = b.length := by omega
      subst this
      refine Ev.step (Ev.const _) (fun k => ?_)
      rw [message_lines.l0, if_neg (by rw [numsOf_length]; omega), List.drop_length, Fw.nl, List.append_nil]
theorem lines_ev (b : Fw.B) (hb : b.length < big) : Ev (fun k => message_lines.f k (numsOf b)) (numsOf (Fw.nl b)) :=
  Ev.same (lines_l0 b hb _ 0 [] (Nat.le_refl _) (by omega) (by simp)) (fun k => rfl)
theorem mbody_ev (b : Fw.B) (hb : b.length < big) : Ev (fun k => message_body.f k (numsOf b)) (Fw.bodyF b) := by
  have h := body_l0 b hb _ 0 0 (Nat.le_refl _) (by omega) (by omega)
  rw [List.drop_zero] at h
  have h' : Ev (fun k => basic_Body.f k (numsOf b)) (Fw.bodyC b 0) := Ev.same h (fun k => rfl)
  refine Ev.same (Ev.bind h' (g := fun _ t222 => (if t222 = 11 then ((basic_Fault.f 11 (-5)).bind fun bt223 => (some (bt223.1, bt223.2))) else (if t222 = 1 then ((basic_Fault.f 1 (-6)).bind fun bt225 => (some (bt225.1, bt225.2))) else ((basic_None.f).bind fun bt227 => (some (bt227.1, bt227.2)))))) ?_) (fun k => rfl)
  refine Ev.of (fun k => ?_)
  unfold Fw.bodyF
  by_cases h1 : Fw.bodyC b 0 = 11
  · rw [if_pos h1, if_pos h1]; rfl
  · rw [if_neg h1, if_neg h1]
    by_cases h2 : Fw.bodyC b 0 = 1
    · rw [if_pos h2, if_pos h2]; rfl
    · rw [if_neg h2, if_neg h2]; rfl
theorem hdr_ok {fs : Fw.Flds} (h : (Fw.hdrF fs).1 = 0) : fs.length ≤ 60 ∧ ∀ f ∈ fs, (Fw.foldF f.1 f.2).1 = 0 := by
  unfold Fw.hdrF at h
  split at h
  · simp at h
  · exact ⟨by omega, Fw.hdrFrom_ok h⟩
theorem val_ev (fs : Fw.Flds) (b : Fw.B) (hs : Sm fs) (hlines : ∀ f ∈ fs, (Fw.lines f.1 f.2).length < big) (hb : b.length < big) (hl : (Fw.wr fs b).length < lim) :
    Ev (fun k => message_Validate.f k (toF fs) (numsOf b)) (Fw.valF fs b) := by
  refine Ev.same (Ev.bind (hv_ev fs hs) (g := fun k bt231 => ((basic_Failed.f bt231.1 bt231.2).bind fun t234 => (if t234 = true then (some (bt231.1, bt231.2)) else ((message_write.f k (toF fs) (numsOf b)).bind fun t235 => (if (t235.length : Int) > 12000 then ((basic_Fault.f 1 (-4)).bind fun bt238 => (some (bt238.1, bt238.2))) else ((message_body.f k (numsOf b)).bind fun bt240 => (some (bt240.1, bt240.2)))))))) ?_) (fun k => rfl)
  unfold Fw.valF
  by_cases h0 : (Fw.hdrF fs).1 = 0
  · rw [if_neg (by simpa using h0)]
    refine Ev.same (Ev.bind (mw_ev fs hs (hdr_ok h0).2 hlines b hl) (g := fun k t235 => (if (t235.length : Int) > 12000 then ((basic_Fault.f 1 (-4)).bind fun bt238 => (some (bt238.1, bt238.2))) else ((message_body.f k (numsOf b)).bind fun bt240 => (some (bt240.1, bt240.2))))) (r := if 12000 < (Fw.wr fs b).length then (1, -4) else Fw.bodyF b) ?_) (fun k => ?_)
    · by_cases h1 : 12000 < (Fw.wr fs b).length
      · rw [if_pos h1]
        refine Ev.of (fun k => ?_)
        rw [if_pos (by rw [numsOf_length]; omega)]
        rfl
      · rw [if_neg h1]
        refine Ev.same (Ev.bind (mbody_ev b hb) (g := fun _ bt240 => some (bt240.1, bt240.2)) (Ev.const _)) (fun k => ?_)
        rw [if_neg (by rw [numsOf_length]; omega)]
    · simp only [basic_Failed.f, Option.bind_some, h0]
      rw [if_neg (by decide)]
  · rw [if_pos h0]
    refine Ev.of (fun k => ?_)
    simp only [basic_Failed.f, Option.bind_some]
    rw [if_pos (by simpa using h0)]
theorem mWrite_ev (fs : Fw.Flds) (b : Fw.B) (hs : Sm fs) (hlines : ∀ f ∈ fs, (Fw.lines f.1 f.2).length < big) (hb : b.length < big) (hl : (Fw.wr fs b).length < lim) (h0 : (Fw.valF fs b).1 = 0) (hok : ∀ f ∈ fs, (Fw.foldF f.1 f.2).1 = 0) :
    Ev (fun k => message_Write.f k (toF fs) (numsOf b)) (numsOf (Fw.wr fs b), 0, 0) := by
  refine Ev.same (Ev.bind (val_ev fs b hs hlines hb hl) (g := fun k bt298 => ((basic_Failed.f bt298.1 bt298.2).bind fun t301 => (if t301 = true then (some (([] : List Int), bt298.1, bt298.2)) else ((message_write.f k (toF fs) (numsOf b)).bind fun t302 => ((basic_None.f).bind fun bt305 => (some (t302, bt305.1, bt305.2))))))) ?_) (fun k => rfl)
  refine Ev.same (Ev.bind (mw_ev fs hs hok hlines b hl) (g := fun _ t302 => ((basic_None.f).bind fun bt305 => (some (t302, bt305.1, bt305.2)))) (Ev.const _)) (fun k => ?_)
  simp only [basic_Failed.f, Option.bind_some, h0]
  rw [if_neg (by decide)]
end Go.Proofs.YtjolkgnaeoimeaaGreatDoor.G

/- What the printed functions compute: digits, SameMessage, header.begins. -/
namespace Go.Proofs.YtjolkgnaeoimeaaGreatDoor.G
open Go.RowKit Go.Proofs.YtjolkgnaeoimeaaGreatDoorW.PrintWords Go.Proofs.YtjolkgnaeoimeaaGreatDoorW.PrintMore
theorem digit_one (u : Nat) (h : u < 10) : (⟨#[48, 49, 50, 51, 52, 53, 54, 55, 56, 57]⟩ : ByteArray).extract u (u + 1) = ofL [UInt8.ofNat (48 + u)] := by
  match u, h with
  | 0, _ => rfl
  | 1, _ => rfl
  | 2, _ => rfl
  | 3, _ => rfl
  | 4, _ => rfl
  | 5, _ => rfl
  | 6, _ => rfl
  | 7, _ => rfl
  | 8, _ => rfl
  | 9, _ => rfl
theorem digits_small (u : Nat) (h : u < 10) : Ev (fun k => posthouselaw8_digits.f k (u : Int)) (ofL (Lib.decDigits u)) := by
  refine Ev.step (Ev.const _) (fun k => ?_)
  rw [posthouselaw8_digits.f, if_pos (by omega), if_pos (by omega), wrap64_id _ (by omega) (by omega), if_pos (by omega), if_pos (by omega), show ((u : Int)).toNat = u from rfl, show ((u : Int) + 1).toNat = u + 1 from by omega, digit_one u h, Lib.decDigits, dif_pos h]
theorem decDigits_len (u : Nat) : (Lib.decDigits u).length ≤ u + 1 := by
  induction u using Nat.strongRecOn with
  | ind u ih =>
    rw [Lib.decDigits]
    split
    · simp
    · have := ih (u / 10) (by omega)
      simp
      omega
theorem digits_ev : ∀ (n u : Nat), u ≤ n → u < big → Ev (fun k => posthouselaw8_digits.f k (u : Int)) (ofL (Lib.decDigits u)) := by
  intro n
  induction n with
  | zero => intro u hu _; exact digits_small u (by omega)
  | succ n ih =>
    intro u hu hb
    by_cases h : u < 10
    · exact digits_small u h
    · have hbb := hb
      unfold big at hb
      have h1 := ih (u / 10) (by omega) (by unfold big; omega)
      have h2 := digits_small (u % 10) (by omega)
      have hl := decDigits_len (u / 10)
      have e : Lib.decDigits u = Lib.decDigits (u / 10) ++ Lib.decDigits (u % 10) := by
        rw [Lib.decDigits, dif_neg h]
        congr 1
        rw [Lib.decDigits, dif_pos (by omega)]
      refine Ev.step (Ev.bind h1 (g := fun k t294 => ((posthouselaw8_digits.f k (Int.tmod (u : Int) 10)).bind fun t295 => (if t294.size + t295.size ≤ 9223372036854775807 then (some (t294 ++ t295)) else (none)))) ?_) (fun k => ?_)
      · refine Ev.same (Ev.bind h2 (g := fun _ t295 => (if (ofL (Lib.decDigits (u / 10))).size + t295.size ≤ 9223372036854775807 then (some (ofL (Lib.decDigits (u / 10)) ++ t295)) else (none))) ?_) (fun k => ?_)
        · refine Ev.of (fun k => ?_)
          have hl2 := decDigits_len (u % 10)
          rw [if_pos (by rw [ofL_size, ofL_size]; omega), ofL_append, e]
        · rw [show Int.tmod (u : Int) 10 = ((u % 10 : Nat) : Int) from rfl]
      · rw [posthouselaw8_digits.f, if_neg (by omega), show Int.tdiv (u : Int) 10 = ((u / 10 : Nat) : Int) from rfl, wrap64_id _ (by omega) (by omega)]
/-! ## SameMessage -/
theorem same_l0 (fs : Fw.Flds) (hs : fs.length < big) (b b' : List Int) : ∀ (n i : Nat), fs.length - i = n → i ≤ fs.length → Ev (fun k => posthouseref8_SameMessage.l0 k (i : Int) (toF fs) b (toF fs) b') true := by
  unfold big at hs
  intro n
  induction n with
  | zero =>
    intro i hn hi
    refine Ev.step (Ev.const _) (fun k => ?_)
    rw [posthouseref8_SameMessage.l0, if_neg (by rw [toF_length]; omega)]
  | succ n ih =>
    intro i hn hi
    refine Ev.step (ih (i + 1) (by omega) (by omega)) (fun k => ?_)
    rw [posthouseref8_SameMessage.l0, if_pos (by rw [toF_length]; omega), if_pos (by omega), if_pos (by rw [toF_length]; omega), if_neg (by simp), wrap64_id _ (by omega) (by omega)]
    rfl
theorem same_ev (fs : Fw.Flds) (hs : fs.length < big) (b : List Int) : Ev (fun k => posthouseref8_SameMessage.f k (toF fs) b (toF fs) b) true := by
  refine Ev.same (Ev.step (same_l0 fs hs b b _ 0 rfl (by omega)) (f := fun k => posthouseref8_SameMessage.j0 k false (toF fs) b (toF fs) b) (fun k => ?_)) (fun k => ?_)
  · rw [posthouseref8_SameMessage.j0, if_neg (by simp)]
    rfl
  · unfold posthouseref8_SameMessage.f
    rw [if_pos rfl]
    simp [posthouseref7_Same.f]
/-! ## header.begins -/
end Go.Proofs.YtjolkgnaeoimeaaGreatDoor.G

/- What the printed functions compute: header.begins, header.Read. -/
namespace Go.Proofs.YtjolkgnaeoimeaaGreatDoor.G
open Go.RowKit Go.Proofs.YtjolkgnaeoimeaaGreatDoorW.PrintWords Go.Proofs.YtjolkgnaeoimeaaGreatDoorW.PrintMore
theorem foldF_nil (n : Fw.B) : (Fw.foldF n []).1 = if Fw.name n = true then 0 else 10 := by
  unfold Fw.foldF
  by_cases h : Fw.name n = true
  · have hl : n.length ≤ 60 := by
      unfold Fw.name at h
      simp only [Bool.and_eq_true, decide_eq_true_eq] at h
      exact h.1.2
    have e : Fw.lines n [] = [Fw.fullLine n []] := by
      unfold Fw.lines
      rw [Fw.fl, if_neg (by simp [Fw.fullLine]; omega)]
    have e2 : Fw.firstLong (Fw.lines n []) 0 = none := by
      rw [e, Fw.firstLong, if_neg (by simp [Fw.fullLine]; omega)]
      rfl
    rw [e2]
    simp [h, Fw.value]
  · simp [h]
theorem hname_ev (n : Fw.B) (hn : n.length + 3 < big) : Ev (fun k => header_name.f k (ofL n)) (Fw.name n) := by
  refine Ev.same (Ev.bind (fold_ev n [] (by simpa using hn)) (g := fun _ bt132 => ((basic_Failed.f bt132.2.1 bt132.2.2).bind fun t138 => (some (!t138)))) ?_) (fun k => rfl)
  refine Ev.of (fun k => ?_)
  simp only [foldR, basic_Failed.f, Option.bind_some, foldF_nil]
  by_cases h : Fw.name n = true
  · rw [if_pos h, h]; rfl
  · rw [if_neg h, show Fw.name n = false by simpa using h]; rfl
theorem trimR_len (l : Fw.B) : (Fw.trimR l).length ≤ l.length := by
  unfold Fw.trimR
  rw [List.length_reverse]
  have := (List.dropWhile_sublist Fw.blank (l := l.reverse)).length_le
  simpa using this
theorem begins_ev (s : Fw.B) (hs : s.length + 3 < big) : Ev (fun k => header_begins.f k (ofL s)) (ofL (Fw.begins s).1.1, ofL (Fw.begins s).1.2, (Fw.begins s).2) := by
  have hb := hs
  unfold big at hb
  unfold Fw.begins
  cases hk : s.findIdx? (· == 58) with
  | none =>
    refine Ev.of (fun k => ?_)
    unfold header_begins.f strings_Cut.f
    rw [if_pos ⟨by rw [ofL_size]; omega, rfl⟩, ofL_data, hk]
    simp only [Option.bind_some]
    unfold strings_TrimRight.f
    rw [if_pos ⟨by rw [ofL_size]; omega, rfl⟩]
    simp only [Option.bind_some, ofL_data]
    rw [if_neg (by simp)]
    rfl
  | some p =>
    have ht := trimR_len (s.take p)
    rw [List.length_take] at ht
    refine Ev.same (Ev.bind (hname_ev (Fw.trimR (s.take p)) (by omega)) (g := fun _ t144 => some (ofL (Fw.trimR (s.take p)), ofL (s.drop (p + 1)), t144)) (Ev.const _)) (fun k => ?_)
    unfold header_begins.f strings_Cut.f
    rw [if_pos ⟨by rw [ofL_size]; omega, rfl⟩, ofL_data, hk]
    simp only [Option.bind_some]
    unfold strings_TrimRight.f
    rw [ofL_take, ofL_drop, if_pos ⟨by rw [ofL_size, List.length_take]; omega, rfl⟩]
    simp only [Option.bind_some, ofL_data]
    rw [if_pos trivial]
theorem toB_numsOf (r : Fw.B) : toB (numsOf r) = r := by
  unfold toB Lib.bytesOf numsOf
  rw [List.map_map]
  conv => rhs; rw [← List.map_id r]
  exact List.map_congr_left (fun x _ => by simp)
theorem numsOf_drop (r : Fw.B) (i : Nat) : (numsOf r).drop i = numsOf (r.drop i) := (List.map_drop).symm
theorem rdLine_le (r : Fw.B) : (Fw.rdLine r).1.length ≤ (Fw.rdLine r).2 ∧ (Fw.rdLine r).2 ≤ r.length := by
  unfold Fw.rdLine
  cases hk : r.findIdx? (· == 10) with
  | none => simp
  | some k =>
    have h1 := (List.findIdx?_eq_some_iff_getElem.1 hk).1
    have h2 : (Fw.trimCR (r.take k)).length ≤ k := by
      unfold Fw.trimCR
      split
      · simp; omega
      · simp; omega
    simp only
    omega
theorem addLast_toF (out : Fw.Flds) (s : Fw.B) (h : out ≠ []) : (toF out).set (out.length - 1) ⟨(rd_T52 (toF out) ((out.length - 1 : Nat) : Int)).f0, (rd_T52 (toF out) ((out.length - 1 : Nat) : Int)).f1 ++ ofL s⟩ = toF (Fw.addLast out s) := by
  obtain ⟨pre, x, rfl⟩ : ∃ pre x, out = pre ++ [x] := ⟨out.dropLast, out.getLast h, (List.dropLast_concat_getLast h).symm⟩
  have hl : (pre ++ [x]).length - 1 = pre.length := by simp
  rw [hl, toF_at _ _ (by simp)]
  have hx : (pre ++ [x])[pre.length]'(by simp) = x := by simp
  rw [hx]
  unfold Fw.addLast toF
  rw [List.getLast?_append, List.getLast?_singleton]
  simp [ofL_append]
theorem addLast_len (out : Fw.Flds) (s : Fw.B) (h : out ≠ []) : (Fw.addLast out s).length = out.length := by
  have := congrArg List.length (addLast_toF out s h)
  rw [List.length_set, toF_length, toF_length] at this
  exact this.symm
theorem addLast_mem (out : Fw.Flds) (s : Fw.B) (m : Nat) (h : ∀ f ∈ out, f.2.length ≤ m) : ∀ f ∈ Fw.addLast out s, f.2.length ≤ m + s.length := by
  intro f hf
  unfold Fw.addLast at hf
  cases hl : out.getLast? with
  | none => rw [hl] at hf; have := h f hf; omega
  | some x =>
    rw [hl] at hf
    have hx := h x (List.mem_of_getLast? hl)
    rcases List.mem_append.1 hf with hf | hf
    · have := h f (List.dropLast_subset _ hf); omega
    · have : f = (x.1, x.2 ++ s) := by simpa using hf
      subst this
      simp only [List.length_append]
      omega
/-! ## header.Read: the second loop -/
def gT (f : Fw.B × Fw.B) : Fw.B × Fw.B := (f.1, Fw.trim f.2)
def stT (zs : Fw.Flds) (i : Nat) : Fw.Flds := (zs.take i).map gT ++ zs.drop i
theorem stT_len (zs : Fw.Flds) (i : Nat) : (stT zs i).length = zs.length := by
  simp [stT]; omega
theorem stT_at (zs : Fw.Flds) (i : Nat) (h : i < zs.length) : (stT zs i)[i]'(by rw [stT_len]; exact h) = zs[i] := by
  unfold stT
  rw [List.getElem_append_right (by simp; omega)]
  simp [Nat.min_eq_left (Nat.le_of_lt h)]
theorem stT_set (zs : Fw.Flds) (i : Nat) (h : i < zs.length) : (toF (stT zs i)).set i ⟨ofL (zs[i]).1, ofL (Fw.trim (zs[i]).2)⟩ = toF (stT zs (i + 1)) := by
  have e : (stT zs i).set i (gT zs[i]) = stT zs (i + 1) := by
    unfold stT
    rw [List.set_append_right _ _ (by simp; omega)]
    have e1 : i - ((zs.take i).map gT).length = 0 := by simp; omega
    rw [e1, List.drop_eq_getElem_cons h, List.set_cons_zero, List.take_succ_eq_append_getElem h, List.map_append]
    simp
  rw [← e]
  unfold toF
  rw [List.map_set]
  rfl
theorem read_l1 (zs : Fw.Flds) (at_ : Int) (hz : zs.length < big) (hv : ∀ f ∈ zs, f.2.length < big ∧ (f.2.all fun c => c != 0 && c != 13) = true ∧ (Fw.trim f.2).length ≤ 4000) : ∀ (n i : Nat), zs.length - i = n → i ≤ zs.length →
    Ev (fun k => header_Read.l1 k (toF (stT zs i)) at_ 0 (zs.length : Int) (i : Int)) (toF (zs.map gT), at_, 0, 0) := by
  unfold big at hz
  intro n
  induction n with
  | zero =>
    intro i hn hi
    have : i = zs.length := by omega
    subst this
    refine Ev.step (Ev.const _) (fun k => ?_)
    rw [header_Read.l1, if_neg (by omega)]
    simp [basic_None.f, stT]
  | succ n ih =>
    intro i hn hi
    have hlt : i < zs.length := by omega
    obtain ⟨h1, h2, h3⟩ := hv _ (List.getElem_mem hlt)
    unfold big at h1
    refine Ev.step (ih (i + 1) (by omega) (by omega)) (fun k => ?_)
    rw [header_Read.l1, if_pos (by omega), if_pos (by omega), if_pos (by rw [toF_length, stT_len]; omega), toF_at _ i (by rw [stT_len]; exact hlt), stT_at zs i hlt]
    unfold strings_Replacer_Replace.f
    rw [if_pos ⟨by rw [ofL_size]; omega, by rw [ofL_data]; exact h2⟩]
    simp only [Option.bind_some]
    unfold strings_Trim.f
    rw [if_pos ⟨by rw [ofL_size]; omega, rfl⟩]
    simp only [Option.bind_some, ofL_data]
    rw [if_neg (by rw [ofL_size]; omega), show ((i : Int)).toNat = i from rfl, stT_set zs i hlt, wrap64_id _ (by omega) (by omega)]
    rfl
theorem read_j2 (zs : Fw.Flds) (at_ : Int) (hz : zs.length ≤ 60) (hv : ∀ f ∈ zs, f.2.length < big ∧ (f.2.all fun c => c != 0 && c != 13) = true ∧ (Fw.trim f.2).length ≤ 4000) :
    Ev (fun k => header_Read.j2 k (toF zs) at_) (toF (zs.map gT), at_, 0, 0) := by
  refine Ev.step (read_l1 zs at_ (by unfold big; omega) hv _ 0 rfl (by omega)) (fun k => ?_)
  rw [header_Read.j2, if_neg (by rw [toF_length]; omega)]
  unfold strings_NewReplacer.f
  rw [if_pos rfl]
  simp only [Option.bind_some]
  rw [toF_length]
  simp [stT]
/-! ## header.Read: the first loop -/
theorem read_l0 (r0 : Fw.B) (h0 : r0.length ≤ 12000) (R : List S52 × Int × Int × Int) : ∀ (n : Nat) (out : Fw.Flds) (at_ : Nat), r0.length - at_ ≤ n → at_ ≤ r0.length → out.length ≤ at_ → (∀ f ∈ out, f.2.length ≤ at_) →
    Ev (fun k => header_Read.j2 k (toF (Fw.rd (r0.drop at_) out at_).1) ((Fw.rd (r0.drop at_) out at_).2 : Nat)) R →
    Ev (fun k => header_Read.l0 k (numsOf r0) (toF out) (at_ : Int)) R := by
  intro n
  induction n with
  | zero =>
    intro out at_ hn hi ho hv hj
    have e : r0.drop at_ = [] := List.drop_eq_nil_of_le (by omega)
    rw [e, Fw.rd, dif_pos rfl] at hj
    refine Ev.step hj (fun k => ?_)
    rw [header_Read.l0, if_neg (by rw [numsOf_length]; omega)]
  | succ n ih =>
    intro out at_ hn hi ho hv hj
    by_cases hlt : at_ < r0.length
    · have hne : r0.drop at_ ≠ [] := by intro e; have := congrArg List.length e; rw [List.length_drop] at this; simp at this; omega
      have hpos : 0 < (r0.drop at_).length := List.length_pos_iff.2 hne
      obtain ⟨r, hr⟩ : ∃ r, r = r0.drop at_ := ⟨_, rfl⟩
      have hrl : r.length = r0.length - at_ := by rw [hr, List.length_drop]
      rw [← hr] at hj hne hpos
      obtain ⟨hn1, hn2⟩ := rdLine_le r
      have hline : header_line.f ((numsOf r0).drop at_) = some (ofL (Fw.rdLine r).1, ((Fw.rdLine r).2 : Int)) := by
        rw [numsOf_drop, ← hr]
        unfold header_line.f
        rw [if_pos (by rw [numsOf_length]; exact hpos), toB_numsOf]
      have hw : wrap64 ((at_ : Int) + ((Fw.rdLine r).2 : Nat)) = ((at_ + (Fw.rdLine r).2 : Nat) : Int) := by rw [wrap64_id _ (by omega) (by omega)]; omega
      have hdrop : r.drop (Fw.rdLine r).2 = r0.drop (at_ + (Fw.rdLine r).2) := by rw [hr, List.drop_drop]
      rw [Fw.rd, dif_neg hne] at hj
      by_cases hs : (Fw.rdLine r).1 = []
      · rw [if_pos hs] at hj
        refine Ev.step hj (fun k => ?_)
        rw [header_Read.l0, if_pos (by rw [numsOf_length]; omega), if_pos (by omega), if_pos (by rw [numsOf_length]; omega), show ((at_ : Int)).toNat = at_ from rfl, hline]
        simp only [Option.bind_some]
        rw [if_pos (by rw [ofL_toList]; exact hs), hw]
      · rw [if_neg hs] at hj
        have hsl : 0 < (Fw.rdLine r).1.length := List.length_pos_iff.2 hs
        have hhead : (Fw.rdLine r).1.headD 0 = (Fw.rdLine r).1.getD 0 0 := by
          cases (Fw.rdLine r).1 <;> rfl
        have hj1 : ∀ x41 : Bool, (x41 = true ↔ Fw.blank ((Fw.rdLine r).1.headD 0) = true ∧ out ≠ []) → Ev (fun k => header_Read.j1 k (numsOf r0) (toF out) (at_ : Int) (ofL (Fw.rdLine r).1) ((Fw.rdLine r).2 : Nat) x41) R := by
          intro x41 hx
          by_cases hc : Fw.blank ((Fw.rdLine r).1.headD 0) = true ∧ out ≠ []
          · rw [if_pos hc, hdrop] at hj
            obtain rfl : x41 = true := hx.2 hc
            have hol : 0 < out.length := List.length_pos_iff.2 hc.2
            have hlast := hv _ (List.getElem_mem (show out.length - 1 < out.length by omega))
            refine Ev.step (ih (Fw.addLast out (Fw.rdLine r).1) (at_ + (Fw.rdLine r).2) (by omega) (by omega) (by rw [addLast_len _ _ hc.2]; omega) (fun f hf => by have := addLast_mem out (Fw.rdLine r).1 at_ hv f hf; omega) hj) (fun k => ?_)
            rw [header_Read.j1, if_pos rfl, toF_length, wrap64_id _ (by omega) (by omega), if_pos (by omega), if_pos (by omega), show (out.length : Int) - 1 = ((out.length - 1 : Nat) : Int) by omega]
            rw [if_pos (by rw [toF_at out (out.length - 1) (by omega), ofL_size, ofL_size]; omega), hw, show (((out.length - 1 : Nat) : Int)).toNat = out.length - 1 from rfl, addLast_toF out _ hc.2]
          · rw [if_neg hc] at hj
            have hxf : x41 = false := by
              cases x41 with
              | false => rfl
              | true => exact absurd (hx.1 rfl) hc
            subst hxf
            refine Ev.step (Ev.bind (begins_ev (Fw.rdLine r).1 (by unfold big; omega)) (g := fun k bt154 => (if bt154.2.2 = true then (if (toF out).length < 4398046511104 then (header_Read.l0 k (numsOf r0) (toF out ++ [(⟨bt154.1, bt154.2.1⟩ : S52)]) (wrap64 ((at_ : Int) + ((Fw.rdLine r).2 : Nat)))) else (none)) else (header_Read.j2 k (toF out) (at_ : Int)))) ?_) (fun k => ?_)
            · by_cases hb : (Fw.begins (Fw.rdLine r).1).2 = true
              · rw [if_pos hb, hdrop] at hj
                have hbl : (Fw.begins (Fw.rdLine r).1).1.2.length ≤ (Fw.rdLine r).1.length := by
                  unfold Fw.begins
                  split
                  · simp
                  · simp
                have happ : toF out ++ [(⟨ofL (Fw.begins (Fw.rdLine r).1).1.1, ofL (Fw.begins (Fw.rdLine r).1).1.2⟩ : S52)] = toF (out ++ [(Fw.begins (Fw.rdLine r).1).1]) := by simp [toF]
                refine Ev.same (ih (out ++ [(Fw.begins (Fw.rdLine r).1).1]) (at_ + (Fw.rdLine r).2) (by omega) (by omega) (by simp; omega) (fun f hf => ?_) hj) (fun k => ?_)
                · rcases List.mem_append.1 hf with hf | hf
                  · have := hv f hf; omega
                  · obtain rfl : f = (Fw.begins (Fw.rdLine r).1).1 := by simpa using hf
                    omega
                · rw [if_pos hb, if_pos (by rw [toF_length]; omega), hw, happ]
              · rw [if_neg hb] at hj
                refine Ev.same hj (fun k => ?_)
                rw [if_neg hb]
            · rw [header_Read.j1, if_neg (by simp)]
        have hbt := ofL_blank (Fw.rdLine r).1 0 hsl
        rw [← hhead] at hbt
        by_cases hbk : Fw.blank ((Fw.rdLine r).1.headD 0) = true
        · refine Ev.step (hj1 (decide (((toF out).length : Int) > 0)) ?_) (fun k => ?_)
          · rw [decide_eq_true_iff, toF_length]
            exact ⟨fun h => ⟨hbk, by intro e; rw [e] at h; simp at h⟩, fun h => by have := List.length_pos_iff.2 h.2; omega⟩
          · rw [header_Read.l0, if_pos (by rw [numsOf_length]; omega), if_pos (by omega), if_pos (by rw [numsOf_length]; omega), show ((at_ : Int)).toNat = at_ from rfl, hline]
            simp only [Option.bind_some]
            rw [if_neg (by rw [ofL_toList]; exact hs), if_pos (by rw [ofL_size]; omega), show (0 : Int) = ((0 : Nat) : Int) from rfl, hbt]
            simp only [Option.bind_some]
            rw [if_pos hbk]
        · refine Ev.step (hj1 false ?_) (fun k => ?_)
          · exact ⟨fun h => Bool.noConfusion h, fun h => absurd h.1 hbk⟩
          · rw [header_Read.l0, if_pos (by rw [numsOf_length]; omega), if_pos (by omega), if_pos (by rw [numsOf_length]; omega), show ((at_ : Int)).toNat = at_ from rfl, hline]
            simp only [Option.bind_some]
            rw [if_neg (by rw [ofL_toList]; exact hs), if_pos (by rw [ofL_size]; omega), show (0 : Int) = ((0 : Nat) : Int) from rfl, hbt]
            simp only [Option.bind_some]
            rw [if_neg hbk]
    · have e : r0.drop at_ = [] := List.drop_eq_nil_of_le (by omega)
      rw [e, Fw.rd, dif_pos rfl] at hj
      refine Ev.step hj (fun k => ?_)
      rw [header_Read.l0, if_neg (by rw [numsOf_length]; omega)]
end Go.Proofs.YtjolkgnaeoimeaaGreatDoor.G

/- What is written is read: the printed functions together. -/
namespace Go.Proofs.YtjolkgnaeoimeaaGreatDoor.G
open Go.RowKit Go.Proofs.YtjolkgnaeoimeaaGreatDoorW.PrintWords Go.Proofs.YtjolkgnaeoimeaaGreatDoorW.PrintMore
theorem fl_len (x : Fw.B) (frm : Nat) : (Fw.fl x frm).length ≤ x.length + 1 := by
  fun_induction Fw.fl x frm with
  | case1 rest frm h h1 ih =>
    rw [List.length_drop] at ih
    rw [List.length_cons]
    omega
  | case2 rest frm h h1 => simp
  | case3 rest frm h => simp
theorem crlf_len (L : List Fw.B) : (Fw.crlf L).length = L.flatten.length + 2 * L.length := by
  induction L with
  | nil => rfl
  | cons a t ih => rw [crlf_cons, List.length_append, ih]; simp; omega
theorem lines_len (n v : Fw.B) : (Fw.lines n v).length ≤ n.length + v.length + 3 := by
  have h := fl_len (Fw.fullLine n v) (n.length + 2)
  have e : (Fw.fullLine n v).length = n.length + 2 + v.length := by simp [Fw.fullLine]; omega
  unfold Fw.lines
  omega
theorem lines_crlf (n v : Fw.B) : (Fw.crlf (Fw.lines n v)).length ≤ 3 * (n.length + v.length) + 8 := by
  rw [crlf_len]
  have h := lines_len n v
  have e : (Fw.lines n v).flatten = Fw.fullLine n v := Fw.fl_flat _ _
  have e2 : (Fw.fullLine n v).length = n.length + 2 + v.length := by simp [Fw.fullLine]; omega
  rw [e, e2]
  omega
/-- How many bytes the fields have. -/
def szF (fs : Fw.Flds) : Nat := (fs.map fun f => f.1.length + f.2.length).sum
theorem szF_mem {fs : Fw.Flds} {f : Fw.B × Fw.B} (h : f ∈ fs) : f.1.length + f.2.length ≤ szF fs := by
  induction fs with
  | nil => cases h
  | cons g t ih =>
    have e : szF (g :: t) = (g.1.length + g.2.length) + szF t := rfl
    rcases List.mem_cons.1 h with rfl | h
    · omega
    · have := ih h; omega
theorem wf_len (fs : Fw.Flds) : (Fw.wf fs).length ≤ 3 * szF fs + 8 * fs.length := by
  induction fs with
  | nil => simp [Fw.wf]
  | cons f t ih =>
    have e : Fw.wf (f :: t) = Fw.crlf (Fw.lines f.1 f.2) ++ Fw.wf t := rfl
    have e2 : szF (f :: t) = (f.1.length + f.2.length) + szF t := rfl
    have h := lines_crlf f.1 f.2
    rw [e, List.length_append, e2, List.length_cons]
    omega
def Small (fs : Fw.Flds) (b : Fw.B) : Prop := szF fs + fs.length + b.length ≤ 1048576
theorem Small.sm {fs : Fw.Flds} {b : Fw.B} (h : Small fs b) : Sm fs := by
  unfold Small at h
  refine ⟨by unfold big; omega, fun f hf => ?_⟩
  have := szF_mem hf
  unfold big
  omega
theorem Small.lines {fs : Fw.Flds} {b : Fw.B} (h : Small fs b) : ∀ f ∈ fs, (Fw.lines f.1 f.2).length < big := by
  intro f hf
  have := szF_mem hf
  have := lines_len f.1 f.2
  unfold Small at h
  unfold big
  omega
theorem wr_eq (fs : Fw.Flds) (b : Fw.B) : Fw.wr fs b = Fw.wf fs ++ 13 :: 10 :: b := by simp [Fw.wr]
theorem Small.wr {fs : Fw.Flds} {b : Fw.B} (h : Small fs b) : (Fw.wr fs b).length < lim := by
  have := wf_len fs
  unfold Small at h
  rw [wr_eq]
  simp only [List.length_append, List.length_cons]
  unfold lim
  omega
theorem wr_split (fs : Fw.Flds) (b : Fw.B) : Fw.wr fs b = Fw.wr fs [] ++ b := by simp [Fw.wr]
def pre32 (f : Fw.B × Fw.B) : Fw.B × Fw.B := (f.1, 32 :: f.2)
theorem trim_value {v : Fw.B} (h : Fw.value v = true) : Fw.trim (32 :: v) = v := by
  have h1 := Fw.clean_value h
  unfold Fw.clean at h1
  have h2 : (32 :: v).map (fun c => if c == 0 || c == 13 then (32 : UInt8) else c) = 32 :: v := by
    rw [List.map_cons]
    congr 1
    have : ∀ c ∈ v, (if c == 0 || c == 13 then (32 : UInt8) else c) = c := by
      intro c hc
      have := Fw.ends_value h c hc
      simp [Fw.endB] at this
      simp [this]
    exact (List.map_congr_left this).trans (List.map_id' v)
  rw [h2] at h1
  exact h1
theorem hRead_ev (fs : Fw.Flds) (b : Fw.B) (hs : Small fs b) (h0 : (Fw.valF fs b).1 = 0) : Ev (fun k => header_Read.f k (numsOf (Fw.wr fs b))) (toF fs, (((Fw.wf fs).length + 2 : Nat) : Int), 0, 0) := by
  obtain ⟨h60, hok, h12, hbody⟩ := Fw.valF_ok h0
  have hokF : ∀ f ∈ fs, Fw.okF f := fun f hf => ⟨(Fw.foldF_ok (hok f hf)).1, (Fw.foldF_ok (hok f hf)).2.2⟩
  have hrd := Fw.rd_all fs hokF b [] 0
  rw [← wr_eq, List.nil_append] at hrd
  have hmap : (fs.map pre32).map gT = fs := by
    rw [List.map_map]
    conv => rhs; rw [← List.map_id fs]
    refine List.map_congr_left (fun f hf => ?_)
    have := trim_value (hokF f hf).2
    show (f.1, Fw.trim (32 :: f.2)) = f
    rw [this]
  have hj := read_j2 (fs.map pre32) (((Fw.wf fs).length + 2 : Nat) : Int) (by simpa using h60) (fun f hf => by
    obtain ⟨g, hg, rfl⟩ := List.mem_map.1 hf
    have hv := (hokF g hg).2
    have hl := szF_mem hg
    unfold Small at hs
    refine ⟨by simp [pre32]; unfold big; omega, ?_, ?_⟩
    · rw [List.all_eq_true]
      intro c hc
      rcases List.mem_cons.1 hc with rfl | hc
      · decide
      · have := Fw.ends_value hv c hc
        simp [Fw.endB] at this
        simp [this]
    · show (Fw.trim (32 :: g.2)).length ≤ 4000
      rw [trim_value hv]
      exact (Fw.foldF_ok (hok g hg)).2.1)
  rw [hmap] at hj
  have h := read_l0 (Fw.wr fs b) h12 _ _ [] 0 (Nat.le_refl _) (by omega) (by simp) (fun f hf => by cases hf) (by
    rw [List.drop_zero, hrd]
    refine Ev.same hj (fun k => ?_)
    show header_Read.j2 k (toF (fs.map pre32)) ((0 + (Fw.wf fs).length + 2 : Nat) : Int) = _
    rw [Nat.zero_add])
  refine Ev.same h (fun k => ?_)
  unfold header_Read.f
  rw [if_neg (by rw [numsOf_length]; omega)]
  rfl
theorem mRead_ev (fs : Fw.Flds) (b : Fw.B) (hs : Small fs b) (h0 : (Fw.valF fs b).1 = 0) : Ev (fun k => message_Read.f k (numsOf (Fw.wr fs b))) (toF fs, numsOf b, 0, 0) := by
  obtain ⟨h60, hok, h12, hbody⟩ := Fw.valF_ok h0
  have hbl : b.length < big := by unfold Small at hs; unfold big; omega
  have hdrop : (numsOf (Fw.wr fs b)).drop ((Fw.wf fs).length + 2) = numsOf b := by
    rw [numsOf_drop, wr_eq, List.drop_append, List.drop_eq_nil_of_le (by omega)]
    have e : (Fw.wf fs).length + 2 - (Fw.wf fs).length = 2 := by omega
    rw [e]
    rfl
  refine Ev.same (Ev.bind (hRead_ev fs b hs h0) (g := fun k bt270 => ((basic_Failed.f bt270.2.2.1 bt270.2.2.2).bind fun t277 => (if t277 = true then (some (([] : List (S52)), ([] : List Int), bt270.2.2.1, bt270.2.2.2)) else (if 0 ≤ bt270.2.1 then (if bt270.2.1 ≤ ((numsOf (Fw.wr fs b)).length : Int) then ((message_lines.f k ((numsOf (Fw.wr fs b)).drop (bt270.2.1 : Int).toNat)).bind fun t279 => ((message_Validate.f k bt270.1 t279).bind fun bt283 => ((basic_Failed.f bt283.1 bt283.2).bind fun t286 => (if t286 = true then (some (([] : List (S52)), ([] : List Int), bt283.1, bt283.2)) else ((basic_None.f).bind fun bt287 => (some (bt270.1, t279, bt287.1, bt287.2))))))) else (none)) else (none))))) ?_) (fun k => rfl)
  have hln := lines_ev b hbl
  rw [Fw.nl_ok b 0 hbody] at hln
  have hlen : (Fw.wf fs).length + 2 ≤ (Fw.wr fs b).length := by rw [wr_eq]; simp
  refine Ev.same (Ev.bind hln (g := fun k t279 => ((message_Validate.f k (toF fs) t279).bind fun bt283 => ((basic_Failed.f bt283.1 bt283.2).bind fun t286 => (if t286 = true then (some (([] : List (S52)), ([] : List Int), bt283.1, bt283.2)) else ((basic_None.f).bind fun bt287 => (some (toF fs, t279, bt287.1, bt287.2))))))) ?_) (fun k => ?_)
  · refine Ev.same (Ev.bind (val_ev fs b hs.sm hs.lines hbl hs.wr) (g := fun _ bt283 => ((basic_Failed.f bt283.1 bt283.2).bind fun t286 => (if t286 = true then (some (([] : List (S52)), ([] : List Int), bt283.1, bt283.2)) else ((basic_None.f).bind fun bt287 => (some (toF fs, numsOf b, bt287.1, bt287.2)))))) ?_) (fun k => rfl)
    refine Ev.of (fun k => ?_)
    simp only [basic_Failed.f, Option.bind_some, h0]
    rw [if_neg (by decide)]
    rfl
  · simp only [basic_Failed.f, Option.bind_some]
    rw [if_neg (by decide), if_pos (by omega), if_pos (by rw [numsOf_length]; omega), show ((((Fw.wf fs).length + 2 : Nat) : Int)).toNat = (Fw.wf fs).length + 2 from rfl, hdrop]
theorem small_itoa (n : Nat) (h : n ≤ 12000) : (Lib.itoa (n : Int)).length ≤ 9223372036854775807 := by
  have := Lib.itoa_length_le (n : Int) (by omega) (by omega)
  omega
end Go.Proofs.YtjolkgnaeoimeaaGreatDoor.G

/- fetch.section at the word flags. -/
namespace Go.Proofs.YtjolkgnaeoimeaaGreatDoor.G
open Go.RowKit Go.Proofs.YtjolkgnaeoimeaaGreatDoorW.PrintWords
set_option maxRecDepth 100000 in
set_option maxHeartbeats 2000000 in
theorem sec_flags (k : Nat) (uid seq flags at_ x y : Int) (AF : Option Addr) (cF : Nat) (lF : List S52) (AB : Option Addr) (cB : Nat) (lB all : List Int) (r : ByteArray) (w : World)
    (hF : Kd.C k52 w AF lF.length lF) (hcF : lF.length ≤ cF) (hB : Kd.C (Kd.int .u8) w AB lB.length lB) (hcB : lB.length ≤ cB)
    (hW : message_Write.f k lF lB = some (all, x, y)) (hG : grammar_Flags.f k flags = some r) (hil : r.data.toList.length ≤ 9223372036854775807) :
    SecAt (stored uid seq flags at_ AF lF.length cF AB lB.length cB) sFlags (numsOf r.data.toList) w := by
  have hu30 := Tryz.underlying30
  have HF := Lib.hid hF
  have HBo := Lib.hid hB
  have HW := Lib.hid hW
  have HG := Lib.hid hG
  clear hF hB hW hG
  have IB := Lib.hid (Box2.start #[.int .i64 uid, .int .i64 seq, .int .i64 flags, .int .i64 at_, .slice AF lF.length cF, .slice AB lB.length cB] w)
  unfold stored SecAt sFlags
  go_enter Tryz.func15, Tryz.ntmps15
  go_wp2_with fail
  refine (message_Write.calls k AF cF lF AB cB lB all x y _ (Kd.C_below HF.out IB.out.2.2.2) hcF (Kd.C_below HBo.out IB.out.2.2.2) hcB HW.out).mono ?_
  rintro e w1 ⟨v, rfl, hR, hb⟩
  have IB1 := Lib.hid ((IB.out.below hb).below (below_alloc (Below.refl _ _) (.cells #[.int .i64 x, .int .i64 y] 30)))
  obtain ⟨A, c, rfl⟩ := Kd.R_slice hR
  have HR1 := Lib.hid (Kd.R_alloc hR (.cells #[.int .i64 x, .int .i64 y] 30))
  clear hb hR
  obtain ⟨⟨c0, c1, c2, c3, c4, c5⟩, f0, f1, z0, z1⟩ := IB1.out.cells
  go_wp2_with fail
  clear HR1
  refine (grammar_Flags.calls k flags r _ HG.out).mono ?_
  rintro e w2 ⟨rfl, hd⟩
  have IB2 := Lib.hid (IB1.out.below hd.below)
  clear hd
  obtain ⟨l, rfl⟩ : ∃ l : List UInt8, r = ⟨l.toArray⟩ := ⟨r.data.toList, by cases r; rfl⟩
  have hil : l.length ≤ 9223372036854775807 := hil
  have hcv := Lib.run_convert_string_bytes (P := Tryz.prog) w2 9 23 5 ⟨l.toArray⟩ Tryz.underlying9 Tryz.underlying23 Tryz.underlying5
  go_wp2_with fail
  have hbw : Below w2.heap.size w2 (Lib.bytesWorld w2 5 ⟨l.toArray⟩) := Lib.bytesWorld_below w2 5 _
  refine (basic_None.calls 0 0 _ (by rfl)).mono ?_
  rintro e w6 ⟨rfl, hb⟩
  have IB6 := Lib.hid ((IB2.out.below hbw).below hb)
  have HK := Lib.hid (show w6.heap[w2.heap.size]? = _ from (hb.block w2.heap.size (by rw [Lib.bytesWorld_size]; omega)))
  clear hb hbw hcv c0 c1 c2 c3 c4 c5 f0 f1 z0 z1
  obtain ⟨_, f0, f1, z0, z1⟩ := IB6.out.cells
  go_wp2_with fail
  have hblk := IB6.out.2.1
  refine bodyPost_ret (results_list (rs := [.tmp 4, .cell 5 30]) rfl (by simp) (.tmp (.cell (w.heap.size + 1) 30 #[.int .i64 0, .int .i64 0] (0, 0) _ rfl (blk_put (blk_put hblk 0 (.int .i64 0) rfl) 1 (.int .i64 0) rfl) Tryz.underlying30 rfl (by kernel_rfl) .nil))) rfl ?_
  have hbel := ((IB6.out.2.2.2.setCell (p := ⟨w.heap.size + 1, 0, none⟩) (by simp) (.int .i64 0)).setCell (p := ⟨w.heap.size + 1, 1, none⟩) (by simp) (.int .i64 0))
  have hne : w.heap.size + 1 ≠ w2.heap.size := by have := blk_lt IB2.out.2.1; omega
  refine ⟨some ⟨w2.heap.size, 0, none⟩, _, by rw [numsOf_length]; rfl, ?_, Lib.hid ⟨bytesWorld_reads w2 _ _ (fun i => ?_) ?_, hbel⟩⟩
  · rw [numsOf_length]; exact grownCap_ge _ _ _ _
  · rw [World.cell?_setCell_other _ _ _ _ (by simp), World.cell?_setCell_other _ _ _ _ (by simp)]
    simp only [World.cell?, HK.out]
  · exact hil
end Go.Proofs.YtjolkgnaeoimeaaGreatDoor.G

/- fetch.Item for one byte behind the first. -/
namespace Go.Proofs.YtjolkgnaeoimeaaGreatDoor.G
open Go.RowKit Go.Proofs.YtjolkgnaeoimeaaGreatDoorW.PrintWords
set_option maxRecDepth 100000 in
set_option maxHeartbeats 2000000 in
theorem item_one (k : Nat) (uid seq flags at_ x : Int) (AF : Option Addr) (cF : Nat) (lF : List S52) (AB : Option Addr) (cB : Nat) (lB : List Int) (s : ByteArray) (sec : List Int) (w : World)
    (hF : Kd.C k52 w AF lF.length lF) (hcF : lF.length ≤ cF) (hB : Kd.C (Kd.int .u8) w AB lB.length lB) (hcB : lB.length ≤ cB)
    (hV : message_Validate.f k lF lB = some (0, x)) (h0 : 0 ≤ flags) (h63 : flags ≤ 63) (hP : grammar_Piece.f s 1 1 = some 0) (hsz : sec.length ≤ 140737488355328) (h2 : 2 ≤ sec.length)
    (hsec : ∀ W, Below w.heap.size w W → SecAt (stored uid seq flags at_ AF lF.length cF AB lB.length cB) s sec W) :
    Calls Tryz.prog 5 #[stored uid seq flags at_ AF lF.length cF AB lB.length cB, .agg #[.string s, .int .i64 1, .int .i64 1]] w
      fun e' w' => ∃ v, e' = .returned (.tuple #[v, .agg #[.int .i64 0, .int .i64 0]]) ∧ Kd.R (Kd.int .u8) 5 w' w.heap.size (fun _ => True) v ((sec.drop 1).take 1) ∧ Below w.heap.size w w' := by
  have d0 : decide (flags < 0) = false := by simp; omega
  have d63 : decide (63 < flags) = false := by simp; omega
  have hu30 := Tryz.underlying30
  have HF := Lib.hid hF
  have HBo := Lib.hid hB
  have HV := Lib.hid hV
  have HP := Lib.hid hP
  have HS := Lib.hid hsec
  clear hF hB hV hP hsec
  have IB := Lib.hid (Boxes.start #[.int .i64 uid, .int .i64 seq, .int .i64 flags, .int .i64 at_, .slice AF lF.length cF, .slice AB lB.length cB] #[.string s, .int .i64 1, .int .i64 1] w)
  unfold stored at *
  go_enter Tryz.func5, Tryz.ntmps5
  go_wp2_with fail
  refine (message_Validate.calls k AF cF lF AB cB lB 0 x _ (Kd.C_below HF.out IB.out.2.2.2.2) hcF (Kd.C_below HBo.out IB.out.2.2.2.2) hcB HV.out).mono ?_
  rintro e w1 ⟨rfl, hb⟩
  have IB1 := Lib.hid (IB.out.below hb)
  obtain ⟨⟨c0, c1, c2, c3, c4, c5⟩, ⟨d0', d1', d2'⟩, f0, f1, z0, z1⟩ := IB1.out.cells
  clear hb
  go_wp2_with fail
  refine (basic_Failed.calls 0 x false _ (by rfl)).mono ?_
  rintro e w2 ⟨rfl, hb⟩
  have IB2 := Lib.hid ((IB1.out.below (below_alloc (Below.refl _ _) _)).below hb)
  clear hb c0 c1 c2 c3 c4 c5 d0' d1' d2' f0 f1 z0 z1
  obtain ⟨⟨c0, c1, c2, c3, c4, c5⟩, ⟨d0', d1', d2'⟩, f0, f1, z0, z1⟩ := IB2.out.cells
  go_wp2_with fail
  refine (grammar_Piece.calls s 1 1 0 _ HP.out).mono ?_
  rintro e w3 ⟨rfl, hb⟩
  have IB3 := Lib.hid (IB2.out.below hb)
  clear hb c0 c1 c2 c3 c4 c5 d0' d1' d2' f0 f1 z0 z1
  obtain ⟨⟨c0, c1, c2, c3, c4, c5⟩, ⟨d0', d1', d2'⟩, f0, f1, z0, z1⟩ := IB3.out.cells
  go_wp2_with fail
  refine (HS.out _ IB3.out.2.2.2.2).mono ?_
  rintro e w4 ⟨A, c, rfl, hc, hh⟩
  obtain ⟨b, o, rfl, _⟩ := bytesIn_of_C hh.out.1 (by omega)
  have IB4 := Lib.hid ((IB3.out.below hh.out.2).below (below_alloc (Below.refl _ _) (.cells #[.int .i64 0, .int .i64 0] 30)))
  have HC4 := Lib.hid (Kd.C_alloc hh.out.1 (.cells #[.int .i64 0, .int .i64 0] 30))
  have HC5 : Hid (Kd.C (Kd.int .u8) (w4.alloc (.cells #[.int .i64 0, .int .i64 0] 30)) (some ⟨b, o + 1, none⟩) ((sec.drop 1).take 1).length ((sec.drop 1).take 1)) := by
    have h1 := Kd.C_drop (m := 1) HC4.out (by omega) hc
    rw [if_neg (show ¬ c = 1 by omega)] at h1
    exact Lib.hid (Kd.C_take h1 (by rw [List.length_drop]; omega))
  have hl1 : ((sec.drop 1).take 1).length = 1 := by rw [List.length_take, List.length_drop]; omega
  have hmin : min (1 : Int) (sec.length : Int) = 1 := by omega
  have hmin2 : min (1 : Int) ((sec.length - 1 : Nat) : Int) = 1 := by omega
  have g3 : (1 : Int) ≤ (sec.length : Int) := by omega
  have g4 : (1 : Int) ≤ ((sec.length - 1 : Nat) : Int) := by omega
  have hc1 : c ≠ 1 := by omega
  have g1 : (0 : Int) ≤ (sec.length : Int) := by omega
  have g2 : (sec.length : Int) ≤ (c : Int) := by omega
  clear c0 c1 c2 c3 c4 c5 d0' d1' d2' f0 f1 z0 z1
  obtain ⟨⟨c0, c1, c2, c3, c4, c5⟩, ⟨d0', d1', d2'⟩, f0, f1, z0, z1⟩ := IB4.out.cells
  go_wp2_with fail
  have hcl := slices_Clone_byte_byte.calls (some ⟨b, o + 1, none⟩) (c - 1) ((sec.drop 1).take 1) ((sec.drop 1).take 1) _ HC5.out (by omega) (by unfold slices_Clone_byte_byte.f; rw [if_pos (by omega)])
  rw [hl1] at hcl
  refine hcl.mono ?_
  rintro e w5 ⟨v, rfl, hh5⟩
  have IB5 := Lib.hid (IB4.out.below hh5.2)
  have HR5 := Lib.hid hh5
  clear hh5 hcl c0 c1 c2 c3 c4 c5 d0' d1' d2' f0 f1 z0 z1
  go_wp2_with fail
  refine (basic_None.calls 0 0 _ (by rfl)).mono ?_
  rintro e w6 ⟨rfl, hb⟩
  have IB6 := Lib.hid (IB5.out.below hb)
  have HR6 := Lib.hid (Kd.R_below HR5.out.1 hb)
  clear hb
  obtain ⟨_, _, f0, f1, z0, z1⟩ := IB6.out.cells
  go_wp2_with fail
  have hblk := IB6.out.2.2.1
  refine bodyPost_ret (results_list (rs := [.tmp 4, .cell 5 30]) rfl (by simp) (.tmp (.cell (w.heap.size + 1 + 1) 30 #[.int .i64 0, .int .i64 0] (0, 0) _ rfl (blk_put (blk_put hblk 0 (.int .i64 0) rfl) 1 (.int .i64 0) rfl) Tryz.underlying30 rfl (by kernel_rfl) .nil))) rfl ?_
  refine ⟨_, rfl, ?_, ?_⟩
  · exact Kd.R_mono (Kd.R_far (p := ⟨w.heap.size + 1 + 1, 1, none⟩) (Kd.R_far (p := ⟨w.heap.size + 1 + 1, 0, none⟩) (Kd.R_types (Kd.R_lower HR6.out (by have := IB4.out.2.2.2.2.size; omega)) hblk (by decide)) (fun _ hk => hk.2) (.int .i64 0)) (fun _ hk => hk.2) (.int .i64 0)) (fun _ _ => trivial)
  · exact (IB6.out.2.2.2.2.setCell (by simp; omega) _).setCell (by simp; omega) _
end Go.Proofs.YtjolkgnaeoimeaaGreatDoor.G

/- letter. -/
namespace Go.Proofs.YtjolkgnaeoimeaaGreatDoor.G
open Go.RowKit Go.Proofs.YtjolkgnaeoimeaaGreatDoorW.PrintWords
def subj : ByteArray := ⟨#[83, 117, 98, 106, 101, 99, 116]⟩
def xcl : List Int := [120, 13, 10]
set_option maxRecDepth 100000 in
set_option maxHeartbeats 1000000 in
theorem letter_calls (s : ByteArray) (w : World) :
    Calls Tryz.prog 10 #[.string s] w fun e w' => ∃ A c B d, e = .returned (.agg #[.slice A 1 c, .slice B 3 d]) ∧ 1 ≤ c ∧ 3 ≤ d ∧ Hid (Kd.C k52 w' A 1 [⟨subj, s⟩] ∧ Kd.C (Kd.int .u8) w' B 3 xcl ∧ Below w.heap.size w w') := by
  have hcb := Lib.run_convert_bytes_const (P := Tryz.prog) ((w.alloc (.cells #[.slice none 0 0, .slice none 0 0] 25)).alloc (.cells #[.string ⟨#[83, 117, 98, 106, 101, 99, 116]⟩, .string s] 52)) 23 5 #[.int .u8 120, .int .u8 13, .int .u8 10] 3 3 Tryz.underlying23 Tryz.underlying5
  rw [show ((w.alloc (.cells #[.slice none 0 0, .slice none 0 0] 25)).alloc (.cells #[.string ⟨#[83, 117, 98, 106, 101, 99, 116]⟩, .string s] 52)).heap.size = w.heap.size + 1 + 1 from by simp] at hcb
  go_enter Tryz.func10, Tryz.ntmps10
  go_wp2
  have b0 := blk_alloc (blk_alloc (heap_alloc_new w (.cells #[.slice (some ⟨w.heap.size + 1, 0, none⟩) 1 1, .slice (some ⟨w.heap.size + 1 + 1, 0, none⟩) 3 3] 25)) (.cells #[.string ⟨#[83, 117, 98, 106, 101, 99, 116]⟩, .string s] 52)) (.cells #[.int .u8 120, .int .u8 13, .int .u8 10] 5 (3, 4))
  have h1 := heap_alloc_new (w.alloc (.cells #[.slice (some ⟨w.heap.size + 1, 0, none⟩) 1 1, .slice (some ⟨w.heap.size + 1 + 1, 0, none⟩) 3 3] 25)) (.cells #[.string ⟨#[83, 117, 98, 106, 101, 99, 116]⟩, .string s] 52)
  have h2 := heap_alloc_new ((w.alloc (.cells #[.slice (some ⟨w.heap.size + 1, 0, none⟩) 1 1, .slice (some ⟨w.heap.size + 1 + 1, 0, none⟩) 3 3] 25)).alloc (.cells #[.string ⟨#[83, 117, 98, 106, 101, 99, 116]⟩, .string s] 52)) (.cells #[.int .u8 120, .int .u8 13, .int .u8 10] 5 (3, 4))
  rw [show (w.alloc (.cells #[.slice (some ⟨w.heap.size + 1, 0, none⟩) 1 1, .slice (some ⟨w.heap.size + 1 + 1, 0, none⟩) 3 3] 25)).heap.size = w.heap.size + 1 from by simp] at h1
  rw [show ((w.alloc (.cells #[.slice (some ⟨w.heap.size + 1, 0, none⟩) 1 1, .slice (some ⟨w.heap.size + 1 + 1, 0, none⟩) 3 3] 25)).alloc (.cells #[.string ⟨#[83, 117, 98, 106, 101, 99, 116]⟩, .string s] 52)).heap.size = w.heap.size + 1 + 1 from by simp] at h2
  have b1 := blk_alloc h1 (.cells #[.int .u8 120, .int .u8 13, .int .u8 10] 5 (3, 4))
  refine bodyPost_ret (results_cell_row rfl _ _ w.heap.size 25 #[.slice (some ⟨w.heap.size + 1, 0, none⟩) 1 1, .slice (some ⟨w.heap.size + 1 + 1, 0, none⟩) 3 3] (0, 0) _ rfl b0 Tryz.underlying25 rfl (by kernel_rfl)) rfl ?_
  refine ⟨_, 1, _, 3, rfl, Nat.le_refl _, Nat.le_refl _, Lib.hid ⟨?_, ?_, (((Below.refl _ _).alloc (Nat.le_refl _) _).alloc (by simp) _).alloc (by simp; omega) _⟩⟩
  · refine ⟨rfl, by decide, fun _ => ⟨_, rfl, fun j p hj => ?_⟩⟩
    match j, hj with
    | 0, hj =>
      cases hj
      refine ⟨[.string subj, .string s], rfl, k52_mk _ ⟨subj, s⟩, fun i u hu => ?_⟩
      rw [add_plain, show 0 * k52.sz + i = i by omega, blk_cell b1 i]
      match i, hu with
      | 0, hu => exact hu
      | 1, hu => exact hu
  · refine Kd.C_of_reads (enc := Value.int .u8) (d := (0 : Int)) (h1 := fun _ => rfl) ⟨rfl, by decide, fun _ => ⟨_, rfl, fun j hj => ?_⟩⟩
    rw [add_plain, cell_of_row _ _ j _ _ _ h2]
    match j, hj with
    | 0, _ => rfl
    | 1, _ => rfl
    | 2, _ => rfl
end Go.Proofs.YtjolkgnaeoimeaaGreatDoor.G

/- fetchExample. -/
namespace Go.Proofs.YtjolkgnaeoimeaaGreatDoor.G
open Go.RowKit Go.Proofs.YtjolkgnaeoimeaaGreatDoorW.PrintWords
def fS : List S52 := [⟨subj, ⟨#[98]⟩⟩]
theorem ex_validate : message_Validate.f 100 fS xcl = some (0, 0) := by decide +kernel
theorem ex_write : ∃ all x y, message_Write.f 100 fS xcl = some (all, x, y) := by
  have h : (message_Write.f 100 fS xcl).isSome = true := by decide +kernel
  obtain ⟨⟨a, b, c⟩, e⟩ := Option.isSome_iff_exists.1 h
  exact ⟨a, b, c, e⟩
theorem ex_flags : grammar_Flags.f 100 3 = some ⟨#[115, 97]⟩ := by decide +kernel
theorem ex_piece1 : grammar_Piece.f sFlags 0 (-1) = some 0 := by decide +kernel
theorem ex_piece2 : grammar_Piece.f sText 1 1 = some 0 := by decide +kernel
theorem ex_item1 (A : Option Addr) (c : Nat) (B : Option Addr) (d : Nat) (w : World) (hc : 1 ≤ c) (hd : 3 ≤ d) (hF : Kd.C k52 w A 1 fS) (hB : Kd.C (Kd.int .u8) w B 3 xcl) :
    Calls Tryz.prog 5 #[.agg #[.int .i64 0, .int .i64 0, .int .i64 3, .int .i64 0, .slice A 1 c, .slice B 3 d], .agg #[.string sFlags, .int .i64 0, .int .i64 (-1)]] w
      fun e' w' => ∃ v, e' = .returned (.tuple #[v, .agg #[.int .i64 0, .int .i64 0]]) ∧ Kd.R (Kd.int .u8) 5 w' w.heap.size (fun _ => True) v [115, 97] ∧ Below w.heap.size w w' := by
  obtain ⟨all, x, y, hw⟩ := ex_write
  exact item_whole 100 0 0 3 0 0 A c fS B d xcl sFlags [115, 97] w hF hc hB hd ex_validate (by decide) (by decide) ex_piece1 (by decide)
    (fun W hW => sec_flags 100 0 0 3 0 x y A c fS B d xcl all ⟨#[115, 97]⟩ W (Kd.C_below hF hW) hc (Kd.C_below hB hW) hd hw ex_flags (by decide))
theorem ex_item2 (A : Option Addr) (c : Nat) (B : Option Addr) (d : Nat) (w : World) (hc : 1 ≤ c) (hd : 3 ≤ d) (hF : Kd.C k52 w A 1 fS) (hB : Kd.C (Kd.int .u8) w B 3 xcl) :
    Calls Tryz.prog 5 #[.agg #[.int .i64 0, .int .i64 0, .int .i64 3, .int .i64 0, .slice A 1 c, .slice B 3 d], .agg #[.string sText, .int .i64 1, .int .i64 1]] w
      fun e' w' => ∃ v, e' = .returned (.tuple #[v, .agg #[.int .i64 0, .int .i64 0]]) ∧ Kd.R (Kd.int .u8) 5 w' w.heap.size (fun _ => True) v [13] ∧ Below w.heap.size w w' := by
  obtain ⟨all, x, y, hw⟩ := ex_write
  exact item_one 100 0 0 3 0 0 A c fS B d xcl sText xcl w hF hc hB hd ex_validate (by decide) (by decide) ex_piece2 (by decide) (by decide)
    (fun W hW => sec_text 100 0 0 3 0 x y A c fS B d xcl all W (Kd.C_below hF hW) hc (Kd.C_below hB hW) hd hw)
theorem blk27_cells {w : World} {g : Nat} {uid seq flags at_ : Int} {AF : Option Addr} {nF cF : Nat} {AB : Option Addr} {nB cB : Nat}
    (h : w.heap[g]? = some (.cells #[.int .i64 uid, .int .i64 seq, .int .i64 flags, .int .i64 at_, .slice AF nF cF, .slice AB nB cB] 27)) :
    (w.cell? ⟨g, 0, none⟩ = some (.int .i64 uid) ∧ w.cell? ⟨g, 1, none⟩ = some (.int .i64 seq) ∧ w.cell? ⟨g, 2, none⟩ = some (.int .i64 flags) ∧ w.cell? ⟨g, 3, none⟩ = some (.int .i64 at_) ∧ w.cell? ⟨g, 4, none⟩ = some (.slice AF nF cF) ∧ w.cell? ⟨g, 5, none⟩ = some (.slice AB nB cB)) :=
  ⟨blk_cell h 0, blk_cell h 1, blk_cell h 2, blk_cell h 3, blk_cell h 4, blk_cell h 5⟩
theorem blk_below' {w w' : World} {g : Nat} {o : Obj} (h : w.heap[g]? = some o) (hb : Below w.heap.size w w') : w'.heap[g]? = some o := (hb.block g (blk_lt h)).trans h
set_option maxRecDepth 100000 in
set_option maxHeartbeats 1000000 in
theorem example_calls (w : World) : Calls Tryz.prog 4 #[] w fun e w' => e = .returned (.bool true) ∧ Below w.heap.size w w' := by
  go_enter Tryz.func4, Tryz.ntmps4
  go_wp2_with fail
  refine (letter_calls ⟨#[98]⟩ _).mono ?_
  rintro e w1 ⟨A, c, B, d, rfl, hc, hd, hh⟩
  have K1 := Lib.hid (heap_alloc_new w1 (.cells #[.int .i64 0, .int .i64 0, .int .i64 3, .int .i64 0, .slice A 1 c, .slice B 3 d] 27))
  have BA := Lib.hid (below_alloc (Below.refl w1.heap.size w1) (.cells #[.int .i64 0, .int .i64 0, .int .i64 3, .int .i64 0, .slice A 1 c, .slice B 3 d] 27))
  have B1 := Lib.hid (hh.out.2.2.trans (BA.out.mono hh.out.2.2.size))
  have F1 := Lib.hid (And.intro (Kd.C_below hh.out.1 BA.out) (Kd.C_below hh.out.2.1 BA.out))
  clear hh
  go_wp2_with fail
  refine (ex_item1 A c B d _ hc hd F1.out.1 F1.out.2).mono ?_
  rintro e w2 ⟨v, rfl, hR, hb⟩
  obtain ⟨V, cv, rfl⟩ := Kd.R_slice hR
  have BX := Lib.hid (below_alloc (Below.refl w2.heap.size w2) (.cells #[.int .i64 0, .int .i64 0] 30))
  have K2 := Lib.hid (blk_below' (blk_below' K1.out hb) BX.out)
  have KF := Lib.hid (heap_alloc_new w2 (.cells #[.int .i64 0, .int .i64 0] 30))
  have B2 := Lib.hid ((B1.out.trans (hb.mono B1.out.size)).trans (BX.out.mono (B1.out.trans (hb.mono B1.out.size)).size))
  have F2 := Lib.hid (And.intro (Kd.C_below (Kd.C_below F1.out.1 hb) BX.out) (Kd.C_below (Kd.C_below F1.out.2 hb) BX.out))
  have R2 := Lib.hid (Kd.C_below (Kd.R_reads' hR).2.2 BX.out)
  clear hR hb
  obtain ⟨c0, c1, c2, c3, c4, c5⟩ := blk27_cells K2.out
  go_wp2_with fail
  refine (ex_item2 A c B d _ hc hd F2.out.1 F2.out.2).mono ?_
  rintro e w3 ⟨v, rfl, hR, hb⟩
  obtain ⟨U, cu, rfl⟩ := Kd.R_slice hR
  have BX3 := Lib.hid (below_alloc (Below.refl w3.heap.size w3) (.cells #[.int .i64 0, .int .i64 0] 30))
  have KF3 := Lib.hid (blk_below' (blk_below' KF.out hb) BX3.out)
  have KG3 := Lib.hid (heap_alloc_new w3 (.cells #[.int .i64 0, .int .i64 0] 30))
  have B3 := Lib.hid ((B2.out.trans (hb.mono B2.out.size)).trans (BX3.out.mono (B2.out.trans (hb.mono B2.out.size)).size))
  have R3 := Lib.hid (Kd.C_below (Kd.C_below R2.out hb) BX3.out)
  have S3 := Lib.hid (Kd.C_below (Kd.R_reads' hR).2.2 BX3.out)
  clear hR hb c0 c1 c2 c3 c4 c5
  have f0 := blk_cell KF3.out 0
  have g0 := blk_cell KG3.out 0
  have hcv : (convert 23 9 (.slice V 2 cv)).run Tryz.prog _ = .ok (.string ⟨#[115, 97]⟩) _ := Kd.C_string (P := Tryz.prog) (c := cv) Tryz.underlying23 Tryz.underlying5 Tryz.underlying9 R3.out
  obtain ⟨bu, ou, rfl, hu⟩ := bytesIn_of_C S3.out (by decide)
  have u0 : (w3.alloc (.cells #[.int .i64 0, .int .i64 0] 30)).cell? ⟨bu, ou, none⟩ = some (.int .u8 13) := hu 0 (by decide)
  clear hu
  go_wp2_with fail
  go_ret
  exact ⟨rfl, B3.out⟩
end Go.Proofs.YtjolkgnaeoimeaaGreatDoor.G

/- An append of a row of bytes, at a step of a region that draws its order. -/
namespace Go.Proofs.YtjolkgnaeoimeaaGreatDoor.G
open Go.RowKit Go.Proofs.YtjolkgnaeoimeaaGreatDoorW.PrintWords
theorem append_bytes_run {P : Program} {W w0 : World} (base : Nat) (ot t e : TypeId) (ht : P.underlying t = some (.slice e)) (hinfo : (P.info? e).map (fun i => (i.zero, i.size, i.bytes)) = some (some (.int .u8 0), 1, 1))
    (v : Value) (xs ys : List Int) (A : Option Addr) (c : Nat) (ok : Nat → Prop) (hfresh : ∀ k, W.heap.size ≤ k → ok k)
    (HO : Kd.R (Kd.int .u8) e W base ok v xs) (HR : Kd.C (Kd.int .u8) W A ys.length ys) (HB : Below base w0 W) (hbase : base ≤ W.heap.size) (hl : xs.length + ys.length ≤ 140737488355328) :
    ∃ v1 w1, (Builtin.append_ #[t, t] ot #[v, .slice A ys.length c]).run P W = .ok v1 w1 ∧ Kd.R (Kd.int .u8) e w1 base ok v1 (xs ++ ys) ∧ Below base w0 w1 := by
  obtain ⟨i0, hi, hz0, hz1, hz2⟩ := info_parts hinfo
  have hown := Kd.own_of_R HO
  have hreads := Kd.reads_of_C (enc := Value.int .u8) (d := (0 : Int)) (h1 := fun _ => rfl) HR
  cases A with
  | none =>
    have h0 : ys = [] := by
      rcases Nat.eq_zero_or_pos ys.length with h | h
      · exact List.eq_nil_of_length_eq_zero h
      · obtain ⟨_, h, _⟩ := hreads.2.2 h; cases h
    subst h0
    refine ⟨v, W, ?_, by simpa using HO, HB⟩
    rcases hown.2 with ⟨rfl, hn⟩ | ⟨g, cap, cur, rfl, _, _, hnc, _⟩
    · simp [Builtin.append_, run_underlying ht, sizeOf, typeInfo, hi, Builtin.lenOf, Builtin.firstCells]
    · simp [Builtin.append_, run_underlying ht, sizeOf, typeInfo, hi, Builtin.lenOf, Builtin.firstCells, hnc, storeCells]
  | some ad =>
    have hcells : ∀ j u, (encs (Value.int .u8) ys)[j]? = some u → W.cell? (ad.add j) = some u := by
      refine encs_cells (fun j hj => ?_)
      obtain ⟨ad', e', hc⟩ := hreads.2.2 (by omega)
      cases e'
      exact hc j hj
    obtain ⟨v1, w1, hr, h2, h3, _, h5⟩ := run_append_own_at (P := P) W base t ot e i0 (.int .u8 0) 1 1 ht hi hz0 hz1 hz2 rfl (by omega) v xs.length (encs (Value.int .u8) xs) hown ad ys.length c (encs (Value.int .u8) ys) (by simp [encs]) hcells
      (by intro u hu; simp only [encs, List.mem_map] at hu; obtain ⟨q, _, rfl⟩ := hu; rfl) (by simp only [maxLen]; omega) (by omega) hbase
    have hown1 : w1.ownsRow base e 1 v1 (xs ++ ys).length (encs (Value.int .u8) (xs ++ ys)) := by simpa [encs] using h2
    refine ⟨v1, w1, hr, Kd.R_of_own hown1 (fun k hk => ?_), HB.grown h3 hbase (own_base hown)⟩
    rcases h5 with e1 | e1
    · exact HO.1 k (by rw [← e1]; exact hk)
    · rw [e1] at hk
      injection hk with hk
      subst hk
      exact hfresh _ (Nat.le_refl _)
theorem step_append_bytes {P : Program} {ops : Array Oper} {o : Oper} {a : Act} {K : Act → World → Prop} {Q : Exit → Act → World → Prop} {W w0 : World} (base : Nat) (hw : Region.wanted o (yielded ops a.tmps) = true) (s x : Operand) (t e : TypeId)
    (ho : o.op = .call { callee := .builtin .append, args := #[s, x], argTypes := #[t, t] }) (ht : P.underlying t = some (.slice e)) (hinfo : (P.info? e).map (fun i => (i.zero, i.size, i.bytes)) = some (some (.int .u8 0), 1, 1))
    (v : Value) (xs ys : List Int) (A : Option Addr) (c : Nat) (ok : Nat → Prop) (hs : a.eval s = v) (hx : a.eval x = .slice A ys.length c) (hfresh : ∀ k, W.heap.size ≤ k → ok k)
    (HO : Kd.R (Kd.int .u8) e W base ok v xs) (HR : Kd.C (Kd.int .u8) W A ys.length ys) (HB : Below base w0 W) (hbase : base ≤ W.heap.size) (hl : xs.length + ys.length ≤ 140737488355328)
    (h : ∀ v1 w1, Kd.R (Kd.int .u8) e w1 base ok v1 (xs ++ ys) → Below base w0 w1 → K (a.put o.dst v1) w1) :
    if Region.wanted o (yielded ops a.tmps) = true then Oper.wp P o a W K Q else K (a.put o.dst undef) W := by
  rw [if_pos hw]
  obtain ⟨v1, w1, hr, h1, h2⟩ := append_bytes_run (P := P) base o.type t e ht hinfo v xs ys A c ok hfresh HO HR HB hbase hl
  unfold Oper.wp execOp
  simp only [ho, resolve, invoke, builtin, Sem.run_bind, Sem.run_pure, Result.andThen_ok, List.map_toArray, List.map_cons, List.map_nil, hs, hx, hr]
  exact h v1 w1 h1 h2
end Go.Proofs.YtjolkgnaeoimeaaGreatDoor.G

/- The law's walk, where every item is given. -/
namespace Go.Proofs.YtjolkgnaeoimeaaGreatDoor.G
open Go.RowKit Go.Proofs.YtjolkgnaeoimeaaGreatDoorW.PrintWords
/-- What an item's call gives. -/
def ItemAt (e : Value) (s : ByteArray) (sec : List Int) (w : World) : Prop :=
  Calls Tryz.prog 5 #[e, .agg #[.string s, .int .i64 0, .int .i64 (-1)]] w fun e' w' => ∃ v, e' = .returned (.tuple #[v, .agg #[.int .i64 0, .int .i64 0]]) ∧ Kd.R (Kd.int .u8) 5 w' w.heap.size (fun _ => True) v sec ∧ Below w.heap.size w w'
/-- Behind an item's call: its fault is laid down. -/
def W30 (w : World) : World := w.alloc (.cells #[.int .i64 0, .int .i64 0] 30)
theorem W30_below (w : World) : Below w.heap.size w (W30 w) := below_alloc (Below.refl w.heap.size w) _
theorem strOfNums_numsOf (b : ByteArray) : strOfNums (numsOf b.data.toList) = b := by
  have h : (numsOf b.data.toList).map (fun n => UInt8.ofNat n.toNat) = b.data.toList := by
    unfold numsOf
    rw [List.map_map]
    conv => rhs; rw [← List.map_id b.data.toList]
    refine List.map_congr_left (fun x _ => ?_)
    simp
  unfold strOfNums
  rw [h]
set_option maxRecDepth 100000 in
set_option maxHeartbeats 4000000 in
theorem law_good (k : Nat) (uid seq flags at_ y : Int) (AF : Option Addr) (cF : Nat) (lF lF' : List S52) (AB : Option Addr) (cB : Nat) (lB lB' all hd : List Int) (dg : ByteArray) (w : World)
    (hF : Kd.C k52 w AF lF.length lF) (hcF : lF.length ≤ cF) (hB : Kd.C (Kd.int .u8) w AB lB.length lB) (hcB : lB.length ≤ cB)
    (h1 : ∀ W, Below w.heap.size w W → ItemAt (stored uid seq flags at_ AF lF.length cF AB lB.length cB) sAll all W)
    (h2 : ∀ W, Below w.heap.size w W → ItemAt (stored uid seq flags at_ AF lF.length cF AB lB.length cB) sHeader hd W)
    (h3 : ∀ W, Below w.heap.size w W → ItemAt (stored uid seq flags at_ AF lF.length cF AB lB.length cB) sText lB W)
    (h4 : ∀ W, Below w.heap.size w W → ItemAt (stored uid seq flags at_ AF lF.length cF AB lB.length cB) sSize (numsOf dg.data.toList) W)
    (hall : all = hd ++ lB) (hlen : all.length ≤ 140737488355328)
    (hR : message_Read.f k all = some (lF', lB', 0, y)) (hS : posthouseref8_SameMessage.f k lF' lB' lF lB = some true)
    (hD : posthouselaw8_digits.f k all.length = some dg) :
    Calls Tryz.prog 3 #[stored uid seq flags at_ AF lF.length cF AB lB.length cB] w fun e w' => e = .returned (.bool true) ∧ Below w.heap.size w w' := by
  have hnot : ∀ (x : Bool) (w : World), (Op.unary .not (.bool x)).run Tryz.prog w = .ok (.bool (!x)) w := fun _ _ => rfl
  have K0 := Lib.hid (heap_alloc_new w (.cells #[.int .i64 uid, .int .i64 seq, .int .i64 flags, .int .i64 at_, .slice AF lF.length cF, .slice AB lB.length cB] 27))
  have B0 := Lib.hid (below_alloc (Below.refl w.heap.size w) (.cells #[.int .i64 uid, .int .i64 seq, .int .i64 flags, .int .i64 at_, .slice AF lF.length cF, .slice AB lB.length cB] 27))
  have F0 := Lib.hid (And.intro hF hB)
  have HI := Lib.hid (And.intro h1 (And.intro h2 (And.intro h3 h4)))
  have HP := Lib.hid (And.intro hR (And.intro hS hD))
  have HL := Lib.hid (And.intro hall hlen)
  clear hF hB h1 h2 h3 h4 hR hS hD hall hlen
  unfold ItemAt stored at *
  go_enter Tryz.func3, Tryz.ntmps3
  go_wp2_with fail
  refine (example_calls _).mono ?_
  rintro e w1 ⟨rfl, hb⟩
  have K1 := Lib.hid (blk_below' K0.out hb)
  have B1 := Lib.hid (B0.out.trans (hb.mono B0.out.size))
  clear hb
  obtain ⟨c0, c1, c2, c3, c4, c5⟩ := blk27_cells K1.out
  go_wp2_with fail
  refine (HI.out.1 _ B1.out).mono ?_
  rintro e w2 ⟨v2, rfl, hR, hb0⟩
  obtain ⟨A2, c2', rfl⟩ := Kd.R_slice hR
  have BX2 := Lib.hid (below_alloc (Below.refl w2.heap.size w2) (.cells #[.int .i64 0, .int .i64 0] 30))
  have hb := hb0.trans (BX2.out.mono hb0.size)
  have K2 := Lib.hid (blk_below' K1.out hb)
  have B2 := Lib.hid (B1.out.trans (hb.mono B1.out.size))
  have Q2_2 := Lib.hid (heap_alloc_new w2 (.cells #[.int .i64 0, .int .i64 0] 30))
  have R2_2 := Lib.hid (Kd.C_below (Kd.R_reads' hR).2.2 BX2.out)
  have L2 := Lib.hid (Kd.R_reads' hR).2.1
  clear hR hb hb0 c0 c1 c2 c3 c4 c5
  obtain ⟨c0, c1, c2, c3, c4, c5⟩ := blk27_cells K2.out
  go_wp2_with fail
  refine (HI.out.2.1 _ B2.out).mono ?_
  rintro e w3 ⟨v3, rfl, hR, hb0⟩
  obtain ⟨A3, c3', rfl⟩ := Kd.R_slice hR
  have BX3 := Lib.hid (below_alloc (Below.refl w3.heap.size w3) (.cells #[.int .i64 0, .int .i64 0] 30))
  have hb := hb0.trans (BX3.out.mono hb0.size)
  have K3 := Lib.hid (blk_below' K2.out hb)
  have B3 := Lib.hid (B2.out.trans (hb.mono B2.out.size))
  have Q2_3 := Lib.hid (blk_below' Q2_2.out hb)
  have R2_3 := Lib.hid (Kd.C_below R2_2.out hb)
  have Q3_3 := Lib.hid (heap_alloc_new w3 (.cells #[.int .i64 0, .int .i64 0] 30))
  have R3_3 := Lib.hid (Kd.C_below (Kd.R_reads' hR).2.2 BX3.out)
  have L3 := Lib.hid (Kd.R_reads' hR).2.1
  clear hR hb hb0 c0 c1 c2 c3 c4 c5
  obtain ⟨c0, c1, c2, c3, c4, c5⟩ := blk27_cells K3.out
  go_wp2_with fail
  refine (HI.out.2.2.1 _ B3.out).mono ?_
  rintro e w4 ⟨v4, rfl, hR, hb0⟩
  obtain ⟨A4, c4', rfl⟩ := Kd.R_slice hR
  have BX4 := Lib.hid (below_alloc (Below.refl w4.heap.size w4) (.cells #[.int .i64 0, .int .i64 0] 30))
  have hb := hb0.trans (BX4.out.mono hb0.size)
  have K4 := Lib.hid (blk_below' K3.out hb)
  have B4 := Lib.hid (B3.out.trans (hb.mono B3.out.size))
  have Q2_4 := Lib.hid (blk_below' Q2_3.out hb)
  have Q3_4 := Lib.hid (blk_below' Q3_3.out hb)
  have R2_4 := Lib.hid (Kd.C_below R2_3.out hb)
  have R3_4 := Lib.hid (Kd.C_below R3_3.out hb)
  have Q4_4 := Lib.hid (heap_alloc_new w4 (.cells #[.int .i64 0, .int .i64 0] 30))
  have R4_4 := Lib.hid (Kd.C_below (Kd.R_reads' hR).2.2 BX4.out)
  have L4 := Lib.hid (Kd.R_reads' hR).2.1
  clear hR hb hb0 c0 c1 c2 c3 c4 c5
  obtain ⟨c0, c1, c2, c3, c4, c5⟩ := blk27_cells K4.out
  go_wp2_with fail
  refine (HI.out.2.2.2 _ B4.out).mono ?_
  rintro e w5 ⟨v5, rfl, hR, hb0⟩
  obtain ⟨A5, c5', rfl⟩ := Kd.R_slice hR
  have BX5 := Lib.hid (below_alloc (Below.refl w5.heap.size w5) (.cells #[.int .i64 0, .int .i64 0] 30))
  have hb := hb0.trans (BX5.out.mono hb0.size)
  have K5 := Lib.hid (blk_below' K4.out hb)
  have B5 := Lib.hid (B4.out.trans (hb.mono B4.out.size))
  have Q2_5 := Lib.hid (blk_below' Q2_4.out hb)
  have Q3_5 := Lib.hid (blk_below' Q3_4.out hb)
  have Q4_5 := Lib.hid (blk_below' Q4_4.out hb)
  have R2_5 := Lib.hid (Kd.C_below R2_4.out hb)
  have R3_5 := Lib.hid (Kd.C_below R3_4.out hb)
  have R4_5 := Lib.hid (Kd.C_below R4_4.out hb)
  have Q5_5 := Lib.hid (heap_alloc_new w5 (.cells #[.int .i64 0, .int .i64 0] 30))
  have R5_5 := Lib.hid (Kd.C_below (Kd.R_reads' hR).2.2 BX5.out)
  have L5 := Lib.hid (Kd.R_reads' hR).2.1
  clear hR hb hb0 c0 c1 c2 c3 c4 c5
  have q2 := blk_cell Q2_5.out 0
  have q3 := blk_cell Q3_5.out 0
  have q4 := blk_cell Q4_5.out 0
  have q5 := blk_cell Q5_5.out 0
  go_wp2_with fail
  refine (message_Read.calls k A2 c2' all lF' lB' 0 y _ R2_5.out L2.out HP.out.1).mono ?_
  rintro e w6 ⟨vF, vB, rfl, hRF, hRB, hb⟩
  obtain ⟨MF, mF, rfl⟩ := Kd.R_slice hRF
  obtain ⟨MB, mB, rfl⟩ := Kd.R_slice hRB
  have LF := Lib.hid (And.intro (Kd.R_reads' hRF).2.1 (Kd.R_reads' hRB).2.1)
  have h1 := blk_alloc (heap_alloc_new w6 (.cells #[.slice MF lF'.length mF, .slice MB lB'.length mB] 25)) (.cells #[.int .i64 0, .int .i64 y] 30)
  have h2 := heap_alloc_new (w6.alloc (.cells #[.slice MF lF'.length mF, .slice MB lB'.length mB] 25)) (.cells #[.int .i64 0, .int .i64 y] 30)
  rw [show (w6.alloc (.cells #[.slice MF lF'.length mF, .slice MB lB'.length mB] 25)).heap.size = w6.heap.size + 1 from by simp] at h2
  have hb6 : Below w6.heap.size w6 ((w6.alloc (.cells #[.slice MF lF'.length mF, .slice MB lB'.length mB] 25)).alloc (.cells #[.int .i64 0, .int .i64 y] 30)) := below_alloc (below_alloc (Below.refl _ _) _) _
  have hb7 := hb.trans (hb6.mono hb.size)
  have K7 := Lib.hid (blk_below' K5.out hb7)
  have B7 := Lib.hid (B5.out.trans (hb7.mono B5.out.size))
  have C7 := Lib.hid (And.intro (Kd.C_below R2_5.out hb7) (And.intro (Kd.C_below R3_5.out hb7) (And.intro (Kd.C_below R4_5.out hb7) (Kd.C_below R5_5.out hb7))))
  have M7 := Lib.hid (And.intro (Kd.C_below (Kd.R_reads' hRF).2.2 hb6) (Kd.C_below (Kd.R_reads' hRB).2.2 hb6))
  have P7 := Lib.hid (And.intro h1 h2)
  clear h1 h2 hb6 hb7 hb hRF hRB q2 q3 q4 q5
  go_wp2_with fail
  generalize ((w6.alloc (.cells #[.slice MF lF'.length mF, .slice MB lB'.length mB] 25)).alloc (.cells #[.int .i64 0, .int .i64 y] 30)) = W0 at K7 B7 C7 M7 P7 ⊢
  clear K0 K1 K2 K3 K4 K5 Q2_2 Q2_3 Q2_4 Q2_5 Q3_3 Q3_4 Q3_5 Q4_4 Q4_5 Q5_5 R2_2 R2_3 R2_4 R2_5 R3_3 R3_4 R3_5 R4_4 R4_5 R5_5 BX2 BX3 BX4 BX5 B1 B2 B3 B4 B5
  have mkS : ∀ w' : World, Below W0.heap.size W0 w' →
      (w'.cell? ⟨w.heap.size, 4, none⟩ = some (.slice AF lF.length cF) ∧ w'.cell? ⟨w.heap.size, 5, none⟩ = some (.slice AB lB.length cB) ∧ w'.cell? ⟨w6.heap.size, 0, none⟩ = some (.slice MF lF'.length mF) ∧ w'.cell? ⟨w6.heap.size, 1, none⟩ = some (.slice MB lB'.length mB) ∧ w'.cell? ⟨w6.heap.size + 1, 0, none⟩ = some (.int .i64 0) ∧
        (convert 23 9 (.slice A5 (numsOf dg.data.toList).length c5')).run Tryz.prog w' = .ok (.string dg) w') ∧ Below W0.heap.size W0 w' := by
    intro w' hb
    have k7 := blk_below' K7.out hb
    have p7 := blk_below' P7.out.1 hb
    have r7 := blk_below' P7.out.2 hb
    refine ⟨⟨blk_cell k7 4, blk_cell k7 5, blk_cell p7 0, blk_cell p7 1, blk_cell r7 0, ?_⟩, hb⟩
    have hcv := Kd.C_string (P := Tryz.prog) (c := c5') Tryz.underlying23 Tryz.underlying5 Tryz.underlying9 (Kd.C_below C7.out.2.2.2 hb)
    rw [hcv, strOfNums_numsOf]
  have MK := Lib.hid mkS
  have HSame := Lib.hid (show posthouseref7_Same.f all all = some true by simp [posthouseref7_Same.f])
  clear mkS
  go_region_held3 (fun w' => (w'.cell? ⟨w.heap.size, 4, none⟩ = some (.slice AF lF.length cF) ∧ w'.cell? ⟨w.heap.size, 5, none⟩ = some (.slice AB lB.length cB) ∧ w'.cell? ⟨w6.heap.size, 0, none⟩ = some (.slice MF lF'.length mF) ∧ w'.cell? ⟨w6.heap.size, 1, none⟩ = some (.slice MB lB'.length mB) ∧ w'.cell? ⟨w6.heap.size + 1, 0, none⟩ = some (.int .i64 0) ∧
        (convert 23 9 (.slice A5 (numsOf dg.data.toList).length c5')).run Tryz.prog w' = .ok (.string dg) w') ∧ Below W0.heap.size W0 w') (first | exact MK.out _ (Below.drew (Below.refl _ _)) | exact MK.out _ hb8 | exact MK.out _ hb9 | exact MK.out _ hb10 | exact MK.out _ hb11 | exact MK.out _ hb12) (first
    | (refine step_append_bytes W0.heap.size (by rfl) (.const (.slice none 0 0)) (.tmp 63) 23 5 (by rfl) Tryz.underlying23 inf5 (.slice none 0 0) [] hd A3 c3' (fun _ => True) rfl rfl (fun _ _ => trivial) (Kd.R_nil _ _ _ _ _) (Kd.C_below C7.out.2.1 (Below.drew (Below.refl _ _))) (Below.drew (Below.refl _ _)) (Nat.le_refl _) (by have := HL.out; simp; rw [this.1, List.length_append] at this; omega) ?_; intro v1 w8 hR8 hb8)
    | (refine step_append_bytes W0.heap.size (by rfl) (.tmp 64) (.tmp 65) 23 5 (by rfl) Tryz.underlying23 inf5 v1 ([] ++ hd) lB A4 c4' (fun _ => True) rfl rfl (fun _ _ => trivial) hR8 (Kd.C_below C7.out.2.2.1 hb8) hb8 hb8.size (by have := HL.out; rw [this.1, List.length_append] at this; rw [List.nil_append]; omega) ?_; intro v2 w9 hR8' hb9; have hR9 : Kd.R (Kd.int .u8) 5 w9 W0.heap.size (fun _ => True) v2 all := (by rw [HL.out.1]; simpa using hR8'); obtain ⟨V2, cv2, rfl⟩ := Kd.R_slice hR9)
    | (go_at_call 7; refine (posthouseref7_Same.calls A2 c2' all V2 cv2 all true _ (Kd.C_below C7.out.1 hb9) L2.out (Kd.R_reads' hR9).2.2 (Kd.R_reads' hR9).2.1 HSame.out).mono ?_; rintro e w10 ⟨rfl, hd10⟩; have hb10 := hb9.trans (hd10.below.mono hb9.size))
    | (go_at_call 8; refine (posthouseref8_SameMessage.calls k MF mF lF' MB mB lB' AF cF lF AB cB lB true _ (Kd.C_below M7.out.1 hb10) LF.out.1 (Kd.C_below M7.out.2 hb10) LF.out.2 (Kd.C_below (Kd.C_below F0.out.1 B7.out) hb10) hcF (Kd.C_below (Kd.C_below F0.out.2 B7.out) hb10) hcB HP.out.2.1).mono ?_; rintro e w11 ⟨rfl, hb⟩; have hb11 := hb10.trans (hb.mono hb10.size))
    | (go_at_call 9; refine (posthouselaw8_digits.calls k all.length dg _ HP.out.2.2).mono ?_; rintro e w12 ⟨rfl, hd12⟩; have hb12 := hb11.trans (hd12.below.mono hb11.size))
    )
  go_wp2_with fail
  go_ret
  exact ⟨rfl, B7.out.trans (hb12.mono B7.out.size)⟩
end Go.Proofs.YtjolkgnaeoimeaaGreatDoor.G

/- The law's walk, where every item fails. -/
namespace Go.Proofs.YtjolkgnaeoimeaaGreatDoor.G
open Go.RowKit Go.Proofs.YtjolkgnaeoimeaaGreatDoorW.PrintWords
set_option maxRecDepth 100000 in
set_option maxHeartbeats 4000000 in
theorem law_bad (uid seq flags at_ cd ix : Int) (AF : Option Addr) (cF nF : Nat) (AB : Option Addr) (nB cB : Nat) (w : World) (hcd : cd ≠ 0)
    (h : ∀ (s : ByteArray) (W : World), Below w.heap.size w W → Calls Tryz.prog 5 #[stored uid seq flags at_ AF nF cF AB nB cB, .agg #[.string s, .int .i64 0, .int .i64 (-1)]] W fun e' w' => e' = .returned (.tuple #[.slice none 0 0, .agg #[.int .i64 cd, .int .i64 ix]]) ∧ Below W.heap.size W w') :
    Calls Tryz.prog 3 #[stored uid seq flags at_ AF nF cF AB nB cB] w fun e w' => e = .returned (.bool true) ∧ Below w.heap.size w w' := by
  have hnot : ∀ (x : Bool) (w : World), (Op.unary .not (.bool x)).run Tryz.prog w = .ok (.bool (!x)) w := fun _ _ => rfl
  have hne : (cd == 0) = false := by rw [beq_eq_false_iff_ne]; exact hcd
  have hne' : (cd != 0) = true := by rw [bne_iff_ne]; exact hcd
  have K0 := Lib.hid (heap_alloc_new w (.cells #[.int .i64 uid, .int .i64 seq, .int .i64 flags, .int .i64 at_, .slice AF nF cF, .slice AB nB cB] 27))
  have B0 := Lib.hid (below_alloc (Below.refl w.heap.size w) (.cells #[.int .i64 uid, .int .i64 seq, .int .i64 flags, .int .i64 at_, .slice AF nF cF, .slice AB nB cB] 27))
  have HI := Lib.hid h
  clear h hcd
  unfold stored at *
  go_enter Tryz.func3, Tryz.ntmps3
  go_wp2_with fail
  refine (example_calls _).mono ?_
  rintro e w1 ⟨rfl, hb⟩
  have K1 := Lib.hid (blk_below' K0.out hb)
  have B1 := Lib.hid (B0.out.trans (hb.mono B0.out.size))
  clear hb
  obtain ⟨c0, c1, c2, c3, c4, c5⟩ := blk27_cells K1.out
  go_wp2_with fail
  refine (HI.out sAll _ B1.out).mono ?_
  rintro e w2 ⟨rfl, hb0⟩
  have BX2 := Lib.hid (below_alloc (Below.refl w2.heap.size w2) (.cells #[.int .i64 cd, .int .i64 ix] 30))
  have hb := hb0.trans (BX2.out.mono hb0.size)
  have K2 := Lib.hid (blk_below' K1.out hb)
  have B2 := Lib.hid (B1.out.trans (hb.mono B1.out.size))
  have Q2_2 := Lib.hid (heap_alloc_new w2 (.cells #[.int .i64 cd, .int .i64 ix] 30))
  clear hb hb0 c0 c1 c2 c3 c4 c5
  obtain ⟨c0, c1, c2, c3, c4, c5⟩ := blk27_cells K2.out
  go_wp2_with fail
  refine (HI.out sHeader _ B2.out).mono ?_
  rintro e w3 ⟨rfl, hb0⟩
  have BX3 := Lib.hid (below_alloc (Below.refl w3.heap.size w3) (.cells #[.int .i64 cd, .int .i64 ix] 30))
  have hb := hb0.trans (BX3.out.mono hb0.size)
  have K3 := Lib.hid (blk_below' K2.out hb)
  have B3 := Lib.hid (B2.out.trans (hb.mono B2.out.size))
  have Q2_3 := Lib.hid (blk_below' Q2_2.out hb)
  have Q3_3 := Lib.hid (heap_alloc_new w3 (.cells #[.int .i64 cd, .int .i64 ix] 30))
  clear hb hb0 c0 c1 c2 c3 c4 c5
  obtain ⟨c0, c1, c2, c3, c4, c5⟩ := blk27_cells K3.out
  go_wp2_with fail
  refine (HI.out sText _ B3.out).mono ?_
  rintro e w4 ⟨rfl, hb0⟩
  have BX4 := Lib.hid (below_alloc (Below.refl w4.heap.size w4) (.cells #[.int .i64 cd, .int .i64 ix] 30))
  have hb := hb0.trans (BX4.out.mono hb0.size)
  have K4 := Lib.hid (blk_below' K3.out hb)
  have B4 := Lib.hid (B3.out.trans (hb.mono B3.out.size))
  have Q2_4 := Lib.hid (blk_below' Q2_3.out hb)
  have Q3_4 := Lib.hid (blk_below' Q3_3.out hb)
  have Q4_4 := Lib.hid (heap_alloc_new w4 (.cells #[.int .i64 cd, .int .i64 ix] 30))
  clear hb hb0 c0 c1 c2 c3 c4 c5
  obtain ⟨c0, c1, c2, c3, c4, c5⟩ := blk27_cells K4.out
  go_wp2_with fail
  refine (HI.out sSize _ B4.out).mono ?_
  rintro e w5 ⟨rfl, hb0⟩
  have BX5 := Lib.hid (below_alloc (Below.refl w5.heap.size w5) (.cells #[.int .i64 cd, .int .i64 ix] 30))
  have hb := hb0.trans (BX5.out.mono hb0.size)
  have K5 := Lib.hid (blk_below' K4.out hb)
  have B5 := Lib.hid (B4.out.trans (hb.mono B4.out.size))
  have Q2_5 := Lib.hid (blk_below' Q2_4.out hb)
  have Q3_5 := Lib.hid (blk_below' Q3_4.out hb)
  have Q4_5 := Lib.hid (blk_below' Q4_4.out hb)
  have Q5_5 := Lib.hid (heap_alloc_new w5 (.cells #[.int .i64 cd, .int .i64 ix] 30))
  clear hb hb0 c0 c1 c2 c3 c4 c5
  have q2 := blk_cell Q2_5.out 0
  have q3 := blk_cell Q3_5.out 0
  have q4 := blk_cell Q4_5.out 0
  have q5 := blk_cell Q5_5.out 0
  go_wp2_with fail
  go_ret
  exact ⟨rfl, B5.out⟩
end Go.Proofs.YtjolkgnaeoimeaaGreatDoor.G

/- The law's call, whatever is handed in (small). -/
namespace Go.Proofs.YtjolkgnaeoimeaaGreatDoor.G
open Go.RowKit Go.Proofs.YtjolkgnaeoimeaaGreatDoorW.PrintWords Go.Proofs.YtjolkgnaeoimeaaGreatDoorW.PrintMore
theorem pieceAll : grammar_Piece.f sAll 0 (-1) = some 0 := by decide +kernel
theorem pieceHeader : grammar_Piece.f sHeader 0 (-1) = some 0 := by decide +kernel
theorem pieceText : grammar_Piece.f sText 0 (-1) = some 0 := by decide +kernel
theorem pieceSize : grammar_Piece.f sSize 0 (-1) = some 0 := by decide +kernel
theorem law_all (uid seq flags at_ : Int) (AF : Option Addr) (cF : Nat) (AB : Option Addr) (cB : Nat) (fs : Fw.Flds) (b : Fw.B) (w : World)
    (hF : Kd.C k52 w AF (toF fs).length (toF fs)) (hcF : (toF fs).length ≤ cF) (hB : Kd.C (Kd.int .u8) w AB (numsOf b).length (numsOf b)) (hcB : (numsOf b).length ≤ cB) (hs : Small fs b)
    (htab : ∀ W, Below w.heap.size w W → Lib.TabIs Tryz.prog W "internal/strconv.uint64pow10" .u64 Lib.pow10Tab) :
    Calls Tryz.prog 3 #[stored uid seq flags at_ AF (toF fs).length cF AB (numsOf b).length cB] w fun e w' => e = .returned (.bool true) ∧ Below w.heap.size w w' := by
  have hbl : b.length < big := by unfold Small at hs; unfold big; omega
  have hv := val_ev fs b hs.sm hs.lines hbl hs.wr
  by_cases h0 : (Fw.valF fs b).1 = 0
  · by_cases hfl : 0 ≤ flags ∧ flags ≤ 63
    · obtain ⟨h60, hok, h12, hbody⟩ := Fw.valF_ok h0
      have hlw : (Fw.wr fs b).length = (Fw.wr fs []).length + b.length := by rw [wr_split, List.length_append]
      have hhdr : (Fw.hdrF fs).1 = 0 := by
        unfold Fw.valF at h0
        split at h0
        · rename_i h; exact absurd h0 h
        · rename_i h; exact Classical.not_not.1 h
      obtain ⟨K1, h1⟩ := hv
      obtain ⟨K2, h2⟩ := mWrite_ev fs b hs.sm hs.lines hbl hs.wr h0 hok
      obtain ⟨K3, h3⟩ := hw_ev fs hs.sm hhdr hok hs.lines (by omega)
      obtain ⟨K4, h4⟩ := mRead_ev fs b hs h0
      obtain ⟨K5, h5⟩ := same_ev fs hs.sm.1 (numsOf b)
      obtain ⟨K6, h6⟩ := digits_ev _ (Fw.wr fs b).length (Nat.le_refl _) (by unfold big; omega)
      obtain ⟨k, hk⟩ : ∃ k, k = K1 + K2 + K3 + K4 + K5 + K6 := ⟨_, rfl⟩
      have hV : message_Validate.f k (toF fs) (numsOf b) = some (0, (Fw.valF fs b).2) := (h1 k (by omega)).trans (congrArg some (Prod.ext h0 rfl))
      have hW := h2 k (by omega)
      have hH := h3 k (by omega)
      have hRd := h4 k (by omega)
      have hSm := h5 k (by omega)
      have hDg := h6 k (by omega)
      have hlim : (numsOf (Fw.wr fs b)).length ≤ 140737488355328 := by rw [numsOf_length]; omega
      have hil := small_itoa (Fw.wr fs b).length h12
      have hI : ∀ (s : ByteArray) (sec : List Int), grammar_Piece.f s 0 (-1) = some 0 → sec.length ≤ 140737488355328 → (∀ W, Below w.heap.size w W → SecAt (stored uid seq flags at_ AF (toF fs).length cF AB (numsOf b).length cB) s sec W) → ∀ W, Below w.heap.size w W → ItemAt (stored uid seq flags at_ AF (toF fs).length cF AB (numsOf b).length cB) s sec W := by
        intro s sec hp hl hsec W hW
        exact item_whole k uid seq flags at_ _ AF cF (toF fs) AB cB (numsOf b) s sec W (Kd.C_below hF hW) hcF (Kd.C_below hB hW) hcB hV hfl.1 hfl.2 hp hl (fun W' hW' => hsec W' (hW.trans (hW'.mono hW.size)))
      refine law_good k uid seq flags at_ 0 AF cF (toF fs) (toF fs) AB cB (numsOf b) (numsOf b) (numsOf (Fw.wr fs b)) (numsOf (Fw.wr fs [])) (ofL (Lib.decDigits (Fw.wr fs b).length)) w hF hcF hB hcB
        (hI sAll _ pieceAll hlim (fun W hW' => sec_all k uid seq flags at_ 0 0 AF cF (toF fs) AB cB (numsOf b) _ W (Kd.C_below hF hW') hcF (Kd.C_below hB hW') hcB hW))
        (hI sHeader _ pieceHeader (by rw [numsOf_length]; omega) (fun W hW' => sec_header k uid seq flags at_ 0 0 AF cF (toF fs) AB cB (numsOf b) _ _ W (Kd.C_below hF hW') hcF (Kd.C_below hB hW') hcB hW hH))
        (hI sText _ pieceText (by rw [numsOf_length]; omega) (fun W hW' => sec_text k uid seq flags at_ 0 0 AF cF (toF fs) AB cB (numsOf b) _ W (Kd.C_below hF hW') hcF (Kd.C_below hB hW') hcB hW))
        (hI sSize _ pieceSize ?_ (fun W hW' => ?_)) ?_ hlim hRd hSm ?_
      · rw [numsOf_length, ofL_data, ← Lib.itoa_nonneg]
        have := Lib.itoa_length_le ((Fw.wr fs b).length : Int) (by omega) (by omega)
        omega
      · have h := sec_size k uid seq flags at_ 0 0 AF cF (toF fs) AB cB (numsOf b) (numsOf (Fw.wr fs b)) W (Kd.C_below hF hW') hcF (Kd.C_below hB hW') hcB hW (fun W' hW'' => htab W' (hW'.trans (hW''.mono hW'.size))) (by rw [numsOf_length]; exact hil)
        rw [show Lib.itoa ((numsOf (Fw.wr fs b)).length : Int) = Lib.decDigits (Fw.wr fs b).length by rw [numsOf_length, Lib.itoa_nonneg]] at h
        exact h
      · rw [wr_split, numsOf_append]
      · rw [numsOf_length]; exact hDg
    · obtain ⟨K1, h1⟩ := hv
      have hV : message_Validate.f K1 (toF fs) (numsOf b) = some (0, (Fw.valF fs b).2) := (h1 K1 (Nat.le_refl _)).trans (congrArg some (Prod.ext h0 rfl))
      exact law_bad uid seq flags at_ 3 (-7) AF cF _ AB _ cB w (by decide) (fun s W hW => item_range K1 uid seq flags at_ _ AF cF (toF fs) AB cB (numsOf b) s W (Kd.C_below hF hW) hcF (Kd.C_below hB hW) hcB hV (by omega))
  · obtain ⟨K1, h1⟩ := hv
    exact law_bad uid seq flags at_ (Fw.valF fs b).1 (-6) AF cF _ AB _ cB w h0 (fun s W hW => item_bad K1 uid seq flags at_ (Fw.valF fs b).1 (Fw.valF fs b).2 AF cF (toF fs) AB cB (numsOf b) s W (Kd.C_below hF hW) hcF (Kd.C_below hB hW) hcB (h1 K1 (Nat.le_refl _)) h0)
end Go.Proofs.YtjolkgnaeoimeaaGreatDoor.G

/- What is handed in is opened: the message's fields and its body. -/
namespace Go.Proofs.YtjolkgnaeoimeaaGreatDoor.G
open Go.Deep Go.ChangeShapes Go.WideShapes Go.RowKit Go.Proofs.YtjolkgnaeoimeaaGreatDoorW.PrintWords
theorem bulk_sum {H : Type} (l : List Nat) (f : Nat → DataW H) (g : Nat → Nat) (h : ∀ i ∈ l, g i ≤ Rows.uptoBulk (f i)) : (l.map g).sum ≤ Rows.uptoBulkAll (l.map f) := by
  induction l with
  | nil => simp [Rows.uptoBulkAll]
  | cons a t ih =>
    have h1 := h a (by simp)
    have h2 := ih (fun i hi => h i (by simp [hi]))
    simp only [List.map_cons, List.sum_cons, Rows.uptoBulkAll]
    omega
def strOf : Value → Fw.B
  | .string s => s.data.toList
  | _ => []
theorem cells52 : Tryz.prog.cellsOf 52 = 2 := by kernel_rfl
theorem cells9 : Tryz.prog.cellsOf 9 = 1 := by kernel_rfl
theorem cells5 : Tryz.prog.cellsOf 5 = 1 := by kernel_rfl
theorem open_fields {H : Type} {enc : TypeId × Value → H} {W : World} {base : Nat} {spare : Nat → Bool} {held : Bool} {fuel : Nat} {cs : List Value} {x : DataW H × List MemPlace}
    (h : DataW.trod enc Tryz.prog W base spare held fuel 22 cs = some x) :
    ∃ (A : Option Addr) (c : Nat) (fs : Fw.Flds), cs = [.slice A (toF fs).length c] ∧ (toF fs).length ≤ c ∧ Kd.C k52 W A (toF fs).length (toF fs) ∧ szF fs + fs.length ≤ Rows.uptoBulk x.1 := by
  rcases open_slice_pairs Tryz.underlying22 Tryz.underlying52 cells52 rfl rfl cells9 cells9 h with ⟨rfl, rfl⟩ | ⟨a, len, cap, m, n, V0, V1, D0, D1, P0, P1, rfl, hb, hl, hm, hmm, rfl, hx⟩
  · exact ⟨none, 0, [], rfl, Nat.le_refl _, Kd.C_nil _ _, by simp [szF]⟩
  · have hlm : len ≤ m := by rw [hmm]; split <;> omega
    have hs : ∀ i, i < len → V0 i = .string (ofL (strOf (V0 i))) ∧ V1 i = .string (ofL (strOf (V1 i))) ∧ D0 i = .lit (.string (strOf (V0 i))) ∧ D1 i = .lit (.string (strOf (V1 i))) := by
      intro i hi
      obtain ⟨_, _, h0, h1⟩ := hx i (by omega)
      obtain ⟨s0, e0, d0, _⟩ := DataW.trod_string Tryz.underlying9 h0
      obtain ⟨s1, e1, d1, _⟩ := DataW.trod_string Tryz.underlying9 h1
      simp only [List.cons.injEq, and_true] at e0 e1
      simp only [Prod.mk.injEq] at d0 d1
      rw [e0, e1, d0.1, d1.1]
      exact ⟨rfl, rfl, rfl, rfl⟩
    have hfl : ((List.range len).map fun i => (strOf (V0 i), strOf (V1 i))).length = len := by simp
    refine ⟨some a, cap, (List.range len).map fun i => (strOf (V0 i), strOf (V1 i)), ?_, ?_, ?_, ?_⟩
    · rw [toF_length, hfl]
    · rw [toF_length, hfl]; exact hl
    · have hn : (toF ((List.range len).map fun i => (strOf (V0 i), strOf (V1 i)))).length = len := by rw [toF_length, hfl]
      refine ⟨rfl, by rw [hn]; unfold maxLen at hm; omega, fun _ => ⟨a, rfl, fun j p hj => ?_⟩⟩
      have hjl : j < len := by
        have := (List.getElem?_eq_some_iff.1 hj).1
        omega
      have hp : p = ⟨ofL (strOf (V0 j)), ofL (strOf (V1 j))⟩ := by
        unfold toF at hj
        rw [List.getElem?_map, List.getElem?_map, List.getElem?_range hjl] at hj
        simpa using hj.symm
      subst hp
      obtain ⟨hc0, hc1, _, _⟩ := hx j (by omega)
      obtain ⟨e0, e1, _, _⟩ := hs j hjl
      rw [e0] at hc0
      rw [e1] at hc1
      refine ⟨[.string (ofL (strOf (V0 j))), .string (ofL (strOf (V1 j)))], rfl, k52_mk _ ⟨ofL (strOf (V0 j)), ofL (strOf (V1 j))⟩, fun i u hu => ?_⟩
      match i, hu with
      | 0, hu => cases hu; exact hc0
      | 1, hu => cases hu; exact hc1
    · have hb1 := bulk_sum (List.range len) (fun i => DataW.agg (H := H) [D0 i, D1 i]) (fun i => ((strOf (V0 i)).length + (strOf (V1 i)).length) + 1) (fun i hi => by
        obtain ⟨_, _, d0, d1⟩ := hs i (List.mem_range.1 hi)
        rw [d0, d1]
        simp [Rows.uptoBulk, Rows.uptoBulkAll]
        omega)
      have e : ∀ l : List Nat, (l.map fun i => ((strOf (V0 i)).length + (strOf (V1 i)).length) + 1).sum = szF (l.map fun i => (strOf (V0 i), strOf (V1 i))) + l.length := by
        intro l
        induction l with
        | nil => rfl
        | cons a t ih =>
          have e2 : szF ((a :: t).map fun i => (strOf (V0 i), strOf (V1 i))) = ((strOf (V0 a)).length + (strOf (V1 a)).length) + szF (t.map fun i => (strOf (V0 i), strOf (V1 i))) := rfl
          rw [List.map_cons, List.sum_cons, ih, e2, List.length_cons]
          omega
      rw [e, List.length_range] at hb1
      rw [hfl]
      simp only [Rows.uptoBulk]
      omega
theorem open_body {H : Type} {enc : TypeId × Value → H} {W : World} {base : Nat} {spare : Nat → Bool} {held : Bool} {fuel : Nat} {cs : List Value} {x : DataW H × List MemPlace}
    (h : DataW.trod enc Tryz.prog W base spare held fuel 23 cs = some x) :
    ∃ (A : Option Addr) (c : Nat) (b : Fw.B), cs = [.slice A (numsOf b).length c] ∧ (numsOf b).length ≤ c ∧ Kd.C (Kd.int .u8) W A (numsOf b).length (numsOf b) ∧ b.length ≤ Rows.uptoBulk x.1 := by
  rcases open_ints Tryz.underlying23 Tryz.underlying5 cells5 h with ⟨rfl, rfl⟩ | ⟨a, len, cap, zs, rfl, hb, hl, hm, hz, rfl, hc, hw⟩
  · exact ⟨none, 0, [], rfl, Nat.le_refl _, Kd.C_nil _ _, by simp⟩
  · have hlz : len ≤ zs.length := by rw [hz]; split <;> omega
    have hlen : (zs.take len).length = len := by rw [List.length_take]; omega
    have hnum : numsOf (toB (zs.take len)) = zs.take len := by
      unfold numsOf toB Lib.bytesOf
      rw [List.map_map]
      conv => rhs; rw [← List.map_id (zs.take len)]
      refine List.map_congr_left (fun n hn => ?_)
      have hwf := hw n (List.mem_of_mem_take hn)
      have h0 : 0 ≤ n ∧ n < 256 := by
        simp [Lit.wf, IntKind.min, IntKind.max, IntKind.signed, IntKind.bits] at hwf
        exact ⟨by omega, by omega⟩
      show ((UInt8.ofNat n.toNat).toNat : Int) = n
      rw [UInt8.toNat_ofNat']
      omega
    refine ⟨some a, cap, toB (zs.take len), ?_, ?_, ?_, ?_⟩
    · rw [hnum, hlen]
    · rw [hnum, hlen]; exact hl
    · rw [hnum, hlen]
      refine Kd.C_of_reads (enc := Value.int .u8) (d := (0 : Int)) (h1 := fun _ => rfl) ⟨hlen, by unfold maxLen at hm; omega, fun _ => ⟨a, rfl, fun j hj => ?_⟩⟩
      rw [hc j (by omega), List.getD_eq_getElem?_getD, List.getD_eq_getElem?_getD, List.getElem?_take_of_lt hj]
    · have hlits : ∀ l : List Int, l.length ≤ Rows.uptoBulkAll (lits (H := H) .u8 l) := by
        intro l
        induction l with
        | nil => simp [lits, Rows.uptoBulkAll]
        | cons a t ih =>
          have e : lits (H := H) .u8 (a :: t) = .lit (.int .u8 a) :: lits .u8 t := rfl
          rw [e]
          simp only [Rows.uptoBulkAll, Rows.uptoBulk, List.length_cons]
          omega
      have h1 := hlits (zs.take len)
      have h2 : (toB (zs.take len)).length = len := by unfold toB Lib.bytesOf; rw [List.length_map]; exact hlen
      simp only [Rows.uptoBulk]
      omega
end Go.Proofs.YtjolkgnaeoimeaaGreatDoor.G

/- The row: the law's contract lifted, where what is read is of bulk at most 1048576; the card. -/
namespace Go.Proofs.YtjolkgnaeoimeaaGreatDoor.G
open Go.ChangeShapes Go.WideShapes Go.ChangeAt Go.RowKit Go.Proofs.YtjolkgnaeoimeaaGreatDoorW.PrintWords
theorem own : ownKnob Tryz.prog.godebug = none := by kernel_rfl
theorem laidOut : laidOutB Tryz.prog = true := by kernel_rfl
theorem gPow : Tryz.prog.globalNamed "internal/strconv.uint64pow10" = some 1 := by kernel_rfl
theorem gPowType : (Tryz.prog.globals[1]?).map (·.type) = some 178 := by kernel_rfl
theorem cells178 : Tryz.prog.cellsOf 178 = 20 := by kernel_rfl
theorem cells27 : Tryz.prog.cellsOf 27 = 6 := by kernel_rfl
theorem cells25 : Tryz.prog.cellsOf 25 = 2 := by kernel_rfl
theorem laid_tail {P : Program} {x : String × DataW Unit} {l : List (String × DataW Unit)} {w : World} (h : laidMet P (x :: l) w) : laidMet P l w := by
  obtain ⟨ps, ⟨g, t, cs, fuel, p, q, _, _, _, _, hq, rfl⟩, hn, hr⟩ := h
  exact ⟨q, hq, (List.nodup_append.1 hn).2.1, fun b off hm => hr b off (List.mem_append.2 (.inr hm))⟩
set_option maxRecDepth 100000 in
theorem table {W : World} (h : laidMetH Tryz.prog Rows.fetchWholeIsHeaderAndTextUptoRow.laid W) : Lib.TabIs Tryz.prog W "internal/strconv.uint64pow10" .u64 Lib.pow10Tab := by
  have h1 : laidMet Tryz.prog Rows.fetchWholeIsHeaderAndTextUptoRow.laid W := h
  exact Lib.tabIs_of_head (rest := [("unicode/utf8.acceptRanges", Rows.laid_unicode_utf8_acceptRanges), ("strconv.ErrRange", Rows.laid_strconv_ErrRange), ("strconv.ErrSyntax", Rows.laid_strconv_ErrSyntax), ("unicode/utf8.first", Rows.laid_unicode_utf8_first)]) gPow gPowType Tryz.underlying178 Tryz.underlying136 (by kernel_rfl) cells178 (laid_tail (laid_tail h1))
/-- What is handed in reads behind the call as it read before; blocks of the call's own may be frozen. -/
theorem post_same_below {H : Type} {enc : TypeId × Value → H} {P : Program} {f : Func} {s : ChangeSpec} {apart fresh handsOn again : Bool} {W W' : World} {args : Array Value} {v : Value} {ds gs : List (DataW H)} {before pa pv : List MemPlace}
    (hW : DataW.Whole enc P f.params.toList s.vars apart W args.toList ds gs before)
    (hres : ∀ (b : Nat) (sp : Nat → Bool) (hd : Bool), DataW.TrodAll enc P W' b sp hd f.resultTypes.toList (v.resultList f.resultTypes.size) (s.fn H (ds ++ gs)).results [])
    (hargs : ∀ sp : Nat → Bool, (∀ p ∈ before, sp p.block = true) → DataW.TrodAll enc P W' 0 sp true f.params.toList args.toList (s.fn H (ds ++ gs)).args pa)
    (hvars : ∀ sp : Nat → Bool, (∀ p ∈ before, sp p.block = true) → DataW.TrodVars enc P W' sp s.vars (s.fn H (ds ++ gs)).vars pv)
    (hps : before = pa ++ pv) (hk : W.keptBut W' (· ∈ before)) (hfz : ∀ a : Addr, a.block < W.heap.size → W'.frozen? a = W.frozen? a)
    (hok : ∀ (j : Nat) (t : TypeId) (r : Value), f.resultTypes[j]? = some t → (v.resultList f.resultTypes.size)[j]? = some r → Value.okWide P W' .any 0 t r) :
    s.post enc P f apart fresh handsOn again W args v W' := by
  have hold : ∀ p ∈ before, (fun b => decide (b < W.heap.size)) p.block = true := fun p hp => by simpa using hW.lt p hp
  have hin := fun p hp => hW.lt p hp
  refine ⟨ds, gs, before, [], pa, pv, hW, hres _ _ _, hargs _ hold, hvars _ hold, World.keptBut_mono (fun p hp => ⟨hp, ?_⟩) hk, fun _ => ?_⟩
  · rw [hps, List.mem_append] at hp
    exact Or.inr hp
  · obtain ⟨_, _, _, _, _, hz, hn⟩ := hW
    refine ⟨hok, _, _, ([] ++ pa) ++ pv, ⟨[] ++ pa, pv, trodAll_append (hargs _ (fun _ _ => rfl)) (hres _ _ _), hvars _ (fun _ _ => rfl), rfl, ?_, ?_⟩, ?_⟩
    · intro b off hp
      have hm : MemPlace.cell b off ∈ before := by rw [hps]; simpa using hp
      rw [hfz _ (hin _ hm)]
      exact hz b off hm
    · intro ha
      have := hn ha
      rw [hps] at this
      simpa using this
    · intro p hp _
      rw [hps]
      simpa using hp
set_option maxRecDepth 100000 in
/-- What the walk gives, for every message that is small and every world that holds the table. -/
theorem contract (H : Type) (enc : TypeId × Value → H) (W : World) (base : Nat) (args : Array Value) (ds gs : List (DataW H)) (before : List MemPlace)
    (hval : ∀ (j : Nat) t v, Tryz.f3.params[j]? = some t → args[j]? = some v → Value.okWide Tryz.prog W .any base t v)
    (hW : DataW.Whole enc Tryz.prog Tryz.f3.params.toList Rows.fetchWholeIsHeaderAndTextSpec.vars false W args.toList ds gs before) (hL : laidMetH Tryz.prog Rows.fetchWholeIsHeaderAndTextUptoRow.laid W)
    (hk : Rows.uptoSmall H (ds ++ gs) = true) :
    Calls Tryz.prog 3 args W fun e W' => ∃ v, e = .returned v ∧ Rows.fetchWholeIsHeaderAndTextSpec.post enc Tryz.prog Tryz.f3 false true false false W args v W' := by
  have hW' := hW
  obtain ⟨p, q, hA0, hV, rfl, hfz, hnd⟩ := hW
  have hA : DataW.TrodAll enc Tryz.prog W 0 (fun _ => true) true Tryz.f3.params.toList args.toList ds p := hA0
  rw [Tryz.params3] at hA hval
  obtain ⟨v0, vs0, d0, ds0, p0, q0, hargs, rfl, rfl, h0, r0⟩ := trodAll_cons hA
  obtain ⟨rfl, rfl, rfl⟩ := trodAll_nil r0
  obtain rfl : args = #[v0] := by cases args; simp_all
  obtain ⟨rfl, rfl⟩ := trodVars_none hV
  clear hA0
  simp only [List.append_nil] at hW' hk
  obtain ⟨cs, rfl, hsz⟩ := okWide_struct Tryz.underlying27 (hval 0 27 v0 rfl rfl)
  have h0k := h0
  obtain ⟨l⟩ := cs
  match l, hsz.trans cells27 with
  | [c0, c1, c2, c3, c4, c5], _ =>
    obtain ⟨fuel, hf⟩ := h0
    obtain ⟨xs, n, _, hx, _, hlen, hg⟩ := DataW.trod_struct Tryz.underlying27 hf
    match xs, hlen with
    | [y0, y1, y2, y3, y4], _ =>
      simp only [Prod.mk.injEq] at hx
      have k3 : Tryz.prog.cellsOf 3 = 1 := by kernel_rfl
      have g0 : DataW.trod enc Tryz.prog W 0 (fun _ => true) true n 3 [c0] = some y0 := by simpa [Value.cells, k3] using hg 0 _ rfl
      have g1 : DataW.trod enc Tryz.prog W 0 (fun _ => true) true n 3 [c1] = some y1 := by simpa [Value.cells, k3] using hg 1 _ rfl
      have g2 : DataW.trod enc Tryz.prog W 0 (fun _ => true) true n 3 [c2] = some y2 := by simpa [Value.cells, k3] using hg 2 _ rfl
      have g3 : DataW.trod enc Tryz.prog W 0 (fun _ => true) true n 3 [c3] = some y3 := by simpa [Value.cells, k3] using hg 3 _ rfl
      have g4 : DataW.trod enc Tryz.prog W 0 (fun _ => true) true n 25 [c4, c5] = some y4 := by simpa [Value.cells, cells25] using hg 4 _ rfl
      obtain ⟨uid, e0, _, _⟩ := DataW.trod_int Tryz.underlying3 g0
      obtain ⟨seq, e1, _, _⟩ := DataW.trod_int Tryz.underlying3 g1
      obtain ⟨flags, e2, _, _⟩ := DataW.trod_int Tryz.underlying3 g2
      obtain ⟨at_, e3, _, _⟩ := DataW.trod_int Tryz.underlying3 g3
      obtain ⟨z0, z1, m, ez, _, f0, f1⟩ := trod_struct2 Tryz.underlying25 g4
      have k22 : Tryz.prog.cellsOf 22 = 1 := by kernel_rfl
      have k23 : Tryz.prog.cellsOf 23 = 1 := by kernel_rfl
      have f0' : DataW.trod enc Tryz.prog W 0 (fun _ => true) true m 22 [c4] = some z0 := by simpa [k22] using f0
      have f1' : DataW.trod enc Tryz.prog W 0 (fun _ => true) true m 23 [c5] = some z1 := by simpa [k23] using f1
      obtain ⟨AF, cF, fs, eF, hcF, hCF, bF⟩ := open_fields f0'
      obtain ⟨AB, cB, b, eB, hcB, hCB, bB⟩ := open_body f1'
      obtain rfl : c0 = .int .i64 uid := by simpa using e0
      obtain rfl : c1 = .int .i64 seq := by simpa using e1
      obtain rfl : c2 = .int .i64 flags := by simpa using e2
      obtain rfl : c3 = .int .i64 at_ := by simpa using e3
      obtain rfl : c4 = .slice AF (toF fs).length cF := by simpa using eF
      obtain rfl : c5 = .slice AB (numsOf b).length cB := by simpa using eB
      have hbulk : Rows.uptoBulkAll [d0] ≤ 1048576 := of_decide_eq_true hk
      have hsmall : Small fs b := by
        rw [hx.1, ez] at hbulk
        simp only [List.map_cons, List.map_nil, Rows.uptoBulkAll, Rows.uptoBulk] at hbulk
        unfold Small
        omega
      have htab := Lib.tabBelow_of_tabIs (table hL)
      refine (law_all uid seq flags at_ AF cF AB cB fs b W hCF hcF hCB hcB hsmall htab).mono fun e W' ⟨he, hb⟩ => ?_
      subst he
      have hlt : ∀ x ∈ p0, x.block < W.heap.size := fun x hx => by simpa using hW'.lt x (by simpa using hx)
      exact ⟨_, rfl, post_same_below (pa := p0 ++ []) (pv := []) hW' (fun _ _ _ => trodAll_cons_mk (shut_bool Tryz.underlying4 _) trodAll_mk0)
        (fun sp hsp => trodAll_cons_mk (WideElems.Trod_stays laidOut (by kernel_rfl) (of_decide_eq_true (by kernel_rfl)) h0k (fun x hx => hb.same (hlt x hx)) (fun x hx => hsp x (by simpa using hx))) trodAll_mk0)
        (fun _ _ => rfl) (by simp) (hb.frame _) (fun a ha => hb.frozen ha) (ok_one (by kernel_rfl) rfl (okWide_bool_mk Tryz.underlying4 _))⟩
noncomputable def laidWorld (os : Os) : World :=
  let N := (World.settled Tryz.prog os).heap.size
  let w0 := World.holding Tryz.prog os ⟨#[.cells #[.string ⟨#[118, 97, 108, 117, 101, 32, 111, 117, 116, 32, 111, 102, 32, 114, 97, 110, 103, 101]⟩] 268, .cells #[.string ⟨#[105, 110, 118, 97, 108, 105, 100, 32, 115, 121, 110, 116, 97, 120]⟩] 268], #[], []⟩
  let put (h : Array Obj) (g : Nat) (cs : Array Value) : Array Obj := h.modify g fun
    | .cells _ t frozen => .cells cs t frozen
    | o => o
  let h1 := put w0.heap 1 #[.int .u64 1, .int .u64 10, .int .u64 100, .int .u64 1000, .int .u64 10000, .int .u64 100000, .int .u64 1000000, .int .u64 10000000, .int .u64 100000000, .int .u64 1000000000, .int .u64 10000000000, .int .u64 100000000000, .int .u64 1000000000000, .int .u64 10000000000000, .int .u64 100000000000000, .int .u64 1000000000000000, .int .u64 10000000000000000, .int .u64 100000000000000000, .int .u64 1000000000000000000, .int .u64 10000000000000000000]
  let h2 := put h1 2 (Lib.firstTab.map fun z => Value.int .u8 z).toArray
  let h3 := put h2 3 #[.int .u8 128, .int .u8 191, .int .u8 160, .int .u8 191, .int .u8 128, .int .u8 159, .int .u8 144, .int .u8 191, .int .u8 128, .int .u8 143, .int .u8 0, .int .u8 0, .int .u8 0, .int .u8 0, .int .u8 0, .int .u8 0, .int .u8 0, .int .u8 0, .int .u8 0, .int .u8 0, .int .u8 0, .int .u8 0, .int .u8 0, .int .u8 0, .int .u8 0, .int .u8 0, .int .u8 0, .int .u8 0, .int .u8 0, .int .u8 0, .int .u8 0, .int .u8 0]
  let h4 := put h3 4 #[.int .u8 0, .int .u8 1, .int .u8 28, .int .u8 2, .int .u8 29, .int .u8 14, .int .u8 24, .int .u8 3, .int .u8 30, .int .u8 22, .int .u8 20, .int .u8 15, .int .u8 25, .int .u8 17, .int .u8 4, .int .u8 8, .int .u8 31, .int .u8 27, .int .u8 13, .int .u8 23, .int .u8 21, .int .u8 19, .int .u8 16, .int .u8 7, .int .u8 26, .int .u8 12, .int .u8 18, .int .u8 6, .int .u8 11, .int .u8 5, .int .u8 10, .int .u8 9]
  let h5 := put h4 5 #[.int .u8 0, .int .u8 1, .int .u8 56, .int .u8 2, .int .u8 57, .int .u8 49, .int .u8 28, .int .u8 3, .int .u8 61, .int .u8 58, .int .u8 42, .int .u8 50, .int .u8 38, .int .u8 29, .int .u8 17, .int .u8 4, .int .u8 62, .int .u8 47, .int .u8 59, .int .u8 36, .int .u8 45, .int .u8 43, .int .u8 51, .int .u8 22, .int .u8 53, .int .u8 39, .int .u8 33, .int .u8 30, .int .u8 24, .int .u8 18, .int .u8 12, .int .u8 5, .int .u8 63, .int .u8 55, .int .u8 48, .int .u8 27, .int .u8 60, .int .u8 41, .int .u8 37, .int .u8 16, .int .u8 46, .int .u8 35, .int .u8 44, .int .u8 21, .int .u8 52, .int .u8 32, .int .u8 23, .int .u8 11, .int .u8 54, .int .u8 26, .int .u8 40, .int .u8 15, .int .u8 34, .int .u8 20, .int .u8 31, .int .u8 10, .int .u8 25, .int .u8 14, .int .u8 19, .int .u8 9, .int .u8 13, .int .u8 8, .int .u8 7, .int .u8 6]
  let h6 := put h5 6 #[.iface 266 (.pointer (some ⟨N + 1, 0, none⟩))]
  let h7 := put h6 7 #[.iface 266 (.pointer (some ⟨N, 0, none⟩))]
  { w0 with heap := h7 }
def arg0 : Value := .agg #[.int .i64 0, .int .i64 0, .int .i64 0, .int .i64 0, .slice none 0 0, .slice none 0 0]
theorem laid_met (os : Os) : laidMet Tryz.prog Rows.fetchWholeIsHeaderAndTextUptoRow.laid ((laidWorld os).forCall (fun _ _ => 0) ⟨#[], #[arg0], []⟩).memory :=
  laidMet_of_run' 12 (by kernel_rfl) (by kernel_rfl)
theorem reads (os : Os) {H : Type} (enc : TypeId × Value → H) : ∃ places, DataW.whole enc Tryz.prog ((laidWorld os).forCall (fun _ _ => 0) ⟨#[], #[arg0], []⟩).memory Tryz.f3.params.toList Rows.fetchWholeIsHeaderAndTextSpec.vars false #[arg0].toList 8 = some ([.agg [.lit (.int .i64 0), .lit (.int .i64 0), .lit (.int .i64 0), .lit (.int .i64 0), .agg [.nil, .nil]]], [], places) :=
  ⟨[], by kernel_rfl⟩
set_option maxRecDepth 100000 in
theorem liftedUpto (os : Os) (started : os.Started) (H : Type) (enc : TypeId × Value → H) (F : Stop.Interp) :
    ReturnsInHanded {} Tryz.checked os 3 .any ((Rows.OpenSpec.upto Rows.fetchWholeIsHeaderAndTextSpec).preRow enc Tryz.prog Tryz.f3 Rows.fetchWholeIsHeaderAndTextUptoRow.domain false Rows.fetchWholeIsHeaderAndTextUptoRow.laid) (((Rows.OpenSpec.upto Rows.fetchWholeIsHeaderAndTextSpec).at F).post enc Tryz.prog Tryz.f3 false true false false) := by
  obtain ⟨places, hx⟩ := reads os enc
  refine returnsInHanded_of_row (C := Tryz.checked) (s := Rows.OpenSpec.upto Rows.fetchWholeIsHeaderAndTextSpec) own started (by kernel_rfl) Tryz.func3
    (witness_row_atRef (enc := enc) (C := Tryz.checked) false (laidWorld os) #[arg0] rfl (by kernel_rfl) (by kernel_rfl) (by kernel_rfl)
      (OpenSpec.preRow_of_cond 8 hx (by kernel_rfl) (fun k hk => by cases hk; kernel_rfl) (by kernel_rfl) (laid_met os))) ?_
  intro W base args ds gs before hval hW _ hcond _ hL _ _
  exact contract H enc W base args ds gs before hval hW hL (hcond _ rfl)
end Go.Proofs.YtjolkgnaeoimeaaGreatDoor.G
namespace Go.Proofs.YtjolkgnaeoimeaaGreatDoor
theorem saidUpto : Rows.FetchWholeIsHeaderAndTextUptoSaid :=
  OpenClaim.holds_of_cond 3 Tryz.f3 rfl rfl rfl rfl rfl rfl rfl ⟨rfl, rfl, rfl, rfl, rfl⟩ rfl rfl rfl rfl rfl (by kernel_rfl) Tryz.func3 (by kernel_rfl)
    (of_decide_eq_true (by kernel_rfl)) (by unfold Func.isWrapper; first | (rw [if_pos (by decide +kernel)]; kernel_rfl) | (rw [if_neg (by decide +kernel)]; exact ⟨rfl, rfl⟩))
    (fun os started H enc _ F => by rw [OpenClaim.pre_eq_preRow]; exact G.liftedUpto os started H enc F)
end Go.Proofs.YtjolkgnaeoimeaaGreatDoor

/- FetchWholeIsHeaderAndText returns true for every stored message that is given; what it reads is of bulk at most 1048576, and the listed package variables hold what the program's text lays. -/
namespace Go.Proofs.YtjolkgnaeoimeaaGreatDoor
open Go.ChangeShapes Go.WideShapes Go.ChangeAt Go.RowKit
theorem plain (f : FuncId) (fn : Func) (hf : Tryz.pinned.checked.prog.funcNamed "posthouse/posthouselaw8.FetchWholeIsHeaderAndText" = some f) (hfn : Tryz.pinned.checked.prog.funcs[f]? = some fn) :
    true = Tryz.pinned.checked.prog.looks [] ∧ ∀ (j : Nat) t, fn.params[j]? = some t → Tryz.pinned.checked.prog.wantsStandIn t = false := by
  obtain rfl : f = 3 := Option.some.inj ((show Tryz.prog.funcNamed "posthouse/posthouselaw8.FetchWholeIsHeaderAndText" = some 3 by kernel_rfl).symm.trans hf) |>.symm
  obtain rfl : fn = Tryz.f3 := (Option.some.inj (Tryz.func3.symm.trans hfn)).symm
  refine ⟨by kernel_rfl, fun j t ht => ?_⟩
  rw [Tryz.params3] at ht
  obtain rfl : t = 27 := by simpa using Array.mem_of_getElem? ht
  exact (show Tryz.prog.wantsStandIn 27 = false by kernel_rfl)
/-- The card of FetchWholeIsHeaderAndText, the second form. -/
theorem fetchWholeUptoCard : Rows.FetchWholeIsHeaderAndTextUptoCardSaid :=
  Claim7.holds_tied_plain_at .later [] _ _ _ _ saidUpto (fun _ h => by cases h) (by kernel_rfl) (fun _ h => by cases h) fetchWholeIsHeaderAndTextUpto_row_tie rfl ⟨rfl, rfl⟩ (by kernel_rfl) rfl plain (by kernel_rfl)
#print axioms fetchWholeUptoCard
end Go.Proofs.YtjolkgnaeoimeaaGreatDoor

