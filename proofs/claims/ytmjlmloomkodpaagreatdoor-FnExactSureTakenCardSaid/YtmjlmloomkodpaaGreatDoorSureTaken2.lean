/- Written for this claim by its session's own programs: contracts of the functions that the law reaches, and the plain law over them (part 2 of 6). -/
import Derived.Test.YtmjlmloomkodpaaGreatDoorSureTaken0
import Derived.Test.YtmjlmloomkodpaaGreatDoorSureTaken1
namespace Go.Proofs.YtmjlmloomkodpaaGreatDoor.PA
open Go.RowKit Go.Proofs.ae.aw Go.Proofs.ae.aJ Go.Proofs.ae.aN
attribute [local go_sem] bo bm bC bB a6 aZ bn bj
set_option linter.unusedVariables false
set_option linter.unusedSimpArgs false
def fU.f (k : Nat) (a0_0 : Int) (a0_1 : Int) (l0_2 : List Int) (l0_3 : List Int) (a0_4 : Int) (a0_5 : Bool) (a0_6 : Int) (a1 : Bool) : Option (Int × Int × List Int × List Int × Int × Bool × Int) := (fV.f k a0_0 a0_1 l0_2 l0_3 a1).bind fun bt440 => (some (bt440.1, bt440.2.1, bt440.2.2.1, bt440.2.2.2, a0_4, a0_5, a0_6))
set_option maxHeartbeats 8000000 in
set_option maxRecDepth 100000 in
theorem fU.calls (k : Nat) (a0_0 : Int) (a0_1 : Int) (A0_2 : Option Addr) (c0_2 : Nat) (l0_2 : List Int) (A0_3 : Option Addr) (c0_3 : Nat) (l0_3 : List Int) (a0_4 : Int) (a0_5 : Bool) (a0_6 : Int) (a1 : Bool) (r1 : Int) (r2 : Int) (r3 : List Int) (r4 : List Int) (r5 : Int) (r6 : Bool) (r7 : Int) (w : World) (ca : Kd.C (Kd.int .i64) w A0_2 l0_2.length l0_2) (bX : l0_2.length ≤ c0_2) (b0 : Kd.C (Kd.int .i64) w A0_3 l0_3.length l0_3) (bW : l0_3.length ≤ c0_3) (h : fU.f k a0_0 a0_1 l0_2 l0_3 a0_4 a0_5 a0_6 a1 = some (r1, r2, r3, r4, r5, r6, r7)) :
  Calls Tryz.prog 11 #[.agg #[.int .i64 a0_0, .int .i64 a0_1, .slice A0_2 l0_2.length c0_2, .slice A0_3 l0_3.length c0_3, .int .i64 a0_4, .bool a0_5, .int .i64 a0_6], .bool a1] w fun e w' => ∃ v2_ v3_ : Value, e = .returned (.agg #[.int .i64 r1, .int .i64 r2, v2_, v3_, .int .i64 r5, .bool r6, .int .i64 r7]) ∧ Kd.R (Kd.int .i64) 3 w' w.heap.size (fun k_ => some k_ ≠ (v3_ : Value).ownBlock) v2_ r3 ∧ Kd.R (Kd.int .i64) 3 w' w.heap.size (fun k_ => some k_ ≠ (v2_ : Value).ownBlock) v3_ r4 ∧ Below w.heap.size w w' := by
 have hu26 := Tryz.underlying26
 have hu32 := Tryz.underlying32
 have hu24 := Tryz.underlying24
 have hu28 := Tryz.underlying28
 have cy := aa.mk ca
 have cD := aa.mk bX
 clear ca bX
 have cF := aa.mk b0
 have cK := aa.mk bW
 clear b0 bW
 have HB := aa.mk (Below.refl w.heap.size w)
 have H : ((fV.f k a0_0 a0_1 l0_2 l0_3 a1).bind fun bt440 => (some (bt440.1, bt440.2.1, bt440.2.2.1, bt440.2.2.2, a0_4, a0_5, a0_6))) = some (r1, r2, r3, r4, r5, r6, r7) := h
 clear h
 replace H := Option.bind_eq_some_iff.mp H
 obtain ⟨⟨t440, t441, t442, t445⟩, A30, H⟩ := H
 replace H : (some (t440, t441, t442, t445, a0_4, a0_5, a0_6)) = some (r1, r2, r3, r4, r5, r6, r7) := H
 have A3 := aa.mk A30
 clear A30
 simp only [Option.some.injEq, Prod.mk.injEq] at H
 obtain ⟨rfl, rfl, rfl, rfl, rfl, rfl, rfl⟩ := H
 go_enter Tryz.func11, Tryz.ntmps11
 go_wp2_with (first | ((with_reducible refine aV (N := 2) rfl ?_); refine aM ?hg (N := 2) ?hd (cs := #[.int .i64 a0_0, .int .i64 a0_1, .slice A0_2 l0_2.length c0_2, .slice A0_3 l0_3.length c0_3, .int .i64 a0_4, .bool a0_5, .int .i64 a0_6]) (t := 26) ?hr ?_; (case hd => rfl); (case hg => rfl); (case hr => first | (go_simp; done) | (go_simp; rfl)); intro dg hg w4 hbox hb; have n0_ := aa.mk (ar (by repeat (first | (with_reducible first | exact HB.out | apply ag | apply af | apply ah) | exact HB.out)) hb); have n1_ := aa.mk (hbox); have n2_ := aa.mk ((by rw [hg]; exact (aq (by repeat (first | (with_reducible first | exact HB.out | apply ag | apply af | apply ah) | exact HB.out))) : w.heap.size ≤ dg)); have n3_ := aa.mk ((by rw [hg]; exact (aq (by repeat (first | (with_reducible first | exact HB.out | apply ag | apply af | apply ah) | exact HB.out))) : w.heap.size ≤ dg)); clear HB; have HB := n0_; have cn := n1_; have FZ := n2_; have gJ := n3_; clear n0_ n1_ n2_ n3_; clear hb hbox hg) | ((with_reducible refine aV (N := 4) rfl ?_); refine aM ?hg (N := 4) ?hd (cs := #[.int .i64 0, .int .i64 0, .slice none 0 0, .slice none 0 0, .int .i64 0, .bool false, .int .i64 0]) (t := 32) ?hr ?_; (case hd => rfl); (case hg => rfl); (case hr => first | (go_simp; done) | (go_simp; rfl)); intro cO hg w5 hbox hb; have n0_ := aa.mk (aD (g := dg) (o := .cells #[.int .i64 a0_0, .int .i64 a0_1, .slice A0_2 l0_2.length c0_2, .slice A0_3 l0_3.length c0_3, .int .i64 a0_4, .bool a0_5, .int .i64 a0_6] 26 (0, 0)) (by (with_reducible repeat (first | refine al ?_ _ | refine ao ?_ | refine an ?_ _)); exact cn.out) hb); have n1_ := aa.mk (ar (by repeat (first | (with_reducible first | exact HB.out | apply ag | apply af | apply ah | refine ak ?_ gJ.out) | exact HB.out)) hb); have n2_ := aa.mk (hbox); have n3_ := aa.mk ((by rw [hg]; exact (aq (by repeat (first | (with_reducible first | exact HB.out | apply ag | apply af | apply ah | refine ak ?_ gJ.out) | exact HB.out))) : w.heap.size ≤ cO)); have n4_ := aa.mk ((by rw [hg]; exact (aq (by repeat (first | (with_reducible first | exact HB.out | apply ag | apply af | apply ah | refine ak ?_ gJ.out) | exact HB.out))) : w.heap.size ≤ cO)); have n5_ := aa.mk ((by rw [hg]; exact Nat.ne_of_lt (a7 (g := dg) (o := .cells #[.int .i64 a0_0, .int .i64 a0_1, .slice A0_2 l0_2.length c0_2, .slice A0_3 l0_3.length c0_3, .int .i64 a0_4, .bool a0_5, .int .i64 a0_6] 26 (0, 0)) (by (with_reducible repeat (first | refine al ?_ _ | refine ao ?_ | refine an ?_ _)); exact cn.out)) : dg ≠ cO)); have n6_ := aa.mk ((by rw [hg]; exact Nat.ne_of_gt (a7 (g := dg) (o := .cells #[.int .i64 a0_0, .int .i64 a0_1, .slice A0_2 l0_2.length c0_2, .slice A0_3 l0_3.length c0_3, .int .i64 a0_4, .bool a0_5, .int .i64 a0_6] 26 (0, 0)) (by (with_reducible repeat (first | refine al ?_ _ | refine ao ?_ | refine an ?_ _)); exact cn.out)) : cO ≠ dg)); clear cn; clear HB; have cn := n0_; have HB := n1_; have dr := n2_; have FY := n3_; have jG := n4_; have nU := n5_; have nS := n6_; clear n0_ n1_ n2_ n3_ n4_ n5_ n6_; clear hb hbox hg) | ((with_reducible refine aV (N := 5) rfl ?_); refine aM ?hg (N := 5) ?hd (cs := #[.int .i64 0, .int .i64 0, .slice none 0 0, .slice none 0 0, .int .i64 0, .bool false, .int .i64 0]) (t := 32) ?hr ?_; (case hd => rfl); (case hg => rfl); (case hr => first | (go_simp; done) | (go_simp; rfl)); intro dd hg w6 hbox hb; have n0_ := aa.mk (aD (g := dg) (o := .cells #[.int .i64 a0_0, .int .i64 a0_1, .slice A0_2 l0_2.length c0_2, .slice A0_3 l0_3.length c0_3, .int .i64 a0_4, .bool a0_5, .int .i64 a0_6] 26 (0, 0)) (by (with_reducible repeat (first | refine al ?_ _ | refine ao ?_ | refine an ?_ _)); exact cn.out) hb); have n1_ := aa.mk (aD (g := cO) (o := .cells #[.int .i64 0, .int .i64 0, .slice none 0 0, .slice none 0 0, .int .i64 0, .bool false, .int .i64 0] 32 (0, 0)) (by (with_reducible repeat (first | refine al ?_ _ | refine ao ?_ | refine an ?_ _)); exact dr.out) hb); have n2_ := aa.mk (ar (by repeat (first | (with_reducible first | exact HB.out | apply ag | apply af | apply ah | refine ak ?_ gJ.out | refine ak ?_ jG.out) | exact HB.out)) hb); have n3_ := aa.mk (hbox); have n4_ := aa.mk ((by rw [hg]; exact (aq (by repeat (first | (with_reducible first | exact HB.out | apply ag | apply af | apply ah | refine ak ?_ gJ.out | refine ak ?_ jG.out) | exact HB.out))) : w.heap.size ≤ dd)); have n5_ := aa.mk ((by rw [hg]; exact (aq (by repeat (first | (with_reducible first | exact HB.out | apply ag | apply af | apply ah | refine ak ?_ gJ.out | refine ak ?_ jG.out) | exact HB.out))) : w.heap.size ≤ dd)); have n6_ := aa.mk ((by rw [hg]; exact Nat.ne_of_lt (a7 (g := dg) (o := .cells #[.int .i64 a0_0, .int .i64 a0_1, .slice A0_2 l0_2.length c0_2, .slice A0_3 l0_3.length c0_3, .int .i64 a0_4, .bool a0_5, .int .i64 a0_6] 26 (0, 0)) (by (with_reducible repeat (first | refine al ?_ _ | refine ao ?_ | refine an ?_ _)); exact cn.out)) : dg ≠ dd)); have n7_ := aa.mk ((by rw [hg]; exact Nat.ne_of_gt (a7 (g := dg) (o := .cells #[.int .i64 a0_0, .int .i64 a0_1, .slice A0_2 l0_2.length c0_2, .slice A0_3 l0_3.length c0_3, .int .i64 a0_4, .bool a0_5, .int .i64 a0_6] 26 (0, 0)) (by (with_reducible repeat (first | refine al ?_ _ | refine ao ?_ | refine an ?_ _)); exact cn.out)) : dd ≠ dg)); have n8_ := aa.mk ((by rw [hg]; exact Nat.ne_of_lt (a7 (g := cO) (o := .cells #[.int .i64 0, .int .i64 0, .slice none 0 0, .slice none 0 0, .int .i64 0, .bool false, .int .i64 0] 32 (0, 0)) (by (with_reducible repeat (first | refine al ?_ _ | refine ao ?_ | refine an ?_ _)); exact dr.out)) : cO ≠ dd)); have n9_ := aa.mk ((by rw [hg]; exact Nat.ne_of_gt (a7 (g := cO) (o := .cells #[.int .i64 0, .int .i64 0, .slice none 0 0, .slice none 0 0, .int .i64 0, .bool false, .int .i64 0] 32 (0, 0)) (by (with_reducible repeat (first | refine al ?_ _ | refine ao ?_ | refine an ?_ _)); exact dr.out)) : dd ≠ cO)); clear cn; clear dr; clear HB; have cn := n0_; have dr := n1_; have HB := n2_; have ec := n3_; have FX := n4_; have nu := n5_; have nT := n6_; have nR := n7_; have dQ := n8_; have nQ := n9_; clear n0_ n1_ n2_ n3_ n4_ n5_ n6_ n7_ n8_ n9_; clear hb hbox hg; have hnb7 := nU.out; have hnc7 := nS.out; have Bn := nT.out; have Bm := nR.out; have gS : w6.cell? ⟨dg, 0, none⟩ = some (.int .i64 a0_0) := (ai cn.out 0).trans rfl; have gR : w6.cell? ⟨dg, 1, none⟩ = some (.int .i64 a0_1) := (ai cn.out 1).trans rfl; have iD : w6.cell? ⟨dg, 2, none⟩ = some (.slice A0_2 l0_2.length c0_2) := (ai cn.out 2).trans rfl; have iC : w6.cell? ⟨dg, 3, none⟩ = some (.slice A0_3 l0_3.length c0_3) := (ai cn.out 3).trans rfl; have si : w6.cell? ⟨dg, 4, none⟩ = some (.int .i64 a0_4) := (ai cn.out 4).trans rfl; have sh : w6.cell? ⟨dg, 5, none⟩ = some (.bool a0_5) := (ai cn.out 5).trans rfl; have uT : w6.cell? ⟨dg, 6, none⟩ = some (.int .i64 a0_6) := (ai cn.out 6).trans rfl; have gQ := aj cn.out 0; have gP := aj cn.out 1; have iB := aj cn.out 2; have iA := aj cn.out 3; have rN := aj cn.out 4; have rM := aj cn.out 5; have uO := aj cn.out 6) | ((with_reducible refine az (f := 37) rfl ?_); refine bI (some 9) rfl rfl Tryz.func37 (by kernel_rfl) rfl #[.agg #[.int .i64 a0_0, .int .i64 a0_1, .slice A0_2 l0_2.length c0_2, .slice A0_3 l0_3.length c0_3], .bool a1] rfl (by (try simp only [List.map_toArray, List.map_cons, List.map_nil]); first | done | rfl | (simp only [List.length_drop, List.length_take]; rfl)) ?_; (with_reducible refine (fV.calls k a0_0 a0_1 _ _ l0_2 _ _ l0_3 a1 t440 t441 t442 t445 _ ?side1 ?side2 ?side3 ?side4 A3.out).mono ?_); (case side1 => repeat (first | exact (Kd.ax cy.out HB.out) | (with_reducible refine Kd.aX ?_ _) | (with_reducible refine Kd.aW ?_ _) | (with_reducible refine Kd.bh ?_))); (case side2 => exact cD.out); (case side3 => repeat (first | exact (Kd.ax cF.out HB.out) | (with_reducible refine Kd.aX ?_ _) | (with_reducible refine Kd.aW ?_ _) | (with_reducible refine Kd.bh ?_))); (case side4 => exact cK.out); rintro e w10 ⟨v443, v446, rfl, ho0, ho1, hb⟩; refine ⟨_, rfl, ?_⟩; have n0_ := aa.mk (Kd.cW ho0 (aq (by repeat (first | (with_reducible first | exact HB.out | apply ag | apply af | apply ah | refine ak ?_ gJ.out | refine ak ?_ jG.out | refine ak ?_ nu.out) | exact HB.out)))); have n1_ := aa.mk (Kd.cW ho1 (aq (by repeat (first | (with_reducible first | exact HB.out | apply ag | apply af | apply ah | refine ak ?_ gJ.out | refine ak ?_ jG.out | refine ak ?_ nu.out) | exact HB.out)))); have n2_ := aa.mk (aD (g := dg) (o := .cells #[.int .i64 a0_0, .int .i64 a0_1, .slice A0_2 l0_2.length c0_2, .slice A0_3 l0_3.length c0_3, .int .i64 a0_4, .bool a0_5, .int .i64 a0_6] 26 (0, 0)) (by (with_reducible repeat (first | refine al ?_ _ | refine ao ?_ | refine an ?_ _)); exact cn.out) hb); have n3_ := aa.mk (aD (g := cO) (o := .cells #[.int .i64 0, .int .i64 0, .slice none 0 0, .slice none 0 0, .int .i64 0, .bool false, .int .i64 0] 32 (0, 0)) (by (with_reducible repeat (first | refine al ?_ _ | refine ao ?_ | refine an ?_ _)); exact dr.out) hb); have n4_ := aa.mk (aD (g := dd) (o := .cells #[.int .i64 0, .int .i64 0, .slice none 0 0, .slice none 0 0, .int .i64 0, .bool false, .int .i64 0] 32 (0, 0)) (by (with_reducible repeat (first | refine al ?_ _ | refine ao ?_ | refine an ?_ _)); exact ec.out) hb); have n5_ := aa.mk (ar (by repeat (first | (with_reducible first | exact HB.out | apply ag | apply af | apply ah | refine ak ?_ gJ.out | refine ak ?_ jG.out | refine ak ?_ nu.out) | exact HB.out)) hb); clear cn; clear dr; clear ec; clear HB; have xn := n0_; have xm := n1_; have cn := n2_; have dr := n3_; have ec := n4_; have HB := n5_; clear n0_ n1_ n2_ n3_ n4_ n5_; (try clear hb); (try clear hb2); (try clear hk); (try clear hi); (try clear ho0); (try clear ho1); have vI := nQ.out; have vH := dQ.out; have iQ : w10.cell? ⟨dd, 0, none⟩ = some (.int .i64 0) := (ai ec.out 0).trans rfl; have iP : w10.cell? ⟨dd, 1, none⟩ = some (.int .i64 0) := (ai ec.out 1).trans rfl; have iM : w10.cell? ⟨dd, 2, none⟩ = some (.slice none 0 0) := (ai ec.out 2).trans rfl; have iL : w10.cell? ⟨dd, 3, none⟩ = some (.slice none 0 0) := (ai ec.out 3).trans rfl; have sJ : w10.cell? ⟨dd, 4, none⟩ = some (.int .i64 0) := (ai ec.out 4).trans rfl; have sI : w10.cell? ⟨dd, 5, none⟩ = some (.bool false) := (ai ec.out 5).trans rfl; have sH : w10.cell? ⟨dd, 6, none⟩ = some (.int .i64 0) := (ai ec.out 6).trans rfl; have iK := aj ec.out 0; have iJ := aj ec.out 1; have iI := aj ec.out 2; have iH := aj ec.out 3; have sf := aj ec.out 4; have sd := aj ec.out 5; have sc := aj ec.out 6; obtain ⟨jI, jg, DT⟩ := Kd.bE xn.out; subst DT; obtain ⟨fQ, fO, zp⟩ := Kd.bE xm.out; subst zp; have sE : w10.cell? ⟨dg, 0, none⟩ = some (.int .i64 a0_0) := (ai cn.out 0).trans rfl; have sD : w10.cell? ⟨dg, 1, none⟩ = some (.int .i64 a0_1) := (ai cn.out 1).trans rfl; have sC : w10.cell? ⟨dg, 2, none⟩ = some (.slice A0_2 l0_2.length c0_2) := (ai cn.out 2).trans rfl; have sB : w10.cell? ⟨dg, 3, none⟩ = some (.slice A0_3 l0_3.length c0_3) := (ai cn.out 3).trans rfl; have Ca : w10.cell? ⟨dg, 4, none⟩ = some (.int .i64 a0_4) := (ai cn.out 4).trans rfl; have B9 : w10.cell? ⟨dg, 5, none⟩ = some (.bool a0_5) := (ai cn.out 5).trans rfl; have B8 : w10.cell? ⟨dg, 6, none⟩ = some (.int .i64 a0_6) := (ai cn.out 6).trans rfl; have r9 := aj cn.out 0; have r8 := aj cn.out 1; have rZ := aj cn.out 2; have rY := aj cn.out 3; have BH := aj cn.out 4; have BG := aj cn.out 5; have BF := aj cn.out 6; have l5 : w10.cell? ⟨cO, 0, none⟩ = some (.int .i64 0) := (ai dr.out 0).trans rfl; have l4 : w10.cell? ⟨cO, 1, none⟩ = some (.int .i64 0) := (ai dr.out 1).trans rfl; have na : w10.cell? ⟨cO, 2, none⟩ = some (.slice none 0 0) := (ai dr.out 2).trans rfl; have mZ : w10.cell? ⟨cO, 3, none⟩ = some (.slice none 0 0) := (ai dr.out 3).trans rfl; have B7 : w10.cell? ⟨cO, 4, none⟩ = some (.int .i64 0) := (ai dr.out 4).trans rfl; have B6 : w10.cell? ⟨cO, 5, none⟩ = some (.bool false) := (ai dr.out 5).trans rfl; have BZ : w10.cell? ⟨cO, 6, none⟩ = some (.int .i64 0) := (ai dr.out 6).trans rfl; have lZ := aj dr.out 0; have lY := aj dr.out 1; have mY := aj dr.out 2; have mX := aj dr.out 3; have BE := aj dr.out 4; have BD := aj dr.out 5; have BC := aj dr.out 6))
 refine bodyPost_ret (results_cell_row rfl _ _ cO 32 #[.int .i64 t440, .int .i64 t441, .slice jI t442.length jg, .slice fQ t445.length fO, .int .i64 a0_4, .bool a0_5, .int .i64 a0_6] (0, 0) _ rfl (by (with_reducible repeat (first | refine al ?_ _ | refine ao ?_ | refine an ?_ _)); refine bF (cs := #[.int .i64 t440, .int .i64 t441, .slice jI t442.length jg, .slice fQ t445.length fO, .int .i64 a0_4, .bool a0_5, .int .i64 0]) ?_ 6 _ rfl; (with_reducible repeat (first | refine al ?_ _ | refine ao ?_ | refine an ?_ _)); refine bF (cs := #[.int .i64 t440, .int .i64 t441, .slice jI t442.length jg, .slice fQ t445.length fO, .int .i64 a0_4, .bool false, .int .i64 0]) ?_ 5 _ rfl; (with_reducible repeat (first | refine al ?_ _ | refine ao ?_ | refine an ?_ _)); refine bF (cs := #[.int .i64 t440, .int .i64 t441, .slice jI t442.length jg, .slice fQ t445.length fO, .int .i64 0, .bool false, .int .i64 0]) ?_ 4 _ rfl; (with_reducible repeat (first | refine al ?_ _ | refine ao ?_ | refine an ?_ _)); refine bF (cs := #[.int .i64 t440, .int .i64 t441, .slice jI t442.length jg, .slice none 0 0, .int .i64 0, .bool false, .int .i64 0]) ?_ 3 _ rfl; (with_reducible repeat (first | refine al ?_ _ | refine ao ?_ | refine an ?_ _)); refine bF (cs := #[.int .i64 t440, .int .i64 t441, .slice none 0 0, .slice none 0 0, .int .i64 0, .bool false, .int .i64 0]) ?_ 2 _ rfl; (with_reducible repeat (first | refine al ?_ _ | refine ao ?_ | refine an ?_ _)); refine bF (cs := #[.int .i64 t440, .int .i64 0, .slice none 0 0, .slice none 0 0, .int .i64 0, .bool false, .int .i64 0]) ?_ 1 _ rfl; (with_reducible repeat (first | refine al ?_ _ | refine ao ?_ | refine an ?_ _)); refine bF (cs := #[.int .i64 0, .int .i64 0, .slice none 0 0, .slice none 0 0, .int .i64 0, .bool false, .int .i64 0]) ?_ 0 _ rfl; (with_reducible repeat (first | refine al ?_ _ | refine ao ?_ | refine an ?_ _)); refine cT ?_ dQ.out _; (with_reducible repeat (first | refine al ?_ _ | refine ao ?_ | refine an ?_ _)); refine cT ?_ dQ.out _; (with_reducible repeat (first | refine al ?_ _ | refine ao ?_ | refine an ?_ _)); refine cT ?_ dQ.out _; (with_reducible repeat (first | refine al ?_ _ | refine ao ?_ | refine an ?_ _)); refine cT ?_ dQ.out _; (with_reducible repeat (first | refine al ?_ _ | refine ao ?_ | refine an ?_ _)); refine cT ?_ dQ.out _; (with_reducible repeat (first | refine al ?_ _ | refine ao ?_ | refine an ?_ _)); refine cT ?_ dQ.out _; (with_reducible repeat (first | refine al ?_ _ | refine ao ?_ | refine an ?_ _)); refine cT ?_ dQ.out _; (with_reducible repeat (first | refine al ?_ _ | refine ao ?_ | refine an ?_ _)); exact dr.out) Tryz.underlying32 rfl (by kernel_rfl)) rfl ?_
 exact ⟨_, _, by first | rfl | (simp [av, au] <;> rfl) | (simp [*, av, au] <;> rfl), by (with_reducible repeat (first | apply Kd.aH | apply Kd.aG | apply Kd.aQ)); exact Kd.bV (Kd.bp (p := ⟨cO, 6, none⟩) (Kd.bp (p := ⟨cO, 5, none⟩) (Kd.bp (p := ⟨cO, 4, none⟩) (Kd.bp (p := ⟨cO, 3, none⟩) (Kd.bp (p := ⟨cO, 2, none⟩) (Kd.bp (p := ⟨cO, 1, none⟩) (Kd.bp (p := ⟨cO, 0, none⟩) (Kd.bp (p := ⟨dd, 6, none⟩) (Kd.bp (p := ⟨dd, 5, none⟩) (Kd.bp (p := ⟨dd, 4, none⟩) (Kd.bp (p := ⟨dd, 3, none⟩) (Kd.bp (p := ⟨dd, 2, none⟩) (Kd.bp (p := ⟨dd, 1, none⟩) (Kd.bp (p := ⟨dd, 0, none⟩) (Kd.cU (Kd.cU xn.out ec.out (by decide)) dr.out (by decide)) (fun _ hk => hk.1.2) (.int .i64 t440)) (fun _ hk => hk.1.2) (.int .i64 t441)) (fun _ hk => hk.1.2) (.slice jI t442.length jg)) (fun _ hk => hk.1.2) (.slice fQ t445.length fO)) (fun _ hk => hk.1.2) (.int .i64 a0_4)) (fun _ hk => hk.1.2) (.bool a0_5)) (fun _ hk => hk.1.2) (.int .i64 a0_6)) (fun _ hk => hk.2) (.int .i64 t440)) (fun _ hk => hk.2) (.int .i64 t441)) (fun _ hk => hk.2) (.slice jI t442.length jg)) (fun _ hk => hk.2) (.slice fQ t445.length fO)) (fun _ hk => hk.2) (.int .i64 a0_4)) (fun _ hk => hk.2) (.bool a0_5)) (fun _ hk => hk.2) (.int .i64 a0_6)) (fun _ hk => hk.1.1), by (with_reducible repeat (first | apply Kd.aH | apply Kd.aG | apply Kd.aQ)); exact Kd.bV (Kd.bp (p := ⟨cO, 6, none⟩) (Kd.bp (p := ⟨cO, 5, none⟩) (Kd.bp (p := ⟨cO, 4, none⟩) (Kd.bp (p := ⟨cO, 3, none⟩) (Kd.bp (p := ⟨cO, 2, none⟩) (Kd.bp (p := ⟨cO, 1, none⟩) (Kd.bp (p := ⟨cO, 0, none⟩) (Kd.bp (p := ⟨dd, 6, none⟩) (Kd.bp (p := ⟨dd, 5, none⟩) (Kd.bp (p := ⟨dd, 4, none⟩) (Kd.bp (p := ⟨dd, 3, none⟩) (Kd.bp (p := ⟨dd, 2, none⟩) (Kd.bp (p := ⟨dd, 1, none⟩) (Kd.bp (p := ⟨dd, 0, none⟩) (Kd.cU (Kd.cU xm.out ec.out (by decide)) dr.out (by decide)) (fun _ hk => hk.1.2) (.int .i64 t440)) (fun _ hk => hk.1.2) (.int .i64 t441)) (fun _ hk => hk.1.2) (.slice jI t442.length jg)) (fun _ hk => hk.1.2) (.slice fQ t445.length fO)) (fun _ hk => hk.1.2) (.int .i64 a0_4)) (fun _ hk => hk.1.2) (.bool a0_5)) (fun _ hk => hk.1.2) (.int .i64 a0_6)) (fun _ hk => hk.2) (.int .i64 t440)) (fun _ hk => hk.2) (.int .i64 t441)) (fun _ hk => hk.2) (.slice jI t442.length jg)) (fun _ hk => hk.2) (.slice fQ t445.length fO)) (fun _ hk => hk.2) (.int .i64 a0_4)) (fun _ hk => hk.2) (.bool a0_5)) (fun _ hk => hk.2) (.int .i64 a0_6)) (fun _ hk => hk.1.1), by repeat (first | (with_reducible first | exact HB.out | apply ag | apply af | apply ah | refine ak ?_ gJ.out | refine ak ?_ jG.out | refine ak ?_ nu.out) | exact HB.out)⟩
end Go.Proofs.YtmjlmloomkodpaaGreatDoor.PA
namespace Go.Proofs.YtmjlmloomkodpaaGreatDoor.PA
open Go.RowKit Go.Proofs.ae.aw Go.Proofs.ae.aJ Go.Proofs.ae.aN
attribute [local go_sem] bo bm bC bB a6 aZ bn bj
set_option linter.unusedVariables false
set_option linter.unusedSimpArgs false
def cE.f (a0 : Int) (a1 : Int) (a2 : Bool) (a3 : Int) : Option (Int) := if a2 = true then (if 0 ≤ (wrap64 ((wrap64 (a0 * (wrap64 (a1 + 1)))) + a3)) then (some (shl .i64 1 (wrap64 ((wrap64 (a0 * (wrap64 (a1 + 1)))) + a3)))) else (none)) else (if 0 ≤ a3 then (some (shl .i64 1 a3)) else (none))
set_option maxHeartbeats 8000000 in
set_option maxRecDepth 100000 in
theorem cE.calls (a0 : Int) (a1 : Int) (a2 : Bool) (a3 : Int) (r : Int) (w : World) (h : cE.f a0 a1 a2 a3 = some r) :
  Calls Tryz.prog 65 #[.int .i64 a0, .int .i64 a1, .bool a2, .int .i64 a3] w fun e w' => e = .returned (.int .i64 r) ∧ aK w w' := by
 have H : (if a2 = true then (if 0 ≤ (wrap64 ((wrap64 (a0 * (wrap64 (a1 + 1)))) + a3)) then (some (shl .i64 1 (wrap64 ((wrap64 (a0 * (wrap64 (a1 + 1)))) + a3)))) else (none)) else (if 0 ≤ a3 then (some (shl .i64 1 a3)) else (none))) = some r := h
 clear h
 by_cases c5 : a2 = true
 ·subst c5
  have H1 : (if 0 ≤ (wrap64 ((wrap64 (a0 * (wrap64 (a1 + 1)))) + a3)) then (some (shl .i64 1 (wrap64 ((wrap64 (a0 * (wrap64 (a1 + 1)))) + a3)))) else (none)) = some r := by rw [if_pos rfl] at H; exact H
  clear H
  have H := H1
  clear H1
  obtain ⟨ji6, hji6⟩ : ∃ j_ : Int, (wrap64 ((wrap64 (a0 * (wrap64 (a1 + 1)))) + a3)) = j_ := ⟨_, rfl⟩
  replace H : (if 0 ≤ (ji6) then (some (shl .i64 1 (ji6))) else (none)) = some r := by first | (rw [hji6] at H; exact H) | (simp only [hji6] at H ⊢; exact H)
  have hji6w : (IntKind.i64.wrap ((wrap64 (a0 * (wrap64 (a1 + 1)))) + a3)) = ji6 := (a8 _).trans hji6
  by_cases c7 : 0 ≤ (ji6)
  ·rw [if_pos c7] at H
   have c7b0 := eq_true c7
   have c7b1 : decide (0 ≤ (ji6)) = true := decide_eq_true c7
   clear c7
   obtain ⟨ji8, hji8⟩ : ∃ j_ : Int, (shl .i64 1 (ji6)) = j_ := ⟨_, rfl⟩
   replace H : (some ji8) = some r := by first | (rw [hji8] at H; exact H) | (simp only [hji8] at H ⊢; exact H)
   have hji8_ : (IntKind.i64.wrap (1 * 2 ^ min (ji6).toNat 64)) = ji8 := hji8
   have hji8z : (ji6) ≤ 64 → (IntKind.i64.wrap (1 * 2 ^ (ji6).toNat)) = ji8 := fT hji8
   have hji8u : (IntKind.i64.wrap (2 ^ min (ji6).toNat 64)) = ji8 := by have h_ := hji8_; rw [Int.one_mul] at h_; exact h_
   have hji8v : (ji6) ≤ 64 → (IntKind.i64.wrap (2 ^ (ji6).toNat)) = ji8 := fun hle_ => by have h_ := hji8z hle_; rw [Int.one_mul] at h_; exact h_
   have hji8y : (wrap64 (1 * 2 ^ min (ji6).toNat 64)) = ji8 := (a8 _).symm.trans hji8_
   have hji8x : (ji6) ≤ 64 → (wrap64 (1 * 2 ^ (ji6).toNat)) = ji8 := fun h_ => (a8 _).symm.trans (hji8z h_)
   obtain rfl := Option.some.inj H
   go_enter Tryz.func65, Tryz.ntmps65
   go_wp2
   go_ret
   exact ⟨by first | rfl | (simp; done) | (simp only [← hji6, ← hji8] <;> (first | rfl | simp)) | (simp [*]; done), by repeat (first | exact aK.refl _ | apply aK.step)⟩
  ·rw [if_neg c7] at H
   exact absurd H (by simp)
 ·replace c5 := Bool.eq_false_iff.mpr c5
  subst c5
  have H1 : (if 0 ≤ a3 then (some (shl .i64 1 a3)) else (none)) = some r := by rw [if_neg (show ¬ (false = true) by decide)] at H; exact H
  clear H
  have H := H1
  clear H1
  by_cases c9 : 0 ≤ a3
  ·rw [if_pos c9] at H
   have c9b0 := eq_true c9
   have c9b1 : decide (0 ≤ a3) = true := decide_eq_true c9
   clear c9
   obtain ⟨ji10, hji10⟩ : ∃ j_ : Int, (shl .i64 1 a3) = j_ := ⟨_, rfl⟩
   replace H : (some ji10) = some r := by first | (rw [hji10] at H; exact H) | (simp only [hji10] at H ⊢; exact H)
   have hji10_ : (IntKind.i64.wrap (1 * 2 ^ min a3.toNat 64)) = ji10 := hji10
   have hji10z : a3 ≤ 64 → (IntKind.i64.wrap (1 * 2 ^ a3.toNat)) = ji10 := fT hji10
   have hji10u : (IntKind.i64.wrap (2 ^ min a3.toNat 64)) = ji10 := by have h_ := hji10_; rw [Int.one_mul] at h_; exact h_
   have hji10v : a3 ≤ 64 → (IntKind.i64.wrap (2 ^ a3.toNat)) = ji10 := fun hle_ => by have h_ := hji10z hle_; rw [Int.one_mul] at h_; exact h_
   have hji10y : (wrap64 (1 * 2 ^ min a3.toNat 64)) = ji10 := (a8 _).symm.trans hji10_
   have hji10x : a3 ≤ 64 → (wrap64 (1 * 2 ^ a3.toNat)) = ji10 := fun h_ => (a8 _).symm.trans (hji10z h_)
   obtain rfl := Option.some.inj H
   go_enter Tryz.func65, Tryz.ntmps65
   go_wp2
   go_ret
   exact ⟨by first | rfl | (simp; done) | (simp only [← hji10] <;> (first | rfl | simp)) | (simp [*]; done), by repeat (first | exact aK.refl _ | apply aK.step)⟩
  ·rw [if_neg c9] at H
   exact absurd H (by simp)
end Go.Proofs.YtmjlmloomkodpaaGreatDoor.PA
namespace Go.Proofs.YtmjlmloomkodpaaGreatDoor.PA
open Go.RowKit Go.Proofs.ae.aw Go.Proofs.ae.aJ Go.Proofs.ae.aN
attribute [local go_sem] bo bm bC bB a6 aZ bn bj
set_option linter.unusedVariables false
set_option linter.unusedSimpArgs false
mutual
def bQ.l0 : Nat → Int → List Int → Int → Int → Int → Int → List Int → List Int → Option (Int)
 | 0, _, _, _, _, _, _, _, _ => none
 | k + 1, x3, x9, x10, x11, x242000, x242001, x242002, x242003 => if x11 < x10 then (if 0 ≤ x11 then (if x11 < (x9.length : Int) then ((cE.f x242000 x242001 false (rd x9 x11)).bind fun t243 => (bQ.l0 k (Go.bits .or .i64 x3 t243) x9 x10 (wrap64 (x11 + 1)) x242000 x242001 x242002 x242003)) else (none)) else (none)) else (bQ.l1 k x3 x242003 (x242003.length : Int) 0 x242000 x242001 x242002 x242003)
def bQ.l1 : Nat → Int → List Int → Int → Int → Int → Int → List Int → List Int → Option (Int)
 | 0, _, _, _, _, _, _, _, _ => none
 | k + 1, x3, x25, x26, x27, x242000, x242001, x242002, x242003 => if x27 < x26 then (if 0 ≤ x27 then (if x27 < (x25.length : Int) then ((cE.f x242000 x242001 true (rd x25 x27)).bind fun t245 => (bQ.l1 k (Go.bits .or .i64 x3 t245) x25 x26 (wrap64 (x27 + 1)) x242000 x242001 x242002 x242003)) else (none)) else (none)) else (some x3)
end
def bQ.f (k : Nat) (a0_0 : Int) (a0_1 : Int) (l0_2 : List Int) (l0_3 : List Int) : Option (Int) := bQ.l0 k 0 l0_2 (l0_2.length : Int) 0 a0_0 a0_1 l0_2 l0_3
set_option maxHeartbeats 8000000 in
set_option maxRecDepth 100000 in
theorem bQ.calls (k : Nat) (a0_0 : Int) (a0_1 : Int) (A0_2 : Option Addr) (c0_2 : Nat) (l0_2 : List Int) (A0_3 : Option Addr) (c0_3 : Nat) (l0_3 : List Int) (r : Int) (w : World) (ca : Kd.C (Kd.int .i64) w A0_2 l0_2.length l0_2) (bX : l0_2.length ≤ c0_2) (b0 : Kd.C (Kd.int .i64) w A0_3 l0_3.length l0_3) (bW : l0_3.length ≤ c0_3) (h : bQ.f k a0_0 a0_1 l0_2 l0_3 = some r) :
  Calls Tryz.prog 45 #[.agg #[.int .i64 a0_0, .int .i64 a0_1, .slice A0_2 l0_2.length c0_2, .slice A0_3 l0_3.length c0_3]] w fun e w' => e = .returned (.int .i64 r) ∧ Below w.heap.size w w' := by
 have hu28 := Tryz.underlying28
 have cy := aa.mk ca
 have cD := aa.mk bX
 clear ca bX
 have cF := aa.mk b0
 have cK := aa.mk bW
 clear b0 bW
 have HB := aa.mk (Below.refl w.heap.size w)
 have H : (bQ.l0 k 0 l0_2 (l0_2.length : Int) 0 a0_0 a0_1 l0_2 l0_3) = some r := h
 clear h
 have H' := aa.mk H
 clear H
 go_enter Tryz.func45, Tryz.ntmps45
 go_wp2_with (first | ((with_reducible refine aV (N := 1) rfl ?_); refine aM ?hg (N := 1) ?hd (cs := #[.int .i64 a0_0, .int .i64 a0_1, .slice A0_2 l0_2.length c0_2, .slice A0_3 l0_3.length c0_3]) (t := 28) ?hr ?_; (case hd => rfl); (case hg => rfl); (case hr => first | (go_simp; done) | (go_simp; rfl)); intro hD hg w2 hbox hb; have n0_ := aa.mk (ar (by repeat (first | (with_reducible first | exact HB.out | apply ag | apply af | apply ah) | exact HB.out)) hb); have n1_ := aa.mk (hbox); have n2_ := aa.mk ((by rw [hg]; exact (aq (by repeat (first | (with_reducible first | exact HB.out | apply ag | apply af | apply ah) | exact HB.out))) : w.heap.size ≤ hD)); have n3_ := aa.mk ((by rw [hg]; exact (aq (by repeat (first | (with_reducible first | exact HB.out | apply ag | apply af | apply ah) | exact HB.out))) : w.heap.size ≤ hD)); clear HB; have HB := n0_; have ei := n1_; have GW241 := n2_; have uk := n3_; clear n0_ n1_ n2_ n3_; clear hb hbox hg; have lv : w2.cell? ⟨hD, 0, none⟩ = some (.int .i64 a0_0) := (ai ei.out 0).trans rfl; have lu : w2.cell? ⟨hD, 1, none⟩ = some (.int .i64 a0_1) := (ai ei.out 1).trans rfl; have nH : w2.cell? ⟨hD, 2, none⟩ = some (.slice A0_2 l0_2.length c0_2) := (ai ei.out 2).trans rfl; have nG : w2.cell? ⟨hD, 3, none⟩ = some (.slice A0_3 l0_3.length c0_3) := (ai ei.out 3).trans rfl; have lh := aj ei.out 0; have lg := aj ei.out 1; have nF := aj ei.out 2; have nD := aj ei.out 3))
 go_loopg [3, 11] k (fun kq v3 v11 w' => ∃ (x3_1 : Int) (x11_1 : Int), v3 = .int .i64 x3_1 ∧ v11 = .int .i64 x11_1 ∧ aa (bQ.l0 kq x3_1 l0_2 (l0_2.length : Int) x11_1 a0_0 a0_1 l0_2 l0_3 = some r) ∧ aa (kq ≤ k) ∧ aa (w'.heap[hD]? = some (.cells #[.int .i64 a0_0, .int .i64 a0_1, (.slice A0_2 l0_2.length c0_2), (.slice A0_3 l0_3.length c0_3)] 28 (0, 0))) ∧ aa (Below w.heap.size w w'))
 case atStart => exact ⟨(0), (0), (by first | rfl | (simp; done) | (simp [*]; done)), (by first | rfl | (simp; done) | (simp [*]; done)), H', ⟨Nat.le_refl _⟩, ⟨by (with_reducible repeat (first | refine al ?_ _ | refine ao ?_ | refine an ?_ _)); exact ei.out⟩, ⟨by repeat (first | (with_reducible first | exact HB.out | apply ag | apply af | apply ah | refine ak ?_ uk.out) | exact HB.out)⟩⟩
 case round =>
  clear H'
  try clear p2
  try clear lv
  try clear lu
  try clear nH
  try clear nG
  try clear lh
  try clear lg
  try clear nF
  try clear nD
  obtain ⟨x3_1, x11_1, rfl, rfl, HA, HK1, ei, HB⟩ := hrel
  cases gk with
  | zero => exact absurd HA.out (by simp [bQ.l0])
  | succ k1 =>
   have H := HA.out
   clear HA
   simp only [bQ.l0] at H
   by_cases c4 : x11_1 < (l0_2.length : Int)
   ·rw [if_pos c4] at H
    have c4b0 : decide (x11_1 < (l0_2.length : Int)) = true := decide_eq_true c4
    clear c4
    by_cases c5 : 0 ≤ x11_1
    ·rw [if_pos c5] at H
     have c5b0 : decide (0 ≤ x11_1) = true := decide_eq_true c5
     clear c5
     by_cases c6 : x11_1 < (l0_2.length : Int)
     ·rw [if_pos c6] at H
      have c6b0 : decide (x11_1 < (l0_2.length : Int)) = true := decide_eq_true c6
      clear c6
      replace H := Option.bind_eq_some_iff.mp H
      obtain ⟨t243, A70, H⟩ := H
      replace H : (bQ.l0 k1 (Go.bits .or .i64 x3_1 t243) l0_2 (l0_2.length : Int) (wrap64 (x11_1 + 1)) a0_0 a0_1 l0_2 l0_3) = some r := H
      have A7 := aa.mk A70
      clear A70
      have H' := aa.mk H
      clear H
      have p242 : 0 ≤ (x11_1 : Int) := of_decide_eq_true (by first | (with_reducible assumption) | assumption)
      have q242 : x11_1 < (l0_2.length : Int) := of_decide_eq_true (by first | (with_reducible assumption) | assumption)
      obtain ⟨ad242, e242, oV⟩ := Kd.dv cy.out x11_1 p242 q242
      cases e242
      replace oV := (HB.out.cell (World.block_lt_of_cell? w _ oV)).trans oV
      replace p242 := eq_true p242
      replace q242 := eq_true q242
      have ln : wr.cell? ⟨hD, 0, none⟩ = some (.int .i64 a0_0) := (ai ei.out 0).trans rfl
      have ll : wr.cell? ⟨hD, 1, none⟩ = some (.int .i64 a0_1) := (ai ei.out 1).trans rfl
      have mH : wr.cell? ⟨hD, 2, none⟩ = some (.slice (some ad242) l0_2.length c0_2) := (ai ei.out 2).trans rfl
      have mG : wr.cell? ⟨hD, 3, none⟩ = some (.slice A0_3 l0_3.length c0_3) := (ai ei.out 3).trans rfl
      have k9 := aj ei.out 0
      have k8 := aj ei.out 1
      have mF := aj ei.out 2
      have mE := aj ei.out 3
      go_wp2_with (first | ((with_reducible refine az (f := 65) rfl ?_); refine bI (some 21) rfl rfl Tryz.func65 (by kernel_rfl) rfl #[.int .i64 a0_0, .int .i64 a0_1, .bool false, .int .i64 (rd l0_2 x11_1)] rfl (by (try simp only [List.map_toArray, List.map_cons, List.map_nil]); first | done | rfl | (simp only [List.length_drop, List.length_take]; rfl)) ?_; (with_reducible refine (cE.calls a0_0 a0_1 false (rd l0_2 x11_1) t243 _ A7.out).mono ?_); rintro e w' ⟨rfl, ⟨nd, rfl⟩⟩; refine ⟨_, rfl, ?_⟩))
      go_roundg k1
      case measure => have := HK1.out; omega
      case rel => exact ⟨(Go.bits .or .i64 x3_1 t243), (wrap64 (x11_1 + 1)), (by first | rfl | (simp; done) | (simp [*]; done)), (by first | rfl | (simp; done) | (simp [*]; done)), H', ⟨by have := HK1.out; omega⟩, ⟨by (with_reducible repeat (first | refine al ?_ _ | refine ao ?_ | refine an ?_ _)); exact ei.out⟩, ⟨by repeat (first | (with_reducible first | exact HB.out | apply ag | apply af | apply ah | refine ak ?_ uk.out) | exact HB.out)⟩⟩
     ·rw [if_neg c6] at H
      exact absurd H (by simp)
    ·rw [if_neg c5] at H
     exact absurd H (by simp)
   ·rw [if_neg c4] at H
    have c4b0 : decide (x11_1 < (l0_2.length : Int)) = false := decide_eq_false c4
    clear c4
    have H' := aa.mk H
    clear H
    have gS : wr.cell? ⟨hD, 0, none⟩ = some (.int .i64 a0_0) := (ai ei.out 0).trans rfl
    have gR : wr.cell? ⟨hD, 1, none⟩ = some (.int .i64 a0_1) := (ai ei.out 1).trans rfl
    have iD : wr.cell? ⟨hD, 2, none⟩ = some (.slice A0_2 l0_2.length c0_2) := (ai ei.out 2).trans rfl
    have iC : wr.cell? ⟨hD, 3, none⟩ = some (.slice A0_3 l0_3.length c0_3) := (ai ei.out 3).trans rfl
    have gQ := aj ei.out 0
    have gP := aj ei.out 1
    have iB := aj ei.out 2
    have iA := aj ei.out 3
    go_wp2
    go_loopg [3, 27] k1 (fun kq v3 v27 w' => ∃ (x3_2 : Int) (x27_2 : Int), v3 = .int .i64 x3_2 ∧ v27 = .int .i64 x27_2 ∧ aa (bQ.l1 kq x3_2 l0_3 (l0_3.length : Int) x27_2 a0_0 a0_1 l0_2 l0_3 = some r) ∧ aa (kq ≤ k1) ∧ aa (w'.heap[hD]? = some (.cells #[.int .i64 a0_0, .int .i64 a0_1, (.slice A0_2 l0_2.length c0_2), (.slice A0_3 l0_3.length c0_3)] 28 (0, 0))) ∧ aa (Below w.heap.size w w'))
    case atStart => exact ⟨(x3_1), (0), (by first | rfl | (simp; done) | (simp [*]; done)), (by first | rfl | (simp; done) | (simp [*]; done)), H', ⟨Nat.le_refl _⟩, ⟨by (with_reducible repeat (first | refine al ?_ _ | refine ao ?_ | refine an ?_ _)); exact ei.out⟩, ⟨by repeat (first | (with_reducible first | exact HB.out | apply ag | apply af | apply ah | refine ak ?_ uk.out) | exact HB.out)⟩⟩
    case round =>
     clear H'
     try clear p2
     try clear q2
     try clear hx2
     try clear c4
     try clear c4b0
     try clear c5
     try clear c5b0
     try clear c6
     try clear c6b0
     try clear p6
     try clear lv
     try clear lu
     try clear nH
     try clear nG
     try clear ln
     try clear ll
     try clear mH
     try clear mG
     try clear gS
     try clear gR
     try clear iD
     try clear iC
     try clear lh
     try clear lg
     try clear nF
     try clear nD
     try clear k9
     try clear k8
     try clear mF
     try clear mE
     try clear gQ
     try clear gP
     try clear iB
     try clear iA
     try clear oV
     try clear p2
     try clear p242
     try clear q242
     obtain ⟨x3_2, x27_2, rfl, rfl, HA, HK2, ei, HB⟩ := hrel
     cases gk with
     | zero => exact absurd HA.out (by simp [bQ.l1])
     | succ k2 =>
      have H := HA.out
      clear HA
      simp only [bQ.l1] at H
      by_cases c10 : x27_2 < (l0_3.length : Int)
      ·rw [if_pos c10] at H
       have c10b0 : decide (x27_2 < (l0_3.length : Int)) = true := decide_eq_true c10
       clear c10
       by_cases c11 : 0 ≤ x27_2
       ·rw [if_pos c11] at H
        have c11b0 : decide (0 ≤ x27_2) = true := decide_eq_true c11
        clear c11
        by_cases c12 : x27_2 < (l0_3.length : Int)
        ·rw [if_pos c12] at H
         have c12b0 : decide (x27_2 < (l0_3.length : Int)) = true := decide_eq_true c12
         clear c12
         replace H := Option.bind_eq_some_iff.mp H
         obtain ⟨t245, A130, H⟩ := H
         replace H : (bQ.l1 k2 (Go.bits .or .i64 x3_2 t245) l0_3 (l0_3.length : Int) (wrap64 (x27_2 + 1)) a0_0 a0_1 l0_2 l0_3) = some r := H
         have A13 := aa.mk A130
         clear A130
         have H' := aa.mk H
         clear H
         have p244 : 0 ≤ (x27_2 : Int) := of_decide_eq_true (by first | (with_reducible assumption) | assumption)
         have q244 : x27_2 < (l0_3.length : Int) := of_decide_eq_true (by first | (with_reducible assumption) | assumption)
         obtain ⟨ad244, e244, rF⟩ := Kd.dv cF.out x27_2 p244 q244
         cases e244
         replace rF := (HB.out.cell (World.block_lt_of_cell? w _ rF)).trans rF
         replace p244 := eq_true p244
         replace q244 := eq_true q244
         have wR : wr.cell? ⟨hD, 0, none⟩ = some (.int .i64 a0_0) := (ai ei.out 0).trans rfl
         have wQ : wr.cell? ⟨hD, 1, none⟩ = some (.int .i64 a0_1) := (ai ei.out 1).trans rfl
         have Cc : wr.cell? ⟨hD, 2, none⟩ = some (.slice A0_2 l0_2.length c0_2) := (ai ei.out 2).trans rfl
         have Cb : wr.cell? ⟨hD, 3, none⟩ = some (.slice (some ad244) l0_3.length c0_3) := (ai ei.out 3).trans rfl
         have wj := aj ei.out 0
         have wi := aj ei.out 1
         have BJ := aj ei.out 2
         have BI := aj ei.out 3
         go_wp2_with (first | ((with_reducible refine az (f := 65) rfl ?_); refine bI (some 37) rfl rfl Tryz.func65 (by kernel_rfl) rfl #[.int .i64 a0_0, .int .i64 a0_1, .bool true, .int .i64 (rd l0_3 x27_2)] rfl (by (try simp only [List.map_toArray, List.map_cons, List.map_nil]); first | done | rfl | (simp only [List.length_drop, List.length_take]; rfl)) ?_; (with_reducible refine (cE.calls a0_0 a0_1 true (rd l0_3 x27_2) t245 _ A13.out).mono ?_); rintro e w' ⟨rfl, ⟨nd, rfl⟩⟩; refine ⟨_, rfl, ?_⟩))
         go_roundg k2
         case measure => have := HK1.out; have := HK2.out; omega
         case rel => exact ⟨(Go.bits .or .i64 x3_2 t245), (wrap64 (x27_2 + 1)), (by first | rfl | (simp; done) | (simp [*]; done)), (by first | rfl | (simp; done) | (simp [*]; done)), H', ⟨by have := HK1.out; have := HK2.out; omega⟩, ⟨by (with_reducible repeat (first | refine al ?_ _ | refine ao ?_ | refine an ?_ _)); exact ei.out⟩, ⟨by repeat (first | (with_reducible first | exact HB.out | apply ag | apply af | apply ah | refine ak ?_ uk.out) | exact HB.out)⟩⟩
        ·rw [if_neg c12] at H
         exact absurd H (by simp)
       ·rw [if_neg c11] at H
        exact absurd H (by simp)
      ·rw [if_neg c10] at H
       have c10b0 : decide (x27_2 < (l0_3.length : Int)) = false := decide_eq_false c10
       clear c10
       obtain rfl := Option.some.inj H
       go_wp2
       go_ret
       exact ⟨by first | rfl | (simp [av, au] <;> rfl) | (simp [*, av, au] <;> rfl), by repeat (first | (with_reducible first | exact HB.out | apply ag | apply af | apply ah | refine ak ?_ uk.out) | exact HB.out)⟩
end Go.Proofs.YtmjlmloomkodpaaGreatDoor.PA
namespace Go.Proofs.YtmjlmloomkodpaaGreatDoor.PA
open Go.RowKit Go.Proofs.ae.aw Go.Proofs.ae.aJ Go.Proofs.ae.aN
attribute [local go_sem] bo bm bC bB a6 aZ bn bj
set_option linter.unusedVariables false
set_option linter.unusedSimpArgs false
def cz.f (a0 : Int) (a1 : Int) (a2 : Int) : Option (Bool) := if a0 ≥ a1 then (some (decide (a0 ≤ a2))) else (some false)
set_option maxHeartbeats 8000000 in
set_option maxRecDepth 100000 in
theorem cz.calls (a0 : Int) (a1 : Int) (a2 : Int) (r : Bool) (w : World) (h : cz.f a0 a1 a2 = some r) :
  Calls Tryz.prog 134 #[.int .i64 a0, .int .i64 a1, .int .i64 a2] w fun e w' => e = .returned (.bool r) ∧ aK w w' := by
 have H : (if a0 ≥ a1 then (some (decide (a0 ≤ a2))) else (some false)) = some r := h
 clear h
 by_cases c4 : a0 ≥ a1
 ·rw [if_pos c4] at H
  have c4b0 : decide (a1 ≤ a0) = true := decide_eq_true c4
  clear c4
  obtain rfl := Option.some.inj H
  go_enter Tryz.func134, Tryz.ntmps134
  go_wp2
  go_ret
  exact ⟨by first | rfl | (simp; done) | (simp [*]; done), by repeat (first | exact aK.refl _ | apply aK.step)⟩
 ·rw [if_neg c4] at H
  have c4b0 : decide (a1 ≤ a0) = false := decide_eq_false c4
  clear c4
  obtain rfl := Option.some.inj H
  go_enter Tryz.func134, Tryz.ntmps134
  go_wp2
  go_ret
  exact ⟨by first | rfl | (simp; done) | (simp [*]; done), by repeat (first | exact aK.refl _ | apply aK.step)⟩
end Go.Proofs.YtmjlmloomkodpaaGreatDoor.PA
namespace Go.Proofs.YtmjlmloomkodpaaGreatDoor.PA
open Go.RowKit Go.Proofs.ae.aw Go.Proofs.ae.aJ Go.Proofs.ae.aN
attribute [local go_sem] bo bm bC bB a6 aZ bn bj
set_option linter.unusedVariables false
set_option linter.unusedSimpArgs false
def fb.f (a0 : Int) (a1 : Int) : Option (Bool) := (cz.f a0 1 4).bind fun t209 => (if t209 = true then ((cz.f a1 1 4).bind fun t210 => (some t210)) else (some false))
set_option maxHeartbeats 8000000 in
set_option maxRecDepth 100000 in
theorem fb.calls (a0 : Int) (a1 : Int) (r : Bool) (w : World) (h : fb.f a0 a1 = some r) :
  Calls Tryz.prog 120 #[.int .i64 a0, .int .i64 a1] w fun e w' => e = .returned (.bool r) ∧ aK w w' := by
 have H : ((cz.f a0 1 4).bind fun t209 => (if t209 = true then ((cz.f a1 1 4).bind fun t210 => (some t210)) else (some false))) = some r := h
 clear h
 replace H := Option.bind_eq_some_iff.mp H
 obtain ⟨t209, A30, H⟩ := H
 replace H : (if t209 = true then ((cz.f a1 1 4).bind fun t210 => (some t210)) else (some false)) = some r := H
 have A3 := aa.mk A30
 clear A30
 by_cases c4 : t209 = true
 ·subst c4
  have H1 : ((cz.f a1 1 4).bind fun t210 => (some t210)) = some r := by rw [if_pos rfl] at H; exact H
  clear H
  have H := H1
  clear H1
  replace H := Option.bind_eq_some_iff.mp H
  obtain ⟨t210, A50, H⟩ := H
  replace H : (some t210) = some r := H
  have A5 := aa.mk A50
  clear A50
  obtain rfl := Option.some.inj H
  go_enter Tryz.func120, Tryz.ntmps120
  go_wp2_with (first | ((with_reducible refine az (f := 134) rfl ?_); refine bI (some 6) rfl rfl Tryz.func134 (by kernel_rfl) rfl #[.int .i64 a0, .int .i64 1, .int .i64 4] rfl (by (try simp only [List.map_toArray, List.map_cons, List.map_nil]); first | done | rfl | (simp only [List.length_drop, List.length_take]; rfl)) ?_; (with_reducible refine (cz.calls a0 1 4 true _ A3.out).mono ?_); rintro e w' ⟨rfl, ⟨nd, rfl⟩⟩; refine ⟨_, rfl, ?_⟩) | (go_at_call 134; (with_reducible refine (cz.calls a1 1 4 t210 _ A5.out).mono ?_); rintro e w' ⟨rfl, ⟨nd, rfl⟩⟩))
  go_ret
  exact ⟨by first | rfl | (simp; done) | (simp [*]; done), by repeat (first | exact aK.refl _ | apply aK.step)⟩
 ·replace c4 := Bool.eq_false_iff.mpr c4
  subst c4
  have H1 : (some false) = some r := by rw [if_neg (show ¬ (false = true) by decide)] at H; exact H
  clear H
  have H := H1
  clear H1
  obtain rfl := Option.some.inj H
  go_enter Tryz.func120, Tryz.ntmps120
  go_wp2_with (first | ((with_reducible refine az (f := 134) rfl ?_); refine bI (some 6) rfl rfl Tryz.func134 (by kernel_rfl) rfl #[.int .i64 a0, .int .i64 1, .int .i64 4] rfl (by (try simp only [List.map_toArray, List.map_cons, List.map_nil]); first | done | rfl | (simp only [List.length_drop, List.length_take]; rfl)) ?_; (with_reducible refine (cz.calls a0 1 4 false _ A3.out).mono ?_); rintro e w' ⟨rfl, ⟨nd, rfl⟩⟩; refine ⟨_, rfl, ?_⟩))
  go_ret
  exact ⟨by first | rfl | (simp; done) | (simp [*]; done), by repeat (first | exact aK.refl _ | apply aK.step)⟩
end Go.Proofs.YtmjlmloomkodpaaGreatDoor.PA
namespace Go.Proofs.YtmjlmloomkodpaaGreatDoor.PA
open Go.RowKit Go.Proofs.ae.aw Go.Proofs.ae.aJ Go.Proofs.ae.aN
attribute [local go_sem] bo bm bC bB a6 aZ bn bj
set_option linter.unusedVariables false
set_option linter.unusedSimpArgs false
def df.l0 : Nat → Int → Int → List Int → Int → Int → Option (Bool)
 | 0, _, _, _, _, _ => none
 | k + 1, x1, x2, x9, x10, x11 => if x11 < x10 then (if 0 ≤ x11 then (if x11 < (x9.length : Int) then ((cz.f (rd x9 x11) x1 x2).bind fun t212 => (if t212 = true then (df.l0 k x1 x2 x9 x10 (wrap64 (x11 + 1))) else (some false))) else (none)) else (none)) else (some true)
def df.f (k : Nat) (l0 : List Int) (a1 : Int) (a2 : Int) : Option (Bool) := df.l0 k a1 a2 l0 (l0.length : Int) 0
set_option maxHeartbeats 8000000 in
set_option maxRecDepth 100000 in
theorem df.calls (k : Nat) (A0 : Option Addr) (c0 : Nat) (l0 : List Int) (a1 : Int) (a2 : Int) (r : Bool) (w : World) (hr0 : Kd.C (Kd.int .i64) w A0 l0.length l0) (hc0 : l0.length ≤ c0) (h : df.f k l0 a1 a2 = some r) :
  Calls Tryz.prog 218 #[.slice A0 l0.length c0, .int .i64 a1, .int .i64 a2] w fun e w' => e = .returned (.bool r) ∧ aK w w' := by
 have HR0 := aa.mk hr0
 have HC0 := aa.mk hc0
 clear hr0 hc0
 have H : (df.l0 k a1 a2 l0 (l0.length : Int) 0) = some r := h
 clear h
 have H' := aa.mk H
 clear H
 go_enter Tryz.func218, Tryz.ntmps218
 go_wp2
 go_loopg [11] k (fun kq v11 w' => ∃ (x11_1 : Int), v11 = .int .i64 x11_1 ∧ aa (df.l0 kq a1 a2 l0 (l0.length : Int) x11_1 = some r) ∧ aa (kq ≤ k) ∧ aK w w')
 case atStart => exact ⟨(0), (by first | rfl | (simp; done) | (simp [*]; done)), H', ⟨Nat.le_refl _⟩, by repeat (first | exact aK.refl _ | apply aK.step)⟩
 case round =>
  clear H'
  try clear c2
  try clear p2
  obtain ⟨x11_1, rfl, HA, HK1, ⟨m1, rfl⟩⟩ := hrel
  cases gk with
  | zero => exact absurd HA.out (by simp [df.l0])
  | succ k1 =>
   have H := HA.out
   clear HA
   simp only [df.l0] at H
   by_cases c4 : x11_1 < (l0.length : Int)
   ·rw [if_pos c4] at H
    have c4b0 : decide (x11_1 < (l0.length : Int)) = true := decide_eq_true c4
    clear c4
    by_cases c5 : 0 ≤ x11_1
    ·rw [if_pos c5] at H
     have c5b0 : decide (0 ≤ x11_1) = true := decide_eq_true c5
     clear c5
     by_cases c6 : x11_1 < (l0.length : Int)
     ·rw [if_pos c6] at H
      have c6b0 : decide (x11_1 < (l0.length : Int)) = true := decide_eq_true c6
      clear c6
      replace H := Option.bind_eq_some_iff.mp H
      obtain ⟨t212, A70, H⟩ := H
      replace H : (if t212 = true then (df.l0 k1 a1 a2 l0 (l0.length : Int) (wrap64 (x11_1 + 1))) else (some false)) = some r := H
      have A7 := aa.mk A70
      clear A70
      by_cases c8 : t212 = true
      ·subst c8
       have H1 : (df.l0 k1 a1 a2 l0 (l0.length : Int) (wrap64 (x11_1 + 1))) = some r := by rw [if_pos rfl] at H; exact H
       clear H
       have H := H1
       clear H1
       have H' := aa.mk H
       clear H
       have p211 : 0 ≤ (x11_1 : Int) := of_decide_eq_true (by first | (with_reducible assumption) | assumption)
       have q211 : x11_1 < (l0.length : Int) := of_decide_eq_true (by first | (with_reducible assumption) | assumption)
       obtain ⟨ad211, e211, Be⟩ := Kd.dv HR0.out x11_1 p211 q211
       cases e211
       replace p211 := eq_true p211
       replace q211 := eq_true q211
       go_wp2_with (first | ((with_reducible refine az (f := 134) rfl ?_); refine bI (some 18) rfl rfl Tryz.func134 (by kernel_rfl) rfl #[.int .i64 (rd l0 x11_1), .int .i64 a1, .int .i64 a2] rfl (by (try simp only [List.map_toArray, List.map_cons, List.map_nil]); first | done | rfl | (simp only [List.length_drop, List.length_take]; rfl)) ?_; (with_reducible refine (cz.calls (rd l0 x11_1) a1 a2 true _ A7.out).mono ?_); rintro e w' ⟨rfl, ⟨nd, rfl⟩⟩; refine ⟨_, rfl, ?_⟩))
       go_roundg k1
       case measure => have := HK1.out; omega
       case rel => exact ⟨(wrap64 (x11_1 + 1)), (by first | rfl | (simp; done) | (simp [*]; done)), H', ⟨by have := HK1.out; omega⟩, by repeat (first | exact aK.refl _ | apply aK.step)⟩
      ·replace c8 := Bool.eq_false_iff.mpr c8
       subst c8
       have H1 : (some false) = some r := by rw [if_neg (show ¬ (false = true) by decide)] at H; exact H
       clear H
       have H := H1
       clear H1
       obtain rfl := Option.some.inj H
       have p211 : 0 ≤ (x11_1 : Int) := of_decide_eq_true (by first | (with_reducible assumption) | assumption)
       have q211 : x11_1 < (l0.length : Int) := of_decide_eq_true (by first | (with_reducible assumption) | assumption)
       obtain ⟨ad211, e211, Be⟩ := Kd.dv HR0.out x11_1 p211 q211
       cases e211
       replace p211 := eq_true p211
       replace q211 := eq_true q211
       go_wp2_with (first | ((with_reducible refine az (f := 134) rfl ?_); refine bI (some 18) rfl rfl Tryz.func134 (by kernel_rfl) rfl #[.int .i64 (rd l0 x11_1), .int .i64 a1, .int .i64 a2] rfl (by (try simp only [List.map_toArray, List.map_cons, List.map_nil]); first | done | rfl | (simp only [List.length_drop, List.length_take]; rfl)) ?_; (with_reducible refine (cz.calls (rd l0 x11_1) a1 a2 false _ A7.out).mono ?_); rintro e w' ⟨rfl, ⟨nd, rfl⟩⟩; refine ⟨_, rfl, ?_⟩))
       go_ret
       exact ⟨by first | rfl | (simp; done) | (simp [*]; done), by repeat (first | exact aK.refl _ | apply aK.step)⟩
     ·rw [if_neg c6] at H
      exact absurd H (by simp)
    ·rw [if_neg c5] at H
     exact absurd H (by simp)
   ·rw [if_neg c4] at H
    have c4b0 : decide (x11_1 < (l0.length : Int)) = false := decide_eq_false c4
    clear c4
    obtain rfl := Option.some.inj H
    go_wp2
    go_ret
    exact ⟨by first | rfl | (simp; done) | (simp [*]; done), by repeat (first | exact aK.refl _ | apply aK.step)⟩
end Go.Proofs.YtmjlmloomkodpaaGreatDoor.PA
namespace Go.Proofs.YtmjlmloomkodpaaGreatDoor.PA
open Go.RowKit Go.Proofs.ae.aw Go.Proofs.ae.aJ Go.Proofs.ae.aN
attribute [local go_sem] bo bm bC bB a6 aZ bn bj
set_option linter.unusedVariables false
set_option linter.unusedSimpArgs false
mutual
def bz.j0 : Nat → List Int → Bool → Option (Bool)
 | 0, _, _ => none
 | k + 1, x0, x16 => if x16 = true then (some false) else (bz.l0 k x0 1)
def bz.l0 : Nat → List Int → Int → Option (Bool)
 | 0, _, _ => none
 | k + 1, x0, x5 => if x5 < (x0.length : Int) then (if 0 ≤ (wrap64 (x5 - 1)) then (if (wrap64 (x5 - 1)) < (x0.length : Int) then (if 0 ≤ x5 then (if (rd x0 (wrap64 (x5 - 1))) ≥ (rd x0 x5) then (some false) else (bz.l0 k x0 (wrap64 (x5 + 1)))) else (none)) else (none)) else (none)) else (some true)
end
def bz.f (k : Nat) (l0 : List Int) (a1 : Int) : Option (Bool) := if (l0.length : Int) > (wrap64 (a1 + 1)) then (bz.j0 k l0 true) else ((df.f k l0 0 a1).bind fun t213 => (bz.j0 k l0 (!t213)))
set_option maxHeartbeats 8000000 in
set_option maxRecDepth 100000 in
theorem bz.calls (k : Nat) (A0 : Option Addr) (c0 : Nat) (l0 : List Int) (a1 : Int) (r : Bool) (w : World) (hr0 : Kd.C (Kd.int .i64) w A0 l0.length l0) (hc0 : l0.length ≤ c0) (h : bz.f k l0 a1 = some r) :
  Calls Tryz.prog 202 #[.slice A0 l0.length c0, .int .i64 a1] w fun e w' => e = .returned (.bool r) ∧ aK w w' := by
 have HR0 := aa.mk hr0
 have HC0 := aa.mk hc0
 clear hr0 hc0
 have H : (if (l0.length : Int) > (wrap64 (a1 + 1)) then (bz.j0 k l0 true) else ((df.f k l0 0 a1).bind fun t213 => (bz.j0 k l0 (!t213)))) = some r := h
 clear h
 have HC3 := aa.mk H
 clear H
 go_enter Tryz.func202, Tryz.ntmps202
 go_upto_region 1 with (fail)
 repeat (go_quiet (fail); go_upto_region 1 with (fail))
 go_cut [16] (fun v16 wc => ∃ (kq : Nat) (x16_2 : Bool), v16 = .bool x16_2 ∧ aa (bz.j0 kq l0 x16_2 = some r) ∧ aa (kq ≤ k) ∧ aK w wc)
 case first =>
  have H := HC3.out
  clear HC3
  by_cases c4 : (l0.length : Int) > (wrap64 (a1 + 1))
  ·rw [if_pos c4] at H
   have c4b0 : decide ((wrap64 (a1 + 1)) < (l0.length : Int)) = true := decide_eq_true c4
   clear c4
   (first | rw [c4b0] | (simp only [a8, bf]; rw [c4b0]) | skip)
   have H' := aa.mk H
   clear H
   go_wp2
   repeat (go_quiet (fail); try go_wp2)
   go_meet
   case rel => exact ⟨_, (true), (by first | rfl | (simp; done) | (simp [*]; done)), H', ⟨by first | omega | exact Nat.le_refl _⟩, by repeat (first | exact aK.refl _ | apply aK.step)⟩
  ·rw [if_neg c4] at H
   have c4b0 : decide ((wrap64 (a1 + 1)) < (l0.length : Int)) = false := decide_eq_false c4
   clear c4
   (first | rw [c4b0] | (simp only [a8, bf]; rw [c4b0]) | skip)
   replace H := Option.bind_eq_some_iff.mp H
   obtain ⟨t213, A50, H⟩ := H
   replace H : (bz.j0 k l0 (!t213)) = some r := H
   have A5 := aa.mk A50
   clear A50
   have H' := aa.mk H
   clear H
   go_wp2_with (first | (go_at_call 218; (with_reducible refine (df.calls k _ _ l0 0 a1 t213 _ ?side1 ?side2 A5.out).mono ?_); (case side1 => repeat (first | exact HR0.out | (with_reducible refine Kd.aX ?_ _) | (with_reducible refine Kd.aW ?_ _) | (with_reducible refine Kd.bh ?_))); (case side2 => exact HC0.out); rintro e w' ⟨rfl, ⟨nd, rfl⟩⟩; (try first | exact ⟨rfl, _, World.drewN_drewN _ _ _⟩ | exact ⟨rfl, _, Eq.trans (World.drewN_drewN _ _ _) (congrArg (World.drewN _) (Nat.add_assoc _ _ _))⟩)))
   repeat (go_quiet (first | (go_at_call 218; (with_reducible refine (df.calls k _ _ l0 0 a1 t213 _ ?side1 ?side2 A5.out).mono ?_); (case side1 => repeat (first | exact HR0.out | (with_reducible refine Kd.aX ?_ _) | (with_reducible refine Kd.aW ?_ _) | (with_reducible refine Kd.bh ?_))); (case side2 => exact HC0.out); rintro e w' ⟨rfl, ⟨nd, rfl⟩⟩; (try first | exact ⟨rfl, _, World.drewN_drewN _ _ _⟩ | exact ⟨rfl, _, Eq.trans (World.drewN_drewN _ _ _) (congrArg (World.drewN _) (Nat.add_assoc _ _ _))⟩))); try go_wp2_with (first | (go_at_call 218; (with_reducible refine (df.calls k _ _ l0 0 a1 t213 _ ?side1 ?side2 A5.out).mono ?_); (case side1 => repeat (first | exact HR0.out | (with_reducible refine Kd.aX ?_ _) | (with_reducible refine Kd.aW ?_ _) | (with_reducible refine Kd.bh ?_))); (case side2 => exact HC0.out); rintro e w' ⟨rfl, ⟨nd, rfl⟩⟩; (try first | exact ⟨rfl, _, World.drewN_drewN _ _ _⟩ | exact ⟨rfl, _, Eq.trans (World.drewN_drewN _ _ _) (congrArg (World.drewN _) (Nat.add_assoc _ _ _))⟩))))
   go_meet
   case rel => exact ⟨_, (!t213), (by first | rfl | (simp; done) | (simp [*]; done)), H', ⟨by first | omega | exact Nat.le_refl _⟩, by repeat (first | exact aK.refl _ | apply aK.step)⟩
 case rest =>
  clear HC3
  try clear c2
  try clear p2
  try clear c4
  try clear c4b0
  obtain ⟨kq, x16_2, rfl, HA, HJ2, ⟨mc2, rfl⟩⟩ := hcut
  cases kq with
  | zero => exact absurd HA.out (by simp [bz.j0])
  | succ kj2 =>
   have H := HA.out
   clear HA
   simp only [bz.j0] at H
   by_cases c6 : x16_2 = true
   ·subst c6
    have H1 : (some false) = some r := by rw [if_pos rfl] at H; exact H
    clear H
    have H := H1
    clear H1
    obtain rfl := Option.some.inj H
    go_wp2
    repeat (go_quiet (fail); try go_wp2)
    go_ret
    exact ⟨by first | rfl | (simp; done) | (simp [*]; done), by repeat (first | exact aK.refl _ | apply aK.step)⟩
   ·replace c6 := Bool.eq_false_iff.mpr c6
    subst c6
    have H1 : (bz.l0 kj2 l0 1) = some r := by rw [if_neg (show ¬ (false = true) by decide)] at H; exact H
    clear H
    have H := H1
    clear H1
    have H' := aa.mk H
    clear H
    go_wp2
    repeat (go_quiet (fail); try go_wp2)
    go_loopg [5] kj2 (fun kq v5 w' => ∃ (x5_2 : Int), v5 = .int .i64 x5_2 ∧ aa (bz.l0 kq l0 x5_2 = some r) ∧ aa (kq ≤ kj2) ∧ aK w w')
    case atStart => exact ⟨(1), (by first | rfl | (simp; done) | (simp [*]; done)), H', ⟨Nat.le_refl _⟩, by repeat (first | exact aK.refl _ | apply aK.step)⟩
    case round =>
     clear H'
     try clear c2
     try clear p2
     try clear c4
     try clear c4b0
     try clear c6
     try clear p6
     try clear p2
     obtain ⟨x5_2, rfl, HA, HK2, ⟨m2, rfl⟩⟩ := hrel
     cases gk with
     | zero => exact absurd HA.out (by simp [bz.l0])
     | succ k2 =>
      have H := HA.out
      clear HA
      simp only [bz.l0] at H
      by_cases c7 : x5_2 < (l0.length : Int)
      ·rw [if_pos c7] at H
       have c7b0 : decide (x5_2 < (l0.length : Int)) = true := decide_eq_true c7
       clear c7
       obtain ⟨ji8, hji8⟩ : ∃ j_ : Int, (wrap64 (x5_2 - 1)) = j_ := ⟨_, rfl⟩
       replace H : (if 0 ≤ (ji8) then (if (ji8) < (l0.length : Int) then (if 0 ≤ x5_2 then (if (rd l0 (ji8)) ≥ (rd l0 x5_2) then (some false) else (bz.l0 k2 l0 (wrap64 (x5_2 + 1)))) else (none)) else (none)) else (none)) = some r := by first | (rw [hji8] at H; exact H) | (simp only [hji8] at H ⊢; exact H)
       have hji8w : (IntKind.i64.wrap (x5_2 - 1)) = ji8 := (a8 _).trans hji8
       by_cases c9 : 0 ≤ (ji8)
       ·rw [if_pos c9] at H
        have c9b0 : decide (0 ≤ (ji8)) = true := decide_eq_true c9
        clear c9
        by_cases c10 : (ji8) < (l0.length : Int)
        ·rw [if_pos c10] at H
         have c10b0 : decide ((ji8) < (l0.length : Int)) = true := decide_eq_true c10
         clear c10
         by_cases c11 : 0 ≤ x5_2
         ·rw [if_pos c11] at H
          have c11b0 : decide (0 ≤ x5_2) = true := decide_eq_true c11
          clear c11
          by_cases c12 : (rd l0 (ji8)) ≥ (rd l0 x5_2)
          ·rw [if_pos c12] at H
           have c12b0 : decide ((rd l0 x5_2) ≤ (rd l0 (ji8))) = true := decide_eq_true c12
           clear c12
           obtain rfl := Option.some.inj H
           have p214 : 0 ≤ ((ji8) : Int) := of_decide_eq_true (by first | (with_reducible assumption) | assumption)
           have q214 : (ji8) < (l0.length : Int) := of_decide_eq_true (by first | (with_reducible assumption) | assumption)
           obtain ⟨ad214, e214, Bd⟩ := Kd.dv HR0.out (ji8) p214 q214
           cases e214
           replace p214 := eq_true p214
           replace q214 := eq_true q214
           have p215 : 0 ≤ (x5_2 : Int) := of_decide_eq_true (by first | (with_reducible assumption) | assumption)
           have q215 : x5_2 < (l0.length : Int) := of_decide_eq_true (by first | (with_reducible assumption) | assumption)
           obtain ⟨ad215, e215, Bc⟩ := Kd.dv HR0.out x5_2 p215 q215
           obtain rfl : ad214 = ad215 := (by injection e215)
           replace p215 := eq_true p215
           replace q215 := eq_true q215
           go_wp2
           repeat (go_quiet (fail); try go_wp2)
           go_ret
           exact ⟨by first | rfl | (simp; done) | (simp only [← hji8] <;> (first | rfl | simp)) | (simp [*]; done), by repeat (first | exact aK.refl _ | apply aK.step)⟩
          ·rw [if_neg c12] at H
           have c12b0 : decide ((rd l0 x5_2) ≤ (rd l0 (ji8))) = false := decide_eq_false c12
           clear c12
           have H' := aa.mk H
           clear H
           have p214 : 0 ≤ ((ji8) : Int) := of_decide_eq_true (by first | (with_reducible assumption) | assumption)
           have q214 : (ji8) < (l0.length : Int) := of_decide_eq_true (by first | (with_reducible assumption) | assumption)
           obtain ⟨ad214, e214, Bd⟩ := Kd.dv HR0.out (ji8) p214 q214
           cases e214
           replace p214 := eq_true p214
           replace q214 := eq_true q214
           have p215 : 0 ≤ (x5_2 : Int) := of_decide_eq_true (by first | (with_reducible assumption) | assumption)
           have q215 : x5_2 < (l0.length : Int) := of_decide_eq_true (by first | (with_reducible assumption) | assumption)
           obtain ⟨ad215, e215, Bc⟩ := Kd.dv HR0.out x5_2 p215 q215
           obtain rfl : ad214 = ad215 := (by injection e215)
           replace p215 := eq_true p215
           replace q215 := eq_true q215
           go_wp2
           repeat (go_quiet (fail); try go_wp2)
           go_roundg k2
           case measure => have := HJ2.out; have := HK2.out; omega
           case rel => exact ⟨(wrap64 (x5_2 + 1)), (by first | rfl | (simp; done) | (simp [*]; done)), H', ⟨by have := HJ2.out; have := HK2.out; omega⟩, by repeat (first | exact aK.refl _ | apply aK.step)⟩
         ·rw [if_neg c11] at H
          exact absurd H (by simp)
        ·rw [if_neg c10] at H
         exact absurd H (by simp)
       ·rw [if_neg c9] at H
        exact absurd H (by simp)
      ·rw [if_neg c7] at H
       have c7b0 : decide (x5_2 < (l0.length : Int)) = false := decide_eq_false c7
       clear c7
       obtain rfl := Option.some.inj H
       go_wp2
       repeat (go_quiet (fail); try go_wp2)
       go_ret
       exact ⟨by first | rfl | (simp; done) | (simp [*]; done), by repeat (first | exact aK.refl _ | apply aK.step)⟩
end Go.Proofs.YtmjlmloomkodpaaGreatDoor.PA
namespace Go.Proofs.YtmjlmloomkodpaaGreatDoor.PA
open Go.RowKit Go.Proofs.ae.aw Go.Proofs.ae.aJ Go.Proofs.ae.aN
attribute [local go_sem] bo bm bC bB a6 aZ bn bj
set_option linter.unusedVariables false
set_option linter.unusedSimpArgs false
def fG.f (k : Nat) (a0_0 : Int) (a0_1 : Int) (l0_2 : List Int) (l0_3 : List Int) : Option (Bool) := (fb.f a0_0 a0_1).bind fun t217 => (if t217 = true then ((bz.f k l0_2 (wrap64 ((wrap64 (a0_0 * (wrap64 (a0_1 + 1)))) - 1))).bind fun t218 => (if t218 = true then ((bz.f k l0_3 (wrap64 ((wrap64 ((wrap64 (a0_0 + 1)) * a0_1)) - 1))).bind fun t219 => (some t219)) else (some false))) else (some false))
set_option maxHeartbeats 8000000 in
set_option maxRecDepth 100000 in
theorem fG.calls (k : Nat) (a0_0 : Int) (a0_1 : Int) (A0_2 : Option Addr) (c0_2 : Nat) (l0_2 : List Int) (A0_3 : Option Addr) (c0_3 : Nat) (l0_3 : List Int) (r : Bool) (w : World) (ca : Kd.C (Kd.int .i64) w A0_2 l0_2.length l0_2) (bX : l0_2.length ≤ c0_2) (b0 : Kd.C (Kd.int .i64) w A0_3 l0_3.length l0_3) (bW : l0_3.length ≤ c0_3) (h : fG.f k a0_0 a0_1 l0_2 l0_3 = some r) :
  Calls Tryz.prog 166 #[.agg #[.int .i64 a0_0, .int .i64 a0_1, .slice A0_2 l0_2.length c0_2, .slice A0_3 l0_3.length c0_3]] w fun e w' => e = .returned (.bool r) ∧ Below w.heap.size w w' := by
 have hu28 := Tryz.underlying28
 have cy := aa.mk ca
 have cD := aa.mk bX
 clear ca bX
 have cF := aa.mk b0
 have cK := aa.mk bW
 clear b0 bW
 have HB := aa.mk (Below.refl w.heap.size w)
 have H : ((fb.f a0_0 a0_1).bind fun t217 => (if t217 = true then ((bz.f k l0_2 (wrap64 ((wrap64 (a0_0 * (wrap64 (a0_1 + 1)))) - 1))).bind fun t218 => (if t218 = true then ((bz.f k l0_3 (wrap64 ((wrap64 ((wrap64 (a0_0 + 1)) * a0_1)) - 1))).bind fun t219 => (some t219)) else (some false))) else (some false))) = some r := h
 clear h
 replace H := Option.bind_eq_some_iff.mp H
 obtain ⟨t217, A20, H⟩ := H
 replace H : (if t217 = true then ((bz.f k l0_2 (wrap64 ((wrap64 (a0_0 * (wrap64 (a0_1 + 1)))) - 1))).bind fun t218 => (if t218 = true then ((bz.f k l0_3 (wrap64 ((wrap64 ((wrap64 (a0_0 + 1)) * a0_1)) - 1))).bind fun t219 => (some t219)) else (some false))) else (some false)) = some r := H
 have A2 := aa.mk A20
 clear A20
 by_cases c3 : t217 = true
 ·subst c3
  have H1 : ((bz.f k l0_2 (wrap64 ((wrap64 (a0_0 * (wrap64 (a0_1 + 1)))) - 1))).bind fun t218 => (if t218 = true then ((bz.f k l0_3 (wrap64 ((wrap64 ((wrap64 (a0_0 + 1)) * a0_1)) - 1))).bind fun t219 => (some t219)) else (some false))) = some r := by rw [if_pos rfl] at H; exact H
  clear H
  have H := H1
  clear H1
  replace H := Option.bind_eq_some_iff.mp H
  obtain ⟨t218, A40, H⟩ := H
  replace H : (if t218 = true then ((bz.f k l0_3 (wrap64 ((wrap64 ((wrap64 (a0_0 + 1)) * a0_1)) - 1))).bind fun t219 => (some t219)) else (some false)) = some r := H
  have A4 := aa.mk A40
  clear A40
  by_cases c5 : t218 = true
  ·subst c5
   have H1 : ((bz.f k l0_3 (wrap64 ((wrap64 ((wrap64 (a0_0 + 1)) * a0_1)) - 1))).bind fun t219 => (some t219)) = some r := by rw [if_pos rfl] at H; exact H
   clear H
   have H := H1
   clear H1
   replace H := Option.bind_eq_some_iff.mp H
   obtain ⟨t219, A60, H⟩ := H
   replace H : (some t219) = some r := H
   have A6 := aa.mk A60
   clear A60
   obtain rfl := Option.some.inj H
   go_enter Tryz.func166, Tryz.ntmps166
   go_wp2_with (first | ((with_reducible refine aV (N := 1) rfl ?_); refine aM ?hg (N := 1) ?hd (cs := #[.int .i64 a0_0, .int .i64 a0_1, .slice A0_2 l0_2.length c0_2, .slice A0_3 l0_3.length c0_3]) (t := 28) ?hr ?_; (case hd => rfl); (case hg => rfl); (case hr => first | (go_simp; done) | (go_simp; rfl)); intro hP hg w7 hbox hb; have n0_ := aa.mk (ar (by repeat (first | (with_reducible first | exact HB.out | apply ag | apply af | apply ah) | exact HB.out)) hb); have n1_ := aa.mk (hbox); have n2_ := aa.mk ((by rw [hg]; exact (aq (by repeat (first | (with_reducible first | exact HB.out | apply ag | apply af | apply ah) | exact HB.out))) : w.heap.size ≤ hP)); have n3_ := aa.mk ((by rw [hg]; exact (aq (by repeat (first | (with_reducible first | exact HB.out | apply ag | apply af | apply ah) | exact HB.out))) : w.heap.size ≤ hP)); clear HB; have HB := n0_; have fN := n1_; have Dd := n2_; have oy := n3_; clear n0_ n1_ n2_ n3_; clear hb hbox hg; have ln : w7.cell? ⟨hP, 0, none⟩ = some (.int .i64 a0_0) := (ai fN.out 0).trans rfl; have ll : w7.cell? ⟨hP, 1, none⟩ = some (.int .i64 a0_1) := (ai fN.out 1).trans rfl; have mH : w7.cell? ⟨hP, 2, none⟩ = some (.slice A0_2 l0_2.length c0_2) := (ai fN.out 2).trans rfl; have mG : w7.cell? ⟨hP, 3, none⟩ = some (.slice A0_3 l0_3.length c0_3) := (ai fN.out 3).trans rfl; have k9 := aj fN.out 0; have k8 := aj fN.out 1; have mF := aj fN.out 2; have mE := aj fN.out 3) | ((with_reducible refine az (f := 120) rfl ?_); refine bI (some 7) rfl rfl Tryz.func120 (by kernel_rfl) rfl #[.int .i64 a0_0, .int .i64 a0_1] rfl (by (try simp only [List.map_toArray, List.map_cons, List.map_nil]); first | done | rfl | (simp only [List.length_drop, List.length_take]; rfl)) ?_; (with_reducible refine (fb.calls a0_0 a0_1 true _ A2.out).mono ?_); rintro e w' ⟨rfl, ⟨nd, rfl⟩⟩; refine ⟨_, rfl, ?_⟩) | (go_at_call 202; (with_reducible refine (bz.calls k _ _ l0_2 (wrap64 ((wrap64 (a0_0 * (wrap64 (a0_1 + 1)))) - 1)) true _ ?side1 ?side2 A4.out).mono ?_); (case side1 => repeat (first | exact (Kd.ax cy.out (by repeat (first | (with_reducible first | exact HB.out | apply ag | apply af | apply ah | refine ak ?_ oy.out) | exact HB.out))) | (with_reducible refine Kd.aX ?_ _) | (with_reducible refine Kd.aW ?_ _) | (with_reducible refine Kd.bh ?_))); (case side2 => exact cD.out); rintro e w' ⟨rfl, ⟨nd, rfl⟩⟩) | (go_at_call 202; (with_reducible refine (bz.calls k _ _ l0_3 (wrap64 ((wrap64 ((wrap64 (a0_0 + 1)) * a0_1)) - 1)) t219 _ ?side1 ?side2 A6.out).mono ?_); (case side1 => repeat (first | exact (Kd.ax cF.out (by repeat (first | (with_reducible first | exact HB.out | apply ag | apply af | apply ah | refine ak ?_ oy.out) | exact HB.out))) | (with_reducible refine Kd.aX ?_ _) | (with_reducible refine Kd.aW ?_ _) | (with_reducible refine Kd.bh ?_))); (case side2 => exact cK.out); rintro e w' ⟨rfl, ⟨nd, rfl⟩⟩))
   go_ret
   exact ⟨by first | rfl | (simp [av, au] <;> rfl) | (simp [*, av, au] <;> rfl), by repeat (first | (with_reducible first | exact HB.out | apply ag | apply af | apply ah | refine ak ?_ oy.out) | exact HB.out)⟩
  ·replace c5 := Bool.eq_false_iff.mpr c5
   subst c5
   have H1 : (some false) = some r := by rw [if_neg (show ¬ (false = true) by decide)] at H; exact H
   clear H
   have H := H1
   clear H1
   obtain rfl := Option.some.inj H
   go_enter Tryz.func166, Tryz.ntmps166
   go_wp2_with (first | ((with_reducible refine aV (N := 1) rfl ?_); refine aM ?hg (N := 1) ?hd (cs := #[.int .i64 a0_0, .int .i64 a0_1, .slice A0_2 l0_2.length c0_2, .slice A0_3 l0_3.length c0_3]) (t := 28) ?hr ?_; (case hd => rfl); (case hg => rfl); (case hr => first | (go_simp; done) | (go_simp; rfl)); intro hP hg w9 hbox hb; have n0_ := aa.mk (ar (by repeat (first | (with_reducible first | exact HB.out | apply ag | apply af | apply ah) | exact HB.out)) hb); have n1_ := aa.mk (hbox); have n2_ := aa.mk ((by rw [hg]; exact (aq (by repeat (first | (with_reducible first | exact HB.out | apply ag | apply af | apply ah) | exact HB.out))) : w.heap.size ≤ hP)); have n3_ := aa.mk ((by rw [hg]; exact (aq (by repeat (first | (with_reducible first | exact HB.out | apply ag | apply af | apply ah) | exact HB.out))) : w.heap.size ≤ hP)); clear HB; have HB := n0_; have fN := n1_; have Dd := n2_; have oy := n3_; clear n0_ n1_ n2_ n3_; clear hb hbox hg; have jV : w9.cell? ⟨hP, 0, none⟩ = some (.int .i64 a0_0) := (ai fN.out 0).trans rfl; have jU : w9.cell? ⟨hP, 1, none⟩ = some (.int .i64 a0_1) := (ai fN.out 1).trans rfl; have jT : w9.cell? ⟨hP, 2, none⟩ = some (.slice A0_2 l0_2.length c0_2) := (ai fN.out 2).trans rfl; have jS : w9.cell? ⟨hP, 3, none⟩ = some (.slice A0_3 l0_3.length c0_3) := (ai fN.out 3).trans rfl; have jR := aj fN.out 0; have jQ := aj fN.out 1; have jP := aj fN.out 2; have jO := aj fN.out 3) | ((with_reducible refine az (f := 120) rfl ?_); refine bI (some 7) rfl rfl Tryz.func120 (by kernel_rfl) rfl #[.int .i64 a0_0, .int .i64 a0_1] rfl (by (try simp only [List.map_toArray, List.map_cons, List.map_nil]); first | done | rfl | (simp only [List.length_drop, List.length_take]; rfl)) ?_; (with_reducible refine (fb.calls a0_0 a0_1 true _ A2.out).mono ?_); rintro e w' ⟨rfl, ⟨nd, rfl⟩⟩; refine ⟨_, rfl, ?_⟩) | (go_at_call 202; (with_reducible refine (bz.calls k _ _ l0_2 (wrap64 ((wrap64 (a0_0 * (wrap64 (a0_1 + 1)))) - 1)) false _ ?side1 ?side2 A4.out).mono ?_); (case side1 => repeat (first | exact (Kd.ax cy.out (by repeat (first | (with_reducible first | exact HB.out | apply ag | apply af | apply ah | refine ak ?_ oy.out) | exact HB.out))) | (with_reducible refine Kd.aX ?_ _) | (with_reducible refine Kd.aW ?_ _) | (with_reducible refine Kd.bh ?_))); (case side2 => exact cD.out); rintro e w' ⟨rfl, ⟨nd, rfl⟩⟩))
   go_ret
   exact ⟨by first | rfl | (simp [av, au] <;> rfl) | (simp [*, av, au] <;> rfl), by repeat (first | (with_reducible first | exact HB.out | apply ag | apply af | apply ah | refine ak ?_ oy.out) | exact HB.out)⟩
 ·replace c3 := Bool.eq_false_iff.mpr c3
  subst c3
  have H1 : (some false) = some r := by rw [if_neg (show ¬ (false = true) by decide)] at H; exact H
  clear H
  have H := H1
  clear H1
  obtain rfl := Option.some.inj H
  go_enter Tryz.func166, Tryz.ntmps166
  go_wp2_with (first | ((with_reducible refine aV (N := 1) rfl ?_); refine aM ?hg (N := 1) ?hd (cs := #[.int .i64 a0_0, .int .i64 a0_1, .slice A0_2 l0_2.length c0_2, .slice A0_3 l0_3.length c0_3]) (t := 28) ?hr ?_; (case hd => rfl); (case hg => rfl); (case hr => first | (go_simp; done) | (go_simp; rfl)); intro hP hg w11 hbox hb; have n0_ := aa.mk (ar (by repeat (first | (with_reducible first | exact HB.out | apply ag | apply af | apply ah) | exact HB.out)) hb); have n1_ := aa.mk (hbox); have n2_ := aa.mk ((by rw [hg]; exact (aq (by repeat (first | (with_reducible first | exact HB.out | apply ag | apply af | apply ah) | exact HB.out))) : w.heap.size ≤ hP)); have n3_ := aa.mk ((by rw [hg]; exact (aq (by repeat (first | (with_reducible first | exact HB.out | apply ag | apply af | apply ah) | exact HB.out))) : w.heap.size ≤ hP)); clear HB; have HB := n0_; have fN := n1_; have Dd := n2_; have oy := n3_; clear n0_ n1_ n2_ n3_; clear hb hbox hg; have iQ : w11.cell? ⟨hP, 0, none⟩ = some (.int .i64 a0_0) := (ai fN.out 0).trans rfl; have iP : w11.cell? ⟨hP, 1, none⟩ = some (.int .i64 a0_1) := (ai fN.out 1).trans rfl; have iM : w11.cell? ⟨hP, 2, none⟩ = some (.slice A0_2 l0_2.length c0_2) := (ai fN.out 2).trans rfl; have iL : w11.cell? ⟨hP, 3, none⟩ = some (.slice A0_3 l0_3.length c0_3) := (ai fN.out 3).trans rfl; have iK := aj fN.out 0; have iJ := aj fN.out 1; have iI := aj fN.out 2; have iH := aj fN.out 3) | ((with_reducible refine az (f := 120) rfl ?_); refine bI (some 7) rfl rfl Tryz.func120 (by kernel_rfl) rfl #[.int .i64 a0_0, .int .i64 a0_1] rfl (by (try simp only [List.map_toArray, List.map_cons, List.map_nil]); first | done | rfl | (simp only [List.length_drop, List.length_take]; rfl)) ?_; (with_reducible refine (fb.calls a0_0 a0_1 false _ A2.out).mono ?_); rintro e w' ⟨rfl, ⟨nd, rfl⟩⟩; refine ⟨_, rfl, ?_⟩))
  go_ret
  exact ⟨by first | rfl | (simp [av, au] <;> rfl) | (simp [*, av, au] <;> rfl), by repeat (first | (with_reducible first | exact HB.out | apply ag | apply af | apply ah | refine ak ?_ oy.out) | exact HB.out)⟩
end Go.Proofs.YtmjlmloomkodpaaGreatDoor.PA
namespace Go.Proofs.YtmjlmloomkodpaaGreatDoor.PA
open Go.RowKit Go.Proofs.ae.aw Go.Proofs.ae.aJ Go.Proofs.ae.aN
attribute [local go_sem] bo bm bC bB a6 aZ bn bj
set_option linter.unusedVariables false
set_option linter.unusedSimpArgs false
def dU.f (k : Nat) (a0_0 : Int) (a0_1 : Int) (l0_2 : List Int) (l0_3 : List Int) : Option (Bool) := (fG.f k a0_0 a0_1 l0_2 l0_3).bind fun t221 => (if t221 = true then (some (decide ((wrap64 (a0_0 * a0_1)) ≤ 9))) else (some false))
set_option maxHeartbeats 8000000 in
set_option maxRecDepth 100000 in
theorem dU.calls (k : Nat) (a0_0 : Int) (a0_1 : Int) (A0_2 : Option Addr) (c0_2 : Nat) (l0_2 : List Int) (A0_3 : Option Addr) (c0_3 : Nat) (l0_3 : List Int) (r : Bool) (w : World) (ca : Kd.C (Kd.int .i64) w A0_2 l0_2.length l0_2) (bX : l0_2.length ≤ c0_2) (b0 : Kd.C (Kd.int .i64) w A0_3 l0_3.length l0_3) (bW : l0_3.length ≤ c0_3) (h : dU.f k a0_0 a0_1 l0_2 l0_3 = some r) :
  Calls Tryz.prog 133 #[.agg #[.int .i64 a0_0, .int .i64 a0_1, .slice A0_2 l0_2.length c0_2, .slice A0_3 l0_3.length c0_3]] w fun e w' => e = .returned (.bool r) ∧ Below w.heap.size w w' := by
 have hu28 := Tryz.underlying28
 have cy := aa.mk ca
 have cD := aa.mk bX
 clear ca bX
 have cF := aa.mk b0
 have cK := aa.mk bW
 clear b0 bW
 have HB := aa.mk (Below.refl w.heap.size w)
 have H : ((fG.f k a0_0 a0_1 l0_2 l0_3).bind fun t221 => (if t221 = true then (some (decide ((wrap64 (a0_0 * a0_1)) ≤ 9))) else (some false))) = some r := h
 clear h
 replace H := Option.bind_eq_some_iff.mp H
 obtain ⟨t221, A20, H⟩ := H
 replace H : (if t221 = true then (some (decide ((wrap64 (a0_0 * a0_1)) ≤ 9))) else (some false)) = some r := H
 have A2 := aa.mk A20
 clear A20
 by_cases c3 : t221 = true
 ·subst c3
  have H1 : (some (decide ((wrap64 (a0_0 * a0_1)) ≤ 9))) = some r := by rw [if_pos rfl] at H; exact H
  clear H
  have H := H1
  clear H1
  obtain rfl := Option.some.inj H
  go_enter Tryz.func133, Tryz.ntmps133
  go_wp2_with (first | ((with_reducible refine aV (N := 1) rfl ?_); refine aM ?hg (N := 1) ?hd (cs := #[.int .i64 a0_0, .int .i64 a0_1, .slice A0_2 l0_2.length c0_2, .slice A0_3 l0_3.length c0_3]) (t := 28) ?hr ?_; (case hd => rfl); (case hg => rfl); (case hr => first | (go_simp; done) | (go_simp; rfl)); intro ij hg w4 hbox hb; have n0_ := aa.mk (ar (by repeat (first | (with_reducible first | exact HB.out | apply ag | apply af | apply ah) | exact HB.out)) hb); have n1_ := aa.mk (hbox); have n2_ := aa.mk ((by rw [hg]; exact (aq (by repeat (first | (with_reducible first | exact HB.out | apply ag | apply af | apply ah) | exact HB.out))) : w.heap.size ≤ ij)); have n3_ := aa.mk ((by rw [hg]; exact (aq (by repeat (first | (with_reducible first | exact HB.out | apply ag | apply af | apply ah) | exact HB.out))) : w.heap.size ≤ ij)); clear HB; have HB := n0_; have eU := n1_; have F9 := n2_; have um := n3_; clear n0_ n1_ n2_ n3_; clear hb hbox hg; have sv : w4.cell? ⟨ij, 0, none⟩ = some (.int .i64 a0_0) := (ai eU.out 0).trans rfl; have su : w4.cell? ⟨ij, 1, none⟩ = some (.int .i64 a0_1) := (ai eU.out 1).trans rfl; have so : w4.cell? ⟨ij, 2, none⟩ = some (.slice A0_2 l0_2.length c0_2) := (ai eU.out 2).trans rfl; have sm : w4.cell? ⟨ij, 3, none⟩ = some (.slice A0_3 l0_3.length c0_3) := (ai eU.out 3).trans rfl; have rT := aj eU.out 0; have rS := aj eU.out 1; have rR := aj eU.out 2; have rQ := aj eU.out 3) | ((with_reducible refine az (f := 166) rfl ?_); refine bI (some 4) rfl rfl Tryz.func166 (by kernel_rfl) rfl #[.agg #[.int .i64 a0_0, .int .i64 a0_1, .slice A0_2 l0_2.length c0_2, .slice A0_3 l0_3.length c0_3]] rfl (by (try simp only [List.map_toArray, List.map_cons, List.map_nil]); first | done | rfl | (simp only [List.length_drop, List.length_take]; rfl)) ?_; (with_reducible refine (fG.calls k a0_0 a0_1 _ _ l0_2 _ _ l0_3 true _ ?side1 ?side2 ?side3 ?side4 A2.out).mono ?_); (case side1 => repeat (first | exact (Kd.ax cy.out HB.out) | (with_reducible refine Kd.aX ?_ _) | (with_reducible refine Kd.aW ?_ _) | (with_reducible refine Kd.bh ?_))); (case side2 => exact cD.out); (case side3 => repeat (first | exact (Kd.ax cF.out HB.out) | (with_reducible refine Kd.aX ?_ _) | (with_reducible refine Kd.aW ?_ _) | (with_reducible refine Kd.bh ?_))); (case side4 => exact cK.out); rintro e w6 ⟨rfl, hb⟩; refine ⟨_, rfl, ?_⟩; have n0_ := aa.mk (aD (g := ij) (o := .cells #[.int .i64 a0_0, .int .i64 a0_1, .slice A0_2 l0_2.length c0_2, .slice A0_3 l0_3.length c0_3] 28 (0, 0)) (by (with_reducible repeat (first | refine al ?_ _ | refine ao ?_ | refine an ?_ _)); exact eU.out) hb); have n1_ := aa.mk (ar (by repeat (first | (with_reducible first | exact HB.out | apply ag | apply af | apply ah | refine ak ?_ um.out) | exact HB.out)) hb); clear eU; clear HB; have eU := n0_; have HB := n1_; clear n0_ n1_; (try clear hb); (try clear hb2); (try clear hk); (try clear hi); have jA : w6.cell? ⟨ij, 0, none⟩ = some (.int .i64 a0_0) := (ai eU.out 0).trans rfl; have jz : w6.cell? ⟨ij, 1, none⟩ = some (.int .i64 a0_1) := (ai eU.out 1).trans rfl; have lr : w6.cell? ⟨ij, 2, none⟩ = some (.slice A0_2 l0_2.length c0_2) := (ai eU.out 2).trans rfl; have lq : w6.cell? ⟨ij, 3, none⟩ = some (.slice A0_3 l0_3.length c0_3) := (ai eU.out 3).trans rfl; have jy := aj eU.out 0; have jx := aj eU.out 1; have lf := aj eU.out 2; have la := aj eU.out 3))
  go_ret
  exact ⟨by first | rfl | (simp [av, au] <;> rfl) | (simp [*, av, au] <;> rfl), by repeat (first | (with_reducible first | exact HB.out | apply ag | apply af | apply ah | refine ak ?_ um.out) | exact HB.out)⟩
 ·replace c3 := Bool.eq_false_iff.mpr c3
  subst c3
  have H1 : (some false) = some r := by rw [if_neg (show ¬ (false = true) by decide)] at H; exact H
  clear H
  have H := H1
  clear H1
  obtain rfl := Option.some.inj H
  go_enter Tryz.func133, Tryz.ntmps133
  go_wp2_with (first | ((with_reducible refine aV (N := 1) rfl ?_); refine aM ?hg (N := 1) ?hd (cs := #[.int .i64 a0_0, .int .i64 a0_1, .slice A0_2 l0_2.length c0_2, .slice A0_3 l0_3.length c0_3]) (t := 28) ?hr ?_; (case hd => rfl); (case hg => rfl); (case hr => first | (go_simp; done) | (go_simp; rfl)); intro ij hg w8 hbox hb; have n0_ := aa.mk (ar (by repeat (first | (with_reducible first | exact HB.out | apply ag | apply af | apply ah) | exact HB.out)) hb); have n1_ := aa.mk (hbox); have n2_ := aa.mk ((by rw [hg]; exact (aq (by repeat (first | (with_reducible first | exact HB.out | apply ag | apply af | apply ah) | exact HB.out))) : w.heap.size ≤ ij)); have n3_ := aa.mk ((by rw [hg]; exact (aq (by repeat (first | (with_reducible first | exact HB.out | apply ag | apply af | apply ah) | exact HB.out))) : w.heap.size ≤ ij)); clear HB; have HB := n0_; have eU := n1_; have F9 := n2_; have um := n3_; clear n0_ n1_ n2_ n3_; clear hb hbox hg; have gS : w8.cell? ⟨ij, 0, none⟩ = some (.int .i64 a0_0) := (ai eU.out 0).trans rfl; have gR : w8.cell? ⟨ij, 1, none⟩ = some (.int .i64 a0_1) := (ai eU.out 1).trans rfl; have iD : w8.cell? ⟨ij, 2, none⟩ = some (.slice A0_2 l0_2.length c0_2) := (ai eU.out 2).trans rfl; have iC : w8.cell? ⟨ij, 3, none⟩ = some (.slice A0_3 l0_3.length c0_3) := (ai eU.out 3).trans rfl; have gQ := aj eU.out 0; have gP := aj eU.out 1; have iB := aj eU.out 2; have iA := aj eU.out 3) | ((with_reducible refine az (f := 166) rfl ?_); refine bI (some 4) rfl rfl Tryz.func166 (by kernel_rfl) rfl #[.agg #[.int .i64 a0_0, .int .i64 a0_1, .slice A0_2 l0_2.length c0_2, .slice A0_3 l0_3.length c0_3]] rfl (by (try simp only [List.map_toArray, List.map_cons, List.map_nil]); first | done | rfl | (simp only [List.length_drop, List.length_take]; rfl)) ?_; (with_reducible refine (fG.calls k a0_0 a0_1 _ _ l0_2 _ _ l0_3 false _ ?side1 ?side2 ?side3 ?side4 A2.out).mono ?_); (case side1 => repeat (first | exact (Kd.ax cy.out HB.out) | (with_reducible refine Kd.aX ?_ _) | (with_reducible refine Kd.aW ?_ _) | (with_reducible refine Kd.bh ?_))); (case side2 => exact cD.out); (case side3 => repeat (first | exact (Kd.ax cF.out HB.out) | (with_reducible refine Kd.aX ?_ _) | (with_reducible refine Kd.aW ?_ _) | (with_reducible refine Kd.bh ?_))); (case side4 => exact cK.out); rintro e w10 ⟨rfl, hb⟩; refine ⟨_, rfl, ?_⟩; have n0_ := aa.mk (aD (g := ij) (o := .cells #[.int .i64 a0_0, .int .i64 a0_1, .slice A0_2 l0_2.length c0_2, .slice A0_3 l0_3.length c0_3] 28 (0, 0)) (by (with_reducible repeat (first | refine al ?_ _ | refine ao ?_ | refine an ?_ _)); exact eU.out) hb); have n1_ := aa.mk (ar (by repeat (first | (with_reducible first | exact HB.out | apply ag | apply af | apply ah | refine ak ?_ um.out) | exact HB.out)) hb); clear eU; clear HB; have eU := n0_; have HB := n1_; clear n0_ n1_; (try clear hb); (try clear hb2); (try clear hk); (try clear hi)))
  go_ret
  exact ⟨by first | rfl | (simp [av, au] <;> rfl) | (simp [*, av, au] <;> rfl), by repeat (first | (with_reducible first | exact HB.out | apply ag | apply af | apply ah | refine ak ?_ um.out) | exact HB.out)⟩
end Go.Proofs.YtmjlmloomkodpaaGreatDoor.PA
namespace Go.Proofs.YtmjlmloomkodpaaGreatDoor.PA
open Go.RowKit Go.Proofs.ae.aw Go.Proofs.ae.aJ Go.Proofs.ae.aN
attribute [local go_sem] bo bm bC bB a6 aZ bn bj
set_option linter.unusedVariables false
set_option linter.unusedSimpArgs false
def eH.f (k : Nat) (a0_0 : Int) (a0_1 : Int) (l0_2 : List Int) (l0_3 : List Int) (a1 : Int) (a2 : Bool) : Option (Bool) := if a2 = true then ((dU.f k a0_0 a0_1 l0_2 l0_3).bind fun t223 => (if t223 = true then ((cz.f a1 0 2).bind fun t224 => (some t224)) else (some false))) else ((dU.f k a0_0 a0_1 l0_2 l0_3).bind fun t225 => (if t225 = true then ((cz.f a1 0 4).bind fun t226 => (some t226)) else (some false)))
set_option maxHeartbeats 8000000 in
set_option maxRecDepth 100000 in
theorem eH.calls (k : Nat) (a0_0 : Int) (a0_1 : Int) (A0_2 : Option Addr) (c0_2 : Nat) (l0_2 : List Int) (A0_3 : Option Addr) (c0_3 : Nat) (l0_3 : List Int) (a1 : Int) (a2 : Bool) (r : Bool) (w : World) (ca : Kd.C (Kd.int .i64) w A0_2 l0_2.length l0_2) (bX : l0_2.length ≤ c0_2) (b0 : Kd.C (Kd.int .i64) w A0_3 l0_3.length l0_3) (bW : l0_3.length ≤ c0_3) (h : eH.f k a0_0 a0_1 l0_2 l0_3 a1 a2 = some r) :
  Calls Tryz.prog 100 #[.agg #[.int .i64 a0_0, .int .i64 a0_1, .slice A0_2 l0_2.length c0_2, .slice A0_3 l0_3.length c0_3], .int .i64 a1, .bool a2] w fun e w' => e = .returned (.bool r) ∧ Below w.heap.size w w' := by
 have hu28 := Tryz.underlying28
 have cy := aa.mk ca
 have cD := aa.mk bX
 clear ca bX
 have cF := aa.mk b0
 have cK := aa.mk bW
 clear b0 bW
 have HB := aa.mk (Below.refl w.heap.size w)
 have H : (if a2 = true then ((dU.f k a0_0 a0_1 l0_2 l0_3).bind fun t223 => (if t223 = true then ((cz.f a1 0 2).bind fun t224 => (some t224)) else (some false))) else ((dU.f k a0_0 a0_1 l0_2 l0_3).bind fun t225 => (if t225 = true then ((cz.f a1 0 4).bind fun t226 => (some t226)) else (some false)))) = some r := h
 clear h
 by_cases c4 : a2 = true
 ·subst c4
  have H1 : ((dU.f k a0_0 a0_1 l0_2 l0_3).bind fun t223 => (if t223 = true then ((cz.f a1 0 2).bind fun t224 => (some t224)) else (some false))) = some r := by rw [if_pos rfl] at H; exact H
  clear H
  have H := H1
  clear H1
  replace H := Option.bind_eq_some_iff.mp H
  obtain ⟨t223, A50, H⟩ := H
  replace H : (if t223 = true then ((cz.f a1 0 2).bind fun t224 => (some t224)) else (some false)) = some r := H
  have A5 := aa.mk A50
  clear A50
  by_cases c6 : t223 = true
  ·subst c6
   have H1 : ((cz.f a1 0 2).bind fun t224 => (some t224)) = some r := by rw [if_pos rfl] at H; exact H
   clear H
   have H := H1
   clear H1
   replace H := Option.bind_eq_some_iff.mp H
   obtain ⟨t224, A70, H⟩ := H
   replace H : (some t224) = some r := H
   have A7 := aa.mk A70
   clear A70
   obtain rfl := Option.some.inj H
   go_enter Tryz.func100, Tryz.ntmps100
   go_wp2_with (first | ((with_reducible refine aV (N := 3) rfl ?_); refine aM ?hg (N := 3) ?hd (cs := #[.int .i64 a0_0, .int .i64 a0_1, .slice A0_2 l0_2.length c0_2, .slice A0_3 l0_3.length c0_3]) (t := 28) ?hr ?_; (case hd => rfl); (case hg => rfl); (case hr => first | (go_simp; done) | (go_simp; rfl)); intro eR hg w8 hbox hb; have n0_ := aa.mk (ar (by repeat (first | (with_reducible first | exact HB.out | apply ag | apply af | apply ah) | exact HB.out)) hb); have n1_ := aa.mk (hbox); have n2_ := aa.mk ((by rw [hg]; exact (aq (by repeat (first | (with_reducible first | exact HB.out | apply ag | apply af | apply ah) | exact HB.out))) : w.heap.size ≤ eR)); have n3_ := aa.mk ((by rw [hg]; exact (aq (by repeat (first | (with_reducible first | exact HB.out | apply ag | apply af | apply ah) | exact HB.out))) : w.heap.size ≤ eR)); clear HB; have HB := n0_; have dy := n1_; have zV := n2_; have lM := n3_; clear n0_ n1_ n2_ n3_; clear hb hbox hg; have gS : w8.cell? ⟨eR, 0, none⟩ = some (.int .i64 a0_0) := (ai dy.out 0).trans rfl; have gR : w8.cell? ⟨eR, 1, none⟩ = some (.int .i64 a0_1) := (ai dy.out 1).trans rfl; have iD : w8.cell? ⟨eR, 2, none⟩ = some (.slice A0_2 l0_2.length c0_2) := (ai dy.out 2).trans rfl; have iC : w8.cell? ⟨eR, 3, none⟩ = some (.slice A0_3 l0_3.length c0_3) := (ai dy.out 3).trans rfl; have gQ := aj dy.out 0; have gP := aj dy.out 1; have iB := aj dy.out 2; have iA := aj dy.out 3) | ((with_reducible refine az (f := 133) rfl ?_); refine bI (some 10) rfl rfl Tryz.func133 (by kernel_rfl) rfl #[.agg #[.int .i64 a0_0, .int .i64 a0_1, .slice A0_2 l0_2.length c0_2, .slice A0_3 l0_3.length c0_3]] rfl (by (try simp only [List.map_toArray, List.map_cons, List.map_nil]); first | done | rfl | (simp only [List.length_drop, List.length_take]; rfl)) ?_; (with_reducible refine (dU.calls k a0_0 a0_1 _ _ l0_2 _ _ l0_3 true _ ?side1 ?side2 ?side3 ?side4 A5.out).mono ?_); (case side1 => repeat (first | exact (Kd.ax cy.out HB.out) | (with_reducible refine Kd.aX ?_ _) | (with_reducible refine Kd.aW ?_ _) | (with_reducible refine Kd.bh ?_))); (case side2 => exact cD.out); (case side3 => repeat (first | exact (Kd.ax cF.out HB.out) | (with_reducible refine Kd.aX ?_ _) | (with_reducible refine Kd.aW ?_ _) | (with_reducible refine Kd.bh ?_))); (case side4 => exact cK.out); rintro e w10 ⟨rfl, hb⟩; refine ⟨_, rfl, ?_⟩; have n0_ := aa.mk (aD (g := eR) (o := .cells #[.int .i64 a0_0, .int .i64 a0_1, .slice A0_2 l0_2.length c0_2, .slice A0_3 l0_3.length c0_3] 28 (0, 0)) (by (with_reducible repeat (first | refine al ?_ _ | refine ao ?_ | refine an ?_ _)); exact dy.out) hb); have n1_ := aa.mk (ar (by repeat (first | (with_reducible first | exact HB.out | apply ag | apply af | apply ah | refine ak ?_ lM.out) | exact HB.out)) hb); clear dy; clear HB; have dy := n0_; have HB := n1_; clear n0_ n1_; (try clear hb); (try clear hb2); (try clear hk); (try clear hi)) | (go_at_call 134; (with_reducible refine (cz.calls a1 0 2 t224 _ A7.out).mono ?_); rintro e w' ⟨rfl, ⟨nd, rfl⟩⟩))
   go_ret
   exact ⟨by first | rfl | (simp [av, au] <;> rfl) | (simp [*, av, au] <;> rfl), by repeat (first | (with_reducible first | exact HB.out | apply ag | apply af | apply ah | refine ak ?_ lM.out) | exact HB.out)⟩
  ·replace c6 := Bool.eq_false_iff.mpr c6
   subst c6
   have H1 : (some false) = some r := by rw [if_neg (show ¬ (false = true) by decide)] at H; exact H
   clear H
   have H := H1
   clear H1
   obtain rfl := Option.some.inj H
   go_enter Tryz.func100, Tryz.ntmps100
   go_wp2_with (first | ((with_reducible refine aV (N := 3) rfl ?_); refine aM ?hg (N := 3) ?hd (cs := #[.int .i64 a0_0, .int .i64 a0_1, .slice A0_2 l0_2.length c0_2, .slice A0_3 l0_3.length c0_3]) (t := 28) ?hr ?_; (case hd => rfl); (case hg => rfl); (case hr => first | (go_simp; done) | (go_simp; rfl)); intro eR hg w11 hbox hb; have n0_ := aa.mk (ar (by repeat (first | (with_reducible first | exact HB.out | apply ag | apply af | apply ah) | exact HB.out)) hb); have n1_ := aa.mk (hbox); have n2_ := aa.mk ((by rw [hg]; exact (aq (by repeat (first | (with_reducible first | exact HB.out | apply ag | apply af | apply ah) | exact HB.out))) : w.heap.size ≤ eR)); have n3_ := aa.mk ((by rw [hg]; exact (aq (by repeat (first | (with_reducible first | exact HB.out | apply ag | apply af | apply ah) | exact HB.out))) : w.heap.size ≤ eR)); clear HB; have HB := n0_; have dy := n1_; have zV := n2_; have lM := n3_; clear n0_ n1_ n2_ n3_; clear hb hbox hg; have iQ : w11.cell? ⟨eR, 0, none⟩ = some (.int .i64 a0_0) := (ai dy.out 0).trans rfl; have iP : w11.cell? ⟨eR, 1, none⟩ = some (.int .i64 a0_1) := (ai dy.out 1).trans rfl; have iM : w11.cell? ⟨eR, 2, none⟩ = some (.slice A0_2 l0_2.length c0_2) := (ai dy.out 2).trans rfl; have iL : w11.cell? ⟨eR, 3, none⟩ = some (.slice A0_3 l0_3.length c0_3) := (ai dy.out 3).trans rfl; have iK := aj dy.out 0; have iJ := aj dy.out 1; have iI := aj dy.out 2; have iH := aj dy.out 3) | ((with_reducible refine az (f := 133) rfl ?_); refine bI (some 10) rfl rfl Tryz.func133 (by kernel_rfl) rfl #[.agg #[.int .i64 a0_0, .int .i64 a0_1, .slice A0_2 l0_2.length c0_2, .slice A0_3 l0_3.length c0_3]] rfl (by (try simp only [List.map_toArray, List.map_cons, List.map_nil]); first | done | rfl | (simp only [List.length_drop, List.length_take]; rfl)) ?_; (with_reducible refine (dU.calls k a0_0 a0_1 _ _ l0_2 _ _ l0_3 false _ ?side1 ?side2 ?side3 ?side4 A5.out).mono ?_); (case side1 => repeat (first | exact (Kd.ax cy.out HB.out) | (with_reducible refine Kd.aX ?_ _) | (with_reducible refine Kd.aW ?_ _) | (with_reducible refine Kd.bh ?_))); (case side2 => exact cD.out); (case side3 => repeat (first | exact (Kd.ax cF.out HB.out) | (with_reducible refine Kd.aX ?_ _) | (with_reducible refine Kd.aW ?_ _) | (with_reducible refine Kd.bh ?_))); (case side4 => exact cK.out); rintro e w13 ⟨rfl, hb⟩; refine ⟨_, rfl, ?_⟩; have n0_ := aa.mk (aD (g := eR) (o := .cells #[.int .i64 a0_0, .int .i64 a0_1, .slice A0_2 l0_2.length c0_2, .slice A0_3 l0_3.length c0_3] 28 (0, 0)) (by (with_reducible repeat (first | refine al ?_ _ | refine ao ?_ | refine an ?_ _)); exact dy.out) hb); have n1_ := aa.mk (ar (by repeat (first | (with_reducible first | exact HB.out | apply ag | apply af | apply ah | refine ak ?_ lM.out) | exact HB.out)) hb); clear dy; clear HB; have dy := n0_; have HB := n1_; clear n0_ n1_; (try clear hb); (try clear hb2); (try clear hk); (try clear hi)))
   go_ret
   exact ⟨by first | rfl | (simp [av, au] <;> rfl) | (simp [*, av, au] <;> rfl), by repeat (first | (with_reducible first | exact HB.out | apply ag | apply af | apply ah | refine ak ?_ lM.out) | exact HB.out)⟩
 ·replace c4 := Bool.eq_false_iff.mpr c4
  subst c4
  have H1 : ((dU.f k a0_0 a0_1 l0_2 l0_3).bind fun t225 => (if t225 = true then ((cz.f a1 0 4).bind fun t226 => (some t226)) else (some false))) = some r := by rw [if_neg (show ¬ (false = true) by decide)] at H; exact H
  clear H
  have H := H1
  clear H1
  replace H := Option.bind_eq_some_iff.mp H
  obtain ⟨t225, A140, H⟩ := H
  replace H : (if t225 = true then ((cz.f a1 0 4).bind fun t226 => (some t226)) else (some false)) = some r := H
  have A14 := aa.mk A140
  clear A140
  by_cases c15 : t225 = true
  ·subst c15
   have H1 : ((cz.f a1 0 4).bind fun t226 => (some t226)) = some r := by rw [if_pos rfl] at H; exact H
   clear H
   have H := H1
   clear H1
   replace H := Option.bind_eq_some_iff.mp H
   obtain ⟨t226, A160, H⟩ := H
   replace H : (some t226) = some r := H
   have A16 := aa.mk A160
   clear A160
   obtain rfl := Option.some.inj H
   go_enter Tryz.func100, Tryz.ntmps100
   go_wp2_with (first | ((with_reducible refine aV (N := 3) rfl ?_); refine aM ?hg (N := 3) ?hd (cs := #[.int .i64 a0_0, .int .i64 a0_1, .slice A0_2 l0_2.length c0_2, .slice A0_3 l0_3.length c0_3]) (t := 28) ?hr ?_; (case hd => rfl); (case hg => rfl); (case hr => first | (go_simp; done) | (go_simp; rfl)); intro eR hg w17 hbox hb; have n0_ := aa.mk (ar (by repeat (first | (with_reducible first | exact HB.out | apply ag | apply af | apply ah) | exact HB.out)) hb); have n1_ := aa.mk (hbox); have n2_ := aa.mk ((by rw [hg]; exact (aq (by repeat (first | (with_reducible first | exact HB.out | apply ag | apply af | apply ah) | exact HB.out))) : w.heap.size ≤ eR)); have n3_ := aa.mk ((by rw [hg]; exact (aq (by repeat (first | (with_reducible first | exact HB.out | apply ag | apply af | apply ah) | exact HB.out))) : w.heap.size ≤ eR)); clear HB; have HB := n0_; have dy := n1_; have zV := n2_; have lM := n3_; clear n0_ n1_ n2_ n3_; clear hb hbox hg; have sA : w17.cell? ⟨eR, 0, none⟩ = some (.int .i64 a0_0) := (ai dy.out 0).trans rfl; have sy : w17.cell? ⟨eR, 1, none⟩ = some (.int .i64 a0_1) := (ai dy.out 1).trans rfl; have wN : w17.cell? ⟨eR, 2, none⟩ = some (.slice A0_2 l0_2.length c0_2) := (ai dy.out 2).trans rfl; have wM : w17.cell? ⟨eR, 3, none⟩ = some (.slice A0_3 l0_3.length c0_3) := (ai dy.out 3).trans rfl; have rX := aj dy.out 0; have rV := aj dy.out 1; have we := aj dy.out 2; have wb := aj dy.out 3) | ((with_reducible refine az (f := 133) rfl ?_); refine bI (some 10) rfl rfl Tryz.func133 (by kernel_rfl) rfl #[.agg #[.int .i64 a0_0, .int .i64 a0_1, .slice A0_2 l0_2.length c0_2, .slice A0_3 l0_3.length c0_3]] rfl (by (try simp only [List.map_toArray, List.map_cons, List.map_nil]); first | done | rfl | (simp only [List.length_drop, List.length_take]; rfl)) ?_; (with_reducible refine (dU.calls k a0_0 a0_1 _ _ l0_2 _ _ l0_3 true _ ?side1 ?side2 ?side3 ?side4 A14.out).mono ?_); (case side1 => repeat (first | exact (Kd.ax cy.out HB.out) | (with_reducible refine Kd.aX ?_ _) | (with_reducible refine Kd.aW ?_ _) | (with_reducible refine Kd.bh ?_))); (case side2 => exact cD.out); (case side3 => repeat (first | exact (Kd.ax cF.out HB.out) | (with_reducible refine Kd.aX ?_ _) | (with_reducible refine Kd.aW ?_ _) | (with_reducible refine Kd.bh ?_))); (case side4 => exact cK.out); rintro e w19 ⟨rfl, hb⟩; refine ⟨_, rfl, ?_⟩; have n0_ := aa.mk (aD (g := eR) (o := .cells #[.int .i64 a0_0, .int .i64 a0_1, .slice A0_2 l0_2.length c0_2, .slice A0_3 l0_3.length c0_3] 28 (0, 0)) (by (with_reducible repeat (first | refine al ?_ _ | refine ao ?_ | refine an ?_ _)); exact dy.out) hb); have n1_ := aa.mk (ar (by repeat (first | (with_reducible first | exact HB.out | apply ag | apply af | apply ah | refine ak ?_ lM.out) | exact HB.out)) hb); clear dy; clear HB; have dy := n0_; have HB := n1_; clear n0_ n1_; (try clear hb); (try clear hb2); (try clear hk); (try clear hi)) | (go_at_call 134; (with_reducible refine (cz.calls a1 0 4 t226 _ A16.out).mono ?_); rintro e w' ⟨rfl, ⟨nd, rfl⟩⟩))
   go_ret
   exact ⟨by first | rfl | (simp [av, au] <;> rfl) | (simp [*, av, au] <;> rfl), by repeat (first | (with_reducible first | exact HB.out | apply ag | apply af | apply ah | refine ak ?_ lM.out) | exact HB.out)⟩
  ·replace c15 := Bool.eq_false_iff.mpr c15
   subst c15
   have H1 : (some false) = some r := by rw [if_neg (show ¬ (false = true) by decide)] at H; exact H
   clear H
   have H := H1
   clear H1
   obtain rfl := Option.some.inj H
   go_enter Tryz.func100, Tryz.ntmps100
   go_wp2_with (first | ((with_reducible refine aV (N := 3) rfl ?_); refine aM ?hg (N := 3) ?hd (cs := #[.int .i64 a0_0, .int .i64 a0_1, .slice A0_2 l0_2.length c0_2, .slice A0_3 l0_3.length c0_3]) (t := 28) ?hr ?_; (case hd => rfl); (case hg => rfl); (case hr => first | (go_simp; done) | (go_simp; rfl)); intro eR hg w20 hbox hb; have n0_ := aa.mk (ar (by repeat (first | (with_reducible first | exact HB.out | apply ag | apply af | apply ah) | exact HB.out)) hb); have n1_ := aa.mk (hbox); have n2_ := aa.mk ((by rw [hg]; exact (aq (by repeat (first | (with_reducible first | exact HB.out | apply ag | apply af | apply ah) | exact HB.out))) : w.heap.size ≤ eR)); have n3_ := aa.mk ((by rw [hg]; exact (aq (by repeat (first | (with_reducible first | exact HB.out | apply ag | apply af | apply ah) | exact HB.out))) : w.heap.size ≤ eR)); clear HB; have HB := n0_; have dy := n1_; have zV := n2_; have lM := n3_; clear n0_ n1_ n2_ n3_; clear hb hbox hg; have BU : w20.cell? ⟨eR, 0, none⟩ = some (.int .i64 a0_0) := (ai dy.out 0).trans rfl; have BT : w20.cell? ⟨eR, 1, none⟩ = some (.int .i64 a0_1) := (ai dy.out 1).trans rfl; have BS : w20.cell? ⟨eR, 2, none⟩ = some (.slice A0_2 l0_2.length c0_2) := (ai dy.out 2).trans rfl; have BR : w20.cell? ⟨eR, 3, none⟩ = some (.slice A0_3 l0_3.length c0_3) := (ai dy.out 3).trans rfl; have Bz := aj dy.out 0; have Bx := aj dy.out 1; have Bw := aj dy.out 2; have Bv := aj dy.out 3) | ((with_reducible refine az (f := 133) rfl ?_); refine bI (some 10) rfl rfl Tryz.func133 (by kernel_rfl) rfl #[.agg #[.int .i64 a0_0, .int .i64 a0_1, .slice A0_2 l0_2.length c0_2, .slice A0_3 l0_3.length c0_3]] rfl (by (try simp only [List.map_toArray, List.map_cons, List.map_nil]); first | done | rfl | (simp only [List.length_drop, List.length_take]; rfl)) ?_; (with_reducible refine (dU.calls k a0_0 a0_1 _ _ l0_2 _ _ l0_3 false _ ?side1 ?side2 ?side3 ?side4 A14.out).mono ?_); (case side1 => repeat (first | exact (Kd.ax cy.out HB.out) | (with_reducible refine Kd.aX ?_ _) | (with_reducible refine Kd.aW ?_ _) | (with_reducible refine Kd.bh ?_))); (case side2 => exact cD.out); (case side3 => repeat (first | exact (Kd.ax cF.out HB.out) | (with_reducible refine Kd.aX ?_ _) | (with_reducible refine Kd.aW ?_ _) | (with_reducible refine Kd.bh ?_))); (case side4 => exact cK.out); rintro e w22 ⟨rfl, hb⟩; refine ⟨_, rfl, ?_⟩; have n0_ := aa.mk (aD (g := eR) (o := .cells #[.int .i64 a0_0, .int .i64 a0_1, .slice A0_2 l0_2.length c0_2, .slice A0_3 l0_3.length c0_3] 28 (0, 0)) (by (with_reducible repeat (first | refine al ?_ _ | refine ao ?_ | refine an ?_ _)); exact dy.out) hb); have n1_ := aa.mk (ar (by repeat (first | (with_reducible first | exact HB.out | apply ag | apply af | apply ah | refine ak ?_ lM.out) | exact HB.out)) hb); clear dy; clear HB; have dy := n0_; have HB := n1_; clear n0_ n1_; (try clear hb); (try clear hb2); (try clear hk); (try clear hi)))
   go_ret
   exact ⟨by first | rfl | (simp [av, au] <;> rfl) | (simp [*, av, au] <;> rfl), by repeat (first | (with_reducible first | exact HB.out | apply ag | apply af | apply ah | refine ak ?_ lM.out) | exact HB.out)⟩
end Go.Proofs.YtmjlmloomkodpaaGreatDoor.PA
namespace Go.Proofs.YtmjlmloomkodpaaGreatDoor.PA
open Go.RowKit Go.Proofs.ae.aw Go.Proofs.ae.aJ Go.Proofs.ae.aN
attribute [local go_sem] bo bm bC bB a6 aZ bn bj
set_option linter.unusedVariables false
set_option linter.unusedSimpArgs false
def eI.f (a0_0 : Int) (a0_1 : Int) (l0_2 : List Int) (l0_3 : List Int) : Option (Int) := some (wrap64 ((l0_2.length : Int) + (l0_3.length : Int)))
set_option maxHeartbeats 8000000 in
set_option maxRecDepth 100000 in
theorem eI.calls (a0_0 : Int) (a0_1 : Int) (A0_2 : Option Addr) (c0_2 : Nat) (l0_2 : List Int) (A0_3 : Option Addr) (c0_3 : Nat) (l0_3 : List Int) (r : Int) (w : World) (ca : Kd.C (Kd.int .i64) w A0_2 l0_2.length l0_2) (bX : l0_2.length ≤ c0_2) (b0 : Kd.C (Kd.int .i64) w A0_3 l0_3.length l0_3) (bW : l0_3.length ≤ c0_3) (h : eI.f a0_0 a0_1 l0_2 l0_3 = some r) :
  Calls Tryz.prog 101 #[.agg #[.int .i64 a0_0, .int .i64 a0_1, .slice A0_2 l0_2.length c0_2, .slice A0_3 l0_3.length c0_3]] w fun e w' => e = .returned (.int .i64 r) ∧ Below w.heap.size w w' := by
 have hu28 := Tryz.underlying28
 have cy := aa.mk ca
 have cD := aa.mk bX
 clear ca bX
 have cF := aa.mk b0
 have cK := aa.mk bW
 clear b0 bW
 have HB := aa.mk (Below.refl w.heap.size w)
 have H : (some (wrap64 ((l0_2.length : Int) + (l0_3.length : Int)))) = some r := h
 clear h
 obtain rfl := Option.some.inj H
 go_enter Tryz.func101, Tryz.ntmps101
 go_wp2_with (first | ((with_reducible refine aV (N := 1) rfl ?_); refine aM ?hg (N := 1) ?hd (cs := #[.int .i64 a0_0, .int .i64 a0_1, .slice A0_2 l0_2.length c0_2, .slice A0_3 l0_3.length c0_3]) (t := 28) ?hr ?_; (case hd => rfl); (case hg => rfl); (case hr => first | (go_simp; done) | (go_simp; rfl)); intro qU hg w2 hbox hb; have n0_ := aa.mk (ar (by repeat (first | (with_reducible first | exact HB.out | apply ag | apply af | apply ah) | exact HB.out)) hb); have n1_ := aa.mk (hbox); have n2_ := aa.mk ((by rw [hg]; exact (aq (by repeat (first | (with_reducible first | exact HB.out | apply ag | apply af | apply ah) | exact HB.out))) : w.heap.size ≤ qU)); have n3_ := aa.mk ((by rw [hg]; exact (aq (by repeat (first | (with_reducible first | exact HB.out | apply ag | apply af | apply ah) | exact HB.out))) : w.heap.size ≤ qU)); clear HB; have HB := n0_; have oz := n1_; have GW227 := n2_; have Gf := n3_; clear n0_ n1_ n2_ n3_; clear hb hbox hg; have lv : w2.cell? ⟨qU, 0, none⟩ = some (.int .i64 a0_0) := (ai oz.out 0).trans rfl; have lu : w2.cell? ⟨qU, 1, none⟩ = some (.int .i64 a0_1) := (ai oz.out 1).trans rfl; have nH : w2.cell? ⟨qU, 2, none⟩ = some (.slice A0_2 l0_2.length c0_2) := (ai oz.out 2).trans rfl; have nG : w2.cell? ⟨qU, 3, none⟩ = some (.slice A0_3 l0_3.length c0_3) := (ai oz.out 3).trans rfl; have lh := aj oz.out 0; have lg := aj oz.out 1; have nF := aj oz.out 2; have nD := aj oz.out 3))
 go_ret
 exact ⟨by first | rfl | (simp [av, au] <;> rfl) | (simp [*, av, au] <;> rfl), by repeat (first | (with_reducible first | exact HB.out | apply ag | apply af | apply ah | refine ak ?_ Gf.out) | exact HB.out)⟩
end Go.Proofs.YtmjlmloomkodpaaGreatDoor.PA
namespace Go.Proofs.YtmjlmloomkodpaaGreatDoor.PA
open Go.RowKit Go.Proofs.ae.aw Go.Proofs.ae.aJ Go.Proofs.ae.aN
attribute [local go_sem] bo bm bC bB a6 aZ bn bj
set_option linter.unusedVariables false
set_option linter.unusedSimpArgs false
def dG.f (a0 : Int) : Option (Bool) := (cz.f a0 0 100).bind fun t228 => (some t228)
set_option maxHeartbeats 8000000 in
set_option maxRecDepth 100000 in
theorem dG.calls (a0 : Int) (r : Bool) (w : World) (h : dG.f a0 = some r) :
  Calls Tryz.prog 102 #[.int .i64 a0] w fun e w' => e = .returned (.bool r) ∧ aK w w' := by
 have H : ((cz.f a0 0 100).bind fun t228 => (some t228)) = some r := h
 clear h
 replace H := Option.bind_eq_some_iff.mp H
 obtain ⟨t228, A20, H⟩ := H
 replace H : (some t228) = some r := H
 have A2 := aa.mk A20
 clear A20
 obtain rfl := Option.some.inj H
 go_enter Tryz.func102, Tryz.ntmps102
 go_wp2_with (first | ((with_reducible refine az (f := 134) rfl ?_); refine bI (some 4) rfl rfl Tryz.func134 (by kernel_rfl) rfl #[.int .i64 a0, .int .i64 0, .int .i64 100] rfl (by (try simp only [List.map_toArray, List.map_cons, List.map_nil]); first | done | rfl | (simp only [List.length_drop, List.length_take]; rfl)) ?_; (with_reducible refine (cz.calls a0 0 100 t228 _ A2.out).mono ?_); rintro e w' ⟨rfl, ⟨nd, rfl⟩⟩; refine ⟨_, rfl, ?_⟩))
 go_ret
 exact ⟨by first | rfl | (simp; done) | (simp [*]; done), by repeat (first | exact aK.refl _ | apply aK.step)⟩
end Go.Proofs.YtmjlmloomkodpaaGreatDoor.PA
namespace Go.Proofs.YtmjlmloomkodpaaGreatDoor.PA
open Go.RowKit Go.Proofs.ae.aw Go.Proofs.ae.aJ Go.Proofs.ae.aN
attribute [local go_sem] bo bm bC bB a6 aZ bn bj
set_option linter.unusedVariables false
set_option linter.unusedSimpArgs false
def cN.f (k : Nat) (a0_0 : Int) (a0_1 : Int) (l0_2 : List Int) (l0_3 : List Int) (a0_4 : Int) (a0_5 : Bool) (a0_6 : Int) : Option (Bool) := (eH.f k a0_0 a0_1 l0_2 l0_3 a0_4 a0_5).bind fun t230 => (if t230 = true then ((eI.f a0_0 a0_1 l0_2 l0_3).bind fun t231 => (if a0_4 ≤ t231 then ((dG.f a0_6).bind fun t232 => (some t232)) else (some false))) else (some false))
def cN.T1 : Bool × List (List Nat × List Nat) := (true, [([], []), ([0], [0]), ([], []), ([2], [2]), ([], []), ([4], [4]), ([1, 3, 5], [1, 3, 5]), ([6, 6], [6]), ([7], [7]), ([8, 7], [7, 8]), ([7], [7]), ([10, 7], [7, 10]), ([11, 7, 7], [7, 11]), ([9, 12, 7], [7, 9, 12]), ([7, 13], [7, 13]), ([14, 12], [14]), ([15], [15]), ([16, 15], [15, 16]), ([17, 15, 15], [15, 17]), ([15, 18], [15, 18]), ([19, 18, 0, 1, 2, 3, 4, 5, 6, 7, 8, 9, 10, 11, 12, 13, 14, 15, 16, 17, 18, 19], [19])])
def cN.B1 : List Nat := [0, 1, 0, 4, 0, 16, 63, 127, 255, 511, 255, 1279, 3327, 8191, 16383, 32767, 65535, 131071, 262143, 524287, 1048575]
theorem cN.uy : iw .any (opsOf Tryz.f63 1) = cN.T1 := by kernel_rfl
theorem cN.pT : gL cN.T1.2 cN.B1 = true := by kernel_rfl
set_option maxHeartbeats 8000000 in
set_option maxRecDepth 100000 in
theorem cN.calls (k : Nat) (a0_0 : Int) (a0_1 : Int) (A0_2 : Option Addr) (c0_2 : Nat) (l0_2 : List Int) (A0_3 : Option Addr) (c0_3 : Nat) (l0_3 : List Int) (a0_4 : Int) (a0_5 : Bool) (a0_6 : Int) (r : Bool) (w : World) (ca : Kd.C (Kd.int .i64) w A0_2 l0_2.length l0_2) (bX : l0_2.length ≤ c0_2) (b0 : Kd.C (Kd.int .i64) w A0_3 l0_3.length l0_3) (bW : l0_3.length ≤ c0_3) (h : cN.f k a0_0 a0_1 l0_2 l0_3 a0_4 a0_5 a0_6 = some r) :
  Calls Tryz.prog 63 #[.agg #[.int .i64 a0_0, .int .i64 a0_1, .slice A0_2 l0_2.length c0_2, .slice A0_3 l0_3.length c0_3, .int .i64 a0_4, .bool a0_5, .int .i64 a0_6]] w fun e w' => e = .returned (.bool r) ∧ Below w.heap.size w w' := by
 have hu32 := Tryz.underlying32
 have hu28 := Tryz.underlying28
 have cy := aa.mk ca
 have cD := aa.mk bX
 clear ca bX
 have cF := aa.mk b0
 have cK := aa.mk bW
 clear b0 bW
 have HB := aa.mk (Below.refl w.heap.size w)
 have H : ((eH.f k a0_0 a0_1 l0_2 l0_3 a0_4 a0_5).bind fun t230 => (if t230 = true then ((eI.f a0_0 a0_1 l0_2 l0_3).bind fun t231 => (if a0_4 ≤ t231 then ((dG.f a0_6).bind fun t232 => (some t232)) else (some false))) else (some false))) = some r := h
 clear h
 replace H := Option.bind_eq_some_iff.mp H
 obtain ⟨t230, A20, H⟩ := H
 replace H : (if t230 = true then ((eI.f a0_0 a0_1 l0_2 l0_3).bind fun t231 => (if a0_4 ≤ t231 then ((dG.f a0_6).bind fun t232 => (some t232)) else (some false))) else (some false)) = some r := H
 have A2 := aa.mk A20
 clear A20
 by_cases c3 : t230 = true
 ·subst c3
  have H1 : ((eI.f a0_0 a0_1 l0_2 l0_3).bind fun t231 => (if a0_4 ≤ t231 then ((dG.f a0_6).bind fun t232 => (some t232)) else (some false))) = some r := by rw [if_pos rfl] at H; exact H
  clear H
  have H := H1
  clear H1
  replace H := Option.bind_eq_some_iff.mp H
  obtain ⟨t231, A40, H⟩ := H
  replace H : (if a0_4 ≤ t231 then ((dG.f a0_6).bind fun t232 => (some t232)) else (some false)) = some r := H
  have A4 := aa.mk A40
  clear A40
  by_cases c5 : a0_4 ≤ t231
  ·rw [if_pos c5] at H
   have c5b0 : decide (a0_4 ≤ t231) = true := decide_eq_true c5
   clear c5
   replace H := Option.bind_eq_some_iff.mp H
   obtain ⟨t232, A60, H⟩ := H
   replace H : (some t232) = some r := H
   have A6 := aa.mk A60
   clear A60
   obtain rfl := Option.some.inj H
   go_enter Tryz.func63, Tryz.ntmps63
   try go_wp2_with (first | ((with_reducible refine aV (N := 1) rfl ?_); refine aM ?hg (N := 1) ?hd (cs := #[.int .i64 a0_0, .int .i64 a0_1, .slice A0_2 l0_2.length c0_2, .slice A0_3 l0_3.length c0_3, .int .i64 a0_4, .bool a0_5, .int .i64 a0_6]) (t := 32) ?hr ?_; (case hd => rfl); (case hg => rfl); (case hr => first | (go_simp; done) | (go_simp; rfl)); intro eB hg w7 hbox hb; have n0_ := aa.mk (ar (by repeat (first | (with_reducible first | exact HB.out | apply ag | apply af | apply ah) | exact HB.out)) hb); have n1_ := aa.mk (hbox); have n2_ := aa.mk ((by rw [hg]; exact (aq (by repeat (first | (with_reducible first | exact HB.out | apply ag | apply af | apply ah) | exact HB.out))) : w.heap.size ≤ eB)); have n3_ := aa.mk ((by rw [hg]; exact (aq (by repeat (first | (with_reducible first | exact HB.out | apply ag | apply af | apply ah) | exact HB.out))) : w.heap.size ≤ eB)); clear HB; have HB := n0_; have cd := n1_; have Dc := n2_; have my := n3_; clear n0_ n1_ n2_ n3_; clear hb hbox hg))
   have n0_ := aa.mk (ao cd.out)
   have n1_ := aa.mk (ah HB.out)
   clear cd
   clear HB
   have cd := n0_
   have HB := n1_
   clear n0_ n1_
   refine j6 (n := 21) (S := fun w' => w'.cell? ⟨eB, 0, none⟩ = some (.int .i64 a0_0) ∧ w'.cell? ⟨eB, 1, none⟩ = some (.int .i64 a0_1) ∧ w'.cell? ⟨eB, 2, none⟩ = some (.slice A0_2 l0_2.length c0_2) ∧ w'.cell? ⟨eB, 3, none⟩ = some (.slice A0_3 l0_3.length c0_3) ∧ w'.cell? ⟨eB, 4, none⟩ = some (.int .i64 a0_4) ∧ w'.cell? ⟨eB, 5, none⟩ = some (.bool a0_5) ∧ w'.cell? ⟨eB, 6, none⟩ = some (.int .i64 a0_6)) (ds := []) #[false, false, false, false, false, false, false, false, false, false, false, false, false, false, false, false, false, false, false, false, false] (by kernel_rfl) rfl rfl ⟨(ai cd.out 0).trans rfl, (ai cd.out 1).trans rfl, (ai cd.out 2).trans rfl, (ai cd.out 3).trans rfl, (ai cd.out 4).trans rfl, (ai cd.out 5).trans rfl, (ai cd.out 6).trans rfl⟩ (fun hHeld => ?_); refine fS cN.uy cN.pT (fun HT_ HW_ => ?_)
   generalize w7.drew = w8 at cd HB hHeld ⊢
   refine bO (i := 0) (N := some 3) (v := ?_) (a' := ?_) #[true, false, false, false, false, false, false, false, false, false, false, false, false, false, false, false, false, false, false, false, false] rfl rfl (bx HT_.out (by kernel_rfl)) (fun _ _ _ h => h) (Or.inl ⟨by rfl, ?_⟩) ?_ ?_
   rotate_left
   ·intro w'
    go_simp
    with_reducible rfl
   rotate_left
   ·simp only [Act.put, List.setIfInBounds_toArray, List.set_cons_zero, List.set_cons_succ, a8, bf]
    rfl
   refine bO (i := 2) (N := some 5) (v := ?_) (a' := ?_) #[true, false, true, false, false, false, false, false, false, false, false, false, false, false, false, false, false, false, false, false, false] rfl rfl (bx HT_.out (by kernel_rfl)) (fun _ _ _ h => h) (Or.inl ⟨by rfl, ?_⟩) ?_ ?_
   rotate_left
   ·intro w'
    go_simp
    with_reducible rfl
   rotate_left
   ·simp only [Act.put, List.setIfInBounds_toArray, List.set_cons_zero, List.set_cons_succ, a8, bf]
    rfl
   refine bO (i := 4) (N := some 7) (v := ?_) (a' := ?_) #[true, false, true, false, true, false, false, false, false, false, false, false, false, false, false, false, false, false, false, false, false] rfl rfl (bx HT_.out (by kernel_rfl)) (fun _ _ _ h => h) (Or.inl ⟨by rfl, ?_⟩) ?_ ?_
   rotate_left
   ·intro w'
    go_simp
    with_reducible rfl
   rotate_left
   ·simp only [Act.put, List.setIfInBounds_toArray, List.set_cons_zero, List.set_cons_succ, a8, bf]
    rfl
   refine eW (i := 1) (N := some 4) (v := ?_) (a' := ?_) #[true, true, true, false, true, false, false, false, false, false, false, false, false, false, false, false, false, false, false, false, false] rfl rfl (cV HT_.out HW_.out (by kernel_rfl)) (fun _ _ _ h => h) (Or.inl ⟨by rfl, ?_⟩) hHeld ?_ ?_
   rotate_left
   ·rintro w' ⟨s0, s1, s2, s3, s4, s5, s6⟩
    go_simp
    with_reducible rfl
   rotate_left
   ·simp only [Act.put, List.setIfInBounds_toArray, List.set_cons_zero, List.set_cons_succ, a8, bf]
    rfl
   refine eW (i := 3) (N := some 6) (v := ?_) (a' := ?_) #[true, true, true, true, true, false, false, false, false, false, false, false, false, false, false, false, false, false, false, false, false] rfl rfl (cV HT_.out HW_.out (by kernel_rfl)) (fun _ _ _ h => h) (Or.inl ⟨by rfl, ?_⟩) hHeld ?_ ?_
   rotate_left
   ·rintro w' ⟨s0, s1, s2, s3, s4, s5, s6⟩
    go_simp
    with_reducible rfl
   rotate_left
   ·simp only [Act.put, List.setIfInBounds_toArray, List.set_cons_zero, List.set_cons_succ, a8, bf]
    rfl
   refine eW (i := 5) (N := some 8) (v := ?_) (a' := ?_) #[true, true, true, true, true, true, false, false, false, false, false, false, false, false, false, false, false, false, false, false, false] rfl rfl (cV HT_.out HW_.out (by kernel_rfl)) (fun _ _ _ h => h) (Or.inl ⟨by rfl, ?_⟩) hHeld ?_ ?_
   rotate_left
   ·rintro w' ⟨s0, s1, s2, s3, s4, s5, s6⟩
    go_simp
    with_reducible rfl
   rotate_left
   ·simp only [Act.put, List.setIfInBounds_toArray, List.set_cons_zero, List.set_cons_succ, a8, bf]
    rfl
   refine jv (i := 6) (N := some 9) #[true, true, true, true, true, true, true, false, false, false, false, false, false, false, false, false, false, false, false, false, false] rfl rfl (eO HT_.out (by kernel_rfl)) (by decide) (fun K hK => ?_)
   refine gD Tryz.func100 (by kernel_rfl) rfl #[.agg #[.int .i64 a0_0, .int .i64 a0_1, .slice A0_2 l0_2.length c0_2, .slice A0_3 l0_3.length c0_3], .int .i64 a0_4, .bool a0_5] (by rfl) rfl rfl (by (try simp only [List.map_toArray, List.map_cons, List.map_nil]); first | done | rfl | (simp only [List.length_drop, List.length_take]; rfl)) ?_
   with_reducible refine (eH.calls k a0_0 a0_1 _ _ l0_2 _ _ l0_3 a0_4 a0_5 true _ ?side1 ?side2 ?side3 ?side4 A2.out).mono ?_
   (case side1 => repeat (first | exact (Kd.ax cy.out HB.out) | (with_reducible refine Kd.aX ?_ _) | (with_reducible refine Kd.aW ?_ _) | (with_reducible refine Kd.bh ?_)))
   (case side2 => exact cD.out)
   (case side3 => repeat (first | exact (Kd.ax cF.out HB.out) | (with_reducible refine Kd.aX ?_ _) | (with_reducible refine Kd.aW ?_ _) | (with_reducible refine Kd.bh ?_)))
   (case side4 => exact cK.out)
   rintro e w9 ⟨rfl, hb⟩
   refine ⟨_, rfl, ?_⟩
   have n0_ := aa.mk (aD (g := eB) (o := .cells #[.int .i64 a0_0, .int .i64 a0_1, .slice A0_2 l0_2.length c0_2, .slice A0_3 l0_3.length c0_3, .int .i64 a0_4, .bool a0_5, .int .i64 a0_6] 32 (0, 0)) (by (with_reducible repeat (first | refine al ?_ _ | refine ao ?_ | refine an ?_ _)); exact cd.out) hb)
   have n1_ := aa.mk (ar (by repeat (first | (with_reducible first | exact HB.out | apply ag | apply af | apply ah | refine ak ?_ my.out) | exact HB.out)) hb)
   clear cd
   clear HB
   have cd := n0_
   have HB := n1_
   clear n0_ n1_
   (try clear hb)
   (try clear hb2)
   (try clear hk)
   (try clear hi)
   refine hK.out _ _ ⟨(ai cd.out 0).trans rfl, (ai cd.out 1).trans rfl, (ai cd.out 2).trans rfl, (ai cd.out 3).trans rfl, (ai cd.out 4).trans rfl, (ai cd.out 5).trans rfl, (ai cd.out 6).trans rfl⟩ (fun hHeld => ?_)
   clear hK K
   refine gC (a' := ?_) ?_ ?_
   rotate_left
   ·show Act.put _ (some 9) _ = _
    simp only [Act.put, List.setIfInBounds_toArray, List.set_cons_zero, List.set_cons_succ, a8, bf]
    rfl
   refine bO (i := 7) (N := some 10) (v := ?_) (a' := ?_) #[true, true, true, true, true, true, true, true, false, false, false, false, false, false, false, false, false, false, false, false, false] rfl rfl (bx HT_.out (by kernel_rfl)) (fun _ _ _ h => h) (Or.inl ⟨by rfl, ?_⟩) ?_ ?_
   rotate_left
   ·intro w'
    go_simp
    with_reducible rfl
   rotate_left
   ·simp only [Act.put, List.setIfInBounds_toArray, List.set_cons_zero, List.set_cons_succ, a8, bf]
    rfl
   refine bO (i := 8) (N := some 11) (v := ?_) (a' := ?_) #[true, true, true, true, true, true, true, true, true, false, false, false, false, false, false, false, false, false, false, false, false] rfl rfl (bx HT_.out (by kernel_rfl)) (fun _ _ _ h => h) (Or.inl ⟨by rfl, ?_⟩) ?_ ?_
   rotate_left
   ·intro w'
    go_simp
    with_reducible rfl
   rotate_left
   ·simp only [Act.put, List.setIfInBounds_toArray, List.set_cons_zero, List.set_cons_succ, a8, bf]
    rfl
   refine bO (i := 10) (N := some 13) (v := ?_) (a' := ?_) #[true, true, true, true, true, true, true, true, true, false, true, false, false, false, false, false, false, false, false, false, false] rfl rfl (bx HT_.out (by kernel_rfl)) (fun _ _ _ h => h) (Or.inl ⟨by rfl, ?_⟩) ?_ ?_
   rotate_left
   ·intro w'
    go_simp
    with_reducible rfl
   rotate_left
   ·simp only [Act.put, List.setIfInBounds_toArray, List.set_cons_zero, List.set_cons_succ, a8, bf]
    rfl
   refine eW (i := 9) (N := some 12) (v := ?_) (a' := ?_) #[true, true, true, true, true, true, true, true, true, true, true, false, false, false, false, false, false, false, false, false, false] rfl rfl (cV HT_.out HW_.out (by kernel_rfl)) (fun _ _ _ h => h) (Or.inl ⟨by rfl, ?_⟩) hHeld ?_ ?_
   rotate_left
   ·rintro w' ⟨s0, s1, s2, s3, s4, s5, s6⟩
    go_simp
    with_reducible rfl
   rotate_left
   ·simp only [Act.put, List.setIfInBounds_toArray, List.set_cons_zero, List.set_cons_succ, a8, bf]
    rfl
   refine eW (i := 11) (N := some 14) (v := ?_) (a' := ?_) #[true, true, true, true, true, true, true, true, true, true, true, true, false, false, false, false, false, false, false, false, false] rfl rfl (cV HT_.out HW_.out (by kernel_rfl)) (fun _ _ _ h => h) (Or.inl ⟨by rfl, ?_⟩) hHeld ?_ ?_
   rotate_left
   ·rintro w' ⟨s0, s1, s2, s3, s4, s5, s6⟩
    go_simp
    with_reducible rfl
   rotate_left
   ·simp only [Act.put, List.setIfInBounds_toArray, List.set_cons_zero, List.set_cons_succ, a8, bf]
    rfl
   refine jv (i := 12) (N := some 15) #[true, true, true, true, true, true, true, true, true, true, true, true, true, false, false, false, false, false, false, false, false] rfl rfl (eO HT_.out (by kernel_rfl)) (by decide) (fun K hK => ?_)
   refine gD Tryz.func101 (by kernel_rfl) rfl #[.agg #[.int .i64 a0_0, .int .i64 a0_1, .slice A0_2 l0_2.length c0_2, .slice A0_3 l0_3.length c0_3]] (by rfl) rfl rfl (by (try simp only [List.map_toArray, List.map_cons, List.map_nil]); first | done | rfl | (simp only [List.length_drop, List.length_take]; rfl)) ?_
   with_reducible refine (eI.calls a0_0 a0_1 _ _ l0_2 _ _ l0_3 t231 _ ?side1 ?side2 ?side3 ?side4 A4.out).mono ?_
   (case side1 => repeat (first | exact (Kd.ax cy.out HB.out) | (with_reducible refine Kd.aX ?_ _) | (with_reducible refine Kd.aW ?_ _) | (with_reducible refine Kd.bh ?_)))
   (case side2 => exact cD.out)
   (case side3 => repeat (first | exact (Kd.ax cF.out HB.out) | (with_reducible refine Kd.aX ?_ _) | (with_reducible refine Kd.aW ?_ _) | (with_reducible refine Kd.bh ?_)))
   (case side4 => exact cK.out)
   rintro e w10 ⟨rfl, hb⟩
   refine ⟨_, rfl, ?_⟩
   have n0_ := aa.mk (aD (g := eB) (o := .cells #[.int .i64 a0_0, .int .i64 a0_1, .slice A0_2 l0_2.length c0_2, .slice A0_3 l0_3.length c0_3, .int .i64 a0_4, .bool a0_5, .int .i64 a0_6] 32 (0, 0)) (by (with_reducible repeat (first | refine al ?_ _ | refine ao ?_ | refine an ?_ _)); exact cd.out) hb)
   have n1_ := aa.mk (ar (by repeat (first | (with_reducible first | exact HB.out | apply ag | apply af | apply ah | refine ak ?_ my.out) | exact HB.out)) hb)
   clear cd
   clear HB
   have cd := n0_
   have HB := n1_
   clear n0_ n1_
   (try clear hb)
   (try clear hb2)
   (try clear hk)
   (try clear hi)
   refine hK.out _ _ ⟨(ai cd.out 0).trans rfl, (ai cd.out 1).trans rfl, (ai cd.out 2).trans rfl, (ai cd.out 3).trans rfl, (ai cd.out 4).trans rfl, (ai cd.out 5).trans rfl, (ai cd.out 6).trans rfl⟩ (fun hHeld => ?_)
   clear hK K
   refine gC (a' := ?_) ?_ ?_
   rotate_left
   ·show Act.put _ (some 15) _ = _
    simp only [Act.put, List.setIfInBounds_toArray, List.set_cons_zero, List.set_cons_succ, a8, bf]
    rfl
   refine bO (i := 13) (N := some 16) (v := ?_) (a' := ?_) #[true, true, true, true, true, true, true, true, true, true, true, true, true, true, false, false, false, false, false, false, false] rfl rfl (bx HT_.out (by kernel_rfl)) (fun _ _ _ h => h) (Or.inl ⟨by rfl, ?_⟩) ?_ ?_
   rotate_left
   ·intro w'
    go_simp
    with_reducible rfl
   rotate_left
   ·simp only [Act.put, List.setIfInBounds_toArray, List.set_cons_zero, List.set_cons_succ, a8, bf]
    rfl
   refine bO (i := 14) (N := some 17) (v := ?_) (a' := ?_) #[true, true, true, true, true, true, true, true, true, true, true, true, true, true, true, false, false, false, false, false, false] rfl rfl (bx HT_.out (by kernel_rfl)) (fun _ _ _ h => h) (Or.inl ⟨by rfl, ?_⟩) ?_ ?_
   rotate_left
   ·intro w'
    go_simp
    with_reducible rfl
   rotate_left
   ·simp only [Act.put, List.setIfInBounds_toArray, List.set_cons_zero, List.set_cons_succ, a8, bf]
    rfl
   refine bO (i := 15) (N := some 18) (v := ?_) (a' := ?_) #[true, true, true, true, true, true, true, true, true, true, true, true, true, true, true, true, false, false, false, false, false] rfl rfl (bx HT_.out (by kernel_rfl)) (fun _ _ _ h => h) (Or.inl ⟨by rfl, ?_⟩) ?_ ?_
   rotate_left
   ·intro w'
    go_simp
    with_reducible rfl
   rotate_left
   ·simp only [Act.put, List.setIfInBounds_toArray, List.set_cons_zero, List.set_cons_succ, a8, bf]
    rfl
   refine bO (i := 16) (N := some 19) (v := ?_) (a' := ?_) #[true, true, true, true, true, true, true, true, true, true, true, true, true, true, true, true, true, false, false, false, false] rfl rfl (bx HT_.out (by kernel_rfl)) (fun _ _ _ h => h) (Or.inl ⟨by rfl, ?_⟩) ?_ ?_
   rotate_left
   ·intro w'
    go_simp
    with_reducible rfl
   rotate_left
   ·simp only [Act.put, List.setIfInBounds_toArray, List.set_cons_zero, List.set_cons_succ, a8, bf]
    rfl
   refine eW (i := 17) (N := some 20) (v := ?_) (a' := ?_) #[true, true, true, true, true, true, true, true, true, true, true, true, true, true, true, true, true, true, false, false, false] rfl rfl (cV HT_.out HW_.out (by kernel_rfl)) (fun _ _ _ h => h) (Or.inl ⟨by rfl, ?_⟩) hHeld ?_ ?_
   rotate_left
   ·rintro w' ⟨s0, s1, s2, s3, s4, s5, s6⟩
    go_simp
    with_reducible rfl
   rotate_left
   ·simp only [Act.put, List.setIfInBounds_toArray, List.set_cons_zero, List.set_cons_succ, a8, bf]
    rfl
   refine jv (i := 18) (N := some 21) #[true, true, true, true, true, true, true, true, true, true, true, true, true, true, true, true, true, true, true, false, false] rfl rfl (eO HT_.out (by kernel_rfl)) (by decide) (fun K hK => ?_)
   refine gD Tryz.func102 (by kernel_rfl) rfl #[.int .i64 a0_6] (by rfl) rfl rfl (by (try simp only [List.map_toArray, List.map_cons, List.map_nil]); first | done | rfl | (simp only [List.length_drop, List.length_take]; rfl)) ?_
   with_reducible refine (dG.calls a0_6 t232 _ A6.out).mono ?_
   rintro e w' ⟨rfl, ⟨nd, rfl⟩⟩
   refine ⟨_, rfl, ?_⟩
   refine hK.out _ _ ⟨(ai cd.out 0).trans rfl, (ai cd.out 1).trans rfl, (ai cd.out 2).trans rfl, (ai cd.out 3).trans rfl, (ai cd.out 4).trans rfl, (ai cd.out 5).trans rfl, (ai cd.out 6).trans rfl⟩ (fun hHeld => ?_)
   clear hK K
   refine gC (a' := ?_) ?_ ?_
   rotate_left
   ·show Act.put _ (some 21) _ = _
    simp only [Act.put, List.setIfInBounds_toArray, List.set_cons_zero, List.set_cons_succ, a8, bf]
    rfl
   refine bO (i := 19) (N := some 22) (v := ?_) (a' := ?_) #[true, true, true, true, true, true, true, true, true, true, true, true, true, true, true, true, true, true, true, true, false] rfl rfl (bx HT_.out (by kernel_rfl)) (fun _ _ _ h => h) (Or.inl ⟨by rfl, ?_⟩) ?_ ?_
   rotate_left
   ·intro w'
    go_simp
    with_reducible rfl
   rotate_left
   ·simp only [Act.put, List.setIfInBounds_toArray, List.set_cons_zero, List.set_cons_succ, a8, bf]
    rfl
   refine bO (i := 20) (N := some 2) (v := ?_) (a' := ?_) #[true, true, true, true, true, true, true, true, true, true, true, true, true, true, true, true, true, true, true, true, true] rfl rfl (bx HT_.out (by kernel_rfl)) (fun _ _ _ h => h) (Or.inl ⟨by rfl, ?_⟩) ?_ ?_
   rotate_left
   ·intro w'
    go_simp
    with_reducible rfl
   rotate_left
   ·simp only [Act.put, List.setIfInBounds_toArray, List.set_cons_zero, List.set_cons_succ, a8, bf]
    rfl
   refine mq (iU HT_.out (by kernel_rfl)) ?_
   try go_wp2
   go_ret
   exact ⟨by first | rfl | (simp [av, au] <;> rfl) | (simp [*, av, au] <;> rfl), by repeat (first | (with_reducible first | exact HB.out | apply ag | apply af | apply ah | refine ak ?_ my.out) | exact HB.out)⟩
  ·rw [if_neg c5] at H
   have c5b0 : decide (a0_4 ≤ t231) = false := decide_eq_false c5
   clear c5
   obtain rfl := Option.some.inj H
   go_enter Tryz.func63, Tryz.ntmps63
   try go_wp2_with (first | ((with_reducible refine aV (N := 1) rfl ?_); refine aM ?hg (N := 1) ?hd (cs := #[.int .i64 a0_0, .int .i64 a0_1, .slice A0_2 l0_2.length c0_2, .slice A0_3 l0_3.length c0_3, .int .i64 a0_4, .bool a0_5, .int .i64 a0_6]) (t := 32) ?hr ?_; (case hd => rfl); (case hg => rfl); (case hr => first | (go_simp; done) | (go_simp; rfl)); intro eB hg w11 hbox hb; have n0_ := aa.mk (ar (by repeat (first | (with_reducible first | exact HB.out | apply ag | apply af | apply ah) | exact HB.out)) hb); have n1_ := aa.mk (hbox); have n2_ := aa.mk ((by rw [hg]; exact (aq (by repeat (first | (with_reducible first | exact HB.out | apply ag | apply af | apply ah) | exact HB.out))) : w.heap.size ≤ eB)); have n3_ := aa.mk ((by rw [hg]; exact (aq (by repeat (first | (with_reducible first | exact HB.out | apply ag | apply af | apply ah) | exact HB.out))) : w.heap.size ≤ eB)); clear HB; have HB := n0_; have cd := n1_; have Dc := n2_; have my := n3_; clear n0_ n1_ n2_ n3_; clear hb hbox hg))
   have n0_ := aa.mk (ao cd.out)
   have n1_ := aa.mk (ah HB.out)
   clear cd
   clear HB
   have cd := n0_
   have HB := n1_
   clear n0_ n1_
   refine j6 (n := 21) (S := fun w' => w'.cell? ⟨eB, 0, none⟩ = some (.int .i64 a0_0) ∧ w'.cell? ⟨eB, 1, none⟩ = some (.int .i64 a0_1) ∧ w'.cell? ⟨eB, 2, none⟩ = some (.slice A0_2 l0_2.length c0_2) ∧ w'.cell? ⟨eB, 3, none⟩ = some (.slice A0_3 l0_3.length c0_3) ∧ w'.cell? ⟨eB, 4, none⟩ = some (.int .i64 a0_4) ∧ w'.cell? ⟨eB, 5, none⟩ = some (.bool a0_5) ∧ w'.cell? ⟨eB, 6, none⟩ = some (.int .i64 a0_6)) (ds := []) #[false, false, false, false, false, false, false, false, false, false, false, false, false, false, false, false, false, false, false, false, false] (by kernel_rfl) rfl rfl ⟨(ai cd.out 0).trans rfl, (ai cd.out 1).trans rfl, (ai cd.out 2).trans rfl, (ai cd.out 3).trans rfl, (ai cd.out 4).trans rfl, (ai cd.out 5).trans rfl, (ai cd.out 6).trans rfl⟩ (fun hHeld => ?_); refine fS cN.uy cN.pT (fun HT_ HW_ => ?_)
   generalize w11.drew = w12 at cd HB hHeld ⊢
   refine bO (i := 0) (N := some 3) (v := ?_) (a' := ?_) #[true, false, false, false, false, false, false, false, false, false, false, false, false, false, false, false, false, false, false, false, false] rfl rfl (bx HT_.out (by kernel_rfl)) (fun _ _ _ h => h) (Or.inl ⟨by rfl, ?_⟩) ?_ ?_
   rotate_left
   ·intro w'
    go_simp
    with_reducible rfl
   rotate_left
   ·simp only [Act.put, List.setIfInBounds_toArray, List.set_cons_zero, List.set_cons_succ, a8, bf]
    rfl
   refine bO (i := 2) (N := some 5) (v := ?_) (a' := ?_) #[true, false, true, false, false, false, false, false, false, false, false, false, false, false, false, false, false, false, false, false, false] rfl rfl (bx HT_.out (by kernel_rfl)) (fun _ _ _ h => h) (Or.inl ⟨by rfl, ?_⟩) ?_ ?_
   rotate_left
   ·intro w'
    go_simp
    with_reducible rfl
   rotate_left
   ·simp only [Act.put, List.setIfInBounds_toArray, List.set_cons_zero, List.set_cons_succ, a8, bf]
    rfl
   refine bO (i := 4) (N := some 7) (v := ?_) (a' := ?_) #[true, false, true, false, true, false, false, false, false, false, false, false, false, false, false, false, false, false, false, false, false] rfl rfl (bx HT_.out (by kernel_rfl)) (fun _ _ _ h => h) (Or.inl ⟨by rfl, ?_⟩) ?_ ?_
   rotate_left
   ·intro w'
    go_simp
    with_reducible rfl
   rotate_left
   ·simp only [Act.put, List.setIfInBounds_toArray, List.set_cons_zero, List.set_cons_succ, a8, bf]
    rfl
   refine eW (i := 1) (N := some 4) (v := ?_) (a' := ?_) #[true, true, true, false, true, false, false, false, false, false, false, false, false, false, false, false, false, false, false, false, false] rfl rfl (cV HT_.out HW_.out (by kernel_rfl)) (fun _ _ _ h => h) (Or.inl ⟨by rfl, ?_⟩) hHeld ?_ ?_
   rotate_left
   ·rintro w' ⟨s0, s1, s2, s3, s4, s5, s6⟩
    go_simp
    with_reducible rfl
   rotate_left
   ·simp only [Act.put, List.setIfInBounds_toArray, List.set_cons_zero, List.set_cons_succ, a8, bf]
    rfl
   refine eW (i := 3) (N := some 6) (v := ?_) (a' := ?_) #[true, true, true, true, true, false, false, false, false, false, false, false, false, false, false, false, false, false, false, false, false] rfl rfl (cV HT_.out HW_.out (by kernel_rfl)) (fun _ _ _ h => h) (Or.inl ⟨by rfl, ?_⟩) hHeld ?_ ?_
   rotate_left
   ·rintro w' ⟨s0, s1, s2, s3, s4, s5, s6⟩
    go_simp
    with_reducible rfl
   rotate_left
   ·simp only [Act.put, List.setIfInBounds_toArray, List.set_cons_zero, List.set_cons_succ, a8, bf]
    rfl
   refine eW (i := 5) (N := some 8) (v := ?_) (a' := ?_) #[true, true, true, true, true, true, false, false, false, false, false, false, false, false, false, false, false, false, false, false, false] rfl rfl (cV HT_.out HW_.out (by kernel_rfl)) (fun _ _ _ h => h) (Or.inl ⟨by rfl, ?_⟩) hHeld ?_ ?_
   rotate_left
   ·rintro w' ⟨s0, s1, s2, s3, s4, s5, s6⟩
    go_simp
    with_reducible rfl
   rotate_left
   ·simp only [Act.put, List.setIfInBounds_toArray, List.set_cons_zero, List.set_cons_succ, a8, bf]
    rfl
   refine jv (i := 6) (N := some 9) #[true, true, true, true, true, true, true, false, false, false, false, false, false, false, false, false, false, false, false, false, false] rfl rfl (eO HT_.out (by kernel_rfl)) (by decide) (fun K hK => ?_)
   refine gD Tryz.func100 (by kernel_rfl) rfl #[.agg #[.int .i64 a0_0, .int .i64 a0_1, .slice A0_2 l0_2.length c0_2, .slice A0_3 l0_3.length c0_3], .int .i64 a0_4, .bool a0_5] (by rfl) rfl rfl (by (try simp only [List.map_toArray, List.map_cons, List.map_nil]); first | done | rfl | (simp only [List.length_drop, List.length_take]; rfl)) ?_
   with_reducible refine (eH.calls k a0_0 a0_1 _ _ l0_2 _ _ l0_3 a0_4 a0_5 true _ ?side1 ?side2 ?side3 ?side4 A2.out).mono ?_
   (case side1 => repeat (first | exact (Kd.ax cy.out HB.out) | (with_reducible refine Kd.aX ?_ _) | (with_reducible refine Kd.aW ?_ _) | (with_reducible refine Kd.bh ?_)))
   (case side2 => exact cD.out)
   (case side3 => repeat (first | exact (Kd.ax cF.out HB.out) | (with_reducible refine Kd.aX ?_ _) | (with_reducible refine Kd.aW ?_ _) | (with_reducible refine Kd.bh ?_)))
   (case side4 => exact cK.out)
   rintro e w13 ⟨rfl, hb⟩
   refine ⟨_, rfl, ?_⟩
   have n0_ := aa.mk (aD (g := eB) (o := .cells #[.int .i64 a0_0, .int .i64 a0_1, .slice A0_2 l0_2.length c0_2, .slice A0_3 l0_3.length c0_3, .int .i64 a0_4, .bool a0_5, .int .i64 a0_6] 32 (0, 0)) (by (with_reducible repeat (first | refine al ?_ _ | refine ao ?_ | refine an ?_ _)); exact cd.out) hb)
   have n1_ := aa.mk (ar (by repeat (first | (with_reducible first | exact HB.out | apply ag | apply af | apply ah | refine ak ?_ my.out) | exact HB.out)) hb)
   clear cd
   clear HB
   have cd := n0_
   have HB := n1_
   clear n0_ n1_
   (try clear hb)
   (try clear hb2)
   (try clear hk)
   (try clear hi)
   refine hK.out _ _ ⟨(ai cd.out 0).trans rfl, (ai cd.out 1).trans rfl, (ai cd.out 2).trans rfl, (ai cd.out 3).trans rfl, (ai cd.out 4).trans rfl, (ai cd.out 5).trans rfl, (ai cd.out 6).trans rfl⟩ (fun hHeld => ?_)
   clear hK K
   refine gC (a' := ?_) ?_ ?_
   rotate_left
   ·show Act.put _ (some 9) _ = _
    simp only [Act.put, List.setIfInBounds_toArray, List.set_cons_zero, List.set_cons_succ, a8, bf]
    rfl
   refine bO (i := 7) (N := some 10) (v := ?_) (a' := ?_) #[true, true, true, true, true, true, true, true, false, false, false, false, false, false, false, false, false, false, false, false, false] rfl rfl (bx HT_.out (by kernel_rfl)) (fun _ _ _ h => h) (Or.inl ⟨by rfl, ?_⟩) ?_ ?_
   rotate_left
   ·intro w'
    go_simp
    with_reducible rfl
   rotate_left
   ·simp only [Act.put, List.setIfInBounds_toArray, List.set_cons_zero, List.set_cons_succ, a8, bf]
    rfl
   refine bO (i := 8) (N := some 11) (v := ?_) (a' := ?_) #[true, true, true, true, true, true, true, true, true, false, false, false, false, false, false, false, false, false, false, false, false] rfl rfl (bx HT_.out (by kernel_rfl)) (fun _ _ _ h => h) (Or.inl ⟨by rfl, ?_⟩) ?_ ?_
   rotate_left
   ·intro w'
    go_simp
    with_reducible rfl
   rotate_left
   ·simp only [Act.put, List.setIfInBounds_toArray, List.set_cons_zero, List.set_cons_succ, a8, bf]
    rfl
   refine bO (i := 10) (N := some 13) (v := ?_) (a' := ?_) #[true, true, true, true, true, true, true, true, true, false, true, false, false, false, false, false, false, false, false, false, false] rfl rfl (bx HT_.out (by kernel_rfl)) (fun _ _ _ h => h) (Or.inl ⟨by rfl, ?_⟩) ?_ ?_
   rotate_left
   ·intro w'
    go_simp
    with_reducible rfl
   rotate_left
   ·simp only [Act.put, List.setIfInBounds_toArray, List.set_cons_zero, List.set_cons_succ, a8, bf]
    rfl
   refine eW (i := 9) (N := some 12) (v := ?_) (a' := ?_) #[true, true, true, true, true, true, true, true, true, true, true, false, false, false, false, false, false, false, false, false, false] rfl rfl (cV HT_.out HW_.out (by kernel_rfl)) (fun _ _ _ h => h) (Or.inl ⟨by rfl, ?_⟩) hHeld ?_ ?_
   rotate_left
   ·rintro w' ⟨s0, s1, s2, s3, s4, s5, s6⟩
    go_simp
    with_reducible rfl
   rotate_left
   ·simp only [Act.put, List.setIfInBounds_toArray, List.set_cons_zero, List.set_cons_succ, a8, bf]
    rfl
   refine eW (i := 11) (N := some 14) (v := ?_) (a' := ?_) #[true, true, true, true, true, true, true, true, true, true, true, true, false, false, false, false, false, false, false, false, false] rfl rfl (cV HT_.out HW_.out (by kernel_rfl)) (fun _ _ _ h => h) (Or.inl ⟨by rfl, ?_⟩) hHeld ?_ ?_
   rotate_left
   ·rintro w' ⟨s0, s1, s2, s3, s4, s5, s6⟩
    go_simp
    with_reducible rfl
   rotate_left
   ·simp only [Act.put, List.setIfInBounds_toArray, List.set_cons_zero, List.set_cons_succ, a8, bf]
    rfl
   refine jv (i := 12) (N := some 15) #[true, true, true, true, true, true, true, true, true, true, true, true, true, false, false, false, false, false, false, false, false] rfl rfl (eO HT_.out (by kernel_rfl)) (by decide) (fun K hK => ?_)
   refine gD Tryz.func101 (by kernel_rfl) rfl #[.agg #[.int .i64 a0_0, .int .i64 a0_1, .slice A0_2 l0_2.length c0_2, .slice A0_3 l0_3.length c0_3]] (by rfl) rfl rfl (by (try simp only [List.map_toArray, List.map_cons, List.map_nil]); first | done | rfl | (simp only [List.length_drop, List.length_take]; rfl)) ?_
   with_reducible refine (eI.calls a0_0 a0_1 _ _ l0_2 _ _ l0_3 t231 _ ?side1 ?side2 ?side3 ?side4 A4.out).mono ?_
   (case side1 => repeat (first | exact (Kd.ax cy.out HB.out) | (with_reducible refine Kd.aX ?_ _) | (with_reducible refine Kd.aW ?_ _) | (with_reducible refine Kd.bh ?_)))
   (case side2 => exact cD.out)
   (case side3 => repeat (first | exact (Kd.ax cF.out HB.out) | (with_reducible refine Kd.aX ?_ _) | (with_reducible refine Kd.aW ?_ _) | (with_reducible refine Kd.bh ?_)))
   (case side4 => exact cK.out)
   rintro e w14 ⟨rfl, hb⟩
   refine ⟨_, rfl, ?_⟩
   have n0_ := aa.mk (aD (g := eB) (o := .cells #[.int .i64 a0_0, .int .i64 a0_1, .slice A0_2 l0_2.length c0_2, .slice A0_3 l0_3.length c0_3, .int .i64 a0_4, .bool a0_5, .int .i64 a0_6] 32 (0, 0)) (by (with_reducible repeat (first | refine al ?_ _ | refine ao ?_ | refine an ?_ _)); exact cd.out) hb)
   have n1_ := aa.mk (ar (by repeat (first | (with_reducible first | exact HB.out | apply ag | apply af | apply ah | refine ak ?_ my.out) | exact HB.out)) hb)
   clear cd
   clear HB
   have cd := n0_
   have HB := n1_
   clear n0_ n1_
   (try clear hb)
   (try clear hb2)
   (try clear hk)
   (try clear hi)
   refine hK.out _ _ ⟨(ai cd.out 0).trans rfl, (ai cd.out 1).trans rfl, (ai cd.out 2).trans rfl, (ai cd.out 3).trans rfl, (ai cd.out 4).trans rfl, (ai cd.out 5).trans rfl, (ai cd.out 6).trans rfl⟩ (fun hHeld => ?_)
   clear hK K
   refine gC (a' := ?_) ?_ ?_
   rotate_left
   ·show Act.put _ (some 15) _ = _
    simp only [Act.put, List.setIfInBounds_toArray, List.set_cons_zero, List.set_cons_succ, a8, bf]
    rfl
   refine bO (i := 13) (N := some 16) (v := ?_) (a' := ?_) #[true, true, true, true, true, true, true, true, true, true, true, true, true, true, false, false, false, false, false, false, false] rfl rfl (bx HT_.out (by kernel_rfl)) (fun _ _ _ h => h) (Or.inl ⟨by rfl, ?_⟩) ?_ ?_
   rotate_left
   ·intro w'
    go_simp
    with_reducible rfl
   rotate_left
   ·simp only [Act.put, List.setIfInBounds_toArray, List.set_cons_zero, List.set_cons_succ, a8, bf]
    rfl
   refine bO (i := 14) (N := some 17) (v := ?_) (a' := ?_) #[true, true, true, true, true, true, true, true, true, true, true, true, true, true, true, false, false, false, false, false, false] rfl rfl (bx HT_.out (by kernel_rfl)) (fun _ _ _ h => h) (Or.inl ⟨by rfl, ?_⟩) ?_ ?_
   rotate_left
   ·intro w'
    go_simp
    with_reducible rfl
   rotate_left
   ·simp only [Act.put, List.setIfInBounds_toArray, List.set_cons_zero, List.set_cons_succ, a8, bf]
    rfl
   refine bO (i := 15) (N := some 18) (v := ?_) (a' := ?_) #[true, true, true, true, true, true, true, true, true, true, true, true, true, true, true, true, false, false, false, false, false] rfl rfl (bx HT_.out (by kernel_rfl)) (fun _ _ _ h => h) (Or.inl ⟨by rfl, ?_⟩) ?_ ?_
   rotate_left
   ·intro w'
    go_simp
    with_reducible rfl
   rotate_left
   ·simp only [Act.put, List.setIfInBounds_toArray, List.set_cons_zero, List.set_cons_succ, a8, bf]
    rfl
   refine bO (i := 16) (N := some 19) (v := undef) (a' := ?_) #[true, true, true, true, true, true, true, true, true, true, true, true, true, true, true, true, true, false, false, false, false] rfl rfl (bx HT_.out (by kernel_rfl)) (fun _ _ _ h => h) (Or.inr ⟨by rfl, rfl⟩) ?_ ?_
   rotate_left
   ·simp only [Act.put, List.setIfInBounds_toArray, List.set_cons_zero, List.set_cons_succ, a8, bf]
    rfl
   refine bO (i := 17) (N := some 20) (v := undef) (a' := ?_) #[true, true, true, true, true, true, true, true, true, true, true, true, true, true, true, true, true, true, false, false, false] rfl rfl (bx HT_.out (by kernel_rfl)) (fun _ _ _ h => h) (Or.inr ⟨by rfl, rfl⟩) ?_ ?_
   rotate_left
   ·simp only [Act.put, List.setIfInBounds_toArray, List.set_cons_zero, List.set_cons_succ, a8, bf]
    rfl
   refine bO (i := 18) (N := some 21) (v := undef) (a' := ?_) #[true, true, true, true, true, true, true, true, true, true, true, true, true, true, true, true, true, true, true, false, false] rfl rfl (bx HT_.out (by kernel_rfl)) (fun _ _ _ h => h) (Or.inr ⟨by rfl, rfl⟩) ?_ ?_
   rotate_left
   ·simp only [Act.put, List.setIfInBounds_toArray, List.set_cons_zero, List.set_cons_succ, a8, bf]
    rfl
   refine bO (i := 19) (N := some 22) (v := ?_) (a' := ?_) #[true, true, true, true, true, true, true, true, true, true, true, true, true, true, true, true, true, true, true, true, false] rfl rfl (bx HT_.out (by kernel_rfl)) (fun _ _ _ h => h) (Or.inl ⟨by rfl, ?_⟩) ?_ ?_
   rotate_left
   ·intro w'
    go_simp
    with_reducible rfl
   rotate_left
   ·simp only [Act.put, List.setIfInBounds_toArray, List.set_cons_zero, List.set_cons_succ, a8, bf]
    rfl
   refine bO (i := 20) (N := some 2) (v := ?_) (a' := ?_) #[true, true, true, true, true, true, true, true, true, true, true, true, true, true, true, true, true, true, true, true, true] rfl rfl (bx HT_.out (by kernel_rfl)) (fun _ _ _ h => h) (Or.inl ⟨by rfl, ?_⟩) ?_ ?_
   rotate_left
   ·intro w'
    go_simp
    with_reducible rfl
   rotate_left
   ·simp only [Act.put, List.setIfInBounds_toArray, List.set_cons_zero, List.set_cons_succ, a8, bf]
    rfl
   refine mq (iU HT_.out (by kernel_rfl)) ?_
   try go_wp2
   go_ret
   exact ⟨by first | rfl | (simp [av, au] <;> rfl) | (simp [*, av, au] <;> rfl), by repeat (first | (with_reducible first | exact HB.out | apply ag | apply af | apply ah | refine ak ?_ my.out) | exact HB.out)⟩
 ·replace c3 := Bool.eq_false_iff.mpr c3
  subst c3
  have H1 : (some false) = some r := by rw [if_neg (show ¬ (false = true) by decide)] at H; exact H
  clear H
  have H := H1
  clear H1
  obtain rfl := Option.some.inj H
  go_enter Tryz.func63, Tryz.ntmps63
  try go_wp2_with (first | ((with_reducible refine aV (N := 1) rfl ?_); refine aM ?hg (N := 1) ?hd (cs := #[.int .i64 a0_0, .int .i64 a0_1, .slice A0_2 l0_2.length c0_2, .slice A0_3 l0_3.length c0_3, .int .i64 a0_4, .bool a0_5, .int .i64 a0_6]) (t := 32) ?hr ?_; (case hd => rfl); (case hg => rfl); (case hr => first | (go_simp; done) | (go_simp; rfl)); intro eB hg w15 hbox hb; have n0_ := aa.mk (ar (by repeat (first | (with_reducible first | exact HB.out | apply ag | apply af | apply ah) | exact HB.out)) hb); have n1_ := aa.mk (hbox); have n2_ := aa.mk ((by rw [hg]; exact (aq (by repeat (first | (with_reducible first | exact HB.out | apply ag | apply af | apply ah) | exact HB.out))) : w.heap.size ≤ eB)); have n3_ := aa.mk ((by rw [hg]; exact (aq (by repeat (first | (with_reducible first | exact HB.out | apply ag | apply af | apply ah) | exact HB.out))) : w.heap.size ≤ eB)); clear HB; have HB := n0_; have cd := n1_; have Dc := n2_; have my := n3_; clear n0_ n1_ n2_ n3_; clear hb hbox hg))
  have n0_ := aa.mk (ao cd.out)
  have n1_ := aa.mk (ah HB.out)
  clear cd
  clear HB
  have cd := n0_
  have HB := n1_
  clear n0_ n1_
  refine j6 (n := 21) (S := fun w' => w'.cell? ⟨eB, 0, none⟩ = some (.int .i64 a0_0) ∧ w'.cell? ⟨eB, 1, none⟩ = some (.int .i64 a0_1) ∧ w'.cell? ⟨eB, 2, none⟩ = some (.slice A0_2 l0_2.length c0_2) ∧ w'.cell? ⟨eB, 3, none⟩ = some (.slice A0_3 l0_3.length c0_3) ∧ w'.cell? ⟨eB, 4, none⟩ = some (.int .i64 a0_4) ∧ w'.cell? ⟨eB, 5, none⟩ = some (.bool a0_5) ∧ w'.cell? ⟨eB, 6, none⟩ = some (.int .i64 a0_6)) (ds := []) #[false, false, false, false, false, false, false, false, false, false, false, false, false, false, false, false, false, false, false, false, false] (by kernel_rfl) rfl rfl ⟨(ai cd.out 0).trans rfl, (ai cd.out 1).trans rfl, (ai cd.out 2).trans rfl, (ai cd.out 3).trans rfl, (ai cd.out 4).trans rfl, (ai cd.out 5).trans rfl, (ai cd.out 6).trans rfl⟩ (fun hHeld => ?_); refine fS cN.uy cN.pT (fun HT_ HW_ => ?_)
  generalize w15.drew = w16 at cd HB hHeld ⊢
  refine bO (i := 0) (N := some 3) (v := ?_) (a' := ?_) #[true, false, false, false, false, false, false, false, false, false, false, false, false, false, false, false, false, false, false, false, false] rfl rfl (bx HT_.out (by kernel_rfl)) (fun _ _ _ h => h) (Or.inl ⟨by rfl, ?_⟩) ?_ ?_
  rotate_left
  ·intro w'
   go_simp
   with_reducible rfl
  rotate_left
  ·simp only [Act.put, List.setIfInBounds_toArray, List.set_cons_zero, List.set_cons_succ, a8, bf]
   rfl
  refine bO (i := 2) (N := some 5) (v := ?_) (a' := ?_) #[true, false, true, false, false, false, false, false, false, false, false, false, false, false, false, false, false, false, false, false, false] rfl rfl (bx HT_.out (by kernel_rfl)) (fun _ _ _ h => h) (Or.inl ⟨by rfl, ?_⟩) ?_ ?_
  rotate_left
  ·intro w'
   go_simp
   with_reducible rfl
  rotate_left
  ·simp only [Act.put, List.setIfInBounds_toArray, List.set_cons_zero, List.set_cons_succ, a8, bf]
   rfl
  refine bO (i := 4) (N := some 7) (v := ?_) (a' := ?_) #[true, false, true, false, true, false, false, false, false, false, false, false, false, false, false, false, false, false, false, false, false] rfl rfl (bx HT_.out (by kernel_rfl)) (fun _ _ _ h => h) (Or.inl ⟨by rfl, ?_⟩) ?_ ?_
  rotate_left
  ·intro w'
   go_simp
   with_reducible rfl
  rotate_left
  ·simp only [Act.put, List.setIfInBounds_toArray, List.set_cons_zero, List.set_cons_succ, a8, bf]
   rfl
  refine eW (i := 1) (N := some 4) (v := ?_) (a' := ?_) #[true, true, true, false, true, false, false, false, false, false, false, false, false, false, false, false, false, false, false, false, false] rfl rfl (cV HT_.out HW_.out (by kernel_rfl)) (fun _ _ _ h => h) (Or.inl ⟨by rfl, ?_⟩) hHeld ?_ ?_
  rotate_left
  ·rintro w' ⟨s0, s1, s2, s3, s4, s5, s6⟩
   go_simp
   with_reducible rfl
  rotate_left
  ·simp only [Act.put, List.setIfInBounds_toArray, List.set_cons_zero, List.set_cons_succ, a8, bf]
   rfl
  refine eW (i := 3) (N := some 6) (v := ?_) (a' := ?_) #[true, true, true, true, true, false, false, false, false, false, false, false, false, false, false, false, false, false, false, false, false] rfl rfl (cV HT_.out HW_.out (by kernel_rfl)) (fun _ _ _ h => h) (Or.inl ⟨by rfl, ?_⟩) hHeld ?_ ?_
  rotate_left
  ·rintro w' ⟨s0, s1, s2, s3, s4, s5, s6⟩
   go_simp
   with_reducible rfl
  rotate_left
  ·simp only [Act.put, List.setIfInBounds_toArray, List.set_cons_zero, List.set_cons_succ, a8, bf]
   rfl
  refine eW (i := 5) (N := some 8) (v := ?_) (a' := ?_) #[true, true, true, true, true, true, false, false, false, false, false, false, false, false, false, false, false, false, false, false, false] rfl rfl (cV HT_.out HW_.out (by kernel_rfl)) (fun _ _ _ h => h) (Or.inl ⟨by rfl, ?_⟩) hHeld ?_ ?_
  rotate_left
  ·rintro w' ⟨s0, s1, s2, s3, s4, s5, s6⟩
   go_simp
   with_reducible rfl
  rotate_left
  ·simp only [Act.put, List.setIfInBounds_toArray, List.set_cons_zero, List.set_cons_succ, a8, bf]
   rfl
  refine jv (i := 6) (N := some 9) #[true, true, true, true, true, true, true, false, false, false, false, false, false, false, false, false, false, false, false, false, false] rfl rfl (eO HT_.out (by kernel_rfl)) (by decide) (fun K hK => ?_)
  refine gD Tryz.func100 (by kernel_rfl) rfl #[.agg #[.int .i64 a0_0, .int .i64 a0_1, .slice A0_2 l0_2.length c0_2, .slice A0_3 l0_3.length c0_3], .int .i64 a0_4, .bool a0_5] (by rfl) rfl rfl (by (try simp only [List.map_toArray, List.map_cons, List.map_nil]); first | done | rfl | (simp only [List.length_drop, List.length_take]; rfl)) ?_
  with_reducible refine (eH.calls k a0_0 a0_1 _ _ l0_2 _ _ l0_3 a0_4 a0_5 false _ ?side1 ?side2 ?side3 ?side4 A2.out).mono ?_
  (case side1 => repeat (first | exact (Kd.ax cy.out HB.out) | (with_reducible refine Kd.aX ?_ _) | (with_reducible refine Kd.aW ?_ _) | (with_reducible refine Kd.bh ?_)))
  (case side2 => exact cD.out)
  (case side3 => repeat (first | exact (Kd.ax cF.out HB.out) | (with_reducible refine Kd.aX ?_ _) | (with_reducible refine Kd.aW ?_ _) | (with_reducible refine Kd.bh ?_)))
  (case side4 => exact cK.out)
  rintro e w17 ⟨rfl, hb⟩
  refine ⟨_, rfl, ?_⟩
  have n0_ := aa.mk (aD (g := eB) (o := .cells #[.int .i64 a0_0, .int .i64 a0_1, .slice A0_2 l0_2.length c0_2, .slice A0_3 l0_3.length c0_3, .int .i64 a0_4, .bool a0_5, .int .i64 a0_6] 32 (0, 0)) (by (with_reducible repeat (first | refine al ?_ _ | refine ao ?_ | refine an ?_ _)); exact cd.out) hb)
  have n1_ := aa.mk (ar (by repeat (first | (with_reducible first | exact HB.out | apply ag | apply af | apply ah | refine ak ?_ my.out) | exact HB.out)) hb)
  clear cd
  clear HB
  have cd := n0_
  have HB := n1_
  clear n0_ n1_
  (try clear hb)
  (try clear hb2)
  (try clear hk)
  (try clear hi)
  refine hK.out _ _ ⟨(ai cd.out 0).trans rfl, (ai cd.out 1).trans rfl, (ai cd.out 2).trans rfl, (ai cd.out 3).trans rfl, (ai cd.out 4).trans rfl, (ai cd.out 5).trans rfl, (ai cd.out 6).trans rfl⟩ (fun hHeld => ?_)
  clear hK K
  refine gC (a' := ?_) ?_ ?_
  rotate_left
  ·show Act.put _ (some 9) _ = _
   simp only [Act.put, List.setIfInBounds_toArray, List.set_cons_zero, List.set_cons_succ, a8, bf]
   rfl
  refine bO (i := 7) (N := some 10) (v := ?_) (a' := ?_) #[true, true, true, true, true, true, true, true, false, false, false, false, false, false, false, false, false, false, false, false, false] rfl rfl (bx HT_.out (by kernel_rfl)) (fun _ _ _ h => h) (Or.inl ⟨by rfl, ?_⟩) ?_ ?_
  rotate_left
  ·intro w'
   go_simp
   with_reducible rfl
  rotate_left
  ·simp only [Act.put, List.setIfInBounds_toArray, List.set_cons_zero, List.set_cons_succ, a8, bf]
   rfl
  refine bO (i := 8) (N := some 11) (v := undef) (a' := ?_) #[true, true, true, true, true, true, true, true, true, false, false, false, false, false, false, false, false, false, false, false, false] rfl rfl (bx HT_.out (by kernel_rfl)) (fun _ _ _ h => h) (Or.inr ⟨by rfl, rfl⟩) ?_ ?_
  rotate_left
  ·simp only [Act.put, List.setIfInBounds_toArray, List.set_cons_zero, List.set_cons_succ, a8, bf]
   rfl
  refine bO (i := 9) (N := some 12) (v := undef) (a' := ?_) #[true, true, true, true, true, true, true, true, true, true, false, false, false, false, false, false, false, false, false, false, false] rfl rfl (bx HT_.out (by kernel_rfl)) (fun _ _ _ h => h) (Or.inr ⟨by rfl, rfl⟩) ?_ ?_
  rotate_left
  ·simp only [Act.put, List.setIfInBounds_toArray, List.set_cons_zero, List.set_cons_succ, a8, bf]
   rfl
  refine bO (i := 10) (N := some 13) (v := undef) (a' := ?_) #[true, true, true, true, true, true, true, true, true, true, true, false, false, false, false, false, false, false, false, false, false] rfl rfl (bx HT_.out (by kernel_rfl)) (fun _ _ _ h => h) (Or.inr ⟨by rfl, rfl⟩) ?_ ?_
  rotate_left
  ·simp only [Act.put, List.setIfInBounds_toArray, List.set_cons_zero, List.set_cons_succ, a8, bf]
   rfl
  refine bO (i := 11) (N := some 14) (v := undef) (a' := ?_) #[true, true, true, true, true, true, true, true, true, true, true, true, false, false, false, false, false, false, false, false, false] rfl rfl (bx HT_.out (by kernel_rfl)) (fun _ _ _ h => h) (Or.inr ⟨by rfl, rfl⟩) ?_ ?_
  rotate_left
  ·simp only [Act.put, List.setIfInBounds_toArray, List.set_cons_zero, List.set_cons_succ, a8, bf]
   rfl
  refine bO (i := 12) (N := some 15) (v := undef) (a' := ?_) #[true, true, true, true, true, true, true, true, true, true, true, true, true, false, false, false, false, false, false, false, false] rfl rfl (bx HT_.out (by kernel_rfl)) (fun _ _ _ h => h) (Or.inr ⟨by rfl, rfl⟩) ?_ ?_
  rotate_left
  ·simp only [Act.put, List.setIfInBounds_toArray, List.set_cons_zero, List.set_cons_succ, a8, bf]
   rfl
  refine bO (i := 13) (N := some 16) (v := undef) (a' := ?_) #[true, true, true, true, true, true, true, true, true, true, true, true, true, true, false, false, false, false, false, false, false] rfl rfl (bx HT_.out (by kernel_rfl)) (fun _ _ _ h => h) (Or.inr ⟨by rfl, rfl⟩) ?_ ?_
  rotate_left
  ·simp only [Act.put, List.setIfInBounds_toArray, List.set_cons_zero, List.set_cons_succ, a8, bf]
   rfl
  refine bO (i := 14) (N := some 17) (v := ?_) (a' := ?_) #[true, true, true, true, true, true, true, true, true, true, true, true, true, true, true, false, false, false, false, false, false] rfl rfl (bx HT_.out (by kernel_rfl)) (fun _ _ _ h => h) (Or.inl ⟨by rfl, ?_⟩) ?_ ?_
  rotate_left
  ·intro w'
   go_simp
   with_reducible rfl
  rotate_left
  ·simp only [Act.put, List.setIfInBounds_toArray, List.set_cons_zero, List.set_cons_succ, a8, bf]
   rfl
  refine bO (i := 15) (N := some 18) (v := ?_) (a' := ?_) #[true, true, true, true, true, true, true, true, true, true, true, true, true, true, true, true, false, false, false, false, false] rfl rfl (bx HT_.out (by kernel_rfl)) (fun _ _ _ h => h) (Or.inl ⟨by rfl, ?_⟩) ?_ ?_
  rotate_left
  ·intro w'
   go_simp
   with_reducible rfl
  rotate_left
  ·simp only [Act.put, List.setIfInBounds_toArray, List.set_cons_zero, List.set_cons_succ, a8, bf]
   rfl
  refine bO (i := 16) (N := some 19) (v := undef) (a' := ?_) #[true, true, true, true, true, true, true, true, true, true, true, true, true, true, true, true, true, false, false, false, false] rfl rfl (bx HT_.out (by kernel_rfl)) (fun _ _ _ h => h) (Or.inr ⟨by rfl, rfl⟩) ?_ ?_
  rotate_left
  ·simp only [Act.put, List.setIfInBounds_toArray, List.set_cons_zero, List.set_cons_succ, a8, bf]
   rfl
  refine bO (i := 17) (N := some 20) (v := undef) (a' := ?_) #[true, true, true, true, true, true, true, true, true, true, true, true, true, true, true, true, true, true, false, false, false] rfl rfl (bx HT_.out (by kernel_rfl)) (fun _ _ _ h => h) (Or.inr ⟨by rfl, rfl⟩) ?_ ?_
  rotate_left
  ·simp only [Act.put, List.setIfInBounds_toArray, List.set_cons_zero, List.set_cons_succ, a8, bf]
   rfl
  refine bO (i := 18) (N := some 21) (v := undef) (a' := ?_) #[true, true, true, true, true, true, true, true, true, true, true, true, true, true, true, true, true, true, true, false, false] rfl rfl (bx HT_.out (by kernel_rfl)) (fun _ _ _ h => h) (Or.inr ⟨by rfl, rfl⟩) ?_ ?_
  rotate_left
  ·simp only [Act.put, List.setIfInBounds_toArray, List.set_cons_zero, List.set_cons_succ, a8, bf]
   rfl
  refine bO (i := 19) (N := some 22) (v := ?_) (a' := ?_) #[true, true, true, true, true, true, true, true, true, true, true, true, true, true, true, true, true, true, true, true, false] rfl rfl (bx HT_.out (by kernel_rfl)) (fun _ _ _ h => h) (Or.inl ⟨by rfl, ?_⟩) ?_ ?_
  rotate_left
  ·intro w'
   go_simp
   with_reducible rfl
  rotate_left
  ·simp only [Act.put, List.setIfInBounds_toArray, List.set_cons_zero, List.set_cons_succ, a8, bf]
   rfl
  refine bO (i := 20) (N := some 2) (v := ?_) (a' := ?_) #[true, true, true, true, true, true, true, true, true, true, true, true, true, true, true, true, true, true, true, true, true] rfl rfl (bx HT_.out (by kernel_rfl)) (fun _ _ _ h => h) (Or.inl ⟨by rfl, ?_⟩) ?_ ?_
  rotate_left
  ·intro w'
   go_simp
   with_reducible rfl
  rotate_left
  ·simp only [Act.put, List.setIfInBounds_toArray, List.set_cons_zero, List.set_cons_succ, a8, bf]
   rfl
  refine mq (iU HT_.out (by kernel_rfl)) ?_
  try go_wp2
  go_ret
  exact ⟨by first | rfl | (simp [av, au] <;> rfl) | (simp [*, av, au] <;> rfl), by repeat (first | (with_reducible first | exact HB.out | apply ag | apply af | apply ah | refine ak ?_ my.out) | exact HB.out)⟩
end Go.Proofs.YtmjlmloomkodpaaGreatDoor.PA
namespace Go.Proofs.YtmjlmloomkodpaaGreatDoor.PA
open Go.RowKit Go.Proofs.ae.aw Go.Proofs.ae.aJ Go.Proofs.ae.aN
attribute [local go_sem] bo bm bC bB a6 aZ bn bj
set_option linter.unusedVariables false
set_option linter.unusedSimpArgs false
mutual
def bc.l0 : Nat → Int → Int → Int → Int → Int → Int → Int → Int → Option (Int)
 | 0, _, _, _, _, _, _, _, _ => none
 | k + 1, x0, x1, x2, x3, x4, x5, x13, x14 => if x14 < x4 then ((cE.f x0 x1 false (wrap64 ((wrap64 ((wrap64 (x3 * x0)) + x2)) + x14))).bind fun t233 => ((cE.f x0 x1 false (wrap64 ((wrap64 ((wrap64 ((wrap64 (x3 + x5)) * x0)) + x2)) + x14))).bind fun t234 => (bc.l0 k x0 x1 x2 x3 x4 x5 (Go.bits .or .i64 x13 (Go.bits .or .i64 t233 t234)) (wrap64 (x14 + 1))))) else (bc.l1 k x0 x1 x2 x3 x4 x5 x13 0)
def bc.l1 : Nat → Int → Int → Int → Int → Int → Int → Int → Int → Option (Int)
 | 0, _, _, _, _, _, _, _, _ => none
 | k + 1, x0, x1, x2, x3, x4, x5, x13, x15 => if x15 < x5 then ((cE.f x0 x1 true (wrap64 ((wrap64 ((wrap64 (x3 + x15)) * (wrap64 (x0 + 1)))) + x2))).bind fun t235 => ((cE.f x0 x1 true (wrap64 ((wrap64 ((wrap64 ((wrap64 (x3 + x15)) * (wrap64 (x0 + 1)))) + x2)) + x4))).bind fun t236 => (bc.l1 k x0 x1 x2 x3 x4 x5 (Go.bits .or .i64 x13 (Go.bits .or .i64 t235 t236)) (wrap64 (x15 + 1))))) else (some x13)
end
def bc.f (k : Nat) (a0 : Int) (a1 : Int) (a2 : Int) (a3 : Int) (a4 : Int) (a5 : Int) : Option (Int) := bc.l0 k a0 a1 a2 a3 a4 a5 0 0
theorem bc.ie : ∀ k, (∀ y0 y1 y2 y3 y4 y5 y6 y7, LeO (bc.l0 k y0 y1 y2 y3 y4 y5 y6 y7) (bc.l0 (k + 1) y0 y1 y2 y3 y4 y5 y6 y7)) ∧ (∀ y0 y1 y2 y3 y4 y5 y6 y7, LeO (bc.l1 k y0 y1 y2 y3 y4 y5 y6 y7) (bc.l1 (k + 1) y0 y1 y2 y3 y4 y5 y6 y7))
 | 0 => ⟨fun _ _ _ _ _ _ _ _ r h => by simp [bc.l0] at h, fun _ _ _ _ _ _ _ _ r h => by simp [bc.l1] at h⟩
 | k + 1 => by
  obtain ⟨ih0, ih1⟩ := bc.ie k
  refine ⟨?_, ?_⟩
  ·intro y0 y1 y2 y3 y4 y5 y6 y7
   unfold bc.l0
   repeat' first
   | (with_reducible exact ih0 _ _ _ _ _ _ _ _)
   | (with_reducible exact ih1 _ _ _ _ _ _ _ _)
   | (with_reducible exact LeO.refl _)
   | (with_reducible exact LeO.none _)
   | (with_reducible refine LeO.ite ?_ ?_)
   | (with_reducible refine LeO.bind ?_ (fun _ => ?_))
   | exact ih0 _ _ _ _ _ _ _ _
   | exact ih1 _ _ _ _ _ _ _ _
   | exact LeO.none _
   | refine LeO.ite ?_ ?_
   | refine LeO.bind ?_ (fun _ => ?_)
  ·intro y0 y1 y2 y3 y4 y5 y6 y7
   unfold bc.l1
   repeat' first
   | (with_reducible exact ih0 _ _ _ _ _ _ _ _)
   | (with_reducible exact ih1 _ _ _ _ _ _ _ _)
   | (with_reducible exact LeO.refl _)
   | (with_reducible exact LeO.none _)
   | (with_reducible refine LeO.ite ?_ ?_)
   | (with_reducible refine LeO.bind ?_ (fun _ => ?_))
   | exact ih0 _ _ _ _ _ _ _ _
   | exact ih1 _ _ _ _ _ _ _ _
   | exact LeO.none _
   | refine LeO.ite ?_ ?_
   | refine LeO.bind ?_ (fun _ => ?_)
theorem bc.mono : ∀ a0 a1 a2 a3 a4 a5 k, LeO (bc.f k a0 a1 a2 a3 a4 a5) (bc.f (k + 1) a0 a1 a2 a3 a4 a5) := by
 intro a0 a1 a2 a3 a4 a5 k
 obtain ⟨ih0, ih1⟩ := bc.ie k
 unfold bc.f
 repeat' first
   | (with_reducible exact ih0 _ _ _ _ _ _ _ _)
   | (with_reducible exact ih1 _ _ _ _ _ _ _ _)
   | (with_reducible exact LeO.refl _)
   | (with_reducible exact LeO.none _)
   | (with_reducible refine LeO.ite ?_ ?_)
   | (with_reducible refine LeO.bind ?_ (fun _ => ?_))
   | exact ih0 _ _ _ _ _ _ _ _
   | exact ih1 _ _ _ _ _ _ _ _
   | exact LeO.none _
   | refine LeO.ite ?_ ?_
   | refine LeO.bind ?_ (fun _ => ?_)
set_option maxHeartbeats 8000000 in
set_option maxRecDepth 100000 in
theorem bc.calls (k : Nat) (a0 : Int) (a1 : Int) (a2 : Int) (a3 : Int) (a4 : Int) (a5 : Int) (r : Int) (w : World) (h : bc.f k a0 a1 a2 a3 a4 a5 = some r) :
  Calls Tryz.prog 167 #[.int .i64 a0, .int .i64 a1, .int .i64 a2, .int .i64 a3, .int .i64 a4, .int .i64 a5] w fun e w' => e = .returned (.int .i64 r) ∧ aK w w' := by
 have H : (bc.l0 k a0 a1 a2 a3 a4 a5 0 0) = some r := h
 clear h
 have H' := aa.mk H
 clear H
 go_enter Tryz.func167, Tryz.ntmps167
 go_wp2
 go_loopg [13, 14] k (fun kq v13 v14 w' => ∃ (x13_1 : Int) (x14_1 : Int), v13 = .int .i64 x13_1 ∧ v14 = .int .i64 x14_1 ∧ aa (bc.l0 kq a0 a1 a2 a3 a4 a5 x13_1 x14_1 = some r) ∧ aa (kq ≤ k) ∧ aK w w')
 case atStart => exact ⟨(0), (0), (by first | rfl | (simp; done) | (simp [*]; done)), (by first | rfl | (simp; done) | (simp [*]; done)), H', ⟨Nat.le_refl _⟩, by repeat (first | exact aK.refl _ | apply aK.step)⟩
 case round =>
  clear H'
  try clear c1
  try clear p2
  obtain ⟨x13_1, x14_1, rfl, rfl, HA, HK1, ⟨m1, rfl⟩⟩ := hrel
  cases gk with
  | zero => exact absurd HA.out (by simp [bc.l0])
  | succ k1 =>
   have H := HA.out
   clear HA
   simp only [bc.l0] at H
   by_cases c7 : x14_1 < a4
   ·rw [if_pos c7] at H
    have c7b0 : decide (x14_1 < a4) = true := decide_eq_true c7
    clear c7
    replace H := Option.bind_eq_some_iff.mp H
    obtain ⟨t233, A80, H⟩ := H
    replace H : ((cE.f a0 a1 false (wrap64 ((wrap64 ((wrap64 ((wrap64 (a3 + a5)) * a0)) + a2)) + x14_1))).bind fun t234 => (bc.l0 k1 a0 a1 a2 a3 a4 a5 (Go.bits .or .i64 x13_1 (Go.bits .or .i64 t233 t234)) (wrap64 (x14_1 + 1)))) = some r := H
    have A8 := aa.mk A80
    clear A80
    replace H := Option.bind_eq_some_iff.mp H
    obtain ⟨t234, A90, H⟩ := H
    replace H : (bc.l0 k1 a0 a1 a2 a3 a4 a5 (Go.bits .or .i64 x13_1 (Go.bits .or .i64 t233 t234)) (wrap64 (x14_1 + 1))) = some r := H
    have A9 := aa.mk A90
    clear A90
    have H' := aa.mk H
    clear H
    go_wp2_with (first | ((with_reducible refine az (f := 65) rfl ?_); refine bI (some 31) rfl rfl Tryz.func65 (by kernel_rfl) rfl #[.int .i64 a0, .int .i64 a1, .bool false, .int .i64 (wrap64 ((wrap64 ((wrap64 (a3 * a0)) + a2)) + x14_1))] rfl (by (try simp only [List.map_toArray, List.map_cons, List.map_nil]); first | done | rfl | (simp only [List.length_drop, List.length_take]; rfl)) ?_; (with_reducible refine (cE.calls a0 a1 false (wrap64 ((wrap64 ((wrap64 (a3 * a0)) + a2)) + x14_1)) t233 _ A8.out).mono ?_); rintro e w' ⟨rfl, ⟨nd, rfl⟩⟩; refine ⟨_, rfl, ?_⟩) | ((with_reducible refine az (f := 65) rfl ?_); refine bI (some 43) rfl rfl Tryz.func65 (by kernel_rfl) rfl #[.int .i64 a0, .int .i64 a1, .bool false, .int .i64 (wrap64 ((wrap64 ((wrap64 ((wrap64 (a3 + a5)) * a0)) + a2)) + x14_1))] rfl (by (try simp only [List.map_toArray, List.map_cons, List.map_nil]); first | done | rfl | (simp only [List.length_drop, List.length_take]; rfl)) ?_; (with_reducible refine (cE.calls a0 a1 false (wrap64 ((wrap64 ((wrap64 ((wrap64 (a3 + a5)) * a0)) + a2)) + x14_1)) t234 _ A9.out).mono ?_); rintro e w' ⟨rfl, ⟨nd, rfl⟩⟩; refine ⟨_, rfl, ?_⟩))
    go_roundg k1
    case measure => have := HK1.out; omega
    case rel => exact ⟨(Go.bits .or .i64 x13_1 (Go.bits .or .i64 t233 t234)), (wrap64 (x14_1 + 1)), (by first | rfl | (simp; done) | (simp [*]; done)), (by first | rfl | (simp; done) | (simp [*]; done)), H', ⟨by have := HK1.out; omega⟩, by repeat (first | exact aK.refl _ | apply aK.step)⟩
   ·rw [if_neg c7] at H
    have c7b0 : decide (x14_1 < a4) = false := decide_eq_false c7
    clear c7
    have H' := aa.mk H
    clear H
    go_wp2
    go_loopg [13, 15] k1 (fun kq v13 v15 w' => ∃ (x13_2 : Int) (x15_2 : Int), v13 = .int .i64 x13_2 ∧ v15 = .int .i64 x15_2 ∧ aa (bc.l1 kq a0 a1 a2 a3 a4 a5 x13_2 x15_2 = some r) ∧ aa (kq ≤ k1) ∧ aK w w')
    case atStart => exact ⟨(x13_1), (0), (by first | rfl | (simp; done) | (simp [*]; done)), (by first | rfl | (simp; done) | (simp [*]; done)), H', ⟨Nat.le_refl _⟩, by repeat (first | exact aK.refl _ | apply aK.step)⟩
    case round =>
     clear H'
     try clear c1
     try clear p2
     try clear c6
     try clear p6
     try clear c7
     try clear c7b0
     try clear p2
     obtain ⟨x13_2, x15_2, rfl, rfl, HA, HK2, ⟨m2, rfl⟩⟩ := hrel
     cases gk with
     | zero => exact absurd HA.out (by simp [bc.l1])
     | succ k2 =>
      have H := HA.out
      clear HA
      simp only [bc.l1] at H
      by_cases c10 : x15_2 < a5
      ·rw [if_pos c10] at H
       have c10b0 : decide (x15_2 < a5) = true := decide_eq_true c10
       clear c10
       replace H := Option.bind_eq_some_iff.mp H
       obtain ⟨t235, A110, H⟩ := H
       replace H : ((cE.f a0 a1 true (wrap64 ((wrap64 ((wrap64 ((wrap64 (a3 + x15_2)) * (wrap64 (a0 + 1)))) + a2)) + a4))).bind fun t236 => (bc.l1 k2 a0 a1 a2 a3 a4 a5 (Go.bits .or .i64 x13_2 (Go.bits .or .i64 t235 t236)) (wrap64 (x15_2 + 1)))) = some r := H
       have A11 := aa.mk A110
       clear A110
       replace H := Option.bind_eq_some_iff.mp H
       obtain ⟨t236, A120, H⟩ := H
       replace H : (bc.l1 k2 a0 a1 a2 a3 a4 a5 (Go.bits .or .i64 x13_2 (Go.bits .or .i64 t235 t236)) (wrap64 (x15_2 + 1))) = some r := H
       have A12 := aa.mk A120
       clear A120
       have H' := aa.mk H
       clear H
       go_wp2_with (first | ((with_reducible refine az (f := 65) rfl ?_); refine bI (some 62) rfl rfl Tryz.func65 (by kernel_rfl) rfl #[.int .i64 a0, .int .i64 a1, .bool true, .int .i64 (wrap64 ((wrap64 ((wrap64 (a3 + x15_2)) * (wrap64 (a0 + 1)))) + a2))] rfl (by (try simp only [List.map_toArray, List.map_cons, List.map_nil]); first | done | rfl | (simp only [List.length_drop, List.length_take]; rfl)) ?_; (with_reducible refine (cE.calls a0 a1 true (wrap64 ((wrap64 ((wrap64 (a3 + x15_2)) * (wrap64 (a0 + 1)))) + a2)) t235 _ A11.out).mono ?_); rintro e w' ⟨rfl, ⟨nd, rfl⟩⟩; refine ⟨_, rfl, ?_⟩) | ((with_reducible refine az (f := 65) rfl ?_); refine bI (some 75) rfl rfl Tryz.func65 (by kernel_rfl) rfl #[.int .i64 a0, .int .i64 a1, .bool true, .int .i64 (wrap64 ((wrap64 ((wrap64 ((wrap64 (a3 + x15_2)) * (wrap64 (a0 + 1)))) + a2)) + a4))] rfl (by (try simp only [List.map_toArray, List.map_cons, List.map_nil]); first | done | rfl | (simp only [List.length_drop, List.length_take]; rfl)) ?_; (with_reducible refine (cE.calls a0 a1 true (wrap64 ((wrap64 ((wrap64 ((wrap64 (a3 + x15_2)) * (wrap64 (a0 + 1)))) + a2)) + a4)) t236 _ A12.out).mono ?_); rintro e w' ⟨rfl, ⟨nd, rfl⟩⟩; refine ⟨_, rfl, ?_⟩))
       go_roundg k2
       case measure => have := HK1.out; have := HK2.out; omega
       case rel => exact ⟨(Go.bits .or .i64 x13_2 (Go.bits .or .i64 t235 t236)), (wrap64 (x15_2 + 1)), (by first | rfl | (simp; done) | (simp [*]; done)), (by first | rfl | (simp; done) | (simp [*]; done)), H', ⟨by have := HK1.out; have := HK2.out; omega⟩, by repeat (first | exact aK.refl _ | apply aK.step)⟩
      ·rw [if_neg c10] at H
       have c10b0 : decide (x15_2 < a5) = false := decide_eq_false c10
       clear c10
       obtain rfl := Option.some.inj H
       go_wp2
       go_ret
       exact ⟨by first | rfl | (simp; done) | (simp [*]; done), by repeat (first | exact aK.refl _ | apply aK.step)⟩
end Go.Proofs.YtmjlmloomkodpaaGreatDoor.PA
namespace Go.Proofs.YtmjlmloomkodpaaGreatDoor.PA
open Go.RowKit Go.Proofs.ae.aw Go.Proofs.ae.aJ Go.Proofs.ae.aN
attribute [local go_sem] bo bm bC bB a6 aZ bn bj
set_option linter.unusedVariables false
set_option linter.unusedSimpArgs false
mutual
def bd.l0 : Nat → Int → Int → List (fz) → Int → Option ((List (fz)))
 | 0, _, _, _, _ => none
 | k + 1, x0, x1, x5, x6 => if x6 ≤ x0 then (bd.j1 k x0 x1 x5 x6 (decide (x6 ≤ x1))) else (bd.j1 k x0 x1 x5 x6 false)
def bd.j1 : Nat → Int → Int → List (fz) → Int → Bool → Option ((List (fz)))
 | 0, _, _, _, _, _ => none
 | k + 1, x0, x1, x5, x6, x16 => if x16 = true then (bd.l1 k x0 x1 x5 x6 0) else (some x5)
def bd.l1 : Nat → Int → Int → List (fz) → Int → Int → Option ((List (fz)))
 | 0, _, _, _, _, _ => none
 | k + 1, x0, x1, x5, x6, x7 => if (wrap64 (x7 + x6)) ≤ x1 then (bd.l2 k x0 x1 x5 x6 x7 0) else (bd.l0 k x0 x1 x5 (wrap64 (x6 + 1)))
def bd.l2 : Nat → Int → Int → List (fz) → Int → Int → Int → Option ((List (fz)))
 | 0, _, _, _, _, _, _ => none
 | k + 1, x0, x1, x5, x6, x7, x8 => if (wrap64 (x8 + x6)) ≤ x0 then ((bc.f k x0 x1 x8 x7 x6 x6).bind fun t237 => (if x5.length < 4398046511104 then (bd.l2 k x0 x1 (x5 ++ [(⟨x8, x7, x6, t237⟩ : fz)]) x6 x7 (wrap64 (x8 + 1))) else (none))) else (bd.l1 k x0 x1 x5 x6 (wrap64 (x7 + 1)))
end
def bd.f (k : Nat) (a0 : Int) (a1 : Int) : Option ((List (fz))) := bd.l0 k a0 a1 ([] : List (fz)) 1
theorem bd.ie : ∀ k, (∀ y0 y1 y2 y3, LeO (bd.l0 k y0 y1 y2 y3) (bd.l0 (k + 1) y0 y1 y2 y3)) ∧ (∀ y0 y1 y2 y3 y4, LeO (bd.j1 k y0 y1 y2 y3 y4) (bd.j1 (k + 1) y0 y1 y2 y3 y4)) ∧ (∀ y0 y1 y2 y3 y4, LeO (bd.l1 k y0 y1 y2 y3 y4) (bd.l1 (k + 1) y0 y1 y2 y3 y4)) ∧ (∀ y0 y1 y2 y3 y4 y5, LeO (bd.l2 k y0 y1 y2 y3 y4 y5) (bd.l2 (k + 1) y0 y1 y2 y3 y4 y5))
 | 0 => ⟨fun _ _ _ _ r h => by simp [bd.l0] at h, fun _ _ _ _ _ r h => by simp [bd.j1] at h, fun _ _ _ _ _ r h => by simp [bd.l1] at h, fun _ _ _ _ _ _ r h => by simp [bd.l2] at h⟩
 | k + 1 => by
  obtain ⟨ih0, ih1, ih2, ih3⟩ := bd.ie k
  refine ⟨?_, ?_, ?_, ?_⟩
  ·intro y0 y1 y2 y3
   unfold bd.l0
   repeat' first
   | (with_reducible exact ih0 _ _ _ _)
   | (with_reducible exact ih1 _ _ _ _ _)
   | (with_reducible exact ih2 _ _ _ _ _)
   | (with_reducible exact ih3 _ _ _ _ _ _)
   | (with_reducible exact bc.mono _ _ _ _ _ _ _)
   | (with_reducible exact LeO.refl _)
   | (with_reducible exact LeO.none _)
   | (with_reducible refine LeO.ite ?_ ?_)
   | (with_reducible refine LeO.bind ?_ (fun _ => ?_))
   | exact ih0 _ _ _ _
   | exact ih1 _ _ _ _ _
   | exact ih2 _ _ _ _ _
   | exact ih3 _ _ _ _ _ _
   | exact bc.mono _ _ _ _ _ _ _
   | exact LeO.none _
   | refine LeO.ite ?_ ?_
   | refine LeO.bind ?_ (fun _ => ?_)
  ·intro y0 y1 y2 y3 y4
   unfold bd.j1
   repeat' first
   | (with_reducible exact ih0 _ _ _ _)
   | (with_reducible exact ih1 _ _ _ _ _)
   | (with_reducible exact ih2 _ _ _ _ _)
   | (with_reducible exact ih3 _ _ _ _ _ _)
   | (with_reducible exact bc.mono _ _ _ _ _ _ _)
   | (with_reducible exact LeO.refl _)
   | (with_reducible exact LeO.none _)
   | (with_reducible refine LeO.ite ?_ ?_)
   | (with_reducible refine LeO.bind ?_ (fun _ => ?_))
   | exact ih0 _ _ _ _
   | exact ih1 _ _ _ _ _
   | exact ih2 _ _ _ _ _
   | exact ih3 _ _ _ _ _ _
   | exact bc.mono _ _ _ _ _ _ _
   | exact LeO.none _
   | refine LeO.ite ?_ ?_
   | refine LeO.bind ?_ (fun _ => ?_)
  ·intro y0 y1 y2 y3 y4
   unfold bd.l1
   repeat' first
   | (with_reducible exact ih0 _ _ _ _)
   | (with_reducible exact ih1 _ _ _ _ _)
   | (with_reducible exact ih2 _ _ _ _ _)
   | (with_reducible exact ih3 _ _ _ _ _ _)
   | (with_reducible exact bc.mono _ _ _ _ _ _ _)
   | (with_reducible exact LeO.refl _)
   | (with_reducible exact LeO.none _)
   | (with_reducible refine LeO.ite ?_ ?_)
   | (with_reducible refine LeO.bind ?_ (fun _ => ?_))
   | exact ih0 _ _ _ _
   | exact ih1 _ _ _ _ _
   | exact ih2 _ _ _ _ _
   | exact ih3 _ _ _ _ _ _
   | exact bc.mono _ _ _ _ _ _ _
   | exact LeO.none _
   | refine LeO.ite ?_ ?_
   | refine LeO.bind ?_ (fun _ => ?_)
  ·intro y0 y1 y2 y3 y4 y5
   unfold bd.l2
   repeat' first
   | (with_reducible exact ih0 _ _ _ _)
   | (with_reducible exact ih1 _ _ _ _ _)
   | (with_reducible exact ih2 _ _ _ _ _)
   | (with_reducible exact ih3 _ _ _ _ _ _)
   | (with_reducible exact bc.mono _ _ _ _ _ _ _)
   | (with_reducible exact LeO.refl _)
   | (with_reducible exact LeO.none _)
   | (with_reducible refine LeO.ite ?_ ?_)
   | (with_reducible refine LeO.bind ?_ (fun _ => ?_))
   | exact ih0 _ _ _ _
   | exact ih1 _ _ _ _ _
   | exact ih2 _ _ _ _ _
   | exact ih3 _ _ _ _ _ _
   | exact bc.mono _ _ _ _ _ _ _
   | exact LeO.none _
   | refine LeO.ite ?_ ?_
   | refine LeO.bind ?_ (fun _ => ?_)
theorem bd.mono : ∀ a0 a1 k, LeO (bd.f k a0 a1) (bd.f (k + 1) a0 a1) := by
 intro a0 a1 k
 obtain ⟨ih0, ih1, ih2, ih3⟩ := bd.ie k
 unfold bd.f
 repeat' first
   | (with_reducible exact ih0 _ _ _ _)
   | (with_reducible exact ih1 _ _ _ _ _)
   | (with_reducible exact ih2 _ _ _ _ _)
   | (with_reducible exact ih3 _ _ _ _ _ _)
   | (with_reducible exact bc.mono _ _ _ _ _ _ _)
   | (with_reducible exact LeO.refl _)
   | (with_reducible exact LeO.none _)
   | (with_reducible refine LeO.ite ?_ ?_)
   | (with_reducible refine LeO.bind ?_ (fun _ => ?_))
   | exact ih0 _ _ _ _
   | exact ih1 _ _ _ _ _
   | exact ih2 _ _ _ _ _
   | exact ih3 _ _ _ _ _ _
   | exact bc.mono _ _ _ _ _ _ _
   | exact LeO.none _
   | refine LeO.ite ?_ ?_
   | refine LeO.bind ?_ (fun _ => ?_)
set_option maxHeartbeats 8000000 in
set_option maxRecDepth 100000 in
theorem bd.calls (k : Nat) (a0 : Int) (a1 : Int) (r : List (fz)) (w : World) (h : bd.f k a0 a1 = some r) :
  Calls Tryz.prog 135 #[.int .i64 a0, .int .i64 a1] w fun e w' => ∃ v0_ : Value, e = .returned (v0_) ∧ Kd.R oK 170 w' w.heap.size (fun _ => True) v0_ r ∧ Below w.heap.size w w' := by
 have hu170 := Tryz.underlying170
 have HB := aa.mk (Below.refl w.heap.size w)
 have H : (bd.l0 k a0 a1 ([] : List (fz)) 1) = some r := h
 clear h
 have H' := aa.mk H
 clear H
 go_enter Tryz.func135, Tryz.ntmps135
 go_wp2
 go_loopg [5, 6] k (fun kq v5 v6 w' => ∃ (x5_1 : List (fz)) (x6_1 : Int), v6 = .int .i64 x6_1 ∧ aa (bd.l0 kq a0 a1 x5_1 x6_1 = some r) ∧ aa (kq ≤ k) ∧ aa (Kd.R oK 170 w' w.heap.size (fun _ => True) v5 x5_1) ∧ aa (Below w.heap.size w w'))
 case atStart => exact ⟨(([] : List (fz))), (1), (by first | rfl | (simp; done) | (simp [*]; done)), H', ⟨Nat.le_refl _⟩, ⟨by first | exact Kd.ir _ _ _ _ _ | exact Kd.mx _ _ _ _ _ | exact Kd.mu _ _ _ _ _ | exact Kd.mw _ _ _ _ _ | exact Kd.km _ _ _ _ _⟩, ⟨by repeat (first | (with_reducible first | exact HB.out | apply ag | apply af | apply ah) | exact HB.out)⟩⟩
 case round =>
  clear H'
  try clear c1
  try clear p2
  obtain ⟨x5_1, x6_1, rfl, HA, HK1, er, HB⟩ := hrel
  cases gk with
  | zero => exact absurd HA.out (by simp [bd.l0])
  | succ k1 =>
   have H := HA.out
   clear HA
   simp only [bd.l0] at H
   have HC3 := aa.mk H
   clear H
   go_upto_region 3 with (fail)
   go_cut [16] (fun v16 wc => ∃ (kq : Nat) (x16_2 : Bool), v16 = .bool x16_2 ∧ aa (bd.j1 kq a0 a1 x5_1 x6_1 x16_2 = some r) ∧ aa (kq ≤ k1) ∧ aa (Kd.R oK 170 wc w.heap.size (fun _ => True) u5 x5_1) ∧ aa (Below w.heap.size w wc))
   case first =>
    have H := HC3.out
    clear HC3
    by_cases c4 : x6_1 ≤ a0
    ·rw [if_pos c4] at H
     have c4b0 : decide (x6_1 ≤ a0) = true := decide_eq_true c4
     clear c4
     (first | rw [c4b0] | (simp only [a8, bf]; rw [c4b0]) | skip)
     have H' := aa.mk H
     clear H
     go_wp2
     go_meet
     case rel => exact ⟨_, (decide (x6_1 ≤ a1)), (by first | rfl | (simp; done) | (simp [*]; done)), H', ⟨by have := HK1.out; first | omega | exact Nat.le_refl _⟩, ⟨by (with_reducible repeat (first | apply Kd.aH | apply Kd.aG | apply Kd.aQ)); exact er.out⟩, ⟨by repeat (first | (with_reducible first | exact HB.out | apply ag | apply af | apply ah) | exact HB.out)⟩⟩
    ·rw [if_neg c4] at H
     have c4b0 : decide (x6_1 ≤ a0) = false := decide_eq_false c4
     clear c4
     (first | rw [c4b0] | (simp only [a8, bf]; rw [c4b0]) | skip)
     have H' := aa.mk H
     clear H
     go_wp2
     go_meet
     case rel => exact ⟨_, (false), (by first | rfl | (simp; done) | (simp [*]; done)), H', ⟨by have := HK1.out; first | omega | exact Nat.le_refl _⟩, ⟨by (with_reducible repeat (first | apply Kd.aH | apply Kd.aG | apply Kd.aQ)); exact er.out⟩, ⟨by repeat (first | (with_reducible first | exact HB.out | apply ag | apply af | apply ah) | exact HB.out)⟩⟩
   case rest =>
    clear HC3
    try clear c1
    try clear p2
    try clear c4
    try clear c4b0
    try clear p2
    obtain ⟨kq, x16_2, rfl, HA, HJ2, er, HB⟩ := hcut
    cases kq with
    | zero => exact absurd HA.out (by simp [bd.j1])
    | succ kj2 =>
     have H := HA.out
     clear HA
     simp only [bd.j1] at H
     by_cases c5 : x16_2 = true
     ·subst c5
      have H1 : (bd.l1 kj2 a0 a1 x5_1 x6_1 0) = some r := by rw [if_pos rfl] at H; exact H
      clear H
      have H := H1
      clear H1
      have H' := aa.mk H
      clear H
      go_wp2
      go_loopg [5, 7] kj2 (fun kq v5 v7 w' => ∃ (x5_3 : List (fz)) (x7_3 : Int), v7 = .int .i64 x7_3 ∧ aa (bd.l1 kq a0 a1 x5_3 x6_1 x7_3 = some r) ∧ aa (kq ≤ kj2) ∧ aa (Kd.R oK 170 w' w.heap.size (fun _ => True) v5 x5_3) ∧ aa (Below w.heap.size w w'))
      case atStart => exact ⟨(x5_1), (0), (by first | rfl | (simp; done) | (simp [*]; done)), H', ⟨Nat.le_refl _⟩, ⟨by (with_reducible repeat (first | apply Kd.aH | apply Kd.aG | apply Kd.aQ)); exact er.out⟩, ⟨by repeat (first | (with_reducible first | exact HB.out | apply ag | apply af | apply ah) | exact HB.out)⟩⟩
      case round =>
       clear H'
       try clear c1
       try clear p2
       try clear c4
       try clear c4b0
       try clear c5
       try clear p2
       obtain ⟨x5_3, x7_3, rfl, HA, HK3, er, HB⟩ := hrel
       cases gk with
       | zero => exact absurd HA.out (by simp [bd.l1])
       | succ k3 =>
        have H := HA.out
        clear HA
        simp only [bd.l1] at H
        by_cases c6 : (wrap64 (x7_3 + x6_1)) ≤ a1
        ·rw [if_pos c6] at H
         have c6b0 : decide ((wrap64 (x7_3 + x6_1)) ≤ a1) = true := decide_eq_true c6
         clear c6
         have H' := aa.mk H
         clear H
         go_wp2
         go_loopg [5, 8] k3 (fun kq v5 v8 w' => ∃ (x5_4 : List (fz)) (x8_4 : Int), v8 = .int .i64 x8_4 ∧ aa (bd.l2 kq a0 a1 x5_4 x6_1 x7_3 x8_4 = some r) ∧ aa (kq ≤ k3) ∧ aa (Kd.R oK 170 w' w.heap.size (fun _ => True) v5 x5_4) ∧ aa (Below w.heap.size w w'))
         case atStart => exact ⟨(x5_3), (0), (by first | rfl | (simp; done) | (simp [*]; done)), H', ⟨Nat.le_refl _⟩, ⟨by (with_reducible repeat (first | apply Kd.aH | apply Kd.aG | apply Kd.aQ)); exact er.out⟩, ⟨by repeat (first | (with_reducible first | exact HB.out | apply ag | apply af | apply ah) | exact HB.out)⟩⟩
         case round =>
          clear H'
          try clear c1
          try clear p2
          try clear c4
          try clear c4b0
          try clear c5
          try clear c6
          try clear c6b0
          try clear p6
          try clear p2
          obtain ⟨x5_4, x8_4, rfl, HA, HK4, er, HB⟩ := hrel
          cases gk with
          | zero => exact absurd HA.out (by simp [bd.l2])
          | succ k4 =>
           have H := HA.out
           clear HA
           simp only [bd.l2] at H
           by_cases c7 : (wrap64 (x8_4 + x6_1)) ≤ a0
           ·rw [if_pos c7] at H
            have c7b0 : decide ((wrap64 (x8_4 + x6_1)) ≤ a0) = true := decide_eq_true c7
            clear c7
            replace H := Option.bind_eq_some_iff.mp H
            obtain ⟨t237, A80, H⟩ := H
            replace H : (if x5_4.length < 4398046511104 then (bd.l2 k4 a0 a1 (x5_4 ++ [(⟨x8_4, x7_3, x6_1, t237⟩ : fz)]) x6_1 x7_3 (wrap64 (x8_4 + 1))) else (none)) = some r := H
            have A8 := aa.mk A80
            clear A80
            by_cases c9 : x5_4.length < 4398046511104
            ·rw [if_pos c9] at H
             have LMc9 := aa.mk c9
             clear c9
             obtain ⟨y238, hy238⟩ : ∃ y_ : List (fz), y_ = (x5_4 ++ [(⟨x8_4, x7_3, x6_1, t237⟩ : fz)]) := ⟨_, rfl⟩
             replace H : (bd.l2 k4 a0 a1 y238 x6_1 x7_3 (wrap64 (x8_4 + 1))) = some r := by first | (rw [hy238]; with_reducible exact H) | (have H2_ := (Option.bind_some _ _).symm.trans H; rw [hy238]; with_reducible exact H2_) | (have H2_ := (Option.bind_some _ _).symm.trans H; with_reducible exact H2_) | with_reducible exact H | (rw [hy238]; exact H) | exact H
             have Ny238 := aa.mk hy238
             clear hy238
             have H' := aa.mk H
             clear H
             go_wp2_with (first | ((with_reducible refine az (f := 167) rfl ?_); refine bI (some 43) rfl rfl Tryz.func167 (by kernel_rfl) rfl #[.int .i64 a0, .int .i64 a1, .int .i64 x8_4, .int .i64 x7_3, .int .i64 x6_1, .int .i64 x6_1] rfl (by (try simp only [List.map_toArray, List.map_cons, List.map_nil]); first | done | rfl | (simp only [List.length_drop, List.length_take]; rfl)) ?_; (with_reducible refine (bc.calls k4 a0 a1 x8_4 x7_3 x6_1 x6_1 t237 _ A8.out).mono ?_); rintro e w' ⟨rfl, ⟨nd, rfl⟩⟩; refine ⟨_, rfl, ?_⟩) | ((with_reducible refine cH (b := .append) (xs := #[.tmp 33, .tmp 45]) rfl ?_); at_builtin; refine Kd.eb oK (w0 := w) w.heap.size rfl (.tmp 33) (.tmp 45) 143 170 (.agg #[(.int .i64 0), (.int .i64 0), (.int .i64 0), (.int .i64 0)]) 32 rfl Tryz.underlying143 AY rfl (by decide) (by omega) u5 x5_4 (⟨x8_4, x7_3, x6_1, t237⟩ : fz) [.int .i64 x8_4, .int .i64 x7_3, .int .i64 x6_1, .int .i64 t237] (fun _ => True) (fun _ => False) rfl rfl ?aP (fun _ hk => hk.elim) ?aF ?aO ?aB ?aS ?aL ?_; (case aP => exact yZ _ _ _ (⟨x8_4, x7_3, x6_1, t237⟩ : fz)); (case aB => exact (by repeat (first | (with_reducible first | exact HB.out | apply ag | apply af | apply ah) | exact HB.out))); (case aF => exact (fun _ _ => trivial)); (case aO => exact (by (with_reducible repeat (first | apply Kd.aH | apply Kd.aG | apply Kd.aQ)); exact er.out)); (case aS => exact (aq (by repeat (first | (with_reducible first | exact HB.out | apply ag | apply af | apply ah) | exact HB.out)))); (case aL => have := LMc9.out; omega); intro v239 w10 ho hb hg hat; rw [← Ny238.out] at ho; have n0_ := aa.mk (hb); have n1_ := aa.mk (ho); clear HB; clear er; have HB := n0_; have FI := n1_; clear n0_ n1_; clear ho hb hg hat))
             go_roundg k4
             case measure => have := HK1.out; have := HJ2.out; have := HK3.out; have := HK4.out; omega
             case rel => exact ⟨(y238), (wrap64 (x8_4 + 1)), (by first | rfl | (simp; done) | (simp [*]; done)), H', ⟨by have := HK1.out; have := HJ2.out; have := HK3.out; have := HK4.out; omega⟩, ⟨by (with_reducible repeat (first | apply Kd.aH | apply Kd.aG | apply Kd.aQ)); exact FI.out⟩, ⟨by repeat (first | (with_reducible first | exact HB.out | apply ag | apply af | apply ah) | exact HB.out)⟩⟩
            ·rw [if_neg c9] at H
             exact absurd H (by simp)
           ·rw [if_neg c7] at H
            have c7b0 : decide ((wrap64 (x8_4 + x6_1)) ≤ a0) = false := decide_eq_false c7
            clear c7
            have H' := aa.mk H
            clear H
            go_wp2
            go_roundg k4
            case measure => have := HK1.out; have := HJ2.out; have := HK3.out; have := HK4.out; omega
            case rel => exact ⟨(x5_4), (wrap64 (x7_3 + 1)), (by first | rfl | (simp; done) | (simp [*]; done)), H', ⟨by have := HK1.out; have := HJ2.out; have := HK3.out; have := HK4.out; omega⟩, ⟨by (with_reducible repeat (first | apply Kd.aH | apply Kd.aG | apply Kd.aQ)); exact er.out⟩, ⟨by repeat (first | (with_reducible first | exact HB.out | apply ag | apply af | apply ah) | exact HB.out)⟩⟩
        ·rw [if_neg c6] at H
         have c6b0 : decide ((wrap64 (x7_3 + x6_1)) ≤ a1) = false := decide_eq_false c6
         clear c6
         have H' := aa.mk H
         clear H
         go_wp2
         go_roundg k3
         case measure => have := HK1.out; have := HJ2.out; have := HK3.out; omega
         case rel => exact ⟨(x5_3), (wrap64 (x6_1 + 1)), (by first | rfl | (simp; done) | (simp [*]; done)), H', ⟨by have := HK1.out; have := HJ2.out; have := HK3.out; omega⟩, ⟨by (with_reducible repeat (first | apply Kd.aH | apply Kd.aG | apply Kd.aQ)); exact er.out⟩, ⟨by repeat (first | (with_reducible first | exact HB.out | apply ag | apply af | apply ah) | exact HB.out)⟩⟩
     ·replace c5 := Bool.eq_false_iff.mpr c5
      subst c5
      have H1 : (some x5_1) = some r := by rw [if_neg (show ¬ (false = true) by decide)] at H; exact H
      clear H
      have H := H1
      clear H1
      obtain rfl := Option.some.inj H
      go_wp2
      go_ret
      exact ⟨_, by first | rfl | (simp [av, au] <;> rfl) | (simp [*, av, au] <;> rfl), by (with_reducible repeat (first | apply Kd.aH | apply Kd.aG | apply Kd.aQ)); exact er.out, by repeat (first | (with_reducible first | exact HB.out | apply ag | apply af | apply ah) | exact HB.out)⟩
end Go.Proofs.YtmjlmloomkodpaaGreatDoor.PA
namespace Go.Proofs.YtmjlmloomkodpaaGreatDoor.PA
open Go.RowKit Go.Proofs.ae.aw Go.Proofs.ae.aJ Go.Proofs.ae.aN
attribute [local go_sem] bo bm bC bB a6 aZ bn bj
set_option linter.unusedVariables false
set_option linter.unusedSimpArgs false
def bT.l0 : Nat → Int → Int → List Int → Int → Option (List Int)
 | 0, _, _, _, _ => none
 | k + 1, x0, x1, x5, x6 => if x6 < (wrap64 ((wrap64 ((wrap64 ((wrap64 (2 * x0)) * x1)) + x0)) + x1)) then (if 0 ≤ x6 then (if x5.length < 17592186044416 then (bT.l0 k x0 x1 (x5 ++ [shl .i64 1 x6]) (wrap64 (x6 + 1))) else (none)) else (none)) else (some x5)
def bT.f (k : Nat) (a0 : Int) (a1 : Int) : Option (List Int) := bT.l0 k a0 a1 ([] : List Int) 0
theorem bT.ie : ∀ k, (∀ y0 y1 y2 y3, LeO (bT.l0 k y0 y1 y2 y3) (bT.l0 (k + 1) y0 y1 y2 y3))
 | 0 => fun _ _ _ _ r h => by simp [bT.l0] at h
 | k + 1 => by
  have ih0 := bT.ie k
  ·intro y0 y1 y2 y3
   unfold bT.l0
   repeat' first
   | (with_reducible exact ih0 _ _ _ _)
   | (with_reducible exact LeO.refl _)
   | (with_reducible exact LeO.none _)
   | (with_reducible refine LeO.ite ?_ ?_)
   | (with_reducible refine LeO.bind ?_ (fun _ => ?_))
   | exact ih0 _ _ _ _
   | exact LeO.none _
   | refine LeO.ite ?_ ?_
   | refine LeO.bind ?_ (fun _ => ?_)
theorem bT.mono : ∀ a0 a1 k, LeO (bT.f k a0 a1) (bT.f (k + 1) a0 a1) := by
 intro a0 a1 k
 have ih0 := bT.ie k
 unfold bT.f
 repeat' first
   | (with_reducible exact ih0 _ _ _ _)
   | (with_reducible exact LeO.refl _)
   | (with_reducible exact LeO.none _)
   | (with_reducible refine LeO.ite ?_ ?_)
   | (with_reducible refine LeO.bind ?_ (fun _ => ?_))
   | exact ih0 _ _ _ _
   | exact LeO.none _
   | refine LeO.ite ?_ ?_
   | refine LeO.bind ?_ (fun _ => ?_)
set_option maxHeartbeats 8000000 in
set_option maxRecDepth 100000 in
theorem bT.calls (k : Nat) (a0 : Int) (a1 : Int) (r : List Int) (w : World) (h : bT.f k a0 a1 = some r) :
  Calls Tryz.prog 168 #[.int .i64 a0, .int .i64 a1] w fun e w' => ∃ v0_ : Value, e = .returned (v0_) ∧ Kd.R (Kd.int .i64) 3 w' w.heap.size (fun _ => True) v0_ r ∧ Below w.heap.size w w' := by
 have HB := aa.mk (Below.refl w.heap.size w)
 have H : (bT.l0 k a0 a1 ([] : List Int) 0) = some r := h
 clear h
 have H' := aa.mk H
 clear H
 go_enter Tryz.func168, Tryz.ntmps168
 go_wp2
 go_loopg [5, 6] k (fun kq v5 v6 w' => ∃ (x5_1 : List Int) (x6_1 : Int), v6 = .int .i64 x6_1 ∧ aa (bT.l0 kq a0 a1 x5_1 x6_1 = some r) ∧ aa (kq ≤ k) ∧ aa (Kd.R (Kd.int .i64) 3 w' w.heap.size (fun _ => True) v5 x5_1) ∧ aa (Below w.heap.size w w'))
 case atStart => exact ⟨(([] : List Int)), (0), (by first | rfl | (simp; done) | (simp [*]; done)), H', ⟨Nat.le_refl _⟩, ⟨by first | exact Kd.ir _ _ _ _ _ | exact Kd.mx _ _ _ _ _ | exact Kd.mu _ _ _ _ _ | exact Kd.mw _ _ _ _ _ | exact Kd.km _ _ _ _ _⟩, ⟨by repeat (first | (with_reducible first | exact HB.out | apply ag | apply af | apply ah) | exact HB.out)⟩⟩
 case round =>
  clear H'
  try clear c1
  try clear p2
  obtain ⟨x5_1, x6_1, rfl, HA, HK1, er, HB⟩ := hrel
  cases gk with
  | zero => exact absurd HA.out (by simp [bT.l0])
  | succ k1 =>
   have H := HA.out
   clear HA
   simp only [bT.l0] at H
   by_cases c3 : x6_1 < (wrap64 ((wrap64 ((wrap64 ((wrap64 (2 * a0)) * a1)) + a0)) + a1))
   ·rw [if_pos c3] at H
    have c3b0 : decide (x6_1 < (wrap64 ((wrap64 ((wrap64 ((wrap64 (2 * a0)) * a1)) + a0)) + a1))) = true := decide_eq_true c3
    clear c3
    by_cases c4 : 0 ≤ x6_1
    ·rw [if_pos c4] at H
     have c4b0 := eq_true c4
     have c4b1 : decide (0 ≤ x6_1) = true := decide_eq_true c4
     clear c4
     obtain ⟨ji5, hji5⟩ : ∃ j_ : Int, (shl .i64 1 x6_1) = j_ := ⟨_, rfl⟩
     replace H : (if x5_1.length < 17592186044416 then (bT.l0 k1 a0 a1 (x5_1 ++ [ji5]) (wrap64 (x6_1 + 1))) else (none)) = some r := by first | (rw [hji5] at H; exact H) | (simp only [hji5] at H ⊢; exact H)
     have hji5_ : (IntKind.i64.wrap (1 * 2 ^ min x6_1.toNat 64)) = ji5 := hji5
     have hji5z : x6_1 ≤ 64 → (IntKind.i64.wrap (1 * 2 ^ x6_1.toNat)) = ji5 := fT hji5
     have hji5u : (IntKind.i64.wrap (2 ^ min x6_1.toNat 64)) = ji5 := by have h_ := hji5_; rw [Int.one_mul] at h_; exact h_
     have hji5v : x6_1 ≤ 64 → (IntKind.i64.wrap (2 ^ x6_1.toNat)) = ji5 := fun hle_ => by have h_ := hji5z hle_; rw [Int.one_mul] at h_; exact h_
     have hji5y : (wrap64 (1 * 2 ^ min x6_1.toNat 64)) = ji5 := (a8 _).symm.trans hji5_
     have hji5x : x6_1 ≤ 64 → (wrap64 (1 * 2 ^ x6_1.toNat)) = ji5 := fun h_ => (a8 _).symm.trans (hji5z h_)
     by_cases c6 : x5_1.length < 17592186044416
     ·rw [if_pos c6] at H
      have LMc6 := aa.mk c6
      clear c6
      obtain ⟨y246, hy246⟩ : ∃ y_ : List Int, y_ = (x5_1 ++ [ji5]) := ⟨_, rfl⟩
      replace H : (bT.l0 k1 a0 a1 y246 (wrap64 (x6_1 + 1))) = some r := by first | (rw [hy246]; with_reducible exact H) | (have H2_ := (Option.bind_some _ _).symm.trans H; rw [hy246]; with_reducible exact H2_) | (have H2_ := (Option.bind_some _ _).symm.trans H; with_reducible exact H2_) | with_reducible exact H | (rw [hy246]; exact H) | exact H
      have Ny246 := aa.mk hy246
      clear hy246
      have H' := aa.mk H
      clear H
      go_wp2_with (first | ((with_reducible refine cH (b := .append) (xs := #[.tmp 19, .tmp 22]) rfl ?_); at_builtin; refine Kd.eb (Kd.int .i64) (w0 := w) w.heap.size rfl (.tmp 19) (.tmp 22) 22 3 (.int .i64 0) 8 rfl Tryz.underlying22 iY rfl (by decide) (by omega) u5 x5_1 ji5 [.int .i64 ji5] (fun _ => True) (fun _ => False) rfl rfl ?aP (fun _ hk => hk.elim) ?aF ?aO ?aB ?aS ?aL ?_; (case aP => exact rfl); (case aB => exact (by repeat (first | (with_reducible first | exact HB.out | apply ag | apply af | apply ah) | exact HB.out))); (case aF => exact (fun _ _ => trivial)); (case aO => exact (by (with_reducible repeat (first | apply Kd.aH | apply Kd.aG | apply Kd.aQ)); exact er.out)); (case aS => exact (aq (by repeat (first | (with_reducible first | exact HB.out | apply ag | apply af | apply ah) | exact HB.out)))); (case aL => have := LMc6.out; omega); intro v247 w7 ho hb hg hat; rw [← Ny246.out] at ho; have n0_ := aa.mk (hb); have n1_ := aa.mk (ho); clear HB; clear er; have HB := n0_; have FH := n1_; clear n0_ n1_; clear ho hb hg hat))
      go_roundg k1
      case measure => have := HK1.out; omega
      case rel => exact ⟨(y246), (wrap64 (x6_1 + 1)), (by first | rfl | (simp; done) | (simp [*]; done)), H', ⟨by have := HK1.out; omega⟩, ⟨by (with_reducible repeat (first | apply Kd.aH | apply Kd.aG | apply Kd.aQ)); exact FH.out⟩, ⟨by repeat (first | (with_reducible first | exact HB.out | apply ag | apply af | apply ah) | exact HB.out)⟩⟩
     ·rw [if_neg c6] at H
      exact absurd H (by simp)
    ·rw [if_neg c4] at H
     exact absurd H (by simp)
   ·rw [if_neg c3] at H
    have c3b0 : decide (x6_1 < (wrap64 ((wrap64 ((wrap64 ((wrap64 (2 * a0)) * a1)) + a0)) + a1))) = false := decide_eq_false c3
    clear c3
    obtain rfl := Option.some.inj H
    go_wp2
    go_ret
    exact ⟨_, by first | rfl | (simp [av, au] <;> rfl) | (simp [*, av, au] <;> rfl), by (with_reducible repeat (first | apply Kd.aH | apply Kd.aG | apply Kd.aQ)); exact er.out, by repeat (first | (with_reducible first | exact HB.out | apply ag | apply af | apply ah) | exact HB.out)⟩
end Go.Proofs.YtmjlmloomkodpaaGreatDoor.PA
namespace Go.Proofs.YtmjlmloomkodpaaGreatDoor.PA
open Go.RowKit Go.Proofs.ae.aw Go.Proofs.ae.aJ Go.Proofs.ae.aN
attribute [local go_sem] bo bm bC bB a6 aZ bn bj
set_option linter.unusedVariables false
set_option linter.unusedSimpArgs false
def bN.f (a0_0 : Int) (a0_1 : Int) (l0_2 : List Int) (l0_3 : List Int) : Option (Int × Int) := some (a0_0, a0_1)
set_option maxHeartbeats 8000000 in
set_option maxRecDepth 100000 in
theorem bN.calls (a0_0 : Int) (a0_1 : Int) (A0_2 : Option Addr) (c0_2 : Nat) (l0_2 : List Int) (A0_3 : Option Addr) (c0_3 : Nat) (l0_3 : List Int) (r1 : Int) (r2 : Int) (w : World) (ca : Kd.C (Kd.int .i64) w A0_2 l0_2.length l0_2) (bX : l0_2.length ≤ c0_2) (b0 : Kd.C (Kd.int .i64) w A0_3 l0_3.length l0_3) (bW : l0_3.length ≤ c0_3) (h : bN.f a0_0 a0_1 l0_2 l0_3 = some (r1, r2)) :
  Calls Tryz.prog 39 #[.agg #[.int .i64 a0_0, .int .i64 a0_1, .slice A0_2 l0_2.length c0_2, .slice A0_3 l0_3.length c0_3]] w fun e w' => e = .returned (.agg #[.int .i64 r1, .int .i64 r2]) ∧ Below w.heap.size w w' := by
 have hu28 := Tryz.underlying28
 have hu61 := Tryz.underlying61
 have cy := aa.mk ca
 have cD := aa.mk bX
 clear ca bX
 have cF := aa.mk b0
 have cK := aa.mk bW
 clear b0 bW
 have HB := aa.mk (Below.refl w.heap.size w)
 have H : (some (a0_0, a0_1)) = some (r1, r2) := h
 clear h
 simp only [Option.some.injEq, Prod.mk.injEq] at H
 obtain ⟨rfl, rfl⟩ := H
 go_enter Tryz.func39, Tryz.ntmps39
 go_wp2_with (first | ((with_reducible refine aV (N := 1) rfl ?_); refine aM ?hg (N := 1) ?hd (cs := #[.int .i64 a0_0, .int .i64 a0_1, .slice A0_2 l0_2.length c0_2, .slice A0_3 l0_3.length c0_3]) (t := 28) ?hr ?_; (case hd => rfl); (case hg => rfl); (case hr => first | (go_simp; done) | (go_simp; rfl)); intro lz hg w2 hbox hb; have n0_ := aa.mk (ar (by repeat (first | (with_reducible first | exact HB.out | apply ag | apply af | apply ah) | exact HB.out)) hb); have n1_ := aa.mk (hbox); have n2_ := aa.mk ((by rw [hg]; exact (aq (by repeat (first | (with_reducible first | exact HB.out | apply ag | apply af | apply ah) | exact HB.out))) : w.heap.size ≤ lz)); have n3_ := aa.mk ((by rw [hg]; exact (aq (by repeat (first | (with_reducible first | exact HB.out | apply ag | apply af | apply ah) | exact HB.out))) : w.heap.size ≤ lz)); clear HB; have HB := n0_; have kv := n1_; have GW101 := n2_; have xv := n3_; clear n0_ n1_ n2_ n3_; clear hb hbox hg) | ((with_reducible refine aV (N := 2) rfl ?_); refine aM ?hg (N := 2) ?hd (cs := #[.int .i64 0, .int .i64 0]) (t := 61) ?hr ?_; (case hd => rfl); (case hg => rfl); (case hr => first | (go_simp; done) | (go_simp; rfl)); intro pK hg w3 hbox hb; have n0_ := aa.mk (aD (g := lz) (o := .cells #[.int .i64 a0_0, .int .i64 a0_1, .slice A0_2 l0_2.length c0_2, .slice A0_3 l0_3.length c0_3] 28 (0, 0)) (by (with_reducible repeat (first | refine al ?_ _ | refine ao ?_ | refine an ?_ _)); exact kv.out) hb); have n1_ := aa.mk (ar (by repeat (first | (with_reducible first | exact HB.out | apply ag | apply af | apply ah | refine ak ?_ xv.out) | exact HB.out)) hb); have n2_ := aa.mk (hbox); have n3_ := aa.mk ((by rw [hg]; exact (aq (by repeat (first | (with_reducible first | exact HB.out | apply ag | apply af | apply ah | refine ak ?_ xv.out) | exact HB.out))) : w.heap.size ≤ pK)); have n4_ := aa.mk ((by rw [hg]; exact (aq (by repeat (first | (with_reducible first | exact HB.out | apply ag | apply af | apply ah | refine ak ?_ xv.out) | exact HB.out))) : w.heap.size ≤ pK)); have n5_ := aa.mk ((by rw [hg]; exact Nat.ne_of_lt (a7 (g := lz) (o := .cells #[.int .i64 a0_0, .int .i64 a0_1, .slice A0_2 l0_2.length c0_2, .slice A0_3 l0_3.length c0_3] 28 (0, 0)) (by (with_reducible repeat (first | refine al ?_ _ | refine ao ?_ | refine an ?_ _)); exact kv.out)) : lz ≠ pK)); have n6_ := aa.mk ((by rw [hg]; exact Nat.ne_of_gt (a7 (g := lz) (o := .cells #[.int .i64 a0_0, .int .i64 a0_1, .slice A0_2 l0_2.length c0_2, .slice A0_3 l0_3.length c0_3] 28 (0, 0)) (by (with_reducible repeat (first | refine al ?_ _ | refine ao ?_ | refine an ?_ _)); exact kv.out)) : pK ≠ lz)); clear kv; clear HB; have kv := n0_; have HB := n1_; have ur := n2_; have GW102 := n3_; have Gl := n4_; have yq := n5_; have yp := n6_; clear n0_ n1_ n2_ n3_ n4_ n5_ n6_; clear hb hbox hg; have hnb4 := yq.out; have hnc4 := yp.out; have sv : w3.cell? ⟨lz, 0, none⟩ = some (.int .i64 a0_0) := (ai kv.out 0).trans rfl; have su : w3.cell? ⟨lz, 1, none⟩ = some (.int .i64 a0_1) := (ai kv.out 1).trans rfl; have so : w3.cell? ⟨lz, 2, none⟩ = some (.slice A0_2 l0_2.length c0_2) := (ai kv.out 2).trans rfl; have sm : w3.cell? ⟨lz, 3, none⟩ = some (.slice A0_3 l0_3.length c0_3) := (ai kv.out 3).trans rfl; have rT := aj kv.out 0; have rS := aj kv.out 1; have rR := aj kv.out 2; have rQ := aj kv.out 3; have sk : w3.cell? ⟨pK, 0, none⟩ = some (.int .i64 0) := (ai ur.out 0).trans rfl; have sj : w3.cell? ⟨pK, 1, none⟩ = some (.int .i64 0) := (ai ur.out 1).trans rfl; have rP := aj ur.out 0; have rO := aj ur.out 1))
 refine bodyPost_ret (results_cell_row rfl _ _ pK 61 #[.int .i64 a0_0, .int .i64 a0_1] (0, 0) _ rfl (by (with_reducible repeat (first | refine al ?_ _ | refine ao ?_ | refine an ?_ _)); refine bF (cs := #[.int .i64 a0_0, .int .i64 0]) ?_ 1 _ rfl; (with_reducible repeat (first | refine al ?_ _ | refine ao ?_ | refine an ?_ _)); refine bF (cs := #[.int .i64 0, .int .i64 0]) ?_ 0 _ rfl; (with_reducible repeat (first | refine al ?_ _ | refine ao ?_ | refine an ?_ _)); exact ur.out) Tryz.underlying61 rfl (by kernel_rfl)) rfl ?_
 exact ⟨by first | rfl | (simp [av, au] <;> rfl) | (simp [*, av, au] <;> rfl), by repeat (first | (with_reducible first | exact HB.out | apply ag | apply af | apply ah | refine ak ?_ xv.out | refine ak ?_ Gl.out) | exact HB.out)⟩
end Go.Proofs.YtmjlmloomkodpaaGreatDoor.PA
namespace Go.Proofs.YtmjlmloomkodpaaGreatDoor.PA
open Go.RowKit Go.Proofs.ae.aw Go.Proofs.ae.aJ Go.Proofs.ae.aN
attribute [local go_sem] bo bm bC bB a6 aZ bn bj
set_option linter.unusedVariables false
set_option linter.unusedSimpArgs false
def bu.f (a0_0 : Int) (a0_1 : Int) : Option (Int) := some (wrap64 (a0_0 * (wrap64 (a0_1 + 1))))
set_option maxHeartbeats 8000000 in
set_option maxRecDepth 100000 in
theorem bu.calls (a0_0 : Int) (a0_1 : Int) (r : Int) (w : World) (h : bu.f a0_0 a0_1 = some r) :
  Calls Tryz.prog 69 #[.agg #[.int .i64 a0_0, .int .i64 a0_1]] w fun e w' => e = .returned (.int .i64 r) ∧ Below w.heap.size w w' := by
 have hu61 := Tryz.underlying61
 have HB := aa.mk (Below.refl w.heap.size w)
 have H : (some (wrap64 (a0_0 * (wrap64 (a0_1 + 1))))) = some r := h
 clear h
 obtain rfl := Option.some.inj H
 go_enter Tryz.func69, Tryz.ntmps69
 go_wp2_with (first | ((with_reducible refine aV (N := 1) rfl ?_); refine aM ?hg (N := 1) ?hd (cs := #[.int .i64 a0_0, .int .i64 a0_1]) (t := 61) ?hr ?_; (case hd => rfl); (case hg => rfl); (case hr => first | (go_simp; done) | (go_simp; rfl)); intro wY hg w2 hbox hb; have n0_ := aa.mk (ar (by repeat (first | (with_reducible first | exact HB.out | apply ag | apply af | apply ah) | exact HB.out)) hb); have n1_ := aa.mk (hbox); have n2_ := aa.mk ((by rw [hg]; exact (aq (by repeat (first | (with_reducible first | exact HB.out | apply ag | apply af | apply ah) | exact HB.out))) : w.heap.size ≤ wY)); have n3_ := aa.mk ((by rw [hg]; exact (aq (by repeat (first | (with_reducible first | exact HB.out | apply ag | apply af | apply ah) | exact HB.out))) : w.heap.size ≤ wY)); clear HB; have HB := n0_; have xy := n1_; have GW110 := n2_; have Gk := n3_; clear n0_ n1_ n2_ n3_; clear hb hbox hg; have lv : w2.cell? ⟨wY, 0, none⟩ = some (.int .i64 a0_0) := (ai xy.out 0).trans rfl; have lu : w2.cell? ⟨wY, 1, none⟩ = some (.int .i64 a0_1) := (ai xy.out 1).trans rfl; have lh := aj xy.out 0; have lg := aj xy.out 1))
 go_ret
 exact ⟨by first | rfl | (simp [av, au] <;> rfl) | (simp [*, av, au] <;> rfl), by repeat (first | (with_reducible first | exact HB.out | apply ag | apply af | apply ah | refine ak ?_ Gk.out) | exact HB.out)⟩
end Go.Proofs.YtmjlmloomkodpaaGreatDoor.PA
namespace Go.Proofs.YtmjlmloomkodpaaGreatDoor.PA
open Go.RowKit Go.Proofs.ae.aw Go.Proofs.ae.aJ Go.Proofs.ae.aN
attribute [local go_sem] bo bm bC bB a6 aZ bn bj
set_option linter.unusedVariables false
set_option linter.unusedSimpArgs false
def cA.f (a0_0 : Int) (a0_1 : Int) : Option (Int) := some (wrap64 (a0_1 * (wrap64 (a0_0 + 1))))
set_option maxHeartbeats 8000000 in
set_option maxRecDepth 100000 in
theorem cA.calls (a0_0 : Int) (a0_1 : Int) (r : Int) (w : World) (h : cA.f a0_0 a0_1 = some r) :
  Calls Tryz.prog 105 #[.agg #[.int .i64 a0_0, .int .i64 a0_1]] w fun e w' => e = .returned (.int .i64 r) ∧ Below w.heap.size w w' := by
 have hu61 := Tryz.underlying61
 have HB := aa.mk (Below.refl w.heap.size w)
 have H : (some (wrap64 (a0_1 * (wrap64 (a0_0 + 1))))) = some r := h
 clear h
 obtain rfl := Option.some.inj H
 go_enter Tryz.func105, Tryz.ntmps105
 go_wp2_with (first | ((with_reducible refine aV (N := 1) rfl ?_); refine aM ?hg (N := 1) ?hd (cs := #[.int .i64 a0_0, .int .i64 a0_1]) (t := 61) ?hr ?_; (case hd => rfl); (case hg => rfl); (case hr => first | (go_simp; done) | (go_simp; rfl)); intro wX hg w2 hbox hb; have n0_ := aa.mk (ar (by repeat (first | (with_reducible first | exact HB.out | apply ag | apply af | apply ah) | exact HB.out)) hb); have n1_ := aa.mk (hbox); have n2_ := aa.mk ((by rw [hg]; exact (aq (by repeat (first | (with_reducible first | exact HB.out | apply ag | apply af | apply ah) | exact HB.out))) : w.heap.size ≤ wX)); have n3_ := aa.mk ((by rw [hg]; exact (aq (by repeat (first | (with_reducible first | exact HB.out | apply ag | apply af | apply ah) | exact HB.out))) : w.heap.size ≤ wX)); clear HB; have HB := n0_; have xx := n1_; have GW111 := n2_; have Gj := n3_; clear n0_ n1_ n2_ n3_; clear hb hbox hg; have lv : w2.cell? ⟨wX, 0, none⟩ = some (.int .i64 a0_0) := (ai xx.out 0).trans rfl; have lu : w2.cell? ⟨wX, 1, none⟩ = some (.int .i64 a0_1) := (ai xx.out 1).trans rfl; have lh := aj xx.out 0; have lg := aj xx.out 1))
 go_ret
 exact ⟨by first | rfl | (simp [av, au] <;> rfl) | (simp [*, av, au] <;> rfl), by repeat (first | (with_reducible first | exact HB.out | apply ag | apply af | apply ah | refine ak ?_ Gj.out) | exact HB.out)⟩
end Go.Proofs.YtmjlmloomkodpaaGreatDoor.PA
namespace Go.Proofs.YtmjlmloomkodpaaGreatDoor.PA
open Go.RowKit Go.Proofs.ae.aw Go.Proofs.ae.aJ Go.Proofs.ae.aN
attribute [local go_sem] bo bm bC bB a6 aZ bn bj
set_option linter.unusedVariables false
set_option linter.unusedSimpArgs false
def bL.f (a0 : Int) (a1 : Int) (a2 : Int) : Option (Bool) := if a1 ≤ a0 then (some (decide (a0 ≤ a2))) else (some false)
set_option maxHeartbeats 8000000 in
set_option maxRecDepth 100000 in
theorem bL.calls (a0 : Int) (a1 : Int) (a2 : Int) (r : Bool) (w : World) (h : bL.f a0 a1 a2 = some r) :
  Calls Tryz.prog 96 #[.int .i64 a0, .int .i64 a1, .int .i64 a2] w fun e w' => e = .returned (.bool r) ∧ aK w w' := by
 have H : (if a1 ≤ a0 then (some (decide (a0 ≤ a2))) else (some false)) = some r := h
 clear h
 by_cases c4 : a1 ≤ a0
 ·rw [if_pos c4] at H
  have c4b0 : decide (a1 ≤ a0) = true := decide_eq_true c4
  clear c4
  obtain rfl := Option.some.inj H
  go_enter Tryz.func96, Tryz.ntmps96
  go_wp2
  go_ret
  exact ⟨by first | rfl | (simp; done) | (simp [*]; done), by repeat (first | exact aK.refl _ | apply aK.step)⟩
 ·rw [if_neg c4] at H
  have c4b0 : decide (a1 ≤ a0) = false := decide_eq_false c4
  clear c4
  obtain rfl := Option.some.inj H
  go_enter Tryz.func96, Tryz.ntmps96
  go_wp2
  go_ret
  exact ⟨by first | rfl | (simp; done) | (simp [*]; done), by repeat (first | exact aK.refl _ | apply aK.step)⟩
end Go.Proofs.YtmjlmloomkodpaaGreatDoor.PA
namespace Go.Proofs.YtmjlmloomkodpaaGreatDoor.PA
open Go.RowKit Go.Proofs.ae.aw Go.Proofs.ae.aJ Go.Proofs.ae.aN
attribute [local go_sem] bo bm bC bB a6 aZ bn bj
set_option linter.unusedVariables false
set_option linter.unusedSimpArgs false
def gp.f (a0 : Int) (a1 : Int) : Option (Bool) := (bL.f a0 1 4).bind fun t198 => (if t198 = true then ((bL.f a1 1 4).bind fun t199 => (some t199)) else (some false))
set_option maxHeartbeats 8000000 in
set_option maxRecDepth 100000 in
theorem gp.calls (a0 : Int) (a1 : Int) (r : Bool) (w : World) (h : gp.f a0 a1 = some r) :
  Calls Tryz.prog 93 #[.int .i64 a0, .int .i64 a1] w fun e w' => e = .returned (.bool r) ∧ aK w w' := by
 have H : ((bL.f a0 1 4).bind fun t198 => (if t198 = true then ((bL.f a1 1 4).bind fun t199 => (some t199)) else (some false))) = some r := h
 clear h
 replace H := Option.bind_eq_some_iff.mp H
 obtain ⟨t198, A30, H⟩ := H
 replace H : (if t198 = true then ((bL.f a1 1 4).bind fun t199 => (some t199)) else (some false)) = some r := H
 have A3 := aa.mk A30
 clear A30
 by_cases c4 : t198 = true
 ·subst c4
  have H1 : ((bL.f a1 1 4).bind fun t199 => (some t199)) = some r := by rw [if_pos rfl] at H; exact H
  clear H
  have H := H1
  clear H1
  replace H := Option.bind_eq_some_iff.mp H
  obtain ⟨t199, A50, H⟩ := H
  replace H : (some t199) = some r := H
  have A5 := aa.mk A50
  clear A50
  obtain rfl := Option.some.inj H
  go_enter Tryz.func93, Tryz.ntmps93
  go_wp2_with (first | ((with_reducible refine az (f := 96) rfl ?_); refine bI (some 6) rfl rfl Tryz.func96 (by kernel_rfl) rfl #[.int .i64 a0, .int .i64 1, .int .i64 4] rfl (by (try simp only [List.map_toArray, List.map_cons, List.map_nil]); first | done | rfl | (simp only [List.length_drop, List.length_take]; rfl)) ?_; (with_reducible refine (bL.calls a0 1 4 true _ A3.out).mono ?_); rintro e w' ⟨rfl, ⟨nd, rfl⟩⟩; refine ⟨_, rfl, ?_⟩) | (go_at_call 96; (with_reducible refine (bL.calls a1 1 4 t199 _ A5.out).mono ?_); rintro e w' ⟨rfl, ⟨nd, rfl⟩⟩))
  go_ret
  exact ⟨by first | rfl | (simp; done) | (simp [*]; done), by repeat (first | exact aK.refl _ | apply aK.step)⟩
 ·replace c4 := Bool.eq_false_iff.mpr c4
  subst c4
  have H1 : (some false) = some r := by rw [if_neg (show ¬ (false = true) by decide)] at H; exact H
  clear H
  have H := H1
  clear H1
  obtain rfl := Option.some.inj H
  go_enter Tryz.func93, Tryz.ntmps93
  go_wp2_with (first | ((with_reducible refine az (f := 96) rfl ?_); refine bI (some 6) rfl rfl Tryz.func96 (by kernel_rfl) rfl #[.int .i64 a0, .int .i64 1, .int .i64 4] rfl (by (try simp only [List.map_toArray, List.map_cons, List.map_nil]); first | done | rfl | (simp only [List.length_drop, List.length_take]; rfl)) ?_; (with_reducible refine (bL.calls a0 1 4 false _ A3.out).mono ?_); rintro e w' ⟨rfl, ⟨nd, rfl⟩⟩; refine ⟨_, rfl, ?_⟩))
  go_ret
  exact ⟨by first | rfl | (simp; done) | (simp [*]; done), by repeat (first | exact aK.refl _ | apply aK.step)⟩
end Go.Proofs.YtmjlmloomkodpaaGreatDoor.PA
namespace Go.Proofs.YtmjlmloomkodpaaGreatDoor.PA
open Go.RowKit Go.Proofs.ae.aw Go.Proofs.ae.aJ Go.Proofs.ae.aN
attribute [local go_sem] bo bm bC bB a6 aZ bn bj
set_option linter.unusedVariables false
set_option linter.unusedSimpArgs false
def cw.l0 : Nat → List Int → Int → Option (Bool)
 | 0, _, _ => none
 | k + 1, x0, x3 => if x3 < (x0.length : Int) then (if 0 ≤ x3 then (if 0 ≤ (wrap64 (x3 - 1)) then (if (wrap64 (x3 - 1)) < (x0.length : Int) then (if (rd x0 x3) ≤ (rd x0 (wrap64 (x3 - 1))) then (some false) else (cw.l0 k x0 (wrap64 (x3 + 1)))) else (none)) else (none)) else (none)) else (some true)
def cw.f (k : Nat) (l0 : List Int) : Option (Bool) := cw.l0 k l0 1
set_option maxHeartbeats 8000000 in
set_option maxRecDepth 100000 in
theorem cw.calls (k : Nat) (A0 : Option Addr) (c0 : Nat) (l0 : List Int) (r : Bool) (w : World) (hr0 : Kd.C (Kd.int .i64) w A0 l0.length l0) (hc0 : l0.length ≤ c0) (h : cw.f k l0 = some r) :
  Calls Tryz.prog 200 #[.slice A0 l0.length c0] w fun e w' => e = .returned (.bool r) ∧ aK w w' := by
 have HR0 := aa.mk hr0
 have HC0 := aa.mk hc0
 clear hr0 hc0
 have H : (cw.l0 k l0 1) = some r := h
 clear h
 have H' := aa.mk H
 clear H
 go_enter Tryz.func200, Tryz.ntmps200
 go_wp2
 repeat (go_quiet (fail); try go_wp2)
 go_loopg [3] k (fun kq v3 w' => ∃ (x3_1 : Int), v3 = .int .i64 x3_1 ∧ aa (cw.l0 kq l0 x3_1 = some r) ∧ aa (kq ≤ k) ∧ aK w w')
 case atStart => exact ⟨(1), (by first | rfl | (simp; done) | (simp [*]; done)), H', ⟨Nat.le_refl _⟩, by repeat (first | exact aK.refl _ | apply aK.step)⟩
 case round =>
  clear H'
  obtain ⟨x3_1, rfl, HA, HK1, ⟨m1, rfl⟩⟩ := hrel
  cases gk with
  | zero => exact absurd HA.out (by simp [cw.l0])
  | succ k1 =>
   have H := HA.out
   clear HA
   simp only [cw.l0] at H
   by_cases c2 : x3_1 < (l0.length : Int)
   ·rw [if_pos c2] at H
    have c2b0 : decide (x3_1 < (l0.length : Int)) = true := decide_eq_true c2
    clear c2
    by_cases c3 : 0 ≤ x3_1
    ·rw [if_pos c3] at H
     have c3b0 : decide (0 ≤ x3_1) = true := decide_eq_true c3
     clear c3
     obtain ⟨ji4, hji4⟩ : ∃ j_ : Int, (wrap64 (x3_1 - 1)) = j_ := ⟨_, rfl⟩
     replace H : (if 0 ≤ (ji4) then (if (ji4) < (l0.length : Int) then (if (rd l0 x3_1) ≤ (rd l0 (ji4)) then (some false) else (cw.l0 k1 l0 (wrap64 (x3_1 + 1)))) else (none)) else (none)) = some r := by first | (rw [hji4] at H; exact H) | (simp only [hji4] at H ⊢; exact H)
     have hji4w : (IntKind.i64.wrap (x3_1 - 1)) = ji4 := (a8 _).trans hji4
     by_cases c5 : 0 ≤ (ji4)
     ·rw [if_pos c5] at H
      have c5b0 : decide (0 ≤ (ji4)) = true := decide_eq_true c5
      clear c5
      by_cases c6 : (ji4) < (l0.length : Int)
      ·rw [if_pos c6] at H
       have c6b0 : decide ((ji4) < (l0.length : Int)) = true := decide_eq_true c6
       clear c6
       by_cases c7 : (rd l0 x3_1) ≤ (rd l0 (ji4))
       ·rw [if_pos c7] at H
        have c7b0 : decide ((rd l0 x3_1) ≤ (rd l0 (ji4))) = true := decide_eq_true c7
        clear c7
        obtain rfl := Option.some.inj H
        have p200 : 0 ≤ (x3_1 : Int) := of_decide_eq_true (by first | (with_reducible assumption) | assumption)
        have q200 : x3_1 < (l0.length : Int) := of_decide_eq_true (by first | (with_reducible assumption) | assumption)
        obtain ⟨ad200, e200, Bg⟩ := Kd.dv HR0.out x3_1 p200 q200
        cases e200
        replace p200 := eq_true p200
        replace q200 := eq_true q200
        have p201 : 0 ≤ ((ji4) : Int) := of_decide_eq_true (by first | (with_reducible assumption) | assumption)
        have q201 : (ji4) < (l0.length : Int) := of_decide_eq_true (by first | (with_reducible assumption) | assumption)
        obtain ⟨ad201, e201, Bf⟩ := Kd.dv HR0.out (ji4) p201 q201
        obtain rfl : ad200 = ad201 := (by injection e201)
        replace p201 := eq_true p201
        replace q201 := eq_true q201
        go_wp2
        repeat (go_quiet (fail); try go_wp2)
        go_ret
        exact ⟨by first | rfl | (simp; done) | (simp only [← hji4] <;> (first | rfl | simp)) | (simp [*]; done), by repeat (first | exact aK.refl _ | apply aK.step)⟩
       ·rw [if_neg c7] at H
        have c7b0 : decide ((rd l0 x3_1) ≤ (rd l0 (ji4))) = false := decide_eq_false c7
        clear c7
        have H' := aa.mk H
        clear H
        have p200 : 0 ≤ (x3_1 : Int) := of_decide_eq_true (by first | (with_reducible assumption) | assumption)
        have q200 : x3_1 < (l0.length : Int) := of_decide_eq_true (by first | (with_reducible assumption) | assumption)
        obtain ⟨ad200, e200, Bg⟩ := Kd.dv HR0.out x3_1 p200 q200
        cases e200
        replace p200 := eq_true p200
        replace q200 := eq_true q200
        have p201 : 0 ≤ ((ji4) : Int) := of_decide_eq_true (by first | (with_reducible assumption) | assumption)
        have q201 : (ji4) < (l0.length : Int) := of_decide_eq_true (by first | (with_reducible assumption) | assumption)
        obtain ⟨ad201, e201, Bf⟩ := Kd.dv HR0.out (ji4) p201 q201
        obtain rfl : ad200 = ad201 := (by injection e201)
        replace p201 := eq_true p201
        replace q201 := eq_true q201
        go_wp2
        repeat (go_quiet (fail); try go_wp2)
        go_roundg k1
        case measure => have := HK1.out; omega
        case rel => exact ⟨(wrap64 (x3_1 + 1)), (by first | rfl | (simp; done) | (simp [*]; done)), H', ⟨by have := HK1.out; omega⟩, by repeat (first | exact aK.refl _ | apply aK.step)⟩
      ·rw [if_neg c6] at H
       exact absurd H (by simp)
     ·rw [if_neg c5] at H
      exact absurd H (by simp)
    ·rw [if_neg c3] at H
     exact absurd H (by simp)
   ·rw [if_neg c2] at H
    have c2b0 : decide (x3_1 < (l0.length : Int)) = false := decide_eq_false c2
    clear c2
    obtain rfl := Option.some.inj H
    go_wp2
    repeat (go_quiet (fail); try go_wp2)
    go_ret
    exact ⟨by first | rfl | (simp; done) | (simp [*]; done), by repeat (first | exact aK.refl _ | apply aK.step)⟩
end Go.Proofs.YtmjlmloomkodpaaGreatDoor.PA
namespace Go.Proofs.YtmjlmloomkodpaaGreatDoor.PA
open Go.RowKit Go.Proofs.ae.aw Go.Proofs.ae.aJ Go.Proofs.ae.aN
attribute [local go_sem] bo bm bC bB a6 aZ bn bj
set_option linter.unusedVariables false
set_option linter.unusedSimpArgs false
def inB (lo hi x : Int) : Bool := decide (lo ≤ x) && decide (x ≤ hi)
def dp.f (l0 : List Int) (a1 : Int) (a2 : Int) : Option (Bool) := some (l0.all (inB a1 a2))
theorem bL.val (x lo hi : Int) : bL.f x lo hi = some (inB lo hi x) := by
 unfold bL.f inB
 by_cases h : lo ≤ x
 ·rw [if_pos h]; simp [h]
 ·rw [if_neg h]; simp [h]
set_option maxHeartbeats 1000000 in
theorem pV (x lo hi : Int) (b1 b2 : Nat) (W : World) (h1 : W.cell? ⟨b1, 0, none⟩ = some (.int .i64 lo)) (h2 : W.cell? ⟨b2, 0, none⟩ = some (.int .i64 hi)) :
  Calls Tryz.prog 217 #[.int .i64 x, .pointer (some ⟨b1, 0, none⟩), .pointer (some ⟨b2, 0, none⟩)] W fun e w' => e = .returned (.bool (!(inB lo hi x))) ∧ aK W w' := by
 have HV := aa.mk (bL.val x lo hi)
 generalize inB lo hi x = bb at HV
 go_enter Tryz.func217, Tryz.ntmps217
 go_wp2_with (go_at_call 96; (with_reducible refine (bL.calls x lo hi bb _ HV.out).mono ?_); rintro e w' ⟨rfl, ⟨nd, rfl⟩⟩)
 go_ret
 exact ⟨by first | rfl | (simp; done), by repeat (first | exact aK.refl _ | apply aK.step)⟩
theorem qF (p : Int → Bool) (l : List Int) (k : Nat) (h : k < l.length) : (l.take (k + 1)).any p = ((l.take k).any p || p (rd l k)) := by
 rw [List.take_succ_eq_append_getElem h, List.any_append]
 simp [rd, h]
set_option maxHeartbeats 1000000 in
theorem qI.calls (A0 : Option Addr) (c0 : Nat) (l0 : List Int) (g : Nat) (lb : Array Value) (p : Int → Bool) (w : World) (eg : ∀ args w, (callFunc g args).run Tryz.prog w = .ok (.enter g args) w)
  (hr0 : Kd.C (Kd.int .i64) w A0 l0.length l0) (hp : ∀ x W, Below w.heap.size w W → Calls Tryz.prog g (#[.int .i64 x] ++ lb) W fun e w' => e = .returned (.bool (p x)) ∧ aK W w') :
  Calls Tryz.prog 221 #[.slice A0 l0.length c0, .func (.func g) #[] lb] w fun e w' => ∃ i : Int, e = .returned (.int .i64 i) ∧ (decide (0 ≤ i) = l0.any p) ∧ aK w w' := by
 have HR0 := aa.mk hr0
 have HP := aa.mk hp
 clear hr0 hp
 have hbig : l0.length ≤ 9223372036854775807 := HR0.out.2.1
 go_enter Tryz.func221, Tryz.ntmps221
 go_wp2
 go_loopg [5, 8] l0.length (fun gg _ s8 wr => ∃ kk : Nat, kk ≤ l0.length ∧ l0.length - kk ≤ gg ∧ s8 = .int .i64 kk ∧ aK w wr ∧ aa ((l0.take kk).any p = false))
 case atStart => exact ⟨0, Nat.zero_le _, by omega, rfl, aK.refl _, ⟨rfl⟩⟩
 case round =>
  obtain ⟨kk, hkk, hg, rfl, ⟨nd, rfl⟩, HA⟩ := hrel
  by_cases hlt : kk < l0.length
  ·have hltz : (kk : Int) < (l0.length : Int) := by omega
   obtain ⟨ad, rfl, hcell⟩ := Kd.dv HR0.out kk (by omega) hltz
   have hcell' : w.cell? (ad.add kk) = some (.int .i64 (rd l0 kk)) := hcell
   clear hcell
   have HS := aa.mk (qF p l0 kk hlt)
   generalize rd l0 kk = y at hcell' HS
   have hcall := fun W hB => HP.out y W hB
   cases hq : p y with
   | true =>
    have HS' := aa.mk (HS.out.trans (by rw [hq, Bool.or_true]))
    have HQ := aa.mk hq
    clear hq HS
    have HCL := aa.mk hcall
    clear hcall
    go_wp2_with (go_at_fn g; refine (HCL.out _ (by repeat (first | exact Below.refl _ _ | apply af | apply ah))).mono ?_; rw [HQ.out]; rintro e w' ⟨rfl, ⟨nd2, rfl⟩⟩)
    go_ret
    exact ⟨_, rfl, by
     have h1 : l0.any p = true := by
      have h2 : (l0.take (kk + 1)).any p = true := HS'.out
      rw [List.any_eq_true] at h2 ⊢
      obtain ⟨z, hz, hz2⟩ := h2
      exact ⟨z, List.mem_of_mem_take hz, hz2⟩
     rw [h1]; simp, by repeat (first | exact aK.refl _ | apply aK.step)⟩
   | false =>
    have HS' := aa.mk (HS.out.trans (by first | rw [hq, HA.out, Bool.or_false] | rw [hq, HA.out] | (rw [hq, HA.out]; rfl)))
    have HQ := aa.mk hq
    clear hq HS
    have HCL := aa.mk hcall
    clear hcall
    go_wp2_with (go_at_fn g; refine (HCL.out _ (by repeat (first | exact Below.refl _ _ | apply af | apply ah))).mono ?_; rw [HQ.out]; rintro e w' ⟨rfl, ⟨nd2, rfl⟩⟩)
    go_roundg (l0.length - (kk + 1))
    case measure => omega
    case rel => exact ⟨kk + 1, by omega, by omega, by go_num, by repeat (first | exact aK.refl _ | apply aK.step), HS'⟩
  ·have hltz : ¬ (kk : Int) < (l0.length : Int) := by omega
   have hke : kk = l0.length := by omega
   have HA' := aa.mk (show l0.any p = false by have := HA.out; rw [hke, List.take_length] at this; exact this)
   clear hke
   go_wp2
   go_ret
   exact ⟨_, rfl, by rw [HA'.out]; rfl, by repeat (first | exact aK.refl _ | apply aK.step)⟩
set_option maxHeartbeats 1000000 in
theorem n5.calls (A0 : Option Addr) (c0 : Nat) (l0 : List Int) (g : Nat) (lb : Array Value) (p : Int → Bool) (w : World) (eg : ∀ args w, (callFunc g args).run Tryz.prog w = .ok (.enter g args) w)
  (hr0 : Kd.C (Kd.int .i64) w A0 l0.length l0) (hp : ∀ x W, Below w.heap.size w W → Calls Tryz.prog g (#[.int .i64 x] ++ lb) W fun e w' => e = .returned (.bool (p x)) ∧ aK W w') :
  Calls Tryz.prog 216 #[.slice A0 l0.length c0, .func (.func g) #[] lb] w fun e w' => e = .returned (.bool (l0.any p)) ∧ aK w w' := by
 have HC := aa.mk (qI.calls A0 c0 l0 g lb p w eg hr0 hp)
 clear hr0 hp
 go_enter Tryz.func216, Tryz.ntmps216
 go_wp2_with (go_at_call 221; refine HC.out.mono ?_; rintro e w' ⟨i, rfl, hi, ⟨nd, rfl⟩⟩; have HI := aa.mk hi; clear hi)
 go_ret
 exact ⟨by first | exact congrArg (fun b => Ending.returned (Value.bool b)) HI.out | (simp; exact HI.out), by repeat (first | exact aK.refl _ | apply aK.step)⟩
set_option maxHeartbeats 1000000 in
theorem dp.calls (A0 : Option Addr) (c0 : Nat) (l0 : List Int) (a1 : Int) (a2 : Int) (r : Bool) (w : World) (hr0 : Kd.C (Kd.int .i64) w A0 l0.length l0) (hc0 : l0.length ≤ c0) (h : dp.f l0 a1 a2 = some r) :
  Calls Tryz.prog 201 #[.slice A0 l0.length c0, .int .i64 a1, .int .i64 a2] w fun e w' => e = .returned (.bool r) ∧ Below w.heap.size w w' := by
 have H := aa.mk (Option.some.inj h)
 clear h
 have HR := aa.mk hr0
 clear hr0
 have HC := fun W hb hp => n5.calls A0 c0 l0 217 #[.pointer (some ⟨w.heap.size, 0, none⟩), .pointer (some ⟨w.heap.size + 1, 0, none⟩)] (fun x => !(inB a1 a2 x)) W (enters_of Tryz.func217 (by kernel_rfl) rfl) (Kd.ax HR.out hb) hp
 have HC' := aa.mk HC
 clear HC
 go_enter Tryz.func201, Tryz.ntmps201
 go_wp2_with (go_at_call 216; refine (HC'.out _ ?hb ?hp).mono ?_; (case hb => exact ag (ag (Below.refl _ _) _) _); (case hp => intro x W hB; exact pV x a1 a2 _ _ W ((hB.cell (by simp; first | done | omega)).trans (by simp)) ((hB.cell (by simp; first | done | omega)).trans (by simp))); rintro e w' ⟨rfl, ⟨nd, rfl⟩⟩)
 go_ret
 exact ⟨by rw [← H.out]; simp [List.all_eq_not_any_not], by repeat (first | exact Below.refl _ _ | apply ag | apply af | apply ah)⟩
end Go.Proofs.YtmjlmloomkodpaaGreatDoor.PA
namespace Go.Proofs.YtmjlmloomkodpaaGreatDoor.PA
open Go.RowKit Go.Proofs.ae.aw Go.Proofs.ae.aJ Go.Proofs.ae.aN
attribute [local go_sem] bo bm bC bB a6 aZ bn bj
set_option linter.unusedVariables false
set_option linter.unusedSimpArgs false
def rising : List Int → Bool
 | a :: b :: t => decide (a < b) && rising (b :: t)
 | _ => true
def ig (w h : Int) (A U : List Int) : Bool := inB 1 4 w && (inB 1 4 h && (rising A && (rising U && (A.all (inB 0 (w * (h + 1) - 1)) && U.all (inB 0 (h * (w + 1) - 1))))))
theorem iV {n : Int} (h1 : -9223372036854775808 ≤ n) (h2 : n ≤ 9223372036854775807) : wrap64 n = n := by unfold wrap64; omega
theorem gq (l : List Int) (i : Nat) (h : i < l.length) : l.drop i = rd l i :: l.drop (i + 1) := by
 rw [List.drop_eq_getElem_cons h]
 simp [rd, h]
theorem tM (l : List Int) (hl : l.length ≤ 9223372036854775807) (d : Nat) : ∀ (k i : Nat), 1 ≤ i → l.length - i = d → d < k → cw.l0 k l (i : Int) = some (rising (l.drop (i - 1))) := by
 induction d with
 | zero =>
  intro k i h1 hd hk
  obtain ⟨k, rfl⟩ : ∃ m, k = m + 1 := ⟨k - 1, by omega⟩
  simp only [cw.l0]
  rw [if_neg (by omega)]
  by_cases h : i = l.length
  ·rw [gq l (i - 1) (by omega), show i - 1 + 1 = l.length by omega, List.drop_length]
   rfl
  ·rw [List.drop_eq_nil_of_le (by omega)]
   rfl
 | succ d ih =>
  intro k i h1 hd hk
  obtain ⟨k, rfl⟩ : ∃ m, k = m + 1 := ⟨k - 1, by omega⟩
  simp only [cw.l0]
  rw [iV (by omega) (by omega), iV (by omega) (by omega), if_pos (by omega), if_pos (by omega), if_pos (by omega), if_pos (by omega)]
  rw [gq l (i - 1) (by omega), show i - 1 + 1 = i by omega, gq l i (by omega)]
  simp only [rising]
  rw [show ((i : Int) - 1) = ((i - 1 : Nat) : Int) by omega]
  by_cases h : rd l (i : Int) ≤ rd l ((i - 1 : Nat) : Int)
  ·rw [if_pos h]
   simp [show ¬ rd l ((i - 1 : Nat) : Int) < rd l (i : Int) by omega]
  ·rw [if_neg h, show (i : Int) + 1 = ((i + 1 : Nat) : Int) by omega, ih k (i + 1) (by omega) (by omega) (by omega), show i + 1 - 1 = i by omega, gq l i (by omega)]
   simp [show rd l ((i - 1 : Nat) : Int) < rd l (i : Int) by omega]
theorem cw.val (l : List Int) (hl : l.length ≤ 9223372036854775807) : cw.f (l.length + 1) l = some (rising l) := by
 unfold cw.f
 have := tM l hl (l.length - 1) (l.length + 1) 1 (by omega) rfl (by omega)
 simpa using this
theorem gp.val (w h : Int) : gp.f w h = some (inB 1 4 w && inB 1 4 h) := by
 unfold gp.f
 rw [bL.val, bL.val]
 cases inB 1 4 w <;> rfl
theorem kA {lo hi x : Int} : inB lo hi x = true ↔ lo ≤ x ∧ x ≤ hi := by simp [inB]
theorem AN {w h : Int} (hw : inB 1 4 w = true) (hh : inB 1 4 h = true) : bu.f w h = some (w * (h + 1)) ∧ cA.f w h = some (h * (w + 1)) ∧ 2 ≤ w * (h + 1) ∧ w * (h + 1) ≤ 20 ∧ 2 ≤ h * (w + 1) ∧ h * (w + 1) ≤ 20 := by
 rw [kA] at hw hh
 have e1 : w = 1 ∨ w = 2 ∨ w = 3 ∨ w = 4 := by omega
 have e2 : h = 1 ∨ h = 2 ∨ h = 3 ∨ h = 4 := by omega
 rcases e1 with rfl | rfl | rfl | rfl <;> rcases e2 with rfl | rfl | rfl | rfl <;> decide +kernel
def fl.f (a0_0 : Int) (a0_1 : Int) (l0_2 : List Int) (l0_3 : List Int) : Option (Bool) := some (ig a0_0 a0_1 l0_2 l0_3)
set_option maxHeartbeats 8000000 in
theorem fl.calls (a0_0 : Int) (a0_1 : Int) (A0_2 : Option Addr) (c0_2 : Nat) (l0_2 : List Int) (A0_3 : Option Addr) (c0_3 : Nat) (l0_3 : List Int) (r : Bool) (w : World) (ca : Kd.C (Kd.int .i64) w A0_2 l0_2.length l0_2) (bX : l0_2.length ≤ c0_2) (b0 : Kd.C (Kd.int .i64) w A0_3 l0_3.length l0_3) (bW : l0_3.length ≤ c0_3) (h : fl.f a0_0 a0_1 l0_2 l0_3 = some r) :
  Calls Tryz.prog 165 #[.agg #[.int .i64 a0_0, .int .i64 a0_1, .slice A0_2 l0_2.length c0_2, .slice A0_3 l0_3.length c0_3]] w fun e w' => e = .returned (.bool r) ∧ Below w.heap.size w w' := by
 have H := aa.mk (Option.some.inj h)
 clear h
 have HR2 := aa.mk ca
 have HR3 := aa.mk b0
 clear ca b0
 have HG := aa.mk (gp.val a0_0 a0_1)
 have HB := aa.mk (Below.refl w.heap.size w)
 have HV2 := aa.mk (cw.val l0_2 HR2.out.2.1)
 have HV3 := aa.mk (cw.val l0_3 HR3.out.2.1)
 have HL := aa.mk (@AN a0_0 a0_1)
 have HF := aa.mk (show ig a0_0 a0_1 l0_2 l0_3 = (inB 1 4 a0_0 && (inB 1 4 a0_1 && (rising l0_2 && (rising l0_3 && (l0_2.all (inB 0 (a0_0 * (a0_1 + 1) - 1)) && l0_3.all (inB 0 (a0_1 * (a0_0 + 1) - 1))))))) from rfl)
 generalize rising l0_2 = r2 at HV2 HF
 generalize rising l0_3 = r3 at HV3 HF
 generalize hb4 : l0_2.all (inB 0 (a0_0 * (a0_1 + 1) - 1)) = r4 at HF
 generalize hb5 : l0_3.all (inB 0 (a0_1 * (a0_0 + 1) - 1)) = r5 at HF
 have H4 := aa.mk (show dp.f l0_2 0 (a0_0 * (a0_1 + 1) - 1) = some r4 by unfold dp.f; rw [hb4])
 have H5 := aa.mk (show dp.f l0_3 0 (a0_1 * (a0_0 + 1) - 1) = some r5 by unfold dp.f; rw [hb5])
 clear hb4 hb5
 generalize hg : (inB 1 4 a0_0 && inB 1 4 a0_1) = rg at HG
 have HG2 := aa.mk hg
 clear hg
 have go : ∀ m1 m2, (rg = true → bu.f a0_0 a0_1 = some m1 ∧ cA.f a0_0 a0_1 = some m2 ∧ 2 ≤ m1 ∧ m1 ≤ 20 ∧ 2 ≤ m2 ∧ m2 ≤ 20 ∧ dp.f l0_2 0 (m1 - 1) = some r4 ∧ dp.f l0_3 0 (m2 - 1) = some r5) → (rg && (r2 && (r3 && (r4 && r5)))) = r →
   Calls Tryz.prog 165 #[.agg #[.int .i64 a0_0, .int .i64 a0_1, .slice A0_2 l0_2.length c0_2, .slice A0_3 l0_3.length c0_3]] w fun e w' => e = .returned (.bool r) ∧ Below w.heap.size w w' := by
  clear H HL HF HG2 H4 H5
  intro m1 m2 hm hr
  have hu28 := Tryz.underlying28
  have HM := aa.mk hm
  clear hm
  have HRR := aa.mk hr
  clear hr
  have HWK : ∀ rv : Bool, rv = r → (∀ L1 : rg = true → bu.f a0_0 a0_1 = some m1 ∧ cA.f a0_0 a0_1 = some m2 ∧ 2 ≤ m1 ∧ m1 ≤ 20 ∧ 2 ≤ m2 ∧ m2 ≤ 20 ∧ dp.f l0_2 0 (m1 - 1) = some r4 ∧ dp.f l0_3 0 (m2 - 1) = some r5, True) → True := fun _ _ _ => trivial
  clear HWK
  cases rg
  case' true =>
   obtain ⟨g1, g2, g3, g4, g5, g6, g7, g8⟩ := HM.out rfl
   have L1 := aa.mk g1
   have L2 := aa.mk g2
   have A4 := aa.mk g7
   have A5 := aa.mk g8
   clear g1 g2 g7 g8
   have w1 : IntKind.i64.wrap (m1 - 1) = m1 - 1 := IntWalk.i64_in _ (by omega)
   have w2 : IntKind.i64.wrap (m2 - 1) = m2 - 1 := IntWalk.i64_in _ (by omega)
   clear g3 g4 g5 g6
   cases r2
   case' true =>
    cases r3
    case' true =>
     cases r4
     case' true => cases r5
  all_goals
   clear HM
   have hr : _ = r := HRR.out
   simp only [Bool.and_true, Bool.and_false, Bool.true_and, Bool.false_and] at hr
   subst hr
   clear HRR
   go_enter Tryz.func165, Tryz.ntmps165
   go_wp2
   obtain ⟨W, hW⟩ : ∃ W : World, W = w.alloc (.cells #[.int .i64 a0_0, .int .i64 a0_1, .slice A0_2 l0_2.length c0_2, .slice A0_3 l0_3.length c0_3] 28) := ⟨_, rfl⟩
   have c0 : W.cell? ⟨w.heap.size, 0, none⟩ = some (.int .i64 a0_0) := by rw [hW]; simp
   have c1 : W.cell? ⟨w.heap.size, 1, none⟩ = some (.int .i64 a0_1) := by rw [hW]; simp
   have c2 : W.cell? ⟨w.heap.size, 2, none⟩ = some (.slice A0_2 l0_2.length c0_2) := by rw [hW]; simp
   have c3 : W.cell? ⟨w.heap.size, 3, none⟩ = some (.slice A0_3 l0_3.length c0_3) := by rw [hW]; simp
   have HBW := aa.mk (show Below w.heap.size w W by rw [hW]; exact ag (Below.refl _ _) _)
   rw [← hW]
   clear hW
   have d0 := fun p => aY.cell c0 p
   have d1 := fun p => aY.cell c1 p
   have d2 := fun p => aY.cell c2 p
   have d3 := fun p => aY.cell c3 p
   clear c0 c1 c2 c3
   refine dz (by kernel_rfl) (by kernel_rfl) ?_
   repeat (go_big_quiet_step (first
    | (go_at_call 93; exact aY.xK (gp.calls a0_0 a0_1 _ _ HG.out))
    | (go_at_call 200; first | (with_reducible exact aY.xK (cw.calls _ A0_2 c0_2 l0_2 _ _ (dR HR2.out HBW.out _) bX HV2.out)) | (with_reducible exact aY.xK (cw.calls _ A0_3 c0_3 l0_3 _ _ (dR HR3.out HBW.out _) bW HV3.out)))
    | (go_at_call 39; exact aY.ret (bN.calls a0_0 a0_1 A0_2 c0_2 l0_2 A0_3 c0_3 l0_3 _ _ _ (dR HR2.out HBW.out _) bX (dR HR3.out HBW.out _) bW rfl))
    | (go_at_call 69; exact aY.ret (bu.calls a0_0 a0_1 _ _ L1.out))
    | (go_at_call 105; exact aY.ret (cA.calls a0_0 a0_1 _ _ L2.out))
    | (go_at_call 201; first | (with_reducible exact aY.ret (dp.calls A0_2 c0_2 l0_2 _ _ _ _ (dR HR2.out HBW.out _) bX A4.out)) | (with_reducible exact aY.ret (dp.calls A0_3 c0_3 l0_3 _ _ _ _ (dR HR3.out HBW.out _) bW A5.out)))))
   refine wpQuiet_nil ?_
   rintro w' ⟨p, rfl⟩
   go_wp2
   go_ret
   exact ⟨rfl, HBW.out.trans (p.h.mono HBW.out.size)⟩
 refine go (a0_0 * (a0_1 + 1)) (a0_1 * (a0_0 + 1)) (fun e => ?_) ?_
 ·have e2 := HG2.out.trans e
  rw [Bool.and_eq_true] at e2
  obtain ⟨e3, e4⟩ := e2
  obtain ⟨h1, h2, h3, h4, h5, h6⟩ := HL.out e3 e4
  exact ⟨h1, h2, h3, h4, h5, h6, H4.out, H5.out⟩
 ·rw [← H.out, HF.out, ← HG2.out, Bool.and_assoc]
end Go.Proofs.YtmjlmloomkodpaaGreatDoor.PA
namespace Go.Proofs.YtmjlmloomkodpaaGreatDoor.PA
open Go.RowKit Go.Proofs.ae.aw Go.Proofs.ae.aJ Go.Proofs.ae.aN
attribute [local go_sem] bo bm bC bB a6 aZ bn bj
set_option linter.unusedVariables false
set_option linter.unusedSimpArgs false
def ic : List Int → Nat → Int → List Int
 | [], 0, c => [c]
 | [], _ + 1, _ => []
 | _ :: _, 0, c => [c]
 | b :: t, n + 1, c => ic t n (Go.bits .or .i64 c b) ++ ic t (n + 1) c
theorem xV (l : List Int) (c : Int) : ic l 0 c = [c] := by cases l <;> rfl
theorem xW (l : List Int) (k n : Nat) (c : Int) (h : k < l.length) : ic (l.drop k) (n + 1) c = ic (l.drop (k + 1)) n (Go.bits .or .i64 c (rd l k)) ++ ic (l.drop (k + 1)) (n + 1) c := by
 rw [gq l k h]
 rfl
theorem tH {w W W1 : World} {g : Nat} {v v1 : Value} (h : cX w W g v.ownBlock) (hv : v1.ownBlock = v.ownBlock ∨ ∃ b, v1.ownBlock = some b ∧ w.heap.size ≤ b) (k : cX W W1 g v1.ownBlock) : cX w W1 g v.ownBlock :=
 h.trans k hv
set_option maxHeartbeats 4000000 in
set_option maxRecDepth 100000 in
theorem qv (A : Option Addr) (cp : Nat) (m : Nat) (c : Int) (g : Nat) (v : Value) (xs : List Int) (base : Nat) (w0 w : World)
  (hB : Below base w0 w) (hb : base ≤ w.heap.size) (hg : base ≤ g) (hc : w.heap[g]? = some (.cells #[v] 22 (0, 0))) (hv : Kd.R (Kd.int .i64) 3 w base (fun _ => True) v xs) (hlen : xs.length < 17592186044416) :
  Calls Tryz.prog 169 #[.slice A m cp, .int .i64 0, .int .i64 c, .pointer (some ⟨g, 0, none⟩)] w fun e w' => e = .returned (.tuple #[]) ∧ ∃ v' : Value, w'.heap[g]? = some (.cells #[v'] 22 (0, 0)) ∧ Kd.R (Kd.int .i64) 3 w' base (fun _ => True) v' (xs ++ [c]) ∧ Below base w0 w' ∧ cX w w' g v.ownBlock ∧ (v'.ownBlock = v.ownBlock ∨ ∃ b, v'.ownBlock = some b ∧ w.heap.size ≤ b) := by
 obtain ⟨Av, cv, rfl⟩ := Kd.bE hv
 have hcell : w.cell? ⟨g, 0, none⟩ = some (.slice Av xs.length cv) := (ai hc 0).trans rfl
 have hfr : w.frozen? ⟨g, 0, none⟩ = false := aj hc 0
 have HB := aa.mk hB
 have HV := aa.mk hv
 have HC := aa.mk hc
 have HNE := aa.mk (Kd.jF hv hc (by decide))
 clear hB hv hc
 have hglt : g < w.heap.size := a7 HC.out
 have HL := aa.mk hlen
 clear hlen
 go_enter Tryz.func169, Tryz.ntmps169
 go_wp2_with (first | ((with_reducible refine cH (b := .append) (xs := #[.tmp 15, .tmp 17]) rfl ?_); at_builtin; refine Kd.eb (Kd.int .i64) (w0 := w0) base rfl (.tmp 15) (.tmp 17) 22 3 (.int .i64 0) 8 rfl Tryz.underlying22 iY rfl (by decide) (by omega) (.slice Av xs.length cv) xs c [.int .i64 c] (fun _ => True) (fun _ => False) rfl rfl ?aP (fun _ hk => hk.elim) ?aF ?aO ?aB ?aS ?aL ?_; (case aP => exact rfl); (case aB => exact HB.out); (case aF => exact (fun _ _ => trivial)); (case aO => exact HV.out); (case aS => exact hb); (case aL => have := HL.out; omega); intro v1 w1 ho hb1 hgr hat; obtain ⟨A1, c1, hv1⟩ := Kd.bE ho; rw [List.length_append, List.length_singleton] at hv1; subst hv1; have HO1 := aa.mk ho; have HB1 := aa.mk hb1; have HAT := aa.mk hat; have HK1 := aa.mk (cX.ka hgr g); have HC1 := aa.mk (eM HC.out hgr HNE.out); have zf : w1.cell? ⟨g, 0, none⟩ = some (.slice Av xs.length cv) := (ai HC1.out 0).trans rfl; have hfr1 : w1.frozen? ⟨g, 0, none⟩ = false := aj HC1.out 0; clear ho hb1 hat hgr hcell hfr))
 refine bodyPost_ret (v := .tuple #[]) (by simp [results, Tryz.results169, go_sem]) rfl ⟨rfl, _, bF HC1.out 0 _ rfl, ?_, ?_, ?_, HAT.out⟩
 ·exact Kd.kn HO1.out HC1.out (by decide) 0 _
 ·exact (HB1.out).setCell hg _
 ·exact cX.Ar HK1.out 0 _
theorem zA {base : Nat} {w0 w wr : World} (h : Below base w0 wr) (hb : base ≤ w.heap.size) (hk : w.heap.size ≤ wr.heap.size) : base ≤ wr.heap.size := Nat.le_trans hb hk
theorem zB {w wr : World} {v v1 v2 : Value} (h : v1.ownBlock = v.ownBlock ∨ ∃ b, v1.ownBlock = some b ∧ w.heap.size ≤ b) (k : v2.ownBlock = v1.ownBlock ∨ ∃ b, v2.ownBlock = some b ∧ wr.heap.size ≤ b) (hs : w.heap.size ≤ wr.heap.size) : v2.ownBlock = v.ownBlock ∨ ∃ b, v2.ownBlock = some b ∧ w.heap.size ≤ b := by
 rcases k with k | ⟨b, k, hb⟩
 ·rw [k]; exact h
 ·exact .inr ⟨b, k, Nat.le_trans hs hb⟩
theorem Ck {g : Nat} {w : World} {own : Option Nat} (ad : Addr) (l : List Int) (cp m : Nat) (hm : m ≤ l.length) (hc : l.length ≤ cp) (hl : ∀ W, cX w W g own → Kd.C (Kd.int .i64) W (some ad) l.length l) :
  ∃ A2 c2, (∀ W : World, (Instr.slice 22 (.slice (some ad) l.length cp) (some (.int .i64 (m : Int))) none none).run Tryz.prog W = .ok (.slice A2 (l.drop m).length c2) W) ∧ (∀ W, cX w W g own → Kd.C (Kd.int .i64) W A2 (l.drop m).length (l.drop m)) ∧ (l.drop m).length ≤ c2 := by
 obtain ⟨i0, hi, hzz⟩ := Option.map_eq_some_iff.1 iY
 simp only [Prod.mk.injEq] at hzz
 refine ⟨_, cp - m, fun W => ?_, fun W k => Kd.Eg (hl W k) hm hc, by rw [List.length_drop]; omega⟩
 have h := ud (P := Tryz.prog) 22 3 .i64 Tryz.underlying22 hi 1 hzz.2.1 (some ad) l.length cp (m : Int) (by omega) (by omega) W
 rw [h, List.length_drop]
 rfl
set_option maxHeartbeats 8000000 in
set_option maxRecDepth 100000 in
theorem mf.calls (n : Nat) : ∀ (A : Option Addr) (cp : Nat) (l : List Int) (c : Int) (g : Nat) (v : Value) (xs : List Int) (base : Nat) (w0 w : World)
  (hB : Below base w0 w) (hb : base ≤ w.heap.size) (hg : base ≤ g) (hc : w.heap[g]? = some (.cells #[v] 22 (0, 0))) (hv : Kd.R (Kd.int .i64) 3 w base (fun _ => True) v xs)
  (hl : ∀ W, cX w W g v.ownBlock → Kd.C (Kd.int .i64) W A l.length l) (hlc : l.length ≤ cp) (hlen : (xs ++ ic l n c).length ≤ 17592186044416) (hnb : n ≤ 1000),
  Calls Tryz.prog 169 #[.slice A l.length cp, .int .i64 (n : Int), .int .i64 c, .pointer (some ⟨g, 0, none⟩)] w fun e w' => e = .returned (.tuple #[]) ∧ ∃ v' : Value, w'.heap[g]? = some (.cells #[v'] 22 (0, 0)) ∧ Kd.R (Kd.int .i64) 3 w' base (fun _ => True) v' (xs ++ ic l n c) ∧ Below base w0 w' ∧ cX w w' g v.ownBlock ∧ (v'.ownBlock = v.ownBlock ∨ ∃ b, v'.ownBlock = some b ∧ w.heap.size ≤ b) := by
 induction n with
 | zero =>
  intro A cp l c g v xs base w0 w hB hb hg hc hv hl hlc hlen hnb
  rw [xV] at hlen ⊢
  exact qv A cp l.length c g v xs base w0 w hB hb hg hc hv (by simp at hlen; omega)
 | succ n ih =>
  intro A cp l c g v xs base w0 w hB hb hg hc hv hl hlc hlen hnb
  have hln : l.length ≤ 9223372036854775807 := (hl w (cX.refl _ _ _)).2.1
  have IH := aa.mk ih
  have HL := aa.mk hl
  have HB := aa.mk hB
  have HV := aa.mk hv
  have HC := aa.mk hc
  have HLEN := aa.mk hlen
  have HSZ := aa.mk (a7 hc)
  clear ih hl hB hv hc hlen
  have hnb0 : (n : Int) ≤ 1000 := by omega
  have hz : ((n : Int) + 1 == 0) = false := by rw [beq_eq_false_iff_ne]; omega
  rw [show ((n + 1 : Nat) : Int) = (n : Int) + 1 from rfl]
  go_enter Tryz.func169, Tryz.ntmps169
  go_wp2
  go_loopg [8, 9, 22] l.length (fun gg _ _ s22 wr => ∃ (kk : Nat) (ys : List Int) (v1 : Value), kk ≤ l.length ∧ l.length - kk ≤ gg ∧ s22 = .int .i64 (kk : Int) ∧ aa (wr.heap[g]? = some (.cells #[v1] 22 (0, 0))) ∧ aa (Kd.R (Kd.int .i64) 3 wr base (fun _ => True) v1 ys) ∧ aa (Below base w0 wr) ∧ aa (cX w wr g v.ownBlock) ∧ aa (v1.ownBlock = v.ownBlock ∨ ∃ b, v1.ownBlock = some b ∧ w.heap.size ≤ b) ∧ aa (ys ++ ic (l.drop kk) (n + 1) c = xs ++ ic l (n + 1) c))
  case atStart => exact ⟨0, xs, v, Nat.zero_le _, by omega, rfl, HC, HV, HB, ⟨cX.refl _ _ _⟩, ⟨.inl rfl⟩, ⟨by rw [List.drop_zero]⟩⟩
  case round =>
   clear HC HV HB
   obtain ⟨kk, ys, v1, hkk, hgk, rfl, HC, HV, HB, HK, HAT, HE⟩ := hrel
   by_cases hlt : kk < l.length
   ·have hltz : (kk : Int) < (l.length : Int) := by omega
    obtain ⟨ad, rfl, hcell⟩ := Kd.dv (HL.out _ HK.out) kk (by omega) hltz
    have hcell' : wr.cell? (ad.add kk) = some (.int .i64 (rd l kk)) := hcell
    clear hcell
    obtain ⟨A2, c2, hcut, hC2, hc2⟩ := Ck ad l cp (kk + 1) (by omega) hlc HL.out
    have HC2 := aa.mk hC2
    have HC3 := aa.mk hc2
    have HE2 := aa.mk (show (ys ++ ic (l.drop (kk + 1)) n (Go.bits .or .i64 c (rd l kk))) ++ ic (l.drop (kk + 1)) (n + 1) c = xs ++ ic l (n + 1) c by rw [← HE.out, xW l kk n c hlt, List.append_assoc])
    clear hC2 hc2 HE
    obtain ⟨t, ht⟩ : ∃ t, l.drop (kk + 1) = t := ⟨_, rfl⟩
    have HT := aa.mk ht
    rw [ht] at hcut HC2 HC3 HE2
    clear ht
    generalize rd l kk = y at hcell' HE2
    have hcut' : ∀ W : World, (Instr.slice 22 (.slice (some ad) l.length cp) (some (.int .i64 ((kk : Int) + 1))) none none).run Tryz.prog W = .ok (.slice A2 t.length c2) W := hcut
    clear hcut
    have HLE := aa.mk (show (ys ++ ic t n (Go.bits .or .i64 c y)).length ≤ 17592186044416 by have h1 := HLEN.out; rw [← HE2.out] at h1; rw [List.length_append] at h1; omega)
    go_wp2_with (go_at_call 169; refine (IH.out A2 c2 t (Go.bits .or .i64 c y) g v1 ys base w0 _ HB.out (zA HB.out hb HK.out.1) hg HC.out HV.out (fun W k => HC2.out W (tH HK.out HAT.out k)) HC3.out HLE.out (by omega)).mono ?_; rintro e w2 ⟨rfl, v2, h1, h2, h3, h4, h5⟩; have K1 := aa.mk h1; have K2 := aa.mk h2; have K3 := aa.mk h3; have K4 := aa.mk (HK.out.trans h4 HAT.out); have K5 := aa.mk (zB HAT.out h5 HK.out.1); clear h1 h2 h3 h4 h5)
    go_roundg (l.length - (kk + 1))
    case measure => omega
    case rel => exact ⟨kk + 1, _, v2, by omega, by omega, by go_num, K1, K2, K3, K4, K5, ⟨by rw [HT.out]; exact HE2.out⟩⟩
   ·have hltz : ¬ (kk : Int) < (l.length : Int) := by omega
    have hke : kk = l.length := by omega
    have HE2 := aa.mk (show ys = xs ++ ic l (n + 1) c by have := HE.out; rw [hke, List.drop_length] at this; simpa [ic] using this)
    clear hke HE
    go_wp2
    go_end0
    exact ⟨rfl, v1, HC.out, by rw [← HE2.out]; exact HV.out, HB.out, HK.out, HAT.out⟩
end Go.Proofs.YtmjlmloomkodpaaGreatDoor.PA
namespace Go.Proofs.YtmjlmloomkodpaaGreatDoor.PA
open Go.RowKit Go.Proofs.ae.aw Go.Proofs.ae.aJ Go.Proofs.ae.aN
attribute [local go_sem] bo bm bC bB a6 aZ bn bj
set_option linter.unusedVariables false
set_option linter.unusedSimpArgs false
def jB (m : Int) (bs : List Int) : List Int := bs.filter fun b => !(Go.bits .and .i64 m b == 0)
def jW (m : Int) (bs : List Int) : List Int := bs.filter fun b => (Go.bits .and .i64 m b == 0)
def j5 (m : Int) (ts : List Int) : List Int := ts.map fun a => Go.bits .andNot .i64 m a
def mR (m : Int) (ts ls : List Int) : List Int := ts.flatMap fun a => ls.map fun b => Go.bits .or .i64 (Go.bits .andNot .i64 m a) b
def oq : Nat := 17592186044416
def fa.f (k : Nat) (a0_0 : Int) (a0_1 : Int) (l0_2 : List Int) (l0_3 : List Int) (a1 : Int) (a2 : Bool) : Option (List Int) :=
 (bQ.f k a0_0 a0_1 l0_2 l0_3).bind fun m => (bT.f k a0_0 a0_1).bind fun bs =>
  if 0 ≤ a1 ∧ a1 ≤ 1000 ∧ (ic (jB m bs) a1.toNat 0).length ≤ oq ∧ (ic (jW m bs) a1.toNat 0).length ≤ oq ∧ (mR m (ic (jB m bs) a1.toNat 0) (ic (jW m bs) a1.toNat 0)).length ≤ oq then
   (if a2 = true then some (mR m (ic (jB m bs) a1.toNat 0) (ic (jW m bs) a1.toNat 0)) else some (j5 m (ic (jB m bs) a1.toNat 0)))
  else none
theorem ov (p : Int → Bool) (l : List Int) (k : Nat) (h : k < l.length) : (l.take (k + 1)).filter p = (l.take k).filter p ++ (if p (rd l k) = true then [rd l k] else []) := by
 rw [List.take_succ_eq_append_getElem h, List.filter_append]
 have : rd l k = l[k] := by simp [rd, h]
 rw [this]
 by_cases hp : p l[k] = true <;> simp [hp]
theorem tF (f : Int → Int) (l : List Int) (k : Nat) (h : k < l.length) : (l.take (k + 1)).map f = (l.take k).map f ++ [f (rd l k)] := by
 rw [List.take_succ_eq_append_getElem h, List.map_append]
 have : rd l k = l[k] := by simp [rd, h]
 rw [this]
 rfl
theorem yO (m : Int) (ls ts : List Int) (k : Nat) (h : k < ts.length) : mR m (ts.take (k + 1)) ls = mR m (ts.take k) ls ++ ls.map fun b => Go.bits .or .i64 (Go.bits .andNot .i64 m (rd ts k)) b := by
 unfold mR
 rw [List.take_succ_eq_append_getElem h, List.flatMap_append]
 have : rd ts k = ts[k] := by simp [rd, h]
 rw [this]
 simp
theorem pA (m : Int) (ls ts : List Int) : (mR m ts ls).length = ts.length * ls.length := by
 unfold mR
 induction ts with
 | nil => simp
 | cons a t ih => rw [List.flatMap_cons, List.length_append, ih, List.length_map, List.length_cons, Nat.succ_mul]; omega
theorem Ay (m : Int) (ls ts : List Int) (k : Nat) (h : k < ts.length) : (mR m (ts.take k) ls).length + ls.length ≤ (mR m ts ls).length := by
 rw [pA, pA, List.length_take, Nat.min_eq_left (by omega), ← Nat.succ_mul]
 exact Nat.mul_le_mul_right _ h
theorem tD (a b : Int) : ∀ (k : Nat) (x : List Int) (i : Int) (r : List Int), x.length ≤ 17592186044416 → bT.l0 k a b x i = some r → r.length ≤ 17592186044416 := by
 intro k
 induction k with
 | zero => intro x i r _ h; simp [bT.l0] at h
 | succ k ih =>
  intro x i r hx h
  simp only [bT.l0] at h
  split at h
  ·split at h
   ·split at h
    ·exact ih _ _ _ (by simp; omega) h
    ·cases h
   ·cases h
  ·cases h; exact hx
theorem uI {k : Nat} {a b : Int} {r : List Int} (h : bT.f k a b = some r) : r.length ≤ 17592186044416 := tD a b k [] 0 r (by simp) h
set_option maxHeartbeats 8000000 in
set_option maxRecDepth 100000 in
theorem fa.calls (k : Nat) (a0_0 : Int) (a0_1 : Int) (A0_2 : Option Addr) (c0_2 : Nat) (l0_2 : List Int) (A0_3 : Option Addr) (c0_3 : Nat) (l0_3 : List Int) (a1 : Int) (a2 : Bool) (r : List Int) (w : World) (ca : Kd.C (Kd.int .i64) w A0_2 l0_2.length l0_2) (bX : l0_2.length ≤ c0_2) (b0 : Kd.C (Kd.int .i64) w A0_3 l0_3.length l0_3) (bW : l0_3.length ≤ c0_3) (h : fa.f k a0_0 a0_1 l0_2 l0_3 a1 a2 = some r) :
  Calls Tryz.prog 136 #[.agg #[.int .i64 a0_0, .int .i64 a0_1, .slice A0_2 l0_2.length c0_2, .slice A0_3 l0_3.length c0_3], .int .i64 a1, .bool a2] w fun e w' => ∃ v0_ : Value, e = .returned (v0_) ∧ Kd.R (Kd.int .i64) 3 w' w.heap.size (fun _ => True) v0_ r ∧ Below w.heap.size w w' := by
 unfold fa.f at h
 replace h := Option.bind_eq_some_iff.mp h
 obtain ⟨m, hm, h⟩ := h
 replace h := Option.bind_eq_some_iff.mp h
 obtain ⟨bs, hbs, h⟩ := h
 split at h
 case isFalse => cases h
 rename_i hcnd
 obtain ⟨h1, h2, h3, h4, h5⟩ := hcnd
 obtain ⟨n, rfl⟩ : ∃ n : Nat, a1 = (n : Int) := ⟨a1.toNat, by omega⟩
 rw [Int.toNat_natCast] at h h3 h4 h5
 have HM := aa.mk hm
 have HBS := aa.mk hbs
 have H3 := aa.mk h3
 have H4 := aa.mk h4
 have H5 := aa.mk h5
 have HN := aa.mk (show n ≤ 1000 by omega)
 have LB := aa.mk (uI hbs)
 have H := aa.mk h
 have HR2 := aa.mk ca
 have HR3 := aa.mk b0
 clear hm hbs h1 h2 h3 h4 h5 h ca b0
 have hu28 := Tryz.underlying28
 go_enter Tryz.func136, Tryz.ntmps136
 go_wp2_with (first
  | (go_at_call 45; (with_reducible refine (bQ.calls k a0_0 a0_1 A0_2 c0_2 l0_2 A0_3 c0_3 l0_3 m _ (Kd.ax HR2.out (by exact ag (Below.refl _ _) _)) bX (Kd.ax HR3.out (by exact ag (Below.refl _ _) _)) bW HM.out).mono ?_); rintro e w1 ⟨rfl, hb⟩; have d0 : w1.cell? ⟨w.heap.size, 0, none⟩ = some (.int .i64 a0_0) := (hb.cell (by simp)).trans (by simp); have d1 : w1.cell? ⟨w.heap.size, 1, none⟩ = some (.int .i64 a0_1) := (hb.cell (by simp)).trans (by simp); have HB1 := aa.mk ((ag (Below.refl w.heap.size w) _).trans (hb.mono (by simp))); clear hb)
  | (go_at_call 168; (with_reducible refine (bT.calls k a0_0 a0_1 bs _ HBS.out).mono ?_); rintro e w2 ⟨vb, rfl, ho, hb⟩; obtain ⟨Ab, cb, rfl⟩ := Kd.bE ho; have HB2 := aa.mk (HB1.out.trans (hb.mono HB1.out.size)); have HOB := aa.mk (Kd.cW ho HB1.out.size); have hlb : bs.length ≤ 9223372036854775807 := (gM ho).2.1; clear ho hb d0 d1))
 
 go_loopg [8, 9, 11, 29] bs.length (fun gg s8 s9 _ s29 wr => ∃ kk : Nat, kk ≤ bs.length ∧ bs.length - kk ≤ gg ∧ s29 = .int .i64 (kk : Int) ∧ aa (Kd.R (Kd.int .i64) 3 wr w.heap.size (fun _ => True) s8 (jB m (bs.take kk))) ∧ aa (Kd.R (Kd.int .i64) 3 wr w.heap.size (fun _ => True) s9 (jW m (bs.take kk))) ∧ aa (Kd.R (Kd.int .i64) 3 wr w.heap.size (fun _ => True) (.slice Ab bs.length cb) bs) ∧ aa (hZ s8 s9) ∧ aa (hZ s8 (.slice Ab bs.length cb)) ∧ aa (hZ s9 (.slice Ab bs.length cb)) ∧ aa (Below w.heap.size w wr))
 case atStart => exact ⟨0, Nat.zero_le _, by omega, rfl, ⟨Kd.ir _ _ _ _ _⟩, ⟨Kd.ir _ _ _ _ _⟩, HOB, ⟨ne_nil _⟩, ⟨ne_nil _⟩, ⟨ne_nil _⟩, HB2⟩
 case round =>
  clear HB2 HOB HB1
  obtain ⟨kk, hkk, hgk, rfl, HO8, HO9, HOB, N89, N8, N9, HB⟩ := hrel
  by_cases hlt : kk < bs.length
  ·have hltz : (kk : Int) < (bs.length : Int) := by omega
   obtain ⟨ad, had, hcell⟩ := Kd.dv (gM HOB.out) kk (by omega) hltz
   subst had
   have hcell' : wr.cell? (ad.add kk) = some (.int .i64 (rd bs kk)) := hcell
   clear hcell
   have F1 := aa.mk (show jB m (bs.take (kk + 1)) = jB m (bs.take kk) ++ _ from ov (fun b => !(Go.bits .and .i64 m b == 0)) bs kk hlt)
   have F2 := aa.mk (show jW m (bs.take (kk + 1)) = jW m (bs.take kk) ++ _ from ov (fun b => (Go.bits .and .i64 m b == 0)) bs kk hlt)
   have L1 := aa.mk (show (jB m (bs.take kk)).length ≤ kk from Nat.le_trans (List.length_filter_le _ _) (List.length_take_le _ _))
   have L2 := aa.mk (show (jW m (bs.take kk)).length ≤ kk from Nat.le_trans (List.length_filter_le _ _) (List.length_take_le _ _))
   generalize rd bs kk = y at hcell' F1 F2
   generalize jB m (bs.take kk) = hs at HO8 F1 L1
   generalize jW m (bs.take kk) = fs at HO9 F2 L2
   obtain ⟨A8, c8, hs8⟩ := Kd.bE HO8.out
   subst hs8
   obtain ⟨A9, c9, hs9⟩ := Kd.bE HO9.out
   subst hs9
   cases hq : (Go.bits .and .i64 m y == 0) with
   | false =>
    have E1 := aa.mk (show jB m (bs.take (kk + 1)) = hs ++ [y] by rw [F1.out, hq]; rfl)
    have E2 := aa.mk (show jW m (bs.take (kk + 1)) = fs by rw [F2.out, hq]; simp)
    clear F1 F2
    have hq' : (Go.bits .and .i64 m y != 0) = true := by rw [bne, hq]; rfl
    go_wp2_with ((with_reducible refine cH (b := .append) (xs := #[.tmp 37, .tmp 39]) rfl ?_); at_builtin; refine Kd.eb (Kd.int .i64) (w0 := w) w.heap.size rfl (.tmp 37) (.tmp 39) 22 3 (.int .i64 0) 8 rfl Tryz.underlying22 iY rfl (by decide) (by omega) (.slice A8 hs.length c8) hs y [.int .i64 y] (fun _ => True) (fun _ => False) rfl rfl ?aP (fun _ hk => hk.elim) ?aF ?aO ?aB ?aS ?aL ?_; (case aP => exact rfl); (case aB => exact HB.out); (case aF => exact (fun _ _ => trivial)); (case aO => exact HO8.out); (case aS => exact HB.out.size); (case aL => have := L1.out; have := LB.out; omega); intro v1 w1 ho hb1 hgr hat; have O1 := aa.mk ho; have B1 := aa.mk hb1; have O9 := aa.mk (js HO9.out hgr (jM N89.out)); have OB := aa.mk (js HOB.out hgr (jM N8.out)); have M9 := aa.mk (mD N89.out hat HO9.out); have MB := aa.mk (mD N8.out hat HOB.out); clear ho hb1 hgr hat)
    go_roundg (bs.length - (kk + 1))
    case measure => omega
    case rel => exact ⟨kk + 1, by omega, by omega, by go_num, ⟨by rw [E1.out]; exact O1.out⟩, ⟨by rw [E2.out]; exact O9.out⟩, OB, M9, MB, N9, B1⟩
   | true =>
    have E1 := aa.mk (show jB m (bs.take (kk + 1)) = hs by rw [F1.out, hq]; simp)
    have E2 := aa.mk (show jW m (bs.take (kk + 1)) = fs ++ [y] by rw [F2.out, hq]; rfl)
    clear F1 F2
    have hq' : (Go.bits .and .i64 m y != 0) = false := by rw [bne, hq]; rfl
    go_wp2_with ((with_reducible refine cH (b := .append) (xs := #[.tmp 41, .tmp 43]) rfl ?_); at_builtin; refine Kd.eb (Kd.int .i64) (w0 := w) w.heap.size rfl (.tmp 41) (.tmp 43) 22 3 (.int .i64 0) 8 rfl Tryz.underlying22 iY rfl (by decide) (by omega) (.slice A9 fs.length c9) fs y [.int .i64 y] (fun _ => True) (fun _ => False) rfl rfl ?aP (fun _ hk => hk.elim) ?aF ?aO ?aB ?aS ?aL ?_; (case aP => exact rfl); (case aB => exact HB.out); (case aF => exact (fun _ _ => trivial)); (case aO => exact HO9.out); (case aS => exact HB.out.size); (case aL => have := L2.out; have := LB.out; omega); intro v1 w1 ho hb1 hgr hat; have O1 := aa.mk ho; have B1 := aa.mk hb1; have O8 := aa.mk (js HO8.out hgr N89.out); have OB := aa.mk (js HOB.out hgr (jM N9.out)); have M9 := aa.mk (jM (mD (jM N89.out) hat HO8.out)); have MB := aa.mk (mD N9.out hat HOB.out); clear ho hb1 hgr hat)
    go_roundg (bs.length - (kk + 1))
    case measure => omega
    case rel => exact ⟨kk + 1, by omega, by omega, by go_num, ⟨by rw [E1.out]; exact O8.out⟩, ⟨by rw [E2.out]; exact O1.out⟩, OB, M9, N8, MB, B1⟩
  ·have hltz : ¬ (kk : Int) < (bs.length : Int) := by omega
   have hke : kk = bs.length := by omega
   subst hke
   rw [List.take_length] at HO8 HO9
   clear N9 N8 HOB
   generalize jB m bs = hs at *
   generalize jW m bs = fs at *
   obtain ⟨A8, c8, hs8⟩ := Kd.bE HO8.out
   subst hs8
   obtain ⟨A9, c9, hs9⟩ := Kd.bE HO9.out
   subst hs9
   
   go_wp2_with fail
   refine (mf.calls n A8 c8 hs 0 wr.heap.size (.slice none 0 0) [] w.heap.size w _ (ag HB.out _) (by simp; have := HB.out.size; omega) HB.out.size (heap_alloc_new _ _) (Kd.ir _ _ _ _ _) (fun W k => gM (oT (jt HO8.out (ag (Below.refl _ _) _)) k (fun e => by have := Kd.ko HO8.out _ e.symm; omega) (fun _ _ => by simp [Value.ownBlock]))) (Kd.bZ HO8.out).2.1 (by rw [List.nil_append]; exact H3.out) HN.out).mono ?_
   rintro e w3 ⟨rfl, vt, h1, h2, h3, h4, h5⟩
   rw [List.nil_append] at h2
   have T1 := aa.mk h1
   have T2 := aa.mk h2
   have T3 := aa.mk h3
   have O9 := aa.mk (oT (jt HO9.out (ag (Below.refl _ _) _)) h4 (fun e => by have := Kd.ko HO9.out _ e.symm; omega) (fun _ _ => by simp [Value.ownBlock]))
   have NT9 := aa.mk (show hZ vt (.slice A9 fs.length c9) from yT (fun b hb => by
    rcases h5 with h5 | ⟨b', h5, hle⟩
    ·rw [h5] at hb; simp [Value.ownBlock] at hb
    ·rw [h5] at hb; injection hb with hb; simp at hle; omega) HO9.out)
   have GS := aa.mk (show w.heap.size ≤ wr.heap.size from HB.out.size)
   have H3' := aa.mk H3.out
   clear h1 h2 h3 h4 h5 HO8 HO9 N89 HB H3
   generalize ic hs n 0 = ts at H H5 T2 H3'
   have LTS := aa.mk (show ts.length ≤ 17592186044416 from H3'.out)
   obtain ⟨At, ct, hvt⟩ := Kd.bE T2.out
   subst hvt
   have hct : w3.cell? ⟨wr.heap.size, 0, none⟩ = some (.slice At ts.length ct) := (ai T1.out 0).trans rfl
   have hlt2 : ts.length ≤ 9223372036854775807 := (gM T2.out).2.1
   generalize wr.heap.size = g at T1 GS hct ⊢
   cases a2 with
   | false =>
    have H' : some (j5 m ts) = some r := H.out
    obtain rfl := Option.some.inj H'
    clear H' H H4 H5 O9 NT9
    go_wp2
    go_loopg [13, 15, 53] ts.length (fun gg s13 _ s53 wr => ∃ kk : Nat, kk ≤ ts.length ∧ ts.length - kk ≤ gg ∧ s53 = .int .i64 (kk : Int) ∧ aa (Kd.R (Kd.int .i64) 3 wr w.heap.size (fun _ => True) s13 (j5 m (ts.take kk))) ∧ aa (Kd.R (Kd.int .i64) 3 wr w.heap.size (fun _ => True) (.slice At ts.length ct) ts) ∧ aa (hZ s13 (.slice At ts.length ct)) ∧ aa (Below w.heap.size w wr))
    case atStart => exact ⟨0, Nat.zero_le _, by omega, rfl, ⟨Kd.ir _ _ _ _ _⟩, T2, ⟨ne_nil _⟩, T3⟩
    case round =>
     clear T1 T2 T3 hct
     obtain ⟨kk, hkk, hgk, rfl, kY, HOT, N13, HB⟩ := hrel
     by_cases hlt : kk < ts.length
     ·have hltz : (kk : Int) < (ts.length : Int) := by omega
      obtain ⟨ad, had, hcell⟩ := Kd.dv (gM HOT.out) kk (by omega) hltz
      subst had
      have hcell' : wr.cell? (ad.add kk) = some (.int .i64 (rd ts kk)) := hcell
      clear hcell
      have E1 := aa.mk (tF (fun a => Go.bits .andNot .i64 m a) ts kk hlt)
      have L1 := aa.mk (show (j5 m (ts.take kk)).length ≤ kk by unfold j5; rw [List.length_map]; exact List.length_take_le _ _)
      generalize rd ts kk = y at hcell' E1
      have E2 := aa.mk (show j5 m (ts.take (kk + 1)) = j5 m (ts.take kk) ++ [Go.bits .andNot .i64 m y] from E1.out)
      clear E1
      generalize j5 m (ts.take kk) = hs' at kY E2 L1
      obtain ⟨A13, c13, hs13⟩ := Kd.bE kY.out
      subst hs13
      go_wp2_with ((with_reducible refine cH (b := .append) (xs := #[.tmp 57, .tmp 61]) rfl ?_); at_builtin; refine Kd.eb (Kd.int .i64) (w0 := w) w.heap.size rfl (.tmp 57) (.tmp 61) 22 3 (.int .i64 0) 8 rfl Tryz.underlying22 iY rfl (by decide) (by omega) (.slice A13 hs'.length c13) hs' (Go.bits .andNot .i64 m y) [.int .i64 (Go.bits .andNot .i64 m y)] (fun _ => True) (fun _ => False) rfl rfl ?aP (fun _ hk => hk.elim) ?aF ?aO ?aB ?aS ?aL ?_; (case aP => exact rfl); (case aB => exact HB.out); (case aF => exact (fun _ _ => trivial)); (case aO => exact kY.out); (case aS => exact HB.out.size); (case aL => have := L1.out; have := LTS.out; omega); intro v1 w1 ho hb1 hgr hat; have O1 := aa.mk ho; have B1 := aa.mk hb1; have OT := aa.mk (js HOT.out hgr (jM N13.out)); have M13 := aa.mk (mD N13.out hat HOT.out); clear ho hb1 hgr hat)
      go_roundg (ts.length - (kk + 1))
      case measure => omega
      case rel => exact ⟨kk + 1, by omega, by omega, by go_num, ⟨by rw [E2.out]; exact O1.out⟩, OT, M13, B1⟩
     ·have hltz : ¬ (kk : Int) < (ts.length : Int) := by omega
      have hke : kk = ts.length := by omega
      subst hke
      rw [List.take_length] at kY
      go_wp2
      go_ret
      exact ⟨_, rfl, kY.out, HB.out⟩
   | true =>
    have H' : some (mR m ts (ic fs n 0)) = some r := H.out
    have HRR := aa.mk (Option.some.inj H')
    clear H' H
    go_wp2_with fail
    refine (mf.calls n A9 c9 fs 0 w3.heap.size (.slice none 0 0) [] w.heap.size w _ (ag T3.out _) (by simp; have := T3.out.size; omega) T3.out.size (heap_alloc_new _ _) (Kd.ir _ _ _ _ _) (fun W k => gM (oT (jt O9.out (ag (Below.refl _ _) _)) k (fun e => by have := Kd.ko O9.out _ e.symm; omega) (fun _ _ => by simp [Value.ownBlock]))) (Kd.bZ O9.out).2.1 (by rw [List.nil_append]; exact H4.out) HN.out).mono ?_
    rintro e w4 ⟨rfl, vl, h1, h2, h3, h4, h5⟩
    rw [List.nil_append] at h2
    have U1 := aa.mk h1
    have U2 := aa.mk h2
    have U3 := aa.mk h3
    have UT := aa.mk (oT (jt T2.out (ag (Below.refl _ _) _)) h4 (fun e => by have := Kd.ko T2.out _ e.symm; omega) (fun _ _ => by simp [Value.ownBlock]))
    have NLT := aa.mk (show hZ vl (.slice At ts.length ct) from yT (fun b hb => by
     rcases h5 with h5 | ⟨b', h5, hle⟩
     ·rw [h5] at hb; simp [Value.ownBlock] at hb
     ·rw [h5] at hb; injection hb with hb; simp at hle; omega) T2.out)
    have hct4 : w4.cell? ⟨g, 0, none⟩ = some (.slice At ts.length ct) := by
     have hlt := a7 T1.out
     have e1 : (w3.alloc (.cells #[.slice none 0 0] 22)).heap[g]? = some (.cells #[.slice At ts.length ct] 22 (0, 0)) := by rw [Below.heap_alloc _ _ _ hlt]; exact T1.out
     have e2 := cX.blk h4 e1 (by omega) (by simp [Value.ownBlock])
     exact (ai e2 0).trans rfl
    clear h1 h2 h3 h4 h5 O9 NT9 H4 T1 T2 hct
    generalize ic fs n 0 = ls at H5 U2 HRR
    obtain ⟨Al, cl, hvl⟩ := Kd.bE U2.out
    subst hvl
    have hll : ls.length ≤ 9223372036854775807 := (gM U2.out).2.1
    have GS2 := aa.mk (show w.heap.size ≤ w3.heap.size from T3.out.size)
    clear T3
    generalize w3.heap.size = g2 at U1 GS2 ⊢
    go_wp2
    go_loopg [13, 18, 20, 70] ts.length (fun gg s13 _ _ s70 wr => ∃ kk : Nat, kk ≤ ts.length ∧ ts.length - kk ≤ gg ∧ s70 = .int .i64 (kk : Int) ∧ aa (Kd.R (Kd.int .i64) 3 wr w.heap.size (fun _ => True) s13 (mR m (ts.take kk) ls)) ∧ aa (Kd.R (Kd.int .i64) 3 wr w.heap.size (fun _ => True) (.slice At ts.length ct) ts) ∧ aa (Kd.R (Kd.int .i64) 3 wr w.heap.size (fun _ => True) (.slice Al ls.length cl) ls) ∧ aa (hZ s13 (.slice At ts.length ct)) ∧ aa (hZ s13 (.slice Al ls.length cl)) ∧ aa (wr.heap[g2]? = some (.cells #[.slice Al ls.length cl] 22 (0, 0))) ∧ aa (Below w.heap.size w wr))
    case atStart => exact ⟨0, Nat.zero_le _, by omega, rfl, ⟨Kd.ir _ _ _ _ _⟩, UT, U2, ⟨ne_nil _⟩, ⟨ne_nil _⟩, U1, U3⟩
    case round =>
     clear UT U2 U1 U3 hct4 NLT
     obtain ⟨kk, hkk, hgk, rfl, kY, HOT, HOL, N13, NL3, HC2, HB⟩ := hrel
     by_cases hlt : kk < ts.length
     ·have hltz : (kk : Int) < (ts.length : Int) := by omega
      obtain ⟨ad, had, hcell⟩ := Kd.dv (gM HOT.out) kk (by omega) hltz
      subst had
      have hcell' : wr.cell? (ad.add kk) = some (.int .i64 (rd ts kk)) := hcell
      clear hcell
      have hc2 : wr.cell? ⟨g2, 0, none⟩ = some (.slice Al ls.length cl) := (ai HC2.out 0).trans rfl
      have E1 := aa.mk (yO m ls ts kk hlt)
      have L1 := aa.mk (Ay m ls ts kk hlt)
      generalize rd ts kk = y at hcell' E1
      generalize mR m (ts.take kk) ls = hs' at kY E1 L1
      go_wp2
      obtain ⟨wo, hwo⟩ : ∃ wo : World, wo = wr := ⟨_, rfl⟩
      go_loopg [13, 20, 76] ls.length (fun gg s13 _ s76 wr => ∃ jj : Nat, jj ≤ ls.length ∧ ls.length - jj ≤ gg ∧ s76 = .int .i64 (jj : Int) ∧ aa (Kd.R (Kd.int .i64) 3 wr w.heap.size (fun _ => True) s13 (hs' ++ (ls.take jj).map fun b => Go.bits .or .i64 (Go.bits .andNot .i64 m y) b)) ∧ aa (Kd.R (Kd.int .i64) 3 wr w.heap.size (fun _ => True) (.slice (some ad) ts.length ct) ts) ∧ aa (Kd.R (Kd.int .i64) 3 wr w.heap.size (fun _ => True) (.slice Al ls.length cl) ls) ∧ aa (hZ s13 (.slice (some ad) ts.length ct)) ∧ aa (hZ s13 (.slice Al ls.length cl)) ∧ aa (wr.heap[g2]? = some (.cells #[.slice Al ls.length cl] 22 (0, 0))) ∧ aa (Below w.heap.size w wr))
      case atStart => exact ⟨0, Nat.zero_le _, by omega, rfl, ⟨by simpa using kY.out⟩, HOT, HOL, N13, NL3, HC2, HB⟩
      case round =>
       clear kY HOT HOL N13 NL3 HC2 HB hcell' hc2 hwo
       obtain ⟨jj, hjj, hgj, rfl, kY, HOT, HOL, N13, NL3, HC2, HB⟩ := hrel
       by_cases hlt2 : jj < ls.length
       ·have hltz2 : (jj : Int) < (ls.length : Int) := by omega
        obtain ⟨ad2, had2, ze⟩ := Kd.dv (gM HOL.out) jj (by omega) hltz2
        subst had2
        have DP : wr.cell? (ad2.add jj) = some (.int .i64 (rd ls jj)) := ze
        clear ze
        have E2 := aa.mk (tF (fun b => Go.bits .or .i64 (Go.bits .andNot .i64 m y) b) ls jj hlt2)
        have L2 := aa.mk (show ((ls.take jj).map fun b => Go.bits .or .i64 (Go.bits .andNot .i64 m y) b).length ≤ jj by rw [List.length_map]; exact List.length_take_le _ _)
        generalize rd ls jj = z at DP E2
        have E3 := aa.mk (show (hs' ++ (ls.take (jj + 1)).map fun b => Go.bits .or .i64 (Go.bits .andNot .i64 m y) b) = (hs' ++ (ls.take jj).map fun b => Go.bits .or .i64 (Go.bits .andNot .i64 m y) b) ++ [Go.bits .or .i64 (Go.bits .andNot .i64 m y) z] by rw [List.append_assoc]; exact congrArg _ E2.out)
        have L3 := aa.mk (show (hs' ++ (ls.take jj).map fun b => Go.bits .or .i64 (Go.bits .andNot .i64 m y) b).length + 1 ≤ 17592186044416 by rw [List.length_append]; have := L2.out; have := L1.out; have h5 := H5.out; unfold oq at h5; omega)
        clear E2 L2
        generalize (hs' ++ (ls.take jj).map fun b => Go.bits .or .i64 (Go.bits .andNot .i64 m y) b) = rs at kY E3 L3
        obtain ⟨A13, c13, hs13⟩ := Kd.bE kY.out
        subst hs13
        go_wp2_with ((with_reducible refine cH (b := .append) (xs := #[.tmp 80, .tmp 86]) rfl ?_); at_builtin; refine Kd.eb (Kd.int .i64) (w0 := w) w.heap.size rfl (.tmp 80) (.tmp 86) 22 3 (.int .i64 0) 8 rfl Tryz.underlying22 iY rfl (by decide) (by omega) (.slice A13 rs.length c13) rs (Go.bits .or .i64 (Go.bits .andNot .i64 m y) z) [.int .i64 (Go.bits .or .i64 (Go.bits .andNot .i64 m y) z)] (fun _ => True) (fun _ => False) rfl rfl ?aP (fun _ hk => hk.elim) ?aF ?aO ?aB ?aS ?aL ?_; (case aP => exact rfl); (case aB => exact HB.out); (case aF => exact (fun _ _ => trivial)); (case aO => exact kY.out); (case aS => exact HB.out.size); (case aL => have := L3.out; omega); intro v1 w1 ho hb1 hgr hat; have O1 := aa.mk ho; have B1 := aa.mk hb1; have OT := aa.mk (js HOT.out hgr (jM N13.out)); have OL := aa.mk (js HOL.out hgr (jM NL3.out)); have M13 := aa.mk (mD N13.out hat HOT.out); have ML3 := aa.mk (mD NL3.out hat HOL.out); have D2 := aa.mk (eM HC2.out hgr (Kd.jF kY.out HC2.out (by decide))); clear ho hb1 hgr hat)
        go_roundg (ls.length - (jj + 1))
        case measure => omega
        case rel => exact ⟨jj + 1, by omega, by omega, by go_num, ⟨by rw [E3.out]; exact O1.out⟩, OT, OL, M13, ML3, D2, B1⟩
       ·have hltz2 : ¬ (jj : Int) < (ls.length : Int) := by omega
        have hje : jj = ls.length := by omega
        subst hje
        rw [List.take_length] at kY
        go_wp2
        go_roundg (ts.length - (kk + 1))
        case measure => omega
        case rel => exact ⟨kk + 1, by omega, by omega, by go_num, ⟨by rw [E1.out]; exact kY.out⟩, HOT, HOL, N13, NL3, HC2, HB⟩
     ·have hltz : ¬ (kk : Int) < (ts.length : Int) := by omega
      have hke : kk = ts.length := by omega
      subst hke
      rw [List.take_length] at kY
      go_wp2
      go_ret
      exact ⟨_, rfl, by rw [← HRR.out]; exact kY.out, HB.out⟩
end Go.Proofs.YtmjlmloomkodpaaGreatDoor.PA
namespace Go.Proofs.YtmjlmloomkodpaaGreatDoor.PA
open Go.RowKit Go.Proofs.ae.aw Go.Proofs.ae.aJ Go.Proofs.ae.aN
attribute [local go_sem] bo bm bC bB a6 aZ bn bj
set_option linter.unusedVariables false
set_option linter.unusedSimpArgs false
def cM.l0 : Nat → Int → Int → List (fz) → Int → Int → Option (Int)
 | 0, _, _, _, _, _ => none
 | k + 1, x1, x5, x8, x9, x10 => if x10 < x9 then (if 0 ≤ x10 then (if x10 < (x8.length : Int) then (if (Go.bits .and .i64 x1 ((dc x8 x10).f3)) = ((dc x8 x10).f3) then (cM.l0 k x1 (wrap64 (x5 + 1)) x8 x9 (wrap64 (x10 + 1))) else (cM.l0 k x1 x5 x8 x9 (wrap64 (x10 + 1)))) else (none)) else (none)) else (some x5)
def cM.f (k : Nat) (l0 : List (fz)) (a1 : Int) : Option (Int) := cM.l0 k a1 0 l0 (l0.length : Int) 0
set_option maxHeartbeats 8000000 in
set_option maxRecDepth 100000 in
theorem cM.calls (k : Nat) (A0 : Option Addr) (c0 : Nat) (l0 : List (fz)) (a1 : Int) (r : Int) (w : World) (hr0 : Kd.C oK w A0 l0.length l0) (hc0 : l0.length ≤ c0) (h : cM.f k l0 a1 = some r) :
  Calls Tryz.prog 137 #[.slice A0 l0.length c0, .int .i64 a1] w fun e w' => e = .returned (.int .i64 r) ∧ Below w.heap.size w w' := by
 have hu170 := Tryz.underlying170
 have HR0 := aa.mk hr0
 have HC0 := aa.mk hc0
 clear hr0 hc0
 have HB := aa.mk (Below.refl w.heap.size w)
 have H : (cM.l0 k a1 0 l0 (l0.length : Int) 0) = some r := h
 clear h
 have H' := aa.mk H
 clear H
 go_enter Tryz.func137, Tryz.ntmps137
 go_wp2
 go_loopg [5, 10] k (fun kq v5 v10 w' => ∃ (x5_1 : Int) (x10_1 : Int), v5 = .int .i64 x5_1 ∧ v10 = .int .i64 x10_1 ∧ aa (cM.l0 kq a1 x5_1 l0 (l0.length : Int) x10_1 = some r) ∧ aa (kq ≤ k) ∧ aa (Below w.heap.size w w'))
 case atStart => exact ⟨(0), (0), (by first | rfl | (simp; done) | (simp [*]; done)), (by first | rfl | (simp; done) | (simp [*]; done)), H', ⟨Nat.le_refl _⟩, ⟨by repeat (first | (with_reducible first | exact HB.out | apply ag | apply af | apply ah) | exact HB.out)⟩⟩
 case round =>
  clear H'
  try clear c1
  try clear p2
  obtain ⟨x5_1, x10_1, rfl, rfl, HA, HK1, HB⟩ := hrel
  cases gk with
  | zero => exact absurd HA.out (by simp [cM.l0])
  | succ k1 =>
   have H := HA.out
   clear HA
   simp only [cM.l0] at H
   by_cases c3 : x10_1 < (l0.length : Int)
   ·rw [if_pos c3] at H
    have c3b0 : decide (x10_1 < (l0.length : Int)) = true := decide_eq_true c3
    clear c3
    by_cases c4 : 0 ≤ x10_1
    ·rw [if_pos c4] at H
     have c4b0 : decide (0 ≤ x10_1) = true := decide_eq_true c4
     clear c4
     by_cases c5 : x10_1 < (l0.length : Int)
     ·rw [if_pos c5] at H
      have c5b0 : decide (x10_1 < (l0.length : Int)) = true := decide_eq_true c5
      clear c5
      by_cases c6 : (Go.bits .and .i64 a1 ((dc l0 x10_1).f3)) = ((dc l0 x10_1).f3)
      ·rw [if_pos c6] at H
       have c6b0 : ((Go.bits .and .i64 a1 ((dc l0 x10_1).f3)) == ((dc l0 x10_1).f3)) = true := beq_iff_eq.mpr c6
       have c6b1 : ((Go.bits .and .i64 a1 ((dc l0 x10_1).f3)) != ((dc l0 x10_1).f3)) = false := bne_eq_false_iff_eq.mpr c6
       clear c6
       have H' := aa.mk H
       clear H
       have p249 : 0 ≤ (x10_1 : Int) := of_decide_eq_true (by first | (with_reducible assumption) | assumption)
       have q249 : x10_1 < (l0.length : Int) := of_decide_eq_true (by first | (with_reducible assumption) | assumption)
       obtain ⟨ad249, e249, kJ, kI, kH, kG⟩ := pc HR0.out x10_1 p249 q249
       cases e249
       replace kJ := (HB.out.cell (World.block_lt_of_cell? w _ kJ)).trans kJ
       replace kI := (HB.out.cell (World.block_lt_of_cell? w _ kI)).trans kI
       replace kH := (HB.out.cell (World.block_lt_of_cell? w _ kH)).trans kH
       replace kG := (HB.out.cell (World.block_lt_of_cell? w _ kG)).trans kG
       replace p249 := eq_true p249
       replace q249 := eq_true q249
       go_wp2_with (first | ((with_reducible refine aV (N := 7) rfl ?_); refine aM ?hg (N := 7) ?hd (cs := #[.int .i64 0, .int .i64 0, .int .i64 0, .int .i64 0]) (t := 170) ?hr ?_; (case hd => rfl); (case hg => rfl); (case hr => first | (go_simp; done) | (go_simp; rfl)); intro kf hg w7 hbox hb; have n0_ := aa.mk (ar (by repeat (first | (with_reducible first | exact HB.out | apply ag | apply af | apply ah) | exact HB.out)) hb); have n1_ := aa.mk (hbox); have n2_ := aa.mk ((by rw [hg]; exact (aq (by repeat (first | (with_reducible first | exact HB.out | apply ag | apply af | apply ah) | exact HB.out))) : w.heap.size ≤ kf)); have n3_ := aa.mk ((by rw [hg]; exact (aq (by repeat (first | (with_reducible first | exact HB.out | apply ag | apply af | apply ah) | exact HB.out))) : w.heap.size ≤ kf)); clear HB; have HB := n0_; have jd := n1_; have F8 := n2_; have z6 := n3_; clear n0_ n1_ n2_ n3_; clear hb hbox hg; have ln : w7.cell? ⟨kf, 0, none⟩ = some (.int .i64 0) := (ai jd.out 0).trans rfl; have ll : w7.cell? ⟨kf, 1, none⟩ = some (.int .i64 0) := (ai jd.out 1).trans rfl; have mH : w7.cell? ⟨kf, 2, none⟩ = some (.int .i64 0) := (ai jd.out 2).trans rfl; have mG : w7.cell? ⟨kf, 3, none⟩ = some (.int .i64 0) := (ai jd.out 3).trans rfl; have k9 := aj jd.out 0; have k8 := aj jd.out 1; have mF := aj jd.out 2; have mE := aj jd.out 3))
       go_roundg k1
       case measure => have := HK1.out; omega
       case rel => exact ⟨(wrap64 (x5_1 + 1)), (wrap64 (x10_1 + 1)), (by first | rfl | (simp; done) | (simp [*]; done)), (by first | rfl | (simp; done) | (simp [*]; done)), H', ⟨by have := HK1.out; omega⟩, ⟨by repeat (first | (with_reducible first | exact HB.out | apply ag | apply af | apply ah | refine ak ?_ z6.out) | exact HB.out)⟩⟩
      ·rw [if_neg c6] at H
       have c6b0 : ((Go.bits .and .i64 a1 ((dc l0 x10_1).f3)) == ((dc l0 x10_1).f3)) = false := beq_eq_false_iff_ne.mpr c6
       have c6b1 : ((Go.bits .and .i64 a1 ((dc l0 x10_1).f3)) != ((dc l0 x10_1).f3)) = true := bne_iff_ne.mpr c6
       have H' := aa.mk H
       clear H
       have p249 : 0 ≤ (x10_1 : Int) := of_decide_eq_true (by first | (with_reducible assumption) | assumption)
       have q249 : x10_1 < (l0.length : Int) := of_decide_eq_true (by first | (with_reducible assumption) | assumption)
       obtain ⟨ad249, e249, kJ, kI, kH, kG⟩ := pc HR0.out x10_1 p249 q249
       cases e249
       replace kJ := (HB.out.cell (World.block_lt_of_cell? w _ kJ)).trans kJ
       replace kI := (HB.out.cell (World.block_lt_of_cell? w _ kI)).trans kI
       replace kH := (HB.out.cell (World.block_lt_of_cell? w _ kH)).trans kH
       replace kG := (HB.out.cell (World.block_lt_of_cell? w _ kG)).trans kG
       replace p249 := eq_true p249
       replace q249 := eq_true q249
       go_wp2_with (first | ((with_reducible refine aV (N := 7) rfl ?_); refine aM ?hg (N := 7) ?hd (cs := #[.int .i64 0, .int .i64 0, .int .i64 0, .int .i64 0]) (t := 170) ?hr ?_; (case hd => rfl); (case hg => rfl); (case hr => first | (go_simp; done) | (go_simp; rfl)); intro kf hg w9 hbox hb; have n0_ := aa.mk (ar (by repeat (first | (with_reducible first | exact HB.out | apply ag | apply af | apply ah) | exact HB.out)) hb); have n1_ := aa.mk (hbox); have n2_ := aa.mk ((by rw [hg]; exact (aq (by repeat (first | (with_reducible first | exact HB.out | apply ag | apply af | apply ah) | exact HB.out))) : w.heap.size ≤ kf)); have n3_ := aa.mk ((by rw [hg]; exact (aq (by repeat (first | (with_reducible first | exact HB.out | apply ag | apply af | apply ah) | exact HB.out))) : w.heap.size ≤ kf)); clear HB; have HB := n0_; have jd := n1_; have F8 := n2_; have z6 := n3_; clear n0_ n1_ n2_ n3_; clear hb hbox hg; have jV : w9.cell? ⟨kf, 0, none⟩ = some (.int .i64 0) := (ai jd.out 0).trans rfl; have jU : w9.cell? ⟨kf, 1, none⟩ = some (.int .i64 0) := (ai jd.out 1).trans rfl; have jT : w9.cell? ⟨kf, 2, none⟩ = some (.int .i64 0) := (ai jd.out 2).trans rfl; have jS : w9.cell? ⟨kf, 3, none⟩ = some (.int .i64 0) := (ai jd.out 3).trans rfl; have jR := aj jd.out 0; have jQ := aj jd.out 1; have jP := aj jd.out 2; have jO := aj jd.out 3))
       go_roundg k1
       case measure => have := HK1.out; omega
       case rel => exact ⟨(x5_1), (wrap64 (x10_1 + 1)), (by first | rfl | (simp; done) | (simp [*]; done)), (by first | rfl | (simp; done) | (simp [*]; done)), H', ⟨by have := HK1.out; omega⟩, ⟨by repeat (first | (with_reducible first | exact HB.out | apply ag | apply af | apply ah | refine ak ?_ z6.out) | exact HB.out)⟩⟩
     ·rw [if_neg c5] at H
      exact absurd H (by simp)
    ·rw [if_neg c4] at H
     exact absurd H (by simp)
   ·rw [if_neg c3] at H
    have c3b0 : decide (x10_1 < (l0.length : Int)) = false := decide_eq_false c3
    clear c3
    obtain rfl := Option.some.inj H
    go_wp2
    go_ret
    exact ⟨by first | rfl | (simp [av, au] <;> rfl) | (simp [*, av, au] <;> rfl), by repeat (first | (with_reducible first | exact HB.out | apply ag | apply af | apply ah) | exact HB.out)⟩
end Go.Proofs.YtmjlmloomkodpaaGreatDoor.PA
namespace Go.Proofs.YtmjlmloomkodpaaGreatDoor.PA
open Go.RowKit Go.Proofs.ae.aw Go.Proofs.ae.aJ Go.Proofs.ae.aN
attribute [local go_sem] bo bm bC bB a6 aZ bn bj
set_option linter.unusedVariables false
set_option linter.unusedSimpArgs false
def cC.l0 : Nat → Int → Int → List (fz) → Int → Int → Option (Int)
 | 0, _, _, _, _, _ => none
 | k + 1, x1, x5, x8, x9, x10 => if x10 < x9 then (if 0 ≤ x10 then (if x10 < (x8.length : Int) then (if (Go.bits .and .i64 x1 ((dc x8 x10).f3)) = ((dc x8 x10).f3) then (cC.l0 k x1 (Go.bits .or .i64 x5 ((dc x8 x10).f3)) x8 x9 (wrap64 (x10 + 1))) else (cC.l0 k x1 x5 x8 x9 (wrap64 (x10 + 1)))) else (none)) else (none)) else (some x5)
def cC.f (k : Nat) (l0 : List (fz)) (a1 : Int) : Option (Int) := cC.l0 k a1 0 l0 (l0.length : Int) 0
set_option maxHeartbeats 8000000 in
set_option maxRecDepth 100000 in
theorem cC.calls (k : Nat) (A0 : Option Addr) (c0 : Nat) (l0 : List (fz)) (a1 : Int) (r : Int) (w : World) (hr0 : Kd.C oK w A0 l0.length l0) (hc0 : l0.length ≤ c0) (h : cC.f k l0 a1 = some r) :
  Calls Tryz.prog 138 #[.slice A0 l0.length c0, .int .i64 a1] w fun e w' => e = .returned (.int .i64 r) ∧ Below w.heap.size w w' := by
 have hu170 := Tryz.underlying170
 have HR0 := aa.mk hr0
 have HC0 := aa.mk hc0
 clear hr0 hc0
 have HB := aa.mk (Below.refl w.heap.size w)
 have H : (cC.l0 k a1 0 l0 (l0.length : Int) 0) = some r := h
 clear h
 have H' := aa.mk H
 clear H
 go_enter Tryz.func138, Tryz.ntmps138
 go_wp2
 go_loopg [5, 10] k (fun kq v5 v10 w' => ∃ (x5_1 : Int) (x10_1 : Int), v5 = .int .i64 x5_1 ∧ v10 = .int .i64 x10_1 ∧ aa (cC.l0 kq a1 x5_1 l0 (l0.length : Int) x10_1 = some r) ∧ aa (kq ≤ k) ∧ aa (Below w.heap.size w w'))
 case atStart => exact ⟨(0), (0), (by first | rfl | (simp; done) | (simp [*]; done)), (by first | rfl | (simp; done) | (simp [*]; done)), H', ⟨Nat.le_refl _⟩, ⟨by repeat (first | (with_reducible first | exact HB.out | apply ag | apply af | apply ah) | exact HB.out)⟩⟩
 case round =>
  clear H'
  try clear c1
  try clear p2
  obtain ⟨x5_1, x10_1, rfl, rfl, HA, HK1, HB⟩ := hrel
  cases gk with
  | zero => exact absurd HA.out (by simp [cC.l0])
  | succ k1 =>
   have H := HA.out
   clear HA
   simp only [cC.l0] at H
   by_cases c3 : x10_1 < (l0.length : Int)
   ·rw [if_pos c3] at H
    have c3b0 : decide (x10_1 < (l0.length : Int)) = true := decide_eq_true c3
    clear c3
    by_cases c4 : 0 ≤ x10_1
    ·rw [if_pos c4] at H
     have c4b0 : decide (0 ≤ x10_1) = true := decide_eq_true c4
     clear c4
     by_cases c5 : x10_1 < (l0.length : Int)
     ·rw [if_pos c5] at H
      have c5b0 : decide (x10_1 < (l0.length : Int)) = true := decide_eq_true c5
      clear c5
      by_cases c6 : (Go.bits .and .i64 a1 ((dc l0 x10_1).f3)) = ((dc l0 x10_1).f3)
      ·rw [if_pos c6] at H
       have c6b0 : ((Go.bits .and .i64 a1 ((dc l0 x10_1).f3)) == ((dc l0 x10_1).f3)) = true := beq_iff_eq.mpr c6
       have c6b1 : ((Go.bits .and .i64 a1 ((dc l0 x10_1).f3)) != ((dc l0 x10_1).f3)) = false := bne_eq_false_iff_eq.mpr c6
       clear c6
       have H' := aa.mk H
       clear H
       have p251 : 0 ≤ (x10_1 : Int) := of_decide_eq_true (by first | (with_reducible assumption) | assumption)
       have q251 : x10_1 < (l0.length : Int) := of_decide_eq_true (by first | (with_reducible assumption) | assumption)
       obtain ⟨ad251, e251, kF, kE, kD, kC⟩ := pc HR0.out x10_1 p251 q251
       cases e251
       replace kF := (HB.out.cell (World.block_lt_of_cell? w _ kF)).trans kF
       replace kE := (HB.out.cell (World.block_lt_of_cell? w _ kE)).trans kE
       replace kD := (HB.out.cell (World.block_lt_of_cell? w _ kD)).trans kD
       replace kC := (HB.out.cell (World.block_lt_of_cell? w _ kC)).trans kC
       replace p251 := eq_true p251
       replace q251 := eq_true q251
       go_wp2_with (first | ((with_reducible refine aV (N := 7) rfl ?_); refine aM ?hg (N := 7) ?hd (cs := #[.int .i64 0, .int .i64 0, .int .i64 0, .int .i64 0]) (t := 170) ?hr ?_; (case hd => rfl); (case hg => rfl); (case hr => first | (go_simp; done) | (go_simp; rfl)); intro ke hg w7 hbox hb; have n0_ := aa.mk (ar (by repeat (first | (with_reducible first | exact HB.out | apply ag | apply af | apply ah) | exact HB.out)) hb); have n1_ := aa.mk (hbox); have n2_ := aa.mk ((by rw [hg]; exact (aq (by repeat (first | (with_reducible first | exact HB.out | apply ag | apply af | apply ah) | exact HB.out))) : w.heap.size ≤ ke)); have n3_ := aa.mk ((by rw [hg]; exact (aq (by repeat (first | (with_reducible first | exact HB.out | apply ag | apply af | apply ah) | exact HB.out))) : w.heap.size ≤ ke)); clear HB; have HB := n0_; have jc := n1_; have F7 := n2_; have zZ := n3_; clear n0_ n1_ n2_ n3_; clear hb hbox hg; have ln : w7.cell? ⟨ke, 0, none⟩ = some (.int .i64 0) := (ai jc.out 0).trans rfl; have ll : w7.cell? ⟨ke, 1, none⟩ = some (.int .i64 0) := (ai jc.out 1).trans rfl; have mH : w7.cell? ⟨ke, 2, none⟩ = some (.int .i64 0) := (ai jc.out 2).trans rfl; have mG : w7.cell? ⟨ke, 3, none⟩ = some (.int .i64 0) := (ai jc.out 3).trans rfl; have k9 := aj jc.out 0; have k8 := aj jc.out 1; have mF := aj jc.out 2; have mE := aj jc.out 3))
       go_roundg k1
       case measure => have := HK1.out; omega
       case rel => exact ⟨(Go.bits .or .i64 x5_1 ((dc l0 x10_1).f3)), (wrap64 (x10_1 + 1)), (by first | rfl | (simp; done) | (simp [*]; done)), (by first | rfl | (simp; done) | (simp [*]; done)), H', ⟨by have := HK1.out; omega⟩, ⟨by repeat (first | (with_reducible first | exact HB.out | apply ag | apply af | apply ah | refine ak ?_ zZ.out) | exact HB.out)⟩⟩
      ·rw [if_neg c6] at H
       have c6b0 : ((Go.bits .and .i64 a1 ((dc l0 x10_1).f3)) == ((dc l0 x10_1).f3)) = false := beq_eq_false_iff_ne.mpr c6
       have c6b1 : ((Go.bits .and .i64 a1 ((dc l0 x10_1).f3)) != ((dc l0 x10_1).f3)) = true := bne_iff_ne.mpr c6
       have H' := aa.mk H
       clear H
       have p251 : 0 ≤ (x10_1 : Int) := of_decide_eq_true (by first | (with_reducible assumption) | assumption)
       have q251 : x10_1 < (l0.length : Int) := of_decide_eq_true (by first | (with_reducible assumption) | assumption)
       obtain ⟨ad251, e251, kF, kE, kD, kC⟩ := pc HR0.out x10_1 p251 q251
       cases e251
       replace kF := (HB.out.cell (World.block_lt_of_cell? w _ kF)).trans kF
       replace kE := (HB.out.cell (World.block_lt_of_cell? w _ kE)).trans kE
       replace kD := (HB.out.cell (World.block_lt_of_cell? w _ kD)).trans kD
       replace kC := (HB.out.cell (World.block_lt_of_cell? w _ kC)).trans kC
       replace p251 := eq_true p251
       replace q251 := eq_true q251
       go_wp2_with (first | ((with_reducible refine aV (N := 7) rfl ?_); refine aM ?hg (N := 7) ?hd (cs := #[.int .i64 0, .int .i64 0, .int .i64 0, .int .i64 0]) (t := 170) ?hr ?_; (case hd => rfl); (case hg => rfl); (case hr => first | (go_simp; done) | (go_simp; rfl)); intro ke hg w9 hbox hb; have n0_ := aa.mk (ar (by repeat (first | (with_reducible first | exact HB.out | apply ag | apply af | apply ah) | exact HB.out)) hb); have n1_ := aa.mk (hbox); have n2_ := aa.mk ((by rw [hg]; exact (aq (by repeat (first | (with_reducible first | exact HB.out | apply ag | apply af | apply ah) | exact HB.out))) : w.heap.size ≤ ke)); have n3_ := aa.mk ((by rw [hg]; exact (aq (by repeat (first | (with_reducible first | exact HB.out | apply ag | apply af | apply ah) | exact HB.out))) : w.heap.size ≤ ke)); clear HB; have HB := n0_; have jc := n1_; have F7 := n2_; have zZ := n3_; clear n0_ n1_ n2_ n3_; clear hb hbox hg; have jV : w9.cell? ⟨ke, 0, none⟩ = some (.int .i64 0) := (ai jc.out 0).trans rfl; have jU : w9.cell? ⟨ke, 1, none⟩ = some (.int .i64 0) := (ai jc.out 1).trans rfl; have jT : w9.cell? ⟨ke, 2, none⟩ = some (.int .i64 0) := (ai jc.out 2).trans rfl; have jS : w9.cell? ⟨ke, 3, none⟩ = some (.int .i64 0) := (ai jc.out 3).trans rfl; have jR := aj jc.out 0; have jQ := aj jc.out 1; have jP := aj jc.out 2; have jO := aj jc.out 3))
       go_roundg k1
       case measure => have := HK1.out; omega
       case rel => exact ⟨(x5_1), (wrap64 (x10_1 + 1)), (by first | rfl | (simp; done) | (simp [*]; done)), (by first | rfl | (simp; done) | (simp [*]; done)), H', ⟨by have := HK1.out; omega⟩, ⟨by repeat (first | (with_reducible first | exact HB.out | apply ag | apply af | apply ah | refine ak ?_ zZ.out) | exact HB.out)⟩⟩
     ·rw [if_neg c5] at H
      exact absurd H (by simp)
    ·rw [if_neg c4] at H
     exact absurd H (by simp)
   ·rw [if_neg c3] at H
    have c3b0 : decide (x10_1 < (l0.length : Int)) = false := decide_eq_false c3
    clear c3
    obtain rfl := Option.some.inj H
    go_wp2
    go_ret
    exact ⟨by first | rfl | (simp [av, au] <;> rfl) | (simp [*, av, au] <;> rfl), by repeat (first | (with_reducible first | exact HB.out | apply ag | apply af | apply ah) | exact HB.out)⟩
end Go.Proofs.YtmjlmloomkodpaaGreatDoor.PA
